import Derived.Test.YtppbogklbhfboaaGreatT1
import Derived.Test.YtppbogklbhfboaaGreatTab1
import Derived.Test.YtppbogklbhfboaaGreatE2
set_option linter.unusedVariables false
set_option linter.unusedSimpArgs false
namespace Go.Proofs.YtppbogklbhfboaaGreat.AE
open Go Go.AE Go.Proofs Go.RowKit Go.Maps
set_option linter.unusedVariables false
set_option maxHeartbeats 4000000
set_option maxRecDepth 100000
noncomputable section
def dl.l7 (F:Nat) (ak:Int->Int->Sl->Int->Int->Hp->OA) (fW:Nat->Nat->Nat->Nat->Int->Int->Hp->OA) :Nat->Nat->Nat->Int->Int->Int->Nat->Nat->Int->Int->Hp->OA
 | 0,_,_,_,_,_,_,_,_,_,_=>none
 | nA+1,fb,iF,dM,fq,e_,dc,jo,hQ,fX,H23=>(bif (decide (fX<hQ)) then ((Hp.ldI H23 .i64 dc jo).bind λn36=>(Hp.ldI H23 .i64 dc (jo+1)).bind λn37=>(Hp.ldSl H23 dc (jo+2)).bind λs38=>(ak n36 n37 s38 fX dM H23).bind λr39=>((r39.1).asP).bind λp40=>(if bu H23 r39.2 then ((Hp.ldI r39.2 .i64 dc jo).bind λn41=>(Hp.ldI r39.2 .i64 dc (jo+1)).bind λn42=>(Hp.ldSl r39.2 dc (jo+2)).bind λs43=>(ak n41 n42 s43 fX fq r39.2).bind λr44=>((r44.1).asP).bind λp45=>(Hp.ldI r44.2 .i64 p45.1 p45.2).bind λn46=>(fW fb iF p40.1 p40.2 n46 e_ r44.2).bind λr47=>dl.l7 F ak fW nA fb iF dM fq e_ dc jo hQ (IntKind.i64.wrap (fX+1)) r47.2) else none)) else (some ((.tup []),H23)))
termination_by structural n=>n
def dl.twX (F:Nat) (ak:Int->Int->Sl->Int->Int->Hp->OA) (fW:Nat->Nat->Nat->Nat->Int->Int->Hp->OA) (ac:Nat) (ae:Nat) (ah:Int) (ax:Int) (dZ:Sl) (cQ:Int) (el:Int) (d_:Int) (H:Hp):OA:=(Hp.new H [(.int .i64 ah),(.int .i64 ax),(.sl dZ)]).bind λH9=>(Hp.ldI H9 .i64 H.length 0).bind λn10=>dl.l7 F ak fW F ac ae cQ el d_ H.length 0 n10 0 H9
def dl.tw (F:Nat) (ac:Nat) (ae:Nat) (ah:Int) (ax:Int) (dZ:Sl) (cQ:Int) (el:Int) (d_:Int) (H:Hp):OA:=dl.twX F (bT.tw F) (hO.tw F) ac ae ah ax dZ cQ el d_ H
def dl.lh7 (F:Nat) (ak:Int->Int->Sl->Int->Int->Hp->OA) (fW:Nat->Nat->Nat->Nat->Int->Int->Hp->OA) (ks:List Nat) (n:Nat) (tm:Tm) (H:Hp):OA:=match ks,tm 0,tm 2,tm 3,tm 4,tm 6,tm 12,tm 13 with
 | [],(.ptr fb iF),(.int .i64 dM),(.int .i64 fq),(.int .i64 e_),(.ptr dc jo),(.int .i64 hQ),(.int .i64 fX)=>dl.l7 F ak fW n fb iF dM fq e_ dc jo hQ fX H
 | _,_,_,_,_,_,_,_=>none
theorem dl.lh7_inv {F:Nat} {ak:Int->Int->Sl->Int->Int->Hp->OA} {fW:Nat->Nat->Nat->Nat->Int->Int->Hp->OA} {ks:List Nat} {n:Nat} {tm:Tm} {H:Hp} {r:AV×Hp} (h:dl.lh7 F ak fW ks n tm H=some r):∃ fb iF dM fq e_ dc jo hQ fX,ks=[]/\ee tm [(0,(.ptr fb iF)),(2,(.int .i64 dM)),(3,(.int .i64 fq)),(4,(.int .i64 e_)),(6,(.ptr dc jo)),(12,(.int .i64 hQ)),(13,(.int .i64 fX))]/\dl.l7 F ak fW n fb iF dM fq e_ dc jo hQ fX H=some r:=by
 unfold dl.lh7 at h
 split at h
 ·exact ⟨_,_,_,_,_,_,_,_,_,rfl,⟨‹_›,‹_›,‹_›,‹_›,‹_›,‹_›,‹_›,trivial⟩,h⟩
 ·cases h
def dl.lh (F:Nat) (ak:Int->Int->Sl->Int->Int->Hp->OA) (fW:Nat->Nat->Nat->Nat->Int->Int->Hp->OA) (p:Nat) (ks:List Nat) (n:Nat) (tm:Tm) (H:Hp):OA:=bif p.beq 7 then dl.lh7 F ak fW ks n tm H else (none)
def dl.pn:Nat->List Nat:=eX [(4,[8,12])]
def dl.tb:Nat->List (List Nat):=eX [(4,[[],[],[],[],[1,2,3],[],[],[],[1,2,3,4,5,6,7],[1,2,3,4,5,6,7,8],[1,2,3,4,5,6,7,8,9],[],[0,1,2,3,4,5,6,7,8,9,10,11]])]
def dl.mk (g:Nat->Nat->Int->Int->Sl->Int->Int->Int->Hp->OA) (args:List AV) (H:Hp):OA:=match args with
 | [(.ptr ac ae),(.agg [(.int .i64 ah),(.int .i64 ax),(.sl dZ)]),(.int .i64 cQ),(.int .i64 el),(.int .i64 d_)]=>g ac ae ah ax dZ cQ el d_ H
 | _=>none
def dl.cs (F:Nat) (ak:Int->Int->Sl->Int->Int->Hp->OA) (fW:Nat->Nat->Nat->Nat->Int->Int->Hp->OA):Cs:=[(53,bT.mk ak),(129,hO.mk fW)]
theorem dl.loops (F:Nat) (ak:Int->Int->Sl->Int->Int->Hp->OA) (fW:Nat->Nat->Nat->Nat->Int->Int->Hp->OA):LO (bj (dl.cs F ak fW)) dl.pn (dl.lh F ak fW) F Tryz.f124:=
 (ag.rt (ag.rt (ag.block (ag.loop (λtm H=>et λr h=>by obtain ⟨fb,iF,dM,fq,e_,dc,jo,hQ,fX,hks,e,h⟩:=dl.lh7_inv (show dl.lh7 F ak fW [] 0 tm H=some r from h);cases h) (λk7 tm H r h=>by obtain ⟨fb,iF,dM,fq,e_,dc,jo,hQ,fX,hks,e,h⟩:=dl.lh7_inv (show dl.lh7 F ak fW [] (k7+1) tm H=some r from h);rw [<- ef e];exact Eq.trans (by kernel_rfl) h) λk7=>ag.no))))
theorem dl.eqX (F:Nat) (ak:Int->Int->Sl->Int->Int->Hp->OA) (fW:Nat->Nat->Nat->Nat->Int->Int->Hp->OA) (ac:Nat) (ae:Nat) (ah:Int) (ax:Int) (dZ:Sl) (cQ:Int) (el:Int) (d_:Int) (H:Hp):EX (bj (dl.cs F ak fW)) dl.pn (dl.lh F ak fW) F Tryz.f124 [(.ptr ac ae),(.agg [(.int .i64 ah),(.int .i64 ax),(.sl dZ)]),(.int .i64 cQ),(.int .i64 el),(.int .i64 d_)] H=dl.twX F ak fW ac ae ah ax dZ cQ el d_ H:=by kernel_rfl
theorem dl.k (F:Nat):Ok Tryz.prog 124 (dl.mk (dl.tw F)):=by
 intro args H v H' h
 unfold dl.mk at h
 split at h
 ·exact okT (TB:=dl.tb) Tryz.func124 (bi (bT.k F) (bi (hO.k F) ca)) (dl.loops F (bT.tw F) (hO.tw F)) ((dl.eqX F (bT.tw F) (hO.tw F) _ _ _ _ _ _ _ _ H).trans h) (by kernel_rfl)
 ·cases h
def fB.twX (F:Nat) (pN:Nat->Nat->Int->Int->Sl->Int->Int->Int->Hp->OA) (pO:Nat->Nat->Int->Int->Sl->Int->Int->Int->Hp->OA) (ac:Nat) (ae:Nat) (ah:Int) (cf:Int) (dN:Int) (H:Hp):OA:=(Hp.ldI H .i64 ac (ae+6)).bind λn6=>(Hp.ldI H .i64 ac ((ae+6)+1)).bind λn7=>(Hp.ldSl H ac ((ae+6)+2)).bind λs8=>(pN ac ae n6 n7 s8 ah cf dN H).bind λr9=>(Hp.ldI r9.2 .i64 ac ae).bind λn10=>(Hp.ldI r9.2 .i64 ac (ae+1)).bind λn11=>(Hp.ldSl r9.2 ac (ae+2)).bind λs12=>(pN ac ae n10 n11 s12 ah cf dN r9.2).bind λr13=>(Hp.ldI r13.2 .i64 ac (ae+3)).bind λn14=>(Hp.ldI r13.2 .i64 ac ((ae+3)+1)).bind λn15=>(Hp.ldSl r13.2 ac ((ae+3)+2)).bind λs16=>(pO ac ae n14 n15 s16 cf ah (IntKind.i64.wrap (0 - dN)) r13.2).bind λr17=>some ((.tup []),r17.2)
def fB.tw (F:Nat) (ac:Nat) (ae:Nat) (ah:Int) (cf:Int) (dN:Int) (H:Hp):OA:=fB.twX F (dk.tw F) (dl.tw F) ac ae ah cf dN H
def fB.mk (g:Nat->Nat->Int->Int->Int->Hp->OA) (args:List AV) (H:Hp):OA:=match args with
 | [(.ptr ac ae),(.int .i64 ah),(.int .i64 cf),(.int .i64 dN)]=>g ac ae ah cf dN H
 | _=>none
def fB.cs (F:Nat) (pN:Nat->Nat->Int->Int->Sl->Int->Int->Int->Hp->OA) (pO:Nat->Nat->Int->Int->Sl->Int->Int->Int->Hp->OA):Cs:=[(123,dk.mk pN),(124,dl.mk pO)]
theorem fB.eqX (F:Nat) (pN:Nat->Nat->Int->Int->Sl->Int->Int->Int->Hp->OA) (pO:Nat->Nat->Int->Int->Sl->Int->Int->Int->Hp->OA) (ac:Nat) (ae:Nat) (ah:Int) (cf:Int) (dN:Int) (H:Hp):EX (bj (fB.cs F pN pO)) aY lh0 F Tryz.f102 [(.ptr ac ae),(.int .i64 ah),(.int .i64 cf),(.int .i64 dN)] H=fB.twX F pN pO ac ae ah cf dN H:=by kernel_rfl
theorem fB.k (F:Nat):Ok Tryz.prog 102 (fB.mk (fB.tw F)):=by
 intro args H v H' h
 unfold fB.mk at h
 split at h
 ·exact okT (TB:=aY) Tryz.func102 (bi (dk.k F) (bi (dl.k F) ca)) ag.no ((fB.eqX F (dk.tw F) (dl.tw F) _ _ _ _ _ H).trans h) (by kernel_rfl)
 ·cases h
def il.twX (F:Nat) (pO:Nat->Nat->Int->Int->Sl->Int->Int->Int->Hp->OA) (pN:Nat->Nat->Int->Int->Sl->Int->Int->Int->Hp->OA) (ac:Nat) (ae:Nat) (ah:Int) (cf:Int) (dN:Int) (H:Hp):OA:=(Hp.ldI H .i64 ac (ae+6)).bind λn6=>(Hp.ldI H .i64 ac ((ae+6)+1)).bind λn7=>(Hp.ldSl H ac ((ae+6)+2)).bind λs8=>(pO ac ae n6 n7 s8 ah cf dN H).bind λr9=>(Hp.ldI r9.2 .i64 ac (ae+9)).bind λn10=>(Hp.ldI r9.2 .i64 ac ((ae+9)+1)).bind λn11=>(Hp.ldSl r9.2 ac ((ae+9)+2)).bind λs12=>(pO ac ae n10 n11 s12 ah cf dN r9.2).bind λr13=>(Hp.ldI r13.2 .i64 ac (ae+12)).bind λn14=>(Hp.ldI r13.2 .i64 ac ((ae+12)+1)).bind λn15=>(Hp.ldSl r13.2 ac ((ae+12)+2)).bind λs16=>(pN ac ae n14 n15 s16 cf ah (IntKind.i64.wrap (0 - dN)) r13.2).bind λr17=>some ((.tup []),r17.2)
def il.tw (F:Nat) (ac:Nat) (ae:Nat) (ah:Int) (cf:Int) (dN:Int) (H:Hp):OA:=il.twX F (dl.tw F) (dk.tw F) ac ae ah cf dN H
def il.mk (g:Nat->Nat->Int->Int->Int->Hp->OA) (args:List AV) (H:Hp):OA:=match args with
 | [(.ptr ac ae),(.int .i64 ah),(.int .i64 cf),(.int .i64 dN)]=>g ac ae ah cf dN H
 | _=>none
def il.cs (F:Nat) (pO:Nat->Nat->Int->Int->Sl->Int->Int->Int->Hp->OA) (pN:Nat->Nat->Int->Int->Sl->Int->Int->Int->Hp->OA):Cs:=[(124,dl.mk pO),(123,dk.mk pN)]
theorem il.eqX (F:Nat) (pO:Nat->Nat->Int->Int->Sl->Int->Int->Int->Hp->OA) (pN:Nat->Nat->Int->Int->Sl->Int->Int->Int->Hp->OA) (ac:Nat) (ae:Nat) (ah:Int) (cf:Int) (dN:Int) (H:Hp):EX (bj (il.cs F pO pN)) aY lh0 F Tryz.f120 [(.ptr ac ae),(.int .i64 ah),(.int .i64 cf),(.int .i64 dN)] H=il.twX F pO pN ac ae ah cf dN H:=by kernel_rfl
theorem il.k (F:Nat):Ok Tryz.prog 120 (il.mk (il.tw F)):=by
 intro args H v H' h
 unfold il.mk at h
 split at h
 ·exact okT (TB:=aY) Tryz.func120 (bi (dl.k F) (bi (dk.k F) ca)) ag.no ((il.eqX F (dl.tw F) (dk.tw F) _ _ _ _ _ H).trans h) (by kernel_rfl)
 ·cases h
def ba.j3 (F:Nat) (ak:Int->Int->Sl->Int->Int->Hp->OA) (fY:Int->Int->Hp->OA) (dy:Nat->Nat->Int->Int->Int->Hp->OA) (f_:Nat->Nat->Int->Int->Int->Hp->OA) (C15_:Nat->Nat->Int->Nat->Nat->Int->Hp->OA) (ZI:Nat) (ZJ:Nat) (yW:Int) (Dh:Nat) (ZK:Nat) (yX:Int) (H119:Hp):OA:=C15_ ZI ZJ yW Dh ZK (IntKind.i64.wrap (yX+1)) H119
def ba.l15 (F:Nat) (ak:Int->Int->Sl->Int->Int->Hp->OA) (fY:Int->Int->Hp->OA) (dy:Nat->Nat->Int->Int->Int->Hp->OA) (f_:Nat->Nat->Int->Int->Int->Hp->OA) :Nat->Nat->Nat->Int->Nat->Nat->Int->Hp->OA
 | 0,_,_,_,_,_,_,_=>none
 | PL+1,lS,lT,iq,mH,oS,lC,H61=>(Hp.ldI H61 .i64 mH (oS+1)).bind λn91=>(bif (decide (lC<n91)) then ((Hp.ldB H61 lS (lT+15)).bind λb92=>(bif (!b92) then ((Hp.ldI H61 .i64 mH oS).bind λn93=>(Hp.ldI H61 .i64 mH (oS+1)).bind λn94=>(Hp.ldSl H61 mH (oS+2)).bind λs95=>(ak n93 n94 s95 iq lC H61).bind λr96=>((r96.1).asP).bind λp97=>(if bu H61 r96.2 then ((Hp.ldI r96.2 .i64 p97.1 p97.2).bind λn98=>(Hp.ldI r96.2 .i64 mH oS).bind λn99=>(Hp.ldI r96.2 .i64 mH (oS+1)).bind λn100=>(Hp.ldSl r96.2 mH (oS+2)).bind λs101=>(ak n99 n100 s101 iq iq r96.2).bind λr102=>((r102.1).asP).bind λp103=>(if bu r96.2 r102.2 then ((Hp.ldI r102.2 .i64 p103.1 p103.2).bind λn104=>(fY n98 n104 r102.2).bind λr105=>((r105.1).asI .i64).bind λn106=>(bif (n106 != 0) then ((f_ lS lT lC iq (IntKind.i64.wrap (0 - n106)) r105.2).bind λr107=>ba.j3 F ak fY dy f_ (ba.l15 F ak fY dy f_ PL) lS lT iq mH oS lC r107.2) else (ba.j3 F ak fY dy f_ (ba.l15 F ak fY dy f_ PL) lS lT iq mH oS lC r105.2))) else none)) else none)) else (some ((.tup []),H61)))) else (some ((.tup []),H61)))
termination_by structural n=>n
def ba.j4 (F:Nat) (ak:Int->Int->Sl->Int->Int->Hp->OA) (fY:Int->Int->Hp->OA) (dy:Nat->Nat->Int->Int->Int->Hp->OA) (f_:Nat->Nat->Int->Int->Int->Hp->OA) (ZL:Nat) (ZM:Nat) (ud:Int) (Di:Nat) (ZN:Nat) (H52:Hp):OA:=ba.l15 F ak fY dy f_ F ZL ZM ud Di ZN (IntKind.i64.wrap (ud+1)) H52
def ba.j5 (F:Nat) (ak:Int->Int->Sl->Int->Int->Hp->OA) (fY:Int->Int->Hp->OA) (dy:Nat->Nat->Int->Int->Int->Hp->OA) (f_:Nat->Nat->Int->Int->Int->Hp->OA) (C13_:Nat->Nat->Int->Nat->Nat->Int->Hp->OA) (ZO:Nat) (ZP:Nat) (yY:Int) (xe:Nat) (tZ:Nat) (yZ:Int) (H146:Hp):OA:=C13_ ZO ZP yY xe tZ (IntKind.i64.wrap (yZ+1)) H146
def ba.l13 (F:Nat) (ak:Int->Int->Sl->Int->Int->Hp->OA) (fY:Int->Int->Hp->OA) (dy:Nat->Nat->Int->Int->Int->Hp->OA) (f_:Nat->Nat->Int->Int->Int->Hp->OA) :Nat->Nat->Nat->Int->Nat->Nat->Int->Hp->OA
 | 0,_,_,_,_,_,_,_=>none
 | jy+1,fb,iF,dR,fl,nP,ic,H17=>(Hp.ldI H17 .i64 fl nP).bind λn120=>(bif (decide (ic<n120)) then ((Hp.ldB H17 fb (iF+15)).bind λb121=>(bif (!b121) then ((Hp.ldI H17 .i64 fl nP).bind λn122=>(Hp.ldI H17 .i64 fl (nP+1)).bind λn123=>(Hp.ldSl H17 fl (nP+2)).bind λs124=>(ak n122 n123 s124 ic dR H17).bind λr125=>((r125.1).asP).bind λp126=>(if bu H17 r125.2 then ((Hp.ldI r125.2 .i64 p126.1 p126.2).bind λn127=>(Hp.ldI r125.2 .i64 fl nP).bind λn128=>(Hp.ldI r125.2 .i64 fl (nP+1)).bind λn129=>(Hp.ldSl r125.2 fl (nP+2)).bind λs130=>(ak n128 n129 s130 dR dR r125.2).bind λr131=>((r131.1).asP).bind λp132=>(if bu r125.2 r131.2 then ((Hp.ldI r131.2 .i64 p132.1 p132.2).bind λn133=>(fY n127 n133 r131.2).bind λr134=>((r134.1).asI .i64).bind λn135=>(bif (n135 != 0) then ((dy fb iF ic dR (IntKind.i64.wrap (0 - n135)) r134.2).bind λr136=>ba.j5 F ak fY dy f_ (ba.l13 F ak fY dy f_ jy) fb iF dR fl nP ic r136.2) else (ba.j5 F ak fY dy f_ (ba.l13 F ak fY dy f_ jy) fb iF dR fl nP ic r134.2))) else none)) else none)) else (ba.j4 F ak fY dy f_ fb iF dR fl nP H17))) else (ba.j4 F ak fY dy f_ fb iF dR fl nP H17))
termination_by structural n=>n
def ba.twX (F:Nat) (ak:Int->Int->Sl->Int->Int->Hp->OA) (fY:Int->Int->Hp->OA) (dy:Nat->Nat->Int->Int->Int->Hp->OA) (f_:Nat->Nat->Int->Int->Int->Hp->OA) (ac:Nat) (ae:Nat) (ah:Int) (H:Hp):OA:=(Hp.ldI H .i64 ac (ae+6)).bind λn4=>(Hp.ldI H .i64 ac ((ae+6)+1)).bind λn5=>(Hp.ldSl H ac ((ae+6)+2)).bind λs6=>(Hp.new H [.int .i64 0,.int .i64 0,.sl ⟨none,0,.ex 0⟩]).bind λH7=>(Hp.st H7 H.length 0 (.int .i64 n4)).bind λH8=>(Hp.st H8 H.length (0+1) (.int .i64 n5)).bind λH9=>(Hp.st H9 H.length (0+1+1) (.sl s6)).bind λH10=>ba.l13 F ak fY dy f_ F ac ae ah H.length 0 (IntKind.i64.wrap (ah+1)) H10
def ba.tw (F:Nat) (ac:Nat) (ae:Nat) (ah:Int) (H:Hp):OA:=ba.twX F (bT.tw F) (ik.tw F) (fB.tw F) (il.tw F) ac ae ah H
def ba.lh13 (F:Nat) (ak:Int->Int->Sl->Int->Int->Hp->OA) (fY:Int->Int->Hp->OA) (dy:Nat->Nat->Int->Int->Int->Hp->OA) (f_:Nat->Nat->Int->Int->Int->Hp->OA) (ks:List Nat) (n:Nat) (tm:Tm) (H:Hp):OA:=match ks,tm 0,tm 1,tm 4,tm 5 with
 | [],(.ptr fb iF),(.int .i64 dR),(.ptr fl nP),(.int .i64 ic)=>ba.l13 F ak fY dy f_ n fb iF dR fl nP ic H
 | _,_,_,_,_=>none
theorem ba.lh13_inv {F:Nat} {ak:Int->Int->Sl->Int->Int->Hp->OA} {fY:Int->Int->Hp->OA} {dy:Nat->Nat->Int->Int->Int->Hp->OA} {f_:Nat->Nat->Int->Int->Int->Hp->OA} {ks:List Nat} {n:Nat} {tm:Tm} {H:Hp} {r:AV×Hp} (h:ba.lh13 F ak fY dy f_ ks n tm H=some r):∃ fb iF dR fl nP ic,ks=[]/\ee tm [(0,(.ptr fb iF)),(1,(.int .i64 dR)),(4,(.ptr fl nP)),(5,(.int .i64 ic))]/\ba.l13 F ak fY dy f_ n fb iF dR fl nP ic H=some r:=by
 unfold ba.lh13 at h
 split at h
 ·exact ⟨_,_,_,_,_,_,rfl,⟨‹_›,‹_›,‹_›,‹_›,trivial⟩,h⟩
 ·cases h
def ba.lh15 (F:Nat) (ak:Int->Int->Sl->Int->Int->Hp->OA) (fY:Int->Int->Hp->OA) (dy:Nat->Nat->Int->Int->Int->Hp->OA) (f_:Nat->Nat->Int->Int->Int->Hp->OA) (ks:List Nat) (n:Nat) (tm:Tm) (H:Hp):OA:=match ks,tm 0,tm 1,tm 4,tm 7 with
 | [],(.ptr lS lT),(.int .i64 iq),(.ptr mH oS),(.int .i64 lC)=>ba.l15 F ak fY dy f_ n lS lT iq mH oS lC H
 | _,_,_,_,_=>none
theorem ba.lh15_inv {F:Nat} {ak:Int->Int->Sl->Int->Int->Hp->OA} {fY:Int->Int->Hp->OA} {dy:Nat->Nat->Int->Int->Int->Hp->OA} {f_:Nat->Nat->Int->Int->Int->Hp->OA} {ks:List Nat} {n:Nat} {tm:Tm} {H:Hp} {r:AV×Hp} (h:ba.lh15 F ak fY dy f_ ks n tm H=some r):∃ lS lT iq mH oS lC,ks=[]/\ee tm [(0,(.ptr lS lT)),(1,(.int .i64 iq)),(4,(.ptr mH oS)),(7,(.int .i64 lC))]/\ba.l15 F ak fY dy f_ n lS lT iq mH oS lC H=some r:=by
 unfold ba.lh15 at h
 split at h
 ·exact ⟨_,_,_,_,_,_,rfl,⟨‹_›,‹_›,‹_›,‹_›,trivial⟩,h⟩
 ·cases h
def ba.lh (F:Nat) (ak:Int->Int->Sl->Int->Int->Hp->OA) (fY:Int->Int->Hp->OA) (dy:Nat->Nat->Int->Int->Int->Hp->OA) (f_:Nat->Nat->Int->Int->Int->Hp->OA) (p:Nat) (ks:List Nat) (n:Nat) (tm:Tm) (H:Hp):OA:=bif p.beq 15 then ba.lh15 F ak fY dy f_ ks n tm H else (bif p.beq 13 then ba.lh13 F ak fY dy f_ ks n tm H else (none))
def ba.pn:Nat->List Nat:=eX [(4,[12]),(10,[12])]
def ba.tb:Nat->List (List Nat):=eX [(4,[[],[],[],[0,1,2],[0,1,2,3],[0,1,2,3,4],[],[],[],[0,1,2,3,6,7,8],[0,1,2,3,6,7,8,9],[0,1,2,3,6,7,8,9,10],[0,1,2,3,4,5,6,7,8,9,10,11],[0,1,2,3,4,5,6,7,8,9,10,11,12]]),(10,[[],[],[],[0,1,2],[0,1,2,3],[0,1,2,3,4],[],[],[],[0,1,2,3,6,7,8],[0,1,2,3,6,7,8,9],[0,1,2,3,6,7,8,9,10],[0,1,2,3,4,5,6,7,8,9,10,11],[0,1,2,3,4,5,6,7,8,9,10,11,12]])]
def ba.mk (g:Nat->Nat->Int->Hp->OA) (args:List AV) (H:Hp):OA:=match args with
 | [(.ptr ac ae),(.int .i64 ah)]=>g ac ae ah H
 | _=>none
def ba.cs (F:Nat) (ak:Int->Int->Sl->Int->Int->Hp->OA) (fY:Int->Int->Hp->OA) (dy:Nat->Nat->Int->Int->Int->Hp->OA) (f_:Nat->Nat->Int->Int->Int->Hp->OA):Cs:=[(53,bT.mk ak),(119,ik.mk fY),(102,fB.mk dy),(120,il.mk f_)]
theorem ba.loops (F:Nat) (ak:Int->Int->Sl->Int->Int->Hp->OA) (fY:Int->Int->Hp->OA) (dy:Nat->Nat->Int->Int->Int->Hp->OA) (f_:Nat->Nat->Int->Int->Int->Hp->OA):LO (bj (ba.cs F ak fY dy f_)) ba.pn (ba.lh F ak fY dy f_) F Tryz.f99:=
 (ag.rt (ag.seq (ag.rt (ag.block (ag.loop (λtm H=>et λr h=>by obtain ⟨fb,iF,dR,fl,nP,ic,hks,e,h⟩:=ba.lh13_inv (show ba.lh13 F ak fY dy f_ [] 0 tm H=some r from h);cases h) (λk13 tm H r h=>by obtain ⟨fb,iF,dR,fl,nP,ic,hks,e,h⟩:=ba.lh13_inv (show ba.lh13 F ak fY dy f_ [] (k13+1) tm H=some r from h);rw [<- ef e];exact Eq.trans (by kernel_rfl) h) λk13=>ag.no))) (ag.rt (ag.block (ag.loop (λtm H=>et λr h=>by obtain ⟨lS,lT,iq,mH,oS,lC,hks,e,h⟩:=ba.lh15_inv (show ba.lh15 F ak fY dy f_ [] 0 tm H=some r from h);cases h) (λk15 tm H r h=>by obtain ⟨lS,lT,iq,mH,oS,lC,hks,e,h⟩:=ba.lh15_inv (show ba.lh15 F ak fY dy f_ [] (k15+1) tm H=some r from h);rw [<- ef e];exact Eq.trans (by kernel_rfl) h) λk15=>ag.no)))))
theorem ba.eqX (F:Nat) (ak:Int->Int->Sl->Int->Int->Hp->OA) (fY:Int->Int->Hp->OA) (dy:Nat->Nat->Int->Int->Int->Hp->OA) (f_:Nat->Nat->Int->Int->Int->Hp->OA) (ac:Nat) (ae:Nat) (ah:Int) (H:Hp):EX (bj (ba.cs F ak fY dy f_)) ba.pn (ba.lh F ak fY dy f_) F Tryz.f99 [(.ptr ac ae),(.int .i64 ah)] H=ba.twX F ak fY dy f_ ac ae ah H:=by kernel_rfl
theorem ba.k (F:Nat):Ok Tryz.prog 99 (ba.mk (ba.tw F)):=by
 intro args H v H' h
 unfold ba.mk at h
 split at h
 ·exact okT (TB:=ba.tb) Tryz.func99 (bi (bT.k F) (bi (ik.k F) (bi (fB.k F) (bi (il.k F) ca)))) (ba.loops F (bT.tw F) (ik.tw F) (fB.tw F) (il.tw F)) ((ba.eqX F (bT.tw F) (ik.tw F) (fB.tw F) (il.tw F) _ _ _ H).trans h) (by kernel_rfl)
 ·cases h
def jG.twX (F:Nat) (ac:Int) (H:Hp):OA:=some ((.bool (ac != 0)),H)
def jG.tw (F:Nat) (ac:Int) (H:Hp):OA:=jG.twX F ac H
def jG.mk (g:Int->Hp->OA) (args:List AV) (H:Hp):OA:=match args with
 | [(.int .i64 ac)]=>g ac H
 | _=>none
theorem jG.eqX (F:Nat) (ac:Int) (H:Hp):EX (bj []) aY lh0 F Tryz.f121 [(.int .i64 ac)] H=jG.twX F ac H:=by kernel_rfl
theorem jG.k (F:Nat):Ok Tryz.prog 121 (jG.mk (jG.tw F)):=by
 intro args H v H' h
 unfold jG.mk at h
 split at h
 ·exact okT (TB:=aY) Tryz.func121 ca ag.no ((jG.eqX F _ H).trans h) (by kernel_rfl)
 ·cases h
def eG.l13 (F:Nat) (lD:Int->Hp->OA) :Nat->Sl->Int->Int->Hp->OA
 | 0,_,_,_,_=>none
 | jy+1,na,iA,gu,H6=>(bif (decide (gu<iA)) then ((Sl.idx na gu 1).bind λp11=>(Hp.ldI H6 .i64 p11.1 p11.2).bind λn12=>(lD n12 H6).bind λr13=>((r13.1).asB).bind λb14=>(bif b14 then (some ((.int .i64 gu),r13.2)) else (eG.l13 F lD jy na iA (IntKind.i64.wrap (gu+1)) r13.2))) else (some ((.int .i64 (-1)),H6)))
def eG.twX (F:Nat) (lD:Int->Hp->OA) (ac:Sl) (H:Hp):OA:=eG.l13 F lD F ac (ac.n:Int) 0 H
def eG.tw (F:Nat) (ac:Sl) (H:Hp):OA:=eG.twX F (jG.tw F) ac H
def eG.lh13 (F:Nat) (lD:Int->Hp->OA) (ks:List Nat) (n:Nat) (tm:Tm) (H:Hp):OA:=match ks,tm 0,tm 1,tm 7,tm 8 with
 | [],(.sl na),(.fn 121 []),(.int .i64 iA),(.int .i64 gu)=>eG.l13 F lD n na iA gu H
 | _,_,_,_,_=>none
theorem eG.lh13_inv {F:Nat} {lD:Int->Hp->OA} {ks:List Nat} {n:Nat} {tm:Tm} {H:Hp} {r:AV×Hp} (h:eG.lh13 F lD ks n tm H=some r):∃ na iA gu,ks=[]/\ee tm [(0,(.sl na)),(1,(.fn 121 [])),(7,(.int .i64 iA)),(8,(.int .i64 gu))]/\eG.l13 F lD n na iA gu H=some r:=by
 unfold eG.lh13 at h
 split at h
 ·exact ⟨_,_,_,rfl,⟨‹_›,‹_›,‹_›,‹_›,trivial⟩,h⟩
 ·cases h
def eG.lh (F:Nat) (lD:Int->Hp->OA) (p:Nat) (ks:List Nat) (n:Nat) (tm:Tm) (H:Hp):OA:=bif p.beq 13 then eG.lh13 F lD ks n tm H else (none)
def eG.mk (g:Sl->Hp->OA) (args:List AV) (H:Hp):OA:=match args with
 | [(.sl ac),(.fn 121 [])]=>g ac H
 | _=>none
def eG.cs (F:Nat) (lD:Int->Hp->OA):Cs:=[(121,jG.mk lD)]
theorem eG.loops (F:Nat) (lD:Int->Hp->OA):LO (bj (eG.cs F lD)) aY (eG.lh F lD) F Tryz.f103:=
 (ag.rt (ag.lt (ag.rt (ag.block (ag.loop (λtm H=>et λr h=>by obtain ⟨na,iA,gu,hks,e,h⟩:=eG.lh13_inv (show eG.lh13 F lD [] 0 tm H=some r from h);cases h) (λk13 tm H r h=>by obtain ⟨na,iA,gu,hks,e,h⟩:=eG.lh13_inv (show eG.lh13 F lD [] (k13+1) tm H=some r from h);rw [<- ef e];exact Eq.trans (by kernel_rfl) h) λk13=>ag.no)))))
theorem eG.eqX (F:Nat) (lD:Int->Hp->OA) (ac:Sl) (H:Hp):EX (bj (eG.cs F lD)) aY (eG.lh F lD) F Tryz.f103 [(.sl ac),(.fn 121 [])] H=eG.twX F lD ac H:=by kernel_rfl
theorem eG.k (F:Nat):Ok Tryz.prog 103 (eG.mk (eG.tw F)):=by
 intro args H v H' h
 unfold eG.mk at h
 split at h
 ·exact okT (TB:=aY) Tryz.func103 (bi (jG.k F) ca) (eG.loops F (jG.tw F)) ((eG.eqX F (jG.tw F) _ H).trans h) (by kernel_rfl)
 ·cases h
def iW.twX (F:Nat) (y_:Sl->Hp->OA) (ac:Sl) (H:Hp):OA:=(y_ ac H).bind λr2=>((r2.1).asI .i64).bind λn3=>some ((.bool (decide (n3>=0))),r2.2)
def iW.tw (F:Nat) (ac:Sl) (H:Hp):OA:=iW.twX F (eG.tw F) ac H
def iW.mk (g:Sl->Hp->OA) (args:List AV) (H:Hp):OA:=match args with
 | [(.sl ac),(.fn 121 [])]=>g ac H
 | _=>none
def iW.cs (F:Nat) (y_:Sl->Hp->OA):Cs:=[(103,eG.mk y_)]
theorem iW.eqX (F:Nat) (y_:Sl->Hp->OA) (ac:Sl) (H:Hp):EX (bj (iW.cs F y_)) aY lh0 F Tryz.f78 [(.sl ac),(.fn 121 [])] H=iW.twX F y_ ac H:=by kernel_rfl
theorem iW.k (F:Nat):Ok Tryz.prog 78 (iW.mk (iW.tw F)):=by
 intro args H v H' h
 unfold iW.mk at h
 split at h
 ·exact okT (TB:=aY) Tryz.func78 (bi (eG.k F) ca) ag.no ((iW.eqX F (eG.tw F) _ H).trans h) (by kernel_rfl)
 ·cases h
def dg.j1 (F:Nat) (ak:Int->Int->Sl->Int->Int->Hp->OA) (cg:Int->Int->Sl->Int->Hp->OA) (kD:Sl->Hp->OA) (ue:Int) (za:Nat) (GG:Nat) (H34:Hp):OA:=(Hp.ldI H34 .i64 za GG).bind λn35=>(Hp.ldI H34 .i64 za (GG+1)).bind λn36=>(Hp.ldSl H34 za (GG+2)).bind λs37=>(cg n35 n36 s37 ue H34).bind λr38=>((r38.1).asSl).bind λs39=>(Sl.cut s39 1 (IntKind.i64.wrap (ue+1)) (s39.n:Int)).bind λs40=>(kD s40 r38.2).bind λr41=>((r41.1).asB).bind λb42=>some ((.bool (!b42)),r41.2)
def dg.l29 (F:Nat) (ak:Int->Int->Sl->Int->Int->Hp->OA) (cg:Int->Int->Sl->Int->Hp->OA) (kD:Sl->Hp->OA) :Nat->Int->Nat->Nat->Int->Hp->OA
 | 0,_,_,_,_,_=>none
 | fi+1,dR,eY,ic,nQ,H18=>(Hp.ldI H18 .i64 eY ic).bind λn43=>(bif (decide (nQ<n43)) then ((Hp.ldI H18 .i64 eY ic).bind λn44=>(Hp.ldI H18 .i64 eY (ic+1)).bind λn45=>(Hp.ldSl H18 eY (ic+2)).bind λs46=>(ak n44 n45 s46 nQ dR H18).bind λr47=>((r47.1).asP).bind λp48=>(Hp.ldI r47.2 .i64 p48.1 p48.2).bind λn49=>(bif (n49 != 0) then (some ((.bool false),r47.2)) else (dg.l29 F ak cg kD fi dR eY ic (IntKind.i64.wrap (nQ+1)) r47.2))) else (dg.j1 F ak cg kD dR eY ic H18))
termination_by structural n=>n
def dg.twX (F:Nat) (ak:Int->Int->Sl->Int->Int->Hp->OA) (cg:Int->Int->Sl->Int->Hp->OA) (kD:Sl->Hp->OA) (ac:Nat) (ae:Nat) (ah:Int) (H:Hp):OA:=(Hp.ldI H .i64 ac (ae+6)).bind λn4=>(Hp.ldI H .i64 ac ((ae+6)+1)).bind λn5=>(Hp.ldSl H ac ((ae+6)+2)).bind λs6=>(Hp.new H [.int .i64 0,.int .i64 0,.sl ⟨none,0,.ex 0⟩]).bind λH7=>(Hp.st H7 H.length 0 (.int .i64 n4)).bind λH8=>(Hp.st H8 H.length (0+1) (.int .i64 n5)).bind λH9=>(Hp.st H9 H.length (0+1+1) (.sl s6)).bind λH10=>dg.l29 F ak cg kD F ah H.length 0 (IntKind.i64.wrap (ah+1)) H10
def dg.tw (F:Nat) (ac:Nat) (ae:Nat) (ah:Int) (H:Hp):OA:=dg.twX F (bT.tw F) (fm.tw F) (iW.tw F) ac ae ah H
def dg.lh29 (F:Nat) (ak:Int->Int->Sl->Int->Int->Hp->OA) (cg:Int->Int->Sl->Int->Hp->OA) (kD:Sl->Hp->OA) (ks:List Nat) (n:Nat) (tm:Tm) (H:Hp):OA:=match ks,tm 1,tm 5,tm 6 with
 | [],(.int .i64 dR),(.ptr eY ic),(.int .i64 nQ)=>dg.l29 F ak cg kD n dR eY ic nQ H
 | _,_,_,_=>none
theorem dg.lh29_inv {F:Nat} {ak:Int->Int->Sl->Int->Int->Hp->OA} {cg:Int->Int->Sl->Int->Hp->OA} {kD:Sl->Hp->OA} {ks:List Nat} {n:Nat} {tm:Tm} {H:Hp} {r:AV×Hp} (h:dg.lh29 F ak cg kD ks n tm H=some r):∃ dR eY ic nQ,ks=[]/\ee tm [(1,(.int .i64 dR)),(5,(.ptr eY ic)),(6,(.int .i64 nQ))]/\dg.l29 F ak cg kD n dR eY ic nQ H=some r:=by
 unfold dg.lh29 at h
 split at h
 ·exact ⟨_,_,_,_,rfl,⟨‹_›,‹_›,‹_›,trivial⟩,h⟩
 ·cases h
def dg.lh (F:Nat) (ak:Int->Int->Sl->Int->Int->Hp->OA) (cg:Int->Int->Sl->Int->Hp->OA) (kD:Sl->Hp->OA) (p:Nat) (ks:List Nat) (n:Nat) (tm:Tm) (H:Hp):OA:=bif p.beq 29 then dg.lh29 F ak cg kD ks n tm H else (none)
def dg.mk (g:Nat->Nat->Int->Hp->OA) (args:List AV) (H:Hp):OA:=match args with
 | [(.ptr ac ae),(.int .i64 ah)]=>g ac ae ah H
 | _=>none
def dg.cs (F:Nat) (ak:Int->Int->Sl->Int->Int->Hp->OA) (cg:Int->Int->Sl->Int->Hp->OA) (kD:Sl->Hp->OA):Cs:=[(53,bT.mk ak),(118,fm.mk cg),(78,iW.mk kD)]
theorem dg.loops (F:Nat) (ak:Int->Int->Sl->Int->Int->Hp->OA) (cg:Int->Int->Sl->Int->Hp->OA) (kD:Sl->Hp->OA):LO (bj (dg.cs F ak cg kD)) aY (dg.lh F ak cg kD) F Tryz.f100:=
 (ag.rt (ag.rt (ag.lt (ag.rt (ag.block (ag.loop (λtm H=>et λr h=>by obtain ⟨dR,eY,ic,nQ,hks,e,h⟩:=dg.lh29_inv (show dg.lh29 F ak cg kD [] 0 tm H=some r from h);cases h) (λk29 tm H r h=>by obtain ⟨dR,eY,ic,nQ,hks,e,h⟩:=dg.lh29_inv (show dg.lh29 F ak cg kD [] (k29+1) tm H=some r from h);rw [<- ef e];exact Eq.trans (by kernel_rfl) h) λk29=>ag.no))))))
theorem dg.eqX (F:Nat) (ak:Int->Int->Sl->Int->Int->Hp->OA) (cg:Int->Int->Sl->Int->Hp->OA) (kD:Sl->Hp->OA) (ac:Nat) (ae:Nat) (ah:Int) (H:Hp):EX (bj (dg.cs F ak cg kD)) aY (dg.lh F ak cg kD) F Tryz.f100 [(.ptr ac ae),(.int .i64 ah)] H=dg.twX F ak cg kD ac ae ah H:=by kernel_rfl
theorem dg.k (F:Nat):Ok Tryz.prog 100 (dg.mk (dg.tw F)):=by
 intro args H v H' h
 unfold dg.mk at h
 split at h
 ·exact okT (TB:=aY) Tryz.func100 (bi (bT.k F) (bi (fm.k F) (bi (iW.k F) ca))) (dg.loops F (bT.tw F) (fm.tw F) (iW.tw F)) ((dg.eqX F (bT.tw F) (fm.tw F) (iW.tw F) _ _ _ H).trans h) (by kernel_rfl)
 ·cases h
def je.twX (F:Nat) (ak:Int->Int->Sl->Int->Int->Hp->OA) (ac:Int) (ap:Nat) (ah:Nat) (cf:Nat) (bS:Nat) (H:Hp):OA:=(Hp.ldI H .i64 ap ah).bind λn6=>(Hp.ldI H .i64 ap (ah+1)).bind λn7=>(Hp.ldSl H ap (ah+2)).bind λs8=>(Hp.ldI H .i64 cf bS).bind λn9=>(Hp.ldI H .i64 cf bS).bind λn10=>(ak n6 n7 s8 n9 n10 H).bind λr11=>((r11.1).asP).bind λp12=>(Hp.ldI r11.2 .i64 p12.1 p12.2).bind λn13=>(if n13=0 then none else (some ((.bool ((Int.tmod ac n13) != 0)),r11.2)))
def je.tw (F:Nat) (ac:Int) (ap:Nat) (ah:Nat) (cf:Nat) (bS:Nat) (H:Hp):OA:=je.twX F (bT.tw F) ac ap ah cf bS H
def je.mk (g:Int->Nat->Nat->Nat->Nat->Hp->OA) (args:List AV) (H:Hp):OA:=match args with
 | [(.int .i64 ac),(.ptr ap ah),(.ptr cf bS)]=>g ac ap ah cf bS H
 | _=>none
def je.cs (F:Nat) (ak:Int->Int->Sl->Int->Int->Hp->OA):Cs:=[(53,bT.mk ak)]
theorem je.eqX (F:Nat) (ak:Int->Int->Sl->Int->Int->Hp->OA) (ac:Int) (ap:Nat) (ah:Nat) (cf:Nat) (bS:Nat) (H:Hp):EX (bj (je.cs F ak)) aY lh0 F Tryz.f122 [(.int .i64 ac),(.ptr ap ah),(.ptr cf bS)] H=je.twX F ak ac ap ah cf bS H:=by kernel_rfl
theorem je.k (F:Nat):Ok Tryz.prog 122 (je.mk (je.tw F)):=by
 intro args H v H' h
 unfold je.mk at h
 split at h
 ·exact okT (TB:=aY) Tryz.func122 (bi (bT.k F) ca) ag.no ((je.eqX F (bT.tw F) _ _ _ _ _ H).trans h) (by kernel_rfl)
 ·cases h
def eH.l13 (F:Nat) (lE:Int->Nat->Nat->Nat->Nat->Hp->OA) :Nat->Sl->Nat->Nat->Nat->Nat->Int->Int->Hp->OA
 | 0,_,_,_,_,_,_,_,_=>none
 | jy+1,jj,ap,ah,ax,dZ,oT,mI,H10=>(bif (decide (mI<oT)) then ((Sl.idx jj mI 1).bind λp15=>(Hp.ldI H10 .i64 p15.1 p15.2).bind λn16=>(lE n16 ap ah ax dZ H10).bind λr17=>((r17.1).asB).bind λb18=>(bif b18 then (some ((.int .i64 mI),r17.2)) else (eH.l13 F lE jy jj ap ah ax dZ oT (IntKind.i64.wrap (mI+1)) r17.2))) else (some ((.int .i64 (-1)),H10)))
termination_by structural n=>n
def eH.twX (F:Nat) (lE:Int->Nat->Nat->Nat->Nat->Hp->OA) (ac:Sl) (ap:Nat) (ah:Nat) (ax:Nat) (dZ:Nat) (H:Hp):OA:=eH.l13 F lE F ac ap ah ax dZ (ac.n:Int) 0 H
def eH.tw (F:Nat) (ac:Sl) (ap:Nat) (ah:Nat) (ax:Nat) (dZ:Nat) (H:Hp):OA:=eH.twX F (je.tw F) ac ap ah ax dZ H
def eH.lh13 (F:Nat) (lE:Int->Nat->Nat->Nat->Nat->Hp->OA) (ks:List Nat) (n:Nat) (tm:Tm) (H:Hp):OA:=match ks,tm 0,tm 1,tm 7,tm 8 with
 | [],(.sl jj),(.fn 122 [(.ptr ap ah),(.ptr ax dZ)]),(.int .i64 oT),(.int .i64 mI)=>eH.l13 F lE n jj ap ah ax dZ oT mI H
 | _,_,_,_,_=>none
theorem eH.lh13_inv {F:Nat} {lE:Int->Nat->Nat->Nat->Nat->Hp->OA} {ks:List Nat} {n:Nat} {tm:Tm} {H:Hp} {r:AV×Hp} (h:eH.lh13 F lE ks n tm H=some r):∃ jj ap ah ax dZ oT mI,ks=[]/\ee tm [(0,(.sl jj)),(1,(.fn 122 [(.ptr ap ah),(.ptr ax dZ)])),(7,(.int .i64 oT)),(8,(.int .i64 mI))]/\eH.l13 F lE n jj ap ah ax dZ oT mI H=some r:=by
 unfold eH.lh13 at h
 split at h
 ·exact ⟨_,_,_,_,_,_,_,rfl,⟨‹_›,‹_›,‹_›,‹_›,trivial⟩,h⟩
 ·cases h
def eH.lh (F:Nat) (lE:Int->Nat->Nat->Nat->Nat->Hp->OA) (p:Nat) (ks:List Nat) (n:Nat) (tm:Tm) (H:Hp):OA:=bif p.beq 13 then eH.lh13 F lE ks n tm H else (none)
def eH.mk (g:Sl->Nat->Nat->Nat->Nat->Hp->OA) (args:List AV) (H:Hp):OA:=match args with
 | [(.sl ac),(.fn 122 [(.ptr ap ah),(.ptr ax dZ)])]=>g ac ap ah ax dZ H
 | _=>none
def eH.cs (F:Nat) (lE:Int->Nat->Nat->Nat->Nat->Hp->OA):Cs:=[(122,je.mk lE)]
theorem eH.loops (F:Nat) (lE:Int->Nat->Nat->Nat->Nat->Hp->OA):LO (bj (eH.cs F lE)) aY (eH.lh F lE) F Tryz.f103:=
 (ag.rt (ag.lt (ag.rt (ag.block (ag.loop (λtm H=>et λr h=>by obtain ⟨jj,ap,ah,ax,dZ,oT,mI,hks,e,h⟩:=eH.lh13_inv (show eH.lh13 F lE [] 0 tm H=some r from h);cases h) (λk13 tm H r h=>by obtain ⟨jj,ap,ah,ax,dZ,oT,mI,hks,e,h⟩:=eH.lh13_inv (show eH.lh13 F lE [] (k13+1) tm H=some r from h);rw [<- ef e];exact Eq.trans (by kernel_rfl) h) λk13=>ag.no)))))
theorem eH.eqX (F:Nat) (lE:Int->Nat->Nat->Nat->Nat->Hp->OA) (ac:Sl) (ap:Nat) (ah:Nat) (ax:Nat) (dZ:Nat) (H:Hp):EX (bj (eH.cs F lE)) aY (eH.lh F lE) F Tryz.f103 [(.sl ac),(.fn 122 [(.ptr ap ah),(.ptr ax dZ)])] H=eH.twX F lE ac ap ah ax dZ H:=by kernel_rfl
theorem eH.k (F:Nat):Ok Tryz.prog 103 (eH.mk (eH.tw F)):=by
 intro args H v H' h
 unfold eH.mk at h
 split at h
 ·exact okT (TB:=aY) Tryz.func103 (bi (je.k F) ca) (eH.loops F (je.tw F)) ((eH.eqX F (je.tw F) _ _ _ _ _ H).trans h) (by kernel_rfl)
 ·cases h
def jf.twX (F:Nat) (zb:Sl->Nat->Nat->Nat->Nat->Hp->OA) (ac:Sl) (ap:Nat) (ah:Nat) (ax:Nat) (dZ:Nat) (H:Hp):OA:=(zb ac ap ah ax dZ H).bind λr6=>((r6.1).asI .i64).bind λn7=>some ((.bool (decide (n7>=0))),r6.2)
def jf.tw (F:Nat) (ac:Sl) (ap:Nat) (ah:Nat) (ax:Nat) (dZ:Nat) (H:Hp):OA:=jf.twX F (eH.tw F) ac ap ah ax dZ H
def jf.mk (g:Sl->Nat->Nat->Nat->Nat->Hp->OA) (args:List AV) (H:Hp):OA:=match args with
 | [(.sl ac),(.fn 122 [(.ptr ap ah),(.ptr ax dZ)])]=>g ac ap ah ax dZ H
 | _=>none
def jf.cs (F:Nat) (zb:Sl->Nat->Nat->Nat->Nat->Hp->OA):Cs:=[(103,eH.mk zb)]
theorem jf.eqX (F:Nat) (zb:Sl->Nat->Nat->Nat->Nat->Hp->OA) (ac:Sl) (ap:Nat) (ah:Nat) (ax:Nat) (dZ:Nat) (H:Hp):EX (bj (jf.cs F zb)) aY lh0 F Tryz.f78 [(.sl ac),(.fn 122 [(.ptr ap ah),(.ptr ax dZ)])] H=jf.twX F zb ac ap ah ax dZ H:=by kernel_rfl
theorem jf.k (F:Nat):Ok Tryz.prog 78 (jf.mk (jf.tw F)):=by
 intro args H v H' h
 unfold jf.mk at h
 split at h
 ·exact okT (TB:=aY) Tryz.func78 (bi (eH.k F) ca) ag.no ((jf.eqX F (eH.tw F) _ _ _ _ _ H).trans h) (by kernel_rfl)
 ·cases h
def dG.l29 (F:Nat) (cg:Int->Int->Sl->Int->Hp->OA) (lF:Sl->Nat->Nat->Nat->Nat->Hp->OA) :Nat->Nat->Nat->Nat->Nat->Int->Hp->OA
 | 0,_,_,_,_,_,_=>none
 | fi+1,eZ,fq,nX,kj,gf,H22=>(Hp.ldI H22 .i64 nX kj).bind λn33=>(bif (decide (gf<n33)) then ((Hp.ldI H22 .i64 nX kj).bind λn34=>(Hp.ldI H22 .i64 nX (kj+1)).bind λn35=>(Hp.ldSl H22 nX (kj+2)).bind λs36=>(cg n34 n35 s36 gf H22).bind λr37=>((r37.1).asSl).bind λs38=>(if bu H22 r37.2 then ((Hp.ldI r37.2 .i64 eZ fq).bind λn39=>(Sl.cut s38 1 (IntKind.i64.wrap (n39+1)) (s38.n:Int)).bind λs40=>(lF s40 nX kj eZ fq r37.2).bind λr41=>((r41.1).asB).bind λb42=>(bif b42 then (some ((.int .i64 gf),r41.2)) else (dG.l29 F cg lF fi eZ fq nX kj (IntKind.i64.wrap (gf+1)) r41.2))) else none)) else (some ((.int .i64 (-1)),H22)))
termination_by structural n=>n
def dG.twX (F:Nat) (cg:Int->Int->Sl->Int->Hp->OA) (lF:Sl->Nat->Nat->Nat->Nat->Hp->OA) (ac:Nat) (ae:Nat) (ah:Int) (H:Hp):OA:=(Hp.new H [(.int .i64 ah)]).bind λH4=>(Hp.ldI H4 .i64 ac (ae+6)).bind λn5=>(Hp.ldI H4 .i64 ac ((ae+6)+1)).bind λn6=>(Hp.ldSl H4 ac ((ae+6)+2)).bind λs7=>(Hp.new H4 [.int .i64 0,.int .i64 0,.sl ⟨none,0,.ex 0⟩]).bind λH8=>(Hp.st H8 H4.length 0 (.int .i64 n5)).bind λH9=>(Hp.st H9 H4.length (0+1) (.int .i64 n6)).bind λH10=>(Hp.st H10 H4.length (0+1+1) (.sl s7)).bind λH11=>(Hp.ldI H11 .i64 H.length 0).bind λn12=>dG.l29 F cg lF F H.length 0 H4.length 0 (IntKind.i64.wrap (n12+1)) H11
def dG.tw (F:Nat) (ac:Nat) (ae:Nat) (ah:Int) (H:Hp):OA:=dG.twX F (fm.tw F) (jf.tw F) ac ae ah H
def dG.lh29 (F:Nat) (cg:Int->Int->Sl->Int->Hp->OA) (lF:Sl->Nat->Nat->Nat->Nat->Hp->OA) (ks:List Nat) (n:Nat) (tm:Tm) (H:Hp):OA:=match ks,tm 3,tm 5,tm 6 with
 | [],(.ptr eZ fq),(.ptr nX kj),(.int .i64 gf)=>dG.l29 F cg lF n eZ fq nX kj gf H
 | _,_,_,_=>none
theorem dG.lh29_inv {F:Nat} {cg:Int->Int->Sl->Int->Hp->OA} {lF:Sl->Nat->Nat->Nat->Nat->Hp->OA} {ks:List Nat} {n:Nat} {tm:Tm} {H:Hp} {r:AV×Hp} (h:dG.lh29 F cg lF ks n tm H=some r):∃ eZ fq nX kj gf,ks=[]/\ee tm [(3,(.ptr eZ fq)),(5,(.ptr nX kj)),(6,(.int .i64 gf))]/\dG.l29 F cg lF n eZ fq nX kj gf H=some r:=by
 unfold dG.lh29 at h
 split at h
 ·exact ⟨_,_,_,_,_,rfl,⟨‹_›,‹_›,‹_›,trivial⟩,h⟩
 ·cases h
def dG.lh (F:Nat) (cg:Int->Int->Sl->Int->Hp->OA) (lF:Sl->Nat->Nat->Nat->Nat->Hp->OA) (p:Nat) (ks:List Nat) (n:Nat) (tm:Tm) (H:Hp):OA:=bif p.beq 29 then dG.lh29 F cg lF ks n tm H else (none)
def dG.pn:Nat->List Nat:=eX [(5,[7])]
def dG.tb:Nat->List (List Nat):=eX [(5,[[],[],[0,1],[],[3],[0,1,2,3,4],[],[0,1,2,3,4,5,6]])]
def dG.mk (g:Nat->Nat->Int->Hp->OA) (args:List AV) (H:Hp):OA:=match args with
 | [(.ptr ac ae),(.int .i64 ah)]=>g ac ae ah H
 | _=>none
def dG.cs (F:Nat) (cg:Int->Int->Sl->Int->Hp->OA) (lF:Sl->Nat->Nat->Nat->Nat->Hp->OA):Cs:=[(118,fm.mk cg),(78,jf.mk lF)]
theorem dG.loops (F:Nat) (cg:Int->Int->Sl->Int->Hp->OA) (lF:Sl->Nat->Nat->Nat->Nat->Hp->OA):LO (bj (dG.cs F cg lF)) dG.pn (dG.lh F cg lF) F Tryz.f101:=
 (ag.rt (ag.rt (ag.lt (ag.rt (ag.block (ag.loop (λtm H=>et λr h=>by obtain ⟨eZ,fq,nX,kj,gf,hks,e,h⟩:=dG.lh29_inv (show dG.lh29 F cg lF [] 0 tm H=some r from h);cases h) (λk29 tm H r h=>by obtain ⟨eZ,fq,nX,kj,gf,hks,e,h⟩:=dG.lh29_inv (show dG.lh29 F cg lF [] (k29+1) tm H=some r from h);rw [<- ef e];exact Eq.trans (by kernel_rfl) h) λk29=>ag.no))))))
theorem dG.eqX (F:Nat) (cg:Int->Int->Sl->Int->Hp->OA) (lF:Sl->Nat->Nat->Nat->Nat->Hp->OA) (ac:Nat) (ae:Nat) (ah:Int) (H:Hp):EX (bj (dG.cs F cg lF)) dG.pn (dG.lh F cg lF) F Tryz.f101 [(.ptr ac ae),(.int .i64 ah)] H=dG.twX F cg lF ac ae ah H:=by kernel_rfl
theorem dG.k (F:Nat):Ok Tryz.prog 101 (dG.mk (dG.tw F)):=by
 intro args H v H' h
 unfold dG.mk at h
 split at h
 ·exact okT (TB:=dG.tb) Tryz.func101 (bi (fm.k F) (bi (jf.k F) ca)) (dG.loops F (fm.tw F) (jf.tw F)) ((dG.eqX F (fm.tw F) (jf.tw F) _ _ _ H).trans h) (by kernel_rfl)
 ·cases h
def bK.j4 (F:Nat) (iG:Nat->Nat->Int->Hp->OA) (iH:Nat->Nat->Int->Hp->OA) (iI:Nat->Nat->Int->Hp->OA) (iJ:Nat->Nat->Int->Hp->OA) (dy:Nat->Nat->Int->Int->Int->Hp->OA) (C3_:Nat->Nat->Int->Hp->OA) (ZQ:Nat) (ZR:Nat) (zd:Int) (H57:Hp):OA:=C3_ ZQ ZR zd H57
def bK.j5 (F:Nat) (iG:Nat->Nat->Int->Hp->OA) (iH:Nat->Nat->Int->Hp->OA) (iI:Nat->Nat->Int->Hp->OA) (iJ:Nat->Nat->Int->Hp->OA) (dy:Nat->Nat->Int->Int->Int->Hp->OA) (C3_:Nat->Nat->Int->Hp->OA) (ZS:Nat) (ZT:Nat) (ze:Int) (H80:Hp):OA:=C3_ ZS ZT ze H80
def bK.j6 (F:Nat) (iG:Nat->Nat->Int->Hp->OA) (iH:Nat->Nat->Int->Hp->OA) (iI:Nat->Nat->Int->Hp->OA) (iJ:Nat->Nat->Int->Hp->OA) (dy:Nat->Nat->Int->Int->Int->Hp->OA) (C3_:Nat->Nat->Int->Hp->OA) (xV:Nat) (xW:Nat) (zf:Int) (H71:Hp):OA:=bK.j5 F iG iH iI iJ dy C3_ xV xW zf H71
def bK.l3 (F:Nat) (iG:Nat->Nat->Int->Hp->OA) (iH:Nat->Nat->Int->Hp->OA) (iI:Nat->Nat->Int->Hp->OA) (iJ:Nat->Nat->Int->Hp->OA) (dy:Nat->Nat->Int->Int->Int->Hp->OA) :Nat->Nat->Nat->Int->Hp->OA
 | 0,_,_,_,_=>none
 | Dj+1,eS,fa,iN,H6=>(Hp.ldB H6 eS (fa+15)).bind λb44=>(bif (!b44) then ((Hp.ldI H6 .i64 eS (fa+6)).bind λn45=>(Hp.ldI H6 .i64 eS ((fa+6)+1)).bind λn46=>(bif (decide (iN<(if n46<n45 then n46 else n45))) then ((iG eS fa iN H6).bind λr47=>((r47.1).asB).bind λb48=>(bif (!b48) then (some ((.tup []),r47.2)) else ((iH eS fa iN r47.2).bind λr49=>(Hp.ldB r49.2 eS (fa+15)).bind λb50=>(bif b50 then (bK.j4 F iG iH iI iJ dy (bK.l3 F iG iH iI iJ dy Dj) eS fa iN r49.2) else ((iI eS fa iN r49.2).bind λr58=>((r58.1).asB).bind λb59=>(bif (!b59) then (bK.j4 F iG iH iI iJ dy (bK.l3 F iG iH iI iJ dy Dj) eS fa iN r58.2) else ((iJ eS fa iN r58.2).bind λr60=>((r60.1).asI .i64).bind λn61=>(bif (decide (n61>=0)) then ((dy eS fa iN n61 1 r60.2).bind λr62=>bK.j6 F iG iH iI iJ dy (bK.l3 F iG iH iI iJ dy Dj) eS fa iN r62.2) else (bK.j6 F iG iH iI iJ dy (bK.l3 F iG iH iI iJ dy Dj) eS fa (IntKind.i64.wrap (iN+1)) r60.2))))))))) else (some ((.tup []),H6)))) else (some ((.tup []),H6)))
termination_by structural n=>n
def bK.twX (F:Nat) (iG:Nat->Nat->Int->Hp->OA) (iH:Nat->Nat->Int->Hp->OA) (iI:Nat->Nat->Int->Hp->OA) (iJ:Nat->Nat->Int->Hp->OA) (dy:Nat->Nat->Int->Int->Int->Hp->OA) (ac:Nat) (ae:Nat) (H:Hp):OA:=bK.l3 F iG iH iI iJ dy F ac ae 0 H
def bK.tw (F:Nat) (ac:Nat) (ae:Nat) (H:Hp):OA:=bK.twX F (bI.tw F) (ba.tw F) (dg.tw F) (dG.tw F) (fB.tw F) ac ae H
def bK.lh3 (F:Nat) (iG:Nat->Nat->Int->Hp->OA) (iH:Nat->Nat->Int->Hp->OA) (iI:Nat->Nat->Int->Hp->OA) (iJ:Nat->Nat->Int->Hp->OA) (dy:Nat->Nat->Int->Int->Int->Hp->OA) (ks:List Nat) (n:Nat) (tm:Tm) (H:Hp):OA:=match ks,tm 0,tm 2 with
 | [],(.ptr eS fa),(.int .i64 iN)=>bK.l3 F iG iH iI iJ dy n eS fa iN H
 | _,_,_=>none
theorem bK.lh3_inv {F:Nat} {iG:Nat->Nat->Int->Hp->OA} {iH:Nat->Nat->Int->Hp->OA} {iI:Nat->Nat->Int->Hp->OA} {iJ:Nat->Nat->Int->Hp->OA} {dy:Nat->Nat->Int->Int->Int->Hp->OA} {ks:List Nat} {n:Nat} {tm:Tm} {H:Hp} {r:AV×Hp} (h:bK.lh3 F iG iH iI iJ dy ks n tm H=some r):∃ eS fa iN,ks=[]/\ee tm [(0,(.ptr eS fa)),(2,(.int .i64 iN))]/\bK.l3 F iG iH iI iJ dy n eS fa iN H=some r:=by
 unfold bK.lh3 at h
 split at h
 ·exact ⟨_,_,_,rfl,⟨‹_›,‹_›,trivial⟩,h⟩
 ·cases h
def bK.lh (F:Nat) (iG:Nat->Nat->Int->Hp->OA) (iH:Nat->Nat->Int->Hp->OA) (iI:Nat->Nat->Int->Hp->OA) (iJ:Nat->Nat->Int->Hp->OA) (dy:Nat->Nat->Int->Int->Int->Hp->OA) (p:Nat) (ks:List Nat) (n:Nat) (tm:Tm) (H:Hp):OA:=bif p.beq 3 then bK.lh3 F iG iH iI iJ dy ks n tm H else (none)
def bK.tb:Nat->List (List Nat):=eX [(1,[[],[0],[0,1],[0,1,2],[0,1,2,3],[0,1,2,3,4],[0,1,2,3,4,5],[0,1,2,3,4,5],[0,1,2,3,4,5,7],[0,1,2,3,4,5,7,8],[0,1,2,3,4,5,7,8,9],[0,1,2,3,4,5,7,8,9,10],[0,1,2,3,4,5,7,8,9,10,11],[0,1,2,3,4,5],[0,1,2,3,4,5,13],[0,1,2,3,4,5,13,14],[0,1,2,3,4,5,13,14,15],[0,1,2,3,4,5,13,14,15,16],[0,1,2,3,4,5,13,14,15,16,17],[0,1,2,3,4,5,7,8,9,10,11,12,13,14,15,16,17,18],[0,1,2,3,4,5,6,7,8,9,10,11,12,13,14,15,16,17,18,19],[0,1,2,3,4,5,6,7,8,9,10,11,12,13,14,15,16,17,18,19,20]])]
def bK.mk (g:Nat->Nat->Hp->OA) (args:List AV) (H:Hp):OA:=match args with
 | [(.ptr ac ae)]=>g ac ae H
 | _=>none
def bK.cs (F:Nat) (iG:Nat->Nat->Int->Hp->OA) (iH:Nat->Nat->Int->Hp->OA) (iI:Nat->Nat->Int->Hp->OA) (iJ:Nat->Nat->Int->Hp->OA) (dy:Nat->Nat->Int->Int->Int->Hp->OA):Cs:=[(98,bI.mk iG),(99,ba.mk iH),(100,dg.mk iI),(101,dG.mk iJ),(102,fB.mk dy)]
theorem bK.loops (F:Nat) (iG:Nat->Nat->Int->Hp->OA) (iH:Nat->Nat->Int->Hp->OA) (iI:Nat->Nat->Int->Hp->OA) (iJ:Nat->Nat->Int->Hp->OA) (dy:Nat->Nat->Int->Int->Int->Hp->OA):LO (bj (bK.cs F iG iH iI iJ dy)) aY (bK.lh F iG iH iI iJ dy) F Tryz.f76:=
 (ag.rt (ag.block (ag.loop (λtm H=>et λr h=>by obtain ⟨eS,fa,iN,hks,e,h⟩:=bK.lh3_inv (show bK.lh3 F iG iH iI iJ dy [] 0 tm H=some r from h);cases h) (λk3 tm H r h=>by obtain ⟨eS,fa,iN,hks,e,h⟩:=bK.lh3_inv (show bK.lh3 F iG iH iI iJ dy [] (k3+1) tm H=some r from h);rw [<- ef e];exact Eq.trans (by kernel_rfl) h) λk3=>ag.no)))
theorem bK.eqX (F:Nat) (iG:Nat->Nat->Int->Hp->OA) (iH:Nat->Nat->Int->Hp->OA) (iI:Nat->Nat->Int->Hp->OA) (iJ:Nat->Nat->Int->Hp->OA) (dy:Nat->Nat->Int->Int->Int->Hp->OA) (ac:Nat) (ae:Nat) (H:Hp):EX (bj (bK.cs F iG iH iI iJ dy)) aY (bK.lh F iG iH iI iJ dy) F Tryz.f76 [(.ptr ac ae)] H=bK.twX F iG iH iI iJ dy ac ae H:=by kernel_rfl
theorem bK.k (F:Nat):Ok Tryz.prog 76 (bK.mk (bK.tw F)):=by
 intro args H v H' h
 unfold bK.mk at h
 split at h
 ·exact okT (TB:=bK.tb) Tryz.func76 (bi (bI.k F) (bi (ba.k F) (bi (dg.k F) (bi (dG.k F) (bi (fB.k F) ca))))) (bK.loops F (bI.tw F) (ba.tw F) (dg.tw F) (dG.tw F) (fB.tw F)) ((bK.eqX F (bI.tw F) (ba.tw F) (dg.tw F) (dG.tw F) (fB.tw F) _ _ H).trans h) (by kernel_rfl)
 ·cases h
def iK.twX (F:Nat) (zg:Int->Int->Sl->Hp->OA) (zh:Nat->Nat->Hp->OA) (ac:Int) (ae:Int) (aK:Sl) (H:Hp):OA:=(Hp.new H [(.int .i64 ac),(.int .i64 ae),(.sl aK)]).bind λH4=>(Hp.new H4 [.int .i64 0,.int .i64 0,.sl ⟨none,0,.ex 0⟩,.int .i64 0,.int .i64 0,.sl ⟨none,0,.ex 0⟩,.int .i64 0,.int .i64 0,.sl ⟨none,0,.ex 0⟩,.int .i64 0,.int .i64 0,.sl ⟨none,0,.ex 0⟩,.int .i64 0,.int .i64 0,.sl ⟨none,0,.ex 0⟩]).bind λH5=>(Hp.ldI H5 .i64 H.length 0).bind λn6=>(Hp.ldI H5 .i64 H.length (0+1)).bind λn7=>(Hp.ldSl H5 H.length (0+2)).bind λs8=>(zg n6 n7 s8 H5).bind λr9=>((r9.1).asP).bind λp10=>(zh p10.1 p10.2 r9.2).bind λr11=>(Hp.ldB r11.2 p10.1 (p10.2+15)).bind λb12=>(bif b12 then ((Hp.st r11.2 H4.length 0 (.int .i64 0)).bind λH13=>(Hp.st H13 H4.length (0+1) (.int .i64 0)).bind λH14=>(Hp.st H14 H4.length (0+1+1) (.sl (⟨none,0,.ex 0⟩:Sl))).bind λH15=>(Hp.st H15 H4.length (0+1+1+1) (.int .i64 0)).bind λH16=>(Hp.st H16 H4.length (0+1+1+1+1) (.int .i64 0)).bind λH17=>(Hp.st H17 H4.length (0+1+1+1+1+1) (.sl (⟨none,0,.ex 0⟩:Sl))).bind λH18=>(Hp.st H18 H4.length (0+1+1+1+1+1+1) (.int .i64 0)).bind λH19=>(Hp.st H19 H4.length (0+1+1+1+1+1+1+1) (.int .i64 0)).bind λH20=>(Hp.st H20 H4.length (0+1+1+1+1+1+1+1+1) (.sl (⟨none,0,.ex 0⟩:Sl))).bind λH21=>(Hp.st H21 H4.length (0+1+1+1+1+1+1+1+1+1) (.int .i64 0)).bind λH22=>(Hp.st H22 H4.length (0+1+1+1+1+1+1+1+1+1+1) (.int .i64 0)).bind λH23=>(Hp.st H23 H4.length (0+1+1+1+1+1+1+1+1+1+1+1) (.sl (⟨none,0,.ex 0⟩:Sl))).bind λH24=>(Hp.st H24 H4.length (0+1+1+1+1+1+1+1+1+1+1+1+1) (.int .i64 0)).bind λH25=>(Hp.st H25 H4.length (0+1+1+1+1+1+1+1+1+1+1+1+1+1) (.int .i64 0)).bind λH26=>(Hp.st H26 H4.length (0+1+1+1+1+1+1+1+1+1+1+1+1+1+1) (.sl (⟨none,0,.ex 0⟩:Sl))).bind λH27=>(Hp.ldI H27 .i64 H4.length 0).bind λn28=>(Hp.ldI H27 .i64 H4.length (0+1)).bind λn29=>(Hp.ldSl H27 H4.length (0+2)).bind λs30=>(Hp.ldI H27 .i64 H4.length (0+3)).bind λn31=>(Hp.ldI H27 .i64 H4.length (0+4)).bind λn32=>(Hp.ldSl H27 H4.length (0+5)).bind λs33=>(Hp.ldI H27 .i64 H4.length (0+6)).bind λn34=>(Hp.ldI H27 .i64 H4.length (0+7)).bind λn35=>(Hp.ldSl H27 H4.length (0+8)).bind λs36=>(Hp.ldI H27 .i64 H4.length (0+9)).bind λn37=>(Hp.ldI H27 .i64 H4.length (0+10)).bind λn38=>(Hp.ldSl H27 H4.length (0+11)).bind λs39=>(Hp.ldI H27 .i64 H4.length (0+12)).bind λn40=>(Hp.ldI H27 .i64 H4.length (0+13)).bind λn41=>(Hp.ldSl H27 H4.length (0+14)).bind λs42=>some ((.tup [(.agg [(.int .i64 n28),(.int .i64 n29),(.sl s30),(.int .i64 n31),(.int .i64 n32),(.sl s33),(.int .i64 n34),(.int .i64 n35),(.sl s36),(.int .i64 n37),(.int .i64 n38),(.sl s39),(.int .i64 n40),(.int .i64 n41),(.sl s42)]),(.int .i64 3)]),H27)) else ((Hp.ldI r11.2 .i64 p10.1 p10.2).bind λn43=>(Hp.ldI r11.2 .i64 p10.1 (p10.2+1)).bind λn44=>(Hp.ldSl r11.2 p10.1 (p10.2+2)).bind λs45=>(Hp.ldI r11.2 .i64 p10.1 (p10.2+3)).bind λn46=>(Hp.ldI r11.2 .i64 p10.1 (p10.2+4)).bind λn47=>(Hp.ldSl r11.2 p10.1 (p10.2+5)).bind λs48=>(Hp.ldI r11.2 .i64 p10.1 (p10.2+6)).bind λn49=>(Hp.ldI r11.2 .i64 p10.1 (p10.2+7)).bind λn50=>(Hp.ldSl r11.2 p10.1 (p10.2+8)).bind λs51=>(Hp.ldI r11.2 .i64 p10.1 (p10.2+9)).bind λn52=>(Hp.ldI r11.2 .i64 p10.1 (p10.2+10)).bind λn53=>(Hp.ldSl r11.2 p10.1 (p10.2+11)).bind λs54=>(Hp.ldI r11.2 .i64 p10.1 (p10.2+12)).bind λn55=>(Hp.ldI r11.2 .i64 p10.1 (p10.2+13)).bind λn56=>(Hp.ldSl r11.2 p10.1 (p10.2+14)).bind λs57=>(Hp.st r11.2 H4.length 0 (.int .i64 n43)).bind λH58=>(Hp.st H58 H4.length (0+1) (.int .i64 n44)).bind λH59=>(Hp.st H59 H4.length (0+1+1) (.sl s45)).bind λH60=>(Hp.st H60 H4.length (0+1+1+1) (.int .i64 n46)).bind λH61=>(Hp.st H61 H4.length (0+1+1+1+1) (.int .i64 n47)).bind λH62=>(Hp.st H62 H4.length (0+1+1+1+1+1) (.sl s48)).bind λH63=>(Hp.st H63 H4.length (0+1+1+1+1+1+1) (.int .i64 n49)).bind λH64=>(Hp.st H64 H4.length (0+1+1+1+1+1+1+1) (.int .i64 n50)).bind λH65=>(Hp.st H65 H4.length (0+1+1+1+1+1+1+1+1) (.sl s51)).bind λH66=>(Hp.st H66 H4.length (0+1+1+1+1+1+1+1+1+1) (.int .i64 n52)).bind λH67=>(Hp.st H67 H4.length (0+1+1+1+1+1+1+1+1+1+1) (.int .i64 n53)).bind λH68=>(Hp.st H68 H4.length (0+1+1+1+1+1+1+1+1+1+1+1) (.sl s54)).bind λH69=>(Hp.st H69 H4.length (0+1+1+1+1+1+1+1+1+1+1+1+1) (.int .i64 n55)).bind λH70=>(Hp.st H70 H4.length (0+1+1+1+1+1+1+1+1+1+1+1+1+1) (.int .i64 n56)).bind λH71=>(Hp.st H71 H4.length (0+1+1+1+1+1+1+1+1+1+1+1+1+1+1) (.sl s57)).bind λH72=>(Hp.ldI H72 .i64 H4.length 0).bind λn73=>(Hp.ldI H72 .i64 H4.length (0+1)).bind λn74=>(Hp.ldSl H72 H4.length (0+2)).bind λs75=>(Hp.ldI H72 .i64 H4.length (0+3)).bind λn76=>(Hp.ldI H72 .i64 H4.length (0+4)).bind λn77=>(Hp.ldSl H72 H4.length (0+5)).bind λs78=>(Hp.ldI H72 .i64 H4.length (0+6)).bind λn79=>(Hp.ldI H72 .i64 H4.length (0+7)).bind λn80=>(Hp.ldSl H72 H4.length (0+8)).bind λs81=>(Hp.ldI H72 .i64 H4.length (0+9)).bind λn82=>(Hp.ldI H72 .i64 H4.length (0+10)).bind λn83=>(Hp.ldSl H72 H4.length (0+11)).bind λs84=>(Hp.ldI H72 .i64 H4.length (0+12)).bind λn85=>(Hp.ldI H72 .i64 H4.length (0+13)).bind λn86=>(Hp.ldSl H72 H4.length (0+14)).bind λs87=>some ((.tup [(.agg [(.int .i64 n73),(.int .i64 n74),(.sl s75),(.int .i64 n76),(.int .i64 n77),(.sl s78),(.int .i64 n79),(.int .i64 n80),(.sl s81),(.int .i64 n82),(.int .i64 n83),(.sl s84),(.int .i64 n85),(.int .i64 n86),(.sl s87)]),(.int .i64 0)]),H72)))
def iK.tw (F:Nat) (ac:Int) (ae:Int) (aK:Sl) (H:Hp):OA:=iK.twX F (kL.tw F) (bK.tw F) ac ae aK H
def iK.mk (g:Int->Int->Sl->Hp->OA) (args:List AV) (H:Hp):OA:=match args with
 | [(.agg [(.int .i64 ac),(.int .i64 ae),(.sl aK)])]=>g ac ae aK H
 | _=>none
def iK.cs (F:Nat) (zg:Int->Int->Sl->Hp->OA) (zh:Nat->Nat->Hp->OA):Cs:=[(75,kL.mk zg),(76,bK.mk zh)]
theorem iK.eqX (F:Nat) (zg:Int->Int->Sl->Hp->OA) (zh:Nat->Nat->Hp->OA) (ac:Int) (ae:Int) (aK:Sl) (H:Hp):EX (bj (iK.cs F zg zh)) aY lh0 F Tryz.f54 [(.agg [(.int .i64 ac),(.int .i64 ae),(.sl aK)])] H=iK.twX F zg zh ac ae aK H:=by kernel_rfl
theorem iK.k (F:Nat):Ok Tryz.prog 54 (iK.mk (iK.tw F)):=by
 intro args H v H' h
 unfold iK.mk at h
 split at h
 ·exact okT (TB:=aY) Tryz.func54 (bi (kL.k F) (bi (bK.k F) ca)) ag.no ((iK.eqX F (kL.tw F) (bK.tw F) _ _ _ H).trans h) (by kernel_rfl)
 ·cases h
def cP.j2 (F:Nat) (ka:Int->Int->Sl->Hp->OA) (ak:Int->Int->Sl->Int->Int->Hp->OA) (C125_:Nat->Nat->Sl->Int->Int->Hp->OA) (Dk:Nat) (ZU:Nat) (ZV:Sl) (zi:Int) (zj:Int) (H132:Hp):OA:=C125_ Dk ZU ZV zi (IntKind.i64.wrap (zj+1)) H132
def cP.l125 (F:Nat) (ka:Int->Int->Sl->Hp->OA) (ak:Int->Int->Sl->Int->Int->Hp->OA) :Nat->Nat->Nat->Sl->Int->Int->Hp->OA
 | 0,_,_,_,_,_,_=>none
 | PM+1,oU,qG,rZ,nR,lG,H76=>(bif (decide (lG<nR)) then ((Hp.ldI H76 .i64 oU (qG+6)).bind λn105=>(Hp.ldI H76 .i64 oU ((qG+6)+1)).bind λn106=>(Hp.ldSl H76 oU ((qG+6)+2)).bind λs107=>(ak n105 n106 s107 lG lG H76).bind λr108=>((r108.1).asP).bind λp109=>(Hp.ldI r108.2 .i64 p109.1 p109.2).bind λn110=>(bif (n110 != 0) then ((Hp.new r108.2 [(.int .i64 n110)]).bind λH111=>(Sl.row H111 (⟨some (r108.2.length,0),1,.ex 1⟩:Sl) 1).bind λxs113=>(Hp.app H111 1 8 rZ (⟨some (r108.2.length,0),1,.ex 1⟩:Sl).n xs113).bind λa112=>cP.j2 F ka ak (cP.l125 F ka ak PM) oU qG a112.1 nR lG a112.2) else (cP.j2 F ka ak (cP.l125 F ka ak PM) oU qG rZ nR lG r108.2))) else (some ((.tup [(.sl rZ),(.int .i64 0)]),H76)))
termination_by structural n=>n
def cP.twX (F:Nat) (ka:Int->Int->Sl->Hp->OA) (ak:Int->Int->Sl->Int->Int->Hp->OA) (ac:Int) (ae:Int) (aK:Sl) (H:Hp):OA:=(Hp.new H [(.int .i64 ac),(.int .i64 ae),(.sl aK)]).bind λH4=>(Hp.ldI H4 .i64 H.length 0).bind λn5=>(Hp.ldI H4 .i64 H.length (0+1)).bind λn6=>(Hp.ldSl H4 H.length (0+2)).bind λs7=>(ka n5 n6 s7 H4).bind λr8=>((r8.1).asTup 2).bind λl9=>(l9[0]?).bind λv10=>((v10).asAgg 15).bind λl11=>(l11[0]?).bind λv12=>((v12).asI .i64).bind λn13=>(l11[1]?).bind λv14=>((v14).asI .i64).bind λn15=>(l11[2]?).bind λv16=>((v16).asSl).bind λs17=>(l11[3]?).bind λv18=>((v18).asI .i64).bind λn19=>(l11[4]?).bind λv20=>((v20).asI .i64).bind λn21=>(l11[5]?).bind λv22=>((v22).asSl).bind λs23=>(l11[6]?).bind λv24=>((v24).asI .i64).bind λn25=>(l11[7]?).bind λv26=>((v26).asI .i64).bind λn27=>(l11[8]?).bind λv28=>((v28).asSl).bind λs29=>(l11[9]?).bind λv30=>((v30).asI .i64).bind λn31=>(l11[10]?).bind λv32=>((v32).asI .i64).bind λn33=>(l11[11]?).bind λv34=>((v34).asSl).bind λs35=>(l11[12]?).bind λv36=>((v36).asI .i64).bind λn37=>(l11[13]?).bind λv38=>((v38).asI .i64).bind λn39=>(l11[14]?).bind λv40=>((v40).asSl).bind λs41=>(l9[1]?).bind λv42=>((v42).asI .i64).bind λn43=>(Hp.new r8.2 [.int .i64 0,.int .i64 0,.sl ⟨none,0,.ex 0⟩,.int .i64 0,.int .i64 0,.sl ⟨none,0,.ex 0⟩,.int .i64 0,.int .i64 0,.sl ⟨none,0,.ex 0⟩,.int .i64 0,.int .i64 0,.sl ⟨none,0,.ex 0⟩,.int .i64 0,.int .i64 0,.sl ⟨none,0,.ex 0⟩]).bind λH44=>(Hp.st H44 r8.2.length 0 (.int .i64 n13)).bind λH45=>(Hp.st H45 r8.2.length (0+1) (.int .i64 n15)).bind λH46=>(Hp.st H46 r8.2.length (0+1+1) (.sl s17)).bind λH47=>(Hp.st H47 r8.2.length (0+1+1+1) (.int .i64 n19)).bind λH48=>(Hp.st H48 r8.2.length (0+1+1+1+1) (.int .i64 n21)).bind λH49=>(Hp.st H49 r8.2.length (0+1+1+1+1+1) (.sl s23)).bind λH50=>(Hp.st H50 r8.2.length (0+1+1+1+1+1+1) (.int .i64 n25)).bind λH51=>(Hp.st H51 r8.2.length (0+1+1+1+1+1+1+1) (.int .i64 n27)).bind λH52=>(Hp.st H52 r8.2.length (0+1+1+1+1+1+1+1+1) (.sl s29)).bind λH53=>(Hp.st H53 r8.2.length (0+1+1+1+1+1+1+1+1+1) (.int .i64 n31)).bind λH54=>(Hp.st H54 r8.2.length (0+1+1+1+1+1+1+1+1+1+1) (.int .i64 n33)).bind λH55=>(Hp.st H55 r8.2.length (0+1+1+1+1+1+1+1+1+1+1+1) (.sl s35)).bind λH56=>(Hp.st H56 r8.2.length (0+1+1+1+1+1+1+1+1+1+1+1+1) (.int .i64 n37)).bind λH57=>(Hp.st H57 r8.2.length (0+1+1+1+1+1+1+1+1+1+1+1+1+1) (.int .i64 n39)).bind λH58=>(Hp.st H58 r8.2.length (0+1+1+1+1+1+1+1+1+1+1+1+1+1+1) (.sl s41)).bind λH59=>(bif (n43 != 0) then (some ((.tup [(.sl (⟨none,0,.ex 0⟩:Sl)),(.int .i64 n43)]),H59)) else ((Hp.ldI H59 .i64 H.length 0).bind λn60=>(Hp.ldI H59 .i64 H.length 1).bind λn61=>cP.l125 F ka ak F r8.2.length 0 (⟨none,0,.ex 0⟩:Sl) (if n61<n60 then n61 else n60) 0 H59))
def cP.tw (F:Nat) (ac:Int) (ae:Int) (aK:Sl) (H:Hp):OA:=cP.twX F (iK.tw F) (bT.tw F) ac ae aK H
def cP.lh125 (F:Nat) (ka:Int->Int->Sl->Hp->OA) (ak:Int->Int->Sl->Int->Int->Hp->OA) (ks:List Nat) (n:Nat) (tm:Tm) (H:Hp):OA:=match ks,tm 4,tm 6,tm 21,tm 22 with
 | [],(.ptr oU qG),(.sl rZ),(.int .i64 nR),(.int .i64 lG)=>cP.l125 F ka ak n oU qG rZ nR lG H
 | _,_,_,_,_=>none
theorem cP.lh125_inv {F:Nat} {ka:Int->Int->Sl->Hp->OA} {ak:Int->Int->Sl->Int->Int->Hp->OA} {ks:List Nat} {n:Nat} {tm:Tm} {H:Hp} {r:AV×Hp} (h:cP.lh125 F ka ak ks n tm H=some r):∃ oU qG rZ nR lG,ks=[]/\ee tm [(4,(.ptr oU qG)),(6,(.sl rZ)),(21,(.int .i64 nR)),(22,(.int .i64 lG))]/\cP.l125 F ka ak n oU qG rZ nR lG H=some r:=by
 unfold cP.lh125 at h
 split at h
 ·exact ⟨_,_,_,_,_,rfl,⟨‹_›,‹_›,‹_›,‹_›,trivial⟩,h⟩
 ·cases h
def cP.lh (F:Nat) (ka:Int->Int->Sl->Hp->OA) (ak:Int->Int->Sl->Int->Int->Hp->OA) (p:Nat) (ks:List Nat) (n:Nat) (tm:Tm) (H:Hp):OA:=bif p.beq 125 then cP.lh125 F ka ak ks n tm H else (none)
def cP.mk (g:Int->Int->Sl->Hp->OA) (args:List AV) (H:Hp):OA:=match args with
 | [(.agg [(.int .i64 ac),(.int .i64 ae),(.sl aK)])]=>g ac ae aK H
 | _=>none
def cP.cs (F:Nat) (ka:Int->Int->Sl->Hp->OA) (ak:Int->Int->Sl->Int->Int->Hp->OA):Cs:=[(54,iK.mk ka),(53,bT.mk ak)]
theorem cP.loops (F:Nat) (ka:Int->Int->Sl->Hp->OA) (ak:Int->Int->Sl->Int->Int->Hp->OA):LO (bj (cP.cs F ka ak)) aY (cP.lh F ka ak) F Tryz.f26:=
 (ag.rt (ag.rt (ag.rt (ag.rt (ag.lt (ag.rt (ag.block (ag.loop (λtm H=>et λr h=>by obtain ⟨oU,qG,rZ,nR,lG,hks,e,h⟩:=cP.lh125_inv (show cP.lh125 F ka ak [] 0 tm H=some r from h);cases h) (λk125 tm H r h=>by obtain ⟨oU,qG,rZ,nR,lG,hks,e,h⟩:=cP.lh125_inv (show cP.lh125 F ka ak [] (k125+1) tm H=some r from h);rw [<- ef e];exact Eq.trans (by kernel_rfl) h) λk125=>ag.no))))))))
theorem cP.eqX (F:Nat) (ka:Int->Int->Sl->Hp->OA) (ak:Int->Int->Sl->Int->Int->Hp->OA) (ac:Int) (ae:Int) (aK:Sl) (H:Hp):EX (bj (cP.cs F ka ak)) aY (cP.lh F ka ak) F Tryz.f26 [(.agg [(.int .i64 ac),(.int .i64 ae),(.sl aK)])] H=cP.twX F ka ak ac ae aK H:=by kernel_rfl
theorem cP.k (F:Nat):Ok Tryz.prog 26 (cP.mk (cP.tw F)):=by
 intro args H v H' h
 unfold cP.mk at h
 split at h
 ·exact okT (TB:=aY) Tryz.func26 (bi (iK.k F) (bi (bT.k F) ca)) (cP.loops F (iK.tw F) (bT.tw F)) ((cP.eqX F (iK.tw F) (bT.tw F) _ _ _ H).trans h) (by kernel_rfl)
 ·cases h
def jp.twX (F:Nat) (ac:Sl) (H:Hp):OA:=some ((.int .i64 (ac.n:Int)),H)
def jp.tw (F:Nat) (ac:Sl) (H:Hp):OA:=jp.twX F ac H
def jp.mk (g:Sl->Hp->OA) (args:List AV) (H:Hp):OA:=match args with
 | [(.sl ac)]=>g ac H
 | _=>none
theorem jp.eqX (F:Nat) (ac:Sl) (H:Hp):EX (bj []) aY lh0 F Tryz.f27 [(.sl ac)] H=jp.twX F ac H:=by kernel_rfl
theorem jp.k (F:Nat):Ok Tryz.prog 27 (jp.mk (jp.tw F)):=by
 intro args H v H' h
 unfold jp.mk at h
 split at h
 ·exact okT (TB:=aY) Tryz.func27 ca ag.no ((jp.eqX F _ H).trans h) (by kernel_rfl)
 ·cases h
def eo.l14 (F:Nat) (cS:Int->Hp->OA) :Nat->Int->Int->Hp->OA
 | 0,_,_,_=>none
 | ZW+1,hZ,c_,H10=>(bif (c_ != 0) then ((if c_=0 then none else (eo.l14 F cS ZW c_ (Int.tmod hZ c_) H10))) else (some ((.int .i64 hZ),H10)))
def eo.twX (F:Nat) (cS:Int->Hp->OA) (ac:Int) (ap:Int) (H:Hp):OA:=(cS ac H).bind λr3=>((r3.1).asI .i64).bind λn4=>(cS ap r3.2).bind λr5=>((r5.1).asI .i64).bind λn6=>eo.l14 F cS F n4 n6 r5.2
def eo.tw (F:Nat) (ac:Int) (ap:Int) (H:Hp):OA:=eo.twX F (eD.tw F) ac ap H
def eo.lh14 (F:Nat) (cS:Int->Hp->OA) (ks:List Nat) (n:Nat) (tm:Tm) (H:Hp):OA:=match ks,tm 0,tm 1 with
 | [],(.int .i64 hZ),(.int .i64 c_)=>eo.l14 F cS n hZ c_ H
 | _,_,_=>none
theorem eo.lh14_inv {F:Nat} {cS:Int->Hp->OA} {ks:List Nat} {n:Nat} {tm:Tm} {H:Hp} {r:AV×Hp} (h:eo.lh14 F cS ks n tm H=some r):∃ hZ c_,ks=[]/\ee tm [(0,(.int .i64 hZ)),(1,(.int .i64 c_))]/\eo.l14 F cS n hZ c_ H=some r:=by
 unfold eo.lh14 at h
 split at h
 ·exact ⟨_,_,rfl,⟨‹_›,‹_›,trivial⟩,h⟩
 ·cases h
def eo.lh (F:Nat) (cS:Int->Hp->OA) (p:Nat) (ks:List Nat) (n:Nat) (tm:Tm) (H:Hp):OA:=bif p.beq 14 then eo.lh14 F cS ks n tm H else (none)
def eo.tb:Nat->List (List Nat):=eX [(3,[[],[],[],[1,2],[0,1],[0,1,2,3,4]])]
def eo.mk (g:Int->Int->Hp->OA) (args:List AV) (H:Hp):OA:=match args with
 | [(.int .i64 ac),(.int .i64 ap)]=>g ac ap H
 | _=>none
def eo.cs (F:Nat) (cS:Int->Hp->OA):Cs:=[(55,eD.mk cS)]
theorem eo.loops (F:Nat) (cS:Int->Hp->OA):LO (bj (eo.cs F cS)) aY (eo.lh F cS) F Tryz.f28:=
 (ag.rt (ag.rt (ag.lt (ag.block (ag.loop (λtm H=>et λr h=>by obtain ⟨hZ,c_,hks,e,h⟩:=eo.lh14_inv (show eo.lh14 F cS [] 0 tm H=some r from h);cases h) (λk14 tm H r h=>by obtain ⟨hZ,c_,hks,e,h⟩:=eo.lh14_inv (show eo.lh14 F cS [] (k14+1) tm H=some r from h);rw [<- ef e];exact Eq.trans (by kernel_rfl) h) λk14=>ag.no)))))
theorem eo.eqX (F:Nat) (cS:Int->Hp->OA) (ac:Int) (ap:Int) (H:Hp):EX (bj (eo.cs F cS)) aY (eo.lh F cS) F Tryz.f28 [(.int .i64 ac),(.int .i64 ap)] H=eo.twX F cS ac ap H:=by kernel_rfl
theorem eo.k (F:Nat):Ok Tryz.prog 28 (eo.mk (eo.tw F)):=by
 intro args H v H' h
 unfold eo.mk at h
 split at h
 ·exact okT (TB:=eo.tb) Tryz.func28 (bi (eD.k F) ca) (eo.loops F (eD.tw F)) ((eo.eqX F (eD.tw F) _ _ H).trans h) (by kernel_rfl)
 ·cases h
def cX.j2 (F:Nat) (kb:Sl->Int->Int->Hp->OA) (kc:Sl->Int->Hp->OA) (kd:Int->Int->Sl->Hp->OA) (ke:Sl->Hp->OA) (kf:Int->Int->Hp->OA) (iE:Int->Int->Int->Hp->OA) (C509_:Int->Sl->Int->Int->Int->Hp->OA) (zk:Int) (ZX:Sl) (zm:Int) (zn:Int) (zo:Int) (zp:Int) (H115:Hp):OA:=(iE zm zn 1000000000000 H115).bind λr116=>((r116.1).asTup 2).bind λl117=>(l117[0]?).bind λv118=>((v118).asI .i64).bind λn119=>(l117[1]?).bind λv120=>((v120).asB).bind λb121=>(bif (!b121) then (some ((.tup [(.int .i64 0),(.int .i64 3)]),r116.2)) else (C509_ zk ZX n119 zo (IntKind.i64.wrap (zp+1)) r116.2))
def cX.l509 (F:Nat) (kb:Sl->Int->Int->Hp->OA) (kc:Sl->Int->Hp->OA) (kd:Int->Int->Sl->Hp->OA) (ke:Sl->Hp->OA) (kf:Int->Int->Hp->OA) (iE:Int->Int->Int->Hp->OA) :Nat->Int->Sl->Int->Int->Int->Hp->OA
 | 0,_,_,_,_,_,_=>none
 | AG+1,mJ,rm,nS,nT,lH,H51=>(bif (decide (lH<nT)) then ((ke rm H51).bind λr87=>((r87.1).asI .i64).bind λn88=>(bif (decide (lH<n88)) then ((Sl.idx rm lH 1).bind λp89=>(Hp.ldI r87.2 .i64 p89.1 p89.2).bind λn90=>(kf n90 mJ r87.2).bind λr91=>((r91.1).asI .i64).bind λn92=>cX.j2 F kb kc kd ke kf iE (cX.l509 F kb kc kd ke kf iE AG) mJ rm nS n92 nT lH r91.2) else (cX.j2 F kb kc kd ke kf iE (cX.l509 F kb kc kd ke kf iE AG) mJ rm nS mJ nT lH r87.2))) else (some ((.tup [(.int .i64 nS),(.int .i64 0)]),H51)))
def cX.twX (F:Nat) (kb:Sl->Int->Int->Hp->OA) (kc:Sl->Int->Hp->OA) (kd:Int->Int->Sl->Hp->OA) (ke:Sl->Hp->OA) (kf:Int->Int->Hp->OA) (iE:Int->Int->Int->Hp->OA) (ac:Sl) (ae:Int) (ah:Int) (H:Hp):OA:=(Hp.new H [(.sl ac),(.int .i64 ae)]).bind λH4=>(Hp.ldSl H4 H.length 0).bind λs5=>(Hp.ldI H4 .i64 H.length (0+1)).bind λn6=>(kb s5 n6 ah H4).bind λr7=>((r7.1).asI .i64).bind λn8=>(bif (n8 != 0) then (some ((.tup [(.int .i64 0),(.int .i64 n8)]),r7.2)) else ((Hp.ldSl r7.2 H.length 0).bind λs9=>(Hp.ldI r7.2 .i64 H.length (0+1)).bind λn10=>(kc s9 n10 r7.2).bind λr11=>((r11.1).asAgg 3).bind λl12=>(l12[0]?).bind λv13=>((v13).asI .i64).bind λn14=>(l12[1]?).bind λv15=>((v15).asI .i64).bind λn16=>(l12[2]?).bind λv17=>((v17).asSl).bind λs18=>(Hp.new r11.2 [.int .i64 0,.int .i64 0,.sl ⟨none,0,.ex 0⟩]).bind λH19=>(Hp.st H19 r11.2.length 0 (.int .i64 n14)).bind λH20=>(Hp.st H20 r11.2.length (0+1) (.int .i64 n16)).bind λH21=>(Hp.st H21 r11.2.length (0+1+1) (.sl s18)).bind λH22=>(Hp.ldI H22 .i64 r11.2.length 0).bind λn23=>(Hp.ldI H22 .i64 r11.2.length (0+1)).bind λn24=>(Hp.ldSl H22 r11.2.length (0+2)).bind λs25=>(kd n23 n24 s25 H22).bind λr26=>((r26.1).asTup 2).bind λl27=>(l27[0]?).bind λv28=>((v28).asSl).bind λs29=>(l27[1]?).bind λv30=>((v30).asI .i64).bind λn31=>(bif (n31 != 0) then (some ((.tup [(.int .i64 0),(.int .i64 n31)]),r26.2)) else ((Hp.ldI r26.2 .i64 r11.2.length 1).bind λn32=>cX.l509 F kb kc kd ke kf iE F ah s29 1 n32 0 r26.2))))
def cX.tw (F:Nat) (ac:Sl) (ae:Int) (ah:Int) (H:Hp):OA:=cX.twX F (iV.tw F) (dX.tw F) (cP.tw F) (jp.tw F) (eo.tw F) (fV.tw F) ac ae ah H
def cX.lh509 (F:Nat) (kb:Sl->Int->Int->Hp->OA) (kc:Sl->Int->Hp->OA) (kd:Int->Int->Sl->Hp->OA) (ke:Sl->Hp->OA) (kf:Int->Int->Hp->OA) (iE:Int->Int->Int->Hp->OA) (ks:List Nat) (n:Nat) (tm:Tm) (H:Hp):OA:=match ks,tm 1,tm 8,tm 10,tm 31,tm 32 with
 | [],(.int .i64 mJ),(.sl rm),(.int .i64 nS),(.int .i64 nT),(.int .i64 lH)=>cX.l509 F kb kc kd ke kf iE n mJ rm nS nT lH H
 | _,_,_,_,_,_=>none
theorem cX.lh509_inv {F:Nat} {kb:Sl->Int->Int->Hp->OA} {kc:Sl->Int->Hp->OA} {kd:Int->Int->Sl->Hp->OA} {ke:Sl->Hp->OA} {kf:Int->Int->Hp->OA} {iE:Int->Int->Int->Hp->OA} {ks:List Nat} {n:Nat} {tm:Tm} {H:Hp} {r:AV×Hp} (h:cX.lh509 F kb kc kd ke kf iE ks n tm H=some r):∃ mJ rm nS nT lH,ks=[]/\ee tm [(1,(.int .i64 mJ)),(8,(.sl rm)),(10,(.int .i64 nS)),(31,(.int .i64 nT)),(32,(.int .i64 lH))]/\cX.l509 F kb kc kd ke kf iE n mJ rm nS nT lH H=some r:=by
 unfold cX.lh509 at h
 split at h
 ·exact ⟨_,_,_,_,_,rfl,⟨‹_›,‹_›,‹_›,‹_›,‹_›,trivial⟩,h⟩
 ·cases h
def cX.lh (F:Nat) (kb:Sl->Int->Int->Hp->OA) (kc:Sl->Int->Hp->OA) (kd:Int->Int->Sl->Hp->OA) (ke:Sl->Hp->OA) (kf:Int->Int->Hp->OA) (iE:Int->Int->Int->Hp->OA) (p:Nat) (ks:List Nat) (n:Nat) (tm:Tm) (H:Hp):OA:=bif p.beq 509 then cX.lh509 F kb kc kd ke kf iE ks n tm H else (none)
def cX.mk (g:Sl->Int->Int->Hp->OA) (args:List AV) (H:Hp):OA:=match args with
 | [(.agg [(.sl ac),(.int .i64 ae)]),(.int .i64 ah)]=>g ac ae ah H
 | _=>none
def cX.cs (F:Nat) (kb:Sl->Int->Int->Hp->OA) (kc:Sl->Int->Hp->OA) (kd:Int->Int->Sl->Hp->OA) (ke:Sl->Hp->OA) (kf:Int->Int->Hp->OA) (iE:Int->Int->Int->Hp->OA):Cs:=[(24,iV.mk kb),(25,dX.mk kc),(26,cP.mk kd),(27,jp.mk ke),(28,eo.mk kf),(29,fV.mk iE)]
theorem cX.loops (F:Nat) (kb:Sl->Int->Int->Hp->OA) (kc:Sl->Int->Hp->OA) (kd:Int->Int->Sl->Hp->OA) (ke:Sl->Hp->OA) (kf:Int->Int->Hp->OA) (iE:Int->Int->Int->Hp->OA):LO (bj (cX.cs F kb kc kd ke kf iE)) aY (cX.lh F kb kc kd ke kf iE) F Tryz.f8:=
 (ag.rt (ag.rt (ag.rt (ag.rt (ag.rt (ag.rt (ag.lt (ag.rt (ag.block (ag.loop (λtm H=>et λr h=>by obtain ⟨mJ,rm,nS,nT,lH,hks,e,h⟩:=cX.lh509_inv (show cX.lh509 F kb kc kd ke kf iE [] 0 tm H=some r from h);cases h) (λk509 tm H r h=>by obtain ⟨mJ,rm,nS,nT,lH,hks,e,h⟩:=cX.lh509_inv (show cX.lh509 F kb kc kd ke kf iE [] (k509+1) tm H=some r from h);rw [<- ef e];exact Eq.trans (by kernel_rfl) h) λk509=>ag.no))))))))))
theorem cX.eqX (F:Nat) (kb:Sl->Int->Int->Hp->OA) (kc:Sl->Int->Hp->OA) (kd:Int->Int->Sl->Hp->OA) (ke:Sl->Hp->OA) (kf:Int->Int->Hp->OA) (iE:Int->Int->Int->Hp->OA) (ac:Sl) (ae:Int) (ah:Int) (H:Hp):EX (bj (cX.cs F kb kc kd ke kf iE)) aY (cX.lh F kb kc kd ke kf iE) F Tryz.f8 [(.agg [(.sl ac),(.int .i64 ae)]),(.int .i64 ah)] H=cX.twX F kb kc kd ke kf iE ac ae ah H:=by kernel_rfl
theorem cX.k (F:Nat):Ok Tryz.prog 8 (cX.mk (cX.tw F)):=by
 intro args H v H' h
 unfold cX.mk at h
 split at h
 ·exact okT (TB:=aY) Tryz.func8 (bi (iV.k F) (bi (dX.k F) (bi (cP.k F) (bi (jp.k F) (bi (eo.k F) (bi (fV.k F) ca)))))) (cX.loops F (iV.tw F) (dX.tw F) (cP.tw F) (jp.tw F) (eo.tw F) (fV.tw F)) ((cX.eqX F (iV.tw F) (dX.tw F) (cP.tw F) (jp.tw F) (eo.tw F) (fV.tw F) _ _ _ H).trans h) (by kernel_rfl)
 ·cases h
def jH.twX (F:Nat) (ac:Int) (ae:Int) (aK:Int) (cL:Int) (cH:Int) (eJ:Int) (qf:Int) (qg:Int) (qh:Int) (qi:Int) (H:Hp):OA:=(Hp.new H [(.int .i64 ac),(.int .i64 ae),(.int .i64 aK),(.int .i64 cL),(.int .i64 cH)]).bind λH11=>(Hp.new H11 [(.int .i64 eJ),(.int .i64 qf),(.int .i64 qg),(.int .i64 qh),(.int .i64 qi)]).bind λH12=>(Hp.ldI H12 .i64 H.length 0).bind λn13=>(Hp.ldI H12 .i64 H11.length 0).bind λn14=>(bif (n13 != n14) then (some ((.bool false),H12)) else ((Hp.ldI H12 .i64 H.length 1).bind λn15=>(Hp.ldI H12 .i64 H11.length 1).bind λn16=>(bif (n15 != n16) then (some ((.bool false),H12)) else ((Hp.ldI H12 .i64 H.length 2).bind λn17=>(Hp.ldI H12 .i64 H11.length 2).bind λn18=>(bif (n17 != n18) then (some ((.bool false),H12)) else ((Hp.ldI H12 .i64 H.length 3).bind λn19=>(Hp.ldI H12 .i64 H11.length 3).bind λn20=>(bif (n19 != n20) then (some ((.bool false),H12)) else ((Hp.ldI H12 .i64 H.length 4).bind λn21=>(Hp.ldI H12 .i64 H11.length 4).bind λn22=>(bif (n21 != n22) then (some ((.bool false),H12)) else (some ((.bool true),H12)))))))))))
def jH.tw (F:Nat) (ac:Int) (ae:Int) (aK:Int) (cL:Int) (cH:Int) (eJ:Int) (qf:Int) (qg:Int) (qh:Int) (qi:Int) (H:Hp):OA:=jH.twX F ac ae aK cL cH eJ qf qg qh qi H
def jH.mk (g:Int->Int->Int->Int->Int->Int->Int->Int->Int->Int->Hp->OA) (args:List AV) (H:Hp):OA:=match args with
 | [(.agg [(.int .i64 ac),(.int .i64 ae),(.int .i64 aK),(.int .i64 cL),(.int .i64 cH)]),(.agg [(.int .i64 eJ),(.int .i64 qf),(.int .i64 qg),(.int .i64 qh),(.int .i64 qi)])]=>g ac ae aK cL cH eJ qf qg qh qi H
 | _=>none
theorem jH.eqX (F:Nat) (ac:Int) (ae:Int) (aK:Int) (cL:Int) (cH:Int) (eJ:Int) (qf:Int) (qg:Int) (qh:Int) (qi:Int) (H:Hp):EX (bj []) aY lh0 F Tryz.f56 [(.agg [(.int .i64 ac),(.int .i64 ae),(.int .i64 aK),(.int .i64 cL),(.int .i64 cH)]),(.agg [(.int .i64 eJ),(.int .i64 qf),(.int .i64 qg),(.int .i64 qh),(.int .i64 qi)])] H=jH.twX F ac ae aK cL cH eJ qf qg qh qi H:=by kernel_rfl
theorem jH.k (F:Nat):Ok Tryz.prog 56 (jH.mk (jH.tw F)):=by
 intro args H v H' h
 unfold jH.mk at h
 split at h
 ·exact okT (TB:=aY) Tryz.func56 ca ag.no ((jH.eqX F _ _ _ _ _ _ _ _ _ _ H).trans h) (by kernel_rfl)
 ·cases h
def es.l29 (F:Nat) (lI:Int->Int->Int->Int->Int->Int->Int->Int->Int->Int->Hp->OA) :Nat->Sl->Sl->Int->Hp->OA
 | 0,_,_,_,_=>none
 | fi+1,eS,jc,mK,H8=>(bif (decide (mK<(eS.n:Int))) then ((Sl.idx eS mK 5).bind λp23=>(Hp.ldI H8 .i64 p23.1 p23.2).bind λn24=>(Hp.ldI H8 .i64 p23.1 (p23.2+1)).bind λn25=>(Hp.ldI H8 .i64 p23.1 (p23.2+2)).bind λn26=>(Hp.ldI H8 .i64 p23.1 (p23.2+3)).bind λn27=>(Hp.ldI H8 .i64 p23.1 (p23.2+4)).bind λn28=>(Sl.idx jc mK 5).bind λp29=>(Hp.ldI H8 .i64 p29.1 p29.2).bind λn30=>(Hp.ldI H8 .i64 p29.1 (p29.2+1)).bind λn31=>(Hp.ldI H8 .i64 p29.1 (p29.2+2)).bind λn32=>(Hp.ldI H8 .i64 p29.1 (p29.2+3)).bind λn33=>(Hp.ldI H8 .i64 p29.1 (p29.2+4)).bind λn34=>(lI n24 n25 n26 n27 n28 n30 n31 n32 n33 n34 H8).bind λr35=>((r35.1).asB).bind λb36=>(bif (!b36) then (some ((.bool false),r35.2)) else (es.l29 F lI fi eS jc (IntKind.i64.wrap (mK+1)) r35.2))) else (some ((.bool true),H8)))
def es.twX (F:Nat) (lI:Int->Int->Int->Int->Int->Int->Int->Int->Int->Int->Hp->OA) (ac:Sl) (ap:Sl) (H:Hp):OA:=(bif ((ac.n:Int) != (ap.n:Int)) then (some ((.bool false),H)) else (es.l29 F lI F ac ap 0 H))
def es.tw (F:Nat) (ac:Sl) (ap:Sl) (H:Hp):OA:=es.twX F (jH.tw F) ac ap H
def es.lh29 (F:Nat) (lI:Int->Int->Int->Int->Int->Int->Int->Int->Int->Int->Hp->OA) (ks:List Nat) (n:Nat) (tm:Tm) (H:Hp):OA:=match ks,tm 0,tm 1,tm 5 with
 | [],(.sl eS),(.sl jc),(.int .i64 mK)=>es.l29 F lI n eS jc mK H
 | _,_,_,_=>none
theorem es.lh29_inv {F:Nat} {lI:Int->Int->Int->Int->Int->Int->Int->Int->Int->Int->Hp->OA} {ks:List Nat} {n:Nat} {tm:Tm} {H:Hp} {r:AV×Hp} (h:es.lh29 F lI ks n tm H=some r):∃ eS jc mK,ks=[]/\ee tm [(0,(.sl eS)),(1,(.sl jc)),(5,(.int .i64 mK))]/\es.l29 F lI n eS jc mK H=some r:=by
 unfold es.lh29 at h
 split at h
 ·exact ⟨_,_,_,rfl,⟨‹_›,‹_›,‹_›,trivial⟩,h⟩
 ·cases h
def es.lh (F:Nat) (lI:Int->Int->Int->Int->Int->Int->Int->Int->Int->Int->Hp->OA) (p:Nat) (ks:List Nat) (n:Nat) (tm:Tm) (H:Hp):OA:=bif p.beq 29 then es.lh29 F lI ks n tm H else (none)
def es.pn:Nat->List Nat:=eX [(6,[8])]
def es.tb:Nat->List (List Nat):=eX [(6,[[],[],[0,1],[0,1,2],[],[],[4,5],[4,5,6],[0,1,2,3,4,5,6,7],[0,1,2,3,4,5,6,7,8]])]
def es.mk (g:Sl->Sl->Hp->OA) (args:List AV) (H:Hp):OA:=match args with
 | [(.sl ac),(.sl ap)]=>g ac ap H
 | _=>none
def es.cs (F:Nat) (lI:Int->Int->Int->Int->Int->Int->Int->Int->Int->Int->Hp->OA):Cs:=[(56,jH.mk lI)]
theorem es.loops (F:Nat) (lI:Int->Int->Int->Int->Int->Int->Int->Int->Int->Int->Hp->OA):LO (bj (es.cs F lI)) es.pn (es.lh F lI) F Tryz.f30:=
 (ag.rt (ag.rt (ag.lt (ag.rt (ag.block (ag.loop (λtm H=>et λr h=>by obtain ⟨eS,jc,mK,hks,e,h⟩:=es.lh29_inv (show es.lh29 F lI [] 0 tm H=some r from h);cases h) (λk29 tm H r h=>by obtain ⟨eS,jc,mK,hks,e,h⟩:=es.lh29_inv (show es.lh29 F lI [] (k29+1) tm H=some r from h);rw [<- ef e];exact Eq.trans (by kernel_rfl) h) λk29=>ag.no))))))
theorem es.eqX (F:Nat) (lI:Int->Int->Int->Int->Int->Int->Int->Int->Int->Int->Hp->OA) (ac:Sl) (ap:Sl) (H:Hp):EX (bj (es.cs F lI)) es.pn (es.lh F lI) F Tryz.f30 [(.sl ac),(.sl ap)] H=es.twX F lI ac ap H:=by kernel_rfl
theorem es.k (F:Nat):Ok Tryz.prog 30 (es.mk (es.tw F)):=by
 intro args H v H' h
 unfold es.mk at h
 split at h
 ·exact okT (TB:=es.tb) Tryz.func30 (bi (jH.k F) ca) (es.loops F (jH.tw F)) ((es.eqX F (jH.tw F) _ _ H).trans h) (by kernel_rfl)
 ·cases h
def jq.twX (F:Nat) (zq:Sl->Sl->Hp->OA) (ac:Sl) (ae:Int) (ah:Sl) (ax:Int) (H:Hp):OA:=(Hp.new H [(.sl ac),(.int .i64 ae)]).bind λH5=>(Hp.new H5 [(.sl ah),(.int .i64 ax)]).bind λH6=>(Hp.ldSl H6 H.length 0).bind λs7=>(Hp.ldSl H6 H5.length 0).bind λs8=>(zq s7 s8 H6).bind λr9=>((r9.1).asB).bind λb10=>(bif (!b10) then (some ((.bool false),r9.2)) else ((Hp.ldI r9.2 .i64 H.length 1).bind λn11=>(Hp.ldI r9.2 .i64 H5.length 1).bind λn12=>(bif (n11 != n12) then (some ((.bool false),r9.2)) else (some ((.bool true),r9.2)))))
def jq.tw (F:Nat) (ac:Sl) (ae:Int) (ah:Sl) (ax:Int) (H:Hp):OA:=jq.twX F (es.tw F) ac ae ah ax H
def jq.mk (g:Sl->Int->Sl->Int->Hp->OA) (args:List AV) (H:Hp):OA:=match args with
 | [(.agg [(.sl ac),(.int .i64 ae)]),(.agg [(.sl ah),(.int .i64 ax)])]=>g ac ae ah ax H
 | _=>none
def jq.cs (F:Nat) (zq:Sl->Sl->Hp->OA):Cs:=[(30,es.mk zq)]
theorem jq.eqX (F:Nat) (zq:Sl->Sl->Hp->OA) (ac:Sl) (ae:Int) (ah:Sl) (ax:Int) (H:Hp):EX (bj (jq.cs F zq)) aY lh0 F Tryz.f9 [(.agg [(.sl ac),(.int .i64 ae)]),(.agg [(.sl ah),(.int .i64 ax)])] H=jq.twX F zq ac ae ah ax H:=by kernel_rfl
theorem jq.k (F:Nat):Ok Tryz.prog 9 (jq.mk (jq.tw F)):=by
 intro args H v H' h
 unfold jq.mk at h
 split at h
 ·exact okT (TB:=aY) Tryz.func9 (bi (es.k F) ca) ag.no ((jq.eqX F (es.tw F) _ _ _ _ H).trans h) (by kernel_rfl)
 ·cases h
def ig.twX (F:Nat) (zr:Sl->Int->Int->Hp->OA) (ug:Sl->Int->Hp->OA) (zt:Sl->Int->Int->Hp->OA) (zu:Sl->Int->Int->Hp->OA) (zw:Sl->Int->Sl->Int->Hp->OA) (ac:Sl) (ae:Int) (ah:Int) (H:Hp):OA:=(Hp.new H [(.sl ac),(.int .i64 ae)]).bind λH4=>(Hp.ldSl H4 H.length 0).bind λs5=>(Hp.ldI H4 .i64 H.length (0+1)).bind λn6=>(zr s5 n6 1048576 H4).bind λr7=>((r7.1).asI .i64).bind λn8=>(bif (decide (n8<0)) then (some ((.bool true),r7.2)) else ((Hp.ldSl r7.2 H.length 0).bind λs9=>(Hp.ldI r7.2 .i64 H.length (0+1)).bind λn10=>(ug s9 n10 r7.2).bind λr11=>((r11.1).asAgg 2).bind λl12=>(l12[0]?).bind λv13=>((v13).asSl).bind λs14=>(l12[1]?).bind λv15=>((v15).asI .i64).bind λn16=>(zt s14 n16 ah r11.2).bind λr17=>((r17.1).asTup 2).bind λl18=>(l18[0]?).bind λv19=>((v19).asI .i64).bind λn20=>(l18[1]?).bind λv21=>((v21).asI .i64).bind λn22=>(Hp.ldSl r17.2 H.length 0).bind λs23=>(Hp.ldI r17.2 .i64 H.length (0+1)).bind λn24=>(ug s23 n24 r17.2).bind λr25=>((r25.1).asAgg 2).bind λl26=>(l26[0]?).bind λv27=>((v27).asSl).bind λs28=>(l26[1]?).bind λv29=>((v29).asI .i64).bind λn30=>(Hp.new r25.2 [.sl ⟨none,0,.ex 0⟩,.int .i64 0]).bind λH31=>(Hp.st H31 r25.2.length 0 (.sl s28)).bind λH32=>(Hp.st H32 r25.2.length (0+1) (.int .i64 n30)).bind λH33=>(Hp.ldSl H33 r25.2.length 0).bind λs34=>(Hp.ldI H33 .i64 r25.2.length (0+1)).bind λn35=>(zu s34 n35 ah H33).bind λr36=>((r36.1).asTup 2).bind λl37=>(l37[0]?).bind λv38=>((v38).asI .i64).bind λn39=>(l37[1]?).bind λv40=>((v40).asI .i64).bind λn41=>(bif (n39 != n20) then (some ((.bool false),r36.2)) else ((bif (n41 != n22) then (some ((.bool false),r36.2)) else ((Hp.ldSl r36.2 r25.2.length 0).bind λs42=>(Hp.ldI r36.2 .i64 r25.2.length (0+1)).bind λn43=>(Hp.ldSl r36.2 H.length 0).bind λs44=>(Hp.ldI r36.2 .i64 H.length (0+1)).bind λn45=>(ug s44 n45 r36.2).bind λr46=>((r46.1).asAgg 2).bind λl47=>(l47[0]?).bind λv48=>((v48).asSl).bind λs49=>(l47[1]?).bind λv50=>((v50).asI .i64).bind λn51=>(if bu r36.2 r46.2 then ((zw s42 n43 s49 n51 r46.2).bind λr52=>((r52.1).asB).bind λb53=>(bif (!b53) then (some ((.bool false),r52.2)) else (some ((.bool true),r52.2)))) else none)))))))
def ig.tw (F:Nat) (ac:Sl) (ae:Int) (ah:Int) (H:Hp):OA:=ig.twX F (iO.tw F) (iw.tw F) (cW.tw F) (cX.tw F) (jq.tw F) ac ae ah H
def ig.pn:Nat->List Nat:=eX [(10,[3])]
def ig.tb:Nat->List (List Nat):=eX [(10,[[],[],[1],[0,1,2],[0,1,2,3]])]
def ig.mk (g:Sl->Int->Int->Hp->OA) (args:List AV) (H:Hp):OA:=match args with
 | [(.agg [(.sl ac),(.int .i64 ae)]),(.int .i64 ah)]=>g ac ae ah H
 | _=>none
def ig.cs (F:Nat) (zr:Sl->Int->Int->Hp->OA) (ug:Sl->Int->Hp->OA) (zt:Sl->Int->Int->Hp->OA) (zu:Sl->Int->Int->Hp->OA) (zw:Sl->Int->Sl->Int->Hp->OA):Cs:=[(5,iO.mk zr),(7,iw.mk ug),(6,cW.mk zt),(8,cX.mk zu),(9,jq.mk zw)]
theorem ig.eqX (F:Nat) (zr:Sl->Int->Int->Hp->OA) (ug:Sl->Int->Hp->OA) (zt:Sl->Int->Int->Hp->OA) (zu:Sl->Int->Int->Hp->OA) (zw:Sl->Int->Sl->Int->Hp->OA) (ac:Sl) (ae:Int) (ah:Int) (H:Hp):EX (bj (ig.cs F zr ug zt zu zw)) ig.pn lh0 F Tryz.f3 [(.agg [(.sl ac),(.int .i64 ae)]),(.int .i64 ah)] H=ig.twX F zr ug zt zu zw ac ae ah H:=by kernel_rfl
theorem ig.k (F:Nat):Ok Tryz.prog 3 (ig.mk (ig.tw F)):=by
 intro args H v H' h
 unfold ig.mk at h
 split at h
 ·exact okT (TB:=ig.tb) Tryz.func3 (bi (iO.k F) (bi (iw.k F) (bi (cW.k F) (bi (cX.k F) (bi (jq.k F) ca))))) ag.no ((ig.eqX F (iO.tw F) (iw.tw F) (cW.tw F) (cX.tw F) (jq.tw F) _ _ _ H).trans h) (by kernel_rfl)
 ·cases h
theorem ig.mkE (g:Sl->Int->Int->Hp->OA) (ac:Sl) (ae:Int) (ah:Int) (H:Hp):ig.mk g [(.agg [(.sl ac),(.int .i64 ae)]),(.int .i64 ah)] H=g ac ae ah H:=rfl
theorem ig.T {F:Nat} {ac:Sl} {ae:Int} {ah:Int} {H:Hp} {v:AV} {H':Hp} (h:ig.tw F ac ae ah H=some (v,H')):Go.AE.T Tryz.prog 3 [(.agg [(.sl ac),(.int .i64 ae)]),(.int .i64 ah)] H v H':=ig.k F _ _ _ _ ((ig.mkE (ig.tw F) ac ae ah H).trans h)
end
end Go.Proofs.YtppbogklbhfboaaGreat.AE
