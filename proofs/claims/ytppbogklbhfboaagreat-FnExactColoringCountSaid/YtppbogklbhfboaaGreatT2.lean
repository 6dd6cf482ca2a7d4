import Derived.Test.YtppbogklbhfboaaGreatT1
import Derived.Test.YtppbogklbhfboaaGreatTab1
import Derived.Test.YtppbogklbhfboaaGreatE2
set_option linter.unusedVariables false
set_option linter.unusedSimpArgs false
namespace Go.Proofs.YtppbogklbhfboaaGreat.AE
open Go Go.AE Go.Proofs Go.RowKit Go.Maps
set_option linter.unusedVariables false
set_option maxHeartbeats 4000000
set_option maxRecDepth 100000
noncomputable section
theorem fw.k (F:Nat):Ok Tryz.prog 102 (fw.mk (fw.tw F)):=by
 intro args H v H' h
 unfold fw.mk at h
 split at h
 ·exact okT (TB:=aW) Tryz.func102 (bg (du.k F) (bg (dv.k F) ca)) ae.no ((fw.eqX F (du.tw F) (dv.tw F) _ _ _ _ _ H).trans h) (by kernel_rfl)
 ·cases h
def ig.twX (F:Nat) (pz:Nat->Nat->Int->Int->Sl->Int->Int->Int->Hp->OA) (pw:Nat->Nat->Int->Int->Sl->Int->Int->Int->Hp->OA) (aa:Nat) (ac:Nat) (af:Int) (cf:Int) (dH:Int) (H:Hp):OA:=(Hp.ldI H .i64 aa (ac+6)).bind λn6=>(Hp.ldI H .i64 aa ((ac+6)+1)).bind λn7=>(Hp.ldSl H aa ((ac+6)+2)).bind λs8=>(pz aa ac n6 n7 s8 af cf dH H).bind λr9=>(Hp.ldI r9.2 .i64 aa (ac+9)).bind λn10=>(Hp.ldI r9.2 .i64 aa ((ac+9)+1)).bind λn11=>(Hp.ldSl r9.2 aa ((ac+9)+2)).bind λs12=>(pz aa ac n10 n11 s12 af cf dH r9.2).bind λr13=>(Hp.ldI r13.2 .i64 aa (ac+12)).bind λn14=>(Hp.ldI r13.2 .i64 aa ((ac+12)+1)).bind λn15=>(Hp.ldSl r13.2 aa ((ac+12)+2)).bind λs16=>(pw aa ac n14 n15 s16 cf af (IntKind.i64.wrap (0 - dH)) r13.2).bind λr17=>some ((.tup []),r17.2)
def ig.tw (F:Nat) (aa:Nat) (ac:Nat) (af:Int) (cf:Int) (dH:Int) (H:Hp):OA:=ig.twX F (dv.tw F) (du.tw F) aa ac af cf dH H
def ig.mk (g:Nat->Nat->Int->Int->Int->Hp->OA) (args:List AV) (H:Hp):OA:=match args with
 | [(.ptr aa ac),(.int .i64 af),(.int .i64 cf),(.int .i64 dH)]=>g aa ac af cf dH H
 | _=>none
def ig.cs (F:Nat) (pz:Nat->Nat->Int->Int->Sl->Int->Int->Int->Hp->OA) (pw:Nat->Nat->Int->Int->Sl->Int->Int->Int->Hp->OA):Cs:=[(124,dv.mk pz),(123,du.mk pw)]
theorem ig.eqX (F:Nat) (pz:Nat->Nat->Int->Int->Sl->Int->Int->Int->Hp->OA) (pw:Nat->Nat->Int->Int->Sl->Int->Int->Int->Hp->OA) (aa:Nat) (ac:Nat) (af:Int) (cf:Int) (dH:Int) (H:Hp):EX (bh (ig.cs F pz pw)) aW lh0 F Tryz.f120 [(.ptr aa ac),(.int .i64 af),(.int .i64 cf),(.int .i64 dH)] H=ig.twX F pz pw aa ac af cf dH H:=by kernel_rfl
theorem ig.k (F:Nat):Ok Tryz.prog 120 (ig.mk (ig.tw F)):=by
 intro args H v H' h
 unfold ig.mk at h
 split at h
 ·exact okT (TB:=aW) Tryz.func120 (bg (dv.k F) (bg (du.k F) ca)) ae.no ((ig.eqX F (dv.tw F) (du.tw F) _ _ _ _ _ H).trans h) (by kernel_rfl)
 ·cases h
def aZ.j3 (F:Nat) (aj:Int->Int->Sl->Int->Int->Hp->OA) (f_:Int->Int->Hp->OA) (dI:Nat->Nat->Int->Int->Int->Hp->OA) (gg:Nat->Nat->Int->Int->Int->Hp->OA) (C15_:Nat->Nat->Int->Nat->Nat->Int->Hp->OA) (ZM:Nat) (ZN:Nat) (yZ:Int) (Dl:Nat) (ZO:Nat) (y_:Int) (H119:Hp):OA:=C15_ ZM ZN yZ Dl ZO (IntKind.i64.wrap (y_+1)) H119
def aZ.l15 (F:Nat) (aj:Int->Int->Sl->Int->Int->Hp->OA) (f_:Int->Int->Hp->OA) (dI:Nat->Nat->Int->Int->Int->Hp->OA) (gg:Nat->Nat->Int->Int->Int->Hp->OA) :Nat->Nat->Nat->Int->Nat->Nat->Int->Hp->OA
 | 0,_,_,_,_,_,_,_=>none
 | PQ+1,mQ,mR,iy,mS,oU,lJ,H61=>(Hp.ldI H61 .i64 mS (oU+1)).bind λn91=>(bif (decide (lJ<n91)) then ((Hp.ldB H61 mQ (mR+15)).bind λb92=>(bif (!b92) then ((Hp.ldI H61 .i64 mS oU).bind λn93=>(Hp.ldI H61 .i64 mS (oU+1)).bind λn94=>(Hp.ldSl H61 mS (oU+2)).bind λs95=>(aj n93 n94 s95 iy lJ H61).bind λr96=>((r96.1).asP).bind λp97=>(if bp H61 r96.2 then ((Hp.ldI r96.2 .i64 p97.1 p97.2).bind λn98=>(Hp.ldI r96.2 .i64 mS oU).bind λn99=>(Hp.ldI r96.2 .i64 mS (oU+1)).bind λn100=>(Hp.ldSl r96.2 mS (oU+2)).bind λs101=>(aj n99 n100 s101 iy iy r96.2).bind λr102=>((r102.1).asP).bind λp103=>(if bp r96.2 r102.2 then ((Hp.ldI r102.2 .i64 p103.1 p103.2).bind λn104=>(f_ n98 n104 r102.2).bind λr105=>((r105.1).asI .i64).bind λn106=>(bif (n106 != 0) then ((gg mQ mR lJ iy (IntKind.i64.wrap (0 - n106)) r105.2).bind λr107=>aZ.j3 F aj f_ dI gg (aZ.l15 F aj f_ dI gg PQ) mQ mR iy mS oU lJ r107.2) else (aZ.j3 F aj f_ dI gg (aZ.l15 F aj f_ dI gg PQ) mQ mR iy mS oU lJ r105.2))) else none)) else none)) else (some ((.tup []),H61)))) else (some ((.tup []),H61)))
termination_by structural n=>n
def aZ.j4 (F:Nat) (aj:Int->Int->Sl->Int->Int->Hp->OA) (f_:Int->Int->Hp->OA) (dI:Nat->Nat->Int->Int->Int->Hp->OA) (gg:Nat->Nat->Int->Int->Int->Hp->OA) (ZP:Nat) (ZQ:Nat) (ud:Int) (Dm:Nat) (ZR:Nat) (H52:Hp):OA:=aZ.l15 F aj f_ dI gg F ZP ZQ ud Dm ZR (IntKind.i64.wrap (ud+1)) H52
def aZ.j5 (F:Nat) (aj:Int->Int->Sl->Int->Int->Hp->OA) (f_:Int->Int->Hp->OA) (dI:Nat->Nat->Int->Int->Int->Hp->OA) (gg:Nat->Nat->Int->Int->Int->Hp->OA) (C13_:Nat->Nat->Int->Nat->Nat->Int->Hp->OA) (ZS:Nat) (ZT:Nat) (za:Int) (xi:Nat) (tG:Nat) (zb:Int) (H146:Hp):OA:=C13_ ZS ZT za xi tG (IntKind.i64.wrap (zb+1)) H146
def aZ.l13 (F:Nat) (aj:Int->Int->Sl->Int->Int->Hp->OA) (f_:Int->Int->Hp->OA) (dI:Nat->Nat->Int->Int->Int->Hp->OA) (gg:Nat->Nat->Int->Int->Int->Hp->OA) :Nat->Nat->Nat->Int->Nat->Nat->Int->Hp->OA
 | 0,_,_,_,_,_,_,_=>none
 | jN+1,fi,iY,d_,fm,nT,il,H17=>(Hp.ldI H17 .i64 fm nT).bind λn120=>(bif (decide (il<n120)) then ((Hp.ldB H17 fi (iY+15)).bind λb121=>(bif (!b121) then ((Hp.ldI H17 .i64 fm nT).bind λn122=>(Hp.ldI H17 .i64 fm (nT+1)).bind λn123=>(Hp.ldSl H17 fm (nT+2)).bind λs124=>(aj n122 n123 s124 il d_ H17).bind λr125=>((r125.1).asP).bind λp126=>(if bp H17 r125.2 then ((Hp.ldI r125.2 .i64 p126.1 p126.2).bind λn127=>(Hp.ldI r125.2 .i64 fm nT).bind λn128=>(Hp.ldI r125.2 .i64 fm (nT+1)).bind λn129=>(Hp.ldSl r125.2 fm (nT+2)).bind λs130=>(aj n128 n129 s130 d_ d_ r125.2).bind λr131=>((r131.1).asP).bind λp132=>(if bp r125.2 r131.2 then ((Hp.ldI r131.2 .i64 p132.1 p132.2).bind λn133=>(f_ n127 n133 r131.2).bind λr134=>((r134.1).asI .i64).bind λn135=>(bif (n135 != 0) then ((dI fi iY il d_ (IntKind.i64.wrap (0 - n135)) r134.2).bind λr136=>aZ.j5 F aj f_ dI gg (aZ.l13 F aj f_ dI gg jN) fi iY d_ fm nT il r136.2) else (aZ.j5 F aj f_ dI gg (aZ.l13 F aj f_ dI gg jN) fi iY d_ fm nT il r134.2))) else none)) else none)) else (aZ.j4 F aj f_ dI gg fi iY d_ fm nT H17))) else (aZ.j4 F aj f_ dI gg fi iY d_ fm nT H17))
termination_by structural n=>n
def aZ.twX (F:Nat) (aj:Int->Int->Sl->Int->Int->Hp->OA) (f_:Int->Int->Hp->OA) (dI:Nat->Nat->Int->Int->Int->Hp->OA) (gg:Nat->Nat->Int->Int->Int->Hp->OA) (aa:Nat) (ac:Nat) (af:Int) (H:Hp):OA:=(Hp.ldI H .i64 aa (ac+6)).bind λn4=>(Hp.ldI H .i64 aa ((ac+6)+1)).bind λn5=>(Hp.ldSl H aa ((ac+6)+2)).bind λs6=>(Hp.new H [.int .i64 0,.int .i64 0,.sl ⟨none,0,.ex 0⟩]).bind λH7=>(Hp.st H7 H.length 0 (.int .i64 n4)).bind λH8=>(Hp.st H8 H.length (0+1) (.int .i64 n5)).bind λH9=>(Hp.st H9 H.length (0+1+1) (.sl s6)).bind λH10=>aZ.l13 F aj f_ dI gg F aa ac af H.length 0 (IntKind.i64.wrap (af+1)) H10
def aZ.tw (F:Nat) (aa:Nat) (ac:Nat) (af:Int) (H:Hp):OA:=aZ.twX F (bT.tw F) (ib.tw F) (fw.tw F) (ig.tw F) aa ac af H
def aZ.lh13 (F:Nat) (aj:Int->Int->Sl->Int->Int->Hp->OA) (f_:Int->Int->Hp->OA) (dI:Nat->Nat->Int->Int->Int->Hp->OA) (gg:Nat->Nat->Int->Int->Int->Hp->OA) (ks:List Nat) (n:Nat) (tm:Tm) (H:Hp):OA:=match ks,tm 0,tm 1,tm 4,tm 5 with
 | [],(.ptr fi iY),(.int .i64 d_),(.ptr fm nT),(.int .i64 il)=>aZ.l13 F aj f_ dI gg n fi iY d_ fm nT il H
 | _,_,_,_,_=>none
theorem aZ.lh13_inv {F:Nat} {aj:Int->Int->Sl->Int->Int->Hp->OA} {f_:Int->Int->Hp->OA} {dI:Nat->Nat->Int->Int->Int->Hp->OA} {gg:Nat->Nat->Int->Int->Int->Hp->OA} {ks:List Nat} {n:Nat} {tm:Tm} {H:Hp} {r:AV×Hp} (h:aZ.lh13 F aj f_ dI gg ks n tm H=some r):∃ fi iY d_ fm nT il,ks=[]/\dZ tm [(0,(.ptr fi iY)),(1,(.int .i64 d_)),(4,(.ptr fm nT)),(5,(.int .i64 il))]/\aZ.l13 F aj f_ dI gg n fi iY d_ fm nT il H=some r:=by
 unfold aZ.lh13 at h
 split at h
 ·exact ⟨_,_,_,_,_,_,rfl,⟨‹_›,‹_›,‹_›,‹_›,trivial⟩,h⟩
 ·cases h
def aZ.lh15 (F:Nat) (aj:Int->Int->Sl->Int->Int->Hp->OA) (f_:Int->Int->Hp->OA) (dI:Nat->Nat->Int->Int->Int->Hp->OA) (gg:Nat->Nat->Int->Int->Int->Hp->OA) (ks:List Nat) (n:Nat) (tm:Tm) (H:Hp):OA:=match ks,tm 0,tm 1,tm 4,tm 7 with
 | [],(.ptr mQ mR),(.int .i64 iy),(.ptr mS oU),(.int .i64 lJ)=>aZ.l15 F aj f_ dI gg n mQ mR iy mS oU lJ H
 | _,_,_,_,_=>none
theorem aZ.lh15_inv {F:Nat} {aj:Int->Int->Sl->Int->Int->Hp->OA} {f_:Int->Int->Hp->OA} {dI:Nat->Nat->Int->Int->Int->Hp->OA} {gg:Nat->Nat->Int->Int->Int->Hp->OA} {ks:List Nat} {n:Nat} {tm:Tm} {H:Hp} {r:AV×Hp} (h:aZ.lh15 F aj f_ dI gg ks n tm H=some r):∃ mQ mR iy mS oU lJ,ks=[]/\dZ tm [(0,(.ptr mQ mR)),(1,(.int .i64 iy)),(4,(.ptr mS oU)),(7,(.int .i64 lJ))]/\aZ.l15 F aj f_ dI gg n mQ mR iy mS oU lJ H=some r:=by
 unfold aZ.lh15 at h
 split at h
 ·exact ⟨_,_,_,_,_,_,rfl,⟨‹_›,‹_›,‹_›,‹_›,trivial⟩,h⟩
 ·cases h
def aZ.lh (F:Nat) (aj:Int->Int->Sl->Int->Int->Hp->OA) (f_:Int->Int->Hp->OA) (dI:Nat->Nat->Int->Int->Int->Hp->OA) (gg:Nat->Nat->Int->Int->Int->Hp->OA) (p:Nat) (ks:List Nat) (n:Nat) (tm:Tm) (H:Hp):OA:=bif p.beq 15 then aZ.lh15 F aj f_ dI gg ks n tm H else (bif p.beq 13 then aZ.lh13 F aj f_ dI gg ks n tm H else (none))
def aZ.pn:Nat->List Nat:=eU [(4,[12]),(10,[12])]
def aZ.tb:Nat->List (List Nat):=eU [(4,[[],[],[],[0,1,2],[0,1,2,3],[0,1,2,3,4],[],[],[],[0,1,2,3,6,7,8],[0,1,2,3,6,7,8,9],[0,1,2,3,6,7,8,9,10],[0,1,2,3,4,5,6,7,8,9,10,11],[0,1,2,3,4,5,6,7,8,9,10,11,12]]),(10,[[],[],[],[0,1,2],[0,1,2,3],[0,1,2,3,4],[],[],[],[0,1,2,3,6,7,8],[0,1,2,3,6,7,8,9],[0,1,2,3,6,7,8,9,10],[0,1,2,3,4,5,6,7,8,9,10,11],[0,1,2,3,4,5,6,7,8,9,10,11,12]])]
def aZ.mk (g:Nat->Nat->Int->Hp->OA) (args:List AV) (H:Hp):OA:=match args with
 | [(.ptr aa ac),(.int .i64 af)]=>g aa ac af H
 | _=>none
def aZ.cs (F:Nat) (aj:Int->Int->Sl->Int->Int->Hp->OA) (f_:Int->Int->Hp->OA) (dI:Nat->Nat->Int->Int->Int->Hp->OA) (gg:Nat->Nat->Int->Int->Int->Hp->OA):Cs:=[(53,bT.mk aj),(119,ib.mk f_),(102,fw.mk dI),(120,ig.mk gg)]
theorem aZ.loops (F:Nat) (aj:Int->Int->Sl->Int->Int->Hp->OA) (f_:Int->Int->Hp->OA) (dI:Nat->Nat->Int->Int->Int->Hp->OA) (gg:Nat->Nat->Int->Int->Int->Hp->OA):LO (bh (aZ.cs F aj f_ dI gg)) aZ.pn (aZ.lh F aj f_ dI gg) F Tryz.f99:=
 (ae.rt (ae.seq (ae.rt (ae.block (ae.la (λn tm H r h=>by obtain ⟨fi,iY,d_,fm,nT,il,hks,e,h⟩:=aZ.lh13_inv (show aZ.lh13 F aj f_ dI gg [] n tm H=some r from h);obtain _ | k13:=n;cases h;exact ⟨_,rfl,by rw [<- eb e];exact Eq.trans (by kernel_rfl) h⟩) λk13=>ae.no))) (ae.rt (ae.block (ae.la (λn tm H r h=>by obtain ⟨mQ,mR,iy,mS,oU,lJ,hks,e,h⟩:=aZ.lh15_inv (show aZ.lh15 F aj f_ dI gg [] n tm H=some r from h);obtain _ | k15:=n;cases h;exact ⟨_,rfl,by rw [<- eb e];exact Eq.trans (by kernel_rfl) h⟩) λk15=>ae.no)))))
theorem aZ.eqX (F:Nat) (aj:Int->Int->Sl->Int->Int->Hp->OA) (f_:Int->Int->Hp->OA) (dI:Nat->Nat->Int->Int->Int->Hp->OA) (gg:Nat->Nat->Int->Int->Int->Hp->OA) (aa:Nat) (ac:Nat) (af:Int) (H:Hp):EX (bh (aZ.cs F aj f_ dI gg)) aZ.pn (aZ.lh F aj f_ dI gg) F Tryz.f99 [(.ptr aa ac),(.int .i64 af)] H=aZ.twX F aj f_ dI gg aa ac af H:=by kernel_rfl
theorem aZ.k (F:Nat):Ok Tryz.prog 99 (aZ.mk (aZ.tw F)):=by
 intro args H v H' h
 unfold aZ.mk at h
 split at h
 ·exact okT (TB:=aZ.tb) Tryz.func99 (bg (bT.k F) (bg (ib.k F) (bg (fw.k F) (bg (ig.k F) ca)))) (aZ.loops F (bT.tw F) (ib.tw F) (fw.tw F) (ig.tw F)) ((aZ.eqX F (bT.tw F) (ib.tw F) (fw.tw F) (ig.tw F) _ _ _ H).trans h) (by kernel_rfl)
 ·cases h
def js.twX (F:Nat) (aa:Int) (H:Hp):OA:=some ((.bool (aa != 0)),H)
def js.tw (F:Nat) (aa:Int) (H:Hp):OA:=js.twX F aa H
def js.mk (g:Int->Hp->OA) (args:List AV) (H:Hp):OA:=match args with
 | [(.int .i64 aa)]=>g aa H
 | _=>none
theorem js.eqX (F:Nat) (aa:Int) (H:Hp):EX (bh []) aW lh0 F Tryz.f121 [(.int .i64 aa)] H=js.twX F aa H:=by kernel_rfl
theorem js.k (F:Nat):Ok Tryz.prog 121 (js.mk (js.tw F)):=by
 intro args H v H' h
 unfold js.mk at h
 split at h
 ·exact okT (TB:=aW) Tryz.func121 ca ae.no ((js.eqX F _ H).trans h) (by kernel_rfl)
 ·cases h
def eG.l13 (F:Nat) (lK:Int->Hp->OA) :Nat->Sl->Int->Int->Hp->OA
 | 0,_,_,_,_=>none
 | jN+1,nH,iH,gI,H6=>(bif (decide (gI<iH)) then ((Sl.idx nH gI 1).bind λp11=>(Hp.ldI H6 .i64 p11.1 p11.2).bind λn12=>(lK n12 H6).bind λr13=>((r13.1).asB).bind λb14=>(bif b14 then (some ((.int .i64 gI),r13.2)) else (eG.l13 F lK jN nH iH (IntKind.i64.wrap (gI+1)) r13.2))) else (some ((.int .i64 (-1)),H6)))
def eG.twX (F:Nat) (lK:Int->Hp->OA) (aa:Sl) (H:Hp):OA:=eG.l13 F lK F aa (aa.n:Int) 0 H
def eG.tw (F:Nat) (aa:Sl) (H:Hp):OA:=eG.twX F (js.tw F) aa H
def eG.lh13 (F:Nat) (lK:Int->Hp->OA) (ks:List Nat) (n:Nat) (tm:Tm) (H:Hp):OA:=match ks,tm 0,tm 1,tm 7,tm 8 with
 | [],(.sl nH),(.fn 121 []),(.int .i64 iH),(.int .i64 gI)=>eG.l13 F lK n nH iH gI H
 | _,_,_,_,_=>none
theorem eG.lh13_inv {F:Nat} {lK:Int->Hp->OA} {ks:List Nat} {n:Nat} {tm:Tm} {H:Hp} {r:AV×Hp} (h:eG.lh13 F lK ks n tm H=some r):∃ nH iH gI,ks=[]/\dZ tm [(0,(.sl nH)),(1,(.fn 121 [])),(7,(.int .i64 iH)),(8,(.int .i64 gI))]/\eG.l13 F lK n nH iH gI H=some r:=by
 unfold eG.lh13 at h
 split at h
 ·exact ⟨_,_,_,rfl,⟨‹_›,‹_›,‹_›,‹_›,trivial⟩,h⟩
 ·cases h
def eG.lh (F:Nat) (lK:Int->Hp->OA) (p:Nat) (ks:List Nat) (n:Nat) (tm:Tm) (H:Hp):OA:=bif p.beq 13 then eG.lh13 F lK ks n tm H else (none)
def eG.mk (g:Sl->Hp->OA) (args:List AV) (H:Hp):OA:=match args with
 | [(.sl aa),(.fn 121 [])]=>g aa H
 | _=>none
def eG.cs (F:Nat) (lK:Int->Hp->OA):Cs:=[(121,js.mk lK)]
theorem eG.loops (F:Nat) (lK:Int->Hp->OA):LO (bh (eG.cs F lK)) aW (eG.lh F lK) F Tryz.f103:=
 (ae.rt (ae.lt (ae.rt (ae.block (ae.la (λn tm H r h=>by obtain ⟨nH,iH,gI,hks,e,h⟩:=eG.lh13_inv (show eG.lh13 F lK [] n tm H=some r from h);obtain _ | k13:=n;cases h;exact ⟨_,rfl,by rw [<- eb e];exact Eq.trans (by kernel_rfl) h⟩) λk13=>ae.no)))))
theorem eG.eqX (F:Nat) (lK:Int->Hp->OA) (aa:Sl) (H:Hp):EX (bh (eG.cs F lK)) aW (eG.lh F lK) F Tryz.f103 [(.sl aa),(.fn 121 [])] H=eG.twX F lK aa H:=by kernel_rfl
theorem eG.k (F:Nat):Ok Tryz.prog 103 (eG.mk (eG.tw F)):=by
 intro args H v H' h
 unfold eG.mk at h
 split at h
 ·exact okT (TB:=aW) Tryz.func103 (bg (js.k F) ca) (eG.loops F (js.tw F)) ((eG.eqX F (js.tw F) _ H).trans h) (by kernel_rfl)
 ·cases h
def iN.twX (F:Nat) (zd:Sl->Hp->OA) (aa:Sl) (H:Hp):OA:=(zd aa H).bind λr2=>((r2.1).asI .i64).bind λn3=>some ((.bool (decide (n3>=0))),r2.2)
def iN.tw (F:Nat) (aa:Sl) (H:Hp):OA:=iN.twX F (eG.tw F) aa H
def iN.mk (g:Sl->Hp->OA) (args:List AV) (H:Hp):OA:=match args with
 | [(.sl aa),(.fn 121 [])]=>g aa H
 | _=>none
def iN.cs (F:Nat) (zd:Sl->Hp->OA):Cs:=[(103,eG.mk zd)]
theorem iN.eqX (F:Nat) (zd:Sl->Hp->OA) (aa:Sl) (H:Hp):EX (bh (iN.cs F zd)) aW lh0 F Tryz.f78 [(.sl aa),(.fn 121 [])] H=iN.twX F zd aa H:=by kernel_rfl
theorem iN.k (F:Nat):Ok Tryz.prog 78 (iN.mk (iN.tw F)):=by
 intro args H v H' h
 unfold iN.mk at h
 split at h
 ·exact okT (TB:=aW) Tryz.func78 (bg (eG.k F) ca) ae.no ((iN.eqX F (eG.tw F) _ H).trans h) (by kernel_rfl)
 ·cases h
def de.j1 (F:Nat) (aj:Int->Int->Sl->Int->Int->Hp->OA) (cD:Int->Int->Sl->Int->Hp->OA) (kH:Sl->Hp->OA) (ue:Int) (ze:Nat) (GK:Nat) (H34:Hp):OA:=(Hp.ldI H34 .i64 ze GK).bind λn35=>(Hp.ldI H34 .i64 ze (GK+1)).bind λn36=>(Hp.ldSl H34 ze (GK+2)).bind λs37=>(cD n35 n36 s37 ue H34).bind λr38=>((r38.1).asSl).bind λs39=>(Sl.cut s39 1 (IntKind.i64.wrap (ue+1)) (s39.n:Int)).bind λs40=>(kH s40 r38.2).bind λr41=>((r41.1).asB).bind λb42=>some ((.bool (!b42)),r41.2)
def de.l29 (F:Nat) (aj:Int->Int->Sl->Int->Int->Hp->OA) (cD:Int->Int->Sl->Int->Hp->OA) (kH:Sl->Hp->OA) :Nat->Int->Nat->Nat->Int->Hp->OA
 | 0,_,_,_,_,_=>none
 | fj+1,d_,eX,il,nU,H18=>(Hp.ldI H18 .i64 eX il).bind λn43=>(bif (decide (nU<n43)) then ((Hp.ldI H18 .i64 eX il).bind λn44=>(Hp.ldI H18 .i64 eX (il+1)).bind λn45=>(Hp.ldSl H18 eX (il+2)).bind λs46=>(aj n44 n45 s46 nU d_ H18).bind λr47=>((r47.1).asP).bind λp48=>(Hp.ldI r47.2 .i64 p48.1 p48.2).bind λn49=>(bif (n49 != 0) then (some ((.bool false),r47.2)) else (de.l29 F aj cD kH fj d_ eX il (IntKind.i64.wrap (nU+1)) r47.2))) else (de.j1 F aj cD kH d_ eX il H18))
termination_by structural n=>n
def de.twX (F:Nat) (aj:Int->Int->Sl->Int->Int->Hp->OA) (cD:Int->Int->Sl->Int->Hp->OA) (kH:Sl->Hp->OA) (aa:Nat) (ac:Nat) (af:Int) (H:Hp):OA:=(Hp.ldI H .i64 aa (ac+6)).bind λn4=>(Hp.ldI H .i64 aa ((ac+6)+1)).bind λn5=>(Hp.ldSl H aa ((ac+6)+2)).bind λs6=>(Hp.new H [.int .i64 0,.int .i64 0,.sl ⟨none,0,.ex 0⟩]).bind λH7=>(Hp.st H7 H.length 0 (.int .i64 n4)).bind λH8=>(Hp.st H8 H.length (0+1) (.int .i64 n5)).bind λH9=>(Hp.st H9 H.length (0+1+1) (.sl s6)).bind λH10=>de.l29 F aj cD kH F af H.length 0 (IntKind.i64.wrap (af+1)) H10
def de.tw (F:Nat) (aa:Nat) (ac:Nat) (af:Int) (H:Hp):OA:=de.twX F (bT.tw F) (fe.tw F) (iN.tw F) aa ac af H
def de.lh29 (F:Nat) (aj:Int->Int->Sl->Int->Int->Hp->OA) (cD:Int->Int->Sl->Int->Hp->OA) (kH:Sl->Hp->OA) (ks:List Nat) (n:Nat) (tm:Tm) (H:Hp):OA:=match ks,tm 1,tm 5,tm 6 with
 | [],(.int .i64 d_),(.ptr eX il),(.int .i64 nU)=>de.l29 F aj cD kH n d_ eX il nU H
 | _,_,_,_=>none
theorem de.lh29_inv {F:Nat} {aj:Int->Int->Sl->Int->Int->Hp->OA} {cD:Int->Int->Sl->Int->Hp->OA} {kH:Sl->Hp->OA} {ks:List Nat} {n:Nat} {tm:Tm} {H:Hp} {r:AV×Hp} (h:de.lh29 F aj cD kH ks n tm H=some r):∃ d_ eX il nU,ks=[]/\dZ tm [(1,(.int .i64 d_)),(5,(.ptr eX il)),(6,(.int .i64 nU))]/\de.l29 F aj cD kH n d_ eX il nU H=some r:=by
 unfold de.lh29 at h
 split at h
 ·exact ⟨_,_,_,_,rfl,⟨‹_›,‹_›,‹_›,trivial⟩,h⟩
 ·cases h
def de.lh (F:Nat) (aj:Int->Int->Sl->Int->Int->Hp->OA) (cD:Int->Int->Sl->Int->Hp->OA) (kH:Sl->Hp->OA) (p:Nat) (ks:List Nat) (n:Nat) (tm:Tm) (H:Hp):OA:=bif p.beq 29 then de.lh29 F aj cD kH ks n tm H else (none)
def de.mk (g:Nat->Nat->Int->Hp->OA) (args:List AV) (H:Hp):OA:=match args with
 | [(.ptr aa ac),(.int .i64 af)]=>g aa ac af H
 | _=>none
def de.cs (F:Nat) (aj:Int->Int->Sl->Int->Int->Hp->OA) (cD:Int->Int->Sl->Int->Hp->OA) (kH:Sl->Hp->OA):Cs:=[(53,bT.mk aj),(118,fe.mk cD),(78,iN.mk kH)]
theorem de.loops (F:Nat) (aj:Int->Int->Sl->Int->Int->Hp->OA) (cD:Int->Int->Sl->Int->Hp->OA) (kH:Sl->Hp->OA):LO (bh (de.cs F aj cD kH)) aW (de.lh F aj cD kH) F Tryz.f100:=
 (ae.rt (ae.rt (ae.lt (ae.rt (ae.block (ae.la (λn tm H r h=>by obtain ⟨d_,eX,il,nU,hks,e,h⟩:=de.lh29_inv (show de.lh29 F aj cD kH [] n tm H=some r from h);obtain _ | k29:=n;cases h;exact ⟨_,rfl,by rw [<- eb e];exact Eq.trans (by kernel_rfl) h⟩) λk29=>ae.no))))))
theorem de.eqX (F:Nat) (aj:Int->Int->Sl->Int->Int->Hp->OA) (cD:Int->Int->Sl->Int->Hp->OA) (kH:Sl->Hp->OA) (aa:Nat) (ac:Nat) (af:Int) (H:Hp):EX (bh (de.cs F aj cD kH)) aW (de.lh F aj cD kH) F Tryz.f100 [(.ptr aa ac),(.int .i64 af)] H=de.twX F aj cD kH aa ac af H:=by kernel_rfl
theorem de.k (F:Nat):Ok Tryz.prog 100 (de.mk (de.tw F)):=by
 intro args H v H' h
 unfold de.mk at h
 split at h
 ·exact okT (TB:=aW) Tryz.func100 (bg (bT.k F) (bg (fe.k F) (bg (iN.k F) ca))) (de.loops F (bT.tw F) (fe.tw F) (iN.tw F)) ((de.eqX F (bT.tw F) (fe.tw F) (iN.tw F) _ _ _ H).trans h) (by kernel_rfl)
 ·cases h
def iZ.twX (F:Nat) (aj:Int->Int->Sl->Int->Int->Hp->OA) (aa:Int) (ai:Nat) (af:Nat) (cf:Nat) (bS:Nat) (H:Hp):OA:=(Hp.ldI H .i64 ai af).bind λn6=>(Hp.ldI H .i64 ai (af+1)).bind λn7=>(Hp.ldSl H ai (af+2)).bind λs8=>(Hp.ldI H .i64 cf bS).bind λn9=>(Hp.ldI H .i64 cf bS).bind λn10=>(aj n6 n7 s8 n9 n10 H).bind λr11=>((r11.1).asP).bind λp12=>(Hp.ldI r11.2 .i64 p12.1 p12.2).bind λn13=>(if n13=0 then none else (some ((.bool ((Int.tmod aa n13) != 0)),r11.2)))
def iZ.tw (F:Nat) (aa:Int) (ai:Nat) (af:Nat) (cf:Nat) (bS:Nat) (H:Hp):OA:=iZ.twX F (bT.tw F) aa ai af cf bS H
def iZ.mk (g:Int->Nat->Nat->Nat->Nat->Hp->OA) (args:List AV) (H:Hp):OA:=match args with
 | [(.int .i64 aa),(.ptr ai af),(.ptr cf bS)]=>g aa ai af cf bS H
 | _=>none
def iZ.cs (F:Nat) (aj:Int->Int->Sl->Int->Int->Hp->OA):Cs:=[(53,bT.mk aj)]
theorem iZ.eqX (F:Nat) (aj:Int->Int->Sl->Int->Int->Hp->OA) (aa:Int) (ai:Nat) (af:Nat) (cf:Nat) (bS:Nat) (H:Hp):EX (bh (iZ.cs F aj)) aW lh0 F Tryz.f122 [(.int .i64 aa),(.ptr ai af),(.ptr cf bS)] H=iZ.twX F aj aa ai af cf bS H:=by kernel_rfl
theorem iZ.k (F:Nat):Ok Tryz.prog 122 (iZ.mk (iZ.tw F)):=by
 intro args H v H' h
 unfold iZ.mk at h
 split at h
 ·exact okT (TB:=aW) Tryz.func122 (bg (bT.k F) ca) ae.no ((iZ.eqX F (bT.tw F) _ _ _ _ _ H).trans h) (by kernel_rfl)
 ·cases h
def eH.l13 (F:Nat) (lL:Int->Nat->Nat->Nat->Nat->Hp->OA) :Nat->Sl->Nat->Nat->Nat->Nat->Int->Int->Hp->OA
 | 0,_,_,_,_,_,_,_,_=>none
 | jN+1,jA,ai,af,aw,dS,oV,mT,H10=>(bif (decide (mT<oV)) then ((Sl.idx jA mT 1).bind λp15=>(Hp.ldI H10 .i64 p15.1 p15.2).bind λn16=>(lL n16 ai af aw dS H10).bind λr17=>((r17.1).asB).bind λb18=>(bif b18 then (some ((.int .i64 mT),r17.2)) else (eH.l13 F lL jN jA ai af aw dS oV (IntKind.i64.wrap (mT+1)) r17.2))) else (some ((.int .i64 (-1)),H10)))
termination_by structural n=>n
def eH.twX (F:Nat) (lL:Int->Nat->Nat->Nat->Nat->Hp->OA) (aa:Sl) (ai:Nat) (af:Nat) (aw:Nat) (dS:Nat) (H:Hp):OA:=eH.l13 F lL F aa ai af aw dS (aa.n:Int) 0 H
def eH.tw (F:Nat) (aa:Sl) (ai:Nat) (af:Nat) (aw:Nat) (dS:Nat) (H:Hp):OA:=eH.twX F (iZ.tw F) aa ai af aw dS H
def eH.lh13 (F:Nat) (lL:Int->Nat->Nat->Nat->Nat->Hp->OA) (ks:List Nat) (n:Nat) (tm:Tm) (H:Hp):OA:=match ks,tm 0,tm 1,tm 7,tm 8 with
 | [],(.sl jA),(.fn 122 [(.ptr ai af),(.ptr aw dS)]),(.int .i64 oV),(.int .i64 mT)=>eH.l13 F lL n jA ai af aw dS oV mT H
 | _,_,_,_,_=>none
theorem eH.lh13_inv {F:Nat} {lL:Int->Nat->Nat->Nat->Nat->Hp->OA} {ks:List Nat} {n:Nat} {tm:Tm} {H:Hp} {r:AV×Hp} (h:eH.lh13 F lL ks n tm H=some r):∃ jA ai af aw dS oV mT,ks=[]/\dZ tm [(0,(.sl jA)),(1,(.fn 122 [(.ptr ai af),(.ptr aw dS)])),(7,(.int .i64 oV)),(8,(.int .i64 mT))]/\eH.l13 F lL n jA ai af aw dS oV mT H=some r:=by
 unfold eH.lh13 at h
 split at h
 ·exact ⟨_,_,_,_,_,_,_,rfl,⟨‹_›,‹_›,‹_›,‹_›,trivial⟩,h⟩
 ·cases h
def eH.lh (F:Nat) (lL:Int->Nat->Nat->Nat->Nat->Hp->OA) (p:Nat) (ks:List Nat) (n:Nat) (tm:Tm) (H:Hp):OA:=bif p.beq 13 then eH.lh13 F lL ks n tm H else (none)
def eH.mk (g:Sl->Nat->Nat->Nat->Nat->Hp->OA) (args:List AV) (H:Hp):OA:=match args with
 | [(.sl aa),(.fn 122 [(.ptr ai af),(.ptr aw dS)])]=>g aa ai af aw dS H
 | _=>none
def eH.cs (F:Nat) (lL:Int->Nat->Nat->Nat->Nat->Hp->OA):Cs:=[(122,iZ.mk lL)]
theorem eH.loops (F:Nat) (lL:Int->Nat->Nat->Nat->Nat->Hp->OA):LO (bh (eH.cs F lL)) aW (eH.lh F lL) F Tryz.f103:=
 (ae.rt (ae.lt (ae.rt (ae.block (ae.la (λn tm H r h=>by obtain ⟨jA,ai,af,aw,dS,oV,mT,hks,e,h⟩:=eH.lh13_inv (show eH.lh13 F lL [] n tm H=some r from h);obtain _ | k13:=n;cases h;exact ⟨_,rfl,by rw [<- eb e];exact Eq.trans (by kernel_rfl) h⟩) λk13=>ae.no)))))
theorem eH.eqX (F:Nat) (lL:Int->Nat->Nat->Nat->Nat->Hp->OA) (aa:Sl) (ai:Nat) (af:Nat) (aw:Nat) (dS:Nat) (H:Hp):EX (bh (eH.cs F lL)) aW (eH.lh F lL) F Tryz.f103 [(.sl aa),(.fn 122 [(.ptr ai af),(.ptr aw dS)])] H=eH.twX F lL aa ai af aw dS H:=by kernel_rfl
theorem eH.k (F:Nat):Ok Tryz.prog 103 (eH.mk (eH.tw F)):=by
 intro args H v H' h
 unfold eH.mk at h
 split at h
 ·exact okT (TB:=aW) Tryz.func103 (bg (iZ.k F) ca) (eH.loops F (iZ.tw F)) ((eH.eqX F (iZ.tw F) _ _ _ _ _ H).trans h) (by kernel_rfl)
 ·cases h
def i_.twX (F:Nat) (zf:Sl->Nat->Nat->Nat->Nat->Hp->OA) (aa:Sl) (ai:Nat) (af:Nat) (aw:Nat) (dS:Nat) (H:Hp):OA:=(zf aa ai af aw dS H).bind λr6=>((r6.1).asI .i64).bind λn7=>some ((.bool (decide (n7>=0))),r6.2)
def i_.tw (F:Nat) (aa:Sl) (ai:Nat) (af:Nat) (aw:Nat) (dS:Nat) (H:Hp):OA:=i_.twX F (eH.tw F) aa ai af aw dS H
def i_.mk (g:Sl->Nat->Nat->Nat->Nat->Hp->OA) (args:List AV) (H:Hp):OA:=match args with
 | [(.sl aa),(.fn 122 [(.ptr ai af),(.ptr aw dS)])]=>g aa ai af aw dS H
 | _=>none
def i_.cs (F:Nat) (zf:Sl->Nat->Nat->Nat->Nat->Hp->OA):Cs:=[(103,eH.mk zf)]
theorem i_.eqX (F:Nat) (zf:Sl->Nat->Nat->Nat->Nat->Hp->OA) (aa:Sl) (ai:Nat) (af:Nat) (aw:Nat) (dS:Nat) (H:Hp):EX (bh (i_.cs F zf)) aW lh0 F Tryz.f78 [(.sl aa),(.fn 122 [(.ptr ai af),(.ptr aw dS)])] H=i_.twX F zf aa ai af aw dS H:=by kernel_rfl
theorem i_.k (F:Nat):Ok Tryz.prog 78 (i_.mk (i_.tw F)):=by
 intro args H v H' h
 unfold i_.mk at h
 split at h
 ·exact okT (TB:=aW) Tryz.func78 (bg (eH.k F) ca) ae.no ((i_.eqX F (eH.tw F) _ _ _ _ _ H).trans h) (by kernel_rfl)
 ·cases h
def dM.l29 (F:Nat) (cD:Int->Int->Sl->Int->Hp->OA) (lM:Sl->Nat->Nat->Nat->Nat->Hp->OA) :Nat->Nat->Nat->Nat->Nat->Int->Hp->OA
 | 0,_,_,_,_,_,_=>none
 | fj+1,fa,fO,om,kB,gj,H22=>(Hp.ldI H22 .i64 om kB).bind λn33=>(bif (decide (gj<n33)) then ((Hp.ldI H22 .i64 om kB).bind λn34=>(Hp.ldI H22 .i64 om (kB+1)).bind λn35=>(Hp.ldSl H22 om (kB+2)).bind λs36=>(cD n34 n35 s36 gj H22).bind λr37=>((r37.1).asSl).bind λs38=>(if bp H22 r37.2 then ((Hp.ldI r37.2 .i64 fa fO).bind λn39=>(Sl.cut s38 1 (IntKind.i64.wrap (n39+1)) (s38.n:Int)).bind λs40=>(lM s40 om kB fa fO r37.2).bind λr41=>((r41.1).asB).bind λb42=>(bif b42 then (some ((.int .i64 gj),r41.2)) else (dM.l29 F cD lM fj fa fO om kB (IntKind.i64.wrap (gj+1)) r41.2))) else none)) else (some ((.int .i64 (-1)),H22)))
termination_by structural n=>n
def dM.twX (F:Nat) (cD:Int->Int->Sl->Int->Hp->OA) (lM:Sl->Nat->Nat->Nat->Nat->Hp->OA) (aa:Nat) (ac:Nat) (af:Int) (H:Hp):OA:=(Hp.new H [(.int .i64 af)]).bind λH4=>(Hp.ldI H4 .i64 aa (ac+6)).bind λn5=>(Hp.ldI H4 .i64 aa ((ac+6)+1)).bind λn6=>(Hp.ldSl H4 aa ((ac+6)+2)).bind λs7=>(Hp.new H4 [.int .i64 0,.int .i64 0,.sl ⟨none,0,.ex 0⟩]).bind λH8=>(Hp.st H8 H4.length 0 (.int .i64 n5)).bind λH9=>(Hp.st H9 H4.length (0+1) (.int .i64 n6)).bind λH10=>(Hp.st H10 H4.length (0+1+1) (.sl s7)).bind λH11=>(Hp.ldI H11 .i64 H.length 0).bind λn12=>dM.l29 F cD lM F H.length 0 H4.length 0 (IntKind.i64.wrap (n12+1)) H11
def dM.tw (F:Nat) (aa:Nat) (ac:Nat) (af:Int) (H:Hp):OA:=dM.twX F (fe.tw F) (i_.tw F) aa ac af H
def dM.lh29 (F:Nat) (cD:Int->Int->Sl->Int->Hp->OA) (lM:Sl->Nat->Nat->Nat->Nat->Hp->OA) (ks:List Nat) (n:Nat) (tm:Tm) (H:Hp):OA:=match ks,tm 3,tm 5,tm 6 with
 | [],(.ptr fa fO),(.ptr om kB),(.int .i64 gj)=>dM.l29 F cD lM n fa fO om kB gj H
 | _,_,_,_=>none
theorem dM.lh29_inv {F:Nat} {cD:Int->Int->Sl->Int->Hp->OA} {lM:Sl->Nat->Nat->Nat->Nat->Hp->OA} {ks:List Nat} {n:Nat} {tm:Tm} {H:Hp} {r:AV×Hp} (h:dM.lh29 F cD lM ks n tm H=some r):∃ fa fO om kB gj,ks=[]/\dZ tm [(3,(.ptr fa fO)),(5,(.ptr om kB)),(6,(.int .i64 gj))]/\dM.l29 F cD lM n fa fO om kB gj H=some r:=by
 unfold dM.lh29 at h
 split at h
 ·exact ⟨_,_,_,_,_,rfl,⟨‹_›,‹_›,‹_›,trivial⟩,h⟩
 ·cases h
def dM.lh (F:Nat) (cD:Int->Int->Sl->Int->Hp->OA) (lM:Sl->Nat->Nat->Nat->Nat->Hp->OA) (p:Nat) (ks:List Nat) (n:Nat) (tm:Tm) (H:Hp):OA:=bif p.beq 29 then dM.lh29 F cD lM ks n tm H else (none)
def dM.pn:Nat->List Nat:=eU [(5,[7])]
def dM.tb:Nat->List (List Nat):=eU [(5,[[],[],[0,1],[],[3],[0,1,2,3,4],[],[0,1,2,3,4,5,6]])]
def dM.mk (g:Nat->Nat->Int->Hp->OA) (args:List AV) (H:Hp):OA:=match args with
 | [(.ptr aa ac),(.int .i64 af)]=>g aa ac af H
 | _=>none
def dM.cs (F:Nat) (cD:Int->Int->Sl->Int->Hp->OA) (lM:Sl->Nat->Nat->Nat->Nat->Hp->OA):Cs:=[(118,fe.mk cD),(78,i_.mk lM)]
theorem dM.loops (F:Nat) (cD:Int->Int->Sl->Int->Hp->OA) (lM:Sl->Nat->Nat->Nat->Nat->Hp->OA):LO (bh (dM.cs F cD lM)) dM.pn (dM.lh F cD lM) F Tryz.f101:=
 (ae.rt (ae.rt (ae.lt (ae.rt (ae.block (ae.la (λn tm H r h=>by obtain ⟨fa,fO,om,kB,gj,hks,e,h⟩:=dM.lh29_inv (show dM.lh29 F cD lM [] n tm H=some r from h);obtain _ | k29:=n;cases h;exact ⟨_,rfl,by rw [<- eb e];exact Eq.trans (by kernel_rfl) h⟩) λk29=>ae.no))))))
theorem dM.eqX (F:Nat) (cD:Int->Int->Sl->Int->Hp->OA) (lM:Sl->Nat->Nat->Nat->Nat->Hp->OA) (aa:Nat) (ac:Nat) (af:Int) (H:Hp):EX (bh (dM.cs F cD lM)) dM.pn (dM.lh F cD lM) F Tryz.f101 [(.ptr aa ac),(.int .i64 af)] H=dM.twX F cD lM aa ac af H:=by kernel_rfl
theorem dM.k (F:Nat):Ok Tryz.prog 101 (dM.mk (dM.tw F)):=by
 intro args H v H' h
 unfold dM.mk at h
 split at h
 ·exact okT (TB:=dM.tb) Tryz.func101 (bg (fe.k F) (bg (i_.k F) ca)) (dM.loops F (fe.tw F) (i_.tw F)) ((dM.eqX F (fe.tw F) (i_.tw F) _ _ _ H).trans h) (by kernel_rfl)
 ·cases h
def bJ.j4 (F:Nat) (iA:Nat->Nat->Int->Hp->OA) (iB:Nat->Nat->Int->Hp->OA) (iC:Nat->Nat->Int->Hp->OA) (iD:Nat->Nat->Int->Hp->OA) (dI:Nat->Nat->Int->Int->Int->Hp->OA) (C3_:Nat->Nat->Int->Hp->OA) (ZU:Nat) (ZV:Nat) (zg:Int) (H57:Hp):OA:=C3_ ZU ZV zg H57
def bJ.j5 (F:Nat) (iA:Nat->Nat->Int->Hp->OA) (iB:Nat->Nat->Int->Hp->OA) (iC:Nat->Nat->Int->Hp->OA) (iD:Nat->Nat->Int->Hp->OA) (dI:Nat->Nat->Int->Int->Int->Hp->OA) (C3_:Nat->Nat->Int->Hp->OA) (ZW:Nat) (ZX:Nat) (zh:Int) (H80:Hp):OA:=C3_ ZW ZX zh H80
def bJ.j6 (F:Nat) (iA:Nat->Nat->Int->Hp->OA) (iB:Nat->Nat->Int->Hp->OA) (iC:Nat->Nat->Int->Hp->OA) (iD:Nat->Nat->Int->Hp->OA) (dI:Nat->Nat->Int->Int->Int->Hp->OA) (C3_:Nat->Nat->Int->Hp->OA) (xY:Nat) (xZ:Nat) (zi:Int) (H71:Hp):OA:=bJ.j5 F iA iB iC iD dI C3_ xY xZ zi H71
def bJ.l3 (F:Nat) (iA:Nat->Nat->Int->Hp->OA) (iB:Nat->Nat->Int->Hp->OA) (iC:Nat->Nat->Int->Hp->OA) (iD:Nat->Nat->Int->Hp->OA) (dI:Nat->Nat->Int->Int->Int->Hp->OA) :Nat->Nat->Nat->Int->Hp->OA
 | 0,_,_,_,_=>none
 | Dn+1,eV,fc,iO,H6=>(Hp.ldB H6 eV (fc+15)).bind λb44=>(bif (!b44) then ((Hp.ldI H6 .i64 eV (fc+6)).bind λn45=>(Hp.ldI H6 .i64 eV ((fc+6)+1)).bind λn46=>(bif (decide (iO<(if n46<n45 then n46 else n45))) then ((iA eV fc iO H6).bind λr47=>((r47.1).asB).bind λb48=>(bif (!b48) then (some ((.tup []),r47.2)) else ((iB eV fc iO r47.2).bind λr49=>(Hp.ldB r49.2 eV (fc+15)).bind λb50=>(bif b50 then (bJ.j4 F iA iB iC iD dI (bJ.l3 F iA iB iC iD dI Dn) eV fc iO r49.2) else ((iC eV fc iO r49.2).bind λr58=>((r58.1).asB).bind λb59=>(bif (!b59) then (bJ.j4 F iA iB iC iD dI (bJ.l3 F iA iB iC iD dI Dn) eV fc iO r58.2) else ((iD eV fc iO r58.2).bind λr60=>((r60.1).asI .i64).bind λn61=>(bif (decide (n61>=0)) then ((dI eV fc iO n61 1 r60.2).bind λr62=>bJ.j6 F iA iB iC iD dI (bJ.l3 F iA iB iC iD dI Dn) eV fc iO r62.2) else (bJ.j6 F iA iB iC iD dI (bJ.l3 F iA iB iC iD dI Dn) eV fc (IntKind.i64.wrap (iO+1)) r60.2))))))))) else (some ((.tup []),H6)))) else (some ((.tup []),H6)))
termination_by structural n=>n
def bJ.twX (F:Nat) (iA:Nat->Nat->Int->Hp->OA) (iB:Nat->Nat->Int->Hp->OA) (iC:Nat->Nat->Int->Hp->OA) (iD:Nat->Nat->Int->Hp->OA) (dI:Nat->Nat->Int->Int->Int->Hp->OA) (aa:Nat) (ac:Nat) (H:Hp):OA:=bJ.l3 F iA iB iC iD dI F aa ac 0 H
def bJ.tw (F:Nat) (aa:Nat) (ac:Nat) (H:Hp):OA:=bJ.twX F (bK.tw F) (aZ.tw F) (de.tw F) (dM.tw F) (fw.tw F) aa ac H
def bJ.lh3 (F:Nat) (iA:Nat->Nat->Int->Hp->OA) (iB:Nat->Nat->Int->Hp->OA) (iC:Nat->Nat->Int->Hp->OA) (iD:Nat->Nat->Int->Hp->OA) (dI:Nat->Nat->Int->Int->Int->Hp->OA) (ks:List Nat) (n:Nat) (tm:Tm) (H:Hp):OA:=match ks,tm 0,tm 2 with
 | [],(.ptr eV fc),(.int .i64 iO)=>bJ.l3 F iA iB iC iD dI n eV fc iO H
 | _,_,_=>none
theorem bJ.lh3_inv {F:Nat} {iA:Nat->Nat->Int->Hp->OA} {iB:Nat->Nat->Int->Hp->OA} {iC:Nat->Nat->Int->Hp->OA} {iD:Nat->Nat->Int->Hp->OA} {dI:Nat->Nat->Int->Int->Int->Hp->OA} {ks:List Nat} {n:Nat} {tm:Tm} {H:Hp} {r:AV×Hp} (h:bJ.lh3 F iA iB iC iD dI ks n tm H=some r):∃ eV fc iO,ks=[]/\dZ tm [(0,(.ptr eV fc)),(2,(.int .i64 iO))]/\bJ.l3 F iA iB iC iD dI n eV fc iO H=some r:=by
 unfold bJ.lh3 at h
 split at h
 ·exact ⟨_,_,_,rfl,⟨‹_›,‹_›,trivial⟩,h⟩
 ·cases h
def bJ.lh (F:Nat) (iA:Nat->Nat->Int->Hp->OA) (iB:Nat->Nat->Int->Hp->OA) (iC:Nat->Nat->Int->Hp->OA) (iD:Nat->Nat->Int->Hp->OA) (dI:Nat->Nat->Int->Int->Int->Hp->OA) (p:Nat) (ks:List Nat) (n:Nat) (tm:Tm) (H:Hp):OA:=bif p.beq 3 then bJ.lh3 F iA iB iC iD dI ks n tm H else (none)
def bJ.tb:Nat->List (List Nat):=eU [(1,[[],[0],[0,1],[0,1,2],[0,1,2,3],[0,1,2,3,4],[0,1,2,3,4,5],[0,1,2,3,4,5],[0,1,2,3,4,5,7],[0,1,2,3,4,5,7,8],[0,1,2,3,4,5,7,8,9],[0,1,2,3,4,5,7,8,9,10],[0,1,2,3,4,5,7,8,9,10,11],[0,1,2,3,4,5],[0,1,2,3,4,5,13],[0,1,2,3,4,5,13,14],[0,1,2,3,4,5,13,14,15],[0,1,2,3,4,5,13,14,15,16],[0,1,2,3,4,5,13,14,15,16,17],[0,1,2,3,4,5,7,8,9,10,11,12,13,14,15,16,17,18],[0,1,2,3,4,5,6,7,8,9,10,11,12,13,14,15,16,17,18,19],[0,1,2,3,4,5,6,7,8,9,10,11,12,13,14,15,16,17,18,19,20]])]
def bJ.mk (g:Nat->Nat->Hp->OA) (args:List AV) (H:Hp):OA:=match args with
 | [(.ptr aa ac)]=>g aa ac H
 | _=>none
def bJ.cs (F:Nat) (iA:Nat->Nat->Int->Hp->OA) (iB:Nat->Nat->Int->Hp->OA) (iC:Nat->Nat->Int->Hp->OA) (iD:Nat->Nat->Int->Hp->OA) (dI:Nat->Nat->Int->Int->Int->Hp->OA):Cs:=[(98,bK.mk iA),(99,aZ.mk iB),(100,de.mk iC),(101,dM.mk iD),(102,fw.mk dI)]
theorem bJ.loops (F:Nat) (iA:Nat->Nat->Int->Hp->OA) (iB:Nat->Nat->Int->Hp->OA) (iC:Nat->Nat->Int->Hp->OA) (iD:Nat->Nat->Int->Hp->OA) (dI:Nat->Nat->Int->Int->Int->Hp->OA):LO (bh (bJ.cs F iA iB iC iD dI)) aW (bJ.lh F iA iB iC iD dI) F Tryz.f76:=
 (ae.rt (ae.block (ae.la (λn tm H r h=>by obtain ⟨eV,fc,iO,hks,e,h⟩:=bJ.lh3_inv (show bJ.lh3 F iA iB iC iD dI [] n tm H=some r from h);obtain _ | k3:=n;cases h;exact ⟨_,rfl,by rw [<- eb e];exact Eq.trans (by kernel_rfl) h⟩) λk3=>ae.no)))
theorem bJ.eqX (F:Nat) (iA:Nat->Nat->Int->Hp->OA) (iB:Nat->Nat->Int->Hp->OA) (iC:Nat->Nat->Int->Hp->OA) (iD:Nat->Nat->Int->Hp->OA) (dI:Nat->Nat->Int->Int->Int->Hp->OA) (aa:Nat) (ac:Nat) (H:Hp):EX (bh (bJ.cs F iA iB iC iD dI)) aW (bJ.lh F iA iB iC iD dI) F Tryz.f76 [(.ptr aa ac)] H=bJ.twX F iA iB iC iD dI aa ac H:=by kernel_rfl
theorem bJ.k (F:Nat):Ok Tryz.prog 76 (bJ.mk (bJ.tw F)):=by
 intro args H v H' h
 unfold bJ.mk at h
 split at h
 ·exact okT (TB:=bJ.tb) Tryz.func76 (bg (bK.k F) (bg (aZ.k F) (bg (de.k F) (bg (dM.k F) (bg (fw.k F) ca))))) (bJ.loops F (bK.tw F) (aZ.tw F) (de.tw F) (dM.tw F) (fw.tw F)) ((bJ.eqX F (bK.tw F) (aZ.tw F) (de.tw F) (dM.tw F) (fw.tw F) _ _ H).trans h) (by kernel_rfl)
 ·cases h
def iu.twX (F:Nat) (zj:Int->Int->Sl->Hp->OA) (zk:Nat->Nat->Hp->OA) (aa:Int) (ac:Int) (aI:Sl) (H:Hp):OA:=(Hp.new H [(.int .i64 aa),(.int .i64 ac),(.sl aI)]).bind λH4=>(Hp.new H4 [.int .i64 0,.int .i64 0,.sl ⟨none,0,.ex 0⟩,.int .i64 0,.int .i64 0,.sl ⟨none,0,.ex 0⟩,.int .i64 0,.int .i64 0,.sl ⟨none,0,.ex 0⟩,.int .i64 0,.int .i64 0,.sl ⟨none,0,.ex 0⟩,.int .i64 0,.int .i64 0,.sl ⟨none,0,.ex 0⟩]).bind λH5=>(Hp.ldI H5 .i64 H.length 0).bind λn6=>(Hp.ldI H5 .i64 H.length (0+1)).bind λn7=>(Hp.ldSl H5 H.length (0+2)).bind λs8=>(zj n6 n7 s8 H5).bind λr9=>((r9.1).asP).bind λp10=>(zk p10.1 p10.2 r9.2).bind λr11=>(Hp.ldB r11.2 p10.1 (p10.2+15)).bind λb12=>(bif b12 then ((Hp.st r11.2 H4.length 0 (.int .i64 0)).bind λH13=>(Hp.st H13 H4.length (0+1) (.int .i64 0)).bind λH14=>(Hp.st H14 H4.length (0+1+1) (.sl (⟨none,0,.ex 0⟩:Sl))).bind λH15=>(Hp.st H15 H4.length (0+1+1+1) (.int .i64 0)).bind λH16=>(Hp.st H16 H4.length (0+1+1+1+1) (.int .i64 0)).bind λH17=>(Hp.st H17 H4.length (0+1+1+1+1+1) (.sl (⟨none,0,.ex 0⟩:Sl))).bind λH18=>(Hp.st H18 H4.length (0+1+1+1+1+1+1) (.int .i64 0)).bind λH19=>(Hp.st H19 H4.length (0+1+1+1+1+1+1+1) (.int .i64 0)).bind λH20=>(Hp.st H20 H4.length (0+1+1+1+1+1+1+1+1) (.sl (⟨none,0,.ex 0⟩:Sl))).bind λH21=>(Hp.st H21 H4.length (0+1+1+1+1+1+1+1+1+1) (.int .i64 0)).bind λH22=>(Hp.st H22 H4.length (0+1+1+1+1+1+1+1+1+1+1) (.int .i64 0)).bind λH23=>(Hp.st H23 H4.length (0+1+1+1+1+1+1+1+1+1+1+1) (.sl (⟨none,0,.ex 0⟩:Sl))).bind λH24=>(Hp.st H24 H4.length (0+1+1+1+1+1+1+1+1+1+1+1+1) (.int .i64 0)).bind λH25=>(Hp.st H25 H4.length (0+1+1+1+1+1+1+1+1+1+1+1+1+1) (.int .i64 0)).bind λH26=>(Hp.st H26 H4.length (0+1+1+1+1+1+1+1+1+1+1+1+1+1+1) (.sl (⟨none,0,.ex 0⟩:Sl))).bind λH27=>(Hp.ldI H27 .i64 H4.length 0).bind λn28=>(Hp.ldI H27 .i64 H4.length (0+1)).bind λn29=>(Hp.ldSl H27 H4.length (0+2)).bind λs30=>(Hp.ldI H27 .i64 H4.length (0+3)).bind λn31=>(Hp.ldI H27 .i64 H4.length (0+4)).bind λn32=>(Hp.ldSl H27 H4.length (0+5)).bind λs33=>(Hp.ldI H27 .i64 H4.length (0+6)).bind λn34=>(Hp.ldI H27 .i64 H4.length (0+7)).bind λn35=>(Hp.ldSl H27 H4.length (0+8)).bind λs36=>(Hp.ldI H27 .i64 H4.length (0+9)).bind λn37=>(Hp.ldI H27 .i64 H4.length (0+10)).bind λn38=>(Hp.ldSl H27 H4.length (0+11)).bind λs39=>(Hp.ldI H27 .i64 H4.length (0+12)).bind λn40=>(Hp.ldI H27 .i64 H4.length (0+13)).bind λn41=>(Hp.ldSl H27 H4.length (0+14)).bind λs42=>some ((.tup [(.agg [(.int .i64 n28),(.int .i64 n29),(.sl s30),(.int .i64 n31),(.int .i64 n32),(.sl s33),(.int .i64 n34),(.int .i64 n35),(.sl s36),(.int .i64 n37),(.int .i64 n38),(.sl s39),(.int .i64 n40),(.int .i64 n41),(.sl s42)]),(.int .i64 3)]),H27)) else ((Hp.ldI r11.2 .i64 p10.1 p10.2).bind λn43=>(Hp.ldI r11.2 .i64 p10.1 (p10.2+1)).bind λn44=>(Hp.ldSl r11.2 p10.1 (p10.2+2)).bind λs45=>(Hp.ldI r11.2 .i64 p10.1 (p10.2+3)).bind λn46=>(Hp.ldI r11.2 .i64 p10.1 (p10.2+4)).bind λn47=>(Hp.ldSl r11.2 p10.1 (p10.2+5)).bind λs48=>(Hp.ldI r11.2 .i64 p10.1 (p10.2+6)).bind λn49=>(Hp.ldI r11.2 .i64 p10.1 (p10.2+7)).bind λn50=>(Hp.ldSl r11.2 p10.1 (p10.2+8)).bind λs51=>(Hp.ldI r11.2 .i64 p10.1 (p10.2+9)).bind λn52=>(Hp.ldI r11.2 .i64 p10.1 (p10.2+10)).bind λn53=>(Hp.ldSl r11.2 p10.1 (p10.2+11)).bind λs54=>(Hp.ldI r11.2 .i64 p10.1 (p10.2+12)).bind λn55=>(Hp.ldI r11.2 .i64 p10.1 (p10.2+13)).bind λn56=>(Hp.ldSl r11.2 p10.1 (p10.2+14)).bind λs57=>(Hp.st r11.2 H4.length 0 (.int .i64 n43)).bind λH58=>(Hp.st H58 H4.length (0+1) (.int .i64 n44)).bind λH59=>(Hp.st H59 H4.length (0+1+1) (.sl s45)).bind λH60=>(Hp.st H60 H4.length (0+1+1+1) (.int .i64 n46)).bind λH61=>(Hp.st H61 H4.length (0+1+1+1+1) (.int .i64 n47)).bind λH62=>(Hp.st H62 H4.length (0+1+1+1+1+1) (.sl s48)).bind λH63=>(Hp.st H63 H4.length (0+1+1+1+1+1+1) (.int .i64 n49)).bind λH64=>(Hp.st H64 H4.length (0+1+1+1+1+1+1+1) (.int .i64 n50)).bind λH65=>(Hp.st H65 H4.length (0+1+1+1+1+1+1+1+1) (.sl s51)).bind λH66=>(Hp.st H66 H4.length (0+1+1+1+1+1+1+1+1+1) (.int .i64 n52)).bind λH67=>(Hp.st H67 H4.length (0+1+1+1+1+1+1+1+1+1+1) (.int .i64 n53)).bind λH68=>(Hp.st H68 H4.length (0+1+1+1+1+1+1+1+1+1+1+1) (.sl s54)).bind λH69=>(Hp.st H69 H4.length (0+1+1+1+1+1+1+1+1+1+1+1+1) (.int .i64 n55)).bind λH70=>(Hp.st H70 H4.length (0+1+1+1+1+1+1+1+1+1+1+1+1+1) (.int .i64 n56)).bind λH71=>(Hp.st H71 H4.length (0+1+1+1+1+1+1+1+1+1+1+1+1+1+1) (.sl s57)).bind λH72=>(Hp.ldI H72 .i64 H4.length 0).bind λn73=>(Hp.ldI H72 .i64 H4.length (0+1)).bind λn74=>(Hp.ldSl H72 H4.length (0+2)).bind λs75=>(Hp.ldI H72 .i64 H4.length (0+3)).bind λn76=>(Hp.ldI H72 .i64 H4.length (0+4)).bind λn77=>(Hp.ldSl H72 H4.length (0+5)).bind λs78=>(Hp.ldI H72 .i64 H4.length (0+6)).bind λn79=>(Hp.ldI H72 .i64 H4.length (0+7)).bind λn80=>(Hp.ldSl H72 H4.length (0+8)).bind λs81=>(Hp.ldI H72 .i64 H4.length (0+9)).bind λn82=>(Hp.ldI H72 .i64 H4.length (0+10)).bind λn83=>(Hp.ldSl H72 H4.length (0+11)).bind λs84=>(Hp.ldI H72 .i64 H4.length (0+12)).bind λn85=>(Hp.ldI H72 .i64 H4.length (0+13)).bind λn86=>(Hp.ldSl H72 H4.length (0+14)).bind λs87=>some ((.tup [(.agg [(.int .i64 n73),(.int .i64 n74),(.sl s75),(.int .i64 n76),(.int .i64 n77),(.sl s78),(.int .i64 n79),(.int .i64 n80),(.sl s81),(.int .i64 n82),(.int .i64 n83),(.sl s84),(.int .i64 n85),(.int .i64 n86),(.sl s87)]),(.int .i64 0)]),H72)))
def iu.tw (F:Nat) (aa:Int) (ac:Int) (aI:Sl) (H:Hp):OA:=iu.twX F (kG.tw F) (bJ.tw F) aa ac aI H
def iu.mk (g:Int->Int->Sl->Hp->OA) (args:List AV) (H:Hp):OA:=match args with
 | [(.agg [(.int .i64 aa),(.int .i64 ac),(.sl aI)])]=>g aa ac aI H
 | _=>none
def iu.cs (F:Nat) (zj:Int->Int->Sl->Hp->OA) (zk:Nat->Nat->Hp->OA):Cs:=[(75,kG.mk zj),(76,bJ.mk zk)]
theorem iu.eqX (F:Nat) (zj:Int->Int->Sl->Hp->OA) (zk:Nat->Nat->Hp->OA) (aa:Int) (ac:Int) (aI:Sl) (H:Hp):EX (bh (iu.cs F zj zk)) aW lh0 F Tryz.f54 [(.agg [(.int .i64 aa),(.int .i64 ac),(.sl aI)])] H=iu.twX F zj zk aa ac aI H:=by kernel_rfl
theorem iu.k (F:Nat):Ok Tryz.prog 54 (iu.mk (iu.tw F)):=by
 intro args H v H' h
 unfold iu.mk at h
 split at h
 ·exact okT (TB:=aW) Tryz.func54 (bg (kG.k F) (bg (bJ.k F) ca)) ae.no ((iu.eqX F (kG.tw F) (bJ.tw F) _ _ _ H).trans h) (by kernel_rfl)
 ·cases h
def cQ.j2 (F:Nat) (kb:Int->Int->Sl->Hp->OA) (aj:Int->Int->Sl->Int->Int->Hp->OA) (C125_:Nat->Nat->Sl->Int->Int->Hp->OA) (Do:Nat) (ZY:Nat) (ZZ:Sl) (zm:Int) (zn:Int) (H132:Hp):OA:=C125_ Do ZY ZZ zm (IntKind.i64.wrap (zn+1)) H132
def cQ.l125 (F:Nat) (kb:Int->Int->Sl->Hp->OA) (aj:Int->Int->Sl->Int->Int->Hp->OA) :Nat->Nat->Nat->Sl->Int->Int->Hp->OA
 | 0,_,_,_,_,_,_=>none
 | PR+1,oW,qW,sG,nV,lN,H76=>(bif (decide (lN<nV)) then ((Hp.ldI H76 .i64 oW (qW+6)).bind λn105=>(Hp.ldI H76 .i64 oW ((qW+6)+1)).bind λn106=>(Hp.ldSl H76 oW ((qW+6)+2)).bind λs107=>(aj n105 n106 s107 lN lN H76).bind λr108=>((r108.1).asP).bind λp109=>(Hp.ldI r108.2 .i64 p109.1 p109.2).bind λn110=>(bif (n110 != 0) then ((Hp.new r108.2 [(.int .i64 n110)]).bind λH111=>(Sl.row H111 (⟨some (r108.2.length,0),1,.ex 1⟩:Sl) 1).bind λxs113=>(Hp.app H111 1 8 sG (⟨some (r108.2.length,0),1,.ex 1⟩:Sl).n xs113).bind λa112=>cQ.j2 F kb aj (cQ.l125 F kb aj PR) oW qW a112.1 nV lN a112.2) else (cQ.j2 F kb aj (cQ.l125 F kb aj PR) oW qW sG nV lN r108.2))) else (some ((.tup [(.sl sG),(.int .i64 0)]),H76)))
termination_by structural n=>n
def cQ.twX (F:Nat) (kb:Int->Int->Sl->Hp->OA) (aj:Int->Int->Sl->Int->Int->Hp->OA) (aa:Int) (ac:Int) (aI:Sl) (H:Hp):OA:=(Hp.new H [(.int .i64 aa),(.int .i64 ac),(.sl aI)]).bind λH4=>(Hp.ldI H4 .i64 H.length 0).bind λn5=>(Hp.ldI H4 .i64 H.length (0+1)).bind λn6=>(Hp.ldSl H4 H.length (0+2)).bind λs7=>(kb n5 n6 s7 H4).bind λr8=>((r8.1).asTup 2).bind λl9=>(l9[0]?).bind λv10=>((v10).asAgg 15).bind λl11=>(l11[0]?).bind λv12=>((v12).asI .i64).bind λn13=>(l11[1]?).bind λv14=>((v14).asI .i64).bind λn15=>(l11[2]?).bind λv16=>((v16).asSl).bind λs17=>(l11[3]?).bind λv18=>((v18).asI .i64).bind λn19=>(l11[4]?).bind λv20=>((v20).asI .i64).bind λn21=>(l11[5]?).bind λv22=>((v22).asSl).bind λs23=>(l11[6]?).bind λv24=>((v24).asI .i64).bind λn25=>(l11[7]?).bind λv26=>((v26).asI .i64).bind λn27=>(l11[8]?).bind λv28=>((v28).asSl).bind λs29=>(l11[9]?).bind λv30=>((v30).asI .i64).bind λn31=>(l11[10]?).bind λv32=>((v32).asI .i64).bind λn33=>(l11[11]?).bind λv34=>((v34).asSl).bind λs35=>(l11[12]?).bind λv36=>((v36).asI .i64).bind λn37=>(l11[13]?).bind λv38=>((v38).asI .i64).bind λn39=>(l11[14]?).bind λv40=>((v40).asSl).bind λs41=>(l9[1]?).bind λv42=>((v42).asI .i64).bind λn43=>(Hp.new r8.2 [.int .i64 0,.int .i64 0,.sl ⟨none,0,.ex 0⟩,.int .i64 0,.int .i64 0,.sl ⟨none,0,.ex 0⟩,.int .i64 0,.int .i64 0,.sl ⟨none,0,.ex 0⟩,.int .i64 0,.int .i64 0,.sl ⟨none,0,.ex 0⟩,.int .i64 0,.int .i64 0,.sl ⟨none,0,.ex 0⟩]).bind λH44=>(Hp.st H44 r8.2.length 0 (.int .i64 n13)).bind λH45=>(Hp.st H45 r8.2.length (0+1) (.int .i64 n15)).bind λH46=>(Hp.st H46 r8.2.length (0+1+1) (.sl s17)).bind λH47=>(Hp.st H47 r8.2.length (0+1+1+1) (.int .i64 n19)).bind λH48=>(Hp.st H48 r8.2.length (0+1+1+1+1) (.int .i64 n21)).bind λH49=>(Hp.st H49 r8.2.length (0+1+1+1+1+1) (.sl s23)).bind λH50=>(Hp.st H50 r8.2.length (0+1+1+1+1+1+1) (.int .i64 n25)).bind λH51=>(Hp.st H51 r8.2.length (0+1+1+1+1+1+1+1) (.int .i64 n27)).bind λH52=>(Hp.st H52 r8.2.length (0+1+1+1+1+1+1+1+1) (.sl s29)).bind λH53=>(Hp.st H53 r8.2.length (0+1+1+1+1+1+1+1+1+1) (.int .i64 n31)).bind λH54=>(Hp.st H54 r8.2.length (0+1+1+1+1+1+1+1+1+1+1) (.int .i64 n33)).bind λH55=>(Hp.st H55 r8.2.length (0+1+1+1+1+1+1+1+1+1+1+1) (.sl s35)).bind λH56=>(Hp.st H56 r8.2.length (0+1+1+1+1+1+1+1+1+1+1+1+1) (.int .i64 n37)).bind λH57=>(Hp.st H57 r8.2.length (0+1+1+1+1+1+1+1+1+1+1+1+1+1) (.int .i64 n39)).bind λH58=>(Hp.st H58 r8.2.length (0+1+1+1+1+1+1+1+1+1+1+1+1+1+1) (.sl s41)).bind λH59=>(bif (n43 != 0) then (some ((.tup [(.sl (⟨none,0,.ex 0⟩:Sl)),(.int .i64 n43)]),H59)) else ((Hp.ldI H59 .i64 H.length 0).bind λn60=>(Hp.ldI H59 .i64 H.length 1).bind λn61=>cQ.l125 F kb aj F r8.2.length 0 (⟨none,0,.ex 0⟩:Sl) (if n61<n60 then n61 else n60) 0 H59))
def cQ.tw (F:Nat) (aa:Int) (ac:Int) (aI:Sl) (H:Hp):OA:=cQ.twX F (iu.tw F) (bT.tw F) aa ac aI H
def cQ.lh125 (F:Nat) (kb:Int->Int->Sl->Hp->OA) (aj:Int->Int->Sl->Int->Int->Hp->OA) (ks:List Nat) (n:Nat) (tm:Tm) (H:Hp):OA:=match ks,tm 4,tm 6,tm 21,tm 22 with
 | [],(.ptr oW qW),(.sl sG),(.int .i64 nV),(.int .i64 lN)=>cQ.l125 F kb aj n oW qW sG nV lN H
 | _,_,_,_,_=>none
theorem cQ.lh125_inv {F:Nat} {kb:Int->Int->Sl->Hp->OA} {aj:Int->Int->Sl->Int->Int->Hp->OA} {ks:List Nat} {n:Nat} {tm:Tm} {H:Hp} {r:AV×Hp} (h:cQ.lh125 F kb aj ks n tm H=some r):∃ oW qW sG nV lN,ks=[]/\dZ tm [(4,(.ptr oW qW)),(6,(.sl sG)),(21,(.int .i64 nV)),(22,(.int .i64 lN))]/\cQ.l125 F kb aj n oW qW sG nV lN H=some r:=by
 unfold cQ.lh125 at h
 split at h
 ·exact ⟨_,_,_,_,_,rfl,⟨‹_›,‹_›,‹_›,‹_›,trivial⟩,h⟩
 ·cases h
def cQ.lh (F:Nat) (kb:Int->Int->Sl->Hp->OA) (aj:Int->Int->Sl->Int->Int->Hp->OA) (p:Nat) (ks:List Nat) (n:Nat) (tm:Tm) (H:Hp):OA:=bif p.beq 125 then cQ.lh125 F kb aj ks n tm H else (none)
def cQ.mk (g:Int->Int->Sl->Hp->OA) (args:List AV) (H:Hp):OA:=match args with
 | [(.agg [(.int .i64 aa),(.int .i64 ac),(.sl aI)])]=>g aa ac aI H
 | _=>none
def cQ.cs (F:Nat) (kb:Int->Int->Sl->Hp->OA) (aj:Int->Int->Sl->Int->Int->Hp->OA):Cs:=[(54,iu.mk kb),(53,bT.mk aj)]
theorem cQ.loops (F:Nat) (kb:Int->Int->Sl->Hp->OA) (aj:Int->Int->Sl->Int->Int->Hp->OA):LO (bh (cQ.cs F kb aj)) aW (cQ.lh F kb aj) F Tryz.f26:=
 (ae.rt (ae.rt (ae.rt (ae.rt (ae.lt (ae.rt (ae.block (ae.la (λn tm H r h=>by obtain ⟨oW,qW,sG,nV,lN,hks,e,h⟩:=cQ.lh125_inv (show cQ.lh125 F kb aj [] n tm H=some r from h);obtain _ | k125:=n;cases h;exact ⟨_,rfl,by rw [<- eb e];exact Eq.trans (by kernel_rfl) h⟩) λk125=>ae.no))))))))
theorem cQ.eqX (F:Nat) (kb:Int->Int->Sl->Hp->OA) (aj:Int->Int->Sl->Int->Int->Hp->OA) (aa:Int) (ac:Int) (aI:Sl) (H:Hp):EX (bh (cQ.cs F kb aj)) aW (cQ.lh F kb aj) F Tryz.f26 [(.agg [(.int .i64 aa),(.int .i64 ac),(.sl aI)])] H=cQ.twX F kb aj aa ac aI H:=by kernel_rfl
theorem cQ.k (F:Nat):Ok Tryz.prog 26 (cQ.mk (cQ.tw F)):=by
 intro args H v H' h
 unfold cQ.mk at h
 split at h
 ·exact okT (TB:=aW) Tryz.func26 (bg (iu.k F) (bg (bT.k F) ca)) (cQ.loops F (iu.tw F) (bT.tw F)) ((cQ.eqX F (iu.tw F) (bT.tw F) _ _ _ H).trans h) (by kernel_rfl)
 ·cases h
def jf.twX (F:Nat) (aa:Sl) (H:Hp):OA:=some ((.int .i64 (aa.n:Int)),H)
def jf.tw (F:Nat) (aa:Sl) (H:Hp):OA:=jf.twX F aa H
def jf.mk (g:Sl->Hp->OA) (args:List AV) (H:Hp):OA:=match args with
 | [(.sl aa)]=>g aa H
 | _=>none
theorem jf.eqX (F:Nat) (aa:Sl) (H:Hp):EX (bh []) aW lh0 F Tryz.f27 [(.sl aa)] H=jf.twX F aa H:=by kernel_rfl
theorem jf.k (F:Nat):Ok Tryz.prog 27 (jf.mk (jf.tw F)):=by
 intro args H v H' h
 unfold jf.mk at h
 split at h
 ·exact okT (TB:=aW) Tryz.func27 ca ae.no ((jf.eqX F _ H).trans h) (by kernel_rfl)
 ·cases h
def eo.l14 (F:Nat) (cU:Int->Hp->OA) :Nat->Int->Int->Hp->OA
 | 0,_,_,_=>none
 | Z_+1,ij,dl,H10=>(bif (dl != 0) then ((if dl=0 then none else (eo.l14 F cU Z_ dl (Int.tmod ij dl) H10))) else (some ((.int .i64 ij),H10)))
def eo.twX (F:Nat) (cU:Int->Hp->OA) (aa:Int) (ai:Int) (H:Hp):OA:=(cU aa H).bind λr3=>((r3.1).asI .i64).bind λn4=>(cU ai r3.2).bind λr5=>((r5.1).asI .i64).bind λn6=>eo.l14 F cU F n4 n6 r5.2
def eo.tw (F:Nat) (aa:Int) (ai:Int) (H:Hp):OA:=eo.twX F (ev.tw F) aa ai H
def eo.lh14 (F:Nat) (cU:Int->Hp->OA) (ks:List Nat) (n:Nat) (tm:Tm) (H:Hp):OA:=match ks,tm 0,tm 1 with
 | [],(.int .i64 ij),(.int .i64 dl)=>eo.l14 F cU n ij dl H
 | _,_,_=>none
theorem eo.lh14_inv {F:Nat} {cU:Int->Hp->OA} {ks:List Nat} {n:Nat} {tm:Tm} {H:Hp} {r:AV×Hp} (h:eo.lh14 F cU ks n tm H=some r):∃ ij dl,ks=[]/\dZ tm [(0,(.int .i64 ij)),(1,(.int .i64 dl))]/\eo.l14 F cU n ij dl H=some r:=by
 unfold eo.lh14 at h
 split at h
 ·exact ⟨_,_,rfl,⟨‹_›,‹_›,trivial⟩,h⟩
 ·cases h
def eo.lh (F:Nat) (cU:Int->Hp->OA) (p:Nat) (ks:List Nat) (n:Nat) (tm:Tm) (H:Hp):OA:=bif p.beq 14 then eo.lh14 F cU ks n tm H else (none)
def eo.tb:Nat->List (List Nat):=eU [(3,[[],[],[],[1,2],[0,1],[0,1,2,3,4]])]
def eo.mk (g:Int->Int->Hp->OA) (args:List AV) (H:Hp):OA:=match args with
 | [(.int .i64 aa),(.int .i64 ai)]=>g aa ai H
 | _=>none
def eo.cs (F:Nat) (cU:Int->Hp->OA):Cs:=[(55,ev.mk cU)]
theorem eo.loops (F:Nat) (cU:Int->Hp->OA):LO (bh (eo.cs F cU)) aW (eo.lh F cU) F Tryz.f28:=
 (ae.rt (ae.rt (ae.lt (ae.block (ae.la (λn tm H r h=>by obtain ⟨ij,dl,hks,e,h⟩:=eo.lh14_inv (show eo.lh14 F cU [] n tm H=some r from h);obtain _ | k14:=n;cases h;exact ⟨_,rfl,by rw [<- eb e];exact Eq.trans (by kernel_rfl) h⟩) λk14=>ae.no)))))
theorem eo.eqX (F:Nat) (cU:Int->Hp->OA) (aa:Int) (ai:Int) (H:Hp):EX (bh (eo.cs F cU)) aW (eo.lh F cU) F Tryz.f28 [(.int .i64 aa),(.int .i64 ai)] H=eo.twX F cU aa ai H:=by kernel_rfl
theorem eo.k (F:Nat):Ok Tryz.prog 28 (eo.mk (eo.tw F)):=by
 intro args H v H' h
 unfold eo.mk at h
 split at h
 ·exact okT (TB:=eo.tb) Tryz.func28 (bg (ev.k F) ca) (eo.loops F (ev.tw F)) ((eo.eqX F (ev.tw F) _ _ H).trans h) (by kernel_rfl)
 ·cases h
def cY.j2 (F:Nat) (kc:Sl->Int->Int->Hp->OA) (kd:Sl->Int->Hp->OA) (ke:Int->Int->Sl->Hp->OA) (kf:Sl->Hp->OA) (kg:Int->Int->Hp->OA) (iz:Int->Int->Int->Hp->OA) (C509_:Int->Sl->Int->Int->Int->Hp->OA) (zo:Int) (aaa:Sl) (zp:Int) (zq:Int) (zr:Int) (zt:Int) (H115:Hp):OA:=(iz zp zq 1000000000000 H115).bind λr116=>((r116.1).asTup 2).bind λl117=>(l117[0]?).bind λv118=>((v118).asI .i64).bind λn119=>(l117[1]?).bind λv120=>((v120).asB).bind λb121=>(bif (!b121) then (some ((.tup [(.int .i64 0),(.int .i64 3)]),r116.2)) else (C509_ zo aaa n119 zr (IntKind.i64.wrap (zt+1)) r116.2))
def cY.l509 (F:Nat) (kc:Sl->Int->Int->Hp->OA) (kd:Sl->Int->Hp->OA) (ke:Int->Int->Sl->Hp->OA) (kf:Sl->Hp->OA) (kg:Int->Int->Hp->OA) (iz:Int->Int->Int->Hp->OA) :Nat->Int->Sl->Int->Int->Int->Hp->OA
 | 0,_,_,_,_,_,_=>none
 | AK+1,mU,rL,nW,nX,lO,H51=>(bif (decide (lO<nX)) then ((kf rL H51).bind λr87=>((r87.1).asI .i64).bind λn88=>(bif (decide (lO<n88)) then ((Sl.idx rL lO 1).bind λp89=>(Hp.ldI r87.2 .i64 p89.1 p89.2).bind λn90=>(kg n90 mU r87.2).bind λr91=>((r91.1).asI .i64).bind λn92=>cY.j2 F kc kd ke kf kg iz (cY.l509 F kc kd ke kf kg iz AK) mU rL nW n92 nX lO r91.2) else (cY.j2 F kc kd ke kf kg iz (cY.l509 F kc kd ke kf kg iz AK) mU rL nW mU nX lO r87.2))) else (some ((.tup [(.int .i64 nW),(.int .i64 0)]),H51)))
def cY.twX (F:Nat) (kc:Sl->Int->Int->Hp->OA) (kd:Sl->Int->Hp->OA) (ke:Int->Int->Sl->Hp->OA) (kf:Sl->Hp->OA) (kg:Int->Int->Hp->OA) (iz:Int->Int->Int->Hp->OA) (aa:Sl) (ac:Int) (af:Int) (H:Hp):OA:=(Hp.new H [(.sl aa),(.int .i64 ac)]).bind λH4=>(Hp.ldSl H4 H.length 0).bind λs5=>(Hp.ldI H4 .i64 H.length (0+1)).bind λn6=>(kc s5 n6 af H4).bind λr7=>((r7.1).asI .i64).bind λn8=>(bif (n8 != 0) then (some ((.tup [(.int .i64 0),(.int .i64 n8)]),r7.2)) else ((Hp.ldSl r7.2 H.length 0).bind λs9=>(Hp.ldI r7.2 .i64 H.length (0+1)).bind λn10=>(kd s9 n10 r7.2).bind λr11=>((r11.1).asAgg 3).bind λl12=>(l12[0]?).bind λv13=>((v13).asI .i64).bind λn14=>(l12[1]?).bind λv15=>((v15).asI .i64).bind λn16=>(l12[2]?).bind λv17=>((v17).asSl).bind λs18=>(Hp.new r11.2 [.int .i64 0,.int .i64 0,.sl ⟨none,0,.ex 0⟩]).bind λH19=>(Hp.st H19 r11.2.length 0 (.int .i64 n14)).bind λH20=>(Hp.st H20 r11.2.length (0+1) (.int .i64 n16)).bind λH21=>(Hp.st H21 r11.2.length (0+1+1) (.sl s18)).bind λH22=>(Hp.ldI H22 .i64 r11.2.length 0).bind λn23=>(Hp.ldI H22 .i64 r11.2.length (0+1)).bind λn24=>(Hp.ldSl H22 r11.2.length (0+2)).bind λs25=>(ke n23 n24 s25 H22).bind λr26=>((r26.1).asTup 2).bind λl27=>(l27[0]?).bind λv28=>((v28).asSl).bind λs29=>(l27[1]?).bind λv30=>((v30).asI .i64).bind λn31=>(bif (n31 != 0) then (some ((.tup [(.int .i64 0),(.int .i64 n31)]),r26.2)) else ((Hp.ldI r26.2 .i64 r11.2.length 1).bind λn32=>cY.l509 F kc kd ke kf kg iz F af s29 1 n32 0 r26.2))))
def cY.tw (F:Nat) (aa:Sl) (ac:Int) (af:Int) (H:Hp):OA:=cY.twX F (iJ.tw F) (dW.tw F) (cQ.tw F) (jf.tw F) (eo.tw F) (fN.tw F) aa ac af H
def cY.lh509 (F:Nat) (kc:Sl->Int->Int->Hp->OA) (kd:Sl->Int->Hp->OA) (ke:Int->Int->Sl->Hp->OA) (kf:Sl->Hp->OA) (kg:Int->Int->Hp->OA) (iz:Int->Int->Int->Hp->OA) (ks:List Nat) (n:Nat) (tm:Tm) (H:Hp):OA:=match ks,tm 1,tm 8,tm 10,tm 31,tm 32 with
 | [],(.int .i64 mU),(.sl rL),(.int .i64 nW),(.int .i64 nX),(.int .i64 lO)=>cY.l509 F kc kd ke kf kg iz n mU rL nW nX lO H
 | _,_,_,_,_,_=>none
theorem cY.lh509_inv {F:Nat} {kc:Sl->Int->Int->Hp->OA} {kd:Sl->Int->Hp->OA} {ke:Int->Int->Sl->Hp->OA} {kf:Sl->Hp->OA} {kg:Int->Int->Hp->OA} {iz:Int->Int->Int->Hp->OA} {ks:List Nat} {n:Nat} {tm:Tm} {H:Hp} {r:AV×Hp} (h:cY.lh509 F kc kd ke kf kg iz ks n tm H=some r):∃ mU rL nW nX lO,ks=[]/\dZ tm [(1,(.int .i64 mU)),(8,(.sl rL)),(10,(.int .i64 nW)),(31,(.int .i64 nX)),(32,(.int .i64 lO))]/\cY.l509 F kc kd ke kf kg iz n mU rL nW nX lO H=some r:=by
 unfold cY.lh509 at h
 split at h
 ·exact ⟨_,_,_,_,_,rfl,⟨‹_›,‹_›,‹_›,‹_›,‹_›,trivial⟩,h⟩
 ·cases h
def cY.lh (F:Nat) (kc:Sl->Int->Int->Hp->OA) (kd:Sl->Int->Hp->OA) (ke:Int->Int->Sl->Hp->OA) (kf:Sl->Hp->OA) (kg:Int->Int->Hp->OA) (iz:Int->Int->Int->Hp->OA) (p:Nat) (ks:List Nat) (n:Nat) (tm:Tm) (H:Hp):OA:=bif p.beq 509 then cY.lh509 F kc kd ke kf kg iz ks n tm H else (none)
def cY.mk (g:Sl->Int->Int->Hp->OA) (args:List AV) (H:Hp):OA:=match args with
 | [(.agg [(.sl aa),(.int .i64 ac)]),(.int .i64 af)]=>g aa ac af H
 | _=>none
def cY.cs (F:Nat) (kc:Sl->Int->Int->Hp->OA) (kd:Sl->Int->Hp->OA) (ke:Int->Int->Sl->Hp->OA) (kf:Sl->Hp->OA) (kg:Int->Int->Hp->OA) (iz:Int->Int->Int->Hp->OA):Cs:=[(24,iJ.mk kc),(25,dW.mk kd),(26,cQ.mk ke),(27,jf.mk kf),(28,eo.mk kg),(29,fN.mk iz)]
theorem cY.loops (F:Nat) (kc:Sl->Int->Int->Hp->OA) (kd:Sl->Int->Hp->OA) (ke:Int->Int->Sl->Hp->OA) (kf:Sl->Hp->OA) (kg:Int->Int->Hp->OA) (iz:Int->Int->Int->Hp->OA):LO (bh (cY.cs F kc kd ke kf kg iz)) aW (cY.lh F kc kd ke kf kg iz) F Tryz.f8:=
 (ae.rt (ae.rt (ae.rt (ae.rt (ae.rt (ae.rt (ae.lt (ae.rt (ae.block (ae.la (λn tm H r h=>by obtain ⟨mU,rL,nW,nX,lO,hks,e,h⟩:=cY.lh509_inv (show cY.lh509 F kc kd ke kf kg iz [] n tm H=some r from h);obtain _ | k509:=n;cases h;exact ⟨_,rfl,by rw [<- eb e];exact Eq.trans (by kernel_rfl) h⟩) λk509=>ae.no))))))))))
theorem cY.eqX (F:Nat) (kc:Sl->Int->Int->Hp->OA) (kd:Sl->Int->Hp->OA) (ke:Int->Int->Sl->Hp->OA) (kf:Sl->Hp->OA) (kg:Int->Int->Hp->OA) (iz:Int->Int->Int->Hp->OA) (aa:Sl) (ac:Int) (af:Int) (H:Hp):EX (bh (cY.cs F kc kd ke kf kg iz)) aW (cY.lh F kc kd ke kf kg iz) F Tryz.f8 [(.agg [(.sl aa),(.int .i64 ac)]),(.int .i64 af)] H=cY.twX F kc kd ke kf kg iz aa ac af H:=by kernel_rfl
theorem cY.k (F:Nat):Ok Tryz.prog 8 (cY.mk (cY.tw F)):=by
 intro args H v H' h
 unfold cY.mk at h
 split at h
 ·exact okT (TB:=aW) Tryz.func8 (bg (iJ.k F) (bg (dW.k F) (bg (cQ.k F) (bg (jf.k F) (bg (eo.k F) (bg (fN.k F) ca)))))) (cY.loops F (iJ.tw F) (dW.tw F) (cQ.tw F) (jf.tw F) (eo.tw F) (fN.tw F)) ((cY.eqX F (iJ.tw F) (dW.tw F) (cQ.tw F) (jf.tw F) (eo.tw F) (fN.tw F) _ _ _ H).trans h) (by kernel_rfl)
 ·cases h
def jt.twX (F:Nat) (aa:Int) (ac:Int) (aI:Int) (cL:Int) (cG:Int) (eB:Int) (pZ:Int) (p_:Int) (qd:Int) (qe:Int) (H:Hp):OA:=(Hp.new H [(.int .i64 aa),(.int .i64 ac),(.int .i64 aI),(.int .i64 cL),(.int .i64 cG)]).bind λH11=>(Hp.new H11 [(.int .i64 eB),(.int .i64 pZ),(.int .i64 p_),(.int .i64 qd),(.int .i64 qe)]).bind λH12=>(Hp.ldI H12 .i64 H.length 0).bind λn13=>(Hp.ldI H12 .i64 H11.length 0).bind λn14=>(bif (n13 != n14) then (some ((.bool false),H12)) else ((Hp.ldI H12 .i64 H.length 1).bind λn15=>(Hp.ldI H12 .i64 H11.length 1).bind λn16=>(bif (n15 != n16) then (some ((.bool false),H12)) else ((Hp.ldI H12 .i64 H.length 2).bind λn17=>(Hp.ldI H12 .i64 H11.length 2).bind λn18=>(bif (n17 != n18) then (some ((.bool false),H12)) else ((Hp.ldI H12 .i64 H.length 3).bind λn19=>(Hp.ldI H12 .i64 H11.length 3).bind λn20=>(bif (n19 != n20) then (some ((.bool false),H12)) else ((Hp.ldI H12 .i64 H.length 4).bind λn21=>(Hp.ldI H12 .i64 H11.length 4).bind λn22=>(bif (n21 != n22) then (some ((.bool false),H12)) else (some ((.bool true),H12)))))))))))
def jt.tw (F:Nat) (aa:Int) (ac:Int) (aI:Int) (cL:Int) (cG:Int) (eB:Int) (pZ:Int) (p_:Int) (qd:Int) (qe:Int) (H:Hp):OA:=jt.twX F aa ac aI cL cG eB pZ p_ qd qe H
def jt.mk (g:Int->Int->Int->Int->Int->Int->Int->Int->Int->Int->Hp->OA) (args:List AV) (H:Hp):OA:=match args with
 | [(.agg [(.int .i64 aa),(.int .i64 ac),(.int .i64 aI),(.int .i64 cL),(.int .i64 cG)]),(.agg [(.int .i64 eB),(.int .i64 pZ),(.int .i64 p_),(.int .i64 qd),(.int .i64 qe)])]=>g aa ac aI cL cG eB pZ p_ qd qe H
 | _=>none
theorem jt.eqX (F:Nat) (aa:Int) (ac:Int) (aI:Int) (cL:Int) (cG:Int) (eB:Int) (pZ:Int) (p_:Int) (qd:Int) (qe:Int) (H:Hp):EX (bh []) aW lh0 F Tryz.f56 [(.agg [(.int .i64 aa),(.int .i64 ac),(.int .i64 aI),(.int .i64 cL),(.int .i64 cG)]),(.agg [(.int .i64 eB),(.int .i64 pZ),(.int .i64 p_),(.int .i64 qd),(.int .i64 qe)])] H=jt.twX F aa ac aI cL cG eB pZ p_ qd qe H:=by kernel_rfl
theorem jt.k (F:Nat):Ok Tryz.prog 56 (jt.mk (jt.tw F)):=by
 intro args H v H' h
 unfold jt.mk at h
 split at h
 ·exact okT (TB:=aW) Tryz.func56 ca ae.no ((jt.eqX F _ _ _ _ _ _ _ _ _ _ H).trans h) (by kernel_rfl)
 ·cases h
def es.l29 (F:Nat) (lP:Int->Int->Int->Int->Int->Int->Int->Int->Int->Int->Hp->OA) :Nat->Sl->Sl->Int->Hp->OA
 | 0,_,_,_,_=>none
 | fj+1,eV,jp,mV,H8=>(bif (decide (mV<(eV.n:Int))) then ((Sl.idx eV mV 5).bind λp23=>(Hp.ldI H8 .i64 p23.1 p23.2).bind λn24=>(Hp.ldI H8 .i64 p23.1 (p23.2+1)).bind λn25=>(Hp.ldI H8 .i64 p23.1 (p23.2+2)).bind λn26=>(Hp.ldI H8 .i64 p23.1 (p23.2+3)).bind λn27=>(Hp.ldI H8 .i64 p23.1 (p23.2+4)).bind λn28=>(Sl.idx jp mV 5).bind λp29=>(Hp.ldI H8 .i64 p29.1 p29.2).bind λn30=>(Hp.ldI H8 .i64 p29.1 (p29.2+1)).bind λn31=>(Hp.ldI H8 .i64 p29.1 (p29.2+2)).bind λn32=>(Hp.ldI H8 .i64 p29.1 (p29.2+3)).bind λn33=>(Hp.ldI H8 .i64 p29.1 (p29.2+4)).bind λn34=>(lP n24 n25 n26 n27 n28 n30 n31 n32 n33 n34 H8).bind λr35=>((r35.1).asB).bind λb36=>(bif (!b36) then (some ((.bool false),r35.2)) else (es.l29 F lP fj eV jp (IntKind.i64.wrap (mV+1)) r35.2))) else (some ((.bool true),H8)))
def es.twX (F:Nat) (lP:Int->Int->Int->Int->Int->Int->Int->Int->Int->Int->Hp->OA) (aa:Sl) (ai:Sl) (H:Hp):OA:=(bif ((aa.n:Int) != (ai.n:Int)) then (some ((.bool false),H)) else (es.l29 F lP F aa ai 0 H))
def es.tw (F:Nat) (aa:Sl) (ai:Sl) (H:Hp):OA:=es.twX F (jt.tw F) aa ai H
def es.lh29 (F:Nat) (lP:Int->Int->Int->Int->Int->Int->Int->Int->Int->Int->Hp->OA) (ks:List Nat) (n:Nat) (tm:Tm) (H:Hp):OA:=match ks,tm 0,tm 1,tm 5 with
 | [],(.sl eV),(.sl jp),(.int .i64 mV)=>es.l29 F lP n eV jp mV H
 | _,_,_,_=>none
theorem es.lh29_inv {F:Nat} {lP:Int->Int->Int->Int->Int->Int->Int->Int->Int->Int->Hp->OA} {ks:List Nat} {n:Nat} {tm:Tm} {H:Hp} {r:AV×Hp} (h:es.lh29 F lP ks n tm H=some r):∃ eV jp mV,ks=[]/\dZ tm [(0,(.sl eV)),(1,(.sl jp)),(5,(.int .i64 mV))]/\es.l29 F lP n eV jp mV H=some r:=by
 unfold es.lh29 at h
 split at h
 ·exact ⟨_,_,_,rfl,⟨‹_›,‹_›,‹_›,trivial⟩,h⟩
 ·cases h
def es.lh (F:Nat) (lP:Int->Int->Int->Int->Int->Int->Int->Int->Int->Int->Hp->OA) (p:Nat) (ks:List Nat) (n:Nat) (tm:Tm) (H:Hp):OA:=bif p.beq 29 then es.lh29 F lP ks n tm H else (none)
def es.pn:Nat->List Nat:=eU [(6,[8])]
def es.tb:Nat->List (List Nat):=eU [(6,[[],[],[0,1],[0,1,2],[],[],[4,5],[4,5,6],[0,1,2,3,4,5,6,7],[0,1,2,3,4,5,6,7,8]])]
def es.mk (g:Sl->Sl->Hp->OA) (args:List AV) (H:Hp):OA:=match args with
 | [(.sl aa),(.sl ai)]=>g aa ai H
 | _=>none
def es.cs (F:Nat) (lP:Int->Int->Int->Int->Int->Int->Int->Int->Int->Int->Hp->OA):Cs:=[(56,jt.mk lP)]
theorem es.loops (F:Nat) (lP:Int->Int->Int->Int->Int->Int->Int->Int->Int->Int->Hp->OA):LO (bh (es.cs F lP)) es.pn (es.lh F lP) F Tryz.f30:=
 (ae.rt (ae.rt (ae.lt (ae.rt (ae.block (ae.la (λn tm H r h=>by obtain ⟨eV,jp,mV,hks,e,h⟩:=es.lh29_inv (show es.lh29 F lP [] n tm H=some r from h);obtain _ | k29:=n;cases h;exact ⟨_,rfl,by rw [<- eb e];exact Eq.trans (by kernel_rfl) h⟩) λk29=>ae.no))))))
theorem es.eqX (F:Nat) (lP:Int->Int->Int->Int->Int->Int->Int->Int->Int->Int->Hp->OA) (aa:Sl) (ai:Sl) (H:Hp):EX (bh (es.cs F lP)) es.pn (es.lh F lP) F Tryz.f30 [(.sl aa),(.sl ai)] H=es.twX F lP aa ai H:=by kernel_rfl
theorem es.k (F:Nat):Ok Tryz.prog 30 (es.mk (es.tw F)):=by
 intro args H v H' h
 unfold es.mk at h
 split at h
 ·exact okT (TB:=es.tb) Tryz.func30 (bg (jt.k F) ca) (es.loops F (jt.tw F)) ((es.eqX F (jt.tw F) _ _ H).trans h) (by kernel_rfl)
 ·cases h
def jg.twX (F:Nat) (zu:Sl->Sl->Hp->OA) (aa:Sl) (ac:Int) (af:Sl) (aw:Int) (H:Hp):OA:=(Hp.new H [(.sl aa),(.int .i64 ac)]).bind λH5=>(Hp.new H5 [(.sl af),(.int .i64 aw)]).bind λH6=>(Hp.ldSl H6 H.length 0).bind λs7=>(Hp.ldSl H6 H5.length 0).bind λs8=>(zu s7 s8 H6).bind λr9=>((r9.1).asB).bind λb10=>(bif (!b10) then (some ((.bool false),r9.2)) else ((Hp.ldI r9.2 .i64 H.length 1).bind λn11=>(Hp.ldI r9.2 .i64 H5.length 1).bind λn12=>(bif (n11 != n12) then (some ((.bool false),r9.2)) else (some ((.bool true),r9.2)))))
def jg.tw (F:Nat) (aa:Sl) (ac:Int) (af:Sl) (aw:Int) (H:Hp):OA:=jg.twX F (es.tw F) aa ac af aw H
def jg.mk (g:Sl->Int->Sl->Int->Hp->OA) (args:List AV) (H:Hp):OA:=match args with
 | [(.agg [(.sl aa),(.int .i64 ac)]),(.agg [(.sl af),(.int .i64 aw)])]=>g aa ac af aw H
 | _=>none
def jg.cs (F:Nat) (zu:Sl->Sl->Hp->OA):Cs:=[(30,es.mk zu)]
theorem jg.eqX (F:Nat) (zu:Sl->Sl->Hp->OA) (aa:Sl) (ac:Int) (af:Sl) (aw:Int) (H:Hp):EX (bh (jg.cs F zu)) aW lh0 F Tryz.f9 [(.agg [(.sl aa),(.int .i64 ac)]),(.agg [(.sl af),(.int .i64 aw)])] H=jg.twX F zu aa ac af aw H:=by kernel_rfl
theorem jg.k (F:Nat):Ok Tryz.prog 9 (jg.mk (jg.tw F)):=by
 intro args H v H' h
 unfold jg.mk at h
 split at h
 ·exact okT (TB:=aW) Tryz.func9 (bg (es.k F) ca) ae.no ((jg.eqX F (es.tw F) _ _ _ _ H).trans h) (by kernel_rfl)
 ·cases h
def hO.twX (F:Nat) (zw:Sl->Int->Int->Hp->OA) (ug:Sl->Int->Hp->OA) (zx:Sl->Int->Int->Hp->OA) (zy:Sl->Int->Int->Hp->OA) (zA:Sl->Int->Sl->Int->Hp->OA) (aa:Sl) (ac:Int) (af:Int) (H:Hp):OA:=(Hp.new H [(.sl aa),(.int .i64 ac)]).bind λH4=>(Hp.ldSl H4 H.length 0).bind λs5=>(Hp.ldI H4 .i64 H.length (0+1)).bind λn6=>(zw s5 n6 1048576 H4).bind λr7=>((r7.1).asI .i64).bind λn8=>(bif (decide (n8<0)) then (some ((.bool true),r7.2)) else ((Hp.ldSl r7.2 H.length 0).bind λs9=>(Hp.ldI r7.2 .i64 H.length (0+1)).bind λn10=>(ug s9 n10 r7.2).bind λr11=>((r11.1).asAgg 2).bind λl12=>(l12[0]?).bind λv13=>((v13).asSl).bind λs14=>(l12[1]?).bind λv15=>((v15).asI .i64).bind λn16=>(zx s14 n16 af r11.2).bind λr17=>((r17.1).asTup 2).bind λl18=>(l18[0]?).bind λv19=>((v19).asI .i64).bind λn20=>(l18[1]?).bind λv21=>((v21).asI .i64).bind λn22=>(Hp.ldSl r17.2 H.length 0).bind λs23=>(Hp.ldI r17.2 .i64 H.length (0+1)).bind λn24=>(ug s23 n24 r17.2).bind λr25=>((r25.1).asAgg 2).bind λl26=>(l26[0]?).bind λv27=>((v27).asSl).bind λs28=>(l26[1]?).bind λv29=>((v29).asI .i64).bind λn30=>(Hp.new r25.2 [.sl ⟨none,0,.ex 0⟩,.int .i64 0]).bind λH31=>(Hp.st H31 r25.2.length 0 (.sl s28)).bind λH32=>(Hp.st H32 r25.2.length (0+1) (.int .i64 n30)).bind λH33=>(Hp.ldSl H33 r25.2.length 0).bind λs34=>(Hp.ldI H33 .i64 r25.2.length (0+1)).bind λn35=>(zy s34 n35 af H33).bind λr36=>((r36.1).asTup 2).bind λl37=>(l37[0]?).bind λv38=>((v38).asI .i64).bind λn39=>(l37[1]?).bind λv40=>((v40).asI .i64).bind λn41=>(bif (n39 != n20) then (some ((.bool false),r36.2)) else ((bif (n41 != n22) then (some ((.bool false),r36.2)) else ((Hp.ldSl r36.2 r25.2.length 0).bind λs42=>(Hp.ldI r36.2 .i64 r25.2.length (0+1)).bind λn43=>(Hp.ldSl r36.2 H.length 0).bind λs44=>(Hp.ldI r36.2 .i64 H.length (0+1)).bind λn45=>(ug s44 n45 r36.2).bind λr46=>((r46.1).asAgg 2).bind λl47=>(l47[0]?).bind λv48=>((v48).asSl).bind λs49=>(l47[1]?).bind λv50=>((v50).asI .i64).bind λn51=>(if bp r36.2 r46.2 then ((zA s42 n43 s49 n51 r46.2).bind λr52=>((r52.1).asB).bind λb53=>(bif (!b53) then (some ((.bool false),r52.2)) else (some ((.bool true),r52.2)))) else none)))))))
def hO.tw (F:Nat) (aa:Sl) (ac:Int) (af:Int) (H:Hp):OA:=hO.twX F (iE.tw F) (ip.tw F) (cX.tw F) (cY.tw F) (jg.tw F) aa ac af H
def hO.pn:Nat->List Nat:=eU [(10,[3])]
def hO.tb:Nat->List (List Nat):=eU [(10,[[],[],[1],[0,1,2],[0,1,2,3]])]
def hO.mk (g:Sl->Int->Int->Hp->OA) (args:List AV) (H:Hp):OA:=match args with
 | [(.agg [(.sl aa),(.int .i64 ac)]),(.int .i64 af)]=>g aa ac af H
 | _=>none
def hO.cs (F:Nat) (zw:Sl->Int->Int->Hp->OA) (ug:Sl->Int->Hp->OA) (zx:Sl->Int->Int->Hp->OA) (zy:Sl->Int->Int->Hp->OA) (zA:Sl->Int->Sl->Int->Hp->OA):Cs:=[(5,iE.mk zw),(7,ip.mk ug),(6,cX.mk zx),(8,cY.mk zy),(9,jg.mk zA)]
theorem hO.eqX (F:Nat) (zw:Sl->Int->Int->Hp->OA) (ug:Sl->Int->Hp->OA) (zx:Sl->Int->Int->Hp->OA) (zy:Sl->Int->Int->Hp->OA) (zA:Sl->Int->Sl->Int->Hp->OA) (aa:Sl) (ac:Int) (af:Int) (H:Hp):EX (bh (hO.cs F zw ug zx zy zA)) hO.pn lh0 F Tryz.f3 [(.agg [(.sl aa),(.int .i64 ac)]),(.int .i64 af)] H=hO.twX F zw ug zx zy zA aa ac af H:=by kernel_rfl
theorem hO.k (F:Nat):Ok Tryz.prog 3 (hO.mk (hO.tw F)):=by
 intro args H v H' h
 unfold hO.mk at h
 split at h
 ·exact okT (TB:=hO.tb) Tryz.func3 (bg (iE.k F) (bg (ip.k F) (bg (cX.k F) (bg (cY.k F) (bg (jg.k F) ca))))) ae.no ((hO.eqX F (iE.tw F) (ip.tw F) (cX.tw F) (cY.tw F) (jg.tw F) _ _ _ H).trans h) (by kernel_rfl)
 ·cases h
theorem hO.mkE (g:Sl->Int->Int->Hp->OA) (aa:Sl) (ac:Int) (af:Int) (H:Hp):hO.mk g [(.agg [(.sl aa),(.int .i64 ac)]),(.int .i64 af)] H=g aa ac af H:=rfl
theorem hO.T {F:Nat} {aa:Sl} {ac:Int} {af:Int} {H:Hp} {v:AV} {H':Hp} (h:hO.tw F aa ac af H=some (v,H')):Go.AE.T Tryz.prog 3 [(.agg [(.sl aa),(.int .i64 ac)]),(.int .i64 af)] H v H':=hO.k F _ _ _ _ ((hO.mkE (hO.tw F) aa ac af H).trans h)
end
end Go.Proofs.YtppbogklbhfboaaGreat.AE
