import Derived.Test.YtnkgeongfneafaaTab1
set_option linter.unusedVariables false
set_option linter.unusedSimpArgs false
namespace Go.Proofs.Ytnkgeongfneafaa.AE
open Go Go.AE Go.Proofs
set_option linter.unusedVariables false
set_option maxHeartbeats 4000000
set_option maxRecDepth 100000
noncomputable section
def iU.twX (F:Nat) (aa:Sl) (au:Int) (H:Hp):OA:=(bif (decide ((IntKind.i64.wrap (au - (aa.n:Int)))<0)) then (some ((.int .i64 (-1)),H)) else (some ((.int .i64 (IntKind.i64.wrap (au - (aa.n:Int)))),H)))
def iU.tw (F:Nat) (aa:Sl) (au:Int) (H:Hp):OA:=iU.twX F aa au H
def iU.mk (g:Sl->Int->Hp->OA) (args:List AV) (H:Hp):OA:=match args with
 | [(.sl aa),(.int .i64 au)]=>g aa au H
 | _=>none
theorem iU.eqX (F:Nat) (aa:Sl) (au:Int) (H:Hp):EX (bG []) bw lh0 F Try.f71 [(.sl aa),(.int .i64 au)] H=iU.twX F aa au H:=by kernel_rfl
theorem iU.k (F:Nat):Ok Try.prog 71 (iU.mk (iU.tw F)):=by
 intro args H v H' h
 unfold iU.mk at h
 split at h
 ·exact okT (TB:=bw) Try.func71 di ai.no ((iU.eqX F _ _ H).trans h) (by kernel_rfl)
 ·cases h
def gZ.twX (F:Nat) (rR:Sl->Int->Hp->OA) (aa:Int) (af:Sl) (ag:Int) (H:Hp):OA:=(Hp.new H [(.int .i64 aa),(.sl af)]).bind λH4=>(Hp.ldSl H4 H.length 1).bind λs5=>(rR s5 ag H4).bind λr6=>((r6.1).asI .i64).bind λn7=>(bif (decide (n7<0)) then (some ((.int .i64 (-1)),r6.2)) else (some ((.int .i64 n7),r6.2)))
def gZ.tw (F:Nat) (aa:Int) (af:Sl) (ag:Int) (H:Hp):OA:=gZ.twX F (iU.tw F) aa af ag H
def gZ.mk (g:Int->Sl->Int->Hp->OA) (args:List AV) (H:Hp):OA:=match args with
 | [(.agg [(.int .i64 aa),(.sl af)]),(.int .i64 ag)]=>g aa af ag H
 | _=>none
def gZ.cs (F:Nat) (rR:Sl->Int->Hp->OA):Cs:=[(71,iU.mk rR)]
theorem gZ.eqX (F:Nat) (rR:Sl->Int->Hp->OA) (aa:Int) (af:Sl) (ag:Int) (H:Hp):EX (bG (gZ.cs F rR)) bw lh0 F Try.f48 [(.agg [(.int .i64 aa),(.sl af)]),(.int .i64 ag)] H=gZ.twX F rR aa af ag H:=by kernel_rfl
theorem gZ.k (F:Nat):Ok Try.prog 48 (gZ.mk (gZ.tw F)):=by
 intro args H v H' h
 unfold gZ.mk at h
 split at h
 ·exact okT (TB:=bw) Try.func48 (bM (iU.k F) di) ai.no ((gZ.eqX F (iU.tw F) _ _ _ H).trans h) (by kernel_rfl)
 ·cases h
def dN.l29 (F:Nat) :Nat->Sl->Sl->Int->Hp->OA
 | 0,_,_,_,_=>none
 | eM+1,cX,jY,ft,H7=>(bif (decide (ft<(cX.n:Int))) then ((Sl.idx cX ft 1).bind λp12=>(Hp.ldI H7 .i64 p12.1 p12.2).bind λn13=>(Sl.idx jY ft 1).bind λp14=>(Hp.st H7 p14.1 p14.2 (.int .i64 n13)).bind λH15=>dN.l29 F eM cX jY (IntKind.i64.wrap (ft+1)) H15) else (some ((.sl jY),H7)))
termination_by structural n=>n
def dN.twX (F:Nat) (aa:Sl) (H:Hp):OA:=(Hp.mk H [.int .i64 0] 8 (aa.n:Int) (aa.n:Int)).bind λm2=>dN.l29 F F aa m2.1 0 m2.2
def dN.tw (F:Nat) (aa:Sl) (H:Hp):OA:=dN.twX F aa H
def dN.lh29 (F:Nat) (ks:List Nat) (n:Nat) (tm:Tm) (H:Hp):OA:=match ks,tm 0,tm 3,tm 4 with
 | [],(.sl cX),(.sl jY),(.int .i64 ft)=>dN.l29 F n cX jY ft H
 | _,_,_,_=>none
theorem dN.lh29_inv {F:Nat} {ks:List Nat} {n:Nat} {tm:Tm} {H:Hp} {r:AV×Hp} (h:dN.lh29 F ks n tm H=some r):∃ cX jY ft,ks=[]/\eD tm [(0,(.sl cX)),(3,(.sl jY)),(4,(.int .i64 ft))]/\dN.l29 F n cX jY ft H=some r:=by
 unfold dN.lh29 at h
 split at h
 ·exact ⟨_,_,_,rfl,⟨‹_›,‹_›,‹_›,trivial⟩,h⟩
 ·cases h
def dN.lh (F:Nat) (p:Nat) (ks:List Nat) (n:Nat) (tm:Tm) (H:Hp):OA:=bif p.beq 29 then dN.lh29 F ks n tm H else (none)
def dN.mk (g:Sl->Hp->OA) (args:List AV) (H:Hp):OA:=match args with
 | [(.sl aa)]=>g aa H
 | _=>none
theorem dN.loops (F:Nat):LO (bG []) bw (dN.lh F) F Try.f72:=
 (ai.rt (ai.rt (ai.lt (ai.rt (ai.block (ai.loop (λtm H=>eG λr h=>by obtain ⟨cX,jY,ft,hks,e,h⟩:=dN.lh29_inv (show dN.lh29 F [] 0 tm H=some r from h);cases h) (λk29 tm H r h=>by obtain ⟨cX,jY,ft,hks,e,h⟩:=dN.lh29_inv (show dN.lh29 F [] (k29+1) tm H=some r from h);rw [<- eE e];exact Eq.trans (by kernel_rfl) h) λk29=>ai.no))))))
theorem dN.eqX (F:Nat) (aa:Sl) (H:Hp):EX (bG []) bw (dN.lh F) F Try.f72 [(.sl aa)] H=dN.twX F aa H:=by kernel_rfl
theorem dN.k (F:Nat):Ok Try.prog 72 (dN.mk (dN.tw F)):=by
 intro args H v H' h
 unfold dN.mk at h
 split at h
 ·exact okT (TB:=bw) Try.func72 di (dN.loops F) ((dN.eqX F _ H).trans h) (by kernel_rfl)
 ·cases h
def fz.twX (F:Nat) (rS:Sl->Hp->OA) (aa:Int) (af:Sl) (H:Hp):OA:=(Hp.new H [(.int .i64 aa),(.sl af)]).bind λH3=>(Hp.new H3 [.int .i64 0,.sl ⟨none,0,.ex 0⟩]).bind λH4=>(Hp.new H4 [.int .i64 0,.sl ⟨none,0,.ex 0⟩]).bind λH5=>(Hp.ldI H5 .i64 H.length 0).bind λn6=>(Hp.st H5 H4.length 0 (.int .i64 n6)).bind λH7=>(Hp.ldSl H7 H.length 1).bind λs8=>(rS s8 H7).bind λr9=>((r9.1).asSl).bind λs10=>(Hp.st r9.2 H4.length 1 (.sl s10)).bind λH11=>(Hp.ldI H11 .i64 H4.length 0).bind λn12=>(Hp.ldSl H11 H4.length (0+1)).bind λs13=>(Hp.st H11 H3.length 0 (.int .i64 n12)).bind λH14=>(Hp.st H14 H3.length (0+1) (.sl s13)).bind λH15=>(Hp.ldI H15 .i64 H3.length 0).bind λn16=>(Hp.ldSl H15 H3.length (0+1)).bind λs17=>some ((.agg [(.int .i64 n16),(.sl s17)]),H15)
def fz.tw (F:Nat) (aa:Int) (af:Sl) (H:Hp):OA:=fz.twX F (dN.tw F) aa af H
def fz.mk (g:Int->Sl->Hp->OA) (args:List AV) (H:Hp):OA:=match args with
 | [(.agg [(.int .i64 aa),(.sl af)])]=>g aa af H
 | _=>none
def fz.cs (F:Nat) (rS:Sl->Hp->OA):Cs:=[(72,dN.mk rS)]
theorem fz.eqX (F:Nat) (rS:Sl->Hp->OA) (aa:Int) (af:Sl) (H:Hp):EX (bG (fz.cs F rS)) bw lh0 F Try.f50 [(.agg [(.int .i64 aa),(.sl af)])] H=fz.twX F rS aa af H:=by kernel_rfl
theorem fz.k (F:Nat):Ok Try.prog 50 (fz.mk (fz.tw F)):=by
 intro args H v H' h
 unfold fz.mk at h
 split at h
 ·exact okT (TB:=bw) Try.func50 (bM (dN.k F) di) ai.no ((fz.eqX F (dN.tw F) _ _ H).trans h) (by kernel_rfl)
 ·cases h
def gU.twX (F:Nat) (aa:Int) (au:Int) (dA:Int) (H:Hp):OA:=(bif (decide (aa>=au)) then (some ((.bool (decide (aa<=dA))),H)) else (some ((.bool false),H)))
def gU.tw (F:Nat) (aa:Int) (au:Int) (dA:Int) (H:Hp):OA:=gU.twX F aa au dA H
def gU.mk (g:Int->Int->Int->Hp->OA) (args:List AV) (H:Hp):OA:=match args with
 | [(.int .i64 aa),(.int .i64 au),(.int .i64 dA)]=>g aa au dA H
 | _=>none
theorem gU.eqX (F:Nat) (aa:Int) (au:Int) (dA:Int) (H:Hp):EX (bG []) bw lh0 F Try.f68 [(.int .i64 aa),(.int .i64 au),(.int .i64 dA)] H=gU.twX F aa au dA H:=by kernel_rfl
theorem gU.k (F:Nat):Ok Try.prog 68 (gU.mk (gU.tw F)):=by
 intro args H v H' h
 unfold gU.mk at h
 split at h
 ·exact okT (TB:=bw) Try.func68 di ai.no ((gU.eqX F _ _ _ H).trans h) (by kernel_rfl)
 ·cases h
def cu.j1 (F:Nat) (iV:Int->Int->Int->Hp->OA) (uA:Nat) (Cx:Nat) (H30:Hp):OA:=(Hp.ldI H30 .i64 uA Cx).bind λn31=>(iV n31 0 48 H30).bind λr32=>((r32.1).asB).bind λb33=>(bif b33 then ((Hp.ldSl r32.2 uA (Cx+1)).bind λs34=>some ((.bool (decide ((s34.n:Int)<=48))),r32.2)) else (some ((.bool false),r32.2)))
def cu.l13 (F:Nat) (iV:Int->Int->Int->Hp->OA) :Nat->Nat->Nat->Int->Hp->OA
 | 0,_,_,_,_=>none
 | ic+1,dq,hU,iW,H10=>(Hp.ldSl H10 dq (hU+1)).bind λs35=>(bif (decide (iW<(s35.n:Int))) then ((Hp.ldSl H10 dq (hU+1)).bind λs36=>(Sl.idx s36 iW 1).bind λp37=>(Hp.ldI H10 .i64 p37.1 p37.2).bind λn38=>(iV n38 2 1000000000000 H10).bind λr39=>((r39.1).asB).bind λb40=>(bif (!b40) then (some ((.bool false),r39.2)) else ((bif (decide (iW>0)) then ((Hp.ldSl r39.2 dq (hU+1)).bind λs41=>(Sl.idx s41 iW 1).bind λp42=>(Hp.ldI r39.2 .i64 p42.1 p42.2).bind λn43=>(Hp.ldSl r39.2 dq (hU+1)).bind λs44=>(Sl.idx s44 (IntKind.i64.wrap (iW - 1)) 1).bind λp45=>(Hp.ldI r39.2 .i64 p45.1 p45.2).bind λn46=>(if n46=0 then none else ((bif ((Int.tmod n43 n46) != 0) then (some ((.bool false),r39.2)) else (cu.l13 F iV ic dq hU (IntKind.i64.wrap (iW+1)) r39.2))))) else (cu.l13 F iV ic dq hU (IntKind.i64.wrap (iW+1)) r39.2))))) else (cu.j1 F iV dq hU H10))
termination_by structural n=>n
def cu.twX (F:Nat) (iV:Int->Int->Int->Hp->OA) (aa:Int) (af:Sl) (H:Hp):OA:=(Hp.new H [(.int .i64 aa),(.sl af)]).bind λH3=>cu.l13 F iV F H.length 0 0 H3
def cu.tw (F:Nat) (aa:Int) (af:Sl) (H:Hp):OA:=cu.twX F (gU.tw F) aa af H
def cu.lh13 (F:Nat) (iV:Int->Int->Int->Hp->OA) (ks:List Nat) (n:Nat) (tm:Tm) (H:Hp):OA:=match ks,tm 1,tm 3 with
 | [],(.ptr dq hU),(.int .i64 iW)=>cu.l13 F iV n dq hU iW H
 | _,_,_=>none
theorem cu.lh13_inv {F:Nat} {iV:Int->Int->Int->Hp->OA} {ks:List Nat} {n:Nat} {tm:Tm} {H:Hp} {r:AV×Hp} (h:cu.lh13 F iV ks n tm H=some r):∃ dq hU iW,ks=[]/\eD tm [(1,(.ptr dq hU)),(3,(.int .i64 iW))]/\cu.l13 F iV n dq hU iW H=some r:=by
 unfold cu.lh13 at h
 split at h
 ·exact ⟨_,_,_,rfl,⟨‹_›,‹_›,trivial⟩,h⟩
 ·cases h
def cu.lh (F:Nat) (iV:Int->Int->Int->Hp->OA) (p:Nat) (ks:List Nat) (n:Nat) (tm:Tm) (H:Hp):OA:=bif p.beq 13 then cu.lh13 F iV ks n tm H else (none)
def cu.pn:Nat->List Nat:=fA [(4,[5])]
def cu.tb:Nat->List (List Nat):=fA [(4,[[],[0],[],[0,1,2],[0,1,2,3],[0,1,2,3,4],[0,1,2,3,4,5],[0,1,2,3,4,5,6],[0,1,2,3,4,5,6,7],[0,1,2,3,4,5,6,7,8],[0,1,2,3,4,5,6,7,8,9],[0,1,2,3,4,5,6,7,8,9,10],[0,1,2,3,4,5,6,7,8,9,10,11],[0,1,2,3,4,5,6,7,8,9,10],[0,1,2,3,4,5,6,7,8,9,10,11,12,13],[0,1,2,3,4,5,6,7,8,9,10,11,12,13,14],[0,1,2,3,4,5,6,7,8,9,10],[0,1,2,3,4,5,6,7,8,9,10,16],[0,1,2,3,4,5,6,7,8,9,10],[0,1,2,3,4,5,6,7,8,9,10,18],[0,1,2,3,4,5,6,7,8,9,10,16,17,18,19],[0,1,2,3,4,5,6,7,8,9,10,16,17,18,19,20],[0,1,2,3,4,5,6,7,8,9,10,11,12,13,14,15,16,17,18,19,20,21],[0,1,2,3,4,5,6,7,8,9,10,11,12,13,14,15,16,17,18,19,20,21,22],[0,1,2,3,4,5,6,7,8,9,10,11,12,13,14,15,16,17,18,19,20,21,22,23],[0,1,2,3,4,5,6,7,8,9,10,11,12,13,14,15,16,17,18,19,20,21,22,23,24]])]
def cu.mk (g:Int->Sl->Hp->OA) (args:List AV) (H:Hp):OA:=match args with
 | [(.agg [(.int .i64 aa),(.sl af)])]=>g aa af H
 | _=>none
def cu.cs (F:Nat) (iV:Int->Int->Int->Hp->OA):Cs:=[(68,gU.mk iV)]
theorem cu.loops (F:Nat) (iV:Int->Int->Int->Hp->OA):LO (bG (cu.cs F iV)) cu.pn (cu.lh F iV) F Try.f39:=
 (ai.rt (ai.lt (ai.rt (ai.block (ai.loop (λtm H=>eG λr h=>by obtain ⟨dq,hU,iW,hks,e,h⟩:=cu.lh13_inv (show cu.lh13 F iV [] 0 tm H=some r from h);cases h) (λk13 tm H r h=>by obtain ⟨dq,hU,iW,hks,e,h⟩:=cu.lh13_inv (show cu.lh13 F iV [] (k13+1) tm H=some r from h);rw [<- eE e];exact Eq.trans (by kernel_rfl) h) λk13=>ai.no)))))
theorem cu.eqX (F:Nat) (iV:Int->Int->Int->Hp->OA) (aa:Int) (af:Sl) (H:Hp):EX (bG (cu.cs F iV)) cu.pn (cu.lh F iV) F Try.f39 [(.agg [(.int .i64 aa),(.sl af)])] H=cu.twX F iV aa af H:=by kernel_rfl
theorem cu.k (F:Nat):Ok Try.prog 39 (cu.mk (cu.tw F)):=by
 intro args H v H' h
 unfold cu.mk at h
 split at h
 ·exact okT (TB:=cu.tb) Try.func39 (bM (gU.k F) di) (cu.loops F (gU.tw F)) ((cu.eqX F (gU.tw F) _ _ H).trans h) (by kernel_rfl)
 ·cases h
def fZ.twX (F:Nat) (aa:Int) (au:Int) (H:Hp):OA:=(Hp.new H [.int .i64 0,.int .i64 0,.sl ⟨none,0,.ex 0⟩]).bind λH3=>(Hp.mk H3 [.int .i64 0] 8 (IntKind.i64.wrap (aa * au)) (IntKind.i64.wrap (aa * au))).bind λm4=>(Hp.st m4.2 H.length 0 (.int .i64 aa)).bind λH5=>(Hp.st H5 H.length (0+1) (.int .i64 au)).bind λH6=>(Hp.st H6 H.length (0+1+1) (.sl m4.1)).bind λH7=>(Hp.ldI H7 .i64 H.length 0).bind λn8=>(Hp.ldI H7 .i64 H.length (0+1)).bind λn9=>(Hp.ldSl H7 H.length (0+2)).bind λs10=>some ((.agg [(.int .i64 n8),(.int .i64 n9),(.sl s10)]),H7)
def fZ.tw (F:Nat) (aa:Int) (au:Int) (H:Hp):OA:=fZ.twX F aa au H
def fZ.mk (g:Int->Int->Hp->OA) (args:List AV) (H:Hp):OA:=match args with
 | [(.int .i64 aa),(.int .i64 au)]=>g aa au H
 | _=>none
theorem fZ.eqX (F:Nat) (aa:Int) (au:Int) (H:Hp):EX (bG []) bw lh0 F Try.f80 [(.int .i64 aa),(.int .i64 au)] H=fZ.twX F aa au H:=by kernel_rfl
theorem fZ.k (F:Nat):Ok Try.prog 80 (fZ.mk (fZ.tw F)):=by
 intro args H v H' h
 unfold fZ.mk at h
 split at h
 ·exact okT (TB:=bw) Try.func80 di ai.no ((fZ.eqX F _ _ H).trans h) (by kernel_rfl)
 ·cases h
def dc.l29 (F:Nat) (eN:Int->Int->Hp->OA) :Nat->Int->Nat->Nat->Nat->Nat->Int->Hp->OA
 | 0,_,_,_,_,_,_,_=>none
 | eM+1,lj,dj,ig,gq,iG,kg,H21=>(bif (decide (kg<lj)) then ((Hp.ldSl H21 gq (iG+2)).bind λs34=>(Sl.idx s34 (IntKind.i64.wrap ((IntKind.i64.wrap (kg * lj))+kg)) 1).bind λp35=>(Hp.st H21 p35.1 p35.2 (.int .i64 1)).bind λH36=>dc.l29 F eN eM lj dj ig gq iG (IntKind.i64.wrap (kg+1)) H36) else ((Hp.ldI H21 .i64 gq iG).bind λn37=>(Hp.ldI H21 .i64 gq (iG+1)).bind λn38=>(Hp.ldSl H21 gq (iG+2)).bind λs39=>(Hp.st H21 dj ig (.int .i64 n37)).bind λH40=>(Hp.st H40 dj (ig+1) (.int .i64 n38)).bind λH41=>(Hp.st H41 dj (ig+1+1) (.sl s39)).bind λH42=>(Hp.ldI H42 .i64 dj ig).bind λn43=>(Hp.ldI H42 .i64 dj (ig+1)).bind λn44=>(Hp.ldSl H42 dj (ig+2)).bind λs45=>some ((.agg [(.int .i64 n43),(.int .i64 n44),(.sl s45)]),H42)))
termination_by structural n=>n
def dc.twX (F:Nat) (eN:Int->Int->Hp->OA) (aa:Int) (H:Hp):OA:=(Hp.new H [.int .i64 0,.int .i64 0,.sl ⟨none,0,.ex 0⟩]).bind λH2=>(eN aa aa H2).bind λr3=>((r3.1).asAgg 3).bind λl4=>(l4[0]?).bind λv5=>((v5).asI .i64).bind λn6=>(l4[1]?).bind λv7=>((v7).asI .i64).bind λn8=>(l4[2]?).bind λv9=>((v9).asSl).bind λs10=>(Hp.new r3.2 [.int .i64 0,.int .i64 0,.sl ⟨none,0,.ex 0⟩]).bind λH11=>(Hp.st H11 r3.2.length 0 (.int .i64 n6)).bind λH12=>(Hp.st H12 r3.2.length (0+1) (.int .i64 n8)).bind λH13=>(Hp.st H13 r3.2.length (0+1+1) (.sl s10)).bind λH14=>dc.l29 F eN F aa H.length 0 r3.2.length 0 0 H14
def dc.tw (F:Nat) (aa:Int) (H:Hp):OA:=dc.twX F (fZ.tw F) aa H
def dc.lh29 (F:Nat) (eN:Int->Int->Hp->OA) (ks:List Nat) (n:Nat) (tm:Tm) (H:Hp):OA:=match ks,tm 0,tm 2,tm 3,tm 4 with
 | [],(.int .i64 lj),(.ptr dj ig),(.ptr gq iG),(.int .i64 kg)=>dc.l29 F eN n lj dj ig gq iG kg H
 | _,_,_,_,_=>none
theorem dc.lh29_inv {F:Nat} {eN:Int->Int->Hp->OA} {ks:List Nat} {n:Nat} {tm:Tm} {H:Hp} {r:AV×Hp} (h:dc.lh29 F eN ks n tm H=some r):∃ lj dj ig gq iG kg,ks=[]/\eD tm [(0,(.int .i64 lj)),(2,(.ptr dj ig)),(3,(.ptr gq iG)),(4,(.int .i64 kg))]/\dc.l29 F eN n lj dj ig gq iG kg H=some r:=by
 unfold dc.lh29 at h
 split at h
 ·exact ⟨_,_,_,_,_,_,rfl,⟨‹_›,‹_›,‹_›,‹_›,trivial⟩,h⟩
 ·cases h
def dc.lh (F:Nat) (eN:Int->Int->Hp->OA) (p:Nat) (ks:List Nat) (n:Nat) (tm:Tm) (H:Hp):OA:=bif p.beq 29 then dc.lh29 F eN ks n tm H else (none)
def dc.mk (g:Int->Hp->OA) (args:List AV) (H:Hp):OA:=match args with
 | [(.int .i64 aa)]=>g aa H
 | _=>none
def dc.cs (F:Nat) (eN:Int->Int->Hp->OA):Cs:=[(80,fZ.mk eN)]
theorem dc.loops (F:Nat) (eN:Int->Int->Hp->OA):LO (bG (dc.cs F eN)) bw (dc.lh F eN) F Try.f115:=
 (ai.rt (ai.rt (ai.lt (ai.rt (ai.block (ai.loop (λtm H=>eG λr h=>by obtain ⟨lj,dj,ig,gq,iG,kg,hks,e,h⟩:=dc.lh29_inv (show dc.lh29 F eN [] 0 tm H=some r from h);cases h) (λk29 tm H r h=>by obtain ⟨lj,dj,ig,gq,iG,kg,hks,e,h⟩:=dc.lh29_inv (show dc.lh29 F eN [] (k29+1) tm H=some r from h);rw [<- eE e];exact Eq.trans (by kernel_rfl) h) λk29=>ai.no))))))
theorem dc.eqX (F:Nat) (eN:Int->Int->Hp->OA) (aa:Int) (H:Hp):EX (bG (dc.cs F eN)) bw (dc.lh F eN) F Try.f115 [(.int .i64 aa)] H=dc.twX F eN aa H:=by kernel_rfl
theorem dc.k (F:Nat):Ok Try.prog 115 (dc.mk (dc.tw F)):=by
 intro args H v H' h
 unfold dc.mk at h
 split at h
 ·exact okT (TB:=bw) Try.func115 (bM (fZ.k F) di) (dc.loops F (fZ.tw F)) ((dc.eqX F (fZ.tw F) _ H).trans h) (by kernel_rfl)
 ·cases h
def bo.twX (F:Nat) (aa:Int) (af:Int) (bz:Sl) (aw:Int) (bN:Int) (H:Hp):OA:=(Hp.new H [(.int .i64 aa),(.int .i64 af),(.sl bz)]).bind λH6=>(Hp.ldSl H6 H.length 2).bind λs7=>(Hp.ldI H6 .i64 H.length 1).bind λn8=>(Sl.idx s7 (IntKind.i64.wrap ((IntKind.i64.wrap (aw * n8))+bN)) 1).bind λp9=>(Hp.ldI H6 .i64 p9.1 p9.2).bind λn10=>some ((.int .i64 n10),H6)
def bo.tw (F:Nat) (aa:Int) (af:Int) (bz:Sl) (aw:Int) (bN:Int) (H:Hp):OA:=bo.twX F aa af bz aw bN H
def bo.mk (g:Int->Int->Sl->Int->Int->Hp->OA) (args:List AV) (H:Hp):OA:=match args with
 | [(.agg [(.int .i64 aa),(.int .i64 af),(.sl bz)]),(.int .i64 aw),(.int .i64 bN)]=>g aa af bz aw bN H
 | _=>none
theorem bo.eqX (F:Nat) (aa:Int) (af:Int) (bz:Sl) (aw:Int) (bN:Int) (H:Hp):EX (bG []) bw lh0 F Try.f79 [(.agg [(.int .i64 aa),(.int .i64 af),(.sl bz)]),(.int .i64 aw),(.int .i64 bN)] H=bo.twX F aa af bz aw bN H:=by kernel_rfl
theorem bo.k (F:Nat):Ok Try.prog 79 (bo.mk (bo.tw F)):=by
 intro args H v H' h
 unfold bo.mk at h
 split at h
 ·exact okT (TB:=bw) Try.func79 di ai.no ((bo.eqX F _ _ _ _ _ H).trans h) (by kernel_rfl)
 ·cases h
def en.twX (F:Nat) (aa:Int) (H:Hp):OA:=some ((.int .i64 (if (IntKind.i64.wrap (0 - aa))>aa then (IntKind.i64.wrap (0 - aa)) else aa)),H)
def en.tw (F:Nat) (aa:Int) (H:Hp):OA:=en.twX F aa H
def en.mk (g:Int->Hp->OA) (args:List AV) (H:Hp):OA:=match args with
 | [(.int .i64 aa)]=>g aa H
 | _=>none
theorem en.eqX (F:Nat) (aa:Int) (H:Hp):EX (bG []) bw lh0 F Try.f114 [(.int .i64 aa)] H=en.twX F aa H:=by kernel_rfl
theorem en.k (F:Nat):Ok Try.prog 114 (en.mk (en.tw F)):=by
 intro args H v H' h
 unfold en.mk at h
 split at h
 ·exact okT (TB:=bw) Try.func114 di ai.no ((en.eqX F _ H).trans h) (by kernel_rfl)
 ·cases h
def cD.l7 (F:Nat) (ap:Int->Int->Sl->Int->Int->Hp->OA) :Nat->Int->Int->Nat->Nat->Int->Hp->OA
 | 0,_,_,_,_,_,_=>none
 | mc+1,gc,gd,eO,cY,eF,H15=>(Hp.ldI H15 .i64 eO (cY+1)).bind λn35=>(bif (decide (eF<n35)) then ((Hp.ldI H15 .i64 eO cY).bind λn36=>(Hp.ldI H15 .i64 eO (cY+1)).bind λn37=>(Hp.ldSl H15 eO (cY+2)).bind λs38=>(ap n36 n37 s38 gc eF H15).bind λr39=>((r39.1).asI .i64).bind λn40=>(Hp.ldSl r39.2 eO (cY+2)).bind λs41=>(Hp.ldI r39.2 .i64 eO (cY+1)).bind λn42=>(Hp.ldI r39.2 .i64 eO cY).bind λn43=>(Hp.ldI r39.2 .i64 eO (cY+1)).bind λn44=>(Hp.ldSl r39.2 eO (cY+2)).bind λs45=>(ap n43 n44 s45 gd eF r39.2).bind λr46=>((r46.1).asI .i64).bind λn47=>(if bh r39.2 r46.2 then ((Sl.idx s41 (IntKind.i64.wrap ((IntKind.i64.wrap (gc * n42))+eF)) 1).bind λp48=>(Hp.st r46.2 p48.1 p48.2 (.int .i64 n47)).bind λH49=>(Hp.ldSl H49 eO (cY+2)).bind λs50=>(Hp.ldI H49 .i64 eO (cY+1)).bind λn51=>(Sl.idx s50 (IntKind.i64.wrap ((IntKind.i64.wrap (gd * n51))+eF)) 1).bind λp52=>(Hp.st H49 p52.1 p52.2 (.int .i64 n40)).bind λH53=>cD.l7 F ap mc gc gd eO cY (IntKind.i64.wrap (eF+1)) H53) else none)) else (some ((.tup []),H15)))
termination_by structural n=>n
def cD.twX (F:Nat) (ap:Int->Int->Sl->Int->Int->Hp->OA) (aa:Int) (af:Int) (bz:Sl) (aw:Int) (bN:Int) (H:Hp):OA:=(Hp.new H [(.int .i64 aa),(.int .i64 af),(.sl bz)]).bind λH6=>cD.l7 F ap F aw bN H.length 0 0 H6
def cD.tw (F:Nat) (aa:Int) (af:Int) (bz:Sl) (aw:Int) (bN:Int) (H:Hp):OA:=cD.twX F (bo.tw F) aa af bz aw bN H
def cD.lh7 (F:Nat) (ap:Int->Int->Sl->Int->Int->Hp->OA) (ks:List Nat) (n:Nat) (tm:Tm) (H:Hp):OA:=match ks,tm 1,tm 2,tm 3,tm 6 with
 | [],(.int .i64 gc),(.int .i64 gd),(.ptr eO cY),(.int .i64 eF)=>cD.l7 F ap n gc gd eO cY eF H
 | _,_,_,_,_=>none
theorem cD.lh7_inv {F:Nat} {ap:Int->Int->Sl->Int->Int->Hp->OA} {ks:List Nat} {n:Nat} {tm:Tm} {H:Hp} {r:AV×Hp} (h:cD.lh7 F ap ks n tm H=some r):∃ gc gd eO cY eF,ks=[]/\eD tm [(1,(.int .i64 gc)),(2,(.int .i64 gd)),(3,(.ptr eO cY)),(6,(.int .i64 eF))]/\cD.l7 F ap n gc gd eO cY eF H=some r:=by
 unfold cD.lh7 at h
 split at h
 ·exact ⟨_,_,_,_,_,rfl,⟨‹_›,‹_›,‹_›,‹_›,trivial⟩,h⟩
 ·cases h
def cD.lh (F:Nat) (ap:Int->Int->Sl->Int->Int->Hp->OA) (p:Nat) (ks:List Nat) (n:Nat) (tm:Tm) (H:Hp):OA:=bif p.beq 7 then cD.lh7 F ap ks n tm H else (none)
def cD.pn:Nat->List Nat:=fA [(5,[13])]
def cD.tb:Nat->List (List Nat):=fA [(5,[[],[0],[],[],[3],[2,3,4],[],[2,3,4,5,6],[],[],[],[8,9,10],[0,1,2,3,4,5,6,7,8,9,10,11],[0,1,2,3,4,5,6,7,8,9,10,11,12]])]
def cD.mk (g:Int->Int->Sl->Int->Int->Hp->OA) (args:List AV) (H:Hp):OA:=match args with
 | [(.agg [(.int .i64 aa),(.int .i64 af),(.sl bz)]),(.int .i64 aw),(.int .i64 bN)]=>g aa af bz aw bN H
 | _=>none
def cD.cs (F:Nat) (ap:Int->Int->Sl->Int->Int->Hp->OA):Cs:=[(79,bo.mk ap)]
theorem cD.loops (F:Nat) (ap:Int->Int->Sl->Int->Int->Hp->OA):LO (bG (cD.cs F ap)) cD.pn (cD.lh F ap) F Try.f145:=
 (ai.rt (ai.rt (ai.block (ai.loop (λtm H=>eG λr h=>by obtain ⟨gc,gd,eO,cY,eF,hks,e,h⟩:=cD.lh7_inv (show cD.lh7 F ap [] 0 tm H=some r from h);cases h) (λk7 tm H r h=>by obtain ⟨gc,gd,eO,cY,eF,hks,e,h⟩:=cD.lh7_inv (show cD.lh7 F ap [] (k7+1) tm H=some r from h);rw [<- eE e];exact Eq.trans (by kernel_rfl) h) λk7=>ai.no))))
theorem cD.eqX (F:Nat) (ap:Int->Int->Sl->Int->Int->Hp->OA) (aa:Int) (af:Int) (bz:Sl) (aw:Int) (bN:Int) (H:Hp):EX (bG (cD.cs F ap)) cD.pn (cD.lh F ap) F Try.f145 [(.agg [(.int .i64 aa),(.int .i64 af),(.sl bz)]),(.int .i64 aw),(.int .i64 bN)] H=cD.twX F ap aa af bz aw bN H:=by kernel_rfl
theorem cD.k (F:Nat):Ok Try.prog 145 (cD.mk (cD.tw F)):=by
 intro args H v H' h
 unfold cD.mk at h
 split at h
 ·exact okT (TB:=cD.tb) Try.func145 (bM (bo.k F) di) (cD.loops F (bo.tw F)) ((cD.eqX F (bo.tw F) _ _ _ _ _ H).trans h) (by kernel_rfl)
 ·cases h
def cE.l7 (F:Nat) (ap:Int->Int->Sl->Int->Int->Hp->OA) :Nat->Int->Int->Nat->Nat->Int->Hp->OA
 | 0,_,_,_,_,_,_=>none
 | mc+1,gc,gd,eO,cY,eF,H15=>(Hp.ldI H15 .i64 eO cY).bind λn35=>(bif (decide (eF<n35)) then ((Hp.ldI H15 .i64 eO cY).bind λn36=>(Hp.ldI H15 .i64 eO (cY+1)).bind λn37=>(Hp.ldSl H15 eO (cY+2)).bind λs38=>(ap n36 n37 s38 eF gc H15).bind λr39=>((r39.1).asI .i64).bind λn40=>(Hp.ldSl r39.2 eO (cY+2)).bind λs41=>(Hp.ldI r39.2 .i64 eO (cY+1)).bind λn42=>(Hp.ldI r39.2 .i64 eO cY).bind λn43=>(Hp.ldI r39.2 .i64 eO (cY+1)).bind λn44=>(Hp.ldSl r39.2 eO (cY+2)).bind λs45=>(ap n43 n44 s45 eF gd r39.2).bind λr46=>((r46.1).asI .i64).bind λn47=>(if bh r39.2 r46.2 then ((Sl.idx s41 (IntKind.i64.wrap ((IntKind.i64.wrap (eF * n42))+gc)) 1).bind λp48=>(Hp.st r46.2 p48.1 p48.2 (.int .i64 n47)).bind λH49=>(Hp.ldSl H49 eO (cY+2)).bind λs50=>(Hp.ldI H49 .i64 eO (cY+1)).bind λn51=>(Sl.idx s50 (IntKind.i64.wrap ((IntKind.i64.wrap (eF * n51))+gd)) 1).bind λp52=>(Hp.st H49 p52.1 p52.2 (.int .i64 n40)).bind λH53=>cE.l7 F ap mc gc gd eO cY (IntKind.i64.wrap (eF+1)) H53) else none)) else (some ((.tup []),H15)))
termination_by structural n=>n
def cE.twX (F:Nat) (ap:Int->Int->Sl->Int->Int->Hp->OA) (aa:Int) (af:Int) (bz:Sl) (aw:Int) (bN:Int) (H:Hp):OA:=(Hp.new H [(.int .i64 aa),(.int .i64 af),(.sl bz)]).bind λH6=>cE.l7 F ap F aw bN H.length 0 0 H6
def cE.tw (F:Nat) (aa:Int) (af:Int) (bz:Sl) (aw:Int) (bN:Int) (H:Hp):OA:=cE.twX F (bo.tw F) aa af bz aw bN H
def cE.lh7 (F:Nat) (ap:Int->Int->Sl->Int->Int->Hp->OA) (ks:List Nat) (n:Nat) (tm:Tm) (H:Hp):OA:=match ks,tm 1,tm 2,tm 3,tm 6 with
 | [],(.int .i64 gc),(.int .i64 gd),(.ptr eO cY),(.int .i64 eF)=>cE.l7 F ap n gc gd eO cY eF H
 | _,_,_,_,_=>none
theorem cE.lh7_inv {F:Nat} {ap:Int->Int->Sl->Int->Int->Hp->OA} {ks:List Nat} {n:Nat} {tm:Tm} {H:Hp} {r:AV×Hp} (h:cE.lh7 F ap ks n tm H=some r):∃ gc gd eO cY eF,ks=[]/\eD tm [(1,(.int .i64 gc)),(2,(.int .i64 gd)),(3,(.ptr eO cY)),(6,(.int .i64 eF))]/\cE.l7 F ap n gc gd eO cY eF H=some r:=by
 unfold cE.lh7 at h
 split at h
 ·exact ⟨_,_,_,_,_,rfl,⟨‹_›,‹_›,‹_›,‹_›,trivial⟩,h⟩
 ·cases h
def cE.lh (F:Nat) (ap:Int->Int->Sl->Int->Int->Hp->OA) (p:Nat) (ks:List Nat) (n:Nat) (tm:Tm) (H:Hp):OA:=bif p.beq 7 then cE.lh7 F ap ks n tm H else (none)
def cE.pn:Nat->List Nat:=fA [(5,[13])]
def cE.tb:Nat->List (List Nat):=fA [(5,[[],[0],[],[],[3],[2,3,4],[],[2,3,4,5,6],[],[],[],[8,9,10],[0,1,2,3,4,5,6,7,8,9,10,11],[0,1,2,3,4,5,6,7,8,9,10,11,12]])]
def cE.mk (g:Int->Int->Sl->Int->Int->Hp->OA) (args:List AV) (H:Hp):OA:=match args with
 | [(.agg [(.int .i64 aa),(.int .i64 af),(.sl bz)]),(.int .i64 aw),(.int .i64 bN)]=>g aa af bz aw bN H
 | _=>none
def cE.cs (F:Nat) (ap:Int->Int->Sl->Int->Int->Hp->OA):Cs:=[(79,bo.mk ap)]
theorem cE.loops (F:Nat) (ap:Int->Int->Sl->Int->Int->Hp->OA):LO (bG (cE.cs F ap)) cE.pn (cE.lh F ap) F Try.f159:=
 (ai.rt (ai.rt (ai.block (ai.loop (λtm H=>eG λr h=>by obtain ⟨gc,gd,eO,cY,eF,hks,e,h⟩:=cE.lh7_inv (show cE.lh7 F ap [] 0 tm H=some r from h);cases h) (λk7 tm H r h=>by obtain ⟨gc,gd,eO,cY,eF,hks,e,h⟩:=cE.lh7_inv (show cE.lh7 F ap [] (k7+1) tm H=some r from h);rw [<- eE e];exact Eq.trans (by kernel_rfl) h) λk7=>ai.no))))
theorem cE.eqX (F:Nat) (ap:Int->Int->Sl->Int->Int->Hp->OA) (aa:Int) (af:Int) (bz:Sl) (aw:Int) (bN:Int) (H:Hp):EX (bG (cE.cs F ap)) cE.pn (cE.lh F ap) F Try.f159 [(.agg [(.int .i64 aa),(.int .i64 af),(.sl bz)]),(.int .i64 aw),(.int .i64 bN)] H=cE.twX F ap aa af bz aw bN H:=by kernel_rfl
theorem cE.k (F:Nat):Ok Try.prog 159 (cE.mk (cE.tw F)):=by
 intro args H v H' h
 unfold cE.mk at h
 split at h
 ·exact okT (TB:=cE.tb) Try.func159 (bM (bo.k F) di) (cE.loops F (bo.tw F)) ((cE.eqX F (bo.tw F) _ _ _ _ _ H).trans h) (by kernel_rfl)
 ·cases h
def aC.l65515 (F:Nat) (ap:Int->Int->Sl->Int->Int->Hp->OA) (cy:Int->Hp->OA) (dr:Int->Int->Sl->Int->Int->Hp->OA) (dt:Int->Int->Sl->Int->Int->Hp->OA) :Nat->Nat->Nat->Int->Int->Hp->OA
 | 0,_,_,_,_,_=>none
 | HC+1,kJ,kK,jJ,jf,H187=>(Hp.ldI H187 .i64 kJ ((kK+3)+1)).bind λn207=>(bif (decide (jf<n207)) then ((Hp.ldSl H187 kJ ((kK+3)+2)).bind λs208=>(Hp.ldI H187 .i64 kJ ((kK+3)+1)).bind λn209=>(Hp.ldI H187 .i64 kJ (kK+3)).bind λn210=>(Hp.ldI H187 .i64 kJ ((kK+3)+1)).bind λn211=>(Hp.ldSl H187 kJ ((kK+3)+2)).bind λs212=>(ap n210 n211 s212 jJ jf H187).bind λr213=>((r213.1).asI .i64).bind λn214=>(if bh H187 r213.2 then ((Sl.idx s208 (IntKind.i64.wrap ((IntKind.i64.wrap (jJ * n209))+jf)) 1).bind λp215=>(Hp.st r213.2 p215.1 p215.2 (.int .i64 (IntKind.i64.wrap (0 - n214)))).bind λH216=>(Hp.ldSl H216 kJ ((kK+6)+2)).bind λs217=>(Hp.ldI H216 .i64 kJ ((kK+6)+1)).bind λn218=>(Hp.ldI H216 .i64 kJ (kK+6)).bind λn219=>(Hp.ldI H216 .i64 kJ ((kK+6)+1)).bind λn220=>(Hp.ldSl H216 kJ ((kK+6)+2)).bind λs221=>(ap n219 n220 s221 jf jJ H216).bind λr222=>((r222.1).asI .i64).bind λn223=>(if bh H216 r222.2 then ((Sl.idx s217 (IntKind.i64.wrap ((IntKind.i64.wrap (jf * n218))+jJ)) 1).bind λp224=>(Hp.st r222.2 p224.1 p224.2 (.int .i64 (IntKind.i64.wrap (0 - n223)))).bind λH225=>aC.l65515 F ap cy dr dt HC kJ kK jJ (IntKind.i64.wrap (jf+1)) H225) else none)) else none)) else (some ((.bool true),H187)))
termination_by structural n=>n
def aC.j5 (F:Nat) (ap:Int->Int->Sl->Int->Int->Hp->OA) (cy:Int->Hp->OA) (dr:Int->Int->Sl->Int->Int->Hp->OA) (dt:Int->Int->Sl->Int->Int->Hp->OA) (HD:Nat) (HE:Nat) (rT:Int) (H173:Hp):OA:=aC.l65515 F ap cy dr dt F HD HE rT 0 H173
def aC.l65513 (F:Nat) (ap:Int->Int->Sl->Int->Int->Hp->OA) (cy:Int->Hp->OA) (dr:Int->Int->Sl->Int->Int->Hp->OA) (dt:Int->Int->Sl->Int->Int->Hp->OA) :Nat->Nat->Nat->Int->Int->Hp->OA
 | 0,_,_,_,_,_=>none
 | HF+1,md,mf,ki,kj,H150=>(Hp.ldI H150 .i64 md (mf+1)).bind λn226=>(bif (decide (kj<n226)) then ((Hp.ldSl H150 md (mf+2)).bind λs227=>(Hp.ldI H150 .i64 md (mf+1)).bind λn228=>(Hp.ldI H150 .i64 md mf).bind λn229=>(Hp.ldI H150 .i64 md (mf+1)).bind λn230=>(Hp.ldSl H150 md (mf+2)).bind λs231=>(ap n229 n230 s231 ki kj H150).bind λr232=>((r232.1).asI .i64).bind λn233=>(if bh H150 r232.2 then ((Sl.idx s227 (IntKind.i64.wrap ((IntKind.i64.wrap (ki * n228))+kj)) 1).bind λp234=>(Hp.st r232.2 p234.1 p234.2 (.int .i64 (IntKind.i64.wrap (0 - n233)))).bind λH235=>aC.l65513 F ap cy dr dt HF md mf ki (IntKind.i64.wrap (kj+1)) H235) else none)) else (aC.j5 F ap cy dr dt md mf ki H150))
termination_by structural n=>n
def aC.j6 (F:Nat) (ap:Int->Int->Sl->Int->Int->Hp->OA) (cy:Int->Hp->OA) (dr:Int->Int->Sl->Int->Int->Hp->OA) (dt:Int->Int->Sl->Int->Int->Hp->OA) (jK:Nat) (jL:Nat) (jM:Int) (nk:Int) (nS:Int) (H109:Hp):OA:=(bif (decide (nk<0)) then (some ((.bool false),H109)) else ((Hp.ldI H109 .i64 jK jL).bind λn110=>(Hp.ldI H109 .i64 jK (jL+1)).bind λn111=>(Hp.ldSl H109 jK (jL+2)).bind λs112=>(dr n110 n111 s112 nk jM H109).bind λr113=>(Hp.ldI r113.2 .i64 jK (jL+3)).bind λn114=>(Hp.ldI r113.2 .i64 jK ((jL+3)+1)).bind λn115=>(Hp.ldSl r113.2 jK ((jL+3)+2)).bind λs116=>(dr n114 n115 s116 nk jM r113.2).bind λr117=>(Hp.ldI r117.2 .i64 jK (jL+6)).bind λn118=>(Hp.ldI r117.2 .i64 jK ((jL+6)+1)).bind λn119=>(Hp.ldSl r117.2 jK ((jL+6)+2)).bind λs120=>(dt n118 n119 s120 nk jM r117.2).bind λr121=>(Hp.ldI r121.2 .i64 jK jL).bind λn122=>(Hp.ldI r121.2 .i64 jK (jL+1)).bind λn123=>(Hp.ldSl r121.2 jK (jL+2)).bind λs124=>(dt n122 n123 s124 nS jM r121.2).bind λr125=>(Hp.ldI r125.2 .i64 jK (jL+9)).bind λn126=>(Hp.ldI r125.2 .i64 jK ((jL+9)+1)).bind λn127=>(Hp.ldSl r125.2 jK ((jL+9)+2)).bind λs128=>(dt n126 n127 s128 nS jM r125.2).bind λr129=>(Hp.ldI r129.2 .i64 jK (jL+12)).bind λn130=>(Hp.ldI r129.2 .i64 jK ((jL+12)+1)).bind λn131=>(Hp.ldSl r129.2 jK ((jL+12)+2)).bind λs132=>(dr n130 n131 s132 nS jM r129.2).bind λr133=>(Hp.ldI r133.2 .i64 jK jL).bind λn134=>(Hp.ldI r133.2 .i64 jK (jL+1)).bind λn135=>(Hp.ldSl r133.2 jK (jL+2)).bind λs136=>(ap n134 n135 s136 jM jM r133.2).bind λr137=>((r137.1).asI .i64).bind λn138=>(bif (decide (n138<0)) then (aC.l65513 F ap cy dr dt F jK jL jM 0 r137.2) else (some ((.bool true),r137.2)))))
def aC.j8 (F:Nat) (ap:Int->Int->Sl->Int->Int->Hp->OA) (cy:Int->Hp->OA) (dr:Int->Int->Sl->Int->Int->Hp->OA) (dt:Int->Int->Sl->Int->Int->Hp->OA) (C29_:Nat->Nat->Int->Int->Int->Int->Hp->OA) (HG:Nat) (HI:Nat) (rU:Int) (rV:Int) (rW:Int) (rX:Int) (H296:Hp):OA:=C29_ HG HI rU rV rW (IntKind.i64.wrap (rX+1)) H296
def aC.j9 (F:Nat) (ap:Int->Int->Sl->Int->Int->Hp->OA) (cy:Int->Hp->OA) (dr:Int->Int->Sl->Int->Int->Hp->OA) (dt:Int->Int->Sl->Int->Int->Hp->OA) (C29_:Nat->Nat->Int->Int->Int->Int->Hp->OA) (HJ:Nat) (HK:Nat) (rY:Int) (rZ:Int) (r_:Int) (sb:Int) (H285:Hp):OA:=aC.j8 F ap cy dr dt C29_ HJ HK rY rZ r_ sb H285
def aC.j10 (F:Nat) (ap:Int->Int->Sl->Int->Int->Hp->OA) (cy:Int->Hp->OA) (dr:Int->Int->Sl->Int->Int->Hp->OA) (dt:Int->Int->Sl->Int->Int->Hp->OA) (C469_:Nat->Nat->Int->Int->Int->Int->Int->Hp->OA) (HL:Nat) (HM:Nat) (sf:Int) (sg:Int) (si:Int) (sj:Int) (sk:Int) (H324:Hp):OA:=C469_ HL HM sf sg si sj (IntKind.i64.wrap (sk+1)) H324
def aC.l469 (F:Nat) (ap:Int->Int->Sl->Int->Int->Hp->OA) (cy:Int->Hp->OA) (dr:Int->Int->Sl->Int->Int->Hp->OA) (dt:Int->Int->Sl->Int->Int->Hp->OA) (C29_:Nat->Nat->Int->Int->Int->Int->Hp->OA):Nat->Nat->Nat->Int->Int->Int->Int->Int->Hp->OA
 | 0,_,_,_,_,_,_,_,_=>none
 | ox+1,kL,kM,jN,jO,kl,iz,iA,H246=>(Hp.ldI H246 .i64 kL (kM+1)).bind λn297=>(bif (decide (iA<n297)) then ((Hp.ldI H246 .i64 kL kM).bind λn298=>(Hp.ldI H246 .i64 kL (kM+1)).bind λn299=>(Hp.ldSl H246 kL (kM+2)).bind λs300=>(ap n298 n299 s300 iz iA H246).bind λr301=>((r301.1).asI .i64).bind λn302=>(cy n302 r301.2).bind λr303=>((r303.1).asI .i64).bind λn304=>(bif (decide (n304>0)) then ((bif (decide (jO<0)) then (aC.l469 F ap cy dr dt C29_ ox kL kM jN iz iA iz (IntKind.i64.wrap (iA+1)) r303.2) else ((Hp.ldI r303.2 .i64 kL kM).bind λn305=>(Hp.ldI r303.2 .i64 kL (kM+1)).bind λn306=>(Hp.ldSl r303.2 kL (kM+2)).bind λs307=>(ap n305 n306 s307 jO kl r303.2).bind λr308=>((r308.1).asI .i64).bind λn309=>(cy n309 r308.2).bind λr310=>((r310.1).asI .i64).bind λn311=>(bif (decide (n304<n311)) then (aC.j10 F ap cy dr dt (aC.l469 F ap cy dr dt C29_ ox) kL kM jN iz iA iz iA r310.2) else (aC.j10 F ap cy dr dt (aC.l469 F ap cy dr dt C29_ ox) kL kM jN jO kl iz iA r310.2))))) else (aC.l469 F ap cy dr dt C29_ ox kL kM jN jO kl iz (IntKind.i64.wrap (iA+1)) r303.2))) else (aC.j9 F ap cy dr dt C29_ kL kM jN jO kl iz H246))
termination_by structural n=>n
def aC.l29 (F:Nat) (ap:Int->Int->Sl->Int->Int->Hp->OA) (cy:Int->Hp->OA) (dr:Int->Int->Sl->Int->Int->Hp->OA) (dt:Int->Int->Sl->Int->Int->Hp->OA) :Nat->Nat->Nat->Int->Int->Int->Int->Hp->OA
 | 0,_,_,_,_,_,_,_=>none
 | eM+1,dB,gy,dq,eu,lK,lL,H11=>(Hp.ldI H11 .i64 dB gy).bind λn236=>(bif (decide (lL<n236)) then (aC.l469 F ap cy dr dt (aC.l29 F ap cy dr dt eM) F dB gy dq eu lK lL dq H11) else (aC.j6 F ap cy dr dt dB gy dq eu lK H11))
termination_by structural n=>n
def aC.twX (F:Nat) (ap:Int->Int->Sl->Int->Int->Hp->OA) (cy:Int->Hp->OA) (dr:Int->Int->Sl->Int->Int->Hp->OA) (dt:Int->Int->Sl->Int->Int->Hp->OA) (aa:Nat) (af:Nat) (ag:Int) (H:Hp):OA:=aC.l29 F ap cy dr dt F aa af ag (-1) (-1) ag H
def aC.tw (F:Nat) (aa:Nat) (af:Nat) (ag:Int) (H:Hp):OA:=aC.twX F (bo.tw F) (en.tw F) (cD.tw F) (cE.tw F) aa af ag H
def aC.lh29 (F:Nat) (ap:Int->Int->Sl->Int->Int->Hp->OA) (cy:Int->Hp->OA) (dr:Int->Int->Sl->Int->Int->Hp->OA) (dt:Int->Int->Sl->Int->Int->Hp->OA) (ks:List Nat) (n:Nat) (tm:Tm) (H:Hp):OA:=match ks,tm 0,tm 1,tm 5,tm 6,tm 7 with
 | [],(.ptr dB gy),(.int .i64 dq),(.int .i64 eu),(.int .i64 lK),(.int .i64 lL)=>aC.l29 F ap cy dr dt n dB gy dq eu lK lL H
 | _,_,_,_,_,_=>none
theorem aC.lh29_inv {F:Nat} {ap:Int->Int->Sl->Int->Int->Hp->OA} {cy:Int->Hp->OA} {dr:Int->Int->Sl->Int->Int->Hp->OA} {dt:Int->Int->Sl->Int->Int->Hp->OA} {ks:List Nat} {n:Nat} {tm:Tm} {H:Hp} {r:AV×Hp} (h:aC.lh29 F ap cy dr dt ks n tm H=some r):∃ dB gy dq eu lK lL,ks=[]/\eD tm [(0,(.ptr dB gy)),(1,(.int .i64 dq)),(5,(.int .i64 eu)),(6,(.int .i64 lK)),(7,(.int .i64 lL))]/\aC.l29 F ap cy dr dt n dB gy dq eu lK lL H=some r:=by
 unfold aC.lh29 at h
 split at h
 ·exact ⟨_,_,_,_,_,_,rfl,⟨‹_›,‹_›,‹_›,‹_›,‹_›,trivial⟩,h⟩
 ·cases h
def aC.lh65513 (F:Nat) (ap:Int->Int->Sl->Int->Int->Hp->OA) (cy:Int->Hp->OA) (dr:Int->Int->Sl->Int->Int->Hp->OA) (dt:Int->Int->Sl->Int->Int->Hp->OA) (ks:List Nat) (n:Nat) (tm:Tm) (H:Hp):OA:=match ks,tm 0,tm 1,tm 10 with
 | [],(.ptr md mf),(.int .i64 ki),(.int .i64 kj)=>aC.l65513 F ap cy dr dt n md mf ki kj H
 | _,_,_,_=>none
theorem aC.lh65513_inv {F:Nat} {ap:Int->Int->Sl->Int->Int->Hp->OA} {cy:Int->Hp->OA} {dr:Int->Int->Sl->Int->Int->Hp->OA} {dt:Int->Int->Sl->Int->Int->Hp->OA} {ks:List Nat} {n:Nat} {tm:Tm} {H:Hp} {r:AV×Hp} (h:aC.lh65513 F ap cy dr dt ks n tm H=some r):∃ md mf ki kj,ks=[]/\eD tm [(0,(.ptr md mf)),(1,(.int .i64 ki)),(10,(.int .i64 kj))]/\aC.l65513 F ap cy dr dt n md mf ki kj H=some r:=by
 unfold aC.lh65513 at h
 split at h
 ·exact ⟨_,_,_,_,rfl,⟨‹_›,‹_›,‹_›,trivial⟩,h⟩
 ·cases h
def aC.lh65515 (F:Nat) (ap:Int->Int->Sl->Int->Int->Hp->OA) (cy:Int->Hp->OA) (dr:Int->Int->Sl->Int->Int->Hp->OA) (dt:Int->Int->Sl->Int->Int->Hp->OA) (ks:List Nat) (n:Nat) (tm:Tm) (H:Hp):OA:=match ks,tm 0,tm 1,tm 11 with
 | [],(.ptr kJ kK),(.int .i64 jJ),(.int .i64 jf)=>aC.l65515 F ap cy dr dt n kJ kK jJ jf H
 | _,_,_,_=>none
theorem aC.lh65515_inv {F:Nat} {ap:Int->Int->Sl->Int->Int->Hp->OA} {cy:Int->Hp->OA} {dr:Int->Int->Sl->Int->Int->Hp->OA} {dt:Int->Int->Sl->Int->Int->Hp->OA} {ks:List Nat} {n:Nat} {tm:Tm} {H:Hp} {r:AV×Hp} (h:aC.lh65515 F ap cy dr dt ks n tm H=some r):∃ kJ kK jJ jf,ks=[]/\eD tm [(0,(.ptr kJ kK)),(1,(.int .i64 jJ)),(11,(.int .i64 jf))]/\aC.l65515 F ap cy dr dt n kJ kK jJ jf H=some r:=by
 unfold aC.lh65515 at h
 split at h
 ·exact ⟨_,_,_,_,rfl,⟨‹_›,‹_›,‹_›,trivial⟩,h⟩
 ·cases h
def aC.lh469 (F:Nat) (ap:Int->Int->Sl->Int->Int->Hp->OA) (cy:Int->Hp->OA) (dr:Int->Int->Sl->Int->Int->Hp->OA) (dt:Int->Int->Sl->Int->Int->Hp->OA) (ks:List Nat) (n:Nat) (tm:Tm) (H:Hp):OA:=match ks,tm 0,tm 1,tm 5,tm 6,tm 7,tm 8 with
 | [eM],(.ptr kL kM),(.int .i64 jN),(.int .i64 jO),(.int .i64 kl),(.int .i64 iz),(.int .i64 iA)=>aC.l469 F ap cy dr dt (aC.l29 F ap cy dr dt eM) n kL kM jN jO kl iz iA H
 | _,_,_,_,_,_,_=>none
theorem aC.lh469_inv {F:Nat} {ap:Int->Int->Sl->Int->Int->Hp->OA} {cy:Int->Hp->OA} {dr:Int->Int->Sl->Int->Int->Hp->OA} {dt:Int->Int->Sl->Int->Int->Hp->OA} {ks:List Nat} {n:Nat} {tm:Tm} {H:Hp} {r:AV×Hp} (h:aC.lh469 F ap cy dr dt ks n tm H=some r):∃ eM kL kM jN jO kl iz iA,ks=[eM]/\eD tm [(0,(.ptr kL kM)),(1,(.int .i64 jN)),(5,(.int .i64 jO)),(6,(.int .i64 kl)),(7,(.int .i64 iz)),(8,(.int .i64 iA))]/\aC.l469 F ap cy dr dt (aC.l29 F ap cy dr dt eM) n kL kM jN jO kl iz iA H=some r:=by
 unfold aC.lh469 at h
 split at h
 ·exact ⟨_,_,_,_,_,_,_,_,rfl,⟨‹_›,‹_›,‹_›,‹_›,‹_›,‹_›,trivial⟩,h⟩
 ·cases h
def aC.lh (F:Nat) (ap:Int->Int->Sl->Int->Int->Hp->OA) (cy:Int->Hp->OA) (dr:Int->Int->Sl->Int->Int->Hp->OA) (dt:Int->Int->Sl->Int->Int->Hp->OA) (p:Nat) (ks:List Nat) (n:Nat) (tm:Tm) (H:Hp):OA:=bif p.beq 469 then aC.lh469 F ap cy dr dt ks n tm H else (bif p.beq 65515 then aC.lh65515 F ap cy dr dt ks n tm H else (bif p.beq 65513 then aC.lh65513 F ap cy dr dt ks n tm H else (bif p.beq 29 then aC.lh29 F ap cy dr dt ks n tm H else (none))))
def aC.pn:Nat->List Nat:=fA [(23,[23]),(27,[23]),(28,[23])]
def aC.tb:Nat->List (List Nat):=fA [(23,[[],[0],[0,1],[0,1,2],[0,1,2,3],[],[],[6],[6,7],[6,7,8],[6,7,8,9],[5,6,7,8,9,10],[],[5,6,7,8,9,10,11,12],[],[14],[14,15],[14,15,16],[],[],[14,15,16,17,18,19],[14,15,16,17,18,19,20],[0,1,2,3,4,5,6,7,8,9,10,11,12,13,14,15,16,17,18,19,20,21],[0,1,2,3,4,5,6,7,8,9,10,11,12,13,14,15,16,17,18,19,20,21,22]]),(27,[[],[0],[0,1],[0,1,2],[0,1,2,3],[],[],[6],[6,7],[6,7,8],[6,7,8,9],[5,6,7,8,9,10],[],[5,6,7,8,9,10,11,12],[],[14],[14,15],[14,15,16],[],[],[14,15,16,17,18,19],[14,15,16,17,18,19,20],[0,1,2,3,4,5,6,7,8,9,10,11,12,13,14,15,16,17,18,19,20,21],[0,1,2,3,4,5,6,7,8,9,10,11,12,13,14,15,16,17,18,19,20,21,22]]),(28,[[],[0],[0,1],[0,1,2],[0,1,2,3],[],[],[6],[6,7],[6,7,8],[6,7,8,9],[5,6,7,8,9,10],[],[5,6,7,8,9,10,11,12],[],[14],[14,15],[14,15,16],[],[],[14,15,16,17,18,19],[14,15,16,17,18,19,20],[0,1,2,3,4,5,6,7,8,9,10,11,12,13,14,15,16,17,18,19,20,21],[0,1,2,3,4,5,6,7,8,9,10,11,12,13,14,15,16,17,18,19,20,21,22]])]
def aC.mk (g:Nat->Nat->Int->Hp->OA) (args:List AV) (H:Hp):OA:=match args with
 | [(.ptr aa af),(.int .i64 ag)]=>g aa af ag H
 | _=>none
def aC.cs (F:Nat) (ap:Int->Int->Sl->Int->Int->Hp->OA) (cy:Int->Hp->OA) (dr:Int->Int->Sl->Int->Int->Hp->OA) (dt:Int->Int->Sl->Int->Int->Hp->OA):Cs:=[(79,bo.mk ap),(114,en.mk cy),(145,cD.mk dr),(159,cE.mk dt)]
theorem aC.loops (F:Nat) (ap:Int->Int->Sl->Int->Int->Hp->OA) (cy:Int->Hp->OA) (dr:Int->Int->Sl->Int->Int->Hp->OA) (dt:Int->Int->Sl->Int->Int->Hp->OA):LO (bG (aC.cs F ap cy dr dt)) aC.pn (aC.lh F ap cy dr dt) F Try.f139:=
 (ai.rt (ai.rt (ai.seq (ai.rt (ai.block (ai.loop (λtm H=>eG λr h=>by obtain ⟨dB,gy,dq,eu,lK,lL,hks,e,h⟩:=aC.lh29_inv (show aC.lh29 F ap cy dr dt [] 0 tm H=some r from h);cases h) (λk29 tm H r h=>by obtain ⟨dB,gy,dq,eu,lK,lL,hks,e,h⟩:=aC.lh29_inv (show aC.lh29 F ap cy dr dt [] (k29+1) tm H=some r from h);rw [<- eE e];exact Eq.trans (by kernel_rfl) h) λk29=>(ai.rt (ai.lt (ai.block (ai.rt (ai.block (ai.loop (λtm H=>eG λr h=>by obtain ⟨eM,kL,kM,jN,jO,kl,iz,iA,hks,e,h⟩:=aC.lh469_inv (show aC.lh469 F ap cy dr dt [k29] 0 tm H=some r from h);cases h) (λk469 tm H r h=>by obtain ⟨eM,kL,kM,jN,jO,kl,iz,iA,hks,e,h⟩:=aC.lh469_inv (show aC.lh469 F ap cy dr dt [k29] (k469+1) tm H=some r from h);cases hks;rw [<- eE e];exact Eq.trans (by kernel_rfl) h) λk469=>ai.no))))))))) (ai.rt (ai.rt (ai.rt (ai.rt (ai.rt (ai.rt (ai.rt (ai.lt (ai.rt (ai.cond (ai.seq (ai.rt (ai.block (ai.loop (λtm H=>eG λr h=>by obtain ⟨md,mf,ki,kj,hks,e,h⟩:=aC.lh65513_inv (show aC.lh65513 F ap cy dr dt [] 0 tm H=some r from h);cases h) (λk65513 tm H r h=>by obtain ⟨md,mf,ki,kj,hks,e,h⟩:=aC.lh65513_inv (show aC.lh65513 F ap cy dr dt [] (k65513+1) tm H=some r from h);rw [<- eE e];exact Eq.trans (by kernel_rfl) h) λk65513=>ai.no))) (ai.rt (ai.block (ai.loop (λtm H=>eG λr h=>by obtain ⟨kJ,kK,jJ,jf,hks,e,h⟩:=aC.lh65515_inv (show aC.lh65515 F ap cy dr dt [] 0 tm H=some r from h);cases h) (λk65515 tm H r h=>by obtain ⟨kJ,kK,jJ,jf,hks,e,h⟩:=aC.lh65515_inv (show aC.lh65515 F ap cy dr dt [] (k65515+1) tm H=some r from h);rw [<- eE e];exact Eq.trans (by kernel_rfl) h) λk65515=>ai.no)))) ai.no)))))))))))))
theorem aC.eqX (F:Nat) (ap:Int->Int->Sl->Int->Int->Hp->OA) (cy:Int->Hp->OA) (dr:Int->Int->Sl->Int->Int->Hp->OA) (dt:Int->Int->Sl->Int->Int->Hp->OA) (aa:Nat) (af:Nat) (ag:Int) (H:Hp):EX (bG (aC.cs F ap cy dr dt)) aC.pn (aC.lh F ap cy dr dt) F Try.f139 [(.ptr aa af),(.int .i64 ag)] H=aC.twX F ap cy dr dt aa af ag H:=by kernel_rfl
theorem aC.k (F:Nat):Ok Try.prog 139 (aC.mk (aC.tw F)):=by
 intro args H v H' h
 unfold aC.mk at h
 split at h
 ·exact okT (TB:=aC.tb) Try.func139 (bM (bo.k F) (bM (en.k F) (bM (cD.k F) (bM (cE.k F) di)))) (aC.loops F (bo.tw F) (en.tw F) (cD.tw F) (cE.tw F)) ((aC.eqX F (bo.tw F) (en.tw F) (cD.tw F) (cE.tw F) _ _ _ H).trans h) (by kernel_rfl)
 ·cases h
def gA.twX (F:Nat) (aa:Int) (au:Int) (H:Hp):OA:=(if au=0 then none else ((if au=0 then none else ((bif (decide ((Int.tmod aa au)<0)) then (some ((.int .i64 (IntKind.i64.wrap ((IntKind.i64.wrap (Int.tdiv aa au)) - 1))),H)) else (some ((.int .i64 (IntKind.i64.wrap (Int.tdiv aa au))),H)))))))
def gA.tw (F:Nat) (aa:Int) (au:Int) (H:Hp):OA:=gA.twX F aa au H
def gA.mk (g:Int->Int->Hp->OA) (args:List AV) (H:Hp):OA:=match args with
 | [(.int .i64 aa),(.int .i64 au)]=>g aa au H
 | _=>none
theorem gA.eqX (F:Nat) (aa:Int) (au:Int) (H:Hp):EX (bG []) bw lh0 F Try.f141 [(.int .i64 aa),(.int .i64 au)] H=gA.twX F aa au H:=by kernel_rfl
theorem gA.k (F:Nat):Ok Try.prog 141 (gA.mk (gA.tw F)):=by
 intro args H v H' h
 unfold gA.mk at h
 split at h
 ·exact okT (TB:=bw) Try.func141 di ai.no ((gA.eqX F _ _ H).trans h) (by kernel_rfl)
 ·cases h
def ii.twX (F:Nat) (cy:Int->Hp->OA) (aa:Int) (au:Int) (dA:Int) (H:Hp):OA:=(bif (aa != 0) then ((cy au H).bind λr4=>((r4.1).asI .i64).bind λn5=>(cy aa r4.2).bind λr6=>((r6.1).asI .i64).bind λn7=>(if n7=0 then none else ((bif (decide (n5>(IntKind.i64.wrap (Int.tdiv dA n7)))) then (some ((.tup [(.int .i64 0),(.bool false)]),r6.2)) else (some ((.tup [(.int .i64 (IntKind.i64.wrap (aa * au))),(.bool true)]),r6.2)))))) else (some ((.tup [(.int .i64 (IntKind.i64.wrap (aa * au))),(.bool true)]),H)))
def ii.tw (F:Nat) (aa:Int) (au:Int) (dA:Int) (H:Hp):OA:=ii.twX F (en.tw F) aa au dA H
def ii.mk (g:Int->Int->Int->Hp->OA) (args:List AV) (H:Hp):OA:=match args with
 | [(.int .i64 aa),(.int .i64 au),(.int .i64 dA)]=>g aa au dA H
 | _=>none
def ii.cs (F:Nat) (cy:Int->Hp->OA):Cs:=[(114,en.mk cy)]
theorem ii.eqX (F:Nat) (cy:Int->Hp->OA) (aa:Int) (au:Int) (dA:Int) (H:Hp):EX (bG (ii.cs F cy)) bw lh0 F Try.f113 [(.int .i64 aa),(.int .i64 au),(.int .i64 dA)] H=ii.twX F cy aa au dA H:=by kernel_rfl
theorem ii.k (F:Nat):Ok Try.prog 113 (ii.mk (ii.tw F)):=by
 intro args H v H' h
 unfold ii.mk at h
 split at h
 ·exact okT (TB:=bw) Try.func113 (bM (en.k F) di) ai.no ((ii.eqX F (en.tw F) _ _ _ H).trans h) (by kernel_rfl)
 ·cases h
def fR.twX (F:Nat) (sm:Int->Int->Int->Hp->OA) (aa:Int) (au:Int) (dA:Int) (H:Hp):OA:=(sm au dA 2000000000000 H).bind λr4=>((r4.1).asTup 2).bind λl5=>(l5[0]?).bind λv6=>((v6).asI .i64).bind λn7=>(l5[1]?).bind λv8=>((v8).asB).bind λb9=>(bif (!b9) then (some ((.int .i64 3000000000000),r4.2)) else (some ((.int .i64 (IntKind.i64.wrap (aa - n7))),r4.2)))
def fR.tw (F:Nat) (aa:Int) (au:Int) (dA:Int) (H:Hp):OA:=fR.twX F (ii.tw F) aa au dA H
def fR.mk (g:Int->Int->Int->Hp->OA) (args:List AV) (H:Hp):OA:=match args with
 | [(.int .i64 aa),(.int .i64 au),(.int .i64 dA)]=>g aa au dA H
 | _=>none
def fR.cs (F:Nat) (sm:Int->Int->Int->Hp->OA):Cs:=[(113,ii.mk sm)]
theorem fR.eqX (F:Nat) (sm:Int->Int->Int->Hp->OA) (aa:Int) (au:Int) (dA:Int) (H:Hp):EX (bG (fR.cs F sm)) bw lh0 F Try.f165 [(.int .i64 aa),(.int .i64 au),(.int .i64 dA)] H=fR.twX F sm aa au dA H:=by kernel_rfl
theorem fR.k (F:Nat):Ok Try.prog 165 (fR.mk (fR.tw F)):=by
 intro args H v H' h
 unfold fR.mk at h
 split at h
 ·exact okT (TB:=bw) Try.func165 (bM (ii.k F) di) ai.no ((fR.eqX F (ii.tw F) _ _ _ H).trans h) (by kernel_rfl)
 ·cases h
def fS.twX (F:Nat) (cy:Int->Hp->OA) (aa:Nat) (af:Nat) (ag:Int) (aw:Int) (du:Sl) (dC:Int) (dD:Int) (dw:Int) (H:Hp):OA:=(Hp.new H [(.int .i64 ag),(.int .i64 aw),(.sl du)]).bind λH9=>(cy dw H9).bind λr10=>((r10.1).asI .i64).bind λn11=>(bif (decide (n11>1000000000000)) then ((Hp.st r10.2 aa (af+15) (.bool true)).bind λH12=>some ((.tup []),H12)) else ((Hp.ldSl r10.2 H.length 2).bind λs13=>(Hp.ldI r10.2 .i64 H.length 1).bind λn14=>(Sl.idx s13 (IntKind.i64.wrap ((IntKind.i64.wrap (dC * n14))+dD)) 1).bind λp15=>(Hp.st r10.2 p15.1 p15.2 (.int .i64 dw)).bind λH16=>some ((.tup []),H16)))
def fS.tw (F:Nat) (aa:Nat) (af:Nat) (ag:Int) (aw:Int) (du:Sl) (dC:Int) (dD:Int) (dw:Int) (H:Hp):OA:=fS.twX F (en.tw F) aa af ag aw du dC dD dw H
def fS.mk (g:Nat->Nat->Int->Int->Sl->Int->Int->Int->Hp->OA) (args:List AV) (H:Hp):OA:=match args with
 | [(.ptr aa af),(.agg [(.int .i64 ag),(.int .i64 aw),(.sl du)]),(.int .i64 dC),(.int .i64 dD),(.int .i64 dw)]=>g aa af ag aw du dC dD dw H
 | _=>none
def fS.cs (F:Nat) (cy:Int->Hp->OA):Cs:=[(114,en.mk cy)]
theorem fS.eqX (F:Nat) (cy:Int->Hp->OA) (aa:Nat) (af:Nat) (ag:Int) (aw:Int) (du:Sl) (dC:Int) (dD:Int) (dw:Int) (H:Hp):EX (bG (fS.cs F cy)) bw lh0 F Try.f164 [(.ptr aa af),(.agg [(.int .i64 ag),(.int .i64 aw),(.sl du)]),(.int .i64 dC),(.int .i64 dD),(.int .i64 dw)] H=fS.twX F cy aa af ag aw du dC dD dw H:=by kernel_rfl
theorem fS.k (F:Nat):Ok Try.prog 164 (fS.mk (fS.tw F)):=by
 intro args H v H' h
 unfold fS.mk at h
 split at h
 ·exact okT (TB:=bw) Try.func164 (bM (en.k F) di) ai.no ((fS.eqX F (en.tw F) _ _ _ _ _ _ _ _ H).trans h) (by kernel_rfl)
 ·cases h
def cK.l7 (F:Nat) (ap:Int->Int->Sl->Int->Int->Hp->OA) (fc:Int->Int->Int->Hp->OA) (fd:Nat->Nat->Int->Int->Sl->Int->Int->Int->Hp->OA) :Nat->Nat->Nat->Int->Int->Int->Nat->Nat->Int->Hp->OA
 | 0,_,_,_,_,_,_,_,_,_=>none
 | mc+1,jZ,ed,gf,eH,gG,ff,dk,fg,H21=>(Hp.ldI H21 .i64 ff (dk+1)).bind λn40=>(bif (decide (fg<n40)) then ((Hp.ldB H21 jZ (ed+15)).bind λb41=>(bif (!b41) then ((Hp.ldI H21 .i64 ff dk).bind λn42=>(Hp.ldI H21 .i64 ff (dk+1)).bind λn43=>(Hp.ldSl H21 ff (dk+2)).bind λs44=>(Hp.ldI H21 .i64 ff dk).bind λn45=>(Hp.ldI H21 .i64 ff (dk+1)).bind λn46=>(Hp.ldSl H21 ff (dk+2)).bind λs47=>(ap n45 n46 s47 gf fg H21).bind λr48=>((r48.1).asI .i64).bind λn49=>(if bh H21 r48.2 then ((Hp.ldI r48.2 .i64 ff dk).bind λn50=>(Hp.ldI r48.2 .i64 ff (dk+1)).bind λn51=>(Hp.ldSl r48.2 ff (dk+2)).bind λs52=>(ap n50 n51 s52 eH fg r48.2).bind λr53=>((r53.1).asI .i64).bind λn54=>(if bh r48.2 r53.2 then ((fc n49 gG n54 r53.2).bind λr55=>((r55.1).asI .i64).bind λn56=>(if bh r53.2 r55.2 then ((fd jZ ed n42 n43 s44 gf fg n56 r55.2).bind λr57=>cK.l7 F ap fc fd mc jZ ed gf eH gG ff dk (IntKind.i64.wrap (fg+1)) r57.2) else none)) else none)) else none)) else (some ((.tup []),H21)))) else (some ((.tup []),H21)))
termination_by structural n=>n
def cK.twX (F:Nat) (ap:Int->Int->Sl->Int->Int->Hp->OA) (fc:Int->Int->Int->Hp->OA) (fd:Nat->Nat->Int->Int->Sl->Int->Int->Int->Hp->OA) (aa:Nat) (af:Nat) (ag:Int) (aw:Int) (du:Sl) (dC:Int) (dD:Int) (dw:Int) (H:Hp):OA:=(Hp.new H [(.int .i64 ag),(.int .i64 aw),(.sl du)]).bind λH9=>cK.l7 F ap fc fd F aa af dC dD dw H.length 0 0 H9
def cK.tw (F:Nat) (aa:Nat) (af:Nat) (ag:Int) (aw:Int) (du:Sl) (dC:Int) (dD:Int) (dw:Int) (H:Hp):OA:=cK.twX F (bo.tw F) (fR.tw F) (fS.tw F) aa af ag aw du dC dD dw H
def cK.lh7 (F:Nat) (ap:Int->Int->Sl->Int->Int->Hp->OA) (fc:Int->Int->Int->Hp->OA) (fd:Nat->Nat->Int->Int->Sl->Int->Int->Int->Hp->OA) (ks:List Nat) (n:Nat) (tm:Tm) (H:Hp):OA:=match ks,tm 0,tm 2,tm 3,tm 4,tm 6,tm 10 with
 | [],(.ptr jZ ed),(.int .i64 gf),(.int .i64 eH),(.int .i64 gG),(.ptr ff dk),(.int .i64 fg)=>cK.l7 F ap fc fd n jZ ed gf eH gG ff dk fg H
 | _,_,_,_,_,_,_=>none
theorem cK.lh7_inv {F:Nat} {ap:Int->Int->Sl->Int->Int->Hp->OA} {fc:Int->Int->Int->Hp->OA} {fd:Nat->Nat->Int->Int->Sl->Int->Int->Int->Hp->OA} {ks:List Nat} {n:Nat} {tm:Tm} {H:Hp} {r:AV×Hp} (h:cK.lh7 F ap fc fd ks n tm H=some r):∃ jZ ed gf eH gG ff dk fg,ks=[]/\eD tm [(0,(.ptr jZ ed)),(2,(.int .i64 gf)),(3,(.int .i64 eH)),(4,(.int .i64 gG)),(6,(.ptr ff dk)),(10,(.int .i64 fg))]/\cK.l7 F ap fc fd n jZ ed gf eH gG ff dk fg H=some r:=by
 unfold cK.lh7 at h
 split at h
 ·exact ⟨_,_,_,_,_,_,_,_,rfl,⟨‹_›,‹_›,‹_›,‹_›,‹_›,‹_›,trivial⟩,h⟩
 ·cases h
def cK.lh (F:Nat) (ap:Int->Int->Sl->Int->Int->Hp->OA) (fc:Int->Int->Int->Hp->OA) (fd:Nat->Nat->Int->Int->Sl->Int->Int->Int->Hp->OA) (p:Nat) (ks:List Nat) (n:Nat) (tm:Tm) (H:Hp):OA:=bif p.beq 7 then cK.lh7 F ap fc fd ks n tm H else (none)
def cK.pn:Nat->List Nat:=fA [(4,[14])]
def cK.tb:Nat->List (List Nat):=fA [(4,[[],[],[],[],[],[],[],[4,5,6],[],[],[],[],[4,5,6,7,9,10,11],[4,5,6,7,8,9,10,11,12],[0,1,2,3,4,5,6,7,8,9,10,11,12,13]])]
def cK.mk (g:Nat->Nat->Int->Int->Sl->Int->Int->Int->Hp->OA) (args:List AV) (H:Hp):OA:=match args with
 | [(.ptr aa af),(.agg [(.int .i64 ag),(.int .i64 aw),(.sl du)]),(.int .i64 dC),(.int .i64 dD),(.int .i64 dw)]=>g aa af ag aw du dC dD dw H
 | _=>none
def cK.cs (F:Nat) (ap:Int->Int->Sl->Int->Int->Hp->OA) (fc:Int->Int->Int->Hp->OA) (fd:Nat->Nat->Int->Int->Sl->Int->Int->Int->Hp->OA):Cs:=[(79,bo.mk ap),(165,fR.mk fc),(164,fS.mk fd)]
theorem cK.loops (F:Nat) (ap:Int->Int->Sl->Int->Int->Hp->OA) (fc:Int->Int->Int->Hp->OA) (fd:Nat->Nat->Int->Int->Sl->Int->Int->Int->Hp->OA):LO (bG (cK.cs F ap fc fd)) cK.pn (cK.lh F ap fc fd) F Try.f160:=
 (ai.rt (ai.rt (ai.block (ai.loop (λtm H=>eG λr h=>by obtain ⟨jZ,ed,gf,eH,gG,ff,dk,fg,hks,e,h⟩:=cK.lh7_inv (show cK.lh7 F ap fc fd [] 0 tm H=some r from h);cases h) (λk7 tm H r h=>by obtain ⟨jZ,ed,gf,eH,gG,ff,dk,fg,hks,e,h⟩:=cK.lh7_inv (show cK.lh7 F ap fc fd [] (k7+1) tm H=some r from h);rw [<- eE e];exact Eq.trans (by kernel_rfl) h) λk7=>ai.no))))
theorem cK.eqX (F:Nat) (ap:Int->Int->Sl->Int->Int->Hp->OA) (fc:Int->Int->Int->Hp->OA) (fd:Nat->Nat->Int->Int->Sl->Int->Int->Int->Hp->OA) (aa:Nat) (af:Nat) (ag:Int) (aw:Int) (du:Sl) (dC:Int) (dD:Int) (dw:Int) (H:Hp):EX (bG (cK.cs F ap fc fd)) cK.pn (cK.lh F ap fc fd) F Try.f160 [(.ptr aa af),(.agg [(.int .i64 ag),(.int .i64 aw),(.sl du)]),(.int .i64 dC),(.int .i64 dD),(.int .i64 dw)] H=cK.twX F ap fc fd aa af ag aw du dC dD dw H:=by kernel_rfl
theorem cK.k (F:Nat):Ok Try.prog 160 (cK.mk (cK.tw F)):=by
 intro args H v H' h
 unfold cK.mk at h
 split at h
 ·exact okT (TB:=cK.tb) Try.func160 (bM (bo.k F) (bM (fR.k F) (bM (fS.k F) di))) (cK.loops F (bo.tw F) (fR.tw F) (fS.tw F)) ((cK.eqX F (bo.tw F) (fR.tw F) (fS.tw F) _ _ _ _ _ _ _ _ H).trans h) (by kernel_rfl)
 ·cases h
def cL.l7 (F:Nat) (ap:Int->Int->Sl->Int->Int->Hp->OA) (fc:Int->Int->Int->Hp->OA) (fd:Nat->Nat->Int->Int->Sl->Int->Int->Int->Hp->OA) :Nat->Nat->Nat->Int->Int->Int->Nat->Nat->Int->Hp->OA
 | 0,_,_,_,_,_,_,_,_,_=>none
 | mc+1,jZ,ed,gf,eH,gG,ff,dk,fg,H21=>(Hp.ldI H21 .i64 ff dk).bind λn40=>(bif (decide (fg<n40)) then ((Hp.ldB H21 jZ (ed+15)).bind λb41=>(bif (!b41) then ((Hp.ldI H21 .i64 ff dk).bind λn42=>(Hp.ldI H21 .i64 ff (dk+1)).bind λn43=>(Hp.ldSl H21 ff (dk+2)).bind λs44=>(Hp.ldI H21 .i64 ff dk).bind λn45=>(Hp.ldI H21 .i64 ff (dk+1)).bind λn46=>(Hp.ldSl H21 ff (dk+2)).bind λs47=>(ap n45 n46 s47 fg gf H21).bind λr48=>((r48.1).asI .i64).bind λn49=>(if bh H21 r48.2 then ((Hp.ldI r48.2 .i64 ff dk).bind λn50=>(Hp.ldI r48.2 .i64 ff (dk+1)).bind λn51=>(Hp.ldSl r48.2 ff (dk+2)).bind λs52=>(ap n50 n51 s52 fg eH r48.2).bind λr53=>((r53.1).asI .i64).bind λn54=>(if bh r48.2 r53.2 then ((fc n49 gG n54 r53.2).bind λr55=>((r55.1).asI .i64).bind λn56=>(if bh r53.2 r55.2 then ((fd jZ ed n42 n43 s44 fg gf n56 r55.2).bind λr57=>cL.l7 F ap fc fd mc jZ ed gf eH gG ff dk (IntKind.i64.wrap (fg+1)) r57.2) else none)) else none)) else none)) else (some ((.tup []),H21)))) else (some ((.tup []),H21)))
termination_by structural n=>n
def cL.twX (F:Nat) (ap:Int->Int->Sl->Int->Int->Hp->OA) (fc:Int->Int->Int->Hp->OA) (fd:Nat->Nat->Int->Int->Sl->Int->Int->Int->Hp->OA) (aa:Nat) (af:Nat) (ag:Int) (aw:Int) (du:Sl) (dC:Int) (dD:Int) (dw:Int) (H:Hp):OA:=(Hp.new H [(.int .i64 ag),(.int .i64 aw),(.sl du)]).bind λH9=>cL.l7 F ap fc fd F aa af dC dD dw H.length 0 0 H9
def cL.tw (F:Nat) (aa:Nat) (af:Nat) (ag:Int) (aw:Int) (du:Sl) (dC:Int) (dD:Int) (dw:Int) (H:Hp):OA:=cL.twX F (bo.tw F) (fR.tw F) (fS.tw F) aa af ag aw du dC dD dw H
def cL.lh7 (F:Nat) (ap:Int->Int->Sl->Int->Int->Hp->OA) (fc:Int->Int->Int->Hp->OA) (fd:Nat->Nat->Int->Int->Sl->Int->Int->Int->Hp->OA) (ks:List Nat) (n:Nat) (tm:Tm) (H:Hp):OA:=match ks,tm 0,tm 2,tm 3,tm 4,tm 6,tm 10 with
 | [],(.ptr jZ ed),(.int .i64 gf),(.int .i64 eH),(.int .i64 gG),(.ptr ff dk),(.int .i64 fg)=>cL.l7 F ap fc fd n jZ ed gf eH gG ff dk fg H
 | _,_,_,_,_,_,_=>none
theorem cL.lh7_inv {F:Nat} {ap:Int->Int->Sl->Int->Int->Hp->OA} {fc:Int->Int->Int->Hp->OA} {fd:Nat->Nat->Int->Int->Sl->Int->Int->Int->Hp->OA} {ks:List Nat} {n:Nat} {tm:Tm} {H:Hp} {r:AV×Hp} (h:cL.lh7 F ap fc fd ks n tm H=some r):∃ jZ ed gf eH gG ff dk fg,ks=[]/\eD tm [(0,(.ptr jZ ed)),(2,(.int .i64 gf)),(3,(.int .i64 eH)),(4,(.int .i64 gG)),(6,(.ptr ff dk)),(10,(.int .i64 fg))]/\cL.l7 F ap fc fd n jZ ed gf eH gG ff dk fg H=some r:=by
 unfold cL.lh7 at h
 split at h
 ·exact ⟨_,_,_,_,_,_,_,_,rfl,⟨‹_›,‹_›,‹_›,‹_›,‹_›,‹_›,trivial⟩,h⟩
 ·cases h
def cL.lh (F:Nat) (ap:Int->Int->Sl->Int->Int->Hp->OA) (fc:Int->Int->Int->Hp->OA) (fd:Nat->Nat->Int->Int->Sl->Int->Int->Int->Hp->OA) (p:Nat) (ks:List Nat) (n:Nat) (tm:Tm) (H:Hp):OA:=bif p.beq 7 then cL.lh7 F ap fc fd ks n tm H else (none)
def cL.pn:Nat->List Nat:=fA [(4,[14])]
def cL.tb:Nat->List (List Nat):=fA [(4,[[],[],[],[],[],[],[],[4,5,6],[],[],[],[],[4,5,6,7,9,10,11],[4,5,6,7,8,9,10,11,12],[0,1,2,3,4,5,6,7,8,9,10,11,12,13]])]
def cL.mk (g:Nat->Nat->Int->Int->Sl->Int->Int->Int->Hp->OA) (args:List AV) (H:Hp):OA:=match args with
 | [(.ptr aa af),(.agg [(.int .i64 ag),(.int .i64 aw),(.sl du)]),(.int .i64 dC),(.int .i64 dD),(.int .i64 dw)]=>g aa af ag aw du dC dD dw H
 | _=>none
def cL.cs (F:Nat) (ap:Int->Int->Sl->Int->Int->Hp->OA) (fc:Int->Int->Int->Hp->OA) (fd:Nat->Nat->Int->Int->Sl->Int->Int->Int->Hp->OA):Cs:=[(79,bo.mk ap),(165,fR.mk fc),(164,fS.mk fd)]
theorem cL.loops (F:Nat) (ap:Int->Int->Sl->Int->Int->Hp->OA) (fc:Int->Int->Int->Hp->OA) (fd:Nat->Nat->Int->Int->Sl->Int->Int->Int->Hp->OA):LO (bG (cL.cs F ap fc fd)) cL.pn (cL.lh F ap fc fd) F Try.f161:=
 (ai.rt (ai.rt (ai.block (ai.loop (λtm H=>eG λr h=>by obtain ⟨jZ,ed,gf,eH,gG,ff,dk,fg,hks,e,h⟩:=cL.lh7_inv (show cL.lh7 F ap fc fd [] 0 tm H=some r from h);cases h) (λk7 tm H r h=>by obtain ⟨jZ,ed,gf,eH,gG,ff,dk,fg,hks,e,h⟩:=cL.lh7_inv (show cL.lh7 F ap fc fd [] (k7+1) tm H=some r from h);rw [<- eE e];exact Eq.trans (by kernel_rfl) h) λk7=>ai.no))))
theorem cL.eqX (F:Nat) (ap:Int->Int->Sl->Int->Int->Hp->OA) (fc:Int->Int->Int->Hp->OA) (fd:Nat->Nat->Int->Int->Sl->Int->Int->Int->Hp->OA) (aa:Nat) (af:Nat) (ag:Int) (aw:Int) (du:Sl) (dC:Int) (dD:Int) (dw:Int) (H:Hp):EX (bG (cL.cs F ap fc fd)) cL.pn (cL.lh F ap fc fd) F Try.f161 [(.ptr aa af),(.agg [(.int .i64 ag),(.int .i64 aw),(.sl du)]),(.int .i64 dC),(.int .i64 dD),(.int .i64 dw)] H=cL.twX F ap fc fd aa af ag aw du dC dD dw H:=by kernel_rfl
theorem cL.k (F:Nat):Ok Try.prog 161 (cL.mk (cL.tw F)):=by
 intro args H v H' h
 unfold cL.mk at h
 split at h
 ·exact okT (TB:=cL.tb) Try.func161 (bM (bo.k F) (bM (fR.k F) (bM (fS.k F) di))) (cL.loops F (bo.tw F) (fR.tw F) (fS.tw F)) ((cL.eqX F (bo.tw F) (fR.tw F) (fS.tw F) _ _ _ _ _ _ _ _ H).trans h) (by kernel_rfl)
 ·cases h
def gg.twX (F:Nat) (mz:Nat->Nat->Int->Int->Sl->Int->Int->Int->Hp->OA) (mA:Nat->Nat->Int->Int->Sl->Int->Int->Int->Hp->OA) (aa:Nat) (af:Nat) (ag:Int) (cv:Int) (dl:Int) (H:Hp):OA:=(bif (dl != 0) then ((Hp.ldI H .i64 aa af).bind λn6=>(Hp.ldI H .i64 aa (af+1)).bind λn7=>(Hp.ldSl H aa (af+2)).bind λs8=>(mz aa af n6 n7 s8 ag cv dl H).bind λr9=>(Hp.ldI r9.2 .i64 aa (af+3)).bind λn10=>(Hp.ldI r9.2 .i64 aa ((af+3)+1)).bind λn11=>(Hp.ldSl r9.2 aa ((af+3)+2)).bind λs12=>(mz aa af n10 n11 s12 ag cv dl r9.2).bind λr13=>(Hp.ldI r13.2 .i64 aa (af+6)).bind λn14=>(Hp.ldI r13.2 .i64 aa ((af+6)+1)).bind λn15=>(Hp.ldSl r13.2 aa ((af+6)+2)).bind λs16=>(mA aa af n14 n15 s16 cv ag (IntKind.i64.wrap (0 - dl)) r13.2).bind λr17=>some ((.tup []),r17.2)) else (some ((.tup []),H)))
def gg.tw (F:Nat) (aa:Nat) (af:Nat) (ag:Int) (cv:Int) (dl:Int) (H:Hp):OA:=gg.twX F (cK.tw F) (cL.tw F) aa af ag cv dl H
def gg.mk (g:Nat->Nat->Int->Int->Int->Hp->OA) (args:List AV) (H:Hp):OA:=match args with
 | [(.ptr aa af),(.int .i64 ag),(.int .i64 cv),(.int .i64 dl)]=>g aa af ag cv dl H
 | _=>none
def gg.cs (F:Nat) (mz:Nat->Nat->Int->Int->Sl->Int->Int->Int->Hp->OA) (mA:Nat->Nat->Int->Int->Sl->Int->Int->Int->Hp->OA):Cs:=[(160,cK.mk mz),(161,cL.mk mA)]
theorem gg.eqX (F:Nat) (mz:Nat->Nat->Int->Int->Sl->Int->Int->Int->Hp->OA) (mA:Nat->Nat->Int->Int->Sl->Int->Int->Int->Hp->OA) (aa:Nat) (af:Nat) (ag:Int) (cv:Int) (dl:Int) (H:Hp):EX (bG (gg.cs F mz mA)) bw lh0 F Try.f140 [(.ptr aa af),(.int .i64 ag),(.int .i64 cv),(.int .i64 dl)] H=gg.twX F mz mA aa af ag cv dl H:=by kernel_rfl
theorem gg.k (F:Nat):Ok Try.prog 140 (gg.mk (gg.tw F)):=by
 intro args H v H' h
 unfold gg.mk at h
 split at h
 ·exact okT (TB:=bw) Try.func140 (bM (cK.k F) (bM (cL.k F) di)) ai.no ((gg.eqX F (cK.tw F) (cL.tw F) _ _ _ _ _ H).trans h) (by kernel_rfl)
 ·cases h
def gr.twX (F:Nat) (mA:Nat->Nat->Int->Int->Sl->Int->Int->Int->Hp->OA) (mz:Nat->Nat->Int->Int->Sl->Int->Int->Int->Hp->OA) (aa:Nat) (af:Nat) (ag:Int) (cv:Int) (dl:Int) (H:Hp):OA:=(bif (dl != 0) then ((Hp.ldI H .i64 aa af).bind λn6=>(Hp.ldI H .i64 aa (af+1)).bind λn7=>(Hp.ldSl H aa (af+2)).bind λs8=>(mA aa af n6 n7 s8 ag cv dl H).bind λr9=>(Hp.ldI r9.2 .i64 aa (af+9)).bind λn10=>(Hp.ldI r9.2 .i64 aa ((af+9)+1)).bind λn11=>(Hp.ldSl r9.2 aa ((af+9)+2)).bind λs12=>(mA aa af n10 n11 s12 ag cv dl r9.2).bind λr13=>(Hp.ldI r13.2 .i64 aa (af+12)).bind λn14=>(Hp.ldI r13.2 .i64 aa ((af+12)+1)).bind λn15=>(Hp.ldSl r13.2 aa ((af+12)+2)).bind λs16=>(mz aa af n14 n15 s16 cv ag (IntKind.i64.wrap (0 - dl)) r13.2).bind λr17=>some ((.tup []),r17.2)) else (some ((.tup []),H)))
def gr.tw (F:Nat) (aa:Nat) (af:Nat) (ag:Int) (cv:Int) (dl:Int) (H:Hp):OA:=gr.twX F (cL.tw F) (cK.tw F) aa af ag cv dl H
def gr.mk (g:Nat->Nat->Int->Int->Int->Hp->OA) (args:List AV) (H:Hp):OA:=match args with
 | [(.ptr aa af),(.int .i64 ag),(.int .i64 cv),(.int .i64 dl)]=>g aa af ag cv dl H
 | _=>none
def gr.cs (F:Nat) (mA:Nat->Nat->Int->Int->Sl->Int->Int->Int->Hp->OA) (mz:Nat->Nat->Int->Int->Sl->Int->Int->Int->Hp->OA):Cs:=[(161,cL.mk mA),(160,cK.mk mz)]
theorem gr.eqX (F:Nat) (mA:Nat->Nat->Int->Int->Sl->Int->Int->Int->Hp->OA) (mz:Nat->Nat->Int->Int->Sl->Int->Int->Int->Hp->OA) (aa:Nat) (af:Nat) (ag:Int) (cv:Int) (dl:Int) (H:Hp):EX (bG (gr.cs F mA mz)) bw lh0 F Try.f142 [(.ptr aa af),(.int .i64 ag),(.int .i64 cv),(.int .i64 dl)] H=gr.twX F mA mz aa af ag cv dl H:=by kernel_rfl
theorem gr.k (F:Nat):Ok Try.prog 142 (gr.mk (gr.tw F)):=by
 intro args H v H' h
 unfold gr.mk at h
 split at h
 ·exact okT (TB:=bw) Try.func142 (bM (cL.k F) (bM (cK.k F) di)) ai.no ((gr.eqX F (cL.tw F) (cK.tw F) _ _ _ _ _ H).trans h) (by kernel_rfl)
 ·cases h
def bK.l29 (F:Nat) (ap:Int->Int->Sl->Int->Int->Hp->OA) :Nat->Nat->Nat->Int->Int->Hp->OA
 | 0,_,_,_,_,_=>none
 | eM+1,nl,nm,lM,ll,H30=>(Hp.ldI H30 .i64 nl (nm+1)).bind λn37=>(bif (decide (ll<n37)) then ((Hp.ldI H30 .i64 nl nm).bind λn38=>(Hp.ldI H30 .i64 nl (nm+1)).bind λn39=>(Hp.ldSl H30 nl (nm+2)).bind λs40=>(ap n38 n39 s40 lM ll H30).bind λr41=>((r41.1).asI .i64).bind λn42=>(bif (n42 != 0) then (some ((.bool false),r41.2)) else (bK.l29 F ap eM nl nm lM (IntKind.i64.wrap (ll+1)) r41.2))) else (some ((.bool true),H30)))
termination_by structural n=>n
def bK.j1 (F:Nat) (ap:Int->Int->Sl->Int->Int->Hp->OA) (HN:Nat) (HO:Nat) (pu:Int) (H22:Hp):OA:=bK.l29 F ap F HN HO pu (IntKind.i64.wrap (pu+1)) H22
def bK.l13 (F:Nat) (ap:Int->Int->Sl->Int->Int->Hp->OA) :Nat->Nat->Nat->Int->Int->Hp->OA
 | 0,_,_,_,_,_=>none
 | ic+1,dB,gy,dq,eu,H9=>(Hp.ldI H9 .i64 dB gy).bind λn43=>(bif (decide (eu<n43)) then ((Hp.ldI H9 .i64 dB gy).bind λn44=>(Hp.ldI H9 .i64 dB (gy+1)).bind λn45=>(Hp.ldSl H9 dB (gy+2)).bind λs46=>(ap n44 n45 s46 eu dq H9).bind λr47=>((r47.1).asI .i64).bind λn48=>(bif (n48 != 0) then (some ((.bool false),r47.2)) else (bK.l13 F ap ic dB gy dq (IntKind.i64.wrap (eu+1)) r47.2))) else (bK.j1 F ap dB gy dq H9))
termination_by structural n=>n
def bK.twX (F:Nat) (ap:Int->Int->Sl->Int->Int->Hp->OA) (aa:Nat) (af:Nat) (ag:Int) (H:Hp):OA:=bK.l13 F ap F aa af ag (IntKind.i64.wrap (ag+1)) H
def bK.tw (F:Nat) (aa:Nat) (af:Nat) (ag:Int) (H:Hp):OA:=bK.twX F (bo.tw F) aa af ag H
def bK.lh13 (F:Nat) (ap:Int->Int->Sl->Int->Int->Hp->OA) (ks:List Nat) (n:Nat) (tm:Tm) (H:Hp):OA:=match ks,tm 0,tm 1,tm 5 with
 | [],(.ptr dB gy),(.int .i64 dq),(.int .i64 eu)=>bK.l13 F ap n dB gy dq eu H
 | _,_,_,_=>none
theorem bK.lh13_inv {F:Nat} {ap:Int->Int->Sl->Int->Int->Hp->OA} {ks:List Nat} {n:Nat} {tm:Tm} {H:Hp} {r:AV×Hp} (h:bK.lh13 F ap ks n tm H=some r):∃ dB gy dq eu,ks=[]/\eD tm [(0,(.ptr dB gy)),(1,(.int .i64 dq)),(5,(.int .i64 eu))]/\bK.l13 F ap n dB gy dq eu H=some r:=by
 unfold bK.lh13 at h
 split at h
 ·exact ⟨_,_,_,_,rfl,⟨‹_›,‹_›,‹_›,trivial⟩,h⟩
 ·cases h
def bK.lh29 (F:Nat) (ap:Int->Int->Sl->Int->Int->Hp->OA) (ks:List Nat) (n:Nat) (tm:Tm) (H:Hp):OA:=match ks,tm 0,tm 1,tm 6 with
 | [],(.ptr nl nm),(.int .i64 lM),(.int .i64 ll)=>bK.l29 F ap n nl nm lM ll H
 | _,_,_,_=>none
theorem bK.lh29_inv {F:Nat} {ap:Int->Int->Sl->Int->Int->Hp->OA} {ks:List Nat} {n:Nat} {tm:Tm} {H:Hp} {r:AV×Hp} (h:bK.lh29 F ap ks n tm H=some r):∃ nl nm lM ll,ks=[]/\eD tm [(0,(.ptr nl nm)),(1,(.int .i64 lM)),(6,(.int .i64 ll))]/\bK.l29 F ap n nl nm lM ll H=some r:=by
 unfold bK.lh29 at h
 split at h
 ·exact ⟨_,_,_,_,rfl,⟨‹_›,‹_›,‹_›,trivial⟩,h⟩
 ·cases h
def bK.lh (F:Nat) (ap:Int->Int->Sl->Int->Int->Hp->OA) (p:Nat) (ks:List Nat) (n:Nat) (tm:Tm) (H:Hp):OA:=bif p.beq 29 then bK.lh29 F ap ks n tm H else (bif p.beq 13 then bK.lh13 F ap ks n tm H else (none))
def bK.mk (g:Nat->Nat->Int->Hp->OA) (args:List AV) (H:Hp):OA:=match args with
 | [(.ptr aa af),(.int .i64 ag)]=>g aa af ag H
 | _=>none
def bK.cs (F:Nat) (ap:Int->Int->Sl->Int->Int->Hp->OA):Cs:=[(79,bo.mk ap)]
theorem bK.loops (F:Nat) (ap:Int->Int->Sl->Int->Int->Hp->OA):LO (bG (bK.cs F ap)) bw (bK.lh F ap) F Try.f143:=
 (ai.rt (ai.seq (ai.rt (ai.block (ai.loop (λtm H=>eG λr h=>by obtain ⟨dB,gy,dq,eu,hks,e,h⟩:=bK.lh13_inv (show bK.lh13 F ap [] 0 tm H=some r from h);cases h) (λk13 tm H r h=>by obtain ⟨dB,gy,dq,eu,hks,e,h⟩:=bK.lh13_inv (show bK.lh13 F ap [] (k13+1) tm H=some r from h);rw [<- eE e];exact Eq.trans (by kernel_rfl) h) λk13=>ai.no))) (ai.lt (ai.rt (ai.block (ai.loop (λtm H=>eG λr h=>by obtain ⟨nl,nm,lM,ll,hks,e,h⟩:=bK.lh29_inv (show bK.lh29 F ap [] 0 tm H=some r from h);cases h) (λk29 tm H r h=>by obtain ⟨nl,nm,lM,ll,hks,e,h⟩:=bK.lh29_inv (show bK.lh29 F ap [] (k29+1) tm H=some r from h);rw [<- eE e];exact Eq.trans (by kernel_rfl) h) λk29=>ai.no))))))
theorem bK.eqX (F:Nat) (ap:Int->Int->Sl->Int->Int->Hp->OA) (aa:Nat) (af:Nat) (ag:Int) (H:Hp):EX (bG (bK.cs F ap)) bw (bK.lh F ap) F Try.f143 [(.ptr aa af),(.int .i64 ag)] H=bK.twX F ap aa af ag H:=by kernel_rfl
theorem bK.k (F:Nat):Ok Try.prog 143 (bK.mk (bK.tw F)):=by
 intro args H v H' h
 unfold bK.mk at h
 split at h
 ·exact okT (TB:=bw) Try.func143 (bM (bo.k F) di) (bK.loops F (bo.tw F)) ((bK.eqX F (bo.tw F) _ _ _ H).trans h) (by kernel_rfl)
 ·cases h
def bp.j3 (F:Nat) (ap:Int->Int->Sl->Int->Int->Hp->OA) (C13_:Nat->Nat->Int->Int->Hp->OA) (HP:Nat) (HQ:Nat) (sp:Int) (sq:Int) (H96:Hp):OA:=C13_ HP HQ sp (IntKind.i64.wrap (sq+1)) H96
def bp.j4 (F:Nat) (ap:Int->Int->Sl->Int->Int->Hp->OA) (C13_:Nat->Nat->Int->Int->Hp->OA) (HR:Nat) (HS:Nat) (su:Int) (pv:Int) (H87:Hp):OA:=bp.j3 F ap C13_ HR HS su pv H87
def bp.l213 (F:Nat) (ap:Int->Int->Sl->Int->Int->Hp->OA) (C13_:Nat->Nat->Int->Int->Hp->OA):Nat->Nat->Nat->Int->Int->Int->Hp->OA
 | 0,_,_,_,_,_,_=>none
 | HT+1,lN,lO,kn,ko,lm,H67=>(Hp.ldI H67 .i64 lN (lO+1)).bind λn97=>(bif (decide (lm<n97)) then ((Hp.ldI H67 .i64 lN lO).bind λn98=>(Hp.ldI H67 .i64 lN (lO+1)).bind λn99=>(Hp.ldSl H67 lN (lO+2)).bind λs100=>(ap n98 n99 s100 ko lm H67).bind λr101=>((r101.1).asI .i64).bind λn102=>(if bh H67 r101.2 then ((Hp.ldI r101.2 .i64 lN lO).bind λn103=>(Hp.ldI r101.2 .i64 lN (lO+1)).bind λn104=>(Hp.ldSl r101.2 lN (lO+2)).bind λs105=>(ap n103 n104 s105 kn kn r101.2).bind λr106=>((r106.1).asI .i64).bind λn107=>(if n107=0 then none else ((bif ((Int.tmod n102 n107) != 0) then (some ((.int .i64 ko),r106.2)) else (bp.l213 F ap C13_ HT lN lO kn ko (IntKind.i64.wrap (lm+1)) r106.2))))) else none)) else (bp.j4 F ap C13_ lN lO kn ko H67))
termination_by structural n=>n
def bp.l13 (F:Nat) (ap:Int->Int->Sl->Int->Int->Hp->OA) :Nat->Nat->Nat->Int->Int->Hp->OA
 | 0,_,_,_,_,_=>none
 | ic+1,dB,gy,dq,eu,H9=>(Hp.ldI H9 .i64 dB gy).bind λn59=>(bif (decide (eu<n59)) then (bp.l213 F ap (bp.l13 F ap ic) F dB gy dq eu (IntKind.i64.wrap (dq+1)) H9) else (some ((.int .i64 (-1)),H9)))
termination_by structural n=>n
def bp.twX (F:Nat) (ap:Int->Int->Sl->Int->Int->Hp->OA) (aa:Nat) (af:Nat) (ag:Int) (H:Hp):OA:=bp.l13 F ap F aa af ag (IntKind.i64.wrap (ag+1)) H
def bp.tw (F:Nat) (aa:Nat) (af:Nat) (ag:Int) (H:Hp):OA:=bp.twX F (bo.tw F) aa af ag H
def bp.lh13 (F:Nat) (ap:Int->Int->Sl->Int->Int->Hp->OA) (ks:List Nat) (n:Nat) (tm:Tm) (H:Hp):OA:=match ks,tm 0,tm 1,tm 5 with
 | [],(.ptr dB gy),(.int .i64 dq),(.int .i64 eu)=>bp.l13 F ap n dB gy dq eu H
 | _,_,_,_=>none
theorem bp.lh13_inv {F:Nat} {ap:Int->Int->Sl->Int->Int->Hp->OA} {ks:List Nat} {n:Nat} {tm:Tm} {H:Hp} {r:AV×Hp} (h:bp.lh13 F ap ks n tm H=some r):∃ dB gy dq eu,ks=[]/\eD tm [(0,(.ptr dB gy)),(1,(.int .i64 dq)),(5,(.int .i64 eu))]/\bp.l13 F ap n dB gy dq eu H=some r:=by
 unfold bp.lh13 at h
 split at h
 ·exact ⟨_,_,_,_,rfl,⟨‹_›,‹_›,‹_›,trivial⟩,h⟩
 ·cases h
def bp.lh213 (F:Nat) (ap:Int->Int->Sl->Int->Int->Hp->OA) (ks:List Nat) (n:Nat) (tm:Tm) (H:Hp):OA:=match ks,tm 0,tm 1,tm 5,tm 6 with
 | [ic],(.ptr lN lO),(.int .i64 kn),(.int .i64 ko),(.int .i64 lm)=>bp.l213 F ap (bp.l13 F ap ic) n lN lO kn ko lm H
 | _,_,_,_,_=>none
theorem bp.lh213_inv {F:Nat} {ap:Int->Int->Sl->Int->Int->Hp->OA} {ks:List Nat} {n:Nat} {tm:Tm} {H:Hp} {r:AV×Hp} (h:bp.lh213 F ap ks n tm H=some r):∃ ic lN lO kn ko lm,ks=[ic]/\eD tm [(0,(.ptr lN lO)),(1,(.int .i64 kn)),(5,(.int .i64 ko)),(6,(.int .i64 lm))]/\bp.l213 F ap (bp.l13 F ap ic) n lN lO kn ko lm H=some r:=by
 unfold bp.lh213 at h
 split at h
 ·exact ⟨_,_,_,_,_,_,rfl,⟨‹_›,‹_›,‹_›,‹_›,trivial⟩,h⟩
 ·cases h
def bp.lh (F:Nat) (ap:Int->Int->Sl->Int->Int->Hp->OA) (p:Nat) (ks:List Nat) (n:Nat) (tm:Tm) (H:Hp):OA:=bif p.beq 213 then bp.lh213 F ap ks n tm H else (bif p.beq 13 then bp.lh13 F ap ks n tm H else (none))
def bp.pn:Nat->List Nat:=fA [(7,[13])]
def bp.tb:Nat->List (List Nat):=fA [(7,[[],[0],[0,1],[0,1,2],[],[],[0,1,2,3,4,5],[],[7],[7,8],[7,8,9],[],[],[0,1,2,3,4,5,6,7,8,9,10,11,12],[0,1,2,3,4,5,6,7,8,9,10,11,12,13],[0,1,2,3,4,5,6,7,8,9,10,11,12,13,14]])]
def bp.mk (g:Nat->Nat->Int->Hp->OA) (args:List AV) (H:Hp):OA:=match args with
 | [(.ptr aa af),(.int .i64 ag)]=>g aa af ag H
 | _=>none
def bp.cs (F:Nat) (ap:Int->Int->Sl->Int->Int->Hp->OA):Cs:=[(79,bo.mk ap)]
theorem bp.loops (F:Nat) (ap:Int->Int->Sl->Int->Int->Hp->OA):LO (bG (bp.cs F ap)) bp.pn (bp.lh F ap) F Try.f144:=
 (ai.rt (ai.lt (ai.rt (ai.block (ai.loop (λtm H=>eG λr h=>by obtain ⟨dB,gy,dq,eu,hks,e,h⟩:=bp.lh13_inv (show bp.lh13 F ap [] 0 tm H=some r from h);cases h) (λk13 tm H r h=>by obtain ⟨dB,gy,dq,eu,hks,e,h⟩:=bp.lh13_inv (show bp.lh13 F ap [] (k13+1) tm H=some r from h);rw [<- eE e];exact Eq.trans (by kernel_rfl) h) λk13=>(ai.rt (ai.lt (ai.block (ai.rt (ai.block (ai.loop (λtm H=>eG λr h=>by obtain ⟨ic,lN,lO,kn,ko,lm,hks,e,h⟩:=bp.lh213_inv (show bp.lh213 F ap [k13] 0 tm H=some r from h);cases h) (λk213 tm H r h=>by obtain ⟨ic,lN,lO,kn,ko,lm,hks,e,h⟩:=bp.lh213_inv (show bp.lh213 F ap [k13] (k213+1) tm H=some r from h);cases hks;rw [<- eE e];exact Eq.trans (by kernel_rfl) h) λk213=>ai.no)))))))))))
theorem bp.eqX (F:Nat) (ap:Int->Int->Sl->Int->Int->Hp->OA) (aa:Nat) (af:Nat) (ag:Int) (H:Hp):EX (bG (bp.cs F ap)) bp.pn (bp.lh F ap) F Try.f144 [(.ptr aa af),(.int .i64 ag)] H=bp.twX F ap aa af ag H:=by kernel_rfl
theorem bp.k (F:Nat):Ok Try.prog 144 (bp.mk (bp.tw F)):=by
 intro args H v H' h
 unfold bp.mk at h
 split at h
 ·exact okT (TB:=bp.tb) Try.func144 (bM (bo.k F) di) (bp.loops F (bo.tw F)) ((bp.eqX F (bo.tw F) _ _ _ H).trans h) (by kernel_rfl)
 ·cases h
def bg.j1 (F:Nat) (fT:Nat->Nat->Int->Hp->OA) (ap:Int->Int->Sl->Int->Int->Hp->OA) (fO:Int->Int->Hp->OA) (fP:Nat->Nat->Int->Int->Int->Hp->OA) (fU:Nat->Nat->Int->Int->Int->Hp->OA) (fV:Nat->Nat->Int->Hp->OA) (fW:Nat->Nat->Int->Hp->OA) (sv:Nat) (sx:Nat) (nT:Int) (H73:Hp):OA:=(Hp.ldB H73 sv (sx+15)).bind λb74=>(bif b74 then (some ((.tup [(.bool false),(.bool false)]),H73)) else ((fV sv sx nT H73).bind λr75=>((r75.1).asB).bind λb76=>(bif (!b76) then (some ((.tup [(.bool false),(.bool false)]),r75.2)) else ((fW sv sx nT r75.2).bind λr77=>((r77.1).asI .i64).bind λn78=>(bif (decide (n78<0)) then (some ((.tup [(.bool true),(.bool false)]),r77.2)) else ((fP sv sx nT n78 (-1) r77.2).bind λr79=>some ((.tup [(.bool false),(.bool false)]),r79.2)))))))
def bg.l61 (F:Nat) (fT:Nat->Nat->Int->Hp->OA) (ap:Int->Int->Sl->Int->Int->Hp->OA) (fO:Int->Int->Hp->OA) (fP:Nat->Nat->Int->Int->Int->Hp->OA) (fU:Nat->Nat->Int->Int->Int->Hp->OA) (fV:Nat->Nat->Int->Hp->OA) (fW:Nat->Nat->Int->Hp->OA) :Nat->Nat->Nat->Int->Int->Hp->OA
 | 0,_,_,_,_,_=>none
 | qo+1,kN,kO,iX,kp,H47=>(Hp.ldI H47 .i64 kN (kO+1)).bind λn80=>(bif (decide (kp<n80)) then ((Hp.ldB H47 kN (kO+15)).bind λb81=>(bif (!b81) then ((Hp.ldI H47 .i64 kN kO).bind λn82=>(Hp.ldI H47 .i64 kN (kO+1)).bind λn83=>(Hp.ldSl H47 kN (kO+2)).bind λs84=>(ap n82 n83 s84 iX kp H47).bind λr85=>((r85.1).asI .i64).bind λn86=>(if bh H47 r85.2 then ((Hp.ldI r85.2 .i64 kN kO).bind λn87=>(Hp.ldI r85.2 .i64 kN (kO+1)).bind λn88=>(Hp.ldSl r85.2 kN (kO+2)).bind λs89=>(ap n87 n88 s89 iX iX r85.2).bind λr90=>((r90.1).asI .i64).bind λn91=>(fO n86 n91 r90.2).bind λr92=>((r92.1).asI .i64).bind λn93=>(fU kN kO kp iX n93 r92.2).bind λr94=>bg.l61 F fT ap fO fP fU fV fW qo kN kO iX (IntKind.i64.wrap (kp+1)) r94.2) else none)) else (bg.j1 F fT ap fO fP fU fV fW kN kO iX H47))) else (bg.j1 F fT ap fO fP fU fV fW kN kO iX H47))
termination_by structural n=>n
def bg.j2 (F:Nat) (fT:Nat->Nat->Int->Hp->OA) (ap:Int->Int->Sl->Int->Int->Hp->OA) (fO:Int->Int->Hp->OA) (fP:Nat->Nat->Int->Int->Int->Hp->OA) (fU:Nat->Nat->Int->Int->Int->Hp->OA) (fV:Nat->Nat->Int->Hp->OA) (fW:Nat->Nat->Int->Hp->OA) (ya:Nat) (HU:Nat) (pw:Int) (H37:Hp):OA:=bg.l61 F fT ap fO fP fU fV fW F ya HU pw (IntKind.i64.wrap (pw+1)) H37
def bg.l29 (F:Nat) (fT:Nat->Nat->Int->Hp->OA) (ap:Int->Int->Sl->Int->Int->Hp->OA) (fO:Int->Int->Hp->OA) (fP:Nat->Nat->Int->Int->Int->Hp->OA) (fU:Nat->Nat->Int->Int->Int->Hp->OA) (fV:Nat->Nat->Int->Hp->OA) (fW:Nat->Nat->Int->Hp->OA) :Nat->Nat->Nat->Int->Int->Hp->OA
 | 0,_,_,_,_,_=>none
 | eM+1,ij,kP,f_,kq,H13=>(Hp.ldI H13 .i64 ij kP).bind λn95=>(bif (decide (kq<n95)) then ((Hp.ldB H13 ij (kP+15)).bind λb96=>(bif (!b96) then ((Hp.ldI H13 .i64 ij kP).bind λn97=>(Hp.ldI H13 .i64 ij (kP+1)).bind λn98=>(Hp.ldSl H13 ij (kP+2)).bind λs99=>(ap n97 n98 s99 kq f_ H13).bind λr100=>((r100.1).asI .i64).bind λn101=>(if bh H13 r100.2 then ((Hp.ldI r100.2 .i64 ij kP).bind λn102=>(Hp.ldI r100.2 .i64 ij (kP+1)).bind λn103=>(Hp.ldSl r100.2 ij (kP+2)).bind λs104=>(ap n102 n103 s104 f_ f_ r100.2).bind λr105=>((r105.1).asI .i64).bind λn106=>(fO n101 n106 r105.2).bind λr107=>((r107.1).asI .i64).bind λn108=>(fP ij kP kq f_ n108 r107.2).bind λr109=>bg.l29 F fT ap fO fP fU fV fW eM ij kP f_ (IntKind.i64.wrap (kq+1)) r109.2) else none)) else (bg.j2 F fT ap fO fP fU fV fW ij kP f_ H13))) else (bg.j2 F fT ap fO fP fU fV fW ij kP f_ H13))
termination_by structural n=>n
def bg.twX (F:Nat) (fT:Nat->Nat->Int->Hp->OA) (ap:Int->Int->Sl->Int->Int->Hp->OA) (fO:Int->Int->Hp->OA) (fP:Nat->Nat->Int->Int->Int->Hp->OA) (fU:Nat->Nat->Int->Int->Int->Hp->OA) (fV:Nat->Nat->Int->Hp->OA) (fW:Nat->Nat->Int->Hp->OA) (aa:Nat) (af:Nat) (ag:Int) (H:Hp):OA:=(fT aa af ag H).bind λr4=>((r4.1).asB).bind λb5=>(bif (!b5) then (some ((.tup [(.bool true),(.bool true)]),r4.2)) else (bg.l29 F fT ap fO fP fU fV fW F aa af ag (IntKind.i64.wrap (ag+1)) r4.2))
def bg.tw (F:Nat) (aa:Nat) (af:Nat) (ag:Int) (H:Hp):OA:=bg.twX F (aC.tw F) (bo.tw F) (gA.tw F) (gg.tw F) (gr.tw F) (bK.tw F) (bp.tw F) aa af ag H
def bg.lh29 (F:Nat) (fT:Nat->Nat->Int->Hp->OA) (ap:Int->Int->Sl->Int->Int->Hp->OA) (fO:Int->Int->Hp->OA) (fP:Nat->Nat->Int->Int->Int->Hp->OA) (fU:Nat->Nat->Int->Int->Int->Hp->OA) (fV:Nat->Nat->Int->Hp->OA) (fW:Nat->Nat->Int->Hp->OA) (ks:List Nat) (n:Nat) (tm:Tm) (H:Hp):OA:=match ks,tm 0,tm 1,tm 6 with
 | [],(.ptr ij kP),(.int .i64 f_),(.int .i64 kq)=>bg.l29 F fT ap fO fP fU fV fW n ij kP f_ kq H
 | _,_,_,_=>none
theorem bg.lh29_inv {F:Nat} {fT:Nat->Nat->Int->Hp->OA} {ap:Int->Int->Sl->Int->Int->Hp->OA} {fO:Int->Int->Hp->OA} {fP:Nat->Nat->Int->Int->Int->Hp->OA} {fU:Nat->Nat->Int->Int->Int->Hp->OA} {fV:Nat->Nat->Int->Hp->OA} {fW:Nat->Nat->Int->Hp->OA} {ks:List Nat} {n:Nat} {tm:Tm} {H:Hp} {r:AV×Hp} (h:bg.lh29 F fT ap fO fP fU fV fW ks n tm H=some r):∃ ij kP f_ kq,ks=[]/\eD tm [(0,(.ptr ij kP)),(1,(.int .i64 f_)),(6,(.int .i64 kq))]/\bg.l29 F fT ap fO fP fU fV fW n ij kP f_ kq H=some r:=by
 unfold bg.lh29 at h
 split at h
 ·exact ⟨_,_,_,_,rfl,⟨‹_›,‹_›,‹_›,trivial⟩,h⟩
 ·cases h
def bg.lh61 (F:Nat) (fT:Nat->Nat->Int->Hp->OA) (ap:Int->Int->Sl->Int->Int->Hp->OA) (fO:Int->Int->Hp->OA) (fP:Nat->Nat->Int->Int->Int->Hp->OA) (fU:Nat->Nat->Int->Int->Int->Hp->OA) (fV:Nat->Nat->Int->Hp->OA) (fW:Nat->Nat->Int->Hp->OA) (ks:List Nat) (n:Nat) (tm:Tm) (H:Hp):OA:=match ks,tm 0,tm 1,tm 7 with
 | [],(.ptr kN kO),(.int .i64 iX),(.int .i64 kp)=>bg.l61 F fT ap fO fP fU fV fW n kN kO iX kp H
 | _,_,_,_=>none
theorem bg.lh61_inv {F:Nat} {fT:Nat->Nat->Int->Hp->OA} {ap:Int->Int->Sl->Int->Int->Hp->OA} {fO:Int->Int->Hp->OA} {fP:Nat->Nat->Int->Int->Int->Hp->OA} {fU:Nat->Nat->Int->Int->Int->Hp->OA} {fV:Nat->Nat->Int->Hp->OA} {fW:Nat->Nat->Int->Hp->OA} {ks:List Nat} {n:Nat} {tm:Tm} {H:Hp} {r:AV×Hp} (h:bg.lh61 F fT ap fO fP fU fV fW ks n tm H=some r):∃ kN kO iX kp,ks=[]/\eD tm [(0,(.ptr kN kO)),(1,(.int .i64 iX)),(7,(.int .i64 kp))]/\bg.l61 F fT ap fO fP fU fV fW n kN kO iX kp H=some r:=by
 unfold bg.lh61 at h
 split at h
 ·exact ⟨_,_,_,_,rfl,⟨‹_›,‹_›,‹_›,trivial⟩,h⟩
 ·cases h
def bg.lh (F:Nat) (fT:Nat->Nat->Int->Hp->OA) (ap:Int->Int->Sl->Int->Int->Hp->OA) (fO:Int->Int->Hp->OA) (fP:Nat->Nat->Int->Int->Int->Hp->OA) (fU:Nat->Nat->Int->Int->Int->Hp->OA) (fV:Nat->Nat->Int->Hp->OA) (fW:Nat->Nat->Int->Hp->OA) (p:Nat) (ks:List Nat) (n:Nat) (tm:Tm) (H:Hp):OA:=bif p.beq 61 then bg.lh61 F fT ap fO fP fU fV fW ks n tm H else (bif p.beq 29 then bg.lh29 F fT ap fO fP fU fV fW ks n tm H else (none))
def bg.pn:Nat->List Nat:=fA [(6,[16,17,18]),(10,[16,17,18])]
def bg.tb:Nat->List (List Nat):=fA [(6,[[],[],[],[],[3],[3,4],[3,4,5],[],[],[3,4,5,6,7,8],[],[10],[10,11],[10,11,12],[],[],[3,4,5,6,7,8,9,10,11,12,13,14,15],[3,4,5,6,7,8,9,10,11,12,13,14,15,16],[0,1,2,3,4,5,6,7,8,9,10,11,12,13,14,15,16,17]]),(10,[[],[],[],[],[3],[3,4],[3,4,5],[],[],[3,4,5,6,7,8],[],[10],[10,11],[10,11,12],[],[],[3,4,5,6,7,8,9,10,11,12,13,14,15],[3,4,5,6,7,8,9,10,11,12,13,14,15,16],[0,1,2,3,4,5,6,7,8,9,10,11,12,13,14,15,16,17]])]
def bg.mk (g:Nat->Nat->Int->Hp->OA) (args:List AV) (H:Hp):OA:=match args with
 | [(.ptr aa af),(.int .i64 ag)]=>g aa af ag H
 | _=>none
def bg.cs (F:Nat) (fT:Nat->Nat->Int->Hp->OA) (ap:Int->Int->Sl->Int->Int->Hp->OA) (fO:Int->Int->Hp->OA) (fP:Nat->Nat->Int->Int->Int->Hp->OA) (fU:Nat->Nat->Int->Int->Int->Hp->OA) (fV:Nat->Nat->Int->Hp->OA) (fW:Nat->Nat->Int->Hp->OA):Cs:=[(139,aC.mk fT),(79,bo.mk ap),(141,gA.mk fO),(140,gg.mk fP),(142,gr.mk fU),(143,bK.mk fV),(144,bp.mk fW)]
theorem bg.loops (F:Nat) (fT:Nat->Nat->Int->Hp->OA) (ap:Int->Int->Sl->Int->Int->Hp->OA) (fO:Int->Int->Hp->OA) (fP:Nat->Nat->Int->Int->Int->Hp->OA) (fU:Nat->Nat->Int->Int->Int->Hp->OA) (fV:Nat->Nat->Int->Hp->OA) (fW:Nat->Nat->Int->Hp->OA):LO (bG (bg.cs F fT ap fO fP fU fV fW)) bg.pn (bg.lh F fT ap fO fP fU fV fW) F Try.f116:=
 (ai.rt (ai.rt (ai.seq (ai.rt (ai.block (ai.loop (λtm H=>eG λr h=>by obtain ⟨ij,kP,f_,kq,hks,e,h⟩:=bg.lh29_inv (show bg.lh29 F fT ap fO fP fU fV fW [] 0 tm H=some r from h);cases h) (λk29 tm H r h=>by obtain ⟨ij,kP,f_,kq,hks,e,h⟩:=bg.lh29_inv (show bg.lh29 F fT ap fO fP fU fV fW [] (k29+1) tm H=some r from h);rw [<- eE e];exact Eq.trans (by kernel_rfl) h) λk29=>ai.no))) (ai.lt (ai.rt (ai.block (ai.loop (λtm H=>eG λr h=>by obtain ⟨kN,kO,iX,kp,hks,e,h⟩:=bg.lh61_inv (show bg.lh61 F fT ap fO fP fU fV fW [] 0 tm H=some r from h);cases h) (λk61 tm H r h=>by obtain ⟨kN,kO,iX,kp,hks,e,h⟩:=bg.lh61_inv (show bg.lh61 F fT ap fO fP fU fV fW [] (k61+1) tm H=some r from h);rw [<- eE e];exact Eq.trans (by kernel_rfl) h) λk61=>ai.no)))))))
theorem bg.eqX (F:Nat) (fT:Nat->Nat->Int->Hp->OA) (ap:Int->Int->Sl->Int->Int->Hp->OA) (fO:Int->Int->Hp->OA) (fP:Nat->Nat->Int->Int->Int->Hp->OA) (fU:Nat->Nat->Int->Int->Int->Hp->OA) (fV:Nat->Nat->Int->Hp->OA) (fW:Nat->Nat->Int->Hp->OA) (aa:Nat) (af:Nat) (ag:Int) (H:Hp):EX (bG (bg.cs F fT ap fO fP fU fV fW)) bg.pn (bg.lh F fT ap fO fP fU fV fW) F Try.f116 [(.ptr aa af),(.int .i64 ag)] H=bg.twX F fT ap fO fP fU fV fW aa af ag H:=by kernel_rfl
theorem bg.k (F:Nat):Ok Try.prog 116 (bg.mk (bg.tw F)):=by
 intro args H v H' h
 unfold bg.mk at h
 split at h
 ·exact okT (TB:=bg.tb) Try.func116 (bM (aC.k F) (bM (bo.k F) (bM (gA.k F) (bM (gg.k F) (bM (gr.k F) (bM (bK.k F) (bM (bp.k F) di))))))) (bg.loops F (aC.tw F) (bo.tw F) (gA.tw F) (gg.tw F) (gr.tw F) (bK.tw F) (bp.tw F)) ((bg.eqX F (aC.tw F) (bo.tw F) (gA.tw F) (gg.tw F) (gr.tw F) (bK.tw F) (bp.tw F) _ _ _ H).trans h) (by kernel_rfl)
 ·cases h
def bi.j3 (F:Nat) (fu:Int->Hp->OA) (fQ:Nat->Nat->Int->Hp->OA) (C29_:Nat->Nat->Nat->Nat->Int->Hp->OA) (vE:Nat) (HV:Nat) (vF:Nat) (HW:Nat) (sy:Int) (H161:Hp):OA:=C29_ vE HV vF HW (IntKind.i64.wrap (sy+1)) H161
def bi.j4 (F:Nat) (fu:Int->Hp->OA) (fQ:Nat->Nat->Int->Hp->OA) (C29_:Nat->Nat->Nat->Nat->Int->Hp->OA) (vG:Nat) (HX:Nat) (qp:Nat) (vH:Nat) (pz:Int) (sz:Bool) (H146:Hp):OA:=(bif sz then (some ((.ptr qp vH),H146)) else ((Hp.ldB H146 qp (vH+15)).bind λb147=>(bif b147 then (some ((.ptr qp vH),H146)) else (bi.j3 F fu fQ C29_ vG HX qp vH pz H146))))
def bi.l938 (F:Nat) (fu:Int->Hp->OA) (fQ:Nat->Nat->Int->Hp->OA) (C29_:Nat->Nat->Nat->Nat->Int->Hp->OA):Nat->Nat->Nat->Nat->Nat->Int->Bool->Bool->Hp->OA
 | 0,_,_,_,_,_,_,_,_=>none
 | HY+1,mB,nU,lP,nn,kr,mC,lQ,H126=>(bif (!mC) then ((Hp.ldB H126 lP (nn+15)).bind λb162=>(bif (!b162) then ((fQ lP nn kr H126).bind λr163=>((r163.1).asTup 2).bind λl164=>(l164[0]?).bind λv165=>((v165).asB).bind λb166=>(l164[1]?).bind λv167=>((v167).asB).bind λb168=>bi.l938 F fu fQ C29_ HY mB nU lP nn kr b166 b168 r163.2) else (bi.j4 F fu fQ C29_ mB nU lP nn kr lQ H126))) else (bi.j4 F fu fQ C29_ mB nU lP nn kr lQ H126))
termination_by structural n=>n
def bi.l29 (F:Nat) (fu:Int->Hp->OA) (fQ:Nat->Nat->Int->Hp->OA) :Nat->Nat->Nat->Nat->Nat->Int->Hp->OA
 | 0,_,_,_,_,_,_=>none
 | eM+1,mD,nV,mQ,oy,lR,H56=>(Hp.ldI H56 .i64 mD nV).bind λn113=>(Hp.ldI H56 .i64 mD (nV+1)).bind λn114=>(bif (decide (lR<(if n114<n113 then n114 else n113))) then (bi.l938 F fu fQ (bi.l29 F fu fQ eM) F mD nV mQ oy lR false false H56) else (some ((.ptr mQ oy),H56)))
termination_by structural n=>n
def bi.twX (F:Nat) (fu:Int->Hp->OA) (fQ:Nat->Nat->Int->Hp->OA) (aa:Int) (af:Int) (bz:Sl) (H:Hp):OA:=(Hp.new H [(.int .i64 aa),(.int .i64 af),(.sl bz)]).bind λH4=>(Hp.ldI H4 .i64 H.length 0).bind λn5=>(Hp.ldI H4 .i64 H.length 1).bind λn6=>(Hp.new H4 []).bind λH7=>(Hp.ldSl H7 H.length 2).bind λs8=>(Sl.row H7 s8 1).bind λxs10=>(Hp.app H7 1 8 (⟨some (H4.length,0),0,.ex 0⟩:Sl) s8.n xs10).bind λa9=>(if bh H7 a9.2 then ((Hp.ldI a9.2 .i64 H.length 0).bind λn11=>(fu n11 a9.2).bind λr12=>((r12.1).asAgg 3).bind λl13=>(l13[0]?).bind λv14=>((v14).asI .i64).bind λn15=>(l13[1]?).bind λv16=>((v16).asI .i64).bind λn17=>(l13[2]?).bind λv18=>((v18).asSl).bind λs19=>(if bh a9.2 r12.2 then ((Hp.ldI r12.2 .i64 H.length 0).bind λn20=>(fu n20 r12.2).bind λr21=>((r21.1).asAgg 3).bind λl22=>(l22[0]?).bind λv23=>((v23).asI .i64).bind λn24=>(l22[1]?).bind λv25=>((v25).asI .i64).bind λn26=>(l22[2]?).bind λv27=>((v27).asSl).bind λs28=>(if bh r12.2 r21.2 then ((Hp.ldI r21.2 .i64 H.length 1).bind λn29=>(fu n29 r21.2).bind λr30=>((r30.1).asAgg 3).bind λl31=>(l31[0]?).bind λv32=>((v32).asI .i64).bind λn33=>(l31[1]?).bind λv34=>((v34).asI .i64).bind λn35=>(l31[2]?).bind λv36=>((v36).asSl).bind λs37=>(if bh r21.2 r30.2 then ((Hp.ldI r30.2 .i64 H.length 1).bind λn38=>(fu n38 r30.2).bind λr39=>((r39.1).asAgg 3).bind λl40=>(l40[0]?).bind λv41=>((v41).asI .i64).bind λn42=>(l40[1]?).bind λv43=>((v43).asI .i64).bind λn44=>(l40[2]?).bind λv45=>((v45).asSl).bind λs46=>(if bh r30.2 r39.2 then ((Hp.new r39.2 [(.int .i64 n5),(.int .i64 n6),(.sl a9.1),(.int .i64 n15),(.int .i64 n17),(.sl s19),(.int .i64 n24),(.int .i64 n26),(.sl s28),(.int .i64 n33),(.int .i64 n35),(.sl s37),(.int .i64 n42),(.int .i64 n44),(.sl s46),(.bool false)]).bind λH47=>bi.l29 F fu fQ F H.length 0 r39.2.length 0 0 H47) else none)) else none)) else none)) else none)) else none)
def bi.tw (F:Nat) (aa:Int) (af:Int) (bz:Sl) (H:Hp):OA:=bi.twX F (dc.tw F) (bg.tw F) aa af bz H
def bi.lh29 (F:Nat) (fu:Int->Hp->OA) (fQ:Nat->Nat->Int->Hp->OA) (ks:List Nat) (n:Nat) (tm:Tm) (H:Hp):OA:=match ks,tm 1,tm 2,tm 3,tm 4 with
 | [],(.ptr mD nV),.nilp,(.ptr mQ oy),(.int .i64 lR)=>bi.l29 F fu fQ n mD nV mQ oy lR H
 | _,_,_,_,_=>none
theorem bi.lh29_inv {F:Nat} {fu:Int->Hp->OA} {fQ:Nat->Nat->Int->Hp->OA} {ks:List Nat} {n:Nat} {tm:Tm} {H:Hp} {r:AV×Hp} (h:bi.lh29 F fu fQ ks n tm H=some r):∃ mD nV mQ oy lR,ks=[]/\eD tm [(1,(.ptr mD nV)),(2,.nilp),(3,(.ptr mQ oy)),(4,(.int .i64 lR))]/\bi.l29 F fu fQ n mD nV mQ oy lR H=some r:=by
 unfold bi.lh29 at h
 split at h
 ·exact ⟨_,_,_,_,_,rfl,⟨‹_›,‹_›,‹_›,‹_›,trivial⟩,h⟩
 ·cases h
def bi.lh938 (F:Nat) (fu:Int->Hp->OA) (fQ:Nat->Nat->Int->Hp->OA) (ks:List Nat) (n:Nat) (tm:Tm) (H:Hp):OA:=match ks,tm 1,tm 2,tm 3,tm 4,tm 5,tm 6 with
 | [eM],(.ptr mB nU),.nilp,(.ptr lP nn),(.int .i64 kr),(.bool mC),(.bool lQ)=>bi.l938 F fu fQ (bi.l29 F fu fQ eM) n mB nU lP nn kr mC lQ H
 | _,_,_,_,_,_,_=>none
theorem bi.lh938_inv {F:Nat} {fu:Int->Hp->OA} {fQ:Nat->Nat->Int->Hp->OA} {ks:List Nat} {n:Nat} {tm:Tm} {H:Hp} {r:AV×Hp} (h:bi.lh938 F fu fQ ks n tm H=some r):∃ eM mB nU lP nn kr mC lQ,ks=[eM]/\eD tm [(1,(.ptr mB nU)),(2,.nilp),(3,(.ptr lP nn)),(4,(.int .i64 kr)),(5,(.bool mC)),(6,(.bool lQ))]/\bi.l938 F fu fQ (bi.l29 F fu fQ eM) n mB nU lP nn kr mC lQ H=some r:=by
 unfold bi.lh938 at h
 split at h
 ·exact ⟨_,_,_,_,_,_,_,_,rfl,⟨‹_›,‹_›,‹_›,‹_›,‹_›,‹_›,trivial⟩,h⟩
 ·cases h
def bi.lh (F:Nat) (fu:Int->Hp->OA) (fQ:Nat->Nat->Int->Hp->OA) (p:Nat) (ks:List Nat) (n:Nat) (tm:Tm) (H:Hp):OA:=bif p.beq 938 then bi.lh938 F fu fQ ks n tm H else (bif p.beq 29 then bi.lh29 F fu fQ ks n tm H else (none))
def bi.tb:Nat->List (List Nat):=fA [(1,[[],[0],[],[2],[],[],[5],[4,5,6],[0,1,2,3,4,5,6,7],[],[9],[4,5,6,7,9,10],[],[12],[4,5,6,7,9,10,11,12,13],[],[15],[4,5,6,7,9,10,11,12,13,14,15,16],[],[18],[4,5,6,7,9,10,11,12,13,14,15,16,17,18,19],[0,1,2,3,4,5,6,7,8,9,10,11,12,13,14,15,16,17,18,19,20],[0,1,2,3,4,5,6,7,8,9,10,11,12,13,14,15,16,17,18,19,20,21],[0,1,2,3,4,5,6,7,8,9,10,11,12,13,14,15,16,17,18,19,20,21,22]])]
def bi.mk (g:Int->Int->Sl->Hp->OA) (args:List AV) (H:Hp):OA:=match args with
 | [(.agg [(.int .i64 aa),(.int .i64 af),(.sl bz)])]=>g aa af bz H
 | _=>none
def bi.cs (F:Nat) (fu:Int->Hp->OA) (fQ:Nat->Nat->Int->Hp->OA):Cs:=[(115,dc.mk fu),(116,bg.mk fQ)]
theorem bi.loops (F:Nat) (fu:Int->Hp->OA) (fQ:Nat->Nat->Int->Hp->OA):LO (bG (bi.cs F fu fQ)) bw (bi.lh F fu fQ) F Try.f75:=
 (ai.rt (ai.rt (ai.lt (ai.rt (ai.block (ai.loop (λtm H=>eG λr h=>by obtain ⟨mD,nV,mQ,oy,lR,hks,e,h⟩:=bi.lh29_inv (show bi.lh29 F fu fQ [] 0 tm H=some r from h);cases h) (λk29 tm H r h=>by obtain ⟨mD,nV,mQ,oy,lR,hks,e,h⟩:=bi.lh29_inv (show bi.lh29 F fu fQ [] (k29+1) tm H=some r from h);rw [<- eE e];exact Eq.trans (by kernel_rfl) h) λk29=>(ai.rt (ai.lt (ai.block (ai.rt (ai.lt (ai.block (ai.loop (λtm H=>eG λr h=>by obtain ⟨eM,mB,nU,lP,nn,kr,mC,lQ,hks,e,h⟩:=bi.lh938_inv (show bi.lh938 F fu fQ [k29] 0 tm H=some r from h);cases h) (λk938 tm H r h=>by obtain ⟨eM,mB,nU,lP,nn,kr,mC,lQ,hks,e,h⟩:=bi.lh938_inv (show bi.lh938 F fu fQ [k29] (k938+1) tm H=some r from h);cases hks;rw [<- eE e];exact Eq.trans (by kernel_rfl) h) λk938=>ai.no)))))))))))))
theorem bi.eqX (F:Nat) (fu:Int->Hp->OA) (fQ:Nat->Nat->Int->Hp->OA) (aa:Int) (af:Int) (bz:Sl) (H:Hp):EX (bG (bi.cs F fu fQ)) bw (bi.lh F fu fQ) F Try.f75 [(.agg [(.int .i64 aa),(.int .i64 af),(.sl bz)])] H=bi.twX F fu fQ aa af bz H:=by kernel_rfl
theorem bi.k (F:Nat):Ok Try.prog 75 (bi.mk (bi.tw F)):=by
 intro args H v H' h
 unfold bi.mk at h
 split at h
 ·exact okT (TB:=bi.tb) Try.func75 (bM (dc.k F) (bM (bg.k F) di)) (bi.loops F (dc.tw F) (bg.tw F)) ((bi.eqX F (dc.tw F) (bg.tw F) _ _ _ H).trans h) (by kernel_rfl)
 ·cases h
def bP.j2 (F:Nat) (ik:Int->Int->Sl->Hp->OA) (ap:Int->Int->Sl->Int->Int->Hp->OA) (vI:Nat) (HZ:Nat) (H_:Sl) (H61:Hp):OA:=(Hp.ldB H61 vI (HZ+15)).bind λb62=>some ((.tup [(.sl H_),(.bool (!b62))]),H61)
def bP.j3 (F:Nat) (ik:Int->Int->Sl->Hp->OA) (ap:Int->Int->Sl->Int->Int->Hp->OA) (C61_:Nat->Nat->Nat->Nat->Sl->Int->Hp->OA) (vJ:Nat) (Ia:Nat) (vK:Nat) (Ib:Nat) (pv:Sl) (sA:Int) (H88:Hp):OA:=C61_ vJ Ia vK Ib pv (IntKind.i64.wrap (sA+1)) H88
def bP.l61 (F:Nat) (ik:Int->Int->Sl->Hp->OA) (ap:Int->Int->Sl->Int->Int->Hp->OA) :Nat->Nat->Nat->Nat->Nat->Sl->Int->Hp->OA
 | 0,_,_,_,_,_,_,_=>none
 | qo+1,mg,nw,eb,mh,jc,fv,H22=>(Hp.ldI H22 .i64 mg nw).bind λn63=>(Hp.ldI H22 .i64 mg (nw+1)).bind λn64=>(bif (decide (fv<(if n64<n63 then n64 else n63))) then ((Hp.ldB H22 eb (mh+15)).bind λb65=>(bif (!b65) then ((Hp.ldI H22 .i64 eb mh).bind λn66=>(Hp.ldI H22 .i64 eb (mh+1)).bind λn67=>(Hp.ldSl H22 eb (mh+2)).bind λs68=>(ap n66 n67 s68 fv fv H22).bind λr69=>((r69.1).asI .i64).bind λn70=>(bif (n70 != 0) then ((Hp.new r69.2 [(.int .i64 n70)]).bind λH71=>(Sl.row H71 (⟨some (r69.2.length,0),1,.ex 1⟩:Sl) 1).bind λxs73=>(Hp.app H71 1 8 jc (⟨some (r69.2.length,0),1,.ex 1⟩:Sl).n xs73).bind λa72=>bP.j3 F ik ap (bP.l61 F ik ap qo) mg nw eb mh a72.1 fv a72.2) else (bP.j3 F ik ap (bP.l61 F ik ap qo) mg nw eb mh jc fv r69.2))) else (bP.j2 F ik ap eb mh jc H22))) else (bP.j2 F ik ap eb mh jc H22))
termination_by structural n=>n
def bP.twX (F:Nat) (ik:Int->Int->Sl->Hp->OA) (ap:Int->Int->Sl->Int->Int->Hp->OA) (aa:Int) (af:Int) (bz:Sl) (H:Hp):OA:=(Hp.new H [(.int .i64 aa),(.int .i64 af),(.sl bz)]).bind λH4=>(Hp.ldI H4 .i64 H.length 0).bind λn5=>(Hp.ldI H4 .i64 H.length (0+1)).bind λn6=>(Hp.ldSl H4 H.length (0+2)).bind λs7=>(ik n5 n6 s7 H4).bind λr8=>((r8.1).asP).bind λp9=>(Hp.new r8.2 []).bind λH10=>bP.l61 F ik ap F H.length 0 p9.1 p9.2 (⟨some (r8.2.length,0),0,.ex 0⟩:Sl) 0 H10
def bP.tw (F:Nat) (aa:Int) (af:Int) (bz:Sl) (H:Hp):OA:=bP.twX F (bi.tw F) (bo.tw F) aa af bz H
def bP.lh61 (F:Nat) (ik:Int->Int->Sl->Hp->OA) (ap:Int->Int->Sl->Int->Int->Hp->OA) (ks:List Nat) (n:Nat) (tm:Tm) (H:Hp):OA:=match ks,tm 1,tm 4,tm 5,tm 6 with
 | [],(.ptr mg nw),(.ptr eb mh),(.sl jc),(.int .i64 fv)=>bP.l61 F ik ap n mg nw eb mh jc fv H
 | _,_,_,_,_=>none
theorem bP.lh61_inv {F:Nat} {ik:Int->Int->Sl->Hp->OA} {ap:Int->Int->Sl->Int->Int->Hp->OA} {ks:List Nat} {n:Nat} {tm:Tm} {H:Hp} {r:AV×Hp} (h:bP.lh61 F ik ap ks n tm H=some r):∃ mg nw eb mh jc fv,ks=[]/\eD tm [(1,(.ptr mg nw)),(4,(.ptr eb mh)),(5,(.sl jc)),(6,(.int .i64 fv))]/\bP.l61 F ik ap n mg nw eb mh jc fv H=some r:=by
 unfold bP.lh61 at h
 split at h
 ·exact ⟨_,_,_,_,_,_,rfl,⟨‹_›,‹_›,‹_›,‹_›,trivial⟩,h⟩
 ·cases h
def bP.lh (F:Nat) (ik:Int->Int->Sl->Hp->OA) (ap:Int->Int->Sl->Int->Int->Hp->OA) (p:Nat) (ks:List Nat) (n:Nat) (tm:Tm) (H:Hp):OA:=bif p.beq 61 then bP.lh61 F ik ap ks n tm H else (none)
def bP.tb:Nat->List (List Nat):=fA [(9,[[],[],[1],[1,2],[1,2,3],[1,2,3,4],[0],[0,1,2,3,4,5,6]])]
def bP.mk (g:Int->Int->Sl->Hp->OA) (args:List AV) (H:Hp):OA:=match args with
 | [(.agg [(.int .i64 aa),(.int .i64 af),(.sl bz)])]=>g aa af bz H
 | _=>none
def bP.cs (F:Nat) (ik:Int->Int->Sl->Hp->OA) (ap:Int->Int->Sl->Int->Int->Hp->OA):Cs:=[(75,bi.mk ik),(79,bo.mk ap)]
theorem bP.loops (F:Nat) (ik:Int->Int->Sl->Hp->OA) (ap:Int->Int->Sl->Int->Int->Hp->OA):LO (bG (bP.cs F ik ap)) bw (bP.lh F ik ap) F Try.f74:=
 (ai.rt (ai.rt (ai.rt (ai.lt (ai.rt (ai.block (ai.loop (λtm H=>eG λr h=>by obtain ⟨mg,nw,eb,mh,jc,fv,hks,e,h⟩:=bP.lh61_inv (show bP.lh61 F ik ap [] 0 tm H=some r from h);cases h) (λk61 tm H r h=>by obtain ⟨mg,nw,eb,mh,jc,fv,hks,e,h⟩:=bP.lh61_inv (show bP.lh61 F ik ap [] (k61+1) tm H=some r from h);rw [<- eE e];exact Eq.trans (by kernel_rfl) h) λk61=>ai.no)))))))
theorem bP.eqX (F:Nat) (ik:Int->Int->Sl->Hp->OA) (ap:Int->Int->Sl->Int->Int->Hp->OA) (aa:Int) (af:Int) (bz:Sl) (H:Hp):EX (bG (bP.cs F ik ap)) bw (bP.lh F ik ap) F Try.f74 [(.agg [(.int .i64 aa),(.int .i64 af),(.sl bz)])] H=bP.twX F ik ap aa af bz H:=by kernel_rfl
theorem bP.k (F:Nat):Ok Try.prog 74 (bP.mk (bP.tw F)):=by
 intro args H v H' h
 unfold bP.mk at h
 split at h
 ·exact okT (TB:=bP.tb) Try.func74 (bM (bi.k F) (bM (bo.k F) di)) (bP.loops F (bi.tw F) (bo.tw F)) ((bP.eqX F (bi.tw F) (bo.tw F) _ _ _ H).trans h) (by kernel_rfl)
 ·cases h
def cG.j2 (F:Nat) (C29_:Sl->Sl->Int->Hp->OA) (ya:Sl) (Ic:Sl) (sB:Int) (H35:Hp):OA:=C29_ ya Ic (IntKind.i64.wrap (sB+1)) H35
def cG.l29 (F:Nat) :Nat->Sl->Sl->Int->Hp->OA
 | 0,_,_,_,_=>none
 | eM+1,cX,jY,ft,H7=>(bif (decide (ft<(cX.n:Int))) then ((Sl.idx cX ft 1).bind λp22=>(Hp.ldI H7 .i64 p22.1 p22.2).bind λn23=>(bif (decide (n23>1)) then ((Sl.idx cX ft 1).bind λp24=>(Hp.ldI H7 .i64 p24.1 p24.2).bind λn25=>(Hp.new H7 [(.int .i64 n25)]).bind λH26=>(Sl.row H26 (⟨some (H7.length,0),1,.ex 1⟩:Sl) 1).bind λxs28=>(Hp.app H26 1 8 jY (⟨some (H7.length,0),1,.ex 1⟩:Sl).n xs28).bind λa27=>cG.j2 F (cG.l29 F eM) cX a27.1 ft a27.2) else (cG.j2 F (cG.l29 F eM) cX jY ft H7))) else (some ((.sl jY),H7)))
termination_by structural n=>n
def cG.twX (F:Nat) (aa:Sl) (H:Hp):OA:=(Hp.new H []).bind λH2=>cG.l29 F F aa (⟨some (H.length,0),0,.ex 0⟩:Sl) 0 H2
def cG.tw (F:Nat) (aa:Sl) (H:Hp):OA:=cG.twX F aa H
def cG.lh29 (F:Nat) (ks:List Nat) (n:Nat) (tm:Tm) (H:Hp):OA:=match ks,tm 0,tm 3,tm 4 with
 | [],(.sl cX),(.sl jY),(.int .i64 ft)=>cG.l29 F n cX jY ft H
 | _,_,_,_=>none
theorem cG.lh29_inv {F:Nat} {ks:List Nat} {n:Nat} {tm:Tm} {H:Hp} {r:AV×Hp} (h:cG.lh29 F ks n tm H=some r):∃ cX jY ft,ks=[]/\eD tm [(0,(.sl cX)),(3,(.sl jY)),(4,(.int .i64 ft))]/\cG.l29 F n cX jY ft H=some r:=by
 unfold cG.lh29 at h
 split at h
 ·exact ⟨_,_,_,rfl,⟨‹_›,‹_›,‹_›,trivial⟩,h⟩
 ·cases h
def cG.lh (F:Nat) (p:Nat) (ks:List Nat) (n:Nat) (tm:Tm) (H:Hp):OA:=bif p.beq 29 then cG.lh29 F ks n tm H else (none)
def cG.mk (g:Sl->Hp->OA) (args:List AV) (H:Hp):OA:=match args with
 | [(.sl aa)]=>g aa H
 | _=>none
theorem cG.loops (F:Nat):LO (bG []) bw (cG.lh F) F Try.f84:=
 (ai.rt (ai.rt (ai.lt (ai.rt (ai.block (ai.loop (λtm H=>eG λr h=>by obtain ⟨cX,jY,ft,hks,e,h⟩:=cG.lh29_inv (show cG.lh29 F [] 0 tm H=some r from h);cases h) (λk29 tm H r h=>by obtain ⟨cX,jY,ft,hks,e,h⟩:=cG.lh29_inv (show cG.lh29 F [] (k29+1) tm H=some r from h);rw [<- eE e];exact Eq.trans (by kernel_rfl) h) λk29=>ai.no))))))
theorem cG.eqX (F:Nat) (aa:Sl) (H:Hp):EX (bG []) bw (cG.lh F) F Try.f84 [(.sl aa)] H=cG.twX F aa H:=by kernel_rfl
theorem cG.k (F:Nat):Ok Try.prog 84 (cG.mk (cG.tw F)):=by
 intro args H v H' h
 unfold cG.mk at h
 split at h
 ·exact okT (TB:=bw) Try.func84 di (cG.loops F) ((cG.eqX F _ H).trans h) (by kernel_rfl)
 ·cases h
def cH.j1 (F:Nat) (jd:Int->Sl->Hp->OA) (eN:Int->Int->Hp->OA) (jg:Int->Int->Sl->Hp->OA) (jh:Sl->Hp->OA) (vL:Nat) (Id:Nat) (vM:Nat) (Ie:Nat) (ny:Nat) (pA:Nat) (sC:Nat) (yb:Nat) (H96:Hp):OA:=(Hp.ldI H96 .i64 sC yb).bind λn97=>(Hp.ldI H96 .i64 sC (yb+1)).bind λn98=>(Hp.ldSl H96 sC (yb+2)).bind λs99=>(jg n97 n98 s99 H96).bind λr100=>((r100.1).asTup 2).bind λl101=>(l101[0]?).bind λv102=>((v102).asSl).bind λs103=>(l101[1]?).bind λv104=>((v104).asB).bind λb105=>(bif (!b105) then ((Hp.st r100.2 ny pA (.int .i64 0)).bind λH106=>(Hp.st H106 ny (pA+1) (.sl (⟨none,0,.ex 0⟩:Sl))).bind λH107=>(Hp.ldI H107 .i64 ny pA).bind λn108=>(Hp.ldSl H107 ny (pA+1)).bind λs109=>some ((.tup [(.agg [(.int .i64 n108),(.sl s109)]),(.int .i64 3)]),H107)) else ((Hp.ldI r100.2 .i64 vL Id).bind λn110=>(Hp.ldI r100.2 .i64 vM Ie).bind λn111=>(jh s103 r100.2).bind λr112=>((r112.1).asSl).bind λs113=>(if bh r100.2 r112.2 then ((Hp.st r112.2 ny pA (.int .i64 (IntKind.i64.wrap (n110+n111)))).bind λH114=>(Hp.st H114 ny (pA+1) (.sl s113)).bind λH115=>(Hp.ldI H115 .i64 ny pA).bind λn116=>(Hp.ldSl H115 ny (pA+1)).bind λs117=>some ((.tup [(.agg [(.int .i64 n116),(.sl s117)]),(.int .i64 0)]),H115)) else none)))
def cH.l509 (F:Nat) (jd:Int->Sl->Hp->OA) (eN:Int->Int->Hp->OA) (jg:Int->Int->Sl->Hp->OA) (jh:Sl->Hp->OA) :Nat->Nat->Nat->Nat->Nat->Nat->Nat->Sl->Int->Nat->Nat->Int->Hp->OA
 | 0,_,_,_,_,_,_,_,_,_,_,_,_=>none
 | yc+1,iH,kQ,iI,kR,iJ,kS,oz,ln,g_,js,jP,H71=>(bif (decide (jP<ln)) then ((Hp.ldSl H71 g_ (js+2)).bind λs118=>(Sl.idx oz jP 1).bind λp119=>(Hp.ldI H71 .i64 p119.1 p119.2).bind λn120=>(Sl.idx s118 (IntKind.i64.wrap ((IntKind.i64.wrap (jP * ln))+jP)) 1).bind λp121=>(Hp.st H71 p121.1 p121.2 (.int .i64 n120)).bind λH122=>cH.l509 F jd eN jg jh yc iH kQ iI kR iJ kS oz ln g_ js (IntKind.i64.wrap (jP+1)) H122) else (cH.j1 F jd eN jg jh iH kQ iI kR iJ kS g_ js H71))
termination_by structural n=>n
def cH.twX (F:Nat) (jd:Int->Sl->Hp->OA) (eN:Int->Int->Hp->OA) (jg:Int->Int->Sl->Hp->OA) (jh:Sl->Hp->OA) (aa:Int) (af:Sl) (ag:Int) (aw:Sl) (H:Hp):OA:=(Hp.new H [(.int .i64 aa),(.sl af)]).bind λH5=>(Hp.new H5 [(.int .i64 ag),(.sl aw)]).bind λH6=>(Hp.new H6 [.int .i64 0,.sl ⟨none,0,.ex 0⟩]).bind λH7=>(Hp.ldI H7 .i64 H.length 0).bind λn8=>(Hp.ldSl H7 H.length (0+1)).bind λs9=>(jd n8 s9 H7).bind λr10=>((r10.1).asB).bind λb11=>(bif (!b11) then ((Hp.st r10.2 H6.length 0 (.int .i64 0)).bind λH12=>(Hp.st H12 H6.length (0+1) (.sl (⟨none,0,.ex 0⟩:Sl))).bind λH13=>(Hp.ldI H13 .i64 H6.length 0).bind λn14=>(Hp.ldSl H13 H6.length (0+1)).bind λs15=>some ((.tup [(.agg [(.int .i64 n14),(.sl s15)]),(.int .i64 1)]),H13)) else ((Hp.ldI r10.2 .i64 H5.length 0).bind λn16=>(Hp.ldSl r10.2 H5.length (0+1)).bind λs17=>(jd n16 s17 r10.2).bind λr18=>((r18.1).asB).bind λb19=>(bif (!b19) then ((Hp.st r18.2 H6.length 0 (.int .i64 0)).bind λH20=>(Hp.st H20 H6.length (0+1) (.sl (⟨none,0,.ex 0⟩:Sl))).bind λH21=>(Hp.ldI H21 .i64 H6.length 0).bind λn22=>(Hp.ldSl H21 H6.length (0+1)).bind λs23=>some ((.tup [(.agg [(.int .i64 n22),(.sl s23)]),(.int .i64 1)]),H21)) else ((Hp.new r18.2 []).bind λH24=>(Hp.ldSl H24 H.length 1).bind λs25=>(Sl.row H24 s25 1).bind λxs27=>(Hp.app H24 1 8 (⟨some (r18.2.length,0),0,.ex 0⟩:Sl) s25.n xs27).bind λa26=>(if bh H24 a26.2 then ((Hp.ldSl a26.2 H5.length 1).bind λs28=>(Sl.row a26.2 s28 1).bind λxs30=>(Hp.app a26.2 1 8 a26.1 s28.n xs30).bind λa29=>(Hp.ldI a29.2 .i64 H.length 0).bind λn31=>(Hp.ldI a29.2 .i64 H5.length 0).bind λn32=>(bif (decide ((IntKind.i64.wrap (n31+n32))>48)) then ((Hp.st a29.2 H6.length 0 (.int .i64 0)).bind λH33=>(Hp.st H33 H6.length (0+1) (.sl (⟨none,0,.ex 0⟩:Sl))).bind λH34=>(Hp.ldI H34 .i64 H6.length 0).bind λn35=>(Hp.ldSl H34 H6.length (0+1)).bind λs36=>some ((.tup [(.agg [(.int .i64 n35),(.sl s36)]),(.int .i64 3)]),H34)) else ((bif (decide ((a29.1.n:Int)>48)) then ((Hp.st a29.2 H6.length 0 (.int .i64 0)).bind λH37=>(Hp.st H37 H6.length (0+1) (.sl (⟨none,0,.ex 0⟩:Sl))).bind λH38=>(Hp.ldI H38 .i64 H6.length 0).bind λn39=>(Hp.ldSl H38 H6.length (0+1)).bind λs40=>some ((.tup [(.agg [(.int .i64 n39),(.sl s40)]),(.int .i64 3)]),H38)) else ((eN (a29.1.n:Int) (a29.1.n:Int) a29.2).bind λr41=>((r41.1).asAgg 3).bind λl42=>(l42[0]?).bind λv43=>((v43).asI .i64).bind λn44=>(l42[1]?).bind λv45=>((v45).asI .i64).bind λn46=>(l42[2]?).bind λv47=>((v47).asSl).bind λs48=>(Hp.new r41.2 [.int .i64 0,.int .i64 0,.sl ⟨none,0,.ex 0⟩]).bind λH49=>(Hp.st H49 r41.2.length 0 (.int .i64 n44)).bind λH50=>(Hp.st H50 r41.2.length (0+1) (.int .i64 n46)).bind λH51=>(Hp.st H51 r41.2.length (0+1+1) (.sl s48)).bind λH52=>cH.l509 F jd eN jg jh F H.length 0 H5.length 0 H6.length 0 a29.1 (a29.1.n:Int) r41.2.length 0 0 H52))))) else none)))))
def cH.tw (F:Nat) (aa:Int) (af:Sl) (ag:Int) (aw:Sl) (H:Hp):OA:=cH.twX F (cu.tw F) (fZ.tw F) (bP.tw F) (cG.tw F) aa af ag aw H
def cH.lh509 (F:Nat) (jd:Int->Sl->Hp->OA) (eN:Int->Int->Hp->OA) (jg:Int->Int->Sl->Hp->OA) (jh:Sl->Hp->OA) (ks:List Nat) (n:Nat) (tm:Tm) (H:Hp):OA:=match ks,tm 2,tm 3,tm 4,tm 6,tm 7,tm 8,tm 9 with
 | [],(.ptr iH kQ),(.ptr iI kR),(.ptr iJ kS),(.sl oz),(.int .i64 ln),(.ptr g_ js),(.int .i64 jP)=>cH.l509 F jd eN jg jh n iH kQ iI kR iJ kS oz ln g_ js jP H
 | _,_,_,_,_,_,_,_=>none
theorem cH.lh509_inv {F:Nat} {jd:Int->Sl->Hp->OA} {eN:Int->Int->Hp->OA} {jg:Int->Int->Sl->Hp->OA} {jh:Sl->Hp->OA} {ks:List Nat} {n:Nat} {tm:Tm} {H:Hp} {r:AV×Hp} (h:cH.lh509 F jd eN jg jh ks n tm H=some r):∃ iH kQ iI kR iJ kS oz ln g_ js jP,ks=[]/\eD tm [(2,(.ptr iH kQ)),(3,(.ptr iI kR)),(4,(.ptr iJ kS)),(6,(.sl oz)),(7,(.int .i64 ln)),(8,(.ptr g_ js)),(9,(.int .i64 jP))]/\cH.l509 F jd eN jg jh n iH kQ iI kR iJ kS oz ln g_ js jP H=some r:=by
 unfold cH.lh509 at h
 split at h
 ·exact ⟨_,_,_,_,_,_,_,_,_,_,_,rfl,⟨‹_›,‹_›,‹_›,‹_›,‹_›,‹_›,‹_›,trivial⟩,h⟩
 ·cases h
def cH.lh (F:Nat) (jd:Int->Sl->Hp->OA) (eN:Int->Int->Hp->OA) (jg:Int->Int->Sl->Hp->OA) (jh:Sl->Hp->OA) (p:Nat) (ks:List Nat) (n:Nat) (tm:Tm) (H:Hp):OA:=bif p.beq 509 then cH.lh509 F jd eN jg jh ks n tm H else (none)
def cH.pn:Nat->List Nat:=fA [(3,[6]),(11,[12]),(15,[8])]
def cH.tb:Nat->List (List Nat):=fA [(3,[[],[],[1],[0,1,2],[],[4],[0,1,2,3,4,5],[0,1,2,3,4,5,6]]),(11,[[],[0],[],[],[2,3],[],[2,3,4,5],[],[],[7,8],[7,8,9],[0,1,2,3,4,5,6,7,8,9,10],[0,1,2,3,4,5,6,7,8,9,10,11]]),(15,[[],[0],[],[2],[0,1,2,3],[],[5],[0,1,2,3,4,5,6],[0,1,2,3,4,5,6,7],[0,1,2,3,4,5,6,7,8]])]
def cH.mk (g:Int->Sl->Int->Sl->Hp->OA) (args:List AV) (H:Hp):OA:=match args with
 | [(.agg [(.int .i64 aa),(.sl af)]),(.agg [(.int .i64 ag),(.sl aw)])]=>g aa af ag aw H
 | _=>none
def cH.cs (F:Nat) (jd:Int->Sl->Hp->OA) (eN:Int->Int->Hp->OA) (jg:Int->Int->Sl->Hp->OA) (jh:Sl->Hp->OA):Cs:=[(39,cu.mk jd),(80,fZ.mk eN),(74,bP.mk jg),(84,cG.mk jh)]
theorem cH.loops (F:Nat) (jd:Int->Sl->Hp->OA) (eN:Int->Int->Hp->OA) (jg:Int->Int->Sl->Hp->OA) (jh:Sl->Hp->OA):LO (bG (cH.cs F jd eN jg jh)) cH.pn (cH.lh F jd eN jg jh) F Try.f49:=
 (ai.rt (ai.rt (ai.rt (ai.rt (ai.rt (ai.rt (ai.lt (ai.rt (ai.block (ai.loop (λtm H=>eG λr h=>by obtain ⟨iH,kQ,iI,kR,iJ,kS,oz,ln,g_,js,jP,hks,e,h⟩:=cH.lh509_inv (show cH.lh509 F jd eN jg jh [] 0 tm H=some r from h);cases h) (λk509 tm H r h=>by obtain ⟨iH,kQ,iI,kR,iJ,kS,oz,ln,g_,js,jP,hks,e,h⟩:=cH.lh509_inv (show cH.lh509 F jd eN jg jh [] (k509+1) tm H=some r from h);rw [<- eE e];exact Eq.trans (by kernel_rfl) h) λk509=>ai.no))))))))))
theorem cH.eqX (F:Nat) (jd:Int->Sl->Hp->OA) (eN:Int->Int->Hp->OA) (jg:Int->Int->Sl->Hp->OA) (jh:Sl->Hp->OA) (aa:Int) (af:Sl) (ag:Int) (aw:Sl) (H:Hp):EX (bG (cH.cs F jd eN jg jh)) cH.pn (cH.lh F jd eN jg jh) F Try.f49 [(.agg [(.int .i64 aa),(.sl af)]),(.agg [(.int .i64 ag),(.sl aw)])] H=cH.twX F jd eN jg jh aa af ag aw H:=by kernel_rfl
theorem cH.k (F:Nat):Ok Try.prog 49 (cH.mk (cH.tw F)):=by
 intro args H v H' h
 unfold cH.mk at h
 split at h
 ·exact okT (TB:=cH.tb) Try.func49 (bM (cu.k F) (bM (fZ.k F) (bM (bP.k F) (bM (cG.k F) di)))) (cH.loops F (cu.tw F) (fZ.tw F) (bP.tw F) (cG.tw F)) ((cH.eqX F (cu.tw F) (fZ.tw F) (bP.tw F) (cG.tw F) _ _ _ _ H).trans h) (by kernel_rfl)
 ·cases h
def gV.twX (F:Nat) (aa:Int) (au:Int) (dA:Int) (H:Hp):OA:=(bif (decide (au<=aa)) then (some ((.bool (decide (aa<=dA))),H)) else (some ((.bool false),H)))
def gV.tw (F:Nat) (aa:Int) (au:Int) (dA:Int) (H:Hp):OA:=gV.twX F aa au dA H
def gV.mk (g:Int->Int->Int->Hp->OA) (args:List AV) (H:Hp):OA:=match args with
 | [(.int .i64 aa),(.int .i64 au),(.int .i64 dA)]=>g aa au dA H
 | _=>none
theorem gV.eqX (F:Nat) (aa:Int) (au:Int) (dA:Int) (H:Hp):EX (bG []) bw lh0 F Try.f106 [(.int .i64 aa),(.int .i64 au),(.int .i64 dA)] H=gV.twX F aa au dA H:=by kernel_rfl
theorem gV.k (F:Nat):Ok Try.prog 106 (gV.mk (gV.tw F)):=by
 intro args H v H' h
 unfold gV.mk at h
 split at h
 ·exact okT (TB:=bw) Try.func106 di ai.no ((gV.eqX F _ _ _ H).trans h) (by kernel_rfl)
 ·cases h
def cF.j1 (F:Nat) (iY:Int->Int->Int->Hp->OA) (uB:Nat) (Cy:Nat) (H30:Hp):OA:=(Hp.ldI H30 .i64 uB Cy).bind λn31=>(iY n31 0 48 H30).bind λr32=>((r32.1).asB).bind λb33=>(bif b33 then ((Hp.ldSl r32.2 uB (Cy+1)).bind λs34=>some ((.bool (decide ((s34.n:Int)<=48))),r32.2)) else (some ((.bool false),r32.2)))
def cF.l13 (F:Nat) (iY:Int->Int->Int->Hp->OA) :Nat->Nat->Nat->Sl->Int->Int->Hp->OA
 | 0,_,_,_,_,_,_=>none
 | ic+1,hU,f_,nW,lp,ji,H13=>(bif (decide (ji<lp)) then ((Sl.idx nW ji 1).bind λp35=>(Hp.ldI H13 .i64 p35.1 p35.2).bind λn36=>(iY n36 2 1000000000000 H13).bind λr37=>((r37.1).asB).bind λb38=>(bif (!b38) then (some ((.bool false),r37.2)) else ((bif (decide (ji>0)) then ((Hp.ldSl r37.2 hU (f_+1)).bind λs39=>(Sl.idx s39 (IntKind.i64.wrap (ji - 1)) 1).bind λp40=>(Hp.ldI r37.2 .i64 p40.1 p40.2).bind λn41=>(if n41=0 then none else ((bif ((Int.tmod n36 n41) != 0) then (some ((.bool false),r37.2)) else (cF.l13 F iY ic hU f_ nW lp (IntKind.i64.wrap (ji+1)) r37.2))))) else (cF.l13 F iY ic hU f_ nW lp (IntKind.i64.wrap (ji+1)) r37.2))))) else (cF.j1 F iY hU f_ H13))
termination_by structural n=>n
def cF.twX (F:Nat) (iY:Int->Int->Int->Hp->OA) (aa:Int) (af:Sl) (H:Hp):OA:=(Hp.new H [(.int .i64 aa),(.sl af)]).bind λH3=>(Hp.ldSl H3 H.length 1).bind λs4=>cF.l13 F iY F H.length 0 s4 (s4.n:Int) 0 H3
def cF.tw (F:Nat) (aa:Int) (af:Sl) (H:Hp):OA:=cF.twX F (gV.tw F) aa af H
def cF.lh13 (F:Nat) (iY:Int->Int->Int->Hp->OA) (ks:List Nat) (n:Nat) (tm:Tm) (H:Hp):OA:=match ks,tm 1,tm 6,tm 7,tm 8 with
 | [],(.ptr hU f_),(.sl nW),(.int .i64 lp),(.int .i64 ji)=>cF.l13 F iY n hU f_ nW lp ji H
 | _,_,_,_,_=>none
theorem cF.lh13_inv {F:Nat} {iY:Int->Int->Int->Hp->OA} {ks:List Nat} {n:Nat} {tm:Tm} {H:Hp} {r:AV×Hp} (h:cF.lh13 F iY ks n tm H=some r):∃ hU f_ nW lp ji,ks=[]/\eD tm [(1,(.ptr hU f_)),(6,(.sl nW)),(7,(.int .i64 lp)),(8,(.int .i64 ji))]/\cF.l13 F iY n hU f_ nW lp ji H=some r:=by
 unfold cF.lh13 at h
 split at h
 ·exact ⟨_,_,_,_,_,rfl,⟨‹_›,‹_›,‹_›,‹_›,trivial⟩,h⟩
 ·cases h
def cF.lh (F:Nat) (iY:Int->Int->Int->Hp->OA) (p:Nat) (ks:List Nat) (n:Nat) (tm:Tm) (H:Hp):OA:=bif p.beq 13 then cF.lh13 F iY ks n tm H else (none)
def cF.mk (g:Int->Sl->Hp->OA) (args:List AV) (H:Hp):OA:=match args with
 | [(.agg [(.int .i64 aa),(.sl af)])]=>g aa af H
 | _=>none
def cF.cs (F:Nat) (iY:Int->Int->Int->Hp->OA):Cs:=[(106,gV.mk iY)]
theorem cF.loops (F:Nat) (iY:Int->Int->Int->Hp->OA):LO (bG (cF.cs F iY)) bw (cF.lh F iY) F Try.f92:=
 (ai.rt (ai.lt (ai.rt (ai.block (ai.loop (λtm H=>eG λr h=>by obtain ⟨hU,f_,nW,lp,ji,hks,e,h⟩:=cF.lh13_inv (show cF.lh13 F iY [] 0 tm H=some r from h);cases h) (λk13 tm H r h=>by obtain ⟨hU,f_,nW,lp,ji,hks,e,h⟩:=cF.lh13_inv (show cF.lh13 F iY [] (k13+1) tm H=some r from h);rw [<- eE e];exact Eq.trans (by kernel_rfl) h) λk13=>ai.no)))))
theorem cF.eqX (F:Nat) (iY:Int->Int->Int->Hp->OA) (aa:Int) (af:Sl) (H:Hp):EX (bG (cF.cs F iY)) bw (cF.lh F iY) F Try.f92 [(.agg [(.int .i64 aa),(.sl af)])] H=cF.twX F iY aa af H:=by kernel_rfl
theorem cF.k (F:Nat):Ok Try.prog 92 (cF.mk (cF.tw F)):=by
 intro args H v H' h
 unfold cF.mk at h
 split at h
 ·exact okT (TB:=bw) Try.func92 (bM (gV.k F) di) (cF.loops F (gV.tw F)) ((cF.eqX F (gV.tw F) _ _ H).trans h) (by kernel_rfl)
 ·cases h
def hZ.j1 (F:Nat) (nX:Sl) (uC:Int) (H7:Hp):OA:=(Sl.capK nX λc8=>(bif (decide ((IntKind.i64.wrap (uC - (IntKind.i64.wrap ((c8:Int) - (nX.n:Int)))))>0)) then ((Sl.capK nX λc9=>(Sl.cut nX 1 0 (c9:Int)).bind λs10=>(if 0<=(IntKind.i64.wrap (uC - (IntKind.i64.wrap ((c8:Int) - (nX.n:Int)))))/\(IntKind.i64.wrap (uC - (IntKind.i64.wrap ((c8:Int) - (nX.n:Int)))))<=70368744177664 then (Hp.app H7 1 8 s10 ((IntKind.i64.wrap (uC - (IntKind.i64.wrap ((c8:Int) - (nX.n:Int))))):Int).toNat (zrow ((IntKind.i64.wrap (uC - (IntKind.i64.wrap ((c8:Int) - (nX.n:Int))))):Int).toNat [.int .i64 0])).bind λa11=>(Sl.cut a11.1 1 0 (nX.n:Int)).bind λs12=>some ((.sl s12),a11.2) else none))) else (some ((.sl nX),H7))))
def hZ.twX (F:Nat) (aa:Sl) (au:Int) (H:Hp):OA:=(bif (decide (au<0)) then (none) else (hZ.j1 F aa au H))
def hZ.tw (F:Nat) (aa:Sl) (au:Int) (H:Hp):OA:=hZ.twX F aa au H
def hZ.mk (g:Sl->Int->Hp->OA) (args:List AV) (H:Hp):OA:=match args with
 | [(.sl aa),(.int .i64 au)]=>g aa au H
 | _=>none
theorem hZ.eqX (F:Nat) (aa:Sl) (au:Int) (H:Hp):EX (bG []) bw lh0 F Try.f127 [(.sl aa),(.int .i64 au)] H=hZ.twX F aa au H:=by kernel_rfl
theorem hZ.k (F:Nat):Ok Try.prog 127 (hZ.mk (hZ.tw F)):=by
 intro args H v H' h
 unfold hZ.mk at h
 split at h
 ·exact okT (TB:=bw) Try.func127 di ai.no ((hZ.eqX F _ _ H).trans h) (by kernel_rfl)
 ·cases h
def cw.l125 (F:Nat) (gh:Sl->Int->Hp->OA) :Nat->Sl->Sl->Int->Int->Hp->OA
 | 0,_,_,_,_,_=>none
 | vN+1,oA,oB,oC,nY,H42=>(bif (decide (nY<oC)) then ((Sl.idx oB nY 1).bind λp47=>(Hp.ldSl H42 p47.1 p47.2).bind λs48=>(Sl.row H42 s48 1).bind λxs50=>(Hp.app H42 1 8 oA s48.n xs50).bind λa49=>cw.l125 F gh vN a49.1 oB oC (IntKind.i64.wrap (nY+1)) a49.2) else (some ((.sl oA),H42)))
termination_by structural n=>n
def cw.j2 (F:Nat) (gh:Sl->Int->Hp->OA) (Cz:Sl) (If:Int) (H28:Hp):OA:=(gh (⟨none,0,.ex 0⟩:Sl) If H28).bind λr29=>((r29.1).asSl).bind λs30=>cw.l125 F gh F s30 Cz (Cz.n:Int) 0 r29.2
def cw.j3 (F:Nat) (gh:Sl->Int->Hp->OA) (C29_:Sl->Int->Sl->Int->Int->Hp->OA) (Ig:Sl) (Ih:Int) (Ii:Sl) (Ij:Int) (Ik:Int) (H62:Hp):OA:=C29_ Ig Ih Ii Ij (IntKind.i64.wrap (Ik+1)) H62
def cw.l29 (F:Nat) (gh:Sl->Int->Hp->OA) :Nat->Sl->Int->Sl->Int->Int->Hp->OA
 | 0,_,_,_,_,_,_=>none
 | eM+1,il,nZ,oD,oE,n_,H8=>(bif (decide (n_<oE)) then ((Sl.idx oD n_ 1).bind λp51=>(Hp.ldSl H8 p51.1 p51.2).bind λs52=>(bif (decide ((IntKind.i64.wrap (nZ+(s52.n:Int)))<0)) then (none) else (cw.j3 F gh (cw.l29 F gh eM) il (IntKind.i64.wrap (nZ+(s52.n:Int))) oD oE n_ H8))) else (cw.j2 F gh il nZ H8))
termination_by structural n=>n
def cw.twX (F:Nat) (gh:Sl->Int->Hp->OA) (aa:Sl) (H:Hp):OA:=cw.l29 F gh F aa 0 aa (aa.n:Int) 0 H
def cw.tw (F:Nat) (aa:Sl) (H:Hp):OA:=cw.twX F (hZ.tw F) aa H
def cw.lh29 (F:Nat) (gh:Sl->Int->Hp->OA) (ks:List Nat) (n:Nat) (tm:Tm) (H:Hp):OA:=match ks,tm 0,tm 3,tm 9,tm 10,tm 11 with
 | [],(.sl il),(.int .i64 nZ),(.sl oD),(.int .i64 oE),(.int .i64 n_)=>cw.l29 F gh n il nZ oD oE n_ H
 | _,_,_,_,_,_=>none
theorem cw.lh29_inv {F:Nat} {gh:Sl->Int->Hp->OA} {ks:List Nat} {n:Nat} {tm:Tm} {H:Hp} {r:AV×Hp} (h:cw.lh29 F gh ks n tm H=some r):∃ il nZ oD oE n_,ks=[]/\eD tm [(0,(.sl il)),(3,(.int .i64 nZ)),(9,(.sl oD)),(10,(.int .i64 oE)),(11,(.int .i64 n_))]/\cw.l29 F gh n il nZ oD oE n_ H=some r:=by
 unfold cw.lh29 at h
 split at h
 ·exact ⟨_,_,_,_,_,rfl,⟨‹_›,‹_›,‹_›,‹_›,‹_›,trivial⟩,h⟩
 ·cases h
def cw.lh125 (F:Nat) (gh:Sl->Int->Hp->OA) (ks:List Nat) (n:Nat) (tm:Tm) (H:Hp):OA:=match ks,tm 6,tm 25,tm 26,tm 27 with
 | [],(.sl oA),(.sl oB),(.int .i64 oC),(.int .i64 nY)=>cw.l125 F gh n oA oB oC nY H
 | _,_,_,_,_=>none
theorem cw.lh125_inv {F:Nat} {gh:Sl->Int->Hp->OA} {ks:List Nat} {n:Nat} {tm:Tm} {H:Hp} {r:AV×Hp} (h:cw.lh125 F gh ks n tm H=some r):∃ oA oB oC nY,ks=[]/\eD tm [(6,(.sl oA)),(25,(.sl oB)),(26,(.int .i64 oC)),(27,(.int .i64 nY))]/\cw.l125 F gh n oA oB oC nY H=some r:=by
 unfold cw.lh125 at h
 split at h
 ·exact ⟨_,_,_,_,rfl,⟨‹_›,‹_›,‹_›,‹_›,trivial⟩,h⟩
 ·cases h
def cw.lh (F:Nat) (gh:Sl->Int->Hp->OA) (p:Nat) (ks:List Nat) (n:Nat) (tm:Tm) (H:Hp):OA:=bif p.beq 125 then cw.lh125 F gh ks n tm H else (bif p.beq 29 then cw.lh29 F gh ks n tm H else (none))
def cw.mk (g:Sl->Hp->OA) (args:List AV) (H:Hp):OA:=match args with
 | [(.sl aa)]=>g aa H
 | _=>none
def cw.cs (F:Nat) (gh:Sl->Int->Hp->OA):Cs:=[(127,hZ.mk gh)]
theorem cw.loops (F:Nat) (gh:Sl->Int->Hp->OA):LO (bG (cw.cs F gh)) bw (cw.lh F gh) F Try.f93:=
 (ai.rt (ai.rt (ai.seq (ai.rt (ai.block (ai.loop (λtm H=>eG λr h=>by obtain ⟨il,nZ,oD,oE,n_,hks,e,h⟩:=cw.lh29_inv (show cw.lh29 F gh [] 0 tm H=some r from h);cases h) (λk29 tm H r h=>by obtain ⟨il,nZ,oD,oE,n_,hks,e,h⟩:=cw.lh29_inv (show cw.lh29 F gh [] (k29+1) tm H=some r from h);rw [<- eE e];exact Eq.trans (by kernel_rfl) h) λk29=>ai.no))) (ai.rt (ai.lt (ai.rt (ai.block (ai.loop (λtm H=>eG λr h=>by obtain ⟨oA,oB,oC,nY,hks,e,h⟩:=cw.lh125_inv (show cw.lh125 F gh [] 0 tm H=some r from h);cases h) (λk125 tm H r h=>by obtain ⟨oA,oB,oC,nY,hks,e,h⟩:=cw.lh125_inv (show cw.lh125 F gh [] (k125+1) tm H=some r from h);rw [<- eE e];exact Eq.trans (by kernel_rfl) h) λk125=>ai.no))))))))
theorem cw.eqX (F:Nat) (gh:Sl->Int->Hp->OA) (aa:Sl) (H:Hp):EX (bG (cw.cs F gh)) bw (cw.lh F gh) F Try.f93 [(.sl aa)] H=cw.twX F gh aa H:=by kernel_rfl
theorem cw.k (F:Nat):Ok Try.prog 93 (cw.mk (cw.tw F)):=by
 intro args H v H' h
 unfold cw.mk at h
 split at h
 ·exact okT (TB:=bw) Try.func93 (bM (hZ.k F) di) (cw.loops F (hZ.tw F)) ((cw.eqX F (hZ.tw F) _ H).trans h) (by kernel_rfl)
 ·cases h
def im.twX (F:Nat) (aa:Sl) (H:Hp):OA:=some ((.int .i64 (aa.n:Int)),H)
def im.tw (F:Nat) (aa:Sl) (H:Hp):OA:=im.twX F aa H
def im.mk (g:Sl->Hp->OA) (args:List AV) (H:Hp):OA:=match args with
 | [(.sl aa)]=>g aa H
 | _=>none
theorem im.eqX (F:Nat) (aa:Sl) (H:Hp):EX (bG []) bw lh0 F Try.f73 [(.sl aa)] H=im.twX F aa H:=by kernel_rfl
theorem im.k (F:Nat):Ok Try.prog 73 (im.mk (im.tw F)):=by
 intro args H v H' h
 unfold im.mk at h
 split at h
 ·exact okT (TB:=bw) Try.func73 di ai.no ((im.eqX F _ H).trans h) (by kernel_rfl)
 ·cases h
def ga.twX (F:Nat) (aa:Int) (au:Int) (H:Hp):OA:=(Hp.new H [.int .i64 0,.int .i64 0,.sl ⟨none,0,.ex 0⟩]).bind λH3=>(Hp.mk H3 [.int .i64 0] 8 (IntKind.i64.wrap (aa * au)) (IntKind.i64.wrap (aa * au))).bind λm4=>(Hp.st m4.2 H.length 0 (.int .i64 aa)).bind λH5=>(Hp.st H5 H.length (0+1) (.int .i64 au)).bind λH6=>(Hp.st H6 H.length (0+1+1) (.sl m4.1)).bind λH7=>(Hp.ldI H7 .i64 H.length 0).bind λn8=>(Hp.ldI H7 .i64 H.length (0+1)).bind λn9=>(Hp.ldSl H7 H.length (0+2)).bind λs10=>some ((.agg [(.int .i64 n8),(.int .i64 n9),(.sl s10)]),H7)
def ga.tw (F:Nat) (aa:Int) (au:Int) (H:Hp):OA:=ga.twX F aa au H
def ga.mk (g:Int->Int->Hp->OA) (args:List AV) (H:Hp):OA:=match args with
 | [(.int .i64 aa),(.int .i64 au)]=>g aa au H
 | _=>none
theorem ga.eqX (F:Nat) (aa:Int) (au:Int) (H:Hp):EX (bG []) bw lh0 F Try.f94 [(.int .i64 aa),(.int .i64 au)] H=ga.twX F aa au H:=by kernel_rfl
theorem ga.k (F:Nat):Ok Try.prog 94 (ga.mk (ga.tw F)):=by
 intro args H v H' h
 unfold ga.mk at h
 split at h
 ·exact okT (TB:=bw) Try.func94 di ai.no ((ga.eqX F _ _ H).trans h) (by kernel_rfl)
 ·cases h
def bH.twX (F:Nat) (aa:Int) (af:Int) (bz:Sl) (aw:Int) (bN:Int) (H:Hp):OA:=(Hp.new H [(.int .i64 aa),(.int .i64 af),(.sl bz)]).bind λH6=>(Hp.ldSl H6 H.length 2).bind λs7=>(Hp.ldI H6 .i64 H.length 1).bind λn8=>(Sl.idx s7 (IntKind.i64.wrap ((IntKind.i64.wrap (aw * n8))+bN)) 1).bind λp9=>some ((.ptr p9.1 p9.2),H6)
def bH.tw (F:Nat) (aa:Int) (af:Int) (bz:Sl) (aw:Int) (bN:Int) (H:Hp):OA:=bH.twX F aa af bz aw bN H
def bH.mk (g:Int->Int->Sl->Int->Int->Hp->OA) (args:List AV) (H:Hp):OA:=match args with
 | [(.agg [(.int .i64 aa),(.int .i64 af),(.sl bz)]),(.int .i64 aw),(.int .i64 bN)]=>g aa af bz aw bN H
 | _=>none
theorem bH.eqX (F:Nat) (aa:Int) (af:Int) (bz:Sl) (aw:Int) (bN:Int) (H:Hp):EX (bG []) bw lh0 F Try.f95 [(.agg [(.int .i64 aa),(.int .i64 af),(.sl bz)]),(.int .i64 aw),(.int .i64 bN)] H=bH.twX F aa af bz aw bN H:=by kernel_rfl
theorem bH.k (F:Nat):Ok Try.prog 95 (bH.mk (bH.tw F)):=by
 intro args H v H' h
 unfold bH.mk at h
 split at h
 ·exact okT (TB:=bw) Try.func95 di ai.no ((bH.eqX F _ _ _ _ _ H).trans h) (by kernel_rfl)
 ·cases h
def dn.l29 (F:Nat) (eP:Int->Int->Hp->OA) (aj:Int->Int->Sl->Int->Int->Hp->OA) :Nat->Nat->Nat->Nat->Nat->Int->Int->Hp->OA
 | 0,_,_,_,_,_,_,_=>none
 | eM+1,dj,ig,gq,iG,lS,kt,H22=>(bif (decide (kt<lS)) then ((Hp.ldI H22 .i64 gq iG).bind λn38=>(Hp.ldI H22 .i64 gq (iG+1)).bind λn39=>(Hp.ldSl H22 gq (iG+2)).bind λs40=>(aj n38 n39 s40 kt kt H22).bind λr41=>((r41.1).asP).bind λp42=>(Hp.st r41.2 p42.1 p42.2 (.int .i64 1)).bind λH43=>dn.l29 F eP aj eM dj ig gq iG lS (IntKind.i64.wrap (kt+1)) H43) else ((Hp.ldI H22 .i64 gq iG).bind λn44=>(Hp.ldI H22 .i64 gq (iG+1)).bind λn45=>(Hp.ldSl H22 gq (iG+2)).bind λs46=>(Hp.st H22 dj ig (.int .i64 n44)).bind λH47=>(Hp.st H47 dj (ig+1) (.int .i64 n45)).bind λH48=>(Hp.st H48 dj (ig+1+1) (.sl s46)).bind λH49=>(Hp.ldI H49 .i64 dj ig).bind λn50=>(Hp.ldI H49 .i64 dj (ig+1)).bind λn51=>(Hp.ldSl H49 dj (ig+2)).bind λs52=>some ((.agg [(.int .i64 n50),(.int .i64 n51),(.sl s52)]),H49)))
termination_by structural n=>n
def dn.twX (F:Nat) (eP:Int->Int->Hp->OA) (aj:Int->Int->Sl->Int->Int->Hp->OA) (aa:Int) (H:Hp):OA:=(Hp.new H [.int .i64 0,.int .i64 0,.sl ⟨none,0,.ex 0⟩]).bind λH2=>(eP aa aa H2).bind λr3=>((r3.1).asAgg 3).bind λl4=>(l4[0]?).bind λv5=>((v5).asI .i64).bind λn6=>(l4[1]?).bind λv7=>((v7).asI .i64).bind λn8=>(l4[2]?).bind λv9=>((v9).asSl).bind λs10=>(Hp.new r3.2 [.int .i64 0,.int .i64 0,.sl ⟨none,0,.ex 0⟩]).bind λH11=>(Hp.st H11 r3.2.length 0 (.int .i64 n6)).bind λH12=>(Hp.st H12 r3.2.length (0+1) (.int .i64 n8)).bind λH13=>(Hp.st H13 r3.2.length (0+1+1) (.sl s10)).bind λH14=>dn.l29 F eP aj F H.length 0 r3.2.length 0 aa 0 H14
def dn.tw (F:Nat) (aa:Int) (H:Hp):OA:=dn.twX F (ga.tw F) (bH.tw F) aa H
def dn.lh29 (F:Nat) (eP:Int->Int->Hp->OA) (aj:Int->Int->Sl->Int->Int->Hp->OA) (ks:List Nat) (n:Nat) (tm:Tm) (H:Hp):OA:=match ks,tm 2,tm 3,tm 8,tm 9 with
 | [],(.ptr dj ig),(.ptr gq iG),(.int .i64 lS),(.int .i64 kt)=>dn.l29 F eP aj n dj ig gq iG lS kt H
 | _,_,_,_,_=>none
theorem dn.lh29_inv {F:Nat} {eP:Int->Int->Hp->OA} {aj:Int->Int->Sl->Int->Int->Hp->OA} {ks:List Nat} {n:Nat} {tm:Tm} {H:Hp} {r:AV×Hp} (h:dn.lh29 F eP aj ks n tm H=some r):∃ dj ig gq iG lS kt,ks=[]/\eD tm [(2,(.ptr dj ig)),(3,(.ptr gq iG)),(8,(.int .i64 lS)),(9,(.int .i64 kt))]/\dn.l29 F eP aj n dj ig gq iG lS kt H=some r:=by
 unfold dn.lh29 at h
 split at h
 ·exact ⟨_,_,_,_,_,_,rfl,⟨‹_›,‹_›,‹_›,‹_›,trivial⟩,h⟩
 ·cases h
def dn.lh (F:Nat) (eP:Int->Int->Hp->OA) (aj:Int->Int->Sl->Int->Int->Hp->OA) (p:Nat) (ks:List Nat) (n:Nat) (tm:Tm) (H:Hp):OA:=bif p.beq 29 then dn.lh29 F eP aj ks n tm H else (none)
def dn.mk (g:Int->Hp->OA) (args:List AV) (H:Hp):OA:=match args with
 | [(.int .i64 aa)]=>g aa H
 | _=>none
def dn.cs (F:Nat) (eP:Int->Int->Hp->OA) (aj:Int->Int->Sl->Int->Int->Hp->OA):Cs:=[(94,ga.mk eP),(95,bH.mk aj)]
theorem dn.loops (F:Nat) (eP:Int->Int->Hp->OA) (aj:Int->Int->Sl->Int->Int->Hp->OA):LO (bG (dn.cs F eP aj)) bw (dn.lh F eP aj) F Try.f110:=
 (ai.rt (ai.rt (ai.lt (ai.rt (ai.block (ai.loop (λtm H=>eG λr h=>by obtain ⟨dj,ig,gq,iG,lS,kt,hks,e,h⟩:=dn.lh29_inv (show dn.lh29 F eP aj [] 0 tm H=some r from h);cases h) (λk29 tm H r h=>by obtain ⟨dj,ig,gq,iG,lS,kt,hks,e,h⟩:=dn.lh29_inv (show dn.lh29 F eP aj [] (k29+1) tm H=some r from h);rw [<- eE e];exact Eq.trans (by kernel_rfl) h) λk29=>ai.no))))))
theorem dn.eqX (F:Nat) (eP:Int->Int->Hp->OA) (aj:Int->Int->Sl->Int->Int->Hp->OA) (aa:Int) (H:Hp):EX (bG (dn.cs F eP aj)) bw (dn.lh F eP aj) F Try.f110 [(.int .i64 aa)] H=dn.twX F eP aj aa H:=by kernel_rfl
theorem dn.k (F:Nat):Ok Try.prog 110 (dn.mk (dn.tw F)):=by
 intro args H v H' h
 unfold dn.mk at h
 split at h
 ·exact okT (TB:=bw) Try.func110 (bM (ga.k F) (bM (bH.k F) di)) (dn.loops F (ga.tw F) (bH.tw F)) ((dn.eqX F (ga.tw F) (bH.tw F) _ H).trans h) (by kernel_rfl)
 ·cases h
def iZ.twX (F:Nat) (aa:Sl) (H:Hp):OA:=(bif (aa.a.isNone) then (some ((.sl (⟨none,0,.ex 0⟩:Sl)),H)) else ((Hp.new H []).bind λH2=>(Sl.row H2 aa 1).bind λxs4=>(Hp.app H2 1 8 (⟨some (H.length,0),0,.ex 0⟩:Sl) aa.n xs4).bind λa3=>some ((.sl a3.1),a3.2)))
def iZ.tw (F:Nat) (aa:Sl) (H:Hp):OA:=iZ.twX F aa H
def iZ.mk (g:Sl->Hp->OA) (args:List AV) (H:Hp):OA:=match args with
 | [(.sl aa)]=>g aa H
 | _=>none
theorem iZ.eqX (F:Nat) (aa:Sl) (H:Hp):EX (bG []) bw lh0 F Try.f149 [(.sl aa)] H=iZ.twX F aa H:=by kernel_rfl
theorem iZ.k (F:Nat):Ok Try.prog 149 (iZ.mk (iZ.tw F)):=by
 intro args H v H' h
 unfold iZ.mk at h
 split at h
 ·exact okT (TB:=bw) Try.func149 di ai.no ((iZ.eqX F _ H).trans h) (by kernel_rfl)
 ·cases h
def io.twX (F:Nat) (sD:Sl->Hp->OA) (aa:Int) (af:Int) (bz:Sl) (H:Hp):OA:=(Hp.new H [(.int .i64 aa),(.int .i64 af),(.sl bz)]).bind λH4=>(Hp.new H4 [.int .i64 0,.int .i64 0,.sl ⟨none,0,.ex 0⟩]).bind λH5=>(Hp.ldSl H5 H.length 2).bind λs6=>(sD s6 H5).bind λr7=>((r7.1).asSl).bind λs8=>(Hp.st r7.2 H.length 2 (.sl s8)).bind λH9=>(Hp.ldI H9 .i64 H.length 0).bind λn10=>(Hp.ldI H9 .i64 H.length (0+1)).bind λn11=>(Hp.ldSl H9 H.length (0+2)).bind λs12=>(Hp.st H9 H4.length 0 (.int .i64 n10)).bind λH13=>(Hp.st H13 H4.length (0+1) (.int .i64 n11)).bind λH14=>(Hp.st H14 H4.length (0+1+1) (.sl s12)).bind λH15=>(Hp.ldI H15 .i64 H4.length 0).bind λn16=>(Hp.ldI H15 .i64 H4.length (0+1)).bind λn17=>(Hp.ldSl H15 H4.length (0+2)).bind λs18=>some ((.agg [(.int .i64 n16),(.int .i64 n17),(.sl s18)]),H15)
def io.tw (F:Nat) (aa:Int) (af:Int) (bz:Sl) (H:Hp):OA:=io.twX F (iZ.tw F) aa af bz H
def io.mk (g:Int->Int->Sl->Hp->OA) (args:List AV) (H:Hp):OA:=match args with
 | [(.agg [(.int .i64 aa),(.int .i64 af),(.sl bz)])]=>g aa af bz H
 | _=>none
def io.cs (F:Nat) (sD:Sl->Hp->OA):Cs:=[(149,iZ.mk sD)]
theorem io.eqX (F:Nat) (sD:Sl->Hp->OA) (aa:Int) (af:Int) (bz:Sl) (H:Hp):EX (bG (io.cs F sD)) bw lh0 F Try.f132 [(.agg [(.int .i64 aa),(.int .i64 af),(.sl bz)])] H=io.twX F sD aa af bz H:=by kernel_rfl
theorem io.k (F:Nat):Ok Try.prog 132 (io.mk (io.tw F)):=by
 intro args H v H' h
 unfold io.mk at h
 split at h
 ·exact okT (TB:=bw) Try.func132 (bM (iZ.k F) di) ai.no ((io.eqX F (iZ.tw F) _ _ _ H).trans h) (by kernel_rfl)
 ·cases h
def jt.twX (F:Nat) (oF:Int->Hp->OA) (sE:Int->Int->Sl->Hp->OA) (aa:Int) (af:Int) (bz:Sl) (H:Hp):OA:=(Hp.new H [(.int .i64 aa),(.int .i64 af),(.sl bz)]).bind λH4=>(Hp.ldI H4 .i64 H.length 0).bind λn5=>(oF n5 H4).bind λr6=>((r6.1).asAgg 3).bind λl7=>(l7[0]?).bind λv8=>((v8).asI .i64).bind λn9=>(l7[1]?).bind λv10=>((v10).asI .i64).bind λn11=>(l7[2]?).bind λv12=>((v12).asSl).bind λs13=>(if bh H4 r6.2 then ((Hp.ldI r6.2 .i64 H.length 0).bind λn14=>(oF n14 r6.2).bind λr15=>((r15.1).asAgg 3).bind λl16=>(l16[0]?).bind λv17=>((v17).asI .i64).bind λn18=>(l16[1]?).bind λv19=>((v19).asI .i64).bind λn20=>(l16[2]?).bind λv21=>((v21).asSl).bind λs22=>(if bh r6.2 r15.2 then ((Hp.ldI r15.2 .i64 H.length 0).bind λn23=>(Hp.ldI r15.2 .i64 H.length (0+1)).bind λn24=>(Hp.ldSl r15.2 H.length (0+2)).bind λs25=>(sE n23 n24 s25 r15.2).bind λr26=>((r26.1).asAgg 3).bind λl27=>(l27[0]?).bind λv28=>((v28).asI .i64).bind λn29=>(l27[1]?).bind λv30=>((v30).asI .i64).bind λn31=>(l27[2]?).bind λv32=>((v32).asSl).bind λs33=>(if bh r15.2 r26.2 then ((Hp.ldI r26.2 .i64 H.length 1).bind λn34=>(oF n34 r26.2).bind λr35=>((r35.1).asAgg 3).bind λl36=>(l36[0]?).bind λv37=>((v37).asI .i64).bind λn38=>(l36[1]?).bind λv39=>((v39).asI .i64).bind λn40=>(l36[2]?).bind λv41=>((v41).asSl).bind λs42=>(if bh r26.2 r35.2 then ((Hp.ldI r35.2 .i64 H.length 1).bind λn43=>(oF n43 r35.2).bind λr44=>((r44.1).asAgg 3).bind λl45=>(l45[0]?).bind λv46=>((v46).asI .i64).bind λn47=>(l45[1]?).bind λv48=>((v48).asI .i64).bind λn49=>(l45[2]?).bind λv50=>((v50).asSl).bind λs51=>(Hp.new r44.2 [(.int .i64 n9),(.int .i64 n11),(.sl s13),(.int .i64 n18),(.int .i64 n20),(.sl s22),(.int .i64 n29),(.int .i64 n31),(.sl s33),(.int .i64 n38),(.int .i64 n40),(.sl s42),(.int .i64 n47),(.int .i64 n49),(.sl s51),(.bool false)]).bind λH52=>some ((.ptr r44.2.length 0),H52)) else none)) else none)) else none)) else none)
def jt.tw (F:Nat) (aa:Int) (af:Int) (bz:Sl) (H:Hp):OA:=jt.twX F (dn.tw F) (io.tw F) aa af bz H
def jt.pn:Nat->List Nat:=fA [(1,[13])]
def jt.tb:Nat->List (List Nat):=fA [(1,[[],[0],[0,1],[],[3],[0,1,2,3,4],[],[0,1,2,3,4,5,6],[],[8],[0,1,2,3,4,5,6,7,8,9],[],[11],[0,1,2,3,4,5,6,7,8,9,10,11,12],[0,1,2,3,4,5,6,7,8,9,10,11,12,13],[0,1,2,3,4,5,6,7,8,9,10,11,12,13,14],[0,1,2,3,4,5,6,7,8,9,10,11,12,13,14,15],[0,1,2,3,4,5,6,7,8,9,10,11,12,13,14,15,16]])]
def jt.mk (g:Int->Int->Sl->Hp->OA) (args:List AV) (H:Hp):OA:=match args with
 | [(.agg [(.int .i64 aa),(.int .i64 af),(.sl bz)])]=>g aa af bz H
 | _=>none
def jt.cs (F:Nat) (oF:Int->Hp->OA) (sE:Int->Int->Sl->Hp->OA):Cs:=[(110,dn.mk oF),(132,io.mk sE)]
theorem jt.eqX (F:Nat) (oF:Int->Hp->OA) (sE:Int->Int->Sl->Hp->OA) (aa:Int) (af:Int) (bz:Sl) (H:Hp):EX (bG (jt.cs F oF sE)) jt.pn lh0 F Try.f108 [(.agg [(.int .i64 aa),(.int .i64 af),(.sl bz)])] H=jt.twX F oF sE aa af bz H:=by kernel_rfl
theorem jt.k (F:Nat):Ok Try.prog 108 (jt.mk (jt.tw F)):=by
 intro args H v H' h
 unfold jt.mk at h
 split at h
 ·exact okT (TB:=jt.tb) Try.func108 (bM (dn.k F) (bM (io.k F) di)) ai.no ((jt.eqX F (dn.tw F) (io.tw F) _ _ _ H).trans h) (by kernel_rfl)
 ·cases h
def ee.twX (F:Nat) (aa:Int) (H:Hp):OA:=(bif (decide (aa<0)) then (some ((.int .i64 (IntKind.i64.wrap (0 - aa))),H)) else (some ((.int .i64 aa),H)))
def ee.tw (F:Nat) (aa:Int) (H:Hp):OA:=ee.twX F aa H
def ee.mk (g:Int->Hp->OA) (args:List AV) (H:Hp):OA:=match args with
 | [(.int .i64 aa)]=>g aa H
 | _=>none
theorem ee.eqX (F:Nat) (aa:Int) (H:Hp):EX (bG []) bw lh0 F Try.f102 [(.int .i64 aa)] H=ee.twX F aa H:=by kernel_rfl
theorem ee.k (F:Nat):Ok Try.prog 102 (ee.mk (ee.tw F)):=by
 intro args H v H' h
 unfold ee.mk at h
 split at h
 ·exact okT (TB:=bw) Try.func102 di ai.no ((ee.eqX F _ H).trans h) (by kernel_rfl)
 ·cases h
def aS.j5 (F:Nat) (aj:Int->Int->Sl->Int->Int->Hp->OA) (dL:Int->Hp->OA) (sF:Int) (sG:Int) (sH:Bool) (H134:Hp):OA:=some ((.tup [(.int .i64 sF),(.int .i64 sG),(.bool sH)]),H134)
def aS.j7 (F:Nat) (aj:Int->Int->Sl->Int->Int->Hp->OA) (dL:Int->Hp->OA) (C29_:Int->Int->Int->Bool->Nat->Nat->Int->Hp->OA) (sI:Int) (sJ:Int) (sK:Int) (sL:Bool) (vO:Nat) (Il:Nat) (sM:Int) (H205:Hp):OA:=C29_ sI sJ sK sL vO Il (IntKind.i64.wrap (sM+1)) H205
def aS.j8 (F:Nat) (aj:Int->Int->Sl->Int->Int->Hp->OA) (dL:Int->Hp->OA) (C29_:Int->Int->Int->Bool->Nat->Nat->Int->Hp->OA) (sN:Int) (sR:Int) (sS:Int) (sT:Bool) (vP:Nat) (Im:Nat) (sU:Int) (H192:Hp):OA:=aS.j7 F aj dL C29_ sN sR sS sT vP Im sU H192
def aS.j9 (F:Nat) (aj:Int->Int->Sl->Int->Int->Hp->OA) (dL:Int->Hp->OA) (C469_:Int->Int->Int->Bool->Nat->Nat->Int->Int->Hp->OA) (sV:Int) (sW:Int) (sX:Int) (sY:Bool) (vQ:Nat) (In:Nat) (sZ:Int) (s_:Int) (H237:Hp):OA:=C469_ sV sW sX sY vQ In sZ (IntKind.i64.wrap (s_+1)) H237
def aS.l469 (F:Nat) (aj:Int->Int->Sl->Int->Int->Hp->OA) (dL:Int->Hp->OA) (C29_:Int->Int->Int->Bool->Nat->Nat->Int->Hp->OA):Nat->Int->Int->Int->Bool->Nat->Nat->Int->Int->Hp->OA
 | 0,_,_,_,_,_,_,_,_,_=>none
 | ox+1,jQ,ku,kv,kw,ju,kT,iB,iC,H147=>(Hp.ldI H147 .i64 ju (kT+1)).bind λn206=>(bif (decide (iC<n206)) then ((Hp.ldI H147 .i64 ju kT).bind λn207=>(Hp.ldI H147 .i64 ju (kT+1)).bind λn208=>(Hp.ldSl H147 ju (kT+2)).bind λs209=>(aj n207 n208 s209 iB iC H147).bind λr210=>((r210.1).asP).bind λp211=>(Hp.ldI r210.2 .i64 p211.1 p211.2).bind λn212=>(dL n212 r210.2).bind λr213=>((r213.1).asI .i64).bind λn214=>(bif (n214 != 0) then ((bif (!kw) then (aS.l469 F aj dL C29_ ox jQ iB iC true ju kT iB (IntKind.i64.wrap (iC+1)) r213.2) else ((Hp.ldI r213.2 .i64 ju kT).bind λn215=>(Hp.ldI r213.2 .i64 ju (kT+1)).bind λn216=>(Hp.ldSl r213.2 ju (kT+2)).bind λs217=>(aj n215 n216 s217 ku kv r213.2).bind λr218=>((r218.1).asP).bind λp219=>(Hp.ldI r218.2 .i64 p219.1 p219.2).bind λn220=>(dL n220 r218.2).bind λr221=>((r221.1).asI .i64).bind λn222=>(bif (decide (n214<n222)) then (aS.j9 F aj dL (aS.l469 F aj dL C29_ ox) jQ iB iC true ju kT iB iC r221.2) else (aS.j9 F aj dL (aS.l469 F aj dL C29_ ox) jQ ku kv kw ju kT iB iC r221.2))))) else (aS.l469 F aj dL C29_ ox jQ ku kv kw ju kT iB (IntKind.i64.wrap (iC+1)) r213.2))) else (aS.j8 F aj dL C29_ jQ ku kv kw ju kT iB H147))
termination_by structural n=>n
def aS.l29 (F:Nat) (aj:Int->Int->Sl->Int->Int->Hp->OA) (dL:Int->Hp->OA) :Nat->Int->Int->Int->Bool->Nat->Nat->Int->Hp->OA
 | 0,_,_,_,_,_,_,_,_=>none
 | eM+1,dH,fX,gB,lT,mR,oG,lU,H20=>(Hp.ldI H20 .i64 mR oG).bind λn135=>(bif (decide (lU<n135)) then (aS.l469 F aj dL (aS.l29 F aj dL eM) F dH fX gB lT mR oG lU dH H20) else (aS.j5 F aj dL fX gB lT H20))
termination_by structural n=>n
def aS.twX (F:Nat) (aj:Int->Int->Sl->Int->Int->Hp->OA) (dL:Int->Hp->OA) (aa:Nat) (af:Nat) (ag:Int) (H:Hp):OA:=(Hp.ldI H .i64 aa (af+6)).bind λn4=>(Hp.ldI H .i64 aa ((af+6)+1)).bind λn5=>(Hp.ldSl H aa ((af+6)+2)).bind λs6=>(Hp.new H [.int .i64 0,.int .i64 0,.sl ⟨none,0,.ex 0⟩]).bind λH7=>(Hp.st H7 H.length 0 (.int .i64 n4)).bind λH8=>(Hp.st H8 H.length (0+1) (.int .i64 n5)).bind λH9=>(Hp.st H9 H.length (0+1+1) (.sl s6)).bind λH10=>aS.l29 F aj dL F ag 0 0 false H.length 0 ag H10
def aS.tw (F:Nat) (aa:Nat) (af:Nat) (ag:Int) (H:Hp):OA:=aS.twX F (bH.tw F) (ee.tw F) aa af ag H
def aS.lh29 (F:Nat) (aj:Int->Int->Sl->Int->Int->Hp->OA) (dL:Int->Hp->OA) (ks:List Nat) (n:Nat) (tm:Tm) (H:Hp):OA:=match ks,tm 1,tm 4,tm 5,tm 6,tm 7,tm 8 with
 | [],(.int .i64 dH),(.int .i64 fX),(.int .i64 gB),(.bool lT),(.ptr mR oG),(.int .i64 lU)=>aS.l29 F aj dL n dH fX gB lT mR oG lU H
 | _,_,_,_,_,_,_=>none
theorem aS.lh29_inv {F:Nat} {aj:Int->Int->Sl->Int->Int->Hp->OA} {dL:Int->Hp->OA} {ks:List Nat} {n:Nat} {tm:Tm} {H:Hp} {r:AV×Hp} (h:aS.lh29 F aj dL ks n tm H=some r):∃ dH fX gB lT mR oG lU,ks=[]/\eD tm [(1,(.int .i64 dH)),(4,(.int .i64 fX)),(5,(.int .i64 gB)),(6,(.bool lT)),(7,(.ptr mR oG)),(8,(.int .i64 lU))]/\aS.l29 F aj dL n dH fX gB lT mR oG lU H=some r:=by
 unfold aS.lh29 at h
 split at h
 ·exact ⟨_,_,_,_,_,_,_,rfl,⟨‹_›,‹_›,‹_›,‹_›,‹_›,‹_›,trivial⟩,h⟩
 ·cases h
def aS.lh469 (F:Nat) (aj:Int->Int->Sl->Int->Int->Hp->OA) (dL:Int->Hp->OA) (ks:List Nat) (n:Nat) (tm:Tm) (H:Hp):OA:=match ks,tm 1,tm 4,tm 5,tm 6,tm 7,tm 8,tm 9 with
 | [eM],(.int .i64 jQ),(.int .i64 ku),(.int .i64 kv),(.bool kw),(.ptr ju kT),(.int .i64 iB),(.int .i64 iC)=>aS.l469 F aj dL (aS.l29 F aj dL eM) n jQ ku kv kw ju kT iB iC H
 | _,_,_,_,_,_,_,_=>none
theorem aS.lh469_inv {F:Nat} {aj:Int->Int->Sl->Int->Int->Hp->OA} {dL:Int->Hp->OA} {ks:List Nat} {n:Nat} {tm:Tm} {H:Hp} {r:AV×Hp} (h:aS.lh469 F aj dL ks n tm H=some r):∃ eM jQ ku kv kw ju kT iB iC,ks=[eM]/\eD tm [(1,(.int .i64 jQ)),(4,(.int .i64 ku)),(5,(.int .i64 kv)),(6,(.bool kw)),(7,(.ptr ju kT)),(8,(.int .i64 iB)),(9,(.int .i64 iC))]/\aS.l469 F aj dL (aS.l29 F aj dL eM) n jQ ku kv kw ju kT iB iC H=some r:=by
 unfold aS.lh469 at h
 split at h
 ·exact ⟨_,_,_,_,_,_,_,_,_,rfl,⟨‹_›,‹_›,‹_›,‹_›,‹_›,‹_›,‹_›,trivial⟩,h⟩
 ·cases h
def aS.lh (F:Nat) (aj:Int->Int->Sl->Int->Int->Hp->OA) (dL:Int->Hp->OA) (p:Nat) (ks:List Nat) (n:Nat) (tm:Tm) (H:Hp):OA:=bif p.beq 469 then aS.lh469 F aj dL ks n tm H else (bif p.beq 29 then aS.lh29 F aj dL ks n tm H else (none))
def aS.mk (g:Nat->Nat->Int->Hp->OA) (args:List AV) (H:Hp):OA:=match args with
 | [(.ptr aa af),(.int .i64 ag)]=>g aa af ag H
 | _=>none
def aS.cs (F:Nat) (aj:Int->Int->Sl->Int->Int->Hp->OA) (dL:Int->Hp->OA):Cs:=[(95,bH.mk aj),(102,ee.mk dL)]
theorem aS.loops (F:Nat) (aj:Int->Int->Sl->Int->Int->Hp->OA) (dL:Int->Hp->OA):LO (bG (aS.cs F aj dL)) bw (aS.lh F aj dL) F Try.f150:=
 (ai.rt (ai.rt (ai.lt (ai.rt (ai.block (ai.loop (λtm H=>eG λr h=>by obtain ⟨dH,fX,gB,lT,mR,oG,lU,hks,e,h⟩:=aS.lh29_inv (show aS.lh29 F aj dL [] 0 tm H=some r from h);cases h) (λk29 tm H r h=>by obtain ⟨dH,fX,gB,lT,mR,oG,lU,hks,e,h⟩:=aS.lh29_inv (show aS.lh29 F aj dL [] (k29+1) tm H=some r from h);rw [<- eE e];exact Eq.trans (by kernel_rfl) h) λk29=>(ai.rt (ai.lt (ai.block (ai.rt (ai.block (ai.loop (λtm H=>eG λr h=>by obtain ⟨eM,jQ,ku,kv,kw,ju,kT,iB,iC,hks,e,h⟩:=aS.lh469_inv (show aS.lh469 F aj dL [k29] 0 tm H=some r from h);cases h) (λk469 tm H r h=>by obtain ⟨eM,jQ,ku,kv,kw,ju,kT,iB,iC,hks,e,h⟩:=aS.lh469_inv (show aS.lh469 F aj dL [k29] (k469+1) tm H=some r from h);cases hks;rw [<- eE e];exact Eq.trans (by kernel_rfl) h) λk469=>ai.no))))))))))))
theorem aS.eqX (F:Nat) (aj:Int->Int->Sl->Int->Int->Hp->OA) (dL:Int->Hp->OA) (aa:Nat) (af:Nat) (ag:Int) (H:Hp):EX (bG (aS.cs F aj dL)) bw (aS.lh F aj dL) F Try.f150 [(.ptr aa af),(.int .i64 ag)] H=aS.twX F aj dL aa af ag H:=by kernel_rfl
theorem aS.k (F:Nat):Ok Try.prog 150 (aS.mk (aS.tw F)):=by
 intro args H v H' h
 unfold aS.mk at h
 split at h
 ·exact okT (TB:=bw) Try.func150 (bM (bH.k F) (bM (ee.k F) di)) (aS.loops F (bH.tw F) (ee.tw F)) ((aS.eqX F (bH.tw F) (ee.tw F) _ _ _ H).trans h) (by kernel_rfl)
 ·cases h
def cU.l7 (F:Nat) (aj:Int->Int->Sl->Int->Int->Hp->OA) :Nat->Int->Int->Nat->Nat->Int->Int->Hp->OA
 | 0,_,_,_,_,_,_,_=>none
 | mc+1,gH,gI,cY,ip,gJ,fC,H17=>(bif (decide (fC<gJ)) then ((Hp.ldI H17 .i64 cY ip).bind λn32=>(Hp.ldI H17 .i64 cY (ip+1)).bind λn33=>(Hp.ldSl H17 cY (ip+2)).bind λs34=>(aj n32 n33 s34 gH fC H17).bind λr35=>((r35.1).asP).bind λp36=>(if bh H17 r35.2 then ((Hp.ldI r35.2 .i64 cY ip).bind λn37=>(Hp.ldI r35.2 .i64 cY (ip+1)).bind λn38=>(Hp.ldSl r35.2 cY (ip+2)).bind λs39=>(aj n37 n38 s39 gI fC r35.2).bind λr40=>((r40.1).asP).bind λp41=>(Hp.ldI r40.2 .i64 p41.1 p41.2).bind λn42=>(Hp.ldI r40.2 .i64 p36.1 p36.2).bind λn43=>(Hp.st r40.2 p36.1 p36.2 (.int .i64 n42)).bind λH44=>(Hp.st H44 p41.1 p41.2 (.int .i64 n43)).bind λH45=>cU.l7 F aj mc gH gI cY ip gJ (IntKind.i64.wrap (fC+1)) H45) else none)) else (some ((.tup []),H17)))
termination_by structural n=>n
def cU.twX (F:Nat) (aj:Int->Int->Sl->Int->Int->Hp->OA) (aa:Int) (af:Int) (bz:Sl) (aw:Int) (bN:Int) (H:Hp):OA:=(Hp.new H [(.int .i64 aa),(.int .i64 af),(.sl bz)]).bind λH6=>(Hp.ldI H6 .i64 H.length 1).bind λn7=>cU.l7 F aj F aw bN H.length 0 n7 0 H6
def cU.tw (F:Nat) (aa:Int) (af:Int) (bz:Sl) (aw:Int) (bN:Int) (H:Hp):OA:=cU.twX F (bH.tw F) aa af bz aw bN H
def cU.lh7 (F:Nat) (aj:Int->Int->Sl->Int->Int->Hp->OA) (ks:List Nat) (n:Nat) (tm:Tm) (H:Hp):OA:=match ks,tm 1,tm 2,tm 3,tm 10,tm 11 with
 | [],(.int .i64 gH),(.int .i64 gI),(.ptr cY ip),(.int .i64 gJ),(.int .i64 fC)=>cU.l7 F aj n gH gI cY ip gJ fC H
 | _,_,_,_,_,_=>none
theorem cU.lh7_inv {F:Nat} {aj:Int->Int->Sl->Int->Int->Hp->OA} {ks:List Nat} {n:Nat} {tm:Tm} {H:Hp} {r:AV×Hp} (h:cU.lh7 F aj ks n tm H=some r):∃ gH gI cY ip gJ fC,ks=[]/\eD tm [(1,(.int .i64 gH)),(2,(.int .i64 gI)),(3,(.ptr cY ip)),(10,(.int .i64 gJ)),(11,(.int .i64 fC))]/\cU.l7 F aj n gH gI cY ip gJ fC H=some r:=by
 unfold cU.lh7 at h
 split at h
 ·exact ⟨_,_,_,_,_,_,rfl,⟨‹_›,‹_›,‹_›,‹_›,‹_›,trivial⟩,h⟩
 ·cases h
def cU.lh (F:Nat) (aj:Int->Int->Sl->Int->Int->Hp->OA) (p:Nat) (ks:List Nat) (n:Nat) (tm:Tm) (H:Hp):OA:=bif p.beq 7 then cU.lh7 F aj ks n tm H else (none)
def cU.pn:Nat->List Nat:=fA [(4,[7]),(5,[9,11])]
def cU.tb:Nat->List (List Nat):=fA [(4,[[],[],[],[0,1,2],[],[],[],[0,1,2,3,4,5,6],[0,1,2,3,4,5,6,7],[0,1,2,3,4,5,6,7,8]]),(5,[[],[],[],[2],[2,3],[],[5],[5,6],[0,2,3,4,5,6,7],[0,2,3,4,5,6,7,8],[0,1,2,3,4,5,6,7,8,9],[0,1,2,3,4,5,6,7,8,9,10]])]
def cU.mk (g:Int->Int->Sl->Int->Int->Hp->OA) (args:List AV) (H:Hp):OA:=match args with
 | [(.agg [(.int .i64 aa),(.int .i64 af),(.sl bz)]),(.int .i64 aw),(.int .i64 bN)]=>g aa af bz aw bN H
 | _=>none
def cU.cs (F:Nat) (aj:Int->Int->Sl->Int->Int->Hp->OA):Cs:=[(95,bH.mk aj)]
theorem cU.loops (F:Nat) (aj:Int->Int->Sl->Int->Int->Hp->OA):LO (bG (cU.cs F aj)) cU.pn (cU.lh F aj) F Try.f151:=
 (ai.rt (ai.rt (ai.block (ai.loop (λtm H=>eG λr h=>by obtain ⟨gH,gI,cY,ip,gJ,fC,hks,e,h⟩:=cU.lh7_inv (show cU.lh7 F aj [] 0 tm H=some r from h);cases h) (λk7 tm H r h=>by obtain ⟨gH,gI,cY,ip,gJ,fC,hks,e,h⟩:=cU.lh7_inv (show cU.lh7 F aj [] (k7+1) tm H=some r from h);rw [<- eE e];exact Eq.trans (by kernel_rfl) h) λk7=>ai.no))))
theorem cU.eqX (F:Nat) (aj:Int->Int->Sl->Int->Int->Hp->OA) (aa:Int) (af:Int) (bz:Sl) (aw:Int) (bN:Int) (H:Hp):EX (bG (cU.cs F aj)) cU.pn (cU.lh F aj) F Try.f151 [(.agg [(.int .i64 aa),(.int .i64 af),(.sl bz)]),(.int .i64 aw),(.int .i64 bN)] H=cU.twX F aj aa af bz aw bN H:=by kernel_rfl
theorem cU.k (F:Nat):Ok Try.prog 151 (cU.mk (cU.tw F)):=by
 intro args H v H' h
 unfold cU.mk at h
 split at h
 ·exact okT (TB:=cU.tb) Try.func151 (bM (bH.k F) di) (cU.loops F (bH.tw F)) ((cU.eqX F (bH.tw F) _ _ _ _ _ H).trans h) (by kernel_rfl)
 ·cases h
def cV.l7 (F:Nat) (aj:Int->Int->Sl->Int->Int->Hp->OA) :Nat->Int->Int->Nat->Nat->Int->Int->Hp->OA
 | 0,_,_,_,_,_,_,_=>none
 | mc+1,gH,gI,cY,ip,gJ,fC,H17=>(bif (decide (fC<gJ)) then ((Hp.ldI H17 .i64 cY ip).bind λn32=>(Hp.ldI H17 .i64 cY (ip+1)).bind λn33=>(Hp.ldSl H17 cY (ip+2)).bind λs34=>(aj n32 n33 s34 fC gH H17).bind λr35=>((r35.1).asP).bind λp36=>(if bh H17 r35.2 then ((Hp.ldI r35.2 .i64 cY ip).bind λn37=>(Hp.ldI r35.2 .i64 cY (ip+1)).bind λn38=>(Hp.ldSl r35.2 cY (ip+2)).bind λs39=>(aj n37 n38 s39 fC gI r35.2).bind λr40=>((r40.1).asP).bind λp41=>(Hp.ldI r40.2 .i64 p41.1 p41.2).bind λn42=>(Hp.ldI r40.2 .i64 p36.1 p36.2).bind λn43=>(Hp.st r40.2 p36.1 p36.2 (.int .i64 n42)).bind λH44=>(Hp.st H44 p41.1 p41.2 (.int .i64 n43)).bind λH45=>cV.l7 F aj mc gH gI cY ip gJ (IntKind.i64.wrap (fC+1)) H45) else none)) else (some ((.tup []),H17)))
termination_by structural n=>n
def cV.twX (F:Nat) (aj:Int->Int->Sl->Int->Int->Hp->OA) (aa:Int) (af:Int) (bz:Sl) (aw:Int) (bN:Int) (H:Hp):OA:=(Hp.new H [(.int .i64 aa),(.int .i64 af),(.sl bz)]).bind λH6=>(Hp.ldI H6 .i64 H.length 0).bind λn7=>cV.l7 F aj F aw bN H.length 0 n7 0 H6
def cV.tw (F:Nat) (aa:Int) (af:Int) (bz:Sl) (aw:Int) (bN:Int) (H:Hp):OA:=cV.twX F (bH.tw F) aa af bz aw bN H
def cV.lh7 (F:Nat) (aj:Int->Int->Sl->Int->Int->Hp->OA) (ks:List Nat) (n:Nat) (tm:Tm) (H:Hp):OA:=match ks,tm 1,tm 2,tm 3,tm 10,tm 11 with
 | [],(.int .i64 gH),(.int .i64 gI),(.ptr cY ip),(.int .i64 gJ),(.int .i64 fC)=>cV.l7 F aj n gH gI cY ip gJ fC H
 | _,_,_,_,_,_=>none
theorem cV.lh7_inv {F:Nat} {aj:Int->Int->Sl->Int->Int->Hp->OA} {ks:List Nat} {n:Nat} {tm:Tm} {H:Hp} {r:AV×Hp} (h:cV.lh7 F aj ks n tm H=some r):∃ gH gI cY ip gJ fC,ks=[]/\eD tm [(1,(.int .i64 gH)),(2,(.int .i64 gI)),(3,(.ptr cY ip)),(10,(.int .i64 gJ)),(11,(.int .i64 fC))]/\cV.l7 F aj n gH gI cY ip gJ fC H=some r:=by
 unfold cV.lh7 at h
 split at h
 ·exact ⟨_,_,_,_,_,_,rfl,⟨‹_›,‹_›,‹_›,‹_›,‹_›,trivial⟩,h⟩
 ·cases h
def cV.lh (F:Nat) (aj:Int->Int->Sl->Int->Int->Hp->OA) (p:Nat) (ks:List Nat) (n:Nat) (tm:Tm) (H:Hp):OA:=bif p.beq 7 then cV.lh7 F aj ks n tm H else (none)
def cV.pn:Nat->List Nat:=fA [(4,[7]),(5,[9,11])]
def cV.tb:Nat->List (List Nat):=fA [(4,[[],[],[],[0,1,2],[],[],[],[0,1,2,3,4,5,6],[0,1,2,3,4,5,6,7],[0,1,2,3,4,5,6,7,8]]),(5,[[],[],[],[2],[2,3],[],[5],[5,6],[0,2,3,4,5,6,7],[0,2,3,4,5,6,7,8],[0,1,2,3,4,5,6,7,8,9],[0,1,2,3,4,5,6,7,8,9,10]])]
def cV.mk (g:Int->Int->Sl->Int->Int->Hp->OA) (args:List AV) (H:Hp):OA:=match args with
 | [(.agg [(.int .i64 aa),(.int .i64 af),(.sl bz)]),(.int .i64 aw),(.int .i64 bN)]=>g aa af bz aw bN H
 | _=>none
def cV.cs (F:Nat) (aj:Int->Int->Sl->Int->Int->Hp->OA):Cs:=[(95,bH.mk aj)]
theorem cV.loops (F:Nat) (aj:Int->Int->Sl->Int->Int->Hp->OA):LO (bG (cV.cs F aj)) cV.pn (cV.lh F aj) F Try.f152:=
 (ai.rt (ai.rt (ai.block (ai.loop (λtm H=>eG λr h=>by obtain ⟨gH,gI,cY,ip,gJ,fC,hks,e,h⟩:=cV.lh7_inv (show cV.lh7 F aj [] 0 tm H=some r from h);cases h) (λk7 tm H r h=>by obtain ⟨gH,gI,cY,ip,gJ,fC,hks,e,h⟩:=cV.lh7_inv (show cV.lh7 F aj [] (k7+1) tm H=some r from h);rw [<- eE e];exact Eq.trans (by kernel_rfl) h) λk7=>ai.no))))
theorem cV.eqX (F:Nat) (aj:Int->Int->Sl->Int->Int->Hp->OA) (aa:Int) (af:Int) (bz:Sl) (aw:Int) (bN:Int) (H:Hp):EX (bG (cV.cs F aj)) cV.pn (cV.lh F aj) F Try.f152 [(.agg [(.int .i64 aa),(.int .i64 af),(.sl bz)]),(.int .i64 aw),(.int .i64 bN)] H=cV.twX F aj aa af bz aw bN H:=by kernel_rfl
theorem cV.k (F:Nat):Ok Try.prog 152 (cV.mk (cV.tw F)):=by
 intro args H v H' h
 unfold cV.mk at h
 split at h
 ·exact okT (TB:=cV.tb) Try.func152 (bM (bH.k F) di) (cV.loops F (bH.tw F)) ((cV.eqX F (bH.tw F) _ _ _ _ _ H).trans h) (by kernel_rfl)
 ·cases h
def eA.twX (F:Nat) (aa:Int) (af:Int) (bz:Sl) (aw:Int) (H:Hp):OA:=(Hp.new H [(.int .i64 aa),(.int .i64 af),(.sl bz)]).bind λH5=>(Hp.ldSl H5 H.length 2).bind λs6=>(Hp.ldI H5 .i64 H.length 1).bind λn7=>(Hp.ldI H5 .i64 H.length 1).bind λn8=>(Sl.cut s6 1 (IntKind.i64.wrap (aw * n7)) (IntKind.i64.wrap ((IntKind.i64.wrap (aw+1)) * n8))).bind λs9=>some ((.sl s9),H5)
def eA.tw (F:Nat) (aa:Int) (af:Int) (bz:Sl) (aw:Int) (H:Hp):OA:=eA.twX F aa af bz aw H
def eA.mk (g:Int->Int->Sl->Int->Hp->OA) (args:List AV) (H:Hp):OA:=match args with
 | [(.agg [(.int .i64 aa),(.int .i64 af),(.sl bz)]),(.int .i64 aw)]=>g aa af bz aw H
 | _=>none
theorem eA.eqX (F:Nat) (aa:Int) (af:Int) (bz:Sl) (aw:Int) (H:Hp):EX (bG []) bw lh0 F Try.f120 [(.agg [(.int .i64 aa),(.int .i64 af),(.sl bz)]),(.int .i64 aw)] H=eA.twX F aa af bz aw H:=by kernel_rfl
theorem eA.k (F:Nat):Ok Try.prog 120 (eA.mk (eA.tw F)):=by
 intro args H v H' h
 unfold eA.mk at h
 split at h
 ·exact okT (TB:=bw) Try.func120 di ai.no ((eA.eqX F _ _ _ _ H).trans h) (by kernel_rfl)
 ·cases h
def bs.l32747 (F:Nat) (ev:Nat->Nat->Int->Hp->OA) (ef:Int->Int->Sl->Int->Int->Hp->OA) (eg:Int->Int->Sl->Int->Int->Hp->OA) (aj:Int->Int->Sl->Int->Int->Hp->OA) (bR:Int->Int->Sl->Int->Hp->OA) :Nat->Nat->Nat->Int->Int->Int->Hp->OA
 | 0,_,_,_,_,_,_=>none
 | Io+1,mE,mF,lq,lV,kx,H159=>(bif (decide (kx<lV)) then ((Hp.ldI H159 .i64 mE (mF+3)).bind λn172=>(Hp.ldI H159 .i64 mE ((mF+3)+1)).bind λn173=>(Hp.ldSl H159 mE ((mF+3)+2)).bind λs174=>(aj n172 n173 s174 kx lq H159).bind λr175=>((r175.1).asP).bind λp176=>(if bh H159 r175.2 then ((Hp.ldI r175.2 .i64 mE (mF+3)).bind λn177=>(Hp.ldI r175.2 .i64 mE ((mF+3)+1)).bind λn178=>(Hp.ldSl r175.2 mE ((mF+3)+2)).bind λs179=>(aj n177 n178 s179 kx lq r175.2).bind λr180=>((r180.1).asP).bind λp181=>(Hp.ldI r180.2 .i64 p181.1 p181.2).bind λn182=>(Hp.st r180.2 p176.1 p176.2 (.int .i64 (IntKind.i64.wrap (0 - n182)))).bind λH183=>bs.l32747 F ev ef eg aj bR Io mE mF lq lV (IntKind.i64.wrap (kx+1)) H183) else none)) else (some ((.bool true),H159)))
termination_by structural n=>n
def bs.j3 (F:Nat) (ev:Nat->Nat->Int->Hp->OA) (ef:Int->Int->Sl->Int->Int->Hp->OA) (eg:Int->Int->Sl->Int->Int->Hp->OA) (aj:Int->Int->Sl->Int->Int->Hp->OA) (bR:Int->Int->Sl->Int->Hp->OA) (CA:Nat) (CB:Nat) (ta:Int) (H142:Hp):OA:=(Hp.ldI H142 .i64 CA (CB+3)).bind λn143=>bs.l32747 F ev ef eg aj bR F CA CB ta n143 0 H142
def bs.j4 (F:Nat) (ev:Nat->Nat->Int->Hp->OA) (ef:Int->Int->Sl->Int->Int->Hp->OA) (eg:Int->Int->Sl->Int->Int->Hp->OA) (aj:Int->Int->Sl->Int->Int->Hp->OA) (bR:Int->Int->Sl->Int->Hp->OA) (C32745_:Nat->Nat->Int->Sl->Int->Int->Hp->OA) (Ip:Nat) (Iq:Nat) (Ir:Int) (Is:Sl) (It:Int) (Iu:Int) (H242:Hp):OA:=C32745_ Ip Iq Ir Is It (IntKind.i64.wrap (Iu+1)) H242
def bs.j5 (F:Nat) (ev:Nat->Nat->Int->Hp->OA) (ef:Int->Int->Sl->Int->Int->Hp->OA) (eg:Int->Int->Sl->Int->Int->Hp->OA) (aj:Int->Int->Sl->Int->Int->Hp->OA) (bR:Int->Int->Sl->Int->Hp->OA) (C32745_:Nat->Nat->Int->Sl->Int->Int->Hp->OA) (Iv:Nat) (Iw:Nat) (Ix:Int) (Iy:Sl) (Iz:Int) (IA:Int) (H224:Hp):OA:=bs.j4 F ev ef eg aj bR C32745_ Iv Iw Ix Iy Iz IA H224
def bs.l2095707 (F:Nat) (ev:Nat->Nat->Int->Hp->OA) (ef:Int->Int->Sl->Int->Int->Hp->OA) (eg:Int->Int->Sl->Int->Int->Hp->OA) (aj:Int->Int->Sl->Int->Int->Hp->OA) (bR:Int->Int->Sl->Int->Hp->OA) (C32745_:Nat->Nat->Int->Sl->Int->Int->Hp->OA):Nat->Nat->Nat->Int->Sl->Int->Int->Sl->Int->Int->Hp->OA
 | 0,_,_,_,_,_,_,_,_,_,_=>none
 | IB+1,oH,oI,oJ,oK,oL,oM,oa,oN,nz,H202=>(bif (decide (nz<oN)) then ((Sl.idx oa nz 1).bind λp243=>(Hp.ldI H202 .i64 p243.1 p243.2).bind λn244=>(Sl.idx oa nz 1).bind λp245=>(Hp.st H202 p245.1 p245.2 (.int .i64 (IntKind.i64.wrap (0 - n244)))).bind λH246=>bs.l2095707 F ev ef eg aj bR C32745_ IB oH oI oJ oK oL oM oa oN (IntKind.i64.wrap (nz+1)) H246) else (bs.j5 F ev ef eg aj bR C32745_ oH oI oJ oK oL oM H202))
termination_by structural n=>n
def bs.l32745 (F:Nat) (ev:Nat->Nat->Int->Hp->OA) (ef:Int->Int->Sl->Int->Int->Hp->OA) (eg:Int->Int->Sl->Int->Int->Hp->OA) (aj:Int->Int->Sl->Int->Int->Hp->OA) (bR:Int->Int->Sl->Int->Hp->OA) :Nat->Nat->Nat->Int->Sl->Int->Int->Hp->OA
 | 0,_,_,_,_,_,_,_=>none
 | pB+1,j_,ka,gC,oO,oP,ob,H65=>(bif (decide (ob<oP)) then ((Sl.idx oO ob 1).bind λp184=>(Hp.ldSl H65 p184.1 p184.2).bind λs185=>bs.l2095707 F ev ef eg aj bR (bs.l32745 F ev ef eg aj bR pB) F j_ ka gC oO oP ob s185 (s185.n:Int) 0 H65) else (bs.j3 F ev ef eg aj bR j_ ka gC H65))
termination_by structural n=>n
def bs.twX (F:Nat) (ev:Nat->Nat->Int->Hp->OA) (ef:Int->Int->Sl->Int->Int->Hp->OA) (eg:Int->Int->Sl->Int->Int->Hp->OA) (aj:Int->Int->Sl->Int->Int->Hp->OA) (bR:Int->Int->Sl->Int->Hp->OA) (aa:Nat) (af:Nat) (ag:Int) (H:Hp):OA:=(ev aa af ag H).bind λr4=>((r4.1).asTup 3).bind λl5=>(l5[0]?).bind λv6=>((v6).asI .i64).bind λn7=>(l5[1]?).bind λv8=>((v8).asI .i64).bind λn9=>(l5[2]?).bind λv10=>((v10).asB).bind λb11=>(bif (!b11) then (some ((.bool false),r4.2)) else ((Hp.ldI r4.2 .i64 aa (af+6)).bind λn12=>(Hp.ldI r4.2 .i64 aa ((af+6)+1)).bind λn13=>(Hp.ldSl r4.2 aa ((af+6)+2)).bind λs14=>(ef n12 n13 s14 n7 ag r4.2).bind λr15=>(Hp.ldI r15.2 .i64 aa af).bind λn16=>(Hp.ldI r15.2 .i64 aa (af+1)).bind λn17=>(Hp.ldSl r15.2 aa (af+2)).bind λs18=>(ef n16 n17 s18 n7 ag r15.2).bind λr19=>(Hp.ldI r19.2 .i64 aa (af+3)).bind λn20=>(Hp.ldI r19.2 .i64 aa ((af+3)+1)).bind λn21=>(Hp.ldSl r19.2 aa ((af+3)+2)).bind λs22=>(eg n20 n21 s22 n7 ag r19.2).bind λr23=>(Hp.ldI r23.2 .i64 aa (af+6)).bind λn24=>(Hp.ldI r23.2 .i64 aa ((af+6)+1)).bind λn25=>(Hp.ldSl r23.2 aa ((af+6)+2)).bind λs26=>(eg n24 n25 s26 n9 ag r23.2).bind λr27=>(Hp.ldI r27.2 .i64 aa (af+9)).bind λn28=>(Hp.ldI r27.2 .i64 aa ((af+9)+1)).bind λn29=>(Hp.ldSl r27.2 aa ((af+9)+2)).bind λs30=>(eg n28 n29 s30 n9 ag r27.2).bind λr31=>(Hp.ldI r31.2 .i64 aa (af+12)).bind λn32=>(Hp.ldI r31.2 .i64 aa ((af+12)+1)).bind λn33=>(Hp.ldSl r31.2 aa ((af+12)+2)).bind λs34=>(ef n32 n33 s34 n9 ag r31.2).bind λr35=>(Hp.ldI r35.2 .i64 aa (af+6)).bind λn36=>(Hp.ldI r35.2 .i64 aa ((af+6)+1)).bind λn37=>(Hp.ldSl r35.2 aa ((af+6)+2)).bind λs38=>(aj n36 n37 s38 ag ag r35.2).bind λr39=>((r39.1).asP).bind λp40=>(Hp.ldI r39.2 .i64 p40.1 p40.2).bind λn41=>(bif (decide (n41<0)) then ((Hp.ldI r39.2 .i64 aa (af+6)).bind λn42=>(Hp.ldI r39.2 .i64 aa ((af+6)+1)).bind λn43=>(Hp.ldSl r39.2 aa ((af+6)+2)).bind λs44=>(bR n42 n43 s44 ag r39.2).bind λr45=>((r45.1).asSl).bind λs46=>(if bh r39.2 r45.2 then ((Hp.ldI r45.2 .i64 aa af).bind λn47=>(Hp.ldI r45.2 .i64 aa (af+1)).bind λn48=>(Hp.ldSl r45.2 aa (af+2)).bind λs49=>(bR n47 n48 s49 ag r45.2).bind λr50=>((r50.1).asSl).bind λs51=>(Hp.new r50.2 [(.sl s46),(.sl s51)]).bind λH52=>bs.l32745 F ev ef eg aj bR F aa af ag (⟨some (r50.2.length,0),2,.ex 2⟩:Sl) ((⟨some (r50.2.length,0),2,.ex 2⟩:Sl).n:Int) 0 H52) else none)) else (some ((.bool true),r39.2)))))
def bs.tw (F:Nat) (aa:Nat) (af:Nat) (ag:Int) (H:Hp):OA:=bs.twX F (aS.tw F) (cU.tw F) (cV.tw F) (bH.tw F) (eA.tw F) aa af ag H
def bs.lh32745 (F:Nat) (ev:Nat->Nat->Int->Hp->OA) (ef:Int->Int->Sl->Int->Int->Hp->OA) (eg:Int->Int->Sl->Int->Int->Hp->OA) (aj:Int->Int->Sl->Int->Int->Hp->OA) (bR:Int->Int->Sl->Int->Hp->OA) (ks:List Nat) (n:Nat) (tm:Tm) (H:Hp):OA:=match ks,tm 0,tm 1,tm 94,tm 95,tm 96 with
 | [],(.ptr j_ ka),(.int .i64 gC),(.sl oO),(.int .i64 oP),(.int .i64 ob)=>bs.l32745 F ev ef eg aj bR n j_ ka gC oO oP ob H
 | _,_,_,_,_,_=>none
theorem bs.lh32745_inv {F:Nat} {ev:Nat->Nat->Int->Hp->OA} {ef:Int->Int->Sl->Int->Int->Hp->OA} {eg:Int->Int->Sl->Int->Int->Hp->OA} {aj:Int->Int->Sl->Int->Int->Hp->OA} {bR:Int->Int->Sl->Int->Hp->OA} {ks:List Nat} {n:Nat} {tm:Tm} {H:Hp} {r:AV×Hp} (h:bs.lh32745 F ev ef eg aj bR ks n tm H=some r):∃ j_ ka gC oO oP ob,ks=[]/\eD tm [(0,(.ptr j_ ka)),(1,(.int .i64 gC)),(94,(.sl oO)),(95,(.int .i64 oP)),(96,(.int .i64 ob))]/\bs.l32745 F ev ef eg aj bR n j_ ka gC oO oP ob H=some r:=by
 unfold bs.lh32745 at h
 split at h
 ·exact ⟨_,_,_,_,_,_,rfl,⟨‹_›,‹_›,‹_›,‹_›,‹_›,trivial⟩,h⟩
 ·cases h
def bs.lh32747 (F:Nat) (ev:Nat->Nat->Int->Hp->OA) (ef:Int->Int->Sl->Int->Int->Hp->OA) (eg:Int->Int->Sl->Int->Int->Hp->OA) (aj:Int->Int->Sl->Int->Int->Hp->OA) (bR:Int->Int->Sl->Int->Hp->OA) (ks:List Nat) (n:Nat) (tm:Tm) (H:Hp):OA:=match ks,tm 0,tm 1,tm 120,tm 121 with
 | [],(.ptr mE mF),(.int .i64 lq),(.int .i64 lV),(.int .i64 kx)=>bs.l32747 F ev ef eg aj bR n mE mF lq lV kx H
 | _,_,_,_,_=>none
theorem bs.lh32747_inv {F:Nat} {ev:Nat->Nat->Int->Hp->OA} {ef:Int->Int->Sl->Int->Int->Hp->OA} {eg:Int->Int->Sl->Int->Int->Hp->OA} {aj:Int->Int->Sl->Int->Int->Hp->OA} {bR:Int->Int->Sl->Int->Hp->OA} {ks:List Nat} {n:Nat} {tm:Tm} {H:Hp} {r:AV×Hp} (h:bs.lh32747 F ev ef eg aj bR ks n tm H=some r):∃ mE mF lq lV kx,ks=[]/\eD tm [(0,(.ptr mE mF)),(1,(.int .i64 lq)),(120,(.int .i64 lV)),(121,(.int .i64 kx))]/\bs.l32747 F ev ef eg aj bR n mE mF lq lV kx H=some r:=by
 unfold bs.lh32747 at h
 split at h
 ·exact ⟨_,_,_,_,_,rfl,⟨‹_›,‹_›,‹_›,‹_›,trivial⟩,h⟩
 ·cases h
def bs.lh2095707 (F:Nat) (ev:Nat->Nat->Int->Hp->OA) (ef:Int->Int->Sl->Int->Int->Hp->OA) (eg:Int->Int->Sl->Int->Int->Hp->OA) (aj:Int->Int->Sl->Int->Int->Hp->OA) (bR:Int->Int->Sl->Int->Hp->OA) (ks:List Nat) (n:Nat) (tm:Tm) (H:Hp):OA:=match ks,tm 0,tm 1,tm 9,tm 94,tm 95,tm 96,tm 101,tm 102 with
 | [pB],(.ptr oH oI),(.int .i64 oJ),(.sl oa),(.sl oK),(.int .i64 oL),(.int .i64 oM),(.int .i64 oN),(.int .i64 nz)=>bs.l2095707 F ev ef eg aj bR (bs.l32745 F ev ef eg aj bR pB) n oH oI oJ oK oL oM oa oN nz H
 | _,_,_,_,_,_,_,_,_=>none
theorem bs.lh2095707_inv {F:Nat} {ev:Nat->Nat->Int->Hp->OA} {ef:Int->Int->Sl->Int->Int->Hp->OA} {eg:Int->Int->Sl->Int->Int->Hp->OA} {aj:Int->Int->Sl->Int->Int->Hp->OA} {bR:Int->Int->Sl->Int->Hp->OA} {ks:List Nat} {n:Nat} {tm:Tm} {H:Hp} {r:AV×Hp} (h:bs.lh2095707 F ev ef eg aj bR ks n tm H=some r):∃ pB oH oI oJ oa oK oL oM oN nz,ks=[pB]/\eD tm [(0,(.ptr oH oI)),(1,(.int .i64 oJ)),(9,(.sl oa)),(94,(.sl oK)),(95,(.int .i64 oL)),(96,(.int .i64 oM)),(101,(.int .i64 oN)),(102,(.int .i64 nz))]/\bs.l2095707 F ev ef eg aj bR (bs.l32745 F ev ef eg aj bR pB) n oH oI oJ oK oL oM oa oN nz H=some r:=by
 unfold bs.lh2095707 at h
 split at h
 ·exact ⟨_,_,_,_,_,_,_,_,_,_,rfl,⟨‹_›,‹_›,‹_›,‹_›,‹_›,‹_›,‹_›,‹_›,trivial⟩,h⟩
 ·cases h
def bs.lh (F:Nat) (ev:Nat->Nat->Int->Hp->OA) (ef:Int->Int->Sl->Int->Int->Hp->OA) (eg:Int->Int->Sl->Int->Int->Hp->OA) (aj:Int->Int->Sl->Int->Int->Hp->OA) (bR:Int->Int->Sl->Int->Hp->OA) (p:Nat) (ks:List Nat) (n:Nat) (tm:Tm) (H:Hp):OA:=bif p.beq 2095707 then bs.lh2095707 F ev ef eg aj bR ks n tm H else (bif p.beq 32747 then bs.lh32747 F ev ef eg aj bR ks n tm H else (bif p.beq 32745 then bs.lh32745 F ev ef eg aj bR ks n tm H else (none)))
def bs.pn:Nat->List Nat:=fA [(11,[13]),(23,[15,20])]
def bs.tb:Nat->List (List Nat):=fA [(11,[[],[0],[0,1],[0,1,2],[0,1,2,3],[],[0,1,2,3,4,5],[],[7],[7,8],[7,8,9],[7,8,9,10],[],[0,1,2,3,4,5,6,7,8,9,10,11,12],[0,1,2,3,4,5,6,7,8,9,10,11,12,13],[0,1,2,3,4,5,6,7,8,9,10,11,12,13,14],[]]),(23,[[],[0],[0,1],[0,1,2],[0,1,2,3],[],[],[0,1,2,3,4,5,6],[],[8],[8,9],[8,9,10],[8,9,10,11],[],[],[0,1,2,3,4,5,6,7,8,9,10,11,12,13,14],[0,1,2,3,4,5,6,7,8,9,10,11,12,13,14,15],[0,1,2,3,4,5,6,7,8,9,10,11,12,13,14,15,16],[0,1,2,3,4,5,6,7,8,9,10,11,12,13,14,15,16,17],[0,1,2,3,4,5,6,7,8,9,10,11,12,13,14,15,16,17,18],[0,1,2,3,4,5,6,7,8,9,10,11,12,13,14,15,16,17,18,19]])]
def bs.mk (g:Nat->Nat->Int->Hp->OA) (args:List AV) (H:Hp):OA:=match args with
 | [(.ptr aa af),(.int .i64 ag)]=>g aa af ag H
 | _=>none
def bs.cs (F:Nat) (ev:Nat->Nat->Int->Hp->OA) (ef:Int->Int->Sl->Int->Int->Hp->OA) (eg:Int->Int->Sl->Int->Int->Hp->OA) (aj:Int->Int->Sl->Int->Int->Hp->OA) (bR:Int->Int->Sl->Int->Hp->OA):Cs:=[(150,aS.mk ev),(151,cU.mk ef),(152,cV.mk eg),(95,bH.mk aj),(120,eA.mk bR)]
theorem bs.loops (F:Nat) (ev:Nat->Nat->Int->Hp->OA) (ef:Int->Int->Sl->Int->Int->Hp->OA) (eg:Int->Int->Sl->Int->Int->Hp->OA) (aj:Int->Int->Sl->Int->Int->Hp->OA) (bR:Int->Int->Sl->Int->Hp->OA):LO (bG (bs.cs F ev ef eg aj bR)) bs.pn (bs.lh F ev ef eg aj bR) F Try.f133:=
 (ai.rt (ai.rt (ai.rt (ai.rt (ai.rt (ai.rt (ai.rt (ai.rt (ai.rt (ai.lt (ai.rt (ai.cond (ai.seq (ai.rt (ai.block (ai.loop (λtm H=>eG λr h=>by obtain ⟨j_,ka,gC,oO,oP,ob,hks,e,h⟩:=bs.lh32745_inv (show bs.lh32745 F ev ef eg aj bR [] 0 tm H=some r from h);cases h) (λk32745 tm H r h=>by obtain ⟨j_,ka,gC,oO,oP,ob,hks,e,h⟩:=bs.lh32745_inv (show bs.lh32745 F ev ef eg aj bR [] (k32745+1) tm H=some r from h);rw [<- eE e];exact Eq.trans (by kernel_rfl) h) λk32745=>(ai.rt (ai.rt (ai.lt (ai.block (ai.rt (ai.rt (ai.block (ai.loop (λtm H=>eG λr h=>by obtain ⟨pB,oH,oI,oJ,oa,oK,oL,oM,oN,nz,hks,e,h⟩:=bs.lh2095707_inv (show bs.lh2095707 F ev ef eg aj bR [k32745] 0 tm H=some r from h);cases h) (λk2095707 tm H r h=>by obtain ⟨pB,oH,oI,oJ,oa,oK,oL,oM,oN,nz,hks,e,h⟩:=bs.lh2095707_inv (show bs.lh2095707 F ev ef eg aj bR [k32745] (k2095707+1) tm H=some r from h);cases hks;rw [<- eE e];exact Eq.trans (by kernel_rfl) h) λk2095707=>ai.no))))))))))) (ai.rt (ai.block (ai.loop (λtm H=>eG λr h=>by obtain ⟨mE,mF,lq,lV,kx,hks,e,h⟩:=bs.lh32747_inv (show bs.lh32747 F ev ef eg aj bR [] 0 tm H=some r from h);cases h) (λk32747 tm H r h=>by obtain ⟨mE,mF,lq,lV,kx,hks,e,h⟩:=bs.lh32747_inv (show bs.lh32747 F ev ef eg aj bR [] (k32747+1) tm H=some r from h);rw [<- eE e];exact Eq.trans (by kernel_rfl) h) λk32747=>ai.no)))) ai.no))))))))))))
theorem bs.eqX (F:Nat) (ev:Nat->Nat->Int->Hp->OA) (ef:Int->Int->Sl->Int->Int->Hp->OA) (eg:Int->Int->Sl->Int->Int->Hp->OA) (aj:Int->Int->Sl->Int->Int->Hp->OA) (bR:Int->Int->Sl->Int->Hp->OA) (aa:Nat) (af:Nat) (ag:Int) (H:Hp):EX (bG (bs.cs F ev ef eg aj bR)) bs.pn (bs.lh F ev ef eg aj bR) F Try.f133 [(.ptr aa af),(.int .i64 ag)] H=bs.twX F ev ef eg aj bR aa af ag H:=by kernel_rfl
theorem bs.k (F:Nat):Ok Try.prog 133 (bs.mk (bs.tw F)):=by
 intro args H v H' h
 unfold bs.mk at h
 split at h
 ·exact okT (TB:=bs.tb) Try.func133 (bM (aS.k F) (bM (cU.k F) (bM (cV.k F) (bM (bH.k F) (bM (eA.k F) di))))) (bs.loops F (aS.tw F) (cU.tw F) (cV.tw F) (bH.tw F) (eA.tw F)) ((bs.eqX F (aS.tw F) (cU.tw F) (cV.tw F) (bH.tw F) (eA.tw F) _ _ _ H).trans h) (by kernel_rfl)
 ·cases h
def gu.twX (F:Nat) (aa:Int) (au:Int) (H:Hp):OA:=(if au=0 then none else ((if au=0 then none else ((bif (decide ((Int.tmod aa au)<0)) then (some ((.int .i64 (IntKind.i64.wrap ((IntKind.i64.wrap (Int.tdiv aa au)) - 1))),H)) else (some ((.int .i64 (IntKind.i64.wrap (Int.tdiv aa au))),H)))))))
def gu.tw (F:Nat) (aa:Int) (au:Int) (H:Hp):OA:=gu.twX F aa au H
def gu.mk (g:Int->Int->Hp->OA) (args:List AV) (H:Hp):OA:=match args with
 | [(.int .i64 aa),(.int .i64 au)]=>g aa au H
 | _=>none
theorem gu.eqX (F:Nat) (aa:Int) (au:Int) (H:Hp):EX (bG []) bw lh0 F Try.f153 [(.int .i64 aa),(.int .i64 au)] H=gu.twX F aa au H:=by kernel_rfl
theorem gu.k (F:Nat):Ok Try.prog 153 (gu.mk (gu.tw F)):=by
 intro args H v H' h
 unfold gu.mk at h
 split at h
 ·exact okT (TB:=bw) Try.func153 di ai.no ((gu.eqX F _ _ H).trans h) (by kernel_rfl)
 ·cases h
def gD.twX (F:Nat) (dL:Int->Hp->OA) (aa:Int) (au:Int) (dA:Int) (H:Hp):OA:=(bif (aa != 0) then ((dL au H).bind λr4=>((r4.1).asI .i64).bind λn5=>(dL aa r4.2).bind λr6=>((r6.1).asI .i64).bind λn7=>(if n7=0 then none else ((bif (decide (n5>(IntKind.i64.wrap (Int.tdiv dA n7)))) then (some ((.tup [(.int .i64 0),(.bool false)]),r6.2)) else (some ((.tup [(.int .i64 (IntKind.i64.wrap (aa * au))),(.bool true)]),r6.2)))))) else (some ((.tup [(.int .i64 (IntKind.i64.wrap (aa * au))),(.bool true)]),H)))
def gD.tw (F:Nat) (aa:Int) (au:Int) (dA:Int) (H:Hp):OA:=gD.twX F (ee.tw F) aa au dA H
def gD.mk (g:Int->Int->Int->Hp->OA) (args:List AV) (H:Hp):OA:=match args with
 | [(.int .i64 aa),(.int .i64 au),(.int .i64 dA)]=>g aa au dA H
 | _=>none
def gD.cs (F:Nat) (dL:Int->Hp->OA):Cs:=[(102,ee.mk dL)]
theorem gD.eqX (F:Nat) (dL:Int->Hp->OA) (aa:Int) (au:Int) (dA:Int) (H:Hp):EX (bG (gD.cs F dL)) bw lh0 F Try.f138 [(.int .i64 aa),(.int .i64 au),(.int .i64 dA)] H=gD.twX F dL aa au dA H:=by kernel_rfl
theorem gD.k (F:Nat):Ok Try.prog 138 (gD.mk (gD.tw F)):=by
 intro args H v H' h
 unfold gD.mk at h
 split at h
 ·exact okT (TB:=bw) Try.func138 (bM (ee.k F) di) ai.no ((gD.eqX F (ee.tw F) _ _ _ H).trans h) (by kernel_rfl)
 ·cases h
def gi.twX (F:Nat) (tc:Int->Int->Int->Hp->OA) (dL:Int->Hp->OA) (aa:Nat) (af:Nat) (ag:Nat) (aw:Nat) (bN:Int) (lW:Int) (H:Hp):OA:=(tc bN lW 2000000000000 H).bind λr7=>((r7.1).asTup 2).bind λl8=>(l8[0]?).bind λv9=>((v9).asI .i64).bind λn10=>(l8[1]?).bind λv11=>((v11).asB).bind λb12=>(Hp.ldI r7.2 .i64 ag aw).bind λn13=>(Hp.st r7.2 ag aw (.int .i64 (IntKind.i64.wrap (n13+n10)))).bind λH14=>(bif (!b12) then ((Hp.st H14 aa (af+15) (.bool true)).bind λH15=>(Hp.st H15 ag aw (.int .i64 0)).bind λH16=>some ((.tup []),H16)) else ((Hp.ldI H14 .i64 ag aw).bind λn17=>(dL n17 H14).bind λr18=>((r18.1).asI .i64).bind λn19=>(bif (decide (n19>1000000000000)) then ((Hp.st r18.2 aa (af+15) (.bool true)).bind λH20=>(Hp.st H20 ag aw (.int .i64 0)).bind λH21=>some ((.tup []),H21)) else (some ((.tup []),r18.2)))))
def gi.tw (F:Nat) (aa:Nat) (af:Nat) (ag:Nat) (aw:Nat) (bN:Int) (lW:Int) (H:Hp):OA:=gi.twX F (gD.tw F) (ee.tw F) aa af ag aw bN lW H
def gi.mk (g:Nat->Nat->Nat->Nat->Int->Int->Hp->OA) (args:List AV) (H:Hp):OA:=match args with
 | [(.ptr aa af),(.ptr ag aw),(.int .i64 bN),(.int .i64 lW)]=>g aa af ag aw bN lW H
 | _=>none
def gi.cs (F:Nat) (tc:Int->Int->Int->Hp->OA) (dL:Int->Hp->OA):Cs:=[(138,gD.mk tc),(102,ee.mk dL)]
theorem gi.eqX (F:Nat) (tc:Int->Int->Int->Hp->OA) (dL:Int->Hp->OA) (aa:Nat) (af:Nat) (ag:Nat) (aw:Nat) (bN:Int) (lW:Int) (H:Hp):EX (bG (gi.cs F tc dL)) bw lh0 F Try.f163 [(.ptr aa af),(.ptr ag aw),(.int .i64 bN),(.int .i64 lW)] H=gi.twX F tc dL aa af ag aw bN lW H:=by kernel_rfl
theorem gi.k (F:Nat):Ok Try.prog 163 (gi.mk (gi.tw F)):=by
 intro args H v H' h
 unfold gi.mk at h
 split at h
 ·exact okT (TB:=bw) Try.func163 (bM (gD.k F) (bM (ee.k F) di)) ai.no ((gi.eqX F (gD.tw F) (ee.tw F) _ _ _ _ _ _ H).trans h) (by kernel_rfl)
 ·cases h
def cM.l7 (F:Nat) (aj:Int->Int->Sl->Int->Int->Hp->OA) (fh:Nat->Nat->Nat->Nat->Int->Int->Hp->OA) :Nat->Nat->Nat->Int->Int->Int->Nat->Nat->Int->Int->Hp->OA
 | 0,_,_,_,_,_,_,_,_,_,_=>none
 | mc+1,ed,gK,dj,eJ,eb,dk,iq,gj,fi,H23=>(bif (decide (fi<gj)) then ((Hp.ldI H23 .i64 dk iq).bind λn36=>(Hp.ldI H23 .i64 dk (iq+1)).bind λn37=>(Hp.ldSl H23 dk (iq+2)).bind λs38=>(aj n36 n37 s38 dj fi H23).bind λr39=>((r39.1).asP).bind λp40=>(if bh H23 r39.2 then ((Hp.ldI r39.2 .i64 dk iq).bind λn41=>(Hp.ldI r39.2 .i64 dk (iq+1)).bind λn42=>(Hp.ldSl r39.2 dk (iq+2)).bind λs43=>(aj n41 n42 s43 eJ fi r39.2).bind λr44=>((r44.1).asP).bind λp45=>(Hp.ldI r44.2 .i64 p45.1 p45.2).bind λn46=>(fh ed gK p40.1 p40.2 n46 eb r44.2).bind λr47=>cM.l7 F aj fh mc ed gK dj eJ eb dk iq gj (IntKind.i64.wrap (fi+1)) r47.2) else none)) else (some ((.tup []),H23)))
termination_by structural n=>n
def cM.twX (F:Nat) (aj:Int->Int->Sl->Int->Int->Hp->OA) (fh:Nat->Nat->Nat->Nat->Int->Int->Hp->OA) (aa:Nat) (af:Nat) (ag:Int) (aw:Int) (du:Sl) (dC:Int) (dD:Int) (dw:Int) (H:Hp):OA:=(Hp.new H [(.int .i64 ag),(.int .i64 aw),(.sl du)]).bind λH9=>(Hp.ldI H9 .i64 H.length 1).bind λn10=>cM.l7 F aj fh F aa af dC dD dw H.length 0 n10 0 H9
def cM.tw (F:Nat) (aa:Nat) (af:Nat) (ag:Int) (aw:Int) (du:Sl) (dC:Int) (dD:Int) (dw:Int) (H:Hp):OA:=cM.twX F (bH.tw F) (gi.tw F) aa af ag aw du dC dD dw H
def cM.lh7 (F:Nat) (aj:Int->Int->Sl->Int->Int->Hp->OA) (fh:Nat->Nat->Nat->Nat->Int->Int->Hp->OA) (ks:List Nat) (n:Nat) (tm:Tm) (H:Hp):OA:=match ks,tm 0,tm 2,tm 3,tm 4,tm 6,tm 12,tm 13 with
 | [],(.ptr ed gK),(.int .i64 dj),(.int .i64 eJ),(.int .i64 eb),(.ptr dk iq),(.int .i64 gj),(.int .i64 fi)=>cM.l7 F aj fh n ed gK dj eJ eb dk iq gj fi H
 | _,_,_,_,_,_,_,_=>none
theorem cM.lh7_inv {F:Nat} {aj:Int->Int->Sl->Int->Int->Hp->OA} {fh:Nat->Nat->Nat->Nat->Int->Int->Hp->OA} {ks:List Nat} {n:Nat} {tm:Tm} {H:Hp} {r:AV×Hp} (h:cM.lh7 F aj fh ks n tm H=some r):∃ ed gK dj eJ eb dk iq gj fi,ks=[]/\eD tm [(0,(.ptr ed gK)),(2,(.int .i64 dj)),(3,(.int .i64 eJ)),(4,(.int .i64 eb)),(6,(.ptr dk iq)),(12,(.int .i64 gj)),(13,(.int .i64 fi))]/\cM.l7 F aj fh n ed gK dj eJ eb dk iq gj fi H=some r:=by
 unfold cM.lh7 at h
 split at h
 ·exact ⟨_,_,_,_,_,_,_,_,_,rfl,⟨‹_›,‹_›,‹_›,‹_›,‹_›,‹_›,‹_›,trivial⟩,h⟩
 ·cases h
def cM.lh (F:Nat) (aj:Int->Int->Sl->Int->Int->Hp->OA) (fh:Nat->Nat->Nat->Nat->Int->Int->Hp->OA) (p:Nat) (ks:List Nat) (n:Nat) (tm:Tm) (H:Hp):OA:=bif p.beq 7 then cM.lh7 F aj fh ks n tm H else (none)
def cM.pn:Nat->List Nat:=fA [(4,[8,12])]
def cM.tb:Nat->List (List Nat):=fA [(4,[[],[],[],[],[1,2,3],[],[],[],[1,2,3,4,5,6,7],[1,2,3,4,5,6,7,8],[1,2,3,4,5,6,7,8,9],[],[0,1,2,3,4,5,6,7,8,9,10,11]])]
def cM.mk (g:Nat->Nat->Int->Int->Sl->Int->Int->Int->Hp->OA) (args:List AV) (H:Hp):OA:=match args with
 | [(.ptr aa af),(.agg [(.int .i64 ag),(.int .i64 aw),(.sl du)]),(.int .i64 dC),(.int .i64 dD),(.int .i64 dw)]=>g aa af ag aw du dC dD dw H
 | _=>none
def cM.cs (F:Nat) (aj:Int->Int->Sl->Int->Int->Hp->OA) (fh:Nat->Nat->Nat->Nat->Int->Int->Hp->OA):Cs:=[(95,bH.mk aj),(163,gi.mk fh)]
theorem cM.loops (F:Nat) (aj:Int->Int->Sl->Int->Int->Hp->OA) (fh:Nat->Nat->Nat->Nat->Int->Int->Hp->OA):LO (bG (cM.cs F aj fh)) cM.pn (cM.lh F aj fh) F Try.f157:=
 (ai.rt (ai.rt (ai.block (ai.loop (λtm H=>eG λr h=>by obtain ⟨ed,gK,dj,eJ,eb,dk,iq,gj,fi,hks,e,h⟩:=cM.lh7_inv (show cM.lh7 F aj fh [] 0 tm H=some r from h);cases h) (λk7 tm H r h=>by obtain ⟨ed,gK,dj,eJ,eb,dk,iq,gj,fi,hks,e,h⟩:=cM.lh7_inv (show cM.lh7 F aj fh [] (k7+1) tm H=some r from h);rw [<- eE e];exact Eq.trans (by kernel_rfl) h) λk7=>ai.no))))
theorem cM.eqX (F:Nat) (aj:Int->Int->Sl->Int->Int->Hp->OA) (fh:Nat->Nat->Nat->Nat->Int->Int->Hp->OA) (aa:Nat) (af:Nat) (ag:Int) (aw:Int) (du:Sl) (dC:Int) (dD:Int) (dw:Int) (H:Hp):EX (bG (cM.cs F aj fh)) cM.pn (cM.lh F aj fh) F Try.f157 [(.ptr aa af),(.agg [(.int .i64 ag),(.int .i64 aw),(.sl du)]),(.int .i64 dC),(.int .i64 dD),(.int .i64 dw)] H=cM.twX F aj fh aa af ag aw du dC dD dw H:=by kernel_rfl
theorem cM.k (F:Nat):Ok Try.prog 157 (cM.mk (cM.tw F)):=by
 intro args H v H' h
 unfold cM.mk at h
 split at h
 ·exact okT (TB:=cM.tb) Try.func157 (bM (bH.k F) (bM (gi.k F) di)) (cM.loops F (bH.tw F) (gi.tw F)) ((cM.eqX F (bH.tw F) (gi.tw F) _ _ _ _ _ _ _ _ H).trans h) (by kernel_rfl)
 ·cases h
def cN.l7 (F:Nat) (aj:Int->Int->Sl->Int->Int->Hp->OA) (fh:Nat->Nat->Nat->Nat->Int->Int->Hp->OA) :Nat->Nat->Nat->Int->Int->Int->Nat->Nat->Int->Int->Hp->OA
 | 0,_,_,_,_,_,_,_,_,_,_=>none
 | mc+1,ed,gK,dj,eJ,eb,dk,iq,gj,fi,H23=>(bif (decide (fi<gj)) then ((Hp.ldI H23 .i64 dk iq).bind λn36=>(Hp.ldI H23 .i64 dk (iq+1)).bind λn37=>(Hp.ldSl H23 dk (iq+2)).bind λs38=>(aj n36 n37 s38 fi dj H23).bind λr39=>((r39.1).asP).bind λp40=>(if bh H23 r39.2 then ((Hp.ldI r39.2 .i64 dk iq).bind λn41=>(Hp.ldI r39.2 .i64 dk (iq+1)).bind λn42=>(Hp.ldSl r39.2 dk (iq+2)).bind λs43=>(aj n41 n42 s43 fi eJ r39.2).bind λr44=>((r44.1).asP).bind λp45=>(Hp.ldI r44.2 .i64 p45.1 p45.2).bind λn46=>(fh ed gK p40.1 p40.2 n46 eb r44.2).bind λr47=>cN.l7 F aj fh mc ed gK dj eJ eb dk iq gj (IntKind.i64.wrap (fi+1)) r47.2) else none)) else (some ((.tup []),H23)))
termination_by structural n=>n
def cN.twX (F:Nat) (aj:Int->Int->Sl->Int->Int->Hp->OA) (fh:Nat->Nat->Nat->Nat->Int->Int->Hp->OA) (aa:Nat) (af:Nat) (ag:Int) (aw:Int) (du:Sl) (dC:Int) (dD:Int) (dw:Int) (H:Hp):OA:=(Hp.new H [(.int .i64 ag),(.int .i64 aw),(.sl du)]).bind λH9=>(Hp.ldI H9 .i64 H.length 0).bind λn10=>cN.l7 F aj fh F aa af dC dD dw H.length 0 n10 0 H9
def cN.tw (F:Nat) (aa:Nat) (af:Nat) (ag:Int) (aw:Int) (du:Sl) (dC:Int) (dD:Int) (dw:Int) (H:Hp):OA:=cN.twX F (bH.tw F) (gi.tw F) aa af ag aw du dC dD dw H
def cN.lh7 (F:Nat) (aj:Int->Int->Sl->Int->Int->Hp->OA) (fh:Nat->Nat->Nat->Nat->Int->Int->Hp->OA) (ks:List Nat) (n:Nat) (tm:Tm) (H:Hp):OA:=match ks,tm 0,tm 2,tm 3,tm 4,tm 6,tm 12,tm 13 with
 | [],(.ptr ed gK),(.int .i64 dj),(.int .i64 eJ),(.int .i64 eb),(.ptr dk iq),(.int .i64 gj),(.int .i64 fi)=>cN.l7 F aj fh n ed gK dj eJ eb dk iq gj fi H
 | _,_,_,_,_,_,_,_=>none
theorem cN.lh7_inv {F:Nat} {aj:Int->Int->Sl->Int->Int->Hp->OA} {fh:Nat->Nat->Nat->Nat->Int->Int->Hp->OA} {ks:List Nat} {n:Nat} {tm:Tm} {H:Hp} {r:AV×Hp} (h:cN.lh7 F aj fh ks n tm H=some r):∃ ed gK dj eJ eb dk iq gj fi,ks=[]/\eD tm [(0,(.ptr ed gK)),(2,(.int .i64 dj)),(3,(.int .i64 eJ)),(4,(.int .i64 eb)),(6,(.ptr dk iq)),(12,(.int .i64 gj)),(13,(.int .i64 fi))]/\cN.l7 F aj fh n ed gK dj eJ eb dk iq gj fi H=some r:=by
 unfold cN.lh7 at h
 split at h
 ·exact ⟨_,_,_,_,_,_,_,_,_,rfl,⟨‹_›,‹_›,‹_›,‹_›,‹_›,‹_›,‹_›,trivial⟩,h⟩
 ·cases h
def cN.lh (F:Nat) (aj:Int->Int->Sl->Int->Int->Hp->OA) (fh:Nat->Nat->Nat->Nat->Int->Int->Hp->OA) (p:Nat) (ks:List Nat) (n:Nat) (tm:Tm) (H:Hp):OA:=bif p.beq 7 then cN.lh7 F aj fh ks n tm H else (none)
def cN.pn:Nat->List Nat:=fA [(4,[8,12])]
def cN.tb:Nat->List (List Nat):=fA [(4,[[],[],[],[],[1,2,3],[],[],[],[1,2,3,4,5,6,7],[1,2,3,4,5,6,7,8],[1,2,3,4,5,6,7,8,9],[],[0,1,2,3,4,5,6,7,8,9,10,11]])]
def cN.mk (g:Nat->Nat->Int->Int->Sl->Int->Int->Int->Hp->OA) (args:List AV) (H:Hp):OA:=match args with
 | [(.ptr aa af),(.agg [(.int .i64 ag),(.int .i64 aw),(.sl du)]),(.int .i64 dC),(.int .i64 dD),(.int .i64 dw)]=>g aa af ag aw du dC dD dw H
 | _=>none
def cN.cs (F:Nat) (aj:Int->Int->Sl->Int->Int->Hp->OA) (fh:Nat->Nat->Nat->Nat->Int->Int->Hp->OA):Cs:=[(95,bH.mk aj),(163,gi.mk fh)]
theorem cN.loops (F:Nat) (aj:Int->Int->Sl->Int->Int->Hp->OA) (fh:Nat->Nat->Nat->Nat->Int->Int->Hp->OA):LO (bG (cN.cs F aj fh)) cN.pn (cN.lh F aj fh) F Try.f158:=
 (ai.rt (ai.rt (ai.block (ai.loop (λtm H=>eG λr h=>by obtain ⟨ed,gK,dj,eJ,eb,dk,iq,gj,fi,hks,e,h⟩:=cN.lh7_inv (show cN.lh7 F aj fh [] 0 tm H=some r from h);cases h) (λk7 tm H r h=>by obtain ⟨ed,gK,dj,eJ,eb,dk,iq,gj,fi,hks,e,h⟩:=cN.lh7_inv (show cN.lh7 F aj fh [] (k7+1) tm H=some r from h);rw [<- eE e];exact Eq.trans (by kernel_rfl) h) λk7=>ai.no))))
theorem cN.eqX (F:Nat) (aj:Int->Int->Sl->Int->Int->Hp->OA) (fh:Nat->Nat->Nat->Nat->Int->Int->Hp->OA) (aa:Nat) (af:Nat) (ag:Int) (aw:Int) (du:Sl) (dC:Int) (dD:Int) (dw:Int) (H:Hp):EX (bG (cN.cs F aj fh)) cN.pn (cN.lh F aj fh) F Try.f158 [(.ptr aa af),(.agg [(.int .i64 ag),(.int .i64 aw),(.sl du)]),(.int .i64 dC),(.int .i64 dD),(.int .i64 dw)] H=cN.twX F aj fh aa af ag aw du dC dD dw H:=by kernel_rfl
theorem cN.k (F:Nat):Ok Try.prog 158 (cN.mk (cN.tw F)):=by
 intro args H v H' h
 unfold cN.mk at h
 split at h
 ·exact okT (TB:=cN.tb) Try.func158 (bM (bH.k F) (bM (gi.k F) di)) (cN.loops F (bH.tw F) (gi.tw F)) ((cN.eqX F (bH.tw F) (gi.tw F) _ _ _ _ _ _ _ _ H).trans h) (by kernel_rfl)
 ·cases h
def eQ.twX (F:Nat) (mG:Nat->Nat->Int->Int->Sl->Int->Int->Int->Hp->OA) (mH:Nat->Nat->Int->Int->Sl->Int->Int->Int->Hp->OA) (aa:Nat) (af:Nat) (ag:Int) (cv:Int) (dl:Int) (H:Hp):OA:=(Hp.ldI H .i64 aa (af+6)).bind λn6=>(Hp.ldI H .i64 aa ((af+6)+1)).bind λn7=>(Hp.ldSl H aa ((af+6)+2)).bind λs8=>(mG aa af n6 n7 s8 ag cv dl H).bind λr9=>(Hp.ldI r9.2 .i64 aa af).bind λn10=>(Hp.ldI r9.2 .i64 aa (af+1)).bind λn11=>(Hp.ldSl r9.2 aa (af+2)).bind λs12=>(mG aa af n10 n11 s12 ag cv dl r9.2).bind λr13=>(Hp.ldI r13.2 .i64 aa (af+3)).bind λn14=>(Hp.ldI r13.2 .i64 aa ((af+3)+1)).bind λn15=>(Hp.ldSl r13.2 aa ((af+3)+2)).bind λs16=>(mH aa af n14 n15 s16 cv ag (IntKind.i64.wrap (0 - dl)) r13.2).bind λr17=>some ((.tup []),r17.2)
def eQ.tw (F:Nat) (aa:Nat) (af:Nat) (ag:Int) (cv:Int) (dl:Int) (H:Hp):OA:=eQ.twX F (cM.tw F) (cN.tw F) aa af ag cv dl H
def eQ.mk (g:Nat->Nat->Int->Int->Int->Hp->OA) (args:List AV) (H:Hp):OA:=match args with
 | [(.ptr aa af),(.int .i64 ag),(.int .i64 cv),(.int .i64 dl)]=>g aa af ag cv dl H
 | _=>none
def eQ.cs (F:Nat) (mG:Nat->Nat->Int->Int->Sl->Int->Int->Int->Hp->OA) (mH:Nat->Nat->Int->Int->Sl->Int->Int->Int->Hp->OA):Cs:=[(157,cM.mk mG),(158,cN.mk mH)]
theorem eQ.eqX (F:Nat) (mG:Nat->Nat->Int->Int->Sl->Int->Int->Int->Hp->OA) (mH:Nat->Nat->Int->Int->Sl->Int->Int->Int->Hp->OA) (aa:Nat) (af:Nat) (ag:Int) (cv:Int) (dl:Int) (H:Hp):EX (bG (eQ.cs F mG mH)) bw lh0 F Try.f137 [(.ptr aa af),(.int .i64 ag),(.int .i64 cv),(.int .i64 dl)] H=eQ.twX F mG mH aa af ag cv dl H:=by kernel_rfl
theorem eQ.k (F:Nat):Ok Try.prog 137 (eQ.mk (eQ.tw F)):=by
 intro args H v H' h
 unfold eQ.mk at h
 split at h
 ·exact okT (TB:=bw) Try.func137 (bM (cM.k F) (bM (cN.k F) di)) ai.no ((eQ.eqX F (cM.tw F) (cN.tw F) _ _ _ _ _ H).trans h) (by kernel_rfl)
 ·cases h
def gv.twX (F:Nat) (mH:Nat->Nat->Int->Int->Sl->Int->Int->Int->Hp->OA) (mG:Nat->Nat->Int->Int->Sl->Int->Int->Int->Hp->OA) (aa:Nat) (af:Nat) (ag:Int) (cv:Int) (dl:Int) (H:Hp):OA:=(Hp.ldI H .i64 aa (af+6)).bind λn6=>(Hp.ldI H .i64 aa ((af+6)+1)).bind λn7=>(Hp.ldSl H aa ((af+6)+2)).bind λs8=>(mH aa af n6 n7 s8 ag cv dl H).bind λr9=>(Hp.ldI r9.2 .i64 aa (af+9)).bind λn10=>(Hp.ldI r9.2 .i64 aa ((af+9)+1)).bind λn11=>(Hp.ldSl r9.2 aa ((af+9)+2)).bind λs12=>(mH aa af n10 n11 s12 ag cv dl r9.2).bind λr13=>(Hp.ldI r13.2 .i64 aa (af+12)).bind λn14=>(Hp.ldI r13.2 .i64 aa ((af+12)+1)).bind λn15=>(Hp.ldSl r13.2 aa ((af+12)+2)).bind λs16=>(mG aa af n14 n15 s16 cv ag (IntKind.i64.wrap (0 - dl)) r13.2).bind λr17=>some ((.tup []),r17.2)
def gv.tw (F:Nat) (aa:Nat) (af:Nat) (ag:Int) (cv:Int) (dl:Int) (H:Hp):OA:=gv.twX F (cN.tw F) (cM.tw F) aa af ag cv dl H
def gv.mk (g:Nat->Nat->Int->Int->Int->Hp->OA) (args:List AV) (H:Hp):OA:=match args with
 | [(.ptr aa af),(.int .i64 ag),(.int .i64 cv),(.int .i64 dl)]=>g aa af ag cv dl H
 | _=>none
def gv.cs (F:Nat) (mH:Nat->Nat->Int->Int->Sl->Int->Int->Int->Hp->OA) (mG:Nat->Nat->Int->Int->Sl->Int->Int->Int->Hp->OA):Cs:=[(158,cN.mk mH),(157,cM.mk mG)]
theorem gv.eqX (F:Nat) (mH:Nat->Nat->Int->Int->Sl->Int->Int->Int->Hp->OA) (mG:Nat->Nat->Int->Int->Sl->Int->Int->Int->Hp->OA) (aa:Nat) (af:Nat) (ag:Int) (cv:Int) (dl:Int) (H:Hp):EX (bG (gv.cs F mH mG)) bw lh0 F Try.f154 [(.ptr aa af),(.int .i64 ag),(.int .i64 cv),(.int .i64 dl)] H=gv.twX F mH mG aa af ag cv dl H:=by kernel_rfl
theorem gv.k (F:Nat):Ok Try.prog 154 (gv.mk (gv.tw F)):=by
 intro args H v H' h
 unfold gv.mk at h
 split at h
 ·exact okT (TB:=bw) Try.func154 (bM (cN.k F) (bM (cM.k F) di)) ai.no ((gv.eqX F (cN.tw F) (cM.tw F) _ _ _ _ _ H).trans h) (by kernel_rfl)
 ·cases h
def aR.j3 (F:Nat) (aj:Int->Int->Sl->Int->Int->Hp->OA) (fj:Int->Int->Hp->OA) (cW:Nat->Nat->Int->Int->Int->Hp->OA) (fl:Nat->Nat->Int->Int->Int->Hp->OA) (C15_:Nat->Nat->Int->Nat->Nat->Int->Hp->OA) (IC:Nat) (ID:Nat) (td:Int) (vR:Nat) (IE:Nat) (te:Int) (H119:Hp):OA:=C15_ IC ID td vR IE (IntKind.i64.wrap (te+1)) H119
def aR.l15 (F:Nat) (aj:Int->Int->Sl->Int->Int->Hp->OA) (fj:Int->Int->Hp->OA) (cW:Nat->Nat->Int->Int->Int->Hp->OA) (fl:Nat->Nat->Int->Int->Int->Hp->OA) :Nat->Nat->Nat->Int->Nat->Nat->Int->Hp->OA
 | 0,_,_,_,_,_,_,_=>none
 | CC+1,j_,ka,gC,ky,lX,jR,H61=>(Hp.ldI H61 .i64 ky (lX+1)).bind λn91=>(bif (decide (jR<n91)) then ((Hp.ldB H61 j_ (ka+15)).bind λb92=>(bif (!b92) then ((Hp.ldI H61 .i64 ky lX).bind λn93=>(Hp.ldI H61 .i64 ky (lX+1)).bind λn94=>(Hp.ldSl H61 ky (lX+2)).bind λs95=>(aj n93 n94 s95 gC jR H61).bind λr96=>((r96.1).asP).bind λp97=>(if bh H61 r96.2 then ((Hp.ldI r96.2 .i64 p97.1 p97.2).bind λn98=>(Hp.ldI r96.2 .i64 ky lX).bind λn99=>(Hp.ldI r96.2 .i64 ky (lX+1)).bind λn100=>(Hp.ldSl r96.2 ky (lX+2)).bind λs101=>(aj n99 n100 s101 gC gC r96.2).bind λr102=>((r102.1).asP).bind λp103=>(if bh r96.2 r102.2 then ((Hp.ldI r102.2 .i64 p103.1 p103.2).bind λn104=>(fj n98 n104 r102.2).bind λr105=>((r105.1).asI .i64).bind λn106=>(bif (n106 != 0) then ((fl j_ ka jR gC (IntKind.i64.wrap (0 - n106)) r105.2).bind λr107=>aR.j3 F aj fj cW fl (aR.l15 F aj fj cW fl CC) j_ ka gC ky lX jR r107.2) else (aR.j3 F aj fj cW fl (aR.l15 F aj fj cW fl CC) j_ ka gC ky lX jR r105.2))) else none)) else none)) else (some ((.tup []),H61)))) else (some ((.tup []),H61)))
termination_by structural n=>n
def aR.j4 (F:Nat) (aj:Int->Int->Sl->Int->Int->Hp->OA) (fj:Int->Int->Hp->OA) (cW:Nat->Nat->Int->Int->Int->Hp->OA) (fl:Nat->Nat->Int->Int->Int->Hp->OA) (IF:Nat) (IG:Nat) (pE:Int) (vS:Nat) (IH:Nat) (H52:Hp):OA:=aR.l15 F aj fj cW fl F IF IG pE vS IH (IntKind.i64.wrap (pE+1)) H52
def aR.j5 (F:Nat) (aj:Int->Int->Sl->Int->Int->Hp->OA) (fj:Int->Int->Hp->OA) (cW:Nat->Nat->Int->Int->Int->Hp->OA) (fl:Nat->Nat->Int->Int->Int->Hp->OA) (C13_:Nat->Nat->Int->Nat->Nat->Int->Hp->OA) (II:Nat) (IJ:Nat) (tf:Int) (vT:Nat) (pz:Nat) (tg:Int) (H146:Hp):OA:=C13_ II IJ tf vT pz (IntKind.i64.wrap (tg+1)) H146
def aR.l13 (F:Nat) (aj:Int->Int->Sl->Int->Int->Hp->OA) (fj:Int->Int->Hp->OA) (cW:Nat->Nat->Int->Int->Int->Hp->OA) (fl:Nat->Nat->Int->Int->Int->Hp->OA) :Nat->Nat->Nat->Int->Nat->Nat->Int->Hp->OA
 | 0,_,_,_,_,_,_,_=>none
 | ic+1,ed,gK,dH,fX,lr,gl,H17=>(Hp.ldI H17 .i64 fX lr).bind λn120=>(bif (decide (gl<n120)) then ((Hp.ldB H17 ed (gK+15)).bind λb121=>(bif (!b121) then ((Hp.ldI H17 .i64 fX lr).bind λn122=>(Hp.ldI H17 .i64 fX (lr+1)).bind λn123=>(Hp.ldSl H17 fX (lr+2)).bind λs124=>(aj n122 n123 s124 gl dH H17).bind λr125=>((r125.1).asP).bind λp126=>(if bh H17 r125.2 then ((Hp.ldI r125.2 .i64 p126.1 p126.2).bind λn127=>(Hp.ldI r125.2 .i64 fX lr).bind λn128=>(Hp.ldI r125.2 .i64 fX (lr+1)).bind λn129=>(Hp.ldSl r125.2 fX (lr+2)).bind λs130=>(aj n128 n129 s130 dH dH r125.2).bind λr131=>((r131.1).asP).bind λp132=>(if bh r125.2 r131.2 then ((Hp.ldI r131.2 .i64 p132.1 p132.2).bind λn133=>(fj n127 n133 r131.2).bind λr134=>((r134.1).asI .i64).bind λn135=>(bif (n135 != 0) then ((cW ed gK gl dH (IntKind.i64.wrap (0 - n135)) r134.2).bind λr136=>aR.j5 F aj fj cW fl (aR.l13 F aj fj cW fl ic) ed gK dH fX lr gl r136.2) else (aR.j5 F aj fj cW fl (aR.l13 F aj fj cW fl ic) ed gK dH fX lr gl r134.2))) else none)) else none)) else (aR.j4 F aj fj cW fl ed gK dH fX lr H17))) else (aR.j4 F aj fj cW fl ed gK dH fX lr H17))
termination_by structural n=>n
def aR.twX (F:Nat) (aj:Int->Int->Sl->Int->Int->Hp->OA) (fj:Int->Int->Hp->OA) (cW:Nat->Nat->Int->Int->Int->Hp->OA) (fl:Nat->Nat->Int->Int->Int->Hp->OA) (aa:Nat) (af:Nat) (ag:Int) (H:Hp):OA:=(Hp.ldI H .i64 aa (af+6)).bind λn4=>(Hp.ldI H .i64 aa ((af+6)+1)).bind λn5=>(Hp.ldSl H aa ((af+6)+2)).bind λs6=>(Hp.new H [.int .i64 0,.int .i64 0,.sl ⟨none,0,.ex 0⟩]).bind λH7=>(Hp.st H7 H.length 0 (.int .i64 n4)).bind λH8=>(Hp.st H8 H.length (0+1) (.int .i64 n5)).bind λH9=>(Hp.st H9 H.length (0+1+1) (.sl s6)).bind λH10=>aR.l13 F aj fj cW fl F aa af ag H.length 0 (IntKind.i64.wrap (ag+1)) H10
def aR.tw (F:Nat) (aa:Nat) (af:Nat) (ag:Int) (H:Hp):OA:=aR.twX F (bH.tw F) (gu.tw F) (eQ.tw F) (gv.tw F) aa af ag H
def aR.lh13 (F:Nat) (aj:Int->Int->Sl->Int->Int->Hp->OA) (fj:Int->Int->Hp->OA) (cW:Nat->Nat->Int->Int->Int->Hp->OA) (fl:Nat->Nat->Int->Int->Int->Hp->OA) (ks:List Nat) (n:Nat) (tm:Tm) (H:Hp):OA:=match ks,tm 0,tm 1,tm 4,tm 5 with
 | [],(.ptr ed gK),(.int .i64 dH),(.ptr fX lr),(.int .i64 gl)=>aR.l13 F aj fj cW fl n ed gK dH fX lr gl H
 | _,_,_,_,_=>none
theorem aR.lh13_inv {F:Nat} {aj:Int->Int->Sl->Int->Int->Hp->OA} {fj:Int->Int->Hp->OA} {cW:Nat->Nat->Int->Int->Int->Hp->OA} {fl:Nat->Nat->Int->Int->Int->Hp->OA} {ks:List Nat} {n:Nat} {tm:Tm} {H:Hp} {r:AV×Hp} (h:aR.lh13 F aj fj cW fl ks n tm H=some r):∃ ed gK dH fX lr gl,ks=[]/\eD tm [(0,(.ptr ed gK)),(1,(.int .i64 dH)),(4,(.ptr fX lr)),(5,(.int .i64 gl))]/\aR.l13 F aj fj cW fl n ed gK dH fX lr gl H=some r:=by
 unfold aR.lh13 at h
 split at h
 ·exact ⟨_,_,_,_,_,_,rfl,⟨‹_›,‹_›,‹_›,‹_›,trivial⟩,h⟩
 ·cases h
def aR.lh15 (F:Nat) (aj:Int->Int->Sl->Int->Int->Hp->OA) (fj:Int->Int->Hp->OA) (cW:Nat->Nat->Int->Int->Int->Hp->OA) (fl:Nat->Nat->Int->Int->Int->Hp->OA) (ks:List Nat) (n:Nat) (tm:Tm) (H:Hp):OA:=match ks,tm 0,tm 1,tm 4,tm 7 with
 | [],(.ptr j_ ka),(.int .i64 gC),(.ptr ky lX),(.int .i64 jR)=>aR.l15 F aj fj cW fl n j_ ka gC ky lX jR H
 | _,_,_,_,_=>none
theorem aR.lh15_inv {F:Nat} {aj:Int->Int->Sl->Int->Int->Hp->OA} {fj:Int->Int->Hp->OA} {cW:Nat->Nat->Int->Int->Int->Hp->OA} {fl:Nat->Nat->Int->Int->Int->Hp->OA} {ks:List Nat} {n:Nat} {tm:Tm} {H:Hp} {r:AV×Hp} (h:aR.lh15 F aj fj cW fl ks n tm H=some r):∃ j_ ka gC ky lX jR,ks=[]/\eD tm [(0,(.ptr j_ ka)),(1,(.int .i64 gC)),(4,(.ptr ky lX)),(7,(.int .i64 jR))]/\aR.l15 F aj fj cW fl n j_ ka gC ky lX jR H=some r:=by
 unfold aR.lh15 at h
 split at h
 ·exact ⟨_,_,_,_,_,_,rfl,⟨‹_›,‹_›,‹_›,‹_›,trivial⟩,h⟩
 ·cases h
def aR.lh (F:Nat) (aj:Int->Int->Sl->Int->Int->Hp->OA) (fj:Int->Int->Hp->OA) (cW:Nat->Nat->Int->Int->Int->Hp->OA) (fl:Nat->Nat->Int->Int->Int->Hp->OA) (p:Nat) (ks:List Nat) (n:Nat) (tm:Tm) (H:Hp):OA:=bif p.beq 15 then aR.lh15 F aj fj cW fl ks n tm H else (bif p.beq 13 then aR.lh13 F aj fj cW fl ks n tm H else (none))
def aR.pn:Nat->List Nat:=fA [(4,[12]),(10,[12])]
def aR.tb:Nat->List (List Nat):=fA [(4,[[],[],[],[0,1,2],[0,1,2,3],[0,1,2,3,4],[],[],[],[0,1,2,3,6,7,8],[0,1,2,3,6,7,8,9],[0,1,2,3,6,7,8,9,10],[0,1,2,3,4,5,6,7,8,9,10,11],[0,1,2,3,4,5,6,7,8,9,10,11,12]]),(10,[[],[],[],[0,1,2],[0,1,2,3],[0,1,2,3,4],[],[],[],[0,1,2,3,6,7,8],[0,1,2,3,6,7,8,9],[0,1,2,3,6,7,8,9,10],[0,1,2,3,4,5,6,7,8,9,10,11],[0,1,2,3,4,5,6,7,8,9,10,11,12]])]
def aR.mk (g:Nat->Nat->Int->Hp->OA) (args:List AV) (H:Hp):OA:=match args with
 | [(.ptr aa af),(.int .i64 ag)]=>g aa af ag H
 | _=>none
def aR.cs (F:Nat) (aj:Int->Int->Sl->Int->Int->Hp->OA) (fj:Int->Int->Hp->OA) (cW:Nat->Nat->Int->Int->Int->Hp->OA) (fl:Nat->Nat->Int->Int->Int->Hp->OA):Cs:=[(95,bH.mk aj),(153,gu.mk fj),(137,eQ.mk cW),(154,gv.mk fl)]
theorem aR.loops (F:Nat) (aj:Int->Int->Sl->Int->Int->Hp->OA) (fj:Int->Int->Hp->OA) (cW:Nat->Nat->Int->Int->Int->Hp->OA) (fl:Nat->Nat->Int->Int->Int->Hp->OA):LO (bG (aR.cs F aj fj cW fl)) aR.pn (aR.lh F aj fj cW fl) F Try.f134:=
 (ai.rt (ai.seq (ai.rt (ai.block (ai.loop (λtm H=>eG λr h=>by obtain ⟨ed,gK,dH,fX,lr,gl,hks,e,h⟩:=aR.lh13_inv (show aR.lh13 F aj fj cW fl [] 0 tm H=some r from h);cases h) (λk13 tm H r h=>by obtain ⟨ed,gK,dH,fX,lr,gl,hks,e,h⟩:=aR.lh13_inv (show aR.lh13 F aj fj cW fl [] (k13+1) tm H=some r from h);rw [<- eE e];exact Eq.trans (by kernel_rfl) h) λk13=>ai.no))) (ai.rt (ai.block (ai.loop (λtm H=>eG λr h=>by obtain ⟨j_,ka,gC,ky,lX,jR,hks,e,h⟩:=aR.lh15_inv (show aR.lh15 F aj fj cW fl [] 0 tm H=some r from h);cases h) (λk15 tm H r h=>by obtain ⟨j_,ka,gC,ky,lX,jR,hks,e,h⟩:=aR.lh15_inv (show aR.lh15 F aj fj cW fl [] (k15+1) tm H=some r from h);rw [<- eE e];exact Eq.trans (by kernel_rfl) h) λk15=>ai.no)))))
theorem aR.eqX (F:Nat) (aj:Int->Int->Sl->Int->Int->Hp->OA) (fj:Int->Int->Hp->OA) (cW:Nat->Nat->Int->Int->Int->Hp->OA) (fl:Nat->Nat->Int->Int->Int->Hp->OA) (aa:Nat) (af:Nat) (ag:Int) (H:Hp):EX (bG (aR.cs F aj fj cW fl)) aR.pn (aR.lh F aj fj cW fl) F Try.f134 [(.ptr aa af),(.int .i64 ag)] H=aR.twX F aj fj cW fl aa af ag H:=by kernel_rfl
theorem aR.k (F:Nat):Ok Try.prog 134 (aR.mk (aR.tw F)):=by
 intro args H v H' h
 unfold aR.mk at h
 split at h
 ·exact okT (TB:=aR.tb) Try.func134 (bM (bH.k F) (bM (gu.k F) (bM (eQ.k F) (bM (gv.k F) di)))) (aR.loops F (bH.tw F) (gu.tw F) (eQ.tw F) (gv.tw F)) ((aR.eqX F (bH.tw F) (gu.tw F) (eQ.tw F) (gv.tw F) _ _ _ H).trans h) (by kernel_rfl)
 ·cases h
def iD.twX (F:Nat) (aa:Int) (H:Hp):OA:=some ((.bool (aa != 0)),H)
def iD.tw (F:Nat) (aa:Int) (H:Hp):OA:=iD.twX F aa H
def iD.mk (g:Int->Hp->OA) (args:List AV) (H:Hp):OA:=match args with
 | [(.int .i64 aa)]=>g aa H
 | _=>none
theorem iD.eqX (F:Nat) (aa:Int) (H:Hp):EX (bG []) bw lh0 F Try.f155 [(.int .i64 aa)] H=iD.twX F aa H:=by kernel_rfl
theorem iD.k (F:Nat):Ok Try.prog 155 (iD.mk (iD.tw F)):=by
 intro args H v H' h
 unfold iD.mk at h
 split at h
 ·exact okT (TB:=bw) Try.func155 di ai.no ((iD.eqX F _ H).trans h) (by kernel_rfl)
 ·cases h
def dI.l13 (F:Nat) (jS:Int->Hp->OA) :Nat->Sl->Int->Int->Hp->OA
 | 0,_,_,_,_=>none
 | ic+1,il,gL,fD,H6=>(bif (decide (fD<gL)) then ((Sl.idx il fD 1).bind λp11=>(Hp.ldI H6 .i64 p11.1 p11.2).bind λn12=>(jS n12 H6).bind λr13=>((r13.1).asB).bind λb14=>(bif b14 then (some ((.int .i64 fD),r13.2)) else (dI.l13 F jS ic il gL (IntKind.i64.wrap (fD+1)) r13.2))) else (some ((.int .i64 (-1)),H6)))
termination_by structural n=>n
def dI.twX (F:Nat) (jS:Int->Hp->OA) (aa:Sl) (H:Hp):OA:=dI.l13 F jS F aa (aa.n:Int) 0 H
def dI.tw (F:Nat) (aa:Sl) (H:Hp):OA:=dI.twX F (iD.tw F) aa H
def dI.lh13 (F:Nat) (jS:Int->Hp->OA) (ks:List Nat) (n:Nat) (tm:Tm) (H:Hp):OA:=match ks,tm 0,tm 1,tm 7,tm 8 with
 | [],(.sl il),(.fn 155 []),(.int .i64 gL),(.int .i64 fD)=>dI.l13 F jS n il gL fD H
 | _,_,_,_,_=>none
theorem dI.lh13_inv {F:Nat} {jS:Int->Hp->OA} {ks:List Nat} {n:Nat} {tm:Tm} {H:Hp} {r:AV×Hp} (h:dI.lh13 F jS ks n tm H=some r):∃ il gL fD,ks=[]/\eD tm [(0,(.sl il)),(1,(.fn 155 [])),(7,(.int .i64 gL)),(8,(.int .i64 fD))]/\dI.l13 F jS n il gL fD H=some r:=by
 unfold dI.lh13 at h
 split at h
 ·exact ⟨_,_,_,rfl,⟨‹_›,‹_›,‹_›,‹_›,trivial⟩,h⟩
 ·cases h
def dI.lh (F:Nat) (jS:Int->Hp->OA) (p:Nat) (ks:List Nat) (n:Nat) (tm:Tm) (H:Hp):OA:=bif p.beq 13 then dI.lh13 F jS ks n tm H else (none)
def dI.mk (g:Sl->Hp->OA) (args:List AV) (H:Hp):OA:=match args with
 | [(.sl aa),(.fn 155 [])]=>g aa H
 | _=>none
def dI.cs (F:Nat) (jS:Int->Hp->OA):Cs:=[(155,iD.mk jS)]
theorem dI.loops (F:Nat) (jS:Int->Hp->OA):LO (bG (dI.cs F jS)) bw (dI.lh F jS) F Try.f117:=
 (ai.rt (ai.lt (ai.rt (ai.block (ai.loop (λtm H=>eG λr h=>by obtain ⟨il,gL,fD,hks,e,h⟩:=dI.lh13_inv (show dI.lh13 F jS [] 0 tm H=some r from h);cases h) (λk13 tm H r h=>by obtain ⟨il,gL,fD,hks,e,h⟩:=dI.lh13_inv (show dI.lh13 F jS [] (k13+1) tm H=some r from h);rw [<- eE e];exact Eq.trans (by kernel_rfl) h) λk13=>ai.no)))))
theorem dI.eqX (F:Nat) (jS:Int->Hp->OA) (aa:Sl) (H:Hp):EX (bG (dI.cs F jS)) bw (dI.lh F jS) F Try.f117 [(.sl aa),(.fn 155 [])] H=dI.twX F jS aa H:=by kernel_rfl
theorem dI.k (F:Nat):Ok Try.prog 117 (dI.mk (dI.tw F)):=by
 intro args H v H' h
 unfold dI.mk at h
 split at h
 ·exact okT (TB:=bw) Try.func117 (bM (iD.k F) di) (dI.loops F (iD.tw F)) ((dI.eqX F (iD.tw F) _ H).trans h) (by kernel_rfl)
 ·cases h
def hG.twX (F:Nat) (th:Sl->Hp->OA) (aa:Sl) (H:Hp):OA:=(th aa H).bind λr2=>((r2.1).asI .i64).bind λn3=>some ((.bool (decide (n3>=0))),r2.2)
def hG.tw (F:Nat) (aa:Sl) (H:Hp):OA:=hG.twX F (dI.tw F) aa H
def hG.mk (g:Sl->Hp->OA) (args:List AV) (H:Hp):OA:=match args with
 | [(.sl aa),(.fn 155 [])]=>g aa H
 | _=>none
def hG.cs (F:Nat) (th:Sl->Hp->OA):Cs:=[(117,dI.mk th)]
theorem hG.eqX (F:Nat) (th:Sl->Hp->OA) (aa:Sl) (H:Hp):EX (bG (hG.cs F th)) bw lh0 F Try.f81 [(.sl aa),(.fn 155 [])] H=hG.twX F th aa H:=by kernel_rfl
theorem hG.k (F:Nat):Ok Try.prog 81 (hG.mk (hG.tw F)):=by
 intro args H v H' h
 unfold hG.mk at h
 split at h
 ·exact okT (TB:=bw) Try.func81 (bM (dI.k F) di) ai.no ((hG.eqX F (dI.tw F) _ H).trans h) (by kernel_rfl)
 ·cases h
def cI.j1 (F:Nat) (aj:Int->Int->Sl->Int->Int->Hp->OA) (bR:Int->Int->Sl->Int->Hp->OA) (jj:Sl->Hp->OA) (pF:Int) (ti:Nat) (yd:Nat) (H34:Hp):OA:=(Hp.ldI H34 .i64 ti yd).bind λn35=>(Hp.ldI H34 .i64 ti (yd+1)).bind λn36=>(Hp.ldSl H34 ti (yd+2)).bind λs37=>(bR n35 n36 s37 pF H34).bind λr38=>((r38.1).asSl).bind λs39=>(Sl.cut s39 1 (IntKind.i64.wrap (pF+1)) (s39.n:Int)).bind λs40=>(jj s40 r38.2).bind λr41=>((r41.1).asB).bind λb42=>some ((.bool (!b42)),r41.2)
def cI.l29 (F:Nat) (aj:Int->Int->Sl->Int->Int->Hp->OA) (bR:Int->Int->Sl->Int->Hp->OA) (jj:Sl->Hp->OA) :Nat->Int->Nat->Nat->Int->Hp->OA
 | 0,_,_,_,_,_=>none
 | eM+1,dH,gB,gl,lu,H18=>(Hp.ldI H18 .i64 gB gl).bind λn43=>(bif (decide (lu<n43)) then ((Hp.ldI H18 .i64 gB gl).bind λn44=>(Hp.ldI H18 .i64 gB (gl+1)).bind λn45=>(Hp.ldSl H18 gB (gl+2)).bind λs46=>(aj n44 n45 s46 lu dH H18).bind λr47=>((r47.1).asP).bind λp48=>(Hp.ldI r47.2 .i64 p48.1 p48.2).bind λn49=>(bif (n49 != 0) then (some ((.bool false),r47.2)) else (cI.l29 F aj bR jj eM dH gB gl (IntKind.i64.wrap (lu+1)) r47.2))) else (cI.j1 F aj bR jj dH gB gl H18))
termination_by structural n=>n
def cI.twX (F:Nat) (aj:Int->Int->Sl->Int->Int->Hp->OA) (bR:Int->Int->Sl->Int->Hp->OA) (jj:Sl->Hp->OA) (aa:Nat) (af:Nat) (ag:Int) (H:Hp):OA:=(Hp.ldI H .i64 aa (af+6)).bind λn4=>(Hp.ldI H .i64 aa ((af+6)+1)).bind λn5=>(Hp.ldSl H aa ((af+6)+2)).bind λs6=>(Hp.new H [.int .i64 0,.int .i64 0,.sl ⟨none,0,.ex 0⟩]).bind λH7=>(Hp.st H7 H.length 0 (.int .i64 n4)).bind λH8=>(Hp.st H8 H.length (0+1) (.int .i64 n5)).bind λH9=>(Hp.st H9 H.length (0+1+1) (.sl s6)).bind λH10=>cI.l29 F aj bR jj F ag H.length 0 (IntKind.i64.wrap (ag+1)) H10
def cI.tw (F:Nat) (aa:Nat) (af:Nat) (ag:Int) (H:Hp):OA:=cI.twX F (bH.tw F) (eA.tw F) (hG.tw F) aa af ag H
def cI.lh29 (F:Nat) (aj:Int->Int->Sl->Int->Int->Hp->OA) (bR:Int->Int->Sl->Int->Hp->OA) (jj:Sl->Hp->OA) (ks:List Nat) (n:Nat) (tm:Tm) (H:Hp):OA:=match ks,tm 1,tm 5,tm 6 with
 | [],(.int .i64 dH),(.ptr gB gl),(.int .i64 lu)=>cI.l29 F aj bR jj n dH gB gl lu H
 | _,_,_,_=>none
theorem cI.lh29_inv {F:Nat} {aj:Int->Int->Sl->Int->Int->Hp->OA} {bR:Int->Int->Sl->Int->Hp->OA} {jj:Sl->Hp->OA} {ks:List Nat} {n:Nat} {tm:Tm} {H:Hp} {r:AV×Hp} (h:cI.lh29 F aj bR jj ks n tm H=some r):∃ dH gB gl lu,ks=[]/\eD tm [(1,(.int .i64 dH)),(5,(.ptr gB gl)),(6,(.int .i64 lu))]/\cI.l29 F aj bR jj n dH gB gl lu H=some r:=by
 unfold cI.lh29 at h
 split at h
 ·exact ⟨_,_,_,_,rfl,⟨‹_›,‹_›,‹_›,trivial⟩,h⟩
 ·cases h
def cI.lh (F:Nat) (aj:Int->Int->Sl->Int->Int->Hp->OA) (bR:Int->Int->Sl->Int->Hp->OA) (jj:Sl->Hp->OA) (p:Nat) (ks:List Nat) (n:Nat) (tm:Tm) (H:Hp):OA:=bif p.beq 29 then cI.lh29 F aj bR jj ks n tm H else (none)
def cI.mk (g:Nat->Nat->Int->Hp->OA) (args:List AV) (H:Hp):OA:=match args with
 | [(.ptr aa af),(.int .i64 ag)]=>g aa af ag H
 | _=>none
def cI.cs (F:Nat) (aj:Int->Int->Sl->Int->Int->Hp->OA) (bR:Int->Int->Sl->Int->Hp->OA) (jj:Sl->Hp->OA):Cs:=[(95,bH.mk aj),(120,eA.mk bR),(81,hG.mk jj)]
theorem cI.loops (F:Nat) (aj:Int->Int->Sl->Int->Int->Hp->OA) (bR:Int->Int->Sl->Int->Hp->OA) (jj:Sl->Hp->OA):LO (bG (cI.cs F aj bR jj)) bw (cI.lh F aj bR jj) F Try.f135:=
 (ai.rt (ai.rt (ai.lt (ai.rt (ai.block (ai.loop (λtm H=>eG λr h=>by obtain ⟨dH,gB,gl,lu,hks,e,h⟩:=cI.lh29_inv (show cI.lh29 F aj bR jj [] 0 tm H=some r from h);cases h) (λk29 tm H r h=>by obtain ⟨dH,gB,gl,lu,hks,e,h⟩:=cI.lh29_inv (show cI.lh29 F aj bR jj [] (k29+1) tm H=some r from h);rw [<- eE e];exact Eq.trans (by kernel_rfl) h) λk29=>ai.no))))))
theorem cI.eqX (F:Nat) (aj:Int->Int->Sl->Int->Int->Hp->OA) (bR:Int->Int->Sl->Int->Hp->OA) (jj:Sl->Hp->OA) (aa:Nat) (af:Nat) (ag:Int) (H:Hp):EX (bG (cI.cs F aj bR jj)) bw (cI.lh F aj bR jj) F Try.f135 [(.ptr aa af),(.int .i64 ag)] H=cI.twX F aj bR jj aa af ag H:=by kernel_rfl
theorem cI.k (F:Nat):Ok Try.prog 135 (cI.mk (cI.tw F)):=by
 intro args H v H' h
 unfold cI.mk at h
 split at h
 ·exact okT (TB:=bw) Try.func135 (bM (bH.k F) (bM (eA.k F) (bM (hG.k F) di))) (cI.loops F (bH.tw F) (eA.tw F) (hG.tw F)) ((cI.eqX F (bH.tw F) (eA.tw F) (hG.tw F) _ _ _ H).trans h) (by kernel_rfl)
 ·cases h
def h_.twX (F:Nat) (aj:Int->Int->Sl->Int->Int->Hp->OA) (aa:Int) (au:Nat) (ag:Nat) (cv:Nat) (bN:Nat) (H:Hp):OA:=(Hp.ldI H .i64 au ag).bind λn6=>(Hp.ldI H .i64 au (ag+1)).bind λn7=>(Hp.ldSl H au (ag+2)).bind λs8=>(Hp.ldI H .i64 cv bN).bind λn9=>(Hp.ldI H .i64 cv bN).bind λn10=>(aj n6 n7 s8 n9 n10 H).bind λr11=>((r11.1).asP).bind λp12=>(Hp.ldI r11.2 .i64 p12.1 p12.2).bind λn13=>(if n13=0 then none else (some ((.bool ((Int.tmod aa n13) != 0)),r11.2)))
def h_.tw (F:Nat) (aa:Int) (au:Nat) (ag:Nat) (cv:Nat) (bN:Nat) (H:Hp):OA:=h_.twX F (bH.tw F) aa au ag cv bN H
def h_.mk (g:Int->Nat->Nat->Nat->Nat->Hp->OA) (args:List AV) (H:Hp):OA:=match args with
 | [(.int .i64 aa),(.ptr au ag),(.ptr cv bN)]=>g aa au ag cv bN H
 | _=>none
def h_.cs (F:Nat) (aj:Int->Int->Sl->Int->Int->Hp->OA):Cs:=[(95,bH.mk aj)]
theorem h_.eqX (F:Nat) (aj:Int->Int->Sl->Int->Int->Hp->OA) (aa:Int) (au:Nat) (ag:Nat) (cv:Nat) (bN:Nat) (H:Hp):EX (bG (h_.cs F aj)) bw lh0 F Try.f156 [(.int .i64 aa),(.ptr au ag),(.ptr cv bN)] H=h_.twX F aj aa au ag cv bN H:=by kernel_rfl
theorem h_.k (F:Nat):Ok Try.prog 156 (h_.mk (h_.tw F)):=by
 intro args H v H' h
 unfold h_.mk at h
 split at h
 ·exact okT (TB:=bw) Try.func156 (bM (bH.k F) di) ai.no ((h_.eqX F (bH.tw F) _ _ _ _ _ H).trans h) (by kernel_rfl)
 ·cases h
def dJ.l13 (F:Nat) (jT:Int->Nat->Nat->Nat->Nat->Hp->OA) :Nat->Sl->Nat->Nat->Nat->Nat->Int->Int->Hp->OA
 | 0,_,_,_,_,_,_,_,_=>none
 | ic+1,ij,au,ag,aw,du,lY,kz,H10=>(bif (decide (kz<lY)) then ((Sl.idx ij kz 1).bind λp15=>(Hp.ldI H10 .i64 p15.1 p15.2).bind λn16=>(jT n16 au ag aw du H10).bind λr17=>((r17.1).asB).bind λb18=>(bif b18 then (some ((.int .i64 kz),r17.2)) else (dJ.l13 F jT ic ij au ag aw du lY (IntKind.i64.wrap (kz+1)) r17.2))) else (some ((.int .i64 (-1)),H10)))
termination_by structural n=>n
def dJ.twX (F:Nat) (jT:Int->Nat->Nat->Nat->Nat->Hp->OA) (aa:Sl) (au:Nat) (ag:Nat) (aw:Nat) (du:Nat) (H:Hp):OA:=dJ.l13 F jT F aa au ag aw du (aa.n:Int) 0 H
def dJ.tw (F:Nat) (aa:Sl) (au:Nat) (ag:Nat) (aw:Nat) (du:Nat) (H:Hp):OA:=dJ.twX F (h_.tw F) aa au ag aw du H
def dJ.lh13 (F:Nat) (jT:Int->Nat->Nat->Nat->Nat->Hp->OA) (ks:List Nat) (n:Nat) (tm:Tm) (H:Hp):OA:=match ks,tm 0,tm 1,tm 7,tm 8 with
 | [],(.sl ij),(.fn 156 [(.ptr au ag),(.ptr aw du)]),(.int .i64 lY),(.int .i64 kz)=>dJ.l13 F jT n ij au ag aw du lY kz H
 | _,_,_,_,_=>none
theorem dJ.lh13_inv {F:Nat} {jT:Int->Nat->Nat->Nat->Nat->Hp->OA} {ks:List Nat} {n:Nat} {tm:Tm} {H:Hp} {r:AV×Hp} (h:dJ.lh13 F jT ks n tm H=some r):∃ ij au ag aw du lY kz,ks=[]/\eD tm [(0,(.sl ij)),(1,(.fn 156 [(.ptr au ag),(.ptr aw du)])),(7,(.int .i64 lY)),(8,(.int .i64 kz))]/\dJ.l13 F jT n ij au ag aw du lY kz H=some r:=by
 unfold dJ.lh13 at h
 split at h
 ·exact ⟨_,_,_,_,_,_,_,rfl,⟨‹_›,‹_›,‹_›,‹_›,trivial⟩,h⟩
 ·cases h
def dJ.lh (F:Nat) (jT:Int->Nat->Nat->Nat->Nat->Hp->OA) (p:Nat) (ks:List Nat) (n:Nat) (tm:Tm) (H:Hp):OA:=bif p.beq 13 then dJ.lh13 F jT ks n tm H else (none)
def dJ.mk (g:Sl->Nat->Nat->Nat->Nat->Hp->OA) (args:List AV) (H:Hp):OA:=match args with
 | [(.sl aa),(.fn 156 [(.ptr au ag),(.ptr aw du)])]=>g aa au ag aw du H
 | _=>none
def dJ.cs (F:Nat) (jT:Int->Nat->Nat->Nat->Nat->Hp->OA):Cs:=[(156,h_.mk jT)]
theorem dJ.loops (F:Nat) (jT:Int->Nat->Nat->Nat->Nat->Hp->OA):LO (bG (dJ.cs F jT)) bw (dJ.lh F jT) F Try.f117:=
 (ai.rt (ai.lt (ai.rt (ai.block (ai.loop (λtm H=>eG λr h=>by obtain ⟨ij,au,ag,aw,du,lY,kz,hks,e,h⟩:=dJ.lh13_inv (show dJ.lh13 F jT [] 0 tm H=some r from h);cases h) (λk13 tm H r h=>by obtain ⟨ij,au,ag,aw,du,lY,kz,hks,e,h⟩:=dJ.lh13_inv (show dJ.lh13 F jT [] (k13+1) tm H=some r from h);rw [<- eE e];exact Eq.trans (by kernel_rfl) h) λk13=>ai.no)))))
theorem dJ.eqX (F:Nat) (jT:Int->Nat->Nat->Nat->Nat->Hp->OA) (aa:Sl) (au:Nat) (ag:Nat) (aw:Nat) (du:Nat) (H:Hp):EX (bG (dJ.cs F jT)) bw (dJ.lh F jT) F Try.f117 [(.sl aa),(.fn 156 [(.ptr au ag),(.ptr aw du)])] H=dJ.twX F jT aa au ag aw du H:=by kernel_rfl
theorem dJ.k (F:Nat):Ok Try.prog 117 (dJ.mk (dJ.tw F)):=by
 intro args H v H' h
 unfold dJ.mk at h
 split at h
 ·exact okT (TB:=bw) Try.func117 (bM (h_.k F) di) (dJ.loops F (h_.tw F)) ((dJ.eqX F (h_.tw F) _ _ _ _ _ H).trans h) (by kernel_rfl)
 ·cases h
def ia.twX (F:Nat) (tj:Sl->Nat->Nat->Nat->Nat->Hp->OA) (aa:Sl) (au:Nat) (ag:Nat) (aw:Nat) (du:Nat) (H:Hp):OA:=(tj aa au ag aw du H).bind λr6=>((r6.1).asI .i64).bind λn7=>some ((.bool (decide (n7>=0))),r6.2)
def ia.tw (F:Nat) (aa:Sl) (au:Nat) (ag:Nat) (aw:Nat) (du:Nat) (H:Hp):OA:=ia.twX F (dJ.tw F) aa au ag aw du H
def ia.mk (g:Sl->Nat->Nat->Nat->Nat->Hp->OA) (args:List AV) (H:Hp):OA:=match args with
 | [(.sl aa),(.fn 156 [(.ptr au ag),(.ptr aw du)])]=>g aa au ag aw du H
 | _=>none
def ia.cs (F:Nat) (tj:Sl->Nat->Nat->Nat->Nat->Hp->OA):Cs:=[(117,dJ.mk tj)]
theorem ia.eqX (F:Nat) (tj:Sl->Nat->Nat->Nat->Nat->Hp->OA) (aa:Sl) (au:Nat) (ag:Nat) (aw:Nat) (du:Nat) (H:Hp):EX (bG (ia.cs F tj)) bw lh0 F Try.f81 [(.sl aa),(.fn 156 [(.ptr au ag),(.ptr aw du)])] H=ia.twX F tj aa au ag aw du H:=by kernel_rfl
theorem ia.k (F:Nat):Ok Try.prog 81 (ia.mk (ia.tw F)):=by
 intro args H v H' h
 unfold ia.mk at h
 split at h
 ·exact okT (TB:=bw) Try.func81 (bM (dJ.k F) di) ai.no ((ia.eqX F (dJ.tw F) _ _ _ _ _ H).trans h) (by kernel_rfl)
 ·cases h
def dd.l29 (F:Nat) (bR:Int->Int->Sl->Int->Hp->OA) (jU:Sl->Nat->Nat->Nat->Nat->Hp->OA) :Nat->Nat->Nat->Nat->Nat->Int->Hp->OA
 | 0,_,_,_,_,_,_=>none
 | eM+1,eH,eJ,lA,jc,fv,H22=>(Hp.ldI H22 .i64 lA jc).bind λn33=>(bif (decide (fv<n33)) then ((Hp.ldI H22 .i64 lA jc).bind λn34=>(Hp.ldI H22 .i64 lA (jc+1)).bind λn35=>(Hp.ldSl H22 lA (jc+2)).bind λs36=>(bR n34 n35 s36 fv H22).bind λr37=>((r37.1).asSl).bind λs38=>(if bh H22 r37.2 then ((Hp.ldI r37.2 .i64 eH eJ).bind λn39=>(Sl.cut s38 1 (IntKind.i64.wrap (n39+1)) (s38.n:Int)).bind λs40=>(jU s40 lA jc eH eJ r37.2).bind λr41=>((r41.1).asB).bind λb42=>(bif b42 then (some ((.int .i64 fv),r41.2)) else (dd.l29 F bR jU eM eH eJ lA jc (IntKind.i64.wrap (fv+1)) r41.2))) else none)) else (some ((.int .i64 (-1)),H22)))
termination_by structural n=>n
def dd.twX (F:Nat) (bR:Int->Int->Sl->Int->Hp->OA) (jU:Sl->Nat->Nat->Nat->Nat->Hp->OA) (aa:Nat) (af:Nat) (ag:Int) (H:Hp):OA:=(Hp.new H [(.int .i64 ag)]).bind λH4=>(Hp.ldI H4 .i64 aa (af+6)).bind λn5=>(Hp.ldI H4 .i64 aa ((af+6)+1)).bind λn6=>(Hp.ldSl H4 aa ((af+6)+2)).bind λs7=>(Hp.new H4 [.int .i64 0,.int .i64 0,.sl ⟨none,0,.ex 0⟩]).bind λH8=>(Hp.st H8 H4.length 0 (.int .i64 n5)).bind λH9=>(Hp.st H9 H4.length (0+1) (.int .i64 n6)).bind λH10=>(Hp.st H10 H4.length (0+1+1) (.sl s7)).bind λH11=>(Hp.ldI H11 .i64 H.length 0).bind λn12=>dd.l29 F bR jU F H.length 0 H4.length 0 (IntKind.i64.wrap (n12+1)) H11
def dd.tw (F:Nat) (aa:Nat) (af:Nat) (ag:Int) (H:Hp):OA:=dd.twX F (eA.tw F) (ia.tw F) aa af ag H
def dd.lh29 (F:Nat) (bR:Int->Int->Sl->Int->Hp->OA) (jU:Sl->Nat->Nat->Nat->Nat->Hp->OA) (ks:List Nat) (n:Nat) (tm:Tm) (H:Hp):OA:=match ks,tm 3,tm 5,tm 6 with
 | [],(.ptr eH eJ),(.ptr lA jc),(.int .i64 fv)=>dd.l29 F bR jU n eH eJ lA jc fv H
 | _,_,_,_=>none
theorem dd.lh29_inv {F:Nat} {bR:Int->Int->Sl->Int->Hp->OA} {jU:Sl->Nat->Nat->Nat->Nat->Hp->OA} {ks:List Nat} {n:Nat} {tm:Tm} {H:Hp} {r:AV×Hp} (h:dd.lh29 F bR jU ks n tm H=some r):∃ eH eJ lA jc fv,ks=[]/\eD tm [(3,(.ptr eH eJ)),(5,(.ptr lA jc)),(6,(.int .i64 fv))]/\dd.l29 F bR jU n eH eJ lA jc fv H=some r:=by
 unfold dd.lh29 at h
 split at h
 ·exact ⟨_,_,_,_,_,rfl,⟨‹_›,‹_›,‹_›,trivial⟩,h⟩
 ·cases h
def dd.lh (F:Nat) (bR:Int->Int->Sl->Int->Hp->OA) (jU:Sl->Nat->Nat->Nat->Nat->Hp->OA) (p:Nat) (ks:List Nat) (n:Nat) (tm:Tm) (H:Hp):OA:=bif p.beq 29 then dd.lh29 F bR jU ks n tm H else (none)
def dd.pn:Nat->List Nat:=fA [(5,[7])]
def dd.tb:Nat->List (List Nat):=fA [(5,[[],[],[0,1],[],[3],[0,1,2,3,4],[],[0,1,2,3,4,5,6]])]
def dd.mk (g:Nat->Nat->Int->Hp->OA) (args:List AV) (H:Hp):OA:=match args with
 | [(.ptr aa af),(.int .i64 ag)]=>g aa af ag H
 | _=>none
def dd.cs (F:Nat) (bR:Int->Int->Sl->Int->Hp->OA) (jU:Sl->Nat->Nat->Nat->Nat->Hp->OA):Cs:=[(120,eA.mk bR),(81,ia.mk jU)]
theorem dd.loops (F:Nat) (bR:Int->Int->Sl->Int->Hp->OA) (jU:Sl->Nat->Nat->Nat->Nat->Hp->OA):LO (bG (dd.cs F bR jU)) dd.pn (dd.lh F bR jU) F Try.f136:=
 (ai.rt (ai.rt (ai.lt (ai.rt (ai.block (ai.loop (λtm H=>eG λr h=>by obtain ⟨eH,eJ,lA,jc,fv,hks,e,h⟩:=dd.lh29_inv (show dd.lh29 F bR jU [] 0 tm H=some r from h);cases h) (λk29 tm H r h=>by obtain ⟨eH,eJ,lA,jc,fv,hks,e,h⟩:=dd.lh29_inv (show dd.lh29 F bR jU [] (k29+1) tm H=some r from h);rw [<- eE e];exact Eq.trans (by kernel_rfl) h) λk29=>ai.no))))))
theorem dd.eqX (F:Nat) (bR:Int->Int->Sl->Int->Hp->OA) (jU:Sl->Nat->Nat->Nat->Nat->Hp->OA) (aa:Nat) (af:Nat) (ag:Int) (H:Hp):EX (bG (dd.cs F bR jU)) dd.pn (dd.lh F bR jU) F Try.f136 [(.ptr aa af),(.int .i64 ag)] H=dd.twX F bR jU aa af ag H:=by kernel_rfl
theorem dd.k (F:Nat):Ok Try.prog 136 (dd.mk (dd.tw F)):=by
 intro args H v H' h
 unfold dd.mk at h
 split at h
 ·exact okT (TB:=dd.tb) Try.func136 (bM (eA.k F) (bM (ia.k F) di)) (dd.loops F (eA.tw F) (ia.tw F)) ((dd.eqX F (eA.tw F) (ia.tw F) _ _ _ H).trans h) (by kernel_rfl)
 ·cases h
def bv.j4 (F:Nat) (gM:Nat->Nat->Int->Hp->OA) (gN:Nat->Nat->Int->Hp->OA) (gO:Nat->Nat->Int->Hp->OA) (gP:Nat->Nat->Int->Hp->OA) (cW:Nat->Nat->Int->Int->Int->Hp->OA) (C3_:Nat->Nat->Int->Hp->OA) (IK:Nat) (IL:Nat) (tl:Int) (H57:Hp):OA:=C3_ IK IL tl H57
def bv.j5 (F:Nat) (gM:Nat->Nat->Int->Hp->OA) (gN:Nat->Nat->Int->Hp->OA) (gO:Nat->Nat->Int->Hp->OA) (gP:Nat->Nat->Int->Hp->OA) (cW:Nat->Nat->Int->Int->Int->Hp->OA) (C3_:Nat->Nat->Int->Hp->OA) (IM:Nat) (IN:Nat) (tn:Int) (H80:Hp):OA:=C3_ IM IN tn H80
def bv.j6 (F:Nat) (gM:Nat->Nat->Int->Hp->OA) (gN:Nat->Nat->Int->Hp->OA) (gO:Nat->Nat->Int->Hp->OA) (gP:Nat->Nat->Int->Hp->OA) (cW:Nat->Nat->Int->Int->Int->Hp->OA) (C3_:Nat->Nat->Int->Hp->OA) (sv:Nat) (sx:Nat) (tp:Int) (H71:Hp):OA:=bv.j5 F gM gN gO gP cW C3_ sv sx tp H71
def bv.l3 (F:Nat) (gM:Nat->Nat->Int->Hp->OA) (gN:Nat->Nat->Int->Hp->OA) (gO:Nat->Nat->Int->Hp->OA) (gP:Nat->Nat->Int->Hp->OA) (cW:Nat->Nat->Int->Int->Int->Hp->OA) :Nat->Nat->Nat->Int->Hp->OA
 | 0,_,_,_,_=>none
 | vU+1,cX,dB,gW,H6=>(Hp.ldB H6 cX (dB+15)).bind λb44=>(bif (!b44) then ((Hp.ldI H6 .i64 cX (dB+6)).bind λn45=>(Hp.ldI H6 .i64 cX ((dB+6)+1)).bind λn46=>(bif (decide (gW<(if n46<n45 then n46 else n45))) then ((gM cX dB gW H6).bind λr47=>((r47.1).asB).bind λb48=>(bif (!b48) then (some ((.tup []),r47.2)) else ((gN cX dB gW r47.2).bind λr49=>(Hp.ldB r49.2 cX (dB+15)).bind λb50=>(bif b50 then (bv.j4 F gM gN gO gP cW (bv.l3 F gM gN gO gP cW vU) cX dB gW r49.2) else ((gO cX dB gW r49.2).bind λr58=>((r58.1).asB).bind λb59=>(bif (!b59) then (bv.j4 F gM gN gO gP cW (bv.l3 F gM gN gO gP cW vU) cX dB gW r58.2) else ((gP cX dB gW r58.2).bind λr60=>((r60.1).asI .i64).bind λn61=>(bif (decide (n61>=0)) then ((cW cX dB gW n61 1 r60.2).bind λr62=>bv.j6 F gM gN gO gP cW (bv.l3 F gM gN gO gP cW vU) cX dB gW r62.2) else (bv.j6 F gM gN gO gP cW (bv.l3 F gM gN gO gP cW vU) cX dB (IntKind.i64.wrap (gW+1)) r60.2))))))))) else (some ((.tup []),H6)))) else (some ((.tup []),H6)))
termination_by structural n=>n
def bv.twX (F:Nat) (gM:Nat->Nat->Int->Hp->OA) (gN:Nat->Nat->Int->Hp->OA) (gO:Nat->Nat->Int->Hp->OA) (gP:Nat->Nat->Int->Hp->OA) (cW:Nat->Nat->Int->Int->Int->Hp->OA) (aa:Nat) (af:Nat) (H:Hp):OA:=bv.l3 F gM gN gO gP cW F aa af 0 H
def bv.tw (F:Nat) (aa:Nat) (af:Nat) (H:Hp):OA:=bv.twX F (bs.tw F) (aR.tw F) (cI.tw F) (dd.tw F) (eQ.tw F) aa af H
def bv.lh3 (F:Nat) (gM:Nat->Nat->Int->Hp->OA) (gN:Nat->Nat->Int->Hp->OA) (gO:Nat->Nat->Int->Hp->OA) (gP:Nat->Nat->Int->Hp->OA) (cW:Nat->Nat->Int->Int->Int->Hp->OA) (ks:List Nat) (n:Nat) (tm:Tm) (H:Hp):OA:=match ks,tm 0,tm 2 with
 | [],(.ptr cX dB),(.int .i64 gW)=>bv.l3 F gM gN gO gP cW n cX dB gW H
 | _,_,_=>none
theorem bv.lh3_inv {F:Nat} {gM:Nat->Nat->Int->Hp->OA} {gN:Nat->Nat->Int->Hp->OA} {gO:Nat->Nat->Int->Hp->OA} {gP:Nat->Nat->Int->Hp->OA} {cW:Nat->Nat->Int->Int->Int->Hp->OA} {ks:List Nat} {n:Nat} {tm:Tm} {H:Hp} {r:AV×Hp} (h:bv.lh3 F gM gN gO gP cW ks n tm H=some r):∃ cX dB gW,ks=[]/\eD tm [(0,(.ptr cX dB)),(2,(.int .i64 gW))]/\bv.l3 F gM gN gO gP cW n cX dB gW H=some r:=by
 unfold bv.lh3 at h
 split at h
 ·exact ⟨_,_,_,rfl,⟨‹_›,‹_›,trivial⟩,h⟩
 ·cases h
def bv.lh (F:Nat) (gM:Nat->Nat->Int->Hp->OA) (gN:Nat->Nat->Int->Hp->OA) (gO:Nat->Nat->Int->Hp->OA) (gP:Nat->Nat->Int->Hp->OA) (cW:Nat->Nat->Int->Int->Int->Hp->OA) (p:Nat) (ks:List Nat) (n:Nat) (tm:Tm) (H:Hp):OA:=bif p.beq 3 then bv.lh3 F gM gN gO gP cW ks n tm H else (none)
def bv.tb:Nat->List (List Nat):=fA [(1,[[],[0],[0,1],[0,1,2],[0,1,2,3],[0,1,2,3,4],[0,1,2,3,4,5],[0,1,2,3,4,5],[0,1,2,3,4,5,7],[0,1,2,3,4,5,7,8],[0,1,2,3,4,5,7,8,9],[0,1,2,3,4,5,7,8,9,10],[0,1,2,3,4,5,7,8,9,10,11],[0,1,2,3,4,5],[0,1,2,3,4,5,13],[0,1,2,3,4,5,13,14],[0,1,2,3,4,5,13,14,15],[0,1,2,3,4,5,13,14,15,16],[0,1,2,3,4,5,13,14,15,16,17],[0,1,2,3,4,5,7,8,9,10,11,12,13,14,15,16,17,18],[0,1,2,3,4,5,6,7,8,9,10,11,12,13,14,15,16,17,18,19],[0,1,2,3,4,5,6,7,8,9,10,11,12,13,14,15,16,17,18,19,20]])]
def bv.mk (g:Nat->Nat->Hp->OA) (args:List AV) (H:Hp):OA:=match args with
 | [(.ptr aa af)]=>g aa af H
 | _=>none
def bv.cs (F:Nat) (gM:Nat->Nat->Int->Hp->OA) (gN:Nat->Nat->Int->Hp->OA) (gO:Nat->Nat->Int->Hp->OA) (gP:Nat->Nat->Int->Hp->OA) (cW:Nat->Nat->Int->Int->Int->Hp->OA):Cs:=[(133,bs.mk gM),(134,aR.mk gN),(135,cI.mk gO),(136,dd.mk gP),(137,eQ.mk cW)]
theorem bv.loops (F:Nat) (gM:Nat->Nat->Int->Hp->OA) (gN:Nat->Nat->Int->Hp->OA) (gO:Nat->Nat->Int->Hp->OA) (gP:Nat->Nat->Int->Hp->OA) (cW:Nat->Nat->Int->Int->Int->Hp->OA):LO (bG (bv.cs F gM gN gO gP cW)) bw (bv.lh F gM gN gO gP cW) F Try.f109:=
 (ai.rt (ai.block (ai.loop (λtm H=>eG λr h=>by obtain ⟨cX,dB,gW,hks,e,h⟩:=bv.lh3_inv (show bv.lh3 F gM gN gO gP cW [] 0 tm H=some r from h);cases h) (λk3 tm H r h=>by obtain ⟨cX,dB,gW,hks,e,h⟩:=bv.lh3_inv (show bv.lh3 F gM gN gO gP cW [] (k3+1) tm H=some r from h);rw [<- eE e];exact Eq.trans (by kernel_rfl) h) λk3=>ai.no)))
theorem bv.eqX (F:Nat) (gM:Nat->Nat->Int->Hp->OA) (gN:Nat->Nat->Int->Hp->OA) (gO:Nat->Nat->Int->Hp->OA) (gP:Nat->Nat->Int->Hp->OA) (cW:Nat->Nat->Int->Int->Int->Hp->OA) (aa:Nat) (af:Nat) (H:Hp):EX (bG (bv.cs F gM gN gO gP cW)) bw (bv.lh F gM gN gO gP cW) F Try.f109 [(.ptr aa af)] H=bv.twX F gM gN gO gP cW aa af H:=by kernel_rfl
theorem bv.k (F:Nat):Ok Try.prog 109 (bv.mk (bv.tw F)):=by
 intro args H v H' h
 unfold bv.mk at h
 split at h
 ·exact okT (TB:=bv.tb) Try.func109 (bM (bs.k F) (bM (aR.k F) (bM (cI.k F) (bM (dd.k F) (bM (eQ.k F) di))))) (bv.loops F (bs.tw F) (aR.tw F) (cI.tw F) (dd.tw F) (eQ.tw F)) ((bv.eqX F (bs.tw F) (aR.tw F) (cI.tw F) (dd.tw F) (eQ.tw F) _ _ H).trans h) (by kernel_rfl)
 ·cases h
def gQ.twX (F:Nat) (tq:Int->Int->Sl->Hp->OA) (tt:Nat->Nat->Hp->OA) (aa:Int) (af:Int) (bz:Sl) (H:Hp):OA:=(Hp.new H [(.int .i64 aa),(.int .i64 af),(.sl bz)]).bind λH4=>(Hp.new H4 [.int .i64 0,.int .i64 0,.sl ⟨none,0,.ex 0⟩,.int .i64 0,.int .i64 0,.sl ⟨none,0,.ex 0⟩,.int .i64 0,.int .i64 0,.sl ⟨none,0,.ex 0⟩,.int .i64 0,.int .i64 0,.sl ⟨none,0,.ex 0⟩,.int .i64 0,.int .i64 0,.sl ⟨none,0,.ex 0⟩]).bind λH5=>(Hp.ldI H5 .i64 H.length 0).bind λn6=>(Hp.ldI H5 .i64 H.length (0+1)).bind λn7=>(Hp.ldSl H5 H.length (0+2)).bind λs8=>(tq n6 n7 s8 H5).bind λr9=>((r9.1).asP).bind λp10=>(tt p10.1 p10.2 r9.2).bind λr11=>(Hp.ldB r11.2 p10.1 (p10.2+15)).bind λb12=>(bif b12 then ((Hp.st r11.2 H4.length 0 (.int .i64 0)).bind λH13=>(Hp.st H13 H4.length (0+1) (.int .i64 0)).bind λH14=>(Hp.st H14 H4.length (0+1+1) (.sl (⟨none,0,.ex 0⟩:Sl))).bind λH15=>(Hp.st H15 H4.length (0+1+1+1) (.int .i64 0)).bind λH16=>(Hp.st H16 H4.length (0+1+1+1+1) (.int .i64 0)).bind λH17=>(Hp.st H17 H4.length (0+1+1+1+1+1) (.sl (⟨none,0,.ex 0⟩:Sl))).bind λH18=>(Hp.st H18 H4.length (0+1+1+1+1+1+1) (.int .i64 0)).bind λH19=>(Hp.st H19 H4.length (0+1+1+1+1+1+1+1) (.int .i64 0)).bind λH20=>(Hp.st H20 H4.length (0+1+1+1+1+1+1+1+1) (.sl (⟨none,0,.ex 0⟩:Sl))).bind λH21=>(Hp.st H21 H4.length (0+1+1+1+1+1+1+1+1+1) (.int .i64 0)).bind λH22=>(Hp.st H22 H4.length (0+1+1+1+1+1+1+1+1+1+1) (.int .i64 0)).bind λH23=>(Hp.st H23 H4.length (0+1+1+1+1+1+1+1+1+1+1+1) (.sl (⟨none,0,.ex 0⟩:Sl))).bind λH24=>(Hp.st H24 H4.length (0+1+1+1+1+1+1+1+1+1+1+1+1) (.int .i64 0)).bind λH25=>(Hp.st H25 H4.length (0+1+1+1+1+1+1+1+1+1+1+1+1+1) (.int .i64 0)).bind λH26=>(Hp.st H26 H4.length (0+1+1+1+1+1+1+1+1+1+1+1+1+1+1) (.sl (⟨none,0,.ex 0⟩:Sl))).bind λH27=>(Hp.ldI H27 .i64 H4.length 0).bind λn28=>(Hp.ldI H27 .i64 H4.length (0+1)).bind λn29=>(Hp.ldSl H27 H4.length (0+2)).bind λs30=>(Hp.ldI H27 .i64 H4.length (0+3)).bind λn31=>(Hp.ldI H27 .i64 H4.length (0+4)).bind λn32=>(Hp.ldSl H27 H4.length (0+5)).bind λs33=>(Hp.ldI H27 .i64 H4.length (0+6)).bind λn34=>(Hp.ldI H27 .i64 H4.length (0+7)).bind λn35=>(Hp.ldSl H27 H4.length (0+8)).bind λs36=>(Hp.ldI H27 .i64 H4.length (0+9)).bind λn37=>(Hp.ldI H27 .i64 H4.length (0+10)).bind λn38=>(Hp.ldSl H27 H4.length (0+11)).bind λs39=>(Hp.ldI H27 .i64 H4.length (0+12)).bind λn40=>(Hp.ldI H27 .i64 H4.length (0+13)).bind λn41=>(Hp.ldSl H27 H4.length (0+14)).bind λs42=>some ((.tup [(.agg [(.int .i64 n28),(.int .i64 n29),(.sl s30),(.int .i64 n31),(.int .i64 n32),(.sl s33),(.int .i64 n34),(.int .i64 n35),(.sl s36),(.int .i64 n37),(.int .i64 n38),(.sl s39),(.int .i64 n40),(.int .i64 n41),(.sl s42)]),(.int .i64 3)]),H27)) else ((Hp.ldI r11.2 .i64 p10.1 p10.2).bind λn43=>(Hp.ldI r11.2 .i64 p10.1 (p10.2+1)).bind λn44=>(Hp.ldSl r11.2 p10.1 (p10.2+2)).bind λs45=>(Hp.ldI r11.2 .i64 p10.1 (p10.2+3)).bind λn46=>(Hp.ldI r11.2 .i64 p10.1 (p10.2+4)).bind λn47=>(Hp.ldSl r11.2 p10.1 (p10.2+5)).bind λs48=>(Hp.ldI r11.2 .i64 p10.1 (p10.2+6)).bind λn49=>(Hp.ldI r11.2 .i64 p10.1 (p10.2+7)).bind λn50=>(Hp.ldSl r11.2 p10.1 (p10.2+8)).bind λs51=>(Hp.ldI r11.2 .i64 p10.1 (p10.2+9)).bind λn52=>(Hp.ldI r11.2 .i64 p10.1 (p10.2+10)).bind λn53=>(Hp.ldSl r11.2 p10.1 (p10.2+11)).bind λs54=>(Hp.ldI r11.2 .i64 p10.1 (p10.2+12)).bind λn55=>(Hp.ldI r11.2 .i64 p10.1 (p10.2+13)).bind λn56=>(Hp.ldSl r11.2 p10.1 (p10.2+14)).bind λs57=>(Hp.st r11.2 H4.length 0 (.int .i64 n43)).bind λH58=>(Hp.st H58 H4.length (0+1) (.int .i64 n44)).bind λH59=>(Hp.st H59 H4.length (0+1+1) (.sl s45)).bind λH60=>(Hp.st H60 H4.length (0+1+1+1) (.int .i64 n46)).bind λH61=>(Hp.st H61 H4.length (0+1+1+1+1) (.int .i64 n47)).bind λH62=>(Hp.st H62 H4.length (0+1+1+1+1+1) (.sl s48)).bind λH63=>(Hp.st H63 H4.length (0+1+1+1+1+1+1) (.int .i64 n49)).bind λH64=>(Hp.st H64 H4.length (0+1+1+1+1+1+1+1) (.int .i64 n50)).bind λH65=>(Hp.st H65 H4.length (0+1+1+1+1+1+1+1+1) (.sl s51)).bind λH66=>(Hp.st H66 H4.length (0+1+1+1+1+1+1+1+1+1) (.int .i64 n52)).bind λH67=>(Hp.st H67 H4.length (0+1+1+1+1+1+1+1+1+1+1) (.int .i64 n53)).bind λH68=>(Hp.st H68 H4.length (0+1+1+1+1+1+1+1+1+1+1+1) (.sl s54)).bind λH69=>(Hp.st H69 H4.length (0+1+1+1+1+1+1+1+1+1+1+1+1) (.int .i64 n55)).bind λH70=>(Hp.st H70 H4.length (0+1+1+1+1+1+1+1+1+1+1+1+1+1) (.int .i64 n56)).bind λH71=>(Hp.st H71 H4.length (0+1+1+1+1+1+1+1+1+1+1+1+1+1+1) (.sl s57)).bind λH72=>(Hp.ldI H72 .i64 H4.length 0).bind λn73=>(Hp.ldI H72 .i64 H4.length (0+1)).bind λn74=>(Hp.ldSl H72 H4.length (0+2)).bind λs75=>(Hp.ldI H72 .i64 H4.length (0+3)).bind λn76=>(Hp.ldI H72 .i64 H4.length (0+4)).bind λn77=>(Hp.ldSl H72 H4.length (0+5)).bind λs78=>(Hp.ldI H72 .i64 H4.length (0+6)).bind λn79=>(Hp.ldI H72 .i64 H4.length (0+7)).bind λn80=>(Hp.ldSl H72 H4.length (0+8)).bind λs81=>(Hp.ldI H72 .i64 H4.length (0+9)).bind λn82=>(Hp.ldI H72 .i64 H4.length (0+10)).bind λn83=>(Hp.ldSl H72 H4.length (0+11)).bind λs84=>(Hp.ldI H72 .i64 H4.length (0+12)).bind λn85=>(Hp.ldI H72 .i64 H4.length (0+13)).bind λn86=>(Hp.ldSl H72 H4.length (0+14)).bind λs87=>some ((.tup [(.agg [(.int .i64 n73),(.int .i64 n74),(.sl s75),(.int .i64 n76),(.int .i64 n77),(.sl s78),(.int .i64 n79),(.int .i64 n80),(.sl s81),(.int .i64 n82),(.int .i64 n83),(.sl s84),(.int .i64 n85),(.int .i64 n86),(.sl s87)]),(.int .i64 0)]),H72)))
def gQ.tw (F:Nat) (aa:Int) (af:Int) (bz:Sl) (H:Hp):OA:=gQ.twX F (jt.tw F) (bv.tw F) aa af bz H
def gQ.mk (g:Int->Int->Sl->Hp->OA) (args:List AV) (H:Hp):OA:=match args with
 | [(.agg [(.int .i64 aa),(.int .i64 af),(.sl bz)])]=>g aa af bz H
 | _=>none
def gQ.cs (F:Nat) (tq:Int->Int->Sl->Hp->OA) (tt:Nat->Nat->Hp->OA):Cs:=[(108,jt.mk tq),(109,bv.mk tt)]
theorem gQ.eqX (F:Nat) (tq:Int->Int->Sl->Hp->OA) (tt:Nat->Nat->Hp->OA) (aa:Int) (af:Int) (bz:Sl) (H:Hp):EX (bG (gQ.cs F tq tt)) bw lh0 F Try.f62 [(.agg [(.int .i64 aa),(.int .i64 af),(.sl bz)])] H=gQ.twX F tq tt aa af bz H:=by kernel_rfl
theorem gQ.k (F:Nat):Ok Try.prog 62 (gQ.mk (gQ.tw F)):=by
 intro args H v H' h
 unfold gQ.mk at h
 split at h
 ·exact okT (TB:=bw) Try.func62 (bM (jt.k F) (bM (bv.k F) di)) ai.no ((gQ.eqX F (jt.tw F) (bv.tw F) _ _ _ H).trans h) (by kernel_rfl)
 ·cases h
def cz.j2 (F:Nat) (i_:Int->Int->Sl->Hp->OA) (aj:Int->Int->Sl->Int->Int->Hp->OA) (C125_:Nat->Nat->Sl->Int->Int->Hp->OA) (vV:Nat) (IP:Nat) (IQ:Sl) (tu:Int) (tv:Int) (H132:Hp):OA:=C125_ vV IP IQ tu (IntKind.i64.wrap (tv+1)) H132
def cz.l125 (F:Nat) (i_:Int->Int->Sl->Hp->OA) (aj:Int->Int->Sl->Int->Int->Hp->OA) :Nat->Nat->Nat->Sl->Int->Int->Hp->OA
 | 0,_,_,_,_,_,_=>none
 | vN+1,lZ,np,oc,lx,jV,H76=>(bif (decide (jV<lx)) then ((Hp.ldI H76 .i64 lZ (np+6)).bind λn105=>(Hp.ldI H76 .i64 lZ ((np+6)+1)).bind λn106=>(Hp.ldSl H76 lZ ((np+6)+2)).bind λs107=>(aj n105 n106 s107 jV jV H76).bind λr108=>((r108.1).asP).bind λp109=>(Hp.ldI r108.2 .i64 p109.1 p109.2).bind λn110=>(bif (n110 != 0) then ((Hp.new r108.2 [(.int .i64 n110)]).bind λH111=>(Sl.row H111 (⟨some (r108.2.length,0),1,.ex 1⟩:Sl) 1).bind λxs113=>(Hp.app H111 1 8 oc (⟨some (r108.2.length,0),1,.ex 1⟩:Sl).n xs113).bind λa112=>cz.j2 F i_ aj (cz.l125 F i_ aj vN) lZ np a112.1 lx jV a112.2) else (cz.j2 F i_ aj (cz.l125 F i_ aj vN) lZ np oc lx jV r108.2))) else (some ((.tup [(.sl oc),(.int .i64 0)]),H76)))
termination_by structural n=>n
def cz.twX (F:Nat) (i_:Int->Int->Sl->Hp->OA) (aj:Int->Int->Sl->Int->Int->Hp->OA) (aa:Int) (af:Int) (bz:Sl) (H:Hp):OA:=(Hp.new H [(.int .i64 aa),(.int .i64 af),(.sl bz)]).bind λH4=>(Hp.ldI H4 .i64 H.length 0).bind λn5=>(Hp.ldI H4 .i64 H.length (0+1)).bind λn6=>(Hp.ldSl H4 H.length (0+2)).bind λs7=>(i_ n5 n6 s7 H4).bind λr8=>((r8.1).asTup 2).bind λl9=>(l9[0]?).bind λv10=>((v10).asAgg 15).bind λl11=>(l11[0]?).bind λv12=>((v12).asI .i64).bind λn13=>(l11[1]?).bind λv14=>((v14).asI .i64).bind λn15=>(l11[2]?).bind λv16=>((v16).asSl).bind λs17=>(l11[3]?).bind λv18=>((v18).asI .i64).bind λn19=>(l11[4]?).bind λv20=>((v20).asI .i64).bind λn21=>(l11[5]?).bind λv22=>((v22).asSl).bind λs23=>(l11[6]?).bind λv24=>((v24).asI .i64).bind λn25=>(l11[7]?).bind λv26=>((v26).asI .i64).bind λn27=>(l11[8]?).bind λv28=>((v28).asSl).bind λs29=>(l11[9]?).bind λv30=>((v30).asI .i64).bind λn31=>(l11[10]?).bind λv32=>((v32).asI .i64).bind λn33=>(l11[11]?).bind λv34=>((v34).asSl).bind λs35=>(l11[12]?).bind λv36=>((v36).asI .i64).bind λn37=>(l11[13]?).bind λv38=>((v38).asI .i64).bind λn39=>(l11[14]?).bind λv40=>((v40).asSl).bind λs41=>(l9[1]?).bind λv42=>((v42).asI .i64).bind λn43=>(Hp.new r8.2 [.int .i64 0,.int .i64 0,.sl ⟨none,0,.ex 0⟩,.int .i64 0,.int .i64 0,.sl ⟨none,0,.ex 0⟩,.int .i64 0,.int .i64 0,.sl ⟨none,0,.ex 0⟩,.int .i64 0,.int .i64 0,.sl ⟨none,0,.ex 0⟩,.int .i64 0,.int .i64 0,.sl ⟨none,0,.ex 0⟩]).bind λH44=>(Hp.st H44 r8.2.length 0 (.int .i64 n13)).bind λH45=>(Hp.st H45 r8.2.length (0+1) (.int .i64 n15)).bind λH46=>(Hp.st H46 r8.2.length (0+1+1) (.sl s17)).bind λH47=>(Hp.st H47 r8.2.length (0+1+1+1) (.int .i64 n19)).bind λH48=>(Hp.st H48 r8.2.length (0+1+1+1+1) (.int .i64 n21)).bind λH49=>(Hp.st H49 r8.2.length (0+1+1+1+1+1) (.sl s23)).bind λH50=>(Hp.st H50 r8.2.length (0+1+1+1+1+1+1) (.int .i64 n25)).bind λH51=>(Hp.st H51 r8.2.length (0+1+1+1+1+1+1+1) (.int .i64 n27)).bind λH52=>(Hp.st H52 r8.2.length (0+1+1+1+1+1+1+1+1) (.sl s29)).bind λH53=>(Hp.st H53 r8.2.length (0+1+1+1+1+1+1+1+1+1) (.int .i64 n31)).bind λH54=>(Hp.st H54 r8.2.length (0+1+1+1+1+1+1+1+1+1+1) (.int .i64 n33)).bind λH55=>(Hp.st H55 r8.2.length (0+1+1+1+1+1+1+1+1+1+1+1) (.sl s35)).bind λH56=>(Hp.st H56 r8.2.length (0+1+1+1+1+1+1+1+1+1+1+1+1) (.int .i64 n37)).bind λH57=>(Hp.st H57 r8.2.length (0+1+1+1+1+1+1+1+1+1+1+1+1+1) (.int .i64 n39)).bind λH58=>(Hp.st H58 r8.2.length (0+1+1+1+1+1+1+1+1+1+1+1+1+1+1) (.sl s41)).bind λH59=>(bif (n43 != 0) then (some ((.tup [(.sl (⟨none,0,.ex 0⟩:Sl)),(.int .i64 n43)]),H59)) else ((Hp.ldI H59 .i64 H.length 0).bind λn60=>(Hp.ldI H59 .i64 H.length 1).bind λn61=>cz.l125 F i_ aj F r8.2.length 0 (⟨none,0,.ex 0⟩:Sl) (if n61<n60 then n61 else n60) 0 H59))
def cz.tw (F:Nat) (aa:Int) (af:Int) (bz:Sl) (H:Hp):OA:=cz.twX F (gQ.tw F) (bH.tw F) aa af bz H
def cz.lh125 (F:Nat) (i_:Int->Int->Sl->Hp->OA) (aj:Int->Int->Sl->Int->Int->Hp->OA) (ks:List Nat) (n:Nat) (tm:Tm) (H:Hp):OA:=match ks,tm 4,tm 6,tm 21,tm 22 with
 | [],(.ptr lZ np),(.sl oc),(.int .i64 lx),(.int .i64 jV)=>cz.l125 F i_ aj n lZ np oc lx jV H
 | _,_,_,_,_=>none
theorem cz.lh125_inv {F:Nat} {i_:Int->Int->Sl->Hp->OA} {aj:Int->Int->Sl->Int->Int->Hp->OA} {ks:List Nat} {n:Nat} {tm:Tm} {H:Hp} {r:AV×Hp} (h:cz.lh125 F i_ aj ks n tm H=some r):∃ lZ np oc lx jV,ks=[]/\eD tm [(4,(.ptr lZ np)),(6,(.sl oc)),(21,(.int .i64 lx)),(22,(.int .i64 jV))]/\cz.l125 F i_ aj n lZ np oc lx jV H=some r:=by
 unfold cz.lh125 at h
 split at h
 ·exact ⟨_,_,_,_,_,rfl,⟨‹_›,‹_›,‹_›,‹_›,trivial⟩,h⟩
 ·cases h
def cz.lh (F:Nat) (i_:Int->Int->Sl->Hp->OA) (aj:Int->Int->Sl->Int->Int->Hp->OA) (p:Nat) (ks:List Nat) (n:Nat) (tm:Tm) (H:Hp):OA:=bif p.beq 125 then cz.lh125 F i_ aj ks n tm H else (none)
def cz.mk (g:Int->Int->Sl->Hp->OA) (args:List AV) (H:Hp):OA:=match args with
 | [(.agg [(.int .i64 aa),(.int .i64 af),(.sl bz)])]=>g aa af bz H
 | _=>none
def cz.cs (F:Nat) (i_:Int->Int->Sl->Hp->OA) (aj:Int->Int->Sl->Int->Int->Hp->OA):Cs:=[(62,gQ.mk i_),(95,bH.mk aj)]
theorem cz.loops (F:Nat) (i_:Int->Int->Sl->Hp->OA) (aj:Int->Int->Sl->Int->Int->Hp->OA):LO (bG (cz.cs F i_ aj)) bw (cz.lh F i_ aj) F Try.f63:=
 (ai.rt (ai.rt (ai.rt (ai.rt (ai.lt (ai.rt (ai.block (ai.loop (λtm H=>eG λr h=>by obtain ⟨lZ,np,oc,lx,jV,hks,e,h⟩:=cz.lh125_inv (show cz.lh125 F i_ aj [] 0 tm H=some r from h);cases h) (λk125 tm H r h=>by obtain ⟨lZ,np,oc,lx,jV,hks,e,h⟩:=cz.lh125_inv (show cz.lh125 F i_ aj [] (k125+1) tm H=some r from h);rw [<- eE e];exact Eq.trans (by kernel_rfl) h) λk125=>ai.no))))))))
theorem cz.eqX (F:Nat) (i_:Int->Int->Sl->Hp->OA) (aj:Int->Int->Sl->Int->Int->Hp->OA) (aa:Int) (af:Int) (bz:Sl) (H:Hp):EX (bG (cz.cs F i_ aj)) bw (cz.lh F i_ aj) F Try.f63 [(.agg [(.int .i64 aa),(.int .i64 af),(.sl bz)])] H=cz.twX F i_ aj aa af bz H:=by kernel_rfl
theorem cz.k (F:Nat):Ok Try.prog 63 (cz.mk (cz.tw F)):=by
 intro args H v H' h
 unfold cz.mk at h
 split at h
 ·exact okT (TB:=bw) Try.func63 (bM (gQ.k F) (bM (bH.k F) di)) (cz.loops F (gQ.tw F) (bH.tw F)) ((cz.eqX F (gQ.tw F) (bH.tw F) _ _ _ H).trans h) (by kernel_rfl)
 ·cases h
def fY.twX (F:Nat) (aa:Int) (H:Hp):OA:=some ((.bool (aa == 1)),H)
def fY.tw (F:Nat) (aa:Int) (H:Hp):OA:=fY.twX F aa H
def fY.mk (g:Int->Hp->OA) (args:List AV) (H:Hp):OA:=match args with
 | [(.int .i64 aa)]=>g aa H
 | _=>none
theorem fY.eqX (F:Nat) (aa:Int) (H:Hp):EX (bG []) bw lh0 F Try.f119 [(.int .i64 aa)] H=fY.twX F aa H:=by kernel_rfl
theorem fY.k (F:Nat):Ok Try.prog 119 (fY.mk (fY.tw F)):=by
 intro args H v H' h
 unfold fY.mk at h
 split at h
 ·exact okT (TB:=bw) Try.func119 di ai.no ((fY.eqX F _ H).trans h) (by kernel_rfl)
 ·cases h
def dE.l13 (F:Nat) (eB:Int->Hp->OA) :Nat->Sl->Int->Int->Hp->OA
 | 0,_,_,_,_=>none
 | ic+1,il,gL,fD,H6=>(bif (decide (fD<gL)) then ((Sl.idx il fD 1).bind λp11=>(Hp.ldI H6 .i64 p11.1 p11.2).bind λn12=>(eB n12 H6).bind λr13=>((r13.1).asB).bind λb14=>(bif b14 then (some ((.int .i64 fD),r13.2)) else (dE.l13 F eB ic il gL (IntKind.i64.wrap (fD+1)) r13.2))) else (some ((.int .i64 (-1)),H6)))
termination_by structural n=>n
def dE.twX (F:Nat) (eB:Int->Hp->OA) (aa:Sl) (H:Hp):OA:=dE.l13 F eB F aa (aa.n:Int) 0 H
def dE.tw (F:Nat) (aa:Sl) (H:Hp):OA:=dE.twX F (fY.tw F) aa H
def dE.lh13 (F:Nat) (eB:Int->Hp->OA) (ks:List Nat) (n:Nat) (tm:Tm) (H:Hp):OA:=match ks,tm 0,tm 1,tm 7,tm 8 with
 | [],(.sl il),(.fn 119 []),(.int .i64 gL),(.int .i64 fD)=>dE.l13 F eB n il gL fD H
 | _,_,_,_,_=>none
theorem dE.lh13_inv {F:Nat} {eB:Int->Hp->OA} {ks:List Nat} {n:Nat} {tm:Tm} {H:Hp} {r:AV×Hp} (h:dE.lh13 F eB ks n tm H=some r):∃ il gL fD,ks=[]/\eD tm [(0,(.sl il)),(1,(.fn 119 [])),(7,(.int .i64 gL)),(8,(.int .i64 fD))]/\dE.l13 F eB n il gL fD H=some r:=by
 unfold dE.lh13 at h
 split at h
 ·exact ⟨_,_,_,rfl,⟨‹_›,‹_›,‹_›,‹_›,trivial⟩,h⟩
 ·cases h
def dE.lh (F:Nat) (eB:Int->Hp->OA) (p:Nat) (ks:List Nat) (n:Nat) (tm:Tm) (H:Hp):OA:=bif p.beq 13 then dE.lh13 F eB ks n tm H else (none)
def dE.mk (g:Sl->Hp->OA) (args:List AV) (H:Hp):OA:=match args with
 | [(.sl aa),(.fn 119 [])]=>g aa H
 | _=>none
def dE.cs (F:Nat) (eB:Int->Hp->OA):Cs:=[(119,fY.mk eB)]
theorem dE.loops (F:Nat) (eB:Int->Hp->OA):LO (bG (dE.cs F eB)) bw (dE.lh F eB) F Try.f117:=
 (ai.rt (ai.lt (ai.rt (ai.block (ai.loop (λtm H=>eG λr h=>by obtain ⟨il,gL,fD,hks,e,h⟩:=dE.lh13_inv (show dE.lh13 F eB [] 0 tm H=some r from h);cases h) (λk13 tm H r h=>by obtain ⟨il,gL,fD,hks,e,h⟩:=dE.lh13_inv (show dE.lh13 F eB [] (k13+1) tm H=some r from h);rw [<- eE e];exact Eq.trans (by kernel_rfl) h) λk13=>ai.no)))))
theorem dE.eqX (F:Nat) (eB:Int->Hp->OA) (aa:Sl) (H:Hp):EX (bG (dE.cs F eB)) bw (dE.lh F eB) F Try.f117 [(.sl aa),(.fn 119 [])] H=dE.twX F eB aa H:=by kernel_rfl
theorem dE.k (F:Nat):Ok Try.prog 117 (dE.mk (dE.tw F)):=by
 intro args H v H' h
 unfold dE.mk at h
 split at h
 ·exact okT (TB:=bw) Try.func117 (bM (fY.k F) di) (dE.loops F (fY.tw F)) ((dE.eqX F (fY.tw F) _ H).trans h) (by kernel_rfl)
 ·cases h
def cl.j2 (F:Nat) (iE:Sl->Hp->OA) (eB:Int->Hp->OA) (ye:Sl) (qq:Int) (H31:Hp):OA:=(Sl.cut ye 1 qq (ye.n:Int)).bind λs32=>(Hp.clr H31 [.int .i64 0] s32).bind λH33=>(Sl.cut ye 1 0 qq).bind λs34=>some ((.sl s34),H33)
def cl.j3 (F:Nat) (iE:Sl->Hp->OA) (eB:Int->Hp->OA) (C61_:Sl->Int->Int->Hp->OA) (IR:Sl) (tz:Int) (tA:Int) (H49:Hp):OA:=C61_ IR tz (IntKind.i64.wrap (tA+1)) H49
def cl.l61 (F:Nat) (iE:Sl->Hp->OA) (eB:Int->Hp->OA) :Nat->Sl->Int->Int->Hp->OA
 | 0,_,_,_,_=>none
 | qo+1,dB,dZ,kA,H9=>(bif (decide (kA<(dB.n:Int))) then ((Sl.idx dB kA 1).bind λp35=>(Hp.ldI H9 .i64 p35.1 p35.2).bind λn36=>(eB n36 H9).bind λr37=>((r37.1).asB).bind λb38=>(bif (!b38) then ((Sl.idx dB dZ 1).bind λp39=>(Hp.st r37.2 p39.1 p39.2 (.int .i64 n36)).bind λH40=>cl.j3 F iE eB (cl.l61 F iE eB qo) dB (IntKind.i64.wrap (dZ+1)) kA H40) else (cl.j3 F iE eB (cl.l61 F iE eB qo) dB dZ kA r37.2))) else (cl.j2 F iE eB dB dZ H9))
termination_by structural n=>n
def cl.twX (F:Nat) (iE:Sl->Hp->OA) (eB:Int->Hp->OA) (aa:Sl) (H:Hp):OA:=(iE aa H).bind λr2=>((r2.1).asI .i64).bind λn3=>(bif (n3 == (-1)) then (some ((.sl aa),r2.2)) else (cl.l61 F iE eB F aa n3 (IntKind.i64.wrap (n3+1)) r2.2))
def cl.tw (F:Nat) (aa:Sl) (H:Hp):OA:=cl.twX F (dE.tw F) (fY.tw F) aa H
def cl.lh61 (F:Nat) (iE:Sl->Hp->OA) (eB:Int->Hp->OA) (ks:List Nat) (n:Nat) (tm:Tm) (H:Hp):OA:=match ks,tm 0,tm 1,tm 5,tm 6 with
 | [],(.sl dB),(.fn 119 []),(.int .i64 dZ),(.int .i64 kA)=>cl.l61 F iE eB n dB dZ kA H
 | _,_,_,_,_=>none
theorem cl.lh61_inv {F:Nat} {iE:Sl->Hp->OA} {eB:Int->Hp->OA} {ks:List Nat} {n:Nat} {tm:Tm} {H:Hp} {r:AV×Hp} (h:cl.lh61 F iE eB ks n tm H=some r):∃ dB dZ kA,ks=[]/\eD tm [(0,(.sl dB)),(1,(.fn 119 [])),(5,(.int .i64 dZ)),(6,(.int .i64 kA))]/\cl.l61 F iE eB n dB dZ kA H=some r:=by
 unfold cl.lh61 at h
 split at h
 ·exact ⟨_,_,_,rfl,⟨‹_›,‹_›,‹_›,‹_›,trivial⟩,h⟩
 ·cases h
def cl.lh (F:Nat) (iE:Sl->Hp->OA) (eB:Int->Hp->OA) (p:Nat) (ks:List Nat) (n:Nat) (tm:Tm) (H:Hp):OA:=bif p.beq 61 then cl.lh61 F iE eB ks n tm H else (none)
def cl.mk (g:Sl->Hp->OA) (args:List AV) (H:Hp):OA:=match args with
 | [(.sl aa),(.fn 119 [])]=>g aa H
 | _=>none
def cl.cs (F:Nat) (iE:Sl->Hp->OA) (eB:Int->Hp->OA):Cs:=[(117,dE.mk iE),(119,fY.mk eB)]
theorem cl.loops (F:Nat) (iE:Sl->Hp->OA) (eB:Int->Hp->OA):LO (bG (cl.cs F iE eB)) bw (cl.lh F iE eB) F Try.f118:=
 (ai.rt (ai.rt (ai.rt (ai.lt (ai.rt (ai.block (ai.loop (λtm H=>eG λr h=>by obtain ⟨dB,dZ,kA,hks,e,h⟩:=cl.lh61_inv (show cl.lh61 F iE eB [] 0 tm H=some r from h);cases h) (λk61 tm H r h=>by obtain ⟨dB,dZ,kA,hks,e,h⟩:=cl.lh61_inv (show cl.lh61 F iE eB [] (k61+1) tm H=some r from h);rw [<- eE e];exact Eq.trans (by kernel_rfl) h) λk61=>ai.no)))))))
theorem cl.eqX (F:Nat) (iE:Sl->Hp->OA) (eB:Int->Hp->OA) (aa:Sl) (H:Hp):EX (bG (cl.cs F iE eB)) bw (cl.lh F iE eB) F Try.f118 [(.sl aa),(.fn 119 [])] H=cl.twX F iE eB aa H:=by kernel_rfl
theorem cl.k (F:Nat):Ok Try.prog 118 (cl.mk (cl.tw F)):=by
 intro args H v H' h
 unfold cl.mk at h
 split at h
 ·exact okT (TB:=bw) Try.func118 (bM (dE.k F) (bM (fY.k F) di)) (cl.loops F (dE.tw F) (fY.tw F)) ((cl.eqX F (dE.tw F) (fY.tw F) _ H).trans h) (by kernel_rfl)
 ·cases h
def gX.twX (F:Nat) (tB:Sl->Hp->OA) (aa:Sl) (H:Hp):OA:=(tB aa H).bind λr2=>((r2.1).asSl).bind λs3=>some ((.sl s3),r2.2)
def gX.tw (F:Nat) (aa:Sl) (H:Hp):OA:=gX.twX F (cl.tw F) aa H
def gX.mk (g:Sl->Hp->OA) (args:List AV) (H:Hp):OA:=match args with
 | [(.sl aa)]=>g aa H
 | _=>none
def gX.cs (F:Nat) (tB:Sl->Hp->OA):Cs:=[(118,cl.mk tB)]
theorem gX.eqX (F:Nat) (tB:Sl->Hp->OA) (aa:Sl) (H:Hp):EX (bG (gX.cs F tB)) bw lh0 F Try.f83 [(.sl aa)] H=gX.twX F tB aa H:=by kernel_rfl
theorem gX.k (F:Nat):Ok Try.prog 83 (gX.mk (gX.tw F)):=by
 intro args H v H' h
 unfold gX.mk at h
 split at h
 ·exact okT (TB:=bw) Try.func83 (bM (cl.k F) di) ai.no ((gX.eqX F (cl.tw F) _ H).trans h) (by kernel_rfl)
 ·cases h
def cA.j1 (F:Nat) (je:Int->Sl->Hp->OA) (jk:Sl->Hp->OA) (jl:Sl->Hp->OA) (eP:Int->Int->Hp->OA) (aj:Int->Int->Sl->Int->Int->Hp->OA) (jm:Int->Int->Sl->Hp->OA) (jn:Sl->Hp->OA) (qr:Nat) (vW:Nat) (qs:Nat) (vX:Nat) (nA:Nat) (pG:Nat) (tC:Nat) (yf:Nat) (H103:Hp):OA:=(Hp.ldI H103 .i64 tC yf).bind λn104=>(Hp.ldI H103 .i64 tC (yf+1)).bind λn105=>(Hp.ldSl H103 tC (yf+2)).bind λs106=>(jm n104 n105 s106 H103).bind λr107=>((r107.1).asTup 2).bind λl108=>(l108[0]?).bind λv109=>((v109).asSl).bind λs110=>(l108[1]?).bind λv111=>((v111).asI .i64).bind λn112=>(bif (n112 != 0) then ((Hp.st r107.2 nA pG (.int .i64 0)).bind λH113=>(Hp.st H113 nA (pG+1) (.sl (⟨none,0,.ex 0⟩:Sl))).bind λH114=>(Hp.ldI H114 .i64 nA pG).bind λn115=>(Hp.ldSl H114 nA (pG+1)).bind λs116=>some ((.tup [(.agg [(.int .i64 n115),(.sl s116)]),(.int .i64 n112)]),H114)) else ((Hp.ldI r107.2 .i64 qr vW).bind λn117=>(Hp.ldI r107.2 .i64 qs vX).bind λn118=>(jn s110 r107.2).bind λr119=>((r119.1).asSl).bind λs120=>(Hp.st r119.2 nA pG (.int .i64 (IntKind.i64.wrap (n117+n118)))).bind λH121=>(Hp.st H121 nA (pG+1) (.sl s120)).bind λH122=>(ifW (((((Hp.ldI H122 .i64 qs vX).bind λn123=>og (.int .i64 n118) H122 (.int .i64 n123) H122)=some ())/\(((Hp.ldI r119.2 .i64 qs vX).bind λn124=>og (.int .i64 n118) r119.2 (.int .i64 n124) r119.2)=some ())/\(((Hp.ldI r107.2 .i64 qs vX).bind λn125=>og (.int .i64 n118) r107.2 (.int .i64 n125) r107.2)=some ())/\True)/\((((Hp.ldI H122 .i64 qr vW).bind λn126=>og (.int .i64 n117) H122 (.int .i64 n126) H122)=some ())/\(((Hp.ldI r119.2 .i64 qr vW).bind λn127=>og (.int .i64 n117) r119.2 (.int .i64 n127) r119.2)=some ())/\(((Hp.ldI r107.2 .i64 qr vW).bind λn128=>og (.int .i64 n117) r107.2 (.int .i64 n128) r107.2)=some ())/\True)/\True) ((Hp.ldI H122 .i64 nA pG).bind λn129=>(Hp.ldSl H122 nA (pG+1)).bind λs130=>some ((.tup [(.agg [(.int .i64 n129),(.sl s130)]),(.int .i64 0)]),H122)))))
def cA.l509 (F:Nat) (je:Int->Sl->Hp->OA) (jk:Sl->Hp->OA) (jl:Sl->Hp->OA) (eP:Int->Int->Hp->OA) (aj:Int->Int->Sl->Int->Int->Hp->OA) (jm:Int->Int->Sl->Hp->OA) (jn:Sl->Hp->OA) :Nat->Nat->Nat->Nat->Nat->Nat->Nat->Nat->Nat->Sl->Int->Int->Hp->OA
 | 0,_,_,_,_,_,_,_,_,_,_,_,_=>none
 | yc+1,iH,kQ,iI,kR,iJ,kS,g_,js,oQ,l_,jW,H73=>(bif (decide (jW<l_)) then ((Sl.idx oQ jW 1).bind λp131=>(Hp.ldI H73 .i64 p131.1 p131.2).bind λn132=>(Hp.ldI H73 .i64 g_ js).bind λn133=>(Hp.ldI H73 .i64 g_ (js+1)).bind λn134=>(Hp.ldSl H73 g_ (js+2)).bind λs135=>(aj n133 n134 s135 jW jW H73).bind λr136=>((r136.1).asP).bind λp137=>(Hp.st r136.2 p137.1 p137.2 (.int .i64 n132)).bind λH138=>cA.l509 F je jk jl eP aj jm jn yc iH kQ iI kR iJ kS g_ js oQ l_ (IntKind.i64.wrap (jW+1)) H138) else (cA.j1 F je jk jl eP aj jm jn iH kQ iI kR iJ kS g_ js H73))
termination_by structural n=>n
def cA.twX (F:Nat) (je:Int->Sl->Hp->OA) (jk:Sl->Hp->OA) (jl:Sl->Hp->OA) (eP:Int->Int->Hp->OA) (aj:Int->Int->Sl->Int->Int->Hp->OA) (jm:Int->Int->Sl->Hp->OA) (jn:Sl->Hp->OA) (aa:Int) (af:Sl) (ag:Int) (aw:Sl) (H:Hp):OA:=(Hp.new H [(.int .i64 aa),(.sl af)]).bind λH5=>(Hp.new H5 [(.int .i64 ag),(.sl aw)]).bind λH6=>(Hp.new H6 [.int .i64 0,.sl ⟨none,0,.ex 0⟩]).bind λH7=>(Hp.ldI H7 .i64 H.length 0).bind λn8=>(Hp.ldSl H7 H.length (0+1)).bind λs9=>(je n8 s9 H7).bind λr10=>((r10.1).asB).bind λb11=>(bif (!b11) then ((Hp.st r10.2 H6.length 0 (.int .i64 0)).bind λH12=>(Hp.st H12 H6.length (0+1) (.sl (⟨none,0,.ex 0⟩:Sl))).bind λH13=>(Hp.ldI H13 .i64 H6.length 0).bind λn14=>(Hp.ldSl H13 H6.length (0+1)).bind λs15=>some ((.tup [(.agg [(.int .i64 n14),(.sl s15)]),(.int .i64 1)]),H13)) else ((Hp.ldI r10.2 .i64 H5.length 0).bind λn16=>(Hp.ldSl r10.2 H5.length (0+1)).bind λs17=>(je n16 s17 r10.2).bind λr18=>((r18.1).asB).bind λb19=>(bif (!b19) then ((Hp.st r18.2 H6.length 0 (.int .i64 0)).bind λH20=>(Hp.st H20 H6.length (0+1) (.sl (⟨none,0,.ex 0⟩:Sl))).bind λH21=>(Hp.ldI H21 .i64 H6.length 0).bind λn22=>(Hp.ldSl H21 H6.length (0+1)).bind λs23=>some ((.tup [(.agg [(.int .i64 n22),(.sl s23)]),(.int .i64 1)]),H21)) else ((Hp.ldSl r18.2 H.length 1).bind λs24=>(Hp.ldSl r18.2 H5.length 1).bind λs25=>(Hp.new r18.2 [(.sl s24),(.sl s25)]).bind λH26=>(jk (⟨some (r18.2.length,0),2,.ex 2⟩:Sl) H26).bind λr27=>((r27.1).asSl).bind λs28=>(jl s28 r27.2).bind λr29=>((r29.1).asI .i64).bind λn30=>(Hp.ldI r29.2 .i64 H.length 0).bind λn31=>(Hp.ldI r29.2 .i64 H5.length 0).bind λn32=>(bif (decide ((IntKind.i64.wrap (n31+n32))>48)) then ((Hp.st r29.2 H6.length 0 (.int .i64 0)).bind λH33=>(Hp.st H33 H6.length (0+1) (.sl (⟨none,0,.ex 0⟩:Sl))).bind λH34=>(Hp.ldI H34 .i64 H6.length 0).bind λn35=>(Hp.ldSl H34 H6.length (0+1)).bind λs36=>some ((.tup [(.agg [(.int .i64 n35),(.sl s36)]),(.int .i64 3)]),H34)) else ((bif (decide (n30>48)) then ((Hp.st r29.2 H6.length 0 (.int .i64 0)).bind λH37=>(Hp.st H37 H6.length (0+1) (.sl (⟨none,0,.ex 0⟩:Sl))).bind λH38=>(Hp.ldI H38 .i64 H6.length 0).bind λn39=>(Hp.ldSl H38 H6.length (0+1)).bind λs40=>some ((.tup [(.agg [(.int .i64 n39),(.sl s40)]),(.int .i64 3)]),H38)) else ((eP n30 n30 r29.2).bind λr41=>((r41.1).asAgg 3).bind λl42=>(l42[0]?).bind λv43=>((v43).asI .i64).bind λn44=>(l42[1]?).bind λv45=>((v45).asI .i64).bind λn46=>(l42[2]?).bind λv47=>((v47).asSl).bind λs48=>(Hp.new r41.2 [.int .i64 0,.int .i64 0,.sl ⟨none,0,.ex 0⟩]).bind λH49=>(Hp.st H49 r41.2.length 0 (.int .i64 n44)).bind λH50=>(Hp.st H50 r41.2.length (0+1) (.int .i64 n46)).bind λH51=>(Hp.st H51 r41.2.length (0+1+1) (.sl s48)).bind λH52=>cA.l509 F je jk jl eP aj jm jn F H.length 0 H5.length 0 H6.length 0 r41.2.length 0 s28 (s28.n:Int) 0 H52))))))))
def cA.tw (F:Nat) (aa:Int) (af:Sl) (ag:Int) (aw:Sl) (H:Hp):OA:=cA.twX F (cF.tw F) (cw.tw F) (im.tw F) (ga.tw F) (bH.tw F) (cz.tw F) (gX.tw F) aa af ag aw H
def cA.lh509 (F:Nat) (je:Int->Sl->Hp->OA) (jk:Sl->Hp->OA) (jl:Sl->Hp->OA) (eP:Int->Int->Hp->OA) (aj:Int->Int->Sl->Int->Int->Hp->OA) (jm:Int->Int->Sl->Hp->OA) (jn:Sl->Hp->OA) (ks:List Nat) (n:Nat) (tm:Tm) (H:Hp):OA:=match ks,tm 2,tm 3,tm 4,tm 8,tm 44,tm 45,tm 46 with
 | [],(.ptr iH kQ),(.ptr iI kR),(.ptr iJ kS),(.ptr g_ js),(.sl oQ),(.int .i64 l_),(.int .i64 jW)=>cA.l509 F je jk jl eP aj jm jn n iH kQ iI kR iJ kS g_ js oQ l_ jW H
 | _,_,_,_,_,_,_,_=>none
theorem cA.lh509_inv {F:Nat} {je:Int->Sl->Hp->OA} {jk:Sl->Hp->OA} {jl:Sl->Hp->OA} {eP:Int->Int->Hp->OA} {aj:Int->Int->Sl->Int->Int->Hp->OA} {jm:Int->Int->Sl->Hp->OA} {jn:Sl->Hp->OA} {ks:List Nat} {n:Nat} {tm:Tm} {H:Hp} {r:AV×Hp} (h:cA.lh509 F je jk jl eP aj jm jn ks n tm H=some r):∃ iH kQ iI kR iJ kS g_ js oQ l_ jW,ks=[]/\eD tm [(2,(.ptr iH kQ)),(3,(.ptr iI kR)),(4,(.ptr iJ kS)),(8,(.ptr g_ js)),(44,(.sl oQ)),(45,(.int .i64 l_)),(46,(.int .i64 jW))]/\cA.l509 F je jk jl eP aj jm jn n iH kQ iI kR iJ kS g_ js oQ l_ jW H=some r:=by
 unfold cA.lh509 at h
 split at h
 ·exact ⟨_,_,_,_,_,_,_,_,_,_,_,rfl,⟨‹_›,‹_›,‹_›,‹_›,‹_›,‹_›,‹_›,trivial⟩,h⟩
 ·cases h
def cA.lh (F:Nat) (je:Int->Sl->Hp->OA) (jk:Sl->Hp->OA) (jl:Sl->Hp->OA) (eP:Int->Int->Hp->OA) (aj:Int->Int->Sl->Int->Int->Hp->OA) (jm:Int->Int->Sl->Hp->OA) (jn:Sl->Hp->OA) (p:Nat) (ks:List Nat) (n:Nat) (tm:Tm) (H:Hp):OA:=bif p.beq 509 then cA.lh509 F je jk jl eP aj jm jn ks n tm H else (none)
def cA.pn:Nat->List Nat:=fA [(16,[6,8,1001,1003])]
def cA.tb:Nat->List (List Nat):=fA [(16,[[],[0],[],[2],[0,1,2,3],[],[5],[0,1,2,3,4,5,6],[0,1,2,3,4,5,6,7],[0,1,2,3,4,5,6,7,8]])]
def cA.mk (g:Int->Sl->Int->Sl->Hp->OA) (args:List AV) (H:Hp):OA:=match args with
 | [(.agg [(.int .i64 aa),(.sl af)]),(.agg [(.int .i64 ag),(.sl aw)])]=>g aa af ag aw H
 | _=>none
def cA.cs (F:Nat) (je:Int->Sl->Hp->OA) (jk:Sl->Hp->OA) (jl:Sl->Hp->OA) (eP:Int->Int->Hp->OA) (aj:Int->Int->Sl->Int->Int->Hp->OA) (jm:Int->Int->Sl->Hp->OA) (jn:Sl->Hp->OA):Cs:=[(92,cF.mk je),(93,cw.mk jk),(73,im.mk jl),(94,ga.mk eP),(95,bH.mk aj),(63,cz.mk jm),(83,gX.mk jn)]
theorem cA.loops (F:Nat) (je:Int->Sl->Hp->OA) (jk:Sl->Hp->OA) (jl:Sl->Hp->OA) (eP:Int->Int->Hp->OA) (aj:Int->Int->Sl->Int->Int->Hp->OA) (jm:Int->Int->Sl->Hp->OA) (jn:Sl->Hp->OA):LO (bG (cA.cs F je jk jl eP aj jm jn)) cA.pn (cA.lh F je jk jl eP aj jm jn) F Try.f51:=
 (ai.rt (ai.rt (ai.rt (ai.rt (ai.rt (ai.rt (ai.lt (ai.rt (ai.block (ai.loop (λtm H=>eG λr h=>by obtain ⟨iH,kQ,iI,kR,iJ,kS,g_,js,oQ,l_,jW,hks,e,h⟩:=cA.lh509_inv (show cA.lh509 F je jk jl eP aj jm jn [] 0 tm H=some r from h);cases h) (λk509 tm H r h=>by obtain ⟨iH,kQ,iI,kR,iJ,kS,g_,js,oQ,l_,jW,hks,e,h⟩:=cA.lh509_inv (show cA.lh509 F je jk jl eP aj jm jn [] (k509+1) tm H=some r from h);rw [<- eE e];exact Eq.trans (by kernel_rfl) h) λk509=>ai.no))))))))))
theorem cA.eqX (F:Nat) (je:Int->Sl->Hp->OA) (jk:Sl->Hp->OA) (jl:Sl->Hp->OA) (eP:Int->Int->Hp->OA) (aj:Int->Int->Sl->Int->Int->Hp->OA) (jm:Int->Int->Sl->Hp->OA) (jn:Sl->Hp->OA) (aa:Int) (af:Sl) (ag:Int) (aw:Sl) (H:Hp):EX (bG (cA.cs F je jk jl eP aj jm jn)) cA.pn (cA.lh F je jk jl eP aj jm jn) F Try.f51 [(.agg [(.int .i64 aa),(.sl af)]),(.agg [(.int .i64 ag),(.sl aw)])] H=cA.twX F je jk jl eP aj jm jn aa af ag aw H:=by kernel_rfl
theorem cA.k (F:Nat):Ok Try.prog 51 (cA.mk (cA.tw F)):=by
 intro args H v H' h
 unfold cA.mk at h
 split at h
 ·exact okT (TB:=cA.tb) Try.func51 (bM (cF.k F) (bM (cw.k F) (bM (im.k F) (bM (ga.k F) (bM (bH.k F) (bM (cz.k F) (bM (gX.k F) di))))))) (cA.loops F (cF.tw F) (cw.tw F) (im.tw F) (ga.tw F) (bH.tw F) (cz.tw F) (gX.tw F)) ((cA.eqX F (cF.tw F) (cw.tw F) (im.tw F) (ga.tw F) (bH.tw F) (cz.tw F) (gX.tw F) _ _ _ _ H).trans h) (by kernel_rfl)
 ·cases h
def dK.l29 (F:Nat) :Nat->Sl->Sl->Int->Hp->OA
 | 0,_,_,_,_=>none
 | eM+1,cX,eR,kB,H8=>(bif (decide (kB<(cX.n:Int))) then ((Sl.idx cX kB 1).bind λp13=>(Hp.ldI H8 .i64 p13.1 p13.2).bind λn14=>(Sl.idx eR kB 1).bind λp15=>(Hp.ldI H8 .i64 p15.1 p15.2).bind λn16=>(bif (n14 != n16) then (some ((.bool false),H8)) else (dK.l29 F eM cX eR (IntKind.i64.wrap (kB+1)) H8))) else (some ((.bool true),H8)))
termination_by structural n=>n
def dK.twX (F:Nat) (aa:Sl) (au:Sl) (H:Hp):OA:=(bif ((aa.n:Int) != (au.n:Int)) then (some ((.bool false),H)) else (dK.l29 F F aa au 0 H))
def dK.tw (F:Nat) (aa:Sl) (au:Sl) (H:Hp):OA:=dK.twX F aa au H
def dK.lh29 (F:Nat) (ks:List Nat) (n:Nat) (tm:Tm) (H:Hp):OA:=match ks,tm 0,tm 1,tm 5 with
 | [],(.sl cX),(.sl eR),(.int .i64 kB)=>dK.l29 F n cX eR kB H
 | _,_,_,_=>none
theorem dK.lh29_inv {F:Nat} {ks:List Nat} {n:Nat} {tm:Tm} {H:Hp} {r:AV×Hp} (h:dK.lh29 F ks n tm H=some r):∃ cX eR kB,ks=[]/\eD tm [(0,(.sl cX)),(1,(.sl eR)),(5,(.int .i64 kB))]/\dK.l29 F n cX eR kB H=some r:=by
 unfold dK.lh29 at h
 split at h
 ·exact ⟨_,_,_,rfl,⟨‹_›,‹_›,‹_›,trivial⟩,h⟩
 ·cases h
def dK.lh (F:Nat) (p:Nat) (ks:List Nat) (n:Nat) (tm:Tm) (H:Hp):OA:=bif p.beq 29 then dK.lh29 F ks n tm H else (none)
def dK.tb:Nat->List (List Nat):=fA [(6,[[],[],[0,1],[0,1,2],[],[],[4,5],[4,5,6],[0,1,2,3,4,5,6,7]])]
def dK.mk (g:Sl->Sl->Hp->OA) (args:List AV) (H:Hp):OA:=match args with
 | [(.sl aa),(.sl au)]=>g aa au H
 | _=>none
theorem dK.loops (F:Nat):LO (bG []) bw (dK.lh F) F Try.f29:=
 (ai.rt (ai.rt (ai.lt (ai.rt (ai.block (ai.loop (λtm H=>eG λr h=>by obtain ⟨cX,eR,kB,hks,e,h⟩:=dK.lh29_inv (show dK.lh29 F [] 0 tm H=some r from h);cases h) (λk29 tm H r h=>by obtain ⟨cX,eR,kB,hks,e,h⟩:=dK.lh29_inv (show dK.lh29 F [] (k29+1) tm H=some r from h);rw [<- eE e];exact Eq.trans (by kernel_rfl) h) λk29=>ai.no))))))
theorem dK.eqX (F:Nat) (aa:Sl) (au:Sl) (H:Hp):EX (bG []) bw (dK.lh F) F Try.f29 [(.sl aa),(.sl au)] H=dK.twX F aa au H:=by kernel_rfl
theorem dK.k (F:Nat):Ok Try.prog 29 (dK.mk (dK.tw F)):=by
 intro args H v H' h
 unfold dK.mk at h
 split at h
 ·exact okT (TB:=dK.tb) Try.func29 di (dK.loops F) ((dK.eqX F _ _ H).trans h) (by kernel_rfl)
 ·cases h
def gm.twX (F:Nat) (tD:Sl->Sl->Hp->OA) (aa:Int) (af:Sl) (ag:Int) (aw:Sl) (H:Hp):OA:=(Hp.new H [(.int .i64 aa),(.sl af)]).bind λH5=>(Hp.new H5 [(.int .i64 ag),(.sl aw)]).bind λH6=>(Hp.ldI H6 .i64 H.length 0).bind λn7=>(Hp.ldI H6 .i64 H5.length 0).bind λn8=>(bif (n7 != n8) then (some ((.bool false),H6)) else ((Hp.ldSl H6 H.length 1).bind λs9=>(Hp.ldSl H6 H5.length 1).bind λs10=>(tD s9 s10 H6).bind λr11=>((r11.1).asB).bind λb12=>(bif (!b12) then (some ((.bool false),r11.2)) else (some ((.bool true),r11.2)))))
def gm.tw (F:Nat) (aa:Int) (af:Sl) (ag:Int) (aw:Sl) (H:Hp):OA:=gm.twX F (dK.tw F) aa af ag aw H
def gm.mk (g:Int->Sl->Int->Sl->Hp->OA) (args:List AV) (H:Hp):OA:=match args with
 | [(.agg [(.int .i64 aa),(.sl af)]),(.agg [(.int .i64 ag),(.sl aw)])]=>g aa af ag aw H
 | _=>none
def gm.cs (F:Nat) (tD:Sl->Sl->Hp->OA):Cs:=[(29,dK.mk tD)]
theorem gm.eqX (F:Nat) (tD:Sl->Sl->Hp->OA) (aa:Int) (af:Sl) (ag:Int) (aw:Sl) (H:Hp):EX (bG (gm.cs F tD)) bw lh0 F Try.f42 [(.agg [(.int .i64 aa),(.sl af)]),(.agg [(.int .i64 ag),(.sl aw)])] H=gm.twX F tD aa af ag aw H:=by kernel_rfl
theorem gm.k (F:Nat):Ok Try.prog 42 (gm.mk (gm.tw F)):=by
 intro args H v H' h
 unfold gm.mk at h
 split at h
 ·exact okT (TB:=bw) Try.func42 (bM (dK.k F) di) ai.no ((gm.eqX F (dK.tw F) _ _ _ _ H).trans h) (by kernel_rfl)
 ·cases h
def dO.l13 (F:Nat) :Nat->Sl->Int->Int->Hp->OA
 | 0,_,_,_,_=>none
 | ic+1,cX,eR,dZ,H7=>(bif (decide (dZ<(cX.n:Int))) then ((Sl.idx cX dZ 1).bind λp10=>(Hp.st H7 p10.1 p10.2 (.int .i64 eR)).bind λH11=>dO.l13 F ic cX (IntKind.i64.wrap (eR+1)) (IntKind.i64.wrap (dZ+1)) H11) else (some ((.int .i64 eR),H7)))
termination_by structural n=>n
def dO.twX (F:Nat) (aa:Sl) (au:Int) (H:Hp):OA:=dO.l13 F F aa au 0 H
def dO.tw (F:Nat) (aa:Sl) (au:Int) (H:Hp):OA:=dO.twX F aa au H
def dO.lh13 (F:Nat) (ks:List Nat) (n:Nat) (tm:Tm) (H:Hp):OA:=match ks,tm 0,tm 1,tm 5 with
 | [],(.sl cX),(.int .i64 eR),(.int .i64 dZ)=>dO.l13 F n cX eR dZ H
 | _,_,_,_=>none
theorem dO.lh13_inv {F:Nat} {ks:List Nat} {n:Nat} {tm:Tm} {H:Hp} {r:AV×Hp} (h:dO.lh13 F ks n tm H=some r):∃ cX eR dZ,ks=[]/\eD tm [(0,(.sl cX)),(1,(.int .i64 eR)),(5,(.int .i64 dZ))]/\dO.l13 F n cX eR dZ H=some r:=by
 unfold dO.lh13 at h
 split at h
 ·exact ⟨_,_,_,rfl,⟨‹_›,‹_›,‹_›,trivial⟩,h⟩
 ·cases h
def dO.lh (F:Nat) (p:Nat) (ks:List Nat) (n:Nat) (tm:Tm) (H:Hp):OA:=bif p.beq 13 then dO.lh13 F ks n tm H else (none)
def dO.mk (g:Sl->Int->Hp->OA) (args:List AV) (H:Hp):OA:=match args with
 | [(.sl aa),(.int .i64 au)]=>g aa au H
 | _=>none
theorem dO.loops (F:Nat):LO (bG []) bw (dO.lh F) F Try.f31:=
 (ai.rt (ai.lt (ai.rt (ai.block (ai.loop (λtm H=>eG λr h=>by obtain ⟨cX,eR,dZ,hks,e,h⟩:=dO.lh13_inv (show dO.lh13 F [] 0 tm H=some r from h);cases h) (λk13 tm H r h=>by obtain ⟨cX,eR,dZ,hks,e,h⟩:=dO.lh13_inv (show dO.lh13 F [] (k13+1) tm H=some r from h);rw [<- eE e];exact Eq.trans (by kernel_rfl) h) λk13=>ai.no)))))
theorem dO.eqX (F:Nat) (aa:Sl) (au:Int) (H:Hp):EX (bG []) bw (dO.lh F) F Try.f31 [(.sl aa),(.int .i64 au)] H=dO.twX F aa au H:=by kernel_rfl
theorem dO.k (F:Nat):Ok Try.prog 31 (dO.mk (dO.tw F)):=by
 intro args H v H' h
 unfold dO.mk at h
 split at h
 ·exact okT (TB:=bw) Try.func31 di (dO.loops F) ((dO.eqX F _ _ H).trans h) (by kernel_rfl)
 ·cases h
def gY.twX (F:Nat) (tE:Sl->Int->Hp->OA) (aa:Int) (af:Sl) (ag:Int) (H:Hp):OA:=(Hp.new H [(.int .i64 aa),(.sl af)]).bind λH4=>(Hp.ldSl H4 H.length 1).bind λs5=>(tE s5 ag H4).bind λr6=>((r6.1).asI .i64).bind λn7=>some ((.int .i64 n7),r6.2)
def gY.tw (F:Nat) (aa:Int) (af:Sl) (ag:Int) (H:Hp):OA:=gY.twX F (dO.tw F) aa af ag H
def gY.mk (g:Int->Sl->Int->Hp->OA) (args:List AV) (H:Hp):OA:=match args with
 | [(.agg [(.int .i64 aa),(.sl af)]),(.int .i64 ag)]=>g aa af ag H
 | _=>none
def gY.cs (F:Nat) (tE:Sl->Int->Hp->OA):Cs:=[(31,dO.mk tE)]
theorem gY.eqX (F:Nat) (tE:Sl->Int->Hp->OA) (aa:Int) (af:Sl) (ag:Int) (H:Hp):EX (bG (gY.cs F tE)) bw lh0 F Try.f43 [(.agg [(.int .i64 aa),(.sl af)]),(.int .i64 ag)] H=gY.twX F tE aa af ag H:=by kernel_rfl
theorem gY.k (F:Nat):Ok Try.prog 43 (gY.mk (gY.tw F)):=by
 intro args H v H' h
 unfold gY.mk at h
 split at h
 ·exact okT (TB:=bw) Try.func43 (bM (dO.k F) di) ai.no ((gY.eqX F (dO.tw F) _ _ _ H).trans h) (by kernel_rfl)
 ·cases h
def dP.l13 (F:Nat) :Nat->Sl->Int->Int->Hp->OA
 | 0,_,_,_,_=>none
 | ic+1,cX,eR,dZ,H7=>(bif (decide (dZ<(cX.n:Int))) then ((Sl.idx cX dZ 1).bind λp10=>(Hp.ldI H7 .i64 p10.1 p10.2).bind λn11=>(bif (n11 != eR) then (some ((.int .i64 (-1)),H7)) else (dP.l13 F ic cX (IntKind.i64.wrap (eR+1)) (IntKind.i64.wrap (dZ+1)) H7))) else (some ((.int .i64 eR),H7)))
termination_by structural n=>n
def dP.twX (F:Nat) (aa:Sl) (au:Int) (H:Hp):OA:=dP.l13 F F aa au 0 H
def dP.tw (F:Nat) (aa:Sl) (au:Int) (H:Hp):OA:=dP.twX F aa au H
def dP.lh13 (F:Nat) (ks:List Nat) (n:Nat) (tm:Tm) (H:Hp):OA:=match ks,tm 0,tm 1,tm 5 with
 | [],(.sl cX),(.int .i64 eR),(.int .i64 dZ)=>dP.l13 F n cX eR dZ H
 | _,_,_,_=>none
theorem dP.lh13_inv {F:Nat} {ks:List Nat} {n:Nat} {tm:Tm} {H:Hp} {r:AV×Hp} (h:dP.lh13 F ks n tm H=some r):∃ cX eR dZ,ks=[]/\eD tm [(0,(.sl cX)),(1,(.int .i64 eR)),(5,(.int .i64 dZ))]/\dP.l13 F n cX eR dZ H=some r:=by
 unfold dP.lh13 at h
 split at h
 ·exact ⟨_,_,_,rfl,⟨‹_›,‹_›,‹_›,trivial⟩,h⟩
 ·cases h
def dP.lh (F:Nat) (p:Nat) (ks:List Nat) (n:Nat) (tm:Tm) (H:Hp):OA:=bif p.beq 13 then dP.lh13 F ks n tm H else (none)
def dP.mk (g:Sl->Int->Hp->OA) (args:List AV) (H:Hp):OA:=match args with
 | [(.sl aa),(.int .i64 au)]=>g aa au H
 | _=>none
theorem dP.loops (F:Nat):LO (bG []) bw (dP.lh F) F Try.f32:=
 (ai.rt (ai.lt (ai.rt (ai.block (ai.loop (λtm H=>eG λr h=>by obtain ⟨cX,eR,dZ,hks,e,h⟩:=dP.lh13_inv (show dP.lh13 F [] 0 tm H=some r from h);cases h) (λk13 tm H r h=>by obtain ⟨cX,eR,dZ,hks,e,h⟩:=dP.lh13_inv (show dP.lh13 F [] (k13+1) tm H=some r from h);rw [<- eE e];exact Eq.trans (by kernel_rfl) h) λk13=>ai.no)))))
theorem dP.eqX (F:Nat) (aa:Sl) (au:Int) (H:Hp):EX (bG []) bw (dP.lh F) F Try.f32 [(.sl aa),(.int .i64 au)] H=dP.twX F aa au H:=by kernel_rfl
theorem dP.k (F:Nat):Ok Try.prog 32 (dP.mk (dP.tw F)):=by
 intro args H v H' h
 unfold dP.mk at h
 split at h
 ·exact okT (TB:=bw) Try.func32 di (dP.loops F) ((dP.eqX F _ _ H).trans h) (by kernel_rfl)
 ·cases h
def ib.twX (F:Nat) (tF:Sl->Int->Hp->OA) (aa:Int) (af:Sl) (ag:Int) (H:Hp):OA:=(Hp.new H [(.int .i64 aa),(.sl af)]).bind λH4=>(Hp.ldSl H4 H.length 1).bind λs5=>(tF s5 ag H4).bind λr6=>((r6.1).asI .i64).bind λn7=>(bif (decide (n7<0)) then (some ((.int .i64 (-1)),r6.2)) else (some ((.int .i64 n7),r6.2)))
def ib.tw (F:Nat) (aa:Int) (af:Sl) (ag:Int) (H:Hp):OA:=ib.twX F (dP.tw F) aa af ag H
def ib.mk (g:Int->Sl->Int->Hp->OA) (args:List AV) (H:Hp):OA:=match args with
 | [(.agg [(.int .i64 aa),(.sl af)]),(.int .i64 ag)]=>g aa af ag H
 | _=>none
def ib.cs (F:Nat) (tF:Sl->Int->Hp->OA):Cs:=[(32,dP.mk tF)]
theorem ib.eqX (F:Nat) (tF:Sl->Int->Hp->OA) (aa:Int) (af:Sl) (ag:Int) (H:Hp):EX (bG (ib.cs F tF)) bw lh0 F Try.f44 [(.agg [(.int .i64 aa),(.sl af)]),(.int .i64 ag)] H=ib.twX F tF aa af ag H:=by kernel_rfl
theorem ib.k (F:Nat):Ok Try.prog 44 (ib.mk (ib.tw F)):=by
 intro args H v H' h
 unfold ib.mk at h
 split at h
 ·exact okT (TB:=bw) Try.func44 (bM (dP.k F) di) ai.no ((ib.eqX F (dP.tw F) _ _ _ H).trans h) (by kernel_rfl)
 ·cases h
def gn.twX (F:Nat) (qt:Int->Sl->Int->Hp->OA) (mS:Int->Sl->Hp->OA) (tG:Int->Sl->Int->Sl->Hp->OA) (qu:Int->Sl->Int->Sl->Hp->OA) (od:Int->Sl->Int->Sl->Hp->OA) (pH:Int->Sl->Int->Hp->OA) (qv:Int->Sl->Int->Hp->OA) (aa:Int) (af:Sl) (ag:Int) (aw:Sl) (H:Hp):OA:=(Hp.new H [(.int .i64 aa),(.sl af)]).bind λH5=>(Hp.new H5 [(.int .i64 ag),(.sl aw)]).bind λH6=>(Hp.ldI H6 .i64 H.length 0).bind λn7=>(Hp.ldSl H6 H.length (0+1)).bind λs8=>(qt n7 s8 1048576 H6).bind λr9=>((r9.1).asI .i64).bind λn10=>(bif (decide (n10<0)) then (some ((.bool true),r9.2)) else ((Hp.ldI r9.2 .i64 H5.length 0).bind λn11=>(Hp.ldSl r9.2 H5.length (0+1)).bind λs12=>(qt n11 s12 n10 r9.2).bind λr13=>((r13.1).asI .i64).bind λn14=>(bif (decide (n14<0)) then (some ((.bool true),r13.2)) else ((Hp.ldI r13.2 .i64 H.length 0).bind λn15=>(Hp.ldSl r13.2 H.length (0+1)).bind λs16=>(mS n15 s16 r13.2).bind λr17=>((r17.1).asAgg 2).bind λl18=>(l18[0]?).bind λv19=>((v19).asI .i64).bind λn20=>(l18[1]?).bind λv21=>((v21).asSl).bind λs22=>(if bh r13.2 r17.2 then ((Hp.ldI r17.2 .i64 H5.length 0).bind λn23=>(Hp.ldSl r17.2 H5.length (0+1)).bind λs24=>(mS n23 s24 r17.2).bind λr25=>((r25.1).asAgg 2).bind λl26=>(l26[0]?).bind λv27=>((v27).asI .i64).bind λn28=>(l26[1]?).bind λv29=>((v29).asSl).bind λs30=>(if bh r17.2 r25.2 then ((tG n20 s22 n28 s30 r25.2).bind λr31=>((r31.1).asTup 2).bind λl32=>(l32[0]?).bind λv33=>((v33).asAgg 2).bind λl34=>(l34[0]?).bind λv35=>((v35).asI .i64).bind λn36=>(l34[1]?).bind λv37=>((v37).asSl).bind λs38=>(l32[1]?).bind λv39=>((v39).asI .i64).bind λn40=>(if bh r25.2 r31.2 then ((Hp.new r31.2 [.int .i64 0,.sl ⟨none,0,.ex 0⟩]).bind λH41=>(Hp.st H41 r31.2.length 0 (.int .i64 n36)).bind λH42=>(Hp.st H42 r31.2.length (0+1) (.sl s38)).bind λH43=>(Hp.ldI H43 .i64 H.length 0).bind λn44=>(Hp.ldSl H43 H.length (0+1)).bind λs45=>(mS n44 s45 H43).bind λr46=>((r46.1).asAgg 2).bind λl47=>(l47[0]?).bind λv48=>((v48).asI .i64).bind λn49=>(l47[1]?).bind λv50=>((v50).asSl).bind λs51=>(Hp.new r46.2 [.int .i64 0,.sl ⟨none,0,.ex 0⟩]).bind λH52=>(Hp.st H52 r46.2.length 0 (.int .i64 n49)).bind λH53=>(Hp.st H53 r46.2.length (0+1) (.sl s51)).bind λH54=>(Hp.ldI H54 .i64 H5.length 0).bind λn55=>(Hp.ldSl H54 H5.length (0+1)).bind λs56=>(mS n55 s56 H54).bind λr57=>((r57.1).asAgg 2).bind λl58=>(l58[0]?).bind λv59=>((v59).asI .i64).bind λn60=>(l58[1]?).bind λv61=>((v61).asSl).bind λs62=>(Hp.new r57.2 [.int .i64 0,.sl ⟨none,0,.ex 0⟩]).bind λH63=>(Hp.st H63 r57.2.length 0 (.int .i64 n60)).bind λH64=>(Hp.st H64 r57.2.length (0+1) (.sl s62)).bind λH65=>(Hp.ldI H65 .i64 r46.2.length 0).bind λn66=>(Hp.ldSl H65 r46.2.length (0+1)).bind λs67=>(Hp.ldI H65 .i64 r57.2.length 0).bind λn68=>(Hp.ldSl H65 r57.2.length (0+1)).bind λs69=>(qu n66 s67 n68 s69 H65).bind λr70=>((r70.1).asTup 2).bind λl71=>(l71[0]?).bind λv72=>((v72).asAgg 2).bind λl73=>(l73[0]?).bind λv74=>((v74).asI .i64).bind λn75=>(l73[1]?).bind λv76=>((v76).asSl).bind λs77=>(l71[1]?).bind λv78=>((v78).asI .i64).bind λn79=>(Hp.new r70.2 [.int .i64 0,.sl ⟨none,0,.ex 0⟩]).bind λH80=>(Hp.st H80 r70.2.length 0 (.int .i64 n75)).bind λH81=>(Hp.st H81 r70.2.length (0+1) (.sl s77)).bind λH82=>(Hp.ldI H82 .i64 r70.2.length 0).bind λn83=>(Hp.ldSl H82 r70.2.length (0+1)).bind λs84=>(Hp.ldI H82 .i64 r31.2.length 0).bind λn85=>(Hp.ldSl H82 r31.2.length (0+1)).bind λs86=>(od n83 s84 n85 s86 H82).bind λr87=>((r87.1).asB).bind λb88=>(bif (!b88) then (some ((.bool false),r87.2)) else ((bif (n79 != n40) then (some ((.bool false),r87.2)) else ((Hp.ldI r87.2 .i64 r46.2.length 0).bind λn89=>(Hp.ldSl r87.2 r46.2.length (0+1)).bind λs90=>(Hp.ldI r87.2 .i64 H.length 0).bind λn91=>(Hp.ldSl r87.2 H.length (0+1)).bind λs92=>(mS n91 s92 r87.2).bind λr93=>((r93.1).asAgg 2).bind λl94=>(l94[0]?).bind λv95=>((v95).asI .i64).bind λn96=>(l94[1]?).bind λv97=>((v97).asSl).bind λs98=>(if bh r87.2 r93.2 then ((od n89 s90 n96 s98 r93.2).bind λr99=>((r99.1).asB).bind λb100=>(bif (!b100) then (some ((.bool false),r99.2)) else ((Hp.ldI r99.2 .i64 r57.2.length 0).bind λn101=>(Hp.ldSl r99.2 r57.2.length (0+1)).bind λs102=>(Hp.ldI r99.2 .i64 H5.length 0).bind λn103=>(Hp.ldSl r99.2 H5.length (0+1)).bind λs104=>(mS n103 s104 r99.2).bind λr105=>((r105.1).asAgg 2).bind λl106=>(l106[0]?).bind λv107=>((v107).asI .i64).bind λn108=>(l106[1]?).bind λv109=>((v109).asSl).bind λs110=>(if bh r99.2 r105.2 then ((od n101 s102 n108 s110 r105.2).bind λr111=>((r111.1).asB).bind λb112=>(bif (!b112) then (some ((.bool false),r111.2)) else ((Hp.ldI r111.2 .i64 r46.2.length 0).bind λn113=>(Hp.ldSl r111.2 r46.2.length (0+1)).bind λs114=>(pH n113 s114 1 r111.2).bind λr115=>((r115.1).asI .i64).bind λn116=>(Hp.ldI r115.2 .i64 r57.2.length 0).bind λn117=>(Hp.ldSl r115.2 r57.2.length (0+1)).bind λs118=>(pH n117 s118 n116 r115.2).bind λr119=>((r119.1).asI .i64).bind λn120=>(bif (decide (n120<0)) then (some ((.bool false),r119.2)) else ((Hp.ldI r119.2 .i64 r70.2.length 0).bind λn121=>(Hp.ldSl r119.2 r70.2.length (0+1)).bind λs122=>(Hp.ldI r119.2 .i64 r31.2.length 0).bind λn123=>(Hp.ldSl r119.2 r31.2.length (0+1)).bind λs124=>(od n121 s122 n123 s124 r119.2).bind λr125=>((r125.1).asB).bind λb126=>(bif (!b126) then (some ((.bool false),r125.2)) else ((bif (n79 != n40) then (some ((.bool false),r125.2)) else ((Hp.ldI r125.2 .i64 r70.2.length 0).bind λn127=>(Hp.ldSl r125.2 r70.2.length (0+1)).bind λs128=>(pH n127 s128 1 r125.2).bind λr129=>((r129.1).asI .i64).bind λn130=>(Hp.ldI r129.2 .i64 r70.2.length 0).bind λn131=>(Hp.ldSl r129.2 r70.2.length (0+1)).bind λs132=>(qv n131 s132 1 r129.2).bind λr133=>((r133.1).asI .i64).bind λn134=>(bif (decide (n134<0)) then (some ((.bool false),r133.2)) else ((bif (n134 != n130) then (some ((.bool false),r133.2)) else ((Hp.ldI r133.2 .i64 H.length 0).bind λn135=>(Hp.ldSl r133.2 H.length (0+1)).bind λs136=>(mS n135 s136 r133.2).bind λr137=>((r137.1).asAgg 2).bind λl138=>(l138[0]?).bind λv139=>((v139).asI .i64).bind λn140=>(l138[1]?).bind λv141=>((v141).asSl).bind λs142=>(if bh r133.2 r137.2 then ((Hp.ldI r137.2 .i64 H5.length 0).bind λn143=>(Hp.ldSl r137.2 H5.length (0+1)).bind λs144=>(mS n143 s144 r137.2).bind λr145=>((r145.1).asAgg 2).bind λl146=>(l146[0]?).bind λv147=>((v147).asI .i64).bind λn148=>(l146[1]?).bind λv149=>((v149).asSl).bind λs150=>(if bh r137.2 r145.2 then ((qu n140 s142 n148 s150 r145.2).bind λr151=>((r151.1).asTup 2).bind λl152=>(l152[0]?).bind λv153=>((v153).asAgg 2).bind λl154=>(l154[0]?).bind λv155=>((v155).asI .i64).bind λn156=>(l154[1]?).bind λv157=>((v157).asSl).bind λs158=>(l152[1]?).bind λv159=>((v159).asI .i64).bind λn160=>(if bh r145.2 r151.2 then ((Hp.new r151.2 [.int .i64 0,.sl ⟨none,0,.ex 0⟩]).bind λH161=>(Hp.st H161 r151.2.length 0 (.int .i64 n156)).bind λH162=>(Hp.st H162 r151.2.length (0+1) (.sl s158)).bind λH163=>(Hp.ldI H163 .i64 r151.2.length 0).bind λn164=>(Hp.ldSl H163 r151.2.length (0+1)).bind λs165=>(Hp.ldI H163 .i64 r31.2.length 0).bind λn166=>(Hp.ldSl H163 r31.2.length (0+1)).bind λs167=>(od n164 s165 n166 s167 H163).bind λr168=>((r168.1).asB).bind λb169=>(bif (!b169) then (some ((.bool false),r168.2)) else ((bif (n160 != n40) then (some ((.bool false),r168.2)) else ((Hp.ldI r168.2 .i64 r70.2.length 0).bind λn170=>(Hp.ldSl r168.2 r70.2.length (0+1)).bind λs171=>(qv n170 s171 1 r168.2).bind λr172=>((r172.1).asI .i64).bind λn173=>(bif (decide (n173<0)) then (some ((.bool false),r172.2)) else ((bif (n173 != n130) then (some ((.bool false),r172.2)) else (some ((.bool true),r172.2)))))))))) else none)) else none)) else none)))))))))))))) else none)))) else none)))))) else none)) else none)) else none)))))
def gn.tw (F:Nat) (aa:Int) (af:Sl) (ag:Int) (aw:Sl) (H:Hp):OA:=gn.twX F (gZ.tw F) (fz.tw F) (cH.tw F) (cA.tw F) (gm.tw F) (gY.tw F) (ib.tw F) aa af ag aw H
def gn.pn:Nat->List Nat:=fA [(8,[9]),(14,[3]),(16,[3]),(31,[9])]
def gn.tb:Nat->List (List Nat):=fA [(8,[[],[0],[],[0,1,2],[0,1,2,3],[0,1,2,3,4],[0,1,2,3,4,5],[0,1,2,3,4,5],[],[0,1,2,3,4,5,6,8],[0,1,2,3,4,5,6,7,8,9]]),(14,[[],[],[1],[0,1,2],[0,1,2,3]]),(16,[[],[],[1],[0,1,2],[0,1,2,3]]),(31,[[],[0],[],[0,1,2],[0,1,2,3],[0,1,2,3,4],[0,1,2,3,4,5],[0,1,2,3,4,5],[],[0,1,2,3,4,5,6,8],[0,1,2,3,4,5,6,7,8,9]])]
def gn.mk (g:Int->Sl->Int->Sl->Hp->OA) (args:List AV) (H:Hp):OA:=match args with
 | [(.agg [(.int .i64 aa),(.sl af)]),(.agg [(.int .i64 ag),(.sl aw)])]=>g aa af ag aw H
 | _=>none
def gn.cs (F:Nat) (qt:Int->Sl->Int->Hp->OA) (mS:Int->Sl->Hp->OA) (tG:Int->Sl->Int->Sl->Hp->OA) (qu:Int->Sl->Int->Sl->Hp->OA) (od:Int->Sl->Int->Sl->Hp->OA) (pH:Int->Sl->Int->Hp->OA) (qv:Int->Sl->Int->Hp->OA):Cs:=[(48,gZ.mk qt),(50,fz.mk mS),(49,cH.mk tG),(51,cA.mk qu),(42,gm.mk od),(43,gY.mk pH),(44,ib.mk qv)]
theorem gn.eqX (F:Nat) (qt:Int->Sl->Int->Hp->OA) (mS:Int->Sl->Hp->OA) (tG:Int->Sl->Int->Sl->Hp->OA) (qu:Int->Sl->Int->Sl->Hp->OA) (od:Int->Sl->Int->Sl->Hp->OA) (pH:Int->Sl->Int->Hp->OA) (qv:Int->Sl->Int->Hp->OA) (aa:Int) (af:Sl) (ag:Int) (aw:Sl) (H:Hp):EX (bG (gn.cs F qt mS tG qu od pH qv)) gn.pn lh0 F Try.f10 [(.agg [(.int .i64 aa),(.sl af)]),(.agg [(.int .i64 ag),(.sl aw)])] H=gn.twX F qt mS tG qu od pH qv aa af ag aw H:=by kernel_rfl
theorem gn.k (F:Nat):Ok Try.prog 10 (gn.mk (gn.tw F)):=by
 intro args H v H' h
 unfold gn.mk at h
 split at h
 ·exact okT (TB:=gn.tb) Try.func10 (bM (gZ.k F) (bM (fz.k F) (bM (cH.k F) (bM (cA.k F) (bM (gm.k F) (bM (gY.k F) (bM (ib.k F) di))))))) ai.no ((gn.eqX F (gZ.tw F) (fz.tw F) (cH.tw F) (cA.tw F) (gm.tw F) (gY.tw F) (ib.tw F) _ _ _ _ H).trans h) (by kernel_rfl)
 ·cases h
theorem gn.mkE (g:Int->Sl->Int->Sl->Hp->OA) (aa:Int) (af:Sl) (ag:Int) (aw:Sl) (H:Hp):gn.mk g [(.agg [(.int .i64 aa),(.sl af)]),(.agg [(.int .i64 ag),(.sl aw)])] H=g aa af ag aw H:=rfl
theorem gn.T {F:Nat} {aa:Int} {af:Sl} {ag:Int} {aw:Sl} {H:Hp} {v:AV} {H':Hp} (h:gn.tw F aa af ag aw H=some (v,H')):Go.AE.T Try.prog 10 [(.agg [(.int .i64 aa),(.sl af)]),(.agg [(.int .i64 ag),(.sl aw)])] H v H':=gn.k F _ _ _ _ ((gn.mkE (gn.tw F) aa af ag aw H).trans h)
end
end Go.Proofs.Ytnkgeongfneafaa.AE
