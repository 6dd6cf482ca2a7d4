import Derived.Test.YtnkgeongfneafaaTab1
set_option linter.unusedVariables false
set_option linter.unusedSimpArgs false
namespace Go.Proofs.Ytnkgeongfneafaa.AE
open Go Go.AE Go.Proofs
set_option linter.unusedVariables false
set_option maxHeartbeats 4000000
set_option maxRecDepth 100000
noncomputable section
def iX.twX (F:Nat) (aa:Sl) (ax:Int) (H:Hp):OA:=(bif (decide ((IntKind.i64.wrap (ax - (aa.n:Int)))<0)) then (some ((.int .i64 (-1)),H)) else (some ((.int .i64 (IntKind.i64.wrap (ax - (aa.n:Int)))),H)))
def iX.tw (F:Nat) (aa:Sl) (ax:Int) (H:Hp):OA:=iX.twX F aa ax H
def iX.mk (g:Sl->Int->Hp->OA) (args:List AV) (H:Hp):OA:=match args with
 | [(.sl aa),(.int .i64 ax)]=>g aa ax H
 | _=>none
theorem iX.eqX (F:Nat) (aa:Sl) (ax:Int) (H:Hp):EX (bF []) bp lh0 F Try.f71 [(.sl aa),(.int .i64 ax)] H=iX.twX F aa ax H:=by kernel_rfl
theorem iX.k (F:Nat):Ok Try.prog 71 (iX.mk (iX.tw F)):=by
 intro args H v H' h
 unfold iX.mk at h
 split at h
 ·exact okT (TB:=bp) Try.func71 cK ah.no ((iX.eqX F _ _ H).trans h) (by kernel_rfl)
 ·cases h
def gT.twX (F:Nat) (sZ:Sl->Int->Hp->OA) (aa:Int) (af:Int) (aC:Sl) (aj:Int) (H:Hp):OA:=(Hp.new H [(.int .i64 aa),(.int .i64 af),(.sl aC)]).bind λH5=>(Hp.ldSl H5 H.length 2).bind λs6=>(sZ s6 aj H5).bind λr7=>((r7.1).asI .i64).bind λn8=>(bif (decide (n8<0)) then (some ((.int .i64 (-1)),r7.2)) else (some ((.int .i64 n8),r7.2)))
def gT.tw (F:Nat) (aa:Int) (af:Int) (aC:Sl) (aj:Int) (H:Hp):OA:=gT.twX F (iX.tw F) aa af aC aj H
def gT.mk (g:Int->Int->Sl->Int->Hp->OA) (args:List AV) (H:Hp):OA:=match args with
 | [(.agg [(.int .i64 aa),(.int .i64 af),(.sl aC)]),(.int .i64 aj)]=>g aa af aC aj H
 | _=>none
def gT.cs (F:Nat) (sZ:Sl->Int->Hp->OA):Cs:=[(71,iX.mk sZ)]
theorem gT.eqX (F:Nat) (sZ:Sl->Int->Hp->OA) (aa:Int) (af:Int) (aC:Sl) (aj:Int) (H:Hp):EX (bF (gT.cs F sZ)) bp lh0 F Try.f23 [(.agg [(.int .i64 aa),(.int .i64 af),(.sl aC)]),(.int .i64 aj)] H=gT.twX F sZ aa af aC aj H:=by kernel_rfl
theorem gT.k (F:Nat):Ok Try.prog 23 (gT.mk (gT.tw F)):=by
 intro args H v H' h
 unfold gT.mk at h
 split at h
 ·exact okT (TB:=bp) Try.func23 (bG (iX.k F) cK) ah.no ((gT.eqX F (iX.tw F) _ _ _ _ H).trans h) (by kernel_rfl)
 ·cases h
def eb.l29 (F:Nat) :Nat->Sl->Sl->Int->Hp->OA
 | 0,_,_,_,_=>none
 | dI+1,dh,jZ,fE,H7=>(bif (decide (fE<(dh.n:Int))) then ((Sl.idx dh fE 1).bind λp12=>(Hp.ldI H7 .i64 p12.1 p12.2).bind λn13=>(Sl.idx jZ fE 1).bind λp14=>(Hp.st H7 p14.1 p14.2 (.int .i64 n13)).bind λH15=>eb.l29 F dI dh jZ (IntKind.i64.wrap (fE+1)) H15) else (some ((.sl jZ),H7)))
termination_by structural n=>n
def eb.twX (F:Nat) (aa:Sl) (H:Hp):OA:=(Hp.mk H [.int .i64 0] 8 (aa.n:Int) (aa.n:Int)).bind λm2=>eb.l29 F F aa m2.1 0 m2.2
def eb.tw (F:Nat) (aa:Sl) (H:Hp):OA:=eb.twX F aa H
def eb.lh29 (F:Nat) (ks:List Nat) (n:Nat) (tm:Tm) (H:Hp):OA:=match ks,tm 0,tm 3,tm 4 with
 | [],(.sl dh),(.sl jZ),(.int .i64 fE)=>eb.l29 F n dh jZ fE H
 | _,_,_,_=>none
theorem eb.lh29_inv {F:Nat} {ks:List Nat} {n:Nat} {tm:Tm} {H:Hp} {r:AV×Hp} (h:eb.lh29 F ks n tm H=some r):∃ dh jZ fE,ks=[]/\eG tm [(0,(.sl dh)),(3,(.sl jZ)),(4,(.int .i64 fE))]/\eb.l29 F n dh jZ fE H=some r:=by
 unfold eb.lh29 at h
 split at h
 ·exact ⟨_,_,_,rfl,⟨‹_›,‹_›,‹_›,trivial⟩,h⟩
 ·cases h
def eb.lh (F:Nat) (p:Nat) (ks:List Nat) (n:Nat) (tm:Tm) (H:Hp):OA:=bif p.beq 29 then eb.lh29 F ks n tm H else (none)
def eb.mk (g:Sl->Hp->OA) (args:List AV) (H:Hp):OA:=match args with
 | [(.sl aa)]=>g aa H
 | _=>none
theorem eb.loops (F:Nat):LO (bF []) bp (eb.lh F) F Try.f72:=
 (ah.rt (ah.rt (ah.lt (ah.rt (ah.block (ah.loop (λtm H=>eP λr h=>by obtain ⟨dh,jZ,fE,hks,e,h⟩:=eb.lh29_inv (show eb.lh29 F [] 0 tm H=some r from h);cases h) (λk29 tm H r h=>by obtain ⟨dh,jZ,fE,hks,e,h⟩:=eb.lh29_inv (show eb.lh29 F [] (k29+1) tm H=some r from h);rw [<- eM e];exact Eq.trans (by kernel_rfl) h) λk29=>ah.no))))))
theorem eb.eqX (F:Nat) (aa:Sl) (H:Hp):EX (bF []) bp (eb.lh F) F Try.f72 [(.sl aa)] H=eb.twX F aa H:=by kernel_rfl
theorem eb.k (F:Nat):Ok Try.prog 72 (eb.mk (eb.tw F)):=by
 intro args H v H' h
 unfold eb.mk at h
 split at h
 ·exact okT (TB:=bp) Try.func72 cK (eb.loops F) ((eb.eqX F _ H).trans h) (by kernel_rfl)
 ·cases h
def fF.twX (F:Nat) (s_:Sl->Hp->OA) (aa:Int) (af:Int) (aC:Sl) (H:Hp):OA:=(Hp.new H [(.int .i64 aa),(.int .i64 af),(.sl aC)]).bind λH4=>(Hp.new H4 [.int .i64 0,.int .i64 0,.sl ⟨none,0,.ex 0⟩]).bind λH5=>(Hp.new H5 [.int .i64 0,.int .i64 0,.sl ⟨none,0,.ex 0⟩]).bind λH6=>(Hp.ldI H6 .i64 H.length 0).bind λn7=>(Hp.st H6 H5.length 0 (.int .i64 n7)).bind λH8=>(Hp.ldI H8 .i64 H.length 1).bind λn9=>(Hp.st H8 H5.length 1 (.int .i64 n9)).bind λH10=>(Hp.ldSl H10 H.length 2).bind λs11=>(s_ s11 H10).bind λr12=>((r12.1).asSl).bind λs13=>(Hp.st r12.2 H5.length 2 (.sl s13)).bind λH14=>(Hp.ldI H14 .i64 H5.length 0).bind λn15=>(Hp.ldI H14 .i64 H5.length (0+1)).bind λn16=>(Hp.ldSl H14 H5.length (0+2)).bind λs17=>(Hp.st H14 H4.length 0 (.int .i64 n15)).bind λH18=>(Hp.st H18 H4.length (0+1) (.int .i64 n16)).bind λH19=>(Hp.st H19 H4.length (0+1+1) (.sl s17)).bind λH20=>(Hp.ldI H20 .i64 H4.length 0).bind λn21=>(Hp.ldI H20 .i64 H4.length (0+1)).bind λn22=>(Hp.ldSl H20 H4.length (0+2)).bind λs23=>some ((.agg [(.int .i64 n21),(.int .i64 n22),(.sl s23)]),H20)
def fF.tw (F:Nat) (aa:Int) (af:Int) (aC:Sl) (H:Hp):OA:=fF.twX F (eb.tw F) aa af aC H
def fF.mk (g:Int->Int->Sl->Hp->OA) (args:List AV) (H:Hp):OA:=match args with
 | [(.agg [(.int .i64 aa),(.int .i64 af),(.sl aC)])]=>g aa af aC H
 | _=>none
def fF.cs (F:Nat) (s_:Sl->Hp->OA):Cs:=[(72,eb.mk s_)]
theorem fF.eqX (F:Nat) (s_:Sl->Hp->OA) (aa:Int) (af:Int) (aC:Sl) (H:Hp):EX (bF (fF.cs F s_)) bp lh0 F Try.f25 [(.agg [(.int .i64 aa),(.int .i64 af),(.sl aC)])] H=fF.twX F s_ aa af aC H:=by kernel_rfl
theorem fF.k (F:Nat):Ok Try.prog 25 (fF.mk (fF.tw F)):=by
 intro args H v H' h
 unfold fF.mk at h
 split at h
 ·exact okT (TB:=bp) Try.func25 (bG (eb.k F) cK) ah.no ((fF.eqX F (eb.tw F) _ _ _ H).trans h) (by kernel_rfl)
 ·cases h
def gU.twX (F:Nat) (aa:Int) (ax:Int) (dJ:Int) (H:Hp):OA:=(bif (decide (aa>=ax)) then (some ((.bool (decide (aa<=dJ))),H)) else (some ((.bool false),H)))
def gU.tw (F:Nat) (aa:Int) (ax:Int) (dJ:Int) (H:Hp):OA:=gU.twX F aa ax dJ H
def gU.mk (g:Int->Int->Int->Hp->OA) (args:List AV) (H:Hp):OA:=match args with
 | [(.int .i64 aa),(.int .i64 ax),(.int .i64 dJ)]=>g aa ax dJ H
 | _=>none
theorem gU.eqX (F:Nat) (aa:Int) (ax:Int) (dJ:Int) (H:Hp):EX (bF []) bp lh0 F Try.f68 [(.int .i64 aa),(.int .i64 ax),(.int .i64 dJ)] H=gU.twX F aa ax dJ H:=by kernel_rfl
theorem gU.k (F:Nat):Ok Try.prog 68 (gU.mk (gU.tw F)):=by
 intro args H v H' h
 unfold gU.mk at h
 split at h
 ·exact okT (TB:=bp) Try.func68 cK ah.no ((gU.eqX F _ _ _ H).trans h) (by kernel_rfl)
 ·cases h
def dQ.l29 (F:Nat) (jp:Int->Int->Int->Hp->OA) :Nat->Nat->Nat->Int->Hp->OA
 | 0,_,_,_,_=>none
 | dI+1,nb,oZ,ln,H22=>(Hp.ldSl H22 nb (oZ+2)).bind λs29=>(bif (decide (ln<(s29.n:Int))) then ((Hp.ldSl H22 nb (oZ+2)).bind λs30=>(Sl.idx s30 ln 1).bind λp31=>(Hp.ldI H22 .i64 p31.1 p31.2).bind λn32=>(jp n32 (-1000000000000) 1000000000000 H22).bind λr33=>((r33.1).asB).bind λb34=>(bif (!b34) then (some ((.bool false),r33.2)) else (dQ.l29 F jp dI nb oZ (IntKind.i64.wrap (ln+1)) r33.2))) else (some ((.bool true),H22)))
termination_by structural n=>n
def dQ.twX (F:Nat) (jp:Int->Int->Int->Hp->OA) (aa:Int) (af:Int) (aC:Sl) (H:Hp):OA:=(Hp.new H [(.int .i64 aa),(.int .i64 af),(.sl aC)]).bind λH4=>(Hp.ldI H4 .i64 H.length 0).bind λn5=>(jp n5 0 48 H4).bind λr6=>((r6.1).asB).bind λb7=>(bif (!b7) then (some ((.bool false),r6.2)) else ((Hp.ldI r6.2 .i64 H.length 1).bind λn8=>(jp n8 0 48 r6.2).bind λr9=>((r9.1).asB).bind λb10=>(bif (!b10) then (some ((.bool false),r9.2)) else ((Hp.ldSl r9.2 H.length 2).bind λs11=>(Hp.ldI r9.2 .i64 H.length 0).bind λn12=>(Hp.ldI r9.2 .i64 H.length 1).bind λn13=>(bif ((s11.n:Int) != (IntKind.i64.wrap (n12 * n13))) then (some ((.bool false),r9.2)) else (dQ.l29 F jp F H.length 0 0 r9.2))))))
def dQ.tw (F:Nat) (aa:Int) (af:Int) (aC:Sl) (H:Hp):OA:=dQ.twX F (gU.tw F) aa af aC H
def dQ.lh29 (F:Nat) (jp:Int->Int->Int->Hp->OA) (ks:List Nat) (n:Nat) (tm:Tm) (H:Hp):OA:=match ks,tm 1,tm 3 with
 | [],(.ptr nb oZ),(.int .i64 ln)=>dQ.l29 F jp n nb oZ ln H
 | _,_,_=>none
theorem dQ.lh29_inv {F:Nat} {jp:Int->Int->Int->Hp->OA} {ks:List Nat} {n:Nat} {tm:Tm} {H:Hp} {r:AV×Hp} (h:dQ.lh29 F jp ks n tm H=some r):∃ nb oZ ln,ks=[]/\eG tm [(1,(.ptr nb oZ)),(3,(.int .i64 ln))]/\dQ.l29 F jp n nb oZ ln H=some r:=by
 unfold dQ.lh29 at h
 split at h
 ·exact ⟨_,_,_,rfl,⟨‹_›,‹_›,trivial⟩,h⟩
 ·cases h
def dQ.lh (F:Nat) (jp:Int->Int->Int->Hp->OA) (p:Nat) (ks:List Nat) (n:Nat) (tm:Tm) (H:Hp):OA:=bif p.beq 29 then dQ.lh29 F jp ks n tm H else (none)
def dQ.mk (g:Int->Int->Sl->Hp->OA) (args:List AV) (H:Hp):OA:=match args with
 | [(.agg [(.int .i64 aa),(.int .i64 af),(.sl aC)])]=>g aa af aC H
 | _=>none
def dQ.cs (F:Nat) (jp:Int->Int->Int->Hp->OA):Cs:=[(68,gU.mk jp)]
theorem dQ.loops (F:Nat) (jp:Int->Int->Int->Hp->OA):LO (bF (dQ.cs F jp)) bp (dQ.lh F jp) F Try.f19:=
 (ah.rt (ah.rt (ah.lt (ah.rt (ah.block (ah.loop (λtm H=>eP λr h=>by obtain ⟨nb,oZ,ln,hks,e,h⟩:=dQ.lh29_inv (show dQ.lh29 F jp [] 0 tm H=some r from h);cases h) (λk29 tm H r h=>by obtain ⟨nb,oZ,ln,hks,e,h⟩:=dQ.lh29_inv (show dQ.lh29 F jp [] (k29+1) tm H=some r from h);rw [<- eM e];exact Eq.trans (by kernel_rfl) h) λk29=>ah.no))))))
theorem dQ.eqX (F:Nat) (jp:Int->Int->Int->Hp->OA) (aa:Int) (af:Int) (aC:Sl) (H:Hp):EX (bF (dQ.cs F jp)) bp (dQ.lh F jp) F Try.f19 [(.agg [(.int .i64 aa),(.int .i64 af),(.sl aC)])] H=dQ.twX F jp aa af aC H:=by kernel_rfl
theorem dQ.k (F:Nat):Ok Try.prog 19 (dQ.mk (dQ.tw F)):=by
 intro args H v H' h
 unfold dQ.mk at h
 split at h
 ·exact okT (TB:=bp) Try.func19 (bG (gU.k F) cK) (dQ.loops F (gU.tw F)) ((dQ.eqX F (gU.tw F) _ _ _ H).trans h) (by kernel_rfl)
 ·cases h
def eV.twX (F:Nat) (aa:Int) (ax:Int) (H:Hp):OA:=(Hp.new H [.int .i64 0,.int .i64 0,.sl ⟨none,0,.ex 0⟩]).bind λH3=>(Hp.mk H3 [.int .i64 0] 8 (IntKind.i64.wrap (aa * ax)) (IntKind.i64.wrap (aa * ax))).bind λm4=>(Hp.st m4.2 H.length 0 (.int .i64 aa)).bind λH5=>(Hp.st H5 H.length (0+1) (.int .i64 ax)).bind λH6=>(Hp.st H6 H.length (0+1+1) (.sl m4.1)).bind λH7=>(Hp.ldI H7 .i64 H.length 0).bind λn8=>(Hp.ldI H7 .i64 H.length (0+1)).bind λn9=>(Hp.ldSl H7 H.length (0+2)).bind λs10=>some ((.agg [(.int .i64 n8),(.int .i64 n9),(.sl s10)]),H7)
def eV.tw (F:Nat) (aa:Int) (ax:Int) (H:Hp):OA:=eV.twX F aa ax H
def eV.mk (g:Int->Int->Hp->OA) (args:List AV) (H:Hp):OA:=match args with
 | [(.int .i64 aa),(.int .i64 ax)]=>g aa ax H
 | _=>none
theorem eV.eqX (F:Nat) (aa:Int) (ax:Int) (H:Hp):EX (bF []) bp lh0 F Try.f80 [(.int .i64 aa),(.int .i64 ax)] H=eV.twX F aa ax H:=by kernel_rfl
theorem eV.k (F:Nat):Ok Try.prog 80 (eV.mk (eV.tw F)):=by
 intro args H v H' h
 unfold eV.mk at h
 split at h
 ·exact okT (TB:=bp) Try.func80 cK ah.no ((eV.eqX F _ _ H).trans h) (by kernel_rfl)
 ·cases h
def bh.twX (F:Nat) (aa:Int) (af:Int) (aC:Sl) (aj:Int) (bW:Int) (H:Hp):OA:=(Hp.new H [(.int .i64 aa),(.int .i64 af),(.sl aC)]).bind λH6=>(Hp.ldSl H6 H.length 2).bind λs7=>(Hp.ldI H6 .i64 H.length 1).bind λn8=>(Sl.idx s7 (IntKind.i64.wrap ((IntKind.i64.wrap (aj * n8))+bW)) 1).bind λp9=>(Hp.ldI H6 .i64 p9.1 p9.2).bind λn10=>some ((.int .i64 n10),H6)
def bh.tw (F:Nat) (aa:Int) (af:Int) (aC:Sl) (aj:Int) (bW:Int) (H:Hp):OA:=bh.twX F aa af aC aj bW H
def bh.mk (g:Int->Int->Sl->Int->Int->Hp->OA) (args:List AV) (H:Hp):OA:=match args with
 | [(.agg [(.int .i64 aa),(.int .i64 af),(.sl aC)]),(.int .i64 aj),(.int .i64 bW)]=>g aa af aC aj bW H
 | _=>none
theorem bh.eqX (F:Nat) (aa:Int) (af:Int) (aC:Sl) (aj:Int) (bW:Int) (H:Hp):EX (bF []) bp lh0 F Try.f79 [(.agg [(.int .i64 aa),(.int .i64 af),(.sl aC)]),(.int .i64 aj),(.int .i64 bW)] H=bh.twX F aa af aC aj bW H:=by kernel_rfl
theorem bh.k (F:Nat):Ok Try.prog 79 (bh.mk (bh.tw F)):=by
 intro args H v H' h
 unfold bh.mk at h
 split at h
 ·exact okT (TB:=bp) Try.func79 cK ah.no ((bh.eqX F _ _ _ _ _ H).trans h) (by kernel_rfl)
 ·cases h
def dR.twX (F:Nat) (aa:Int) (H:Hp):OA:=some ((.int .i64 (if (IntKind.i64.wrap (0 - aa))>aa then (IntKind.i64.wrap (0 - aa)) else aa)),H)
def dR.tw (F:Nat) (aa:Int) (H:Hp):OA:=dR.twX F aa H
def dR.mk (g:Int->Hp->OA) (args:List AV) (H:Hp):OA:=match args with
 | [(.int .i64 aa)]=>g aa H
 | _=>none
theorem dR.eqX (F:Nat) (aa:Int) (H:Hp):EX (bF []) bp lh0 F Try.f114 [(.int .i64 aa)] H=dR.twX F aa H:=by kernel_rfl
theorem dR.k (F:Nat):Ok Try.prog 114 (dR.mk (dR.tw F)):=by
 intro args H v H' h
 unfold dR.mk at h
 split at h
 ·exact okT (TB:=bp) Try.func114 cK ah.no ((dR.eqX F _ H).trans h) (by kernel_rfl)
 ·cases h
def fq.twX (F:Nat) (bk:Int->Hp->OA) (aa:Int) (ax:Int) (dJ:Int) (H:Hp):OA:=(bif (aa != 0) then ((bk ax H).bind λr4=>((r4.1).asI .i64).bind λn5=>(bk aa r4.2).bind λr6=>((r6.1).asI .i64).bind λn7=>(if n7=0 then none else ((bif (decide (n5>(IntKind.i64.wrap (Int.tdiv dJ n7)))) then (some ((.tup [(.int .i64 0),(.bool false)]),r6.2)) else (some ((.tup [(.int .i64 (IntKind.i64.wrap (aa * ax))),(.bool true)]),r6.2)))))) else (some ((.tup [(.int .i64 (IntKind.i64.wrap (aa * ax))),(.bool true)]),H)))
def fq.tw (F:Nat) (aa:Int) (ax:Int) (dJ:Int) (H:Hp):OA:=fq.twX F (dR.tw F) aa ax dJ H
def fq.mk (g:Int->Int->Int->Hp->OA) (args:List AV) (H:Hp):OA:=match args with
 | [(.int .i64 aa),(.int .i64 ax),(.int .i64 dJ)]=>g aa ax dJ H
 | _=>none
def fq.cs (F:Nat) (bk:Int->Hp->OA):Cs:=[(114,dR.mk bk)]
theorem fq.eqX (F:Nat) (bk:Int->Hp->OA) (aa:Int) (ax:Int) (dJ:Int) (H:Hp):EX (bF (fq.cs F bk)) bp lh0 F Try.f113 [(.int .i64 aa),(.int .i64 ax),(.int .i64 dJ)] H=fq.twX F bk aa ax dJ H:=by kernel_rfl
theorem fq.k (F:Nat):Ok Try.prog 113 (fq.mk (fq.tw F)):=by
 intro args H v H' h
 unfold fq.mk at h
 split at h
 ·exact okT (TB:=bp) Try.func113 (bG (dR.k F) cK) ah.no ((fq.eqX F (dR.tw F) _ _ _ H).trans h) (by kernel_rfl)
 ·cases h
def aK.j9 (F:Nat) (cD:Int->Int->Hp->OA) (ap:Int->Int->Sl->Int->Int->Hp->OA) (dS:Int->Int->Int->Hp->OA) (bk:Int->Hp->OA) (C29_:Nat->Nat->Nat->Nat->Nat->Nat->Nat->Nat->Int->Hp->OA) (xy:Nat) (Ng:Nat) (xz:Nat) (Nh:Nat) (xA:Nat) (Ni:Nat) (xB:Nat) (Nj:Nat) (ta:Int) (H583:Hp):OA:=C29_ xy Ng xz Nh xA Ni xB Nj (IntKind.i64.wrap (ta+1)) H583
def aK.j10 (F:Nat) (cD:Int->Int->Hp->OA) (ap:Int->Int->Sl->Int->Int->Hp->OA) (dS:Int->Int->Int->Hp->OA) (bk:Int->Hp->OA) (C29_:Nat->Nat->Nat->Nat->Nat->Nat->Nat->Nat->Int->Hp->OA) (xC:Nat) (Nk:Nat) (xD:Nat) (Nl:Nat) (xE:Nat) (Nm:Nat) (xF:Nat) (Nn:Nat) (tc:Int) (H563:Hp):OA:=aK.j9 F cD ap dS bk C29_ xC Nk xD Nl xE Nm xF Nn tc H563
def aK.j11 (F:Nat) (cD:Int->Int->Hp->OA) (ap:Int->Int->Sl->Int->Int->Hp->OA) (dS:Int->Int->Int->Hp->OA) (bk:Int->Hp->OA) (C469_:Nat->Nat->Nat->Nat->Nat->Nat->Nat->Nat->Int->Int->Hp->OA) (xG:Nat) (No:Nat) (xH:Nat) (Np:Nat) (xI:Nat) (Nq:Nat) (xJ:Nat) (Nr:Nat) (td:Int) (te:Int) (H690:Hp):OA:=C469_ xG No xH Np xI Nq xJ Nr td (IntKind.i64.wrap (te+1)) H690
def aK.j12 (F:Nat) (cD:Int->Int->Hp->OA) (ap:Int->Int->Sl->Int->Int->Hp->OA) (dS:Int->Int->Int->Hp->OA) (bk:Int->Hp->OA) (C469_:Nat->Nat->Nat->Nat->Nat->Nat->Nat->Nat->Int->Int->Hp->OA) (xK:Nat) (Ns:Nat) (vY:Nat) (GG:Nat) (xL:Nat) (Nt:Nat) (vZ:Nat) (GH:Nat) (ql:Int) (qm:Int) (tf:Int) (H662:Hp):OA:=(Hp.ldSl H662 vZ (GH+2)).bind λs663=>(Hp.ldI H662 .i64 vY (GG+1)).bind λn664=>(Sl.idx s663 (IntKind.i64.wrap ((IntKind.i64.wrap (ql * n664))+qm)) 1).bind λp665=>(Hp.st H662 p665.1 p665.2 (.int .i64 tf)).bind λH666=>aK.j11 F cD ap dS bk C469_ xK Ns vY GG xL Nt vZ GH ql qm H666
def aK.l30037 (F:Nat) (cD:Int->Int->Hp->OA) (ap:Int->Int->Sl->Int->Int->Hp->OA) (dS:Int->Int->Int->Hp->OA) (bk:Int->Hp->OA) (C29_:Nat->Nat->Nat->Nat->Nat->Nat->Nat->Nat->Int->Hp->OA) (C469_:Nat->Nat->Nat->Nat->Nat->Nat->Nat->Nat->Int->Int->Hp->OA):Nat->Nat->Nat->Nat->Nat->Nat->Nat->Nat->Nat->Int->Int->Int->Int->Int->Hp->OA
 | 0,_,_,_,_,_,_,_,_,_,_,_,_,_,_=>none
 | Nu+1,lK,nE,lT,ob,jk,j_,nF,pu,lp,lq,lU,lV,ki,H607=>(Hp.ldI H607 .i64 lK (nE+1)).bind λn691=>(bif (decide (ki<n691)) then ((Hp.ldI H607 .i64 lK nE).bind λn692=>(Hp.ldI H607 .i64 lK (nE+1)).bind λn693=>(Hp.ldSl H607 lK (nE+2)).bind λs694=>(ap n692 n693 s694 lp ki H607).bind λr695=>((r695.1).asI .i64).bind λn696=>(if bt H607 r695.2 then ((Hp.ldI r695.2 .i64 lT ob).bind λn697=>(Hp.ldI r695.2 .i64 lT (ob+1)).bind λn698=>(Hp.ldSl r695.2 lT (ob+2)).bind λs699=>(ap n697 n698 s699 ki lq r695.2).bind λr700=>((r700.1).asI .i64).bind λn701=>(dS n696 n701 1000000000000 r700.2).bind λr702=>((r702.1).asTup 2).bind λl703=>(l703[0]?).bind λv704=>((v704).asI .i64).bind λn705=>(l703[1]?).bind λv706=>((v706).asB).bind λb707=>(bk n705 r702.2).bind λr708=>((r708.1).asI .i64).bind λn709=>(bif (!b707) then ((Hp.st r708.2 jk j_ (.int .i64 0)).bind λH710=>(Hp.st H710 jk (j_+1) (.int .i64 0)).bind λH711=>(Hp.st H711 jk (j_+1+1) (.sl (⟨none,0,.ex 0⟩:Sl))).bind λH712=>(Hp.ldI H712 .i64 jk j_).bind λn713=>(Hp.ldI H712 .i64 jk (j_+1)).bind λn714=>(Hp.ldSl H712 jk (j_+2)).bind λs715=>some ((.tup [(.agg [(.int .i64 n713),(.int .i64 n714),(.sl s715)]),(.bool false)]),H712)) else ((bif (decide ((IntKind.i64.wrap (lV+n709))>1000000000000)) then ((Hp.st r708.2 jk j_ (.int .i64 0)).bind λH716=>(Hp.st H716 jk (j_+1) (.int .i64 0)).bind λH717=>(Hp.st H717 jk (j_+1+1) (.sl (⟨none,0,.ex 0⟩:Sl))).bind λH718=>(Hp.ldI H718 .i64 jk j_).bind λn719=>(Hp.ldI H718 .i64 jk (j_+1)).bind λn720=>(Hp.ldSl H718 jk (j_+2)).bind λs721=>some ((.tup [(.agg [(.int .i64 n719),(.int .i64 n720),(.sl s721)]),(.bool false)]),H718)) else (aK.l30037 F cD ap dS bk C29_ C469_ Nu lK nE lT ob jk j_ nF pu lp lq (IntKind.i64.wrap (lU+n705)) (IntKind.i64.wrap (lV+n709)) (IntKind.i64.wrap (ki+1)) r708.2))))) else none)) else (aK.j12 F cD ap dS bk C469_ lK nE lT ob jk j_ nF pu lp lq lU H607))
termination_by structural n=>n
def aK.l469 (F:Nat) (cD:Int->Int->Hp->OA) (ap:Int->Int->Sl->Int->Int->Hp->OA) (dS:Int->Int->Int->Hp->OA) (bk:Int->Hp->OA) (C29_:Nat->Nat->Nat->Nat->Nat->Nat->Nat->Nat->Int->Hp->OA):Nat->Nat->Nat->Nat->Nat->Nat->Nat->Nat->Nat->Int->Int->Hp->OA
 | 0,_,_,_,_,_,_,_,_,_,_,_=>none
 | lr+1,nG,pv,ne,o_,nH,pw,nI,pz,lW,lX,H405=>(Hp.ldI H405 .i64 ne (o_+1)).bind λn584=>(bif (decide (lX<n584)) then (aK.l30037 F cD ap dS bk C29_ (aK.l469 F cD ap dS bk C29_ lr) F nG pv ne o_ nH pw nI pz lW lX 0 0 0 H405) else (aK.j10 F cD ap dS bk C29_ nG pv ne o_ nH pw nI pz lW H405))
termination_by structural n=>n
def aK.l29 (F:Nat) (cD:Int->Int->Hp->OA) (ap:Int->Int->Sl->Int->Int->Hp->OA) (dS:Int->Int->Int->Hp->OA) (bk:Int->Hp->OA) :Nat->Nat->Nat->Nat->Nat->Nat->Nat->Nat->Nat->Int->Hp->OA
 | 0,_,_,_,_,_,_,_,_,_,_=>none
 | dI+1,nJ,pA,oc,qn,lu,ng,mG,oD,lY,H40=>(Hp.ldI H40 .i64 nJ pA).bind λn386=>(bif (decide (lY<n386)) then (aK.l469 F cD ap dS bk (aK.l29 F cD ap dS bk dI) F nJ pA oc qn lu ng mG oD lY 0 H40) else ((Hp.ldI H40 .i64 mG oD).bind λn722=>(Hp.ldI H40 .i64 mG (oD+1)).bind λn723=>(Hp.ldSl H40 mG (oD+2)).bind λs724=>(Hp.st H40 lu ng (.int .i64 n722)).bind λH725=>(Hp.st H725 lu (ng+1) (.int .i64 n723)).bind λH726=>(Hp.st H726 lu (ng+1+1) (.sl s724)).bind λH727=>(Hp.ldI H727 .i64 lu ng).bind λn728=>(Hp.ldI H727 .i64 lu (ng+1)).bind λn729=>(Hp.ldSl H727 lu (ng+2)).bind λs730=>some ((.tup [(.agg [(.int .i64 n728),(.int .i64 n729),(.sl s730)]),(.bool true)]),H727)))
termination_by structural n=>n
def aK.twX (F:Nat) (cD:Int->Int->Hp->OA) (ap:Int->Int->Sl->Int->Int->Hp->OA) (dS:Int->Int->Int->Hp->OA) (bk:Int->Hp->OA) (aa:Int) (af:Int) (aC:Sl) (aj:Int) (aJ:Int) (df:Sl) (H:Hp):OA:=(Hp.new H [(.int .i64 aa),(.int .i64 af),(.sl aC)]).bind λH7=>(Hp.new H7 [(.int .i64 aj),(.int .i64 aJ),(.sl df)]).bind λH8=>(Hp.new H8 [.int .i64 0,.int .i64 0,.sl ⟨none,0,.ex 0⟩]).bind λH9=>(Hp.ldI H9 .i64 H.length 0).bind λn10=>(Hp.ldI H9 .i64 H7.length 1).bind λn11=>(cD n10 n11 H9).bind λr12=>((r12.1).asAgg 3).bind λl13=>(l13[0]?).bind λv14=>((v14).asI .i64).bind λn15=>(l13[1]?).bind λv16=>((v16).asI .i64).bind λn17=>(l13[2]?).bind λv18=>((v18).asSl).bind λs19=>(Hp.new r12.2 [.int .i64 0,.int .i64 0,.sl ⟨none,0,.ex 0⟩]).bind λH20=>(Hp.st H20 r12.2.length 0 (.int .i64 n15)).bind λH21=>(Hp.st H21 r12.2.length (0+1) (.int .i64 n17)).bind λH22=>(Hp.st H22 r12.2.length (0+1+1) (.sl s19)).bind λH23=>aK.l29 F cD ap dS bk F H.length 0 H7.length 0 H8.length 0 r12.2.length 0 0 H23
def aK.tw (F:Nat) (aa:Int) (af:Int) (aC:Sl) (aj:Int) (aJ:Int) (df:Sl) (H:Hp):OA:=aK.twX F (eV.tw F) (bh.tw F) (fq.tw F) (dR.tw F) aa af aC aj aJ df H
def aK.lh29 (F:Nat) (cD:Int->Int->Hp->OA) (ap:Int->Int->Sl->Int->Int->Hp->OA) (dS:Int->Int->Int->Hp->OA) (bk:Int->Hp->OA) (ks:List Nat) (n:Nat) (tm:Tm) (H:Hp):OA:=match ks,tm 2,tm 3,tm 4,tm 6,tm 7 with
 | [],(.ptr nJ pA),(.ptr oc qn),(.ptr lu ng),(.ptr mG oD),(.int .i64 lY)=>aK.l29 F cD ap dS bk n nJ pA oc qn lu ng mG oD lY H
 | _,_,_,_,_,_=>none
theorem aK.lh29_inv {F:Nat} {cD:Int->Int->Hp->OA} {ap:Int->Int->Sl->Int->Int->Hp->OA} {dS:Int->Int->Int->Hp->OA} {bk:Int->Hp->OA} {ks:List Nat} {n:Nat} {tm:Tm} {H:Hp} {r:AV×Hp} (h:aK.lh29 F cD ap dS bk ks n tm H=some r):∃ nJ pA oc qn lu ng mG oD lY,ks=[]/\eG tm [(2,(.ptr nJ pA)),(3,(.ptr oc qn)),(4,(.ptr lu ng)),(6,(.ptr mG oD)),(7,(.int .i64 lY))]/\aK.l29 F cD ap dS bk n nJ pA oc qn lu ng mG oD lY H=some r:=by
 unfold aK.lh29 at h
 split at h
 ·exact ⟨_,_,_,_,_,_,_,_,_,rfl,⟨‹_›,‹_›,‹_›,‹_›,‹_›,trivial⟩,h⟩
 ·cases h
def aK.lh469 (F:Nat) (cD:Int->Int->Hp->OA) (ap:Int->Int->Sl->Int->Int->Hp->OA) (dS:Int->Int->Int->Hp->OA) (bk:Int->Hp->OA) (ks:List Nat) (n:Nat) (tm:Tm) (H:Hp):OA:=match ks,tm 2,tm 3,tm 4,tm 6,tm 7,tm 8 with
 | [dI],(.ptr nG pv),(.ptr ne o_),(.ptr nH pw),(.ptr nI pz),(.int .i64 lW),(.int .i64 lX)=>aK.l469 F cD ap dS bk (aK.l29 F cD ap dS bk dI) n nG pv ne o_ nH pw nI pz lW lX H
 | _,_,_,_,_,_,_=>none
theorem aK.lh469_inv {F:Nat} {cD:Int->Int->Hp->OA} {ap:Int->Int->Sl->Int->Int->Hp->OA} {dS:Int->Int->Int->Hp->OA} {bk:Int->Hp->OA} {ks:List Nat} {n:Nat} {tm:Tm} {H:Hp} {r:AV×Hp} (h:aK.lh469 F cD ap dS bk ks n tm H=some r):∃ dI nG pv ne o_ nH pw nI pz lW lX,ks=[dI]/\eG tm [(2,(.ptr nG pv)),(3,(.ptr ne o_)),(4,(.ptr nH pw)),(6,(.ptr nI pz)),(7,(.int .i64 lW)),(8,(.int .i64 lX))]/\aK.l469 F cD ap dS bk (aK.l29 F cD ap dS bk dI) n nG pv ne o_ nH pw nI pz lW lX H=some r:=by
 unfold aK.lh469 at h
 split at h
 ·exact ⟨_,_,_,_,_,_,_,_,_,_,_,rfl,⟨‹_›,‹_›,‹_›,‹_›,‹_›,‹_›,trivial⟩,h⟩
 ·cases h
def aK.lh30037 (F:Nat) (cD:Int->Int->Hp->OA) (ap:Int->Int->Sl->Int->Int->Hp->OA) (dS:Int->Int->Int->Hp->OA) (bk:Int->Hp->OA) (ks:List Nat) (n:Nat) (tm:Tm) (H:Hp):OA:=match ks,tm 2,tm 3,tm 4,tm 6,tm 7,tm 8,tm 9,tm 10,tm 11 with
 | [lr,dI],(.ptr lK nE),(.ptr lT ob),(.ptr jk j_),(.ptr nF pu),(.int .i64 lp),(.int .i64 lq),(.int .i64 lU),(.int .i64 lV),(.int .i64 ki)=>aK.l30037 F cD ap dS bk (aK.l29 F cD ap dS bk dI) (aK.l469 F cD ap dS bk (aK.l29 F cD ap dS bk dI) lr) n lK nE lT ob jk j_ nF pu lp lq lU lV ki H
 | _,_,_,_,_,_,_,_,_,_=>none
theorem aK.lh30037_inv {F:Nat} {cD:Int->Int->Hp->OA} {ap:Int->Int->Sl->Int->Int->Hp->OA} {dS:Int->Int->Int->Hp->OA} {bk:Int->Hp->OA} {ks:List Nat} {n:Nat} {tm:Tm} {H:Hp} {r:AV×Hp} (h:aK.lh30037 F cD ap dS bk ks n tm H=some r):∃ lr dI lK nE lT ob jk j_ nF pu lp lq lU lV ki,ks=[lr,dI]/\eG tm [(2,(.ptr lK nE)),(3,(.ptr lT ob)),(4,(.ptr jk j_)),(6,(.ptr nF pu)),(7,(.int .i64 lp)),(8,(.int .i64 lq)),(9,(.int .i64 lU)),(10,(.int .i64 lV)),(11,(.int .i64 ki))]/\aK.l30037 F cD ap dS bk (aK.l29 F cD ap dS bk dI) (aK.l469 F cD ap dS bk (aK.l29 F cD ap dS bk dI) lr) n lK nE lT ob jk j_ nF pu lp lq lU lV ki H=some r:=by
 unfold aK.lh30037 at h
 split at h
 ·exact ⟨_,_,_,_,_,_,_,_,_,_,_,_,_,_,_,rfl,⟨‹_›,‹_›,‹_›,‹_›,‹_›,‹_›,‹_›,‹_›,‹_›,trivial⟩,h⟩
 ·cases h
def aK.lh (F:Nat) (cD:Int->Int->Hp->OA) (ap:Int->Int->Sl->Int->Int->Hp->OA) (dS:Int->Int->Int->Hp->OA) (bk:Int->Hp->OA) (p:Nat) (ks:List Nat) (n:Nat) (tm:Tm) (H:Hp):OA:=bif p.beq 30037 then aK.lh30037 F cD ap dS bk ks n tm H else (bif p.beq 469 then aK.lh469 F cD ap dS bk ks n tm H else (bif p.beq 29 then aK.lh29 F cD ap dS bk ks n tm H else (none)))
def aK.pn:Nat->List Nat:=fp [(12,[7,8])]
def aK.tb:Nat->List (List Nat):=fp [(12,[[],[],[],[0,1,2],[],[],[],[0,1,2,3,4,5,6],[0,1,2,3,4,5,6,7],[0,1,2,3,4,5,6,7,8],[0,1,2,3,4,5,6,7,8,9],[0,1,2,3,4,5,6,7,8,9],[0,1,2,3,4,5,6,7,8,9,10],[0,1,2,3,4,5,6,7,8,9,10,11,12]])]
def aK.mk (g:Int->Int->Sl->Int->Int->Sl->Hp->OA) (args:List AV) (H:Hp):OA:=match args with
 | [(.agg [(.int .i64 aa),(.int .i64 af),(.sl aC)]),(.agg [(.int .i64 aj),(.int .i64 aJ),(.sl df)])]=>g aa af aC aj aJ df H
 | _=>none
def aK.cs (F:Nat) (cD:Int->Int->Hp->OA) (ap:Int->Int->Sl->Int->Int->Hp->OA) (dS:Int->Int->Int->Hp->OA) (bk:Int->Hp->OA):Cs:=[(80,eV.mk cD),(79,bh.mk ap),(113,fq.mk dS),(114,dR.mk bk)]
theorem aK.loops (F:Nat) (cD:Int->Int->Hp->OA) (ap:Int->Int->Sl->Int->Int->Hp->OA) (dS:Int->Int->Int->Hp->OA) (bk:Int->Hp->OA):LO (bF (aK.cs F cD ap dS bk)) aK.pn (aK.lh F cD ap dS bk) F Try.f69:=
 (ah.rt (ah.rt (ah.lt (ah.rt (ah.block (ah.loop (λtm H=>eP λr h=>by obtain ⟨nJ,pA,oc,qn,lu,ng,mG,oD,lY,hks,e,h⟩:=aK.lh29_inv (show aK.lh29 F cD ap dS bk [] 0 tm H=some r from h);cases h) (λk29 tm H r h=>by obtain ⟨nJ,pA,oc,qn,lu,ng,mG,oD,lY,hks,e,h⟩:=aK.lh29_inv (show aK.lh29 F cD ap dS bk [] (k29+1) tm H=some r from h);rw [<- eM e];exact Eq.trans (by kernel_rfl) h) λk29=>(ah.rt (ah.lt (ah.block (ah.rt (ah.block (ah.loop (λtm H=>eP λr h=>by obtain ⟨dI,nG,pv,ne,o_,nH,pw,nI,pz,lW,lX,hks,e,h⟩:=aK.lh469_inv (show aK.lh469 F cD ap dS bk [k29] 0 tm H=some r from h);cases h) (λk469 tm H r h=>by obtain ⟨dI,nG,pv,ne,o_,nH,pw,nI,pz,lW,lX,hks,e,h⟩:=aK.lh469_inv (show aK.lh469 F cD ap dS bk [k29] (k469+1) tm H=some r from h);cases hks;rw [<- eM e];exact Eq.trans (by kernel_rfl) h) λk469=>(ah.rt (ah.lt (ah.block (ah.rt (ah.lt (ah.rt (ah.block (ah.loop (λtm H=>eP λr h=>by obtain ⟨lr,dI,lK,nE,lT,ob,jk,j_,nF,pu,lp,lq,lU,lV,ki,hks,e,h⟩:=aK.lh30037_inv (show aK.lh30037 F cD ap dS bk [k469,k29] 0 tm H=some r from h);cases h) (λk30037 tm H r h=>by obtain ⟨lr,dI,lK,nE,lT,ob,jk,j_,nF,pu,lp,lq,lU,lV,ki,hks,e,h⟩:=aK.lh30037_inv (show aK.lh30037 F cD ap dS bk [k469,k29] (k30037+1) tm H=some r from h);cases hks;rw [<- eM e];exact Eq.trans (by kernel_rfl) h) λk30037=>ah.no))))))))))))))))))))
theorem aK.eqX (F:Nat) (cD:Int->Int->Hp->OA) (ap:Int->Int->Sl->Int->Int->Hp->OA) (dS:Int->Int->Int->Hp->OA) (bk:Int->Hp->OA) (aa:Int) (af:Int) (aC:Sl) (aj:Int) (aJ:Int) (df:Sl) (H:Hp):EX (bF (aK.cs F cD ap dS bk)) aK.pn (aK.lh F cD ap dS bk) F Try.f69 [(.agg [(.int .i64 aa),(.int .i64 af),(.sl aC)]),(.agg [(.int .i64 aj),(.int .i64 aJ),(.sl df)])] H=aK.twX F cD ap dS bk aa af aC aj aJ df H:=by kernel_rfl
theorem aK.k (F:Nat):Ok Try.prog 69 (aK.mk (aK.tw F)):=by
 intro args H v H' h
 unfold aK.mk at h
 split at h
 ·exact okT (TB:=aK.tb) Try.func69 (bG (eV.k F) (bG (bh.k F) (bG (fq.k F) (bG (dR.k F) cK)))) (aK.loops F (eV.tw F) (bh.tw F) (fq.tw F) (dR.tw F)) ((aK.eqX F (eV.tw F) (bh.tw F) (fq.tw F) (dR.tw F) _ _ _ _ _ _ H).trans h) (by kernel_rfl)
 ·cases h
def dV.l29 (F:Nat) :Nat->Nat->Nat->Nat->Nat->Int->Hp->OA
 | 0,_,_,_,_,_,_=>none
 | dI+1,nh,pa,nK,pB,kj,H28=>(Hp.ldSl H28 nh (pa+2)).bind λs36=>(bif (decide (kj<(s36.n:Int))) then ((Hp.ldSl H28 nh (pa+2)).bind λs37=>(Sl.idx s37 kj 1).bind λp38=>(Hp.ldI H28 .i64 p38.1 p38.2).bind λn39=>(Hp.ldSl H28 nK (pB+2)).bind λs40=>(Sl.idx s40 kj 1).bind λp41=>(Hp.ldI H28 .i64 p41.1 p41.2).bind λn42=>(bif (n39 != n42) then (some ((.bool false),H28)) else (dV.l29 F dI nh pa nK pB (IntKind.i64.wrap (kj+1)) H28))) else (some ((.bool true),H28)))
termination_by structural n=>n
def dV.twX (F:Nat) (aa:Int) (af:Int) (aC:Sl) (aj:Int) (aJ:Int) (df:Sl) (H:Hp):OA:=(Hp.new H [(.int .i64 aa),(.int .i64 af),(.sl aC)]).bind λH7=>(Hp.new H7 [(.int .i64 aj),(.int .i64 aJ),(.sl df)]).bind λH8=>(Hp.ldI H8 .i64 H.length 0).bind λn9=>(Hp.ldI H8 .i64 H7.length 0).bind λn10=>(bif (n9 != n10) then (some ((.bool false),H8)) else ((Hp.ldI H8 .i64 H.length 1).bind λn11=>(Hp.ldI H8 .i64 H7.length 1).bind λn12=>(bif (n11 != n12) then (some ((.bool false),H8)) else ((Hp.ldSl H8 H.length 2).bind λs13=>(Hp.ldSl H8 H7.length 2).bind λs14=>(bif ((s13.n:Int) != (s14.n:Int)) then (some ((.bool false),H8)) else (dV.l29 F F H.length 0 H7.length 0 0 H8))))))
def dV.tw (F:Nat) (aa:Int) (af:Int) (aC:Sl) (aj:Int) (aJ:Int) (df:Sl) (H:Hp):OA:=dV.twX F aa af aC aj aJ df H
def dV.lh29 (F:Nat) (ks:List Nat) (n:Nat) (tm:Tm) (H:Hp):OA:=match ks,tm 2,tm 3,tm 5 with
 | [],(.ptr nh pa),(.ptr nK pB),(.int .i64 kj)=>dV.l29 F n nh pa nK pB kj H
 | _,_,_,_=>none
theorem dV.lh29_inv {F:Nat} {ks:List Nat} {n:Nat} {tm:Tm} {H:Hp} {r:AV×Hp} (h:dV.lh29 F ks n tm H=some r):∃ nh pa nK pB kj,ks=[]/\eG tm [(2,(.ptr nh pa)),(3,(.ptr nK pB)),(5,(.int .i64 kj))]/\dV.l29 F n nh pa nK pB kj H=some r:=by
 unfold dV.lh29 at h
 split at h
 ·exact ⟨_,_,_,_,_,rfl,⟨‹_›,‹_›,‹_›,trivial⟩,h⟩
 ·cases h
def dV.lh (F:Nat) (p:Nat) (ks:List Nat) (n:Nat) (tm:Tm) (H:Hp):OA:=bif p.beq 29 then dV.lh29 F ks n tm H else (none)
def dV.tb:Nat->List (List Nat):=fp [(6,[[],[0],[],[0,1,2],[0,1,2,3],[],[5],[],[5,6,7],[5,6,7,8],[0,1,2,3,4,5,6,7,8,9]])]
def dV.mk (g:Int->Int->Sl->Int->Int->Sl->Hp->OA) (args:List AV) (H:Hp):OA:=match args with
 | [(.agg [(.int .i64 aa),(.int .i64 af),(.sl aC)]),(.agg [(.int .i64 aj),(.int .i64 aJ),(.sl df)])]=>g aa af aC aj aJ df H
 | _=>none
theorem dV.loops (F:Nat):LO (bF []) bp (dV.lh F) F Try.f88:=
 (ah.rt (ah.rt (ah.lt (ah.rt (ah.block (ah.loop (λtm H=>eP λr h=>by obtain ⟨nh,pa,nK,pB,kj,hks,e,h⟩:=dV.lh29_inv (show dV.lh29 F [] 0 tm H=some r from h);cases h) (λk29 tm H r h=>by obtain ⟨nh,pa,nK,pB,kj,hks,e,h⟩:=dV.lh29_inv (show dV.lh29 F [] (k29+1) tm H=some r from h);rw [<- eM e];exact Eq.trans (by kernel_rfl) h) λk29=>ah.no))))))
theorem dV.eqX (F:Nat) (aa:Int) (af:Int) (aC:Sl) (aj:Int) (aJ:Int) (df:Sl) (H:Hp):EX (bF []) bp (dV.lh F) F Try.f88 [(.agg [(.int .i64 aa),(.int .i64 af),(.sl aC)]),(.agg [(.int .i64 aj),(.int .i64 aJ),(.sl df)])] H=dV.twX F aa af aC aj aJ df H:=by kernel_rfl
theorem dV.k (F:Nat):Ok Try.prog 88 (dV.mk (dV.tw F)):=by
 intro args H v H' h
 unfold dV.mk at h
 split at h
 ·exact okT (TB:=dV.tb) Try.func88 cK (dV.loops F) ((dV.eqX F _ _ _ _ _ _ H).trans h) (by kernel_rfl)
 ·cases h
def dp.l29 (F:Nat) (cD:Int->Int->Hp->OA) :Nat->Int->Nat->Nat->Nat->Nat->Int->Hp->OA
 | 0,_,_,_,_,_,_,_=>none
 | dI+1,lw,dw,iu,gE,fA,gB,H21=>(bif (decide (gB<lw)) then ((Hp.ldSl H21 gE (fA+2)).bind λs34=>(Sl.idx s34 (IntKind.i64.wrap ((IntKind.i64.wrap (gB * lw))+gB)) 1).bind λp35=>(Hp.st H21 p35.1 p35.2 (.int .i64 1)).bind λH36=>dp.l29 F cD dI lw dw iu gE fA (IntKind.i64.wrap (gB+1)) H36) else ((Hp.ldI H21 .i64 gE fA).bind λn37=>(Hp.ldI H21 .i64 gE (fA+1)).bind λn38=>(Hp.ldSl H21 gE (fA+2)).bind λs39=>(Hp.st H21 dw iu (.int .i64 n37)).bind λH40=>(Hp.st H40 dw (iu+1) (.int .i64 n38)).bind λH41=>(Hp.st H41 dw (iu+1+1) (.sl s39)).bind λH42=>(Hp.ldI H42 .i64 dw iu).bind λn43=>(Hp.ldI H42 .i64 dw (iu+1)).bind λn44=>(Hp.ldSl H42 dw (iu+2)).bind λs45=>some ((.agg [(.int .i64 n43),(.int .i64 n44),(.sl s45)]),H42)))
termination_by structural n=>n
def dp.twX (F:Nat) (cD:Int->Int->Hp->OA) (aa:Int) (H:Hp):OA:=(Hp.new H [.int .i64 0,.int .i64 0,.sl ⟨none,0,.ex 0⟩]).bind λH2=>(cD aa aa H2).bind λr3=>((r3.1).asAgg 3).bind λl4=>(l4[0]?).bind λv5=>((v5).asI .i64).bind λn6=>(l4[1]?).bind λv7=>((v7).asI .i64).bind λn8=>(l4[2]?).bind λv9=>((v9).asSl).bind λs10=>(Hp.new r3.2 [.int .i64 0,.int .i64 0,.sl ⟨none,0,.ex 0⟩]).bind λH11=>(Hp.st H11 r3.2.length 0 (.int .i64 n6)).bind λH12=>(Hp.st H12 r3.2.length (0+1) (.int .i64 n8)).bind λH13=>(Hp.st H13 r3.2.length (0+1+1) (.sl s10)).bind λH14=>dp.l29 F cD F aa H.length 0 r3.2.length 0 0 H14
def dp.tw (F:Nat) (aa:Int) (H:Hp):OA:=dp.twX F (eV.tw F) aa H
def dp.lh29 (F:Nat) (cD:Int->Int->Hp->OA) (ks:List Nat) (n:Nat) (tm:Tm) (H:Hp):OA:=match ks,tm 0,tm 2,tm 3,tm 4 with
 | [],(.int .i64 lw),(.ptr dw iu),(.ptr gE fA),(.int .i64 gB)=>dp.l29 F cD n lw dw iu gE fA gB H
 | _,_,_,_,_=>none
theorem dp.lh29_inv {F:Nat} {cD:Int->Int->Hp->OA} {ks:List Nat} {n:Nat} {tm:Tm} {H:Hp} {r:AV×Hp} (h:dp.lh29 F cD ks n tm H=some r):∃ lw dw iu gE fA gB,ks=[]/\eG tm [(0,(.int .i64 lw)),(2,(.ptr dw iu)),(3,(.ptr gE fA)),(4,(.int .i64 gB))]/\dp.l29 F cD n lw dw iu gE fA gB H=some r:=by
 unfold dp.lh29 at h
 split at h
 ·exact ⟨_,_,_,_,_,_,rfl,⟨‹_›,‹_›,‹_›,‹_›,trivial⟩,h⟩
 ·cases h
def dp.lh (F:Nat) (cD:Int->Int->Hp->OA) (p:Nat) (ks:List Nat) (n:Nat) (tm:Tm) (H:Hp):OA:=bif p.beq 29 then dp.lh29 F cD ks n tm H else (none)
def dp.mk (g:Int->Hp->OA) (args:List AV) (H:Hp):OA:=match args with
 | [(.int .i64 aa)]=>g aa H
 | _=>none
def dp.cs (F:Nat) (cD:Int->Int->Hp->OA):Cs:=[(80,eV.mk cD)]
theorem dp.loops (F:Nat) (cD:Int->Int->Hp->OA):LO (bF (dp.cs F cD)) bp (dp.lh F cD) F Try.f115:=
 (ah.rt (ah.rt (ah.lt (ah.rt (ah.block (ah.loop (λtm H=>eP λr h=>by obtain ⟨lw,dw,iu,gE,fA,gB,hks,e,h⟩:=dp.lh29_inv (show dp.lh29 F cD [] 0 tm H=some r from h);cases h) (λk29 tm H r h=>by obtain ⟨lw,dw,iu,gE,fA,gB,hks,e,h⟩:=dp.lh29_inv (show dp.lh29 F cD [] (k29+1) tm H=some r from h);rw [<- eM e];exact Eq.trans (by kernel_rfl) h) λk29=>ah.no))))))
theorem dp.eqX (F:Nat) (cD:Int->Int->Hp->OA) (aa:Int) (H:Hp):EX (bF (dp.cs F cD)) bp (dp.lh F cD) F Try.f115 [(.int .i64 aa)] H=dp.twX F cD aa H:=by kernel_rfl
theorem dp.k (F:Nat):Ok Try.prog 115 (dp.mk (dp.tw F)):=by
 intro args H v H' h
 unfold dp.mk at h
 split at h
 ·exact okT (TB:=bp) Try.func115 (bG (eV.k F) cK) (dp.loops F (eV.tw F)) ((dp.eqX F (eV.tw F) _ H).trans h) (by kernel_rfl)
 ·cases h
def cN.l7 (F:Nat) (ap:Int->Int->Sl->Int->Int->Hp->OA) :Nat->Int->Int->Nat->Nat->Int->Hp->OA
 | 0,_,_,_,_,_,_=>none
 | mH+1,gq,gr,e_,di,eW,H15=>(Hp.ldI H15 .i64 e_ (di+1)).bind λn35=>(bif (decide (eW<n35)) then ((Hp.ldI H15 .i64 e_ di).bind λn36=>(Hp.ldI H15 .i64 e_ (di+1)).bind λn37=>(Hp.ldSl H15 e_ (di+2)).bind λs38=>(ap n36 n37 s38 gq eW H15).bind λr39=>((r39.1).asI .i64).bind λn40=>(Hp.ldSl r39.2 e_ (di+2)).bind λs41=>(Hp.ldI r39.2 .i64 e_ (di+1)).bind λn42=>(Hp.ldI r39.2 .i64 e_ di).bind λn43=>(Hp.ldI r39.2 .i64 e_ (di+1)).bind λn44=>(Hp.ldSl r39.2 e_ (di+2)).bind λs45=>(ap n43 n44 s45 gr eW r39.2).bind λr46=>((r46.1).asI .i64).bind λn47=>(if bt r39.2 r46.2 then ((Sl.idx s41 (IntKind.i64.wrap ((IntKind.i64.wrap (gq * n42))+eW)) 1).bind λp48=>(Hp.st r46.2 p48.1 p48.2 (.int .i64 n47)).bind λH49=>(Hp.ldSl H49 e_ (di+2)).bind λs50=>(Hp.ldI H49 .i64 e_ (di+1)).bind λn51=>(Sl.idx s50 (IntKind.i64.wrap ((IntKind.i64.wrap (gr * n51))+eW)) 1).bind λp52=>(Hp.st H49 p52.1 p52.2 (.int .i64 n40)).bind λH53=>cN.l7 F ap mH gq gr e_ di (IntKind.i64.wrap (eW+1)) H53) else none)) else (some ((.tup []),H15)))
termination_by structural n=>n
def cN.twX (F:Nat) (ap:Int->Int->Sl->Int->Int->Hp->OA) (aa:Int) (af:Int) (aC:Sl) (aj:Int) (bW:Int) (H:Hp):OA:=(Hp.new H [(.int .i64 aa),(.int .i64 af),(.sl aC)]).bind λH6=>cN.l7 F ap F aj bW H.length 0 0 H6
def cN.tw (F:Nat) (aa:Int) (af:Int) (aC:Sl) (aj:Int) (bW:Int) (H:Hp):OA:=cN.twX F (bh.tw F) aa af aC aj bW H
def cN.lh7 (F:Nat) (ap:Int->Int->Sl->Int->Int->Hp->OA) (ks:List Nat) (n:Nat) (tm:Tm) (H:Hp):OA:=match ks,tm 1,tm 2,tm 3,tm 6 with
 | [],(.int .i64 gq),(.int .i64 gr),(.ptr e_ di),(.int .i64 eW)=>cN.l7 F ap n gq gr e_ di eW H
 | _,_,_,_,_=>none
theorem cN.lh7_inv {F:Nat} {ap:Int->Int->Sl->Int->Int->Hp->OA} {ks:List Nat} {n:Nat} {tm:Tm} {H:Hp} {r:AV×Hp} (h:cN.lh7 F ap ks n tm H=some r):∃ gq gr e_ di eW,ks=[]/\eG tm [(1,(.int .i64 gq)),(2,(.int .i64 gr)),(3,(.ptr e_ di)),(6,(.int .i64 eW))]/\cN.l7 F ap n gq gr e_ di eW H=some r:=by
 unfold cN.lh7 at h
 split at h
 ·exact ⟨_,_,_,_,_,rfl,⟨‹_›,‹_›,‹_›,‹_›,trivial⟩,h⟩
 ·cases h
def cN.lh (F:Nat) (ap:Int->Int->Sl->Int->Int->Hp->OA) (p:Nat) (ks:List Nat) (n:Nat) (tm:Tm) (H:Hp):OA:=bif p.beq 7 then cN.lh7 F ap ks n tm H else (none)
def cN.pn:Nat->List Nat:=fp [(5,[13])]
def cN.tb:Nat->List (List Nat):=fp [(5,[[],[0],[],[],[3],[2,3,4],[],[2,3,4,5,6],[],[],[],[8,9,10],[0,1,2,3,4,5,6,7,8,9,10,11],[0,1,2,3,4,5,6,7,8,9,10,11,12]])]
def cN.mk (g:Int->Int->Sl->Int->Int->Hp->OA) (args:List AV) (H:Hp):OA:=match args with
 | [(.agg [(.int .i64 aa),(.int .i64 af),(.sl aC)]),(.int .i64 aj),(.int .i64 bW)]=>g aa af aC aj bW H
 | _=>none
def cN.cs (F:Nat) (ap:Int->Int->Sl->Int->Int->Hp->OA):Cs:=[(79,bh.mk ap)]
theorem cN.loops (F:Nat) (ap:Int->Int->Sl->Int->Int->Hp->OA):LO (bF (cN.cs F ap)) cN.pn (cN.lh F ap) F Try.f145:=
 (ah.rt (ah.rt (ah.block (ah.loop (λtm H=>eP λr h=>by obtain ⟨gq,gr,e_,di,eW,hks,e,h⟩:=cN.lh7_inv (show cN.lh7 F ap [] 0 tm H=some r from h);cases h) (λk7 tm H r h=>by obtain ⟨gq,gr,e_,di,eW,hks,e,h⟩:=cN.lh7_inv (show cN.lh7 F ap [] (k7+1) tm H=some r from h);rw [<- eM e];exact Eq.trans (by kernel_rfl) h) λk7=>ah.no))))
theorem cN.eqX (F:Nat) (ap:Int->Int->Sl->Int->Int->Hp->OA) (aa:Int) (af:Int) (aC:Sl) (aj:Int) (bW:Int) (H:Hp):EX (bF (cN.cs F ap)) cN.pn (cN.lh F ap) F Try.f145 [(.agg [(.int .i64 aa),(.int .i64 af),(.sl aC)]),(.int .i64 aj),(.int .i64 bW)] H=cN.twX F ap aa af aC aj bW H:=by kernel_rfl
theorem cN.k (F:Nat):Ok Try.prog 145 (cN.mk (cN.tw F)):=by
 intro args H v H' h
 unfold cN.mk at h
 split at h
 ·exact okT (TB:=cN.tb) Try.func145 (bG (bh.k F) cK) (cN.loops F (bh.tw F)) ((cN.eqX F (bh.tw F) _ _ _ _ _ H).trans h) (by kernel_rfl)
 ·cases h
def cO.l7 (F:Nat) (ap:Int->Int->Sl->Int->Int->Hp->OA) :Nat->Int->Int->Nat->Nat->Int->Hp->OA
 | 0,_,_,_,_,_,_=>none
 | mH+1,gq,gr,e_,di,eW,H15=>(Hp.ldI H15 .i64 e_ di).bind λn35=>(bif (decide (eW<n35)) then ((Hp.ldI H15 .i64 e_ di).bind λn36=>(Hp.ldI H15 .i64 e_ (di+1)).bind λn37=>(Hp.ldSl H15 e_ (di+2)).bind λs38=>(ap n36 n37 s38 eW gq H15).bind λr39=>((r39.1).asI .i64).bind λn40=>(Hp.ldSl r39.2 e_ (di+2)).bind λs41=>(Hp.ldI r39.2 .i64 e_ (di+1)).bind λn42=>(Hp.ldI r39.2 .i64 e_ di).bind λn43=>(Hp.ldI r39.2 .i64 e_ (di+1)).bind λn44=>(Hp.ldSl r39.2 e_ (di+2)).bind λs45=>(ap n43 n44 s45 eW gr r39.2).bind λr46=>((r46.1).asI .i64).bind λn47=>(if bt r39.2 r46.2 then ((Sl.idx s41 (IntKind.i64.wrap ((IntKind.i64.wrap (eW * n42))+gq)) 1).bind λp48=>(Hp.st r46.2 p48.1 p48.2 (.int .i64 n47)).bind λH49=>(Hp.ldSl H49 e_ (di+2)).bind λs50=>(Hp.ldI H49 .i64 e_ (di+1)).bind λn51=>(Sl.idx s50 (IntKind.i64.wrap ((IntKind.i64.wrap (eW * n51))+gr)) 1).bind λp52=>(Hp.st H49 p52.1 p52.2 (.int .i64 n40)).bind λH53=>cO.l7 F ap mH gq gr e_ di (IntKind.i64.wrap (eW+1)) H53) else none)) else (some ((.tup []),H15)))
termination_by structural n=>n
def cO.twX (F:Nat) (ap:Int->Int->Sl->Int->Int->Hp->OA) (aa:Int) (af:Int) (aC:Sl) (aj:Int) (bW:Int) (H:Hp):OA:=(Hp.new H [(.int .i64 aa),(.int .i64 af),(.sl aC)]).bind λH6=>cO.l7 F ap F aj bW H.length 0 0 H6
def cO.tw (F:Nat) (aa:Int) (af:Int) (aC:Sl) (aj:Int) (bW:Int) (H:Hp):OA:=cO.twX F (bh.tw F) aa af aC aj bW H
def cO.lh7 (F:Nat) (ap:Int->Int->Sl->Int->Int->Hp->OA) (ks:List Nat) (n:Nat) (tm:Tm) (H:Hp):OA:=match ks,tm 1,tm 2,tm 3,tm 6 with
 | [],(.int .i64 gq),(.int .i64 gr),(.ptr e_ di),(.int .i64 eW)=>cO.l7 F ap n gq gr e_ di eW H
 | _,_,_,_,_=>none
theorem cO.lh7_inv {F:Nat} {ap:Int->Int->Sl->Int->Int->Hp->OA} {ks:List Nat} {n:Nat} {tm:Tm} {H:Hp} {r:AV×Hp} (h:cO.lh7 F ap ks n tm H=some r):∃ gq gr e_ di eW,ks=[]/\eG tm [(1,(.int .i64 gq)),(2,(.int .i64 gr)),(3,(.ptr e_ di)),(6,(.int .i64 eW))]/\cO.l7 F ap n gq gr e_ di eW H=some r:=by
 unfold cO.lh7 at h
 split at h
 ·exact ⟨_,_,_,_,_,rfl,⟨‹_›,‹_›,‹_›,‹_›,trivial⟩,h⟩
 ·cases h
def cO.lh (F:Nat) (ap:Int->Int->Sl->Int->Int->Hp->OA) (p:Nat) (ks:List Nat) (n:Nat) (tm:Tm) (H:Hp):OA:=bif p.beq 7 then cO.lh7 F ap ks n tm H else (none)
def cO.pn:Nat->List Nat:=fp [(5,[13])]
def cO.tb:Nat->List (List Nat):=fp [(5,[[],[0],[],[],[3],[2,3,4],[],[2,3,4,5,6],[],[],[],[8,9,10],[0,1,2,3,4,5,6,7,8,9,10,11],[0,1,2,3,4,5,6,7,8,9,10,11,12]])]
def cO.mk (g:Int->Int->Sl->Int->Int->Hp->OA) (args:List AV) (H:Hp):OA:=match args with
 | [(.agg [(.int .i64 aa),(.int .i64 af),(.sl aC)]),(.int .i64 aj),(.int .i64 bW)]=>g aa af aC aj bW H
 | _=>none
def cO.cs (F:Nat) (ap:Int->Int->Sl->Int->Int->Hp->OA):Cs:=[(79,bh.mk ap)]
theorem cO.loops (F:Nat) (ap:Int->Int->Sl->Int->Int->Hp->OA):LO (bF (cO.cs F ap)) cO.pn (cO.lh F ap) F Try.f159:=
 (ah.rt (ah.rt (ah.block (ah.loop (λtm H=>eP λr h=>by obtain ⟨gq,gr,e_,di,eW,hks,e,h⟩:=cO.lh7_inv (show cO.lh7 F ap [] 0 tm H=some r from h);cases h) (λk7 tm H r h=>by obtain ⟨gq,gr,e_,di,eW,hks,e,h⟩:=cO.lh7_inv (show cO.lh7 F ap [] (k7+1) tm H=some r from h);rw [<- eM e];exact Eq.trans (by kernel_rfl) h) λk7=>ah.no))))
theorem cO.eqX (F:Nat) (ap:Int->Int->Sl->Int->Int->Hp->OA) (aa:Int) (af:Int) (aC:Sl) (aj:Int) (bW:Int) (H:Hp):EX (bF (cO.cs F ap)) cO.pn (cO.lh F ap) F Try.f159 [(.agg [(.int .i64 aa),(.int .i64 af),(.sl aC)]),(.int .i64 aj),(.int .i64 bW)] H=cO.twX F ap aa af aC aj bW H:=by kernel_rfl
theorem cO.k (F:Nat):Ok Try.prog 159 (cO.mk (cO.tw F)):=by
 intro args H v H' h
 unfold cO.mk at h
 split at h
 ·exact okT (TB:=cO.tb) Try.func159 (bG (bh.k F) cK) (cO.loops F (bh.tw F)) ((cO.eqX F (bh.tw F) _ _ _ _ _ H).trans h) (by kernel_rfl)
 ·cases h
def aD.l65515 (F:Nat) (ap:Int->Int->Sl->Int->Int->Hp->OA) (bk:Int->Hp->OA) (dC:Int->Int->Sl->Int->Int->Hp->OA) (dD:Int->Int->Sl->Int->Int->Hp->OA) :Nat->Nat->Nat->Int->Int->Hp->OA
 | 0,_,_,_,_,_=>none
 | Nv+1,kO,kP,jK,jq,H187=>(Hp.ldI H187 .i64 kO ((kP+3)+1)).bind λn207=>(bif (decide (jq<n207)) then ((Hp.ldSl H187 kO ((kP+3)+2)).bind λs208=>(Hp.ldI H187 .i64 kO ((kP+3)+1)).bind λn209=>(Hp.ldI H187 .i64 kO (kP+3)).bind λn210=>(Hp.ldI H187 .i64 kO ((kP+3)+1)).bind λn211=>(Hp.ldSl H187 kO ((kP+3)+2)).bind λs212=>(ap n210 n211 s212 jK jq H187).bind λr213=>((r213.1).asI .i64).bind λn214=>(if bt H187 r213.2 then ((Sl.idx s208 (IntKind.i64.wrap ((IntKind.i64.wrap (jK * n209))+jq)) 1).bind λp215=>(Hp.st r213.2 p215.1 p215.2 (.int .i64 (IntKind.i64.wrap (0 - n214)))).bind λH216=>(Hp.ldSl H216 kO ((kP+6)+2)).bind λs217=>(Hp.ldI H216 .i64 kO ((kP+6)+1)).bind λn218=>(Hp.ldI H216 .i64 kO (kP+6)).bind λn219=>(Hp.ldI H216 .i64 kO ((kP+6)+1)).bind λn220=>(Hp.ldSl H216 kO ((kP+6)+2)).bind λs221=>(ap n219 n220 s221 jq jK H216).bind λr222=>((r222.1).asI .i64).bind λn223=>(if bt H216 r222.2 then ((Sl.idx s217 (IntKind.i64.wrap ((IntKind.i64.wrap (jq * n218))+jK)) 1).bind λp224=>(Hp.st r222.2 p224.1 p224.2 (.int .i64 (IntKind.i64.wrap (0 - n223)))).bind λH225=>aD.l65515 F ap bk dC dD Nv kO kP jK (IntKind.i64.wrap (jq+1)) H225) else none)) else none)) else (some ((.bool true),H187)))
termination_by structural n=>n
def aD.j5 (F:Nat) (ap:Int->Int->Sl->Int->Int->Hp->OA) (bk:Int->Hp->OA) (dC:Int->Int->Sl->Int->Int->Hp->OA) (dD:Int->Int->Sl->Int->Int->Hp->OA) (Nw:Nat) (Nx:Nat) (tg:Int) (H173:Hp):OA:=aD.l65515 F ap bk dC dD F Nw Nx tg 0 H173
def aD.l65513 (F:Nat) (ap:Int->Int->Sl->Int->Int->Hp->OA) (bk:Int->Hp->OA) (dC:Int->Int->Sl->Int->Int->Hp->OA) (dD:Int->Int->Sl->Int->Int->Hp->OA) :Nat->Nat->Nat->Int->Int->Hp->OA
 | 0,_,_,_,_,_=>none
 | Ny+1,mI,mJ,kl,kn,H150=>(Hp.ldI H150 .i64 mI (mJ+1)).bind λn226=>(bif (decide (kn<n226)) then ((Hp.ldSl H150 mI (mJ+2)).bind λs227=>(Hp.ldI H150 .i64 mI (mJ+1)).bind λn228=>(Hp.ldI H150 .i64 mI mJ).bind λn229=>(Hp.ldI H150 .i64 mI (mJ+1)).bind λn230=>(Hp.ldSl H150 mI (mJ+2)).bind λs231=>(ap n229 n230 s231 kl kn H150).bind λr232=>((r232.1).asI .i64).bind λn233=>(if bt H150 r232.2 then ((Sl.idx s227 (IntKind.i64.wrap ((IntKind.i64.wrap (kl * n228))+kn)) 1).bind λp234=>(Hp.st r232.2 p234.1 p234.2 (.int .i64 (IntKind.i64.wrap (0 - n233)))).bind λH235=>aD.l65513 F ap bk dC dD Ny mI mJ kl (IntKind.i64.wrap (kn+1)) H235) else none)) else (aD.j5 F ap bk dC dD mI mJ kl H150))
termination_by structural n=>n
def aD.j6 (F:Nat) (ap:Int->Int->Sl->Int->Int->Hp->OA) (bk:Int->Hp->OA) (dC:Int->Int->Sl->Int->Int->Hp->OA) (dD:Int->Int->Sl->Int->Int->Hp->OA) (jL:Nat) (jM:Nat) (jN:Int) (od:Int) (pb:Int) (H109:Hp):OA:=(bif (decide (od<0)) then (some ((.bool false),H109)) else ((Hp.ldI H109 .i64 jL jM).bind λn110=>(Hp.ldI H109 .i64 jL (jM+1)).bind λn111=>(Hp.ldSl H109 jL (jM+2)).bind λs112=>(dC n110 n111 s112 od jN H109).bind λr113=>(Hp.ldI r113.2 .i64 jL (jM+3)).bind λn114=>(Hp.ldI r113.2 .i64 jL ((jM+3)+1)).bind λn115=>(Hp.ldSl r113.2 jL ((jM+3)+2)).bind λs116=>(dC n114 n115 s116 od jN r113.2).bind λr117=>(Hp.ldI r117.2 .i64 jL (jM+6)).bind λn118=>(Hp.ldI r117.2 .i64 jL ((jM+6)+1)).bind λn119=>(Hp.ldSl r117.2 jL ((jM+6)+2)).bind λs120=>(dD n118 n119 s120 od jN r117.2).bind λr121=>(Hp.ldI r121.2 .i64 jL jM).bind λn122=>(Hp.ldI r121.2 .i64 jL (jM+1)).bind λn123=>(Hp.ldSl r121.2 jL (jM+2)).bind λs124=>(dD n122 n123 s124 pb jN r121.2).bind λr125=>(Hp.ldI r125.2 .i64 jL (jM+9)).bind λn126=>(Hp.ldI r125.2 .i64 jL ((jM+9)+1)).bind λn127=>(Hp.ldSl r125.2 jL ((jM+9)+2)).bind λs128=>(dD n126 n127 s128 pb jN r125.2).bind λr129=>(Hp.ldI r129.2 .i64 jL (jM+12)).bind λn130=>(Hp.ldI r129.2 .i64 jL ((jM+12)+1)).bind λn131=>(Hp.ldSl r129.2 jL ((jM+12)+2)).bind λs132=>(dC n130 n131 s132 pb jN r129.2).bind λr133=>(Hp.ldI r133.2 .i64 jL jM).bind λn134=>(Hp.ldI r133.2 .i64 jL (jM+1)).bind λn135=>(Hp.ldSl r133.2 jL (jM+2)).bind λs136=>(ap n134 n135 s136 jN jN r133.2).bind λr137=>((r137.1).asI .i64).bind λn138=>(bif (decide (n138<0)) then (aD.l65513 F ap bk dC dD F jL jM jN 0 r137.2) else (some ((.bool true),r137.2)))))
def aD.j8 (F:Nat) (ap:Int->Int->Sl->Int->Int->Hp->OA) (bk:Int->Hp->OA) (dC:Int->Int->Sl->Int->Int->Hp->OA) (dD:Int->Int->Sl->Int->Int->Hp->OA) (C29_:Nat->Nat->Int->Int->Int->Int->Hp->OA) (Nz:Nat) (NA:Nat) (th:Int) (ti:Int) (tj:Int) (tl:Int) (H296:Hp):OA:=C29_ Nz NA th ti tj (IntKind.i64.wrap (tl+1)) H296
def aD.j9 (F:Nat) (ap:Int->Int->Sl->Int->Int->Hp->OA) (bk:Int->Hp->OA) (dC:Int->Int->Sl->Int->Int->Hp->OA) (dD:Int->Int->Sl->Int->Int->Hp->OA) (C29_:Nat->Nat->Int->Int->Int->Int->Hp->OA) (NB:Nat) (NC:Nat) (tn:Int) (tp:Int) (tq:Int) (tt:Int) (H285:Hp):OA:=aD.j8 F ap bk dC dD C29_ NB NC tn tp tq tt H285
def aD.j10 (F:Nat) (ap:Int->Int->Sl->Int->Int->Hp->OA) (bk:Int->Hp->OA) (dC:Int->Int->Sl->Int->Int->Hp->OA) (dD:Int->Int->Sl->Int->Int->Hp->OA) (C469_:Nat->Nat->Int->Int->Int->Int->Int->Hp->OA) (ND:Nat) (NE:Nat) (tu:Int) (tv:Int) (tz:Int) (tA:Int) (tB:Int) (H324:Hp):OA:=C469_ ND NE tu tv tz tA (IntKind.i64.wrap (tB+1)) H324
def aD.l469 (F:Nat) (ap:Int->Int->Sl->Int->Int->Hp->OA) (bk:Int->Hp->OA) (dC:Int->Int->Sl->Int->Int->Hp->OA) (dD:Int->Int->Sl->Int->Int->Hp->OA) (C29_:Nat->Nat->Int->Int->Int->Int->Hp->OA):Nat->Nat->Nat->Int->Int->Int->Int->Int->Hp->OA
 | 0,_,_,_,_,_,_,_,_=>none
 | lr+1,kQ,kR,jO,jP,ko,iK,iL,H246=>(Hp.ldI H246 .i64 kQ (kR+1)).bind λn297=>(bif (decide (iL<n297)) then ((Hp.ldI H246 .i64 kQ kR).bind λn298=>(Hp.ldI H246 .i64 kQ (kR+1)).bind λn299=>(Hp.ldSl H246 kQ (kR+2)).bind λs300=>(ap n298 n299 s300 iK iL H246).bind λr301=>((r301.1).asI .i64).bind λn302=>(bk n302 r301.2).bind λr303=>((r303.1).asI .i64).bind λn304=>(bif (decide (n304>0)) then ((bif (decide (jP<0)) then (aD.l469 F ap bk dC dD C29_ lr kQ kR jO iK iL iK (IntKind.i64.wrap (iL+1)) r303.2) else ((Hp.ldI r303.2 .i64 kQ kR).bind λn305=>(Hp.ldI r303.2 .i64 kQ (kR+1)).bind λn306=>(Hp.ldSl r303.2 kQ (kR+2)).bind λs307=>(ap n305 n306 s307 jP ko r303.2).bind λr308=>((r308.1).asI .i64).bind λn309=>(bk n309 r308.2).bind λr310=>((r310.1).asI .i64).bind λn311=>(bif (decide (n304<n311)) then (aD.j10 F ap bk dC dD (aD.l469 F ap bk dC dD C29_ lr) kQ kR jO iK iL iK iL r310.2) else (aD.j10 F ap bk dC dD (aD.l469 F ap bk dC dD C29_ lr) kQ kR jO jP ko iK iL r310.2))))) else (aD.l469 F ap bk dC dD C29_ lr kQ kR jO jP ko iK (IntKind.i64.wrap (iL+1)) r303.2))) else (aD.j9 F ap bk dC dD C29_ kQ kR jO jP ko iK H246))
termination_by structural n=>n
def aD.l29 (F:Nat) (ap:Int->Int->Sl->Int->Int->Hp->OA) (bk:Int->Hp->OA) (dC:Int->Int->Sl->Int->Int->Hp->OA) (dD:Int->Int->Sl->Int->Int->Hp->OA) :Nat->Nat->Nat->Int->Int->Int->Int->Hp->OA
 | 0,_,_,_,_,_,_,_=>none
 | dI+1,dK,gN,eH,eQ,lZ,l_,H11=>(Hp.ldI H11 .i64 dK gN).bind λn236=>(bif (decide (l_<n236)) then (aD.l469 F ap bk dC dD (aD.l29 F ap bk dC dD dI) F dK gN eH eQ lZ l_ eH H11) else (aD.j6 F ap bk dC dD dK gN eH eQ lZ H11))
termination_by structural n=>n
def aD.twX (F:Nat) (ap:Int->Int->Sl->Int->Int->Hp->OA) (bk:Int->Hp->OA) (dC:Int->Int->Sl->Int->Int->Hp->OA) (dD:Int->Int->Sl->Int->Int->Hp->OA) (aa:Nat) (af:Nat) (ai:Int) (H:Hp):OA:=aD.l29 F ap bk dC dD F aa af ai (-1) (-1) ai H
def aD.tw (F:Nat) (aa:Nat) (af:Nat) (ai:Int) (H:Hp):OA:=aD.twX F (bh.tw F) (dR.tw F) (cN.tw F) (cO.tw F) aa af ai H
def aD.lh29 (F:Nat) (ap:Int->Int->Sl->Int->Int->Hp->OA) (bk:Int->Hp->OA) (dC:Int->Int->Sl->Int->Int->Hp->OA) (dD:Int->Int->Sl->Int->Int->Hp->OA) (ks:List Nat) (n:Nat) (tm:Tm) (H:Hp):OA:=match ks,tm 0,tm 1,tm 5,tm 6,tm 7 with
 | [],(.ptr dK gN),(.int .i64 eH),(.int .i64 eQ),(.int .i64 lZ),(.int .i64 l_)=>aD.l29 F ap bk dC dD n dK gN eH eQ lZ l_ H
 | _,_,_,_,_,_=>none
theorem aD.lh29_inv {F:Nat} {ap:Int->Int->Sl->Int->Int->Hp->OA} {bk:Int->Hp->OA} {dC:Int->Int->Sl->Int->Int->Hp->OA} {dD:Int->Int->Sl->Int->Int->Hp->OA} {ks:List Nat} {n:Nat} {tm:Tm} {H:Hp} {r:AV×Hp} (h:aD.lh29 F ap bk dC dD ks n tm H=some r):∃ dK gN eH eQ lZ l_,ks=[]/\eG tm [(0,(.ptr dK gN)),(1,(.int .i64 eH)),(5,(.int .i64 eQ)),(6,(.int .i64 lZ)),(7,(.int .i64 l_))]/\aD.l29 F ap bk dC dD n dK gN eH eQ lZ l_ H=some r:=by
 unfold aD.lh29 at h
 split at h
 ·exact ⟨_,_,_,_,_,_,rfl,⟨‹_›,‹_›,‹_›,‹_›,‹_›,trivial⟩,h⟩
 ·cases h
def aD.lh65513 (F:Nat) (ap:Int->Int->Sl->Int->Int->Hp->OA) (bk:Int->Hp->OA) (dC:Int->Int->Sl->Int->Int->Hp->OA) (dD:Int->Int->Sl->Int->Int->Hp->OA) (ks:List Nat) (n:Nat) (tm:Tm) (H:Hp):OA:=match ks,tm 0,tm 1,tm 10 with
 | [],(.ptr mI mJ),(.int .i64 kl),(.int .i64 kn)=>aD.l65513 F ap bk dC dD n mI mJ kl kn H
 | _,_,_,_=>none
theorem aD.lh65513_inv {F:Nat} {ap:Int->Int->Sl->Int->Int->Hp->OA} {bk:Int->Hp->OA} {dC:Int->Int->Sl->Int->Int->Hp->OA} {dD:Int->Int->Sl->Int->Int->Hp->OA} {ks:List Nat} {n:Nat} {tm:Tm} {H:Hp} {r:AV×Hp} (h:aD.lh65513 F ap bk dC dD ks n tm H=some r):∃ mI mJ kl kn,ks=[]/\eG tm [(0,(.ptr mI mJ)),(1,(.int .i64 kl)),(10,(.int .i64 kn))]/\aD.l65513 F ap bk dC dD n mI mJ kl kn H=some r:=by
 unfold aD.lh65513 at h
 split at h
 ·exact ⟨_,_,_,_,rfl,⟨‹_›,‹_›,‹_›,trivial⟩,h⟩
 ·cases h
def aD.lh65515 (F:Nat) (ap:Int->Int->Sl->Int->Int->Hp->OA) (bk:Int->Hp->OA) (dC:Int->Int->Sl->Int->Int->Hp->OA) (dD:Int->Int->Sl->Int->Int->Hp->OA) (ks:List Nat) (n:Nat) (tm:Tm) (H:Hp):OA:=match ks,tm 0,tm 1,tm 11 with
 | [],(.ptr kO kP),(.int .i64 jK),(.int .i64 jq)=>aD.l65515 F ap bk dC dD n kO kP jK jq H
 | _,_,_,_=>none
theorem aD.lh65515_inv {F:Nat} {ap:Int->Int->Sl->Int->Int->Hp->OA} {bk:Int->Hp->OA} {dC:Int->Int->Sl->Int->Int->Hp->OA} {dD:Int->Int->Sl->Int->Int->Hp->OA} {ks:List Nat} {n:Nat} {tm:Tm} {H:Hp} {r:AV×Hp} (h:aD.lh65515 F ap bk dC dD ks n tm H=some r):∃ kO kP jK jq,ks=[]/\eG tm [(0,(.ptr kO kP)),(1,(.int .i64 jK)),(11,(.int .i64 jq))]/\aD.l65515 F ap bk dC dD n kO kP jK jq H=some r:=by
 unfold aD.lh65515 at h
 split at h
 ·exact ⟨_,_,_,_,rfl,⟨‹_›,‹_›,‹_›,trivial⟩,h⟩
 ·cases h
def aD.lh469 (F:Nat) (ap:Int->Int->Sl->Int->Int->Hp->OA) (bk:Int->Hp->OA) (dC:Int->Int->Sl->Int->Int->Hp->OA) (dD:Int->Int->Sl->Int->Int->Hp->OA) (ks:List Nat) (n:Nat) (tm:Tm) (H:Hp):OA:=match ks,tm 0,tm 1,tm 5,tm 6,tm 7,tm 8 with
 | [dI],(.ptr kQ kR),(.int .i64 jO),(.int .i64 jP),(.int .i64 ko),(.int .i64 iK),(.int .i64 iL)=>aD.l469 F ap bk dC dD (aD.l29 F ap bk dC dD dI) n kQ kR jO jP ko iK iL H
 | _,_,_,_,_,_,_=>none
theorem aD.lh469_inv {F:Nat} {ap:Int->Int->Sl->Int->Int->Hp->OA} {bk:Int->Hp->OA} {dC:Int->Int->Sl->Int->Int->Hp->OA} {dD:Int->Int->Sl->Int->Int->Hp->OA} {ks:List Nat} {n:Nat} {tm:Tm} {H:Hp} {r:AV×Hp} (h:aD.lh469 F ap bk dC dD ks n tm H=some r):∃ dI kQ kR jO jP ko iK iL,ks=[dI]/\eG tm [(0,(.ptr kQ kR)),(1,(.int .i64 jO)),(5,(.int .i64 jP)),(6,(.int .i64 ko)),(7,(.int .i64 iK)),(8,(.int .i64 iL))]/\aD.l469 F ap bk dC dD (aD.l29 F ap bk dC dD dI) n kQ kR jO jP ko iK iL H=some r:=by
 unfold aD.lh469 at h
 split at h
 ·exact ⟨_,_,_,_,_,_,_,_,rfl,⟨‹_›,‹_›,‹_›,‹_›,‹_›,‹_›,trivial⟩,h⟩
 ·cases h
def aD.lh (F:Nat) (ap:Int->Int->Sl->Int->Int->Hp->OA) (bk:Int->Hp->OA) (dC:Int->Int->Sl->Int->Int->Hp->OA) (dD:Int->Int->Sl->Int->Int->Hp->OA) (p:Nat) (ks:List Nat) (n:Nat) (tm:Tm) (H:Hp):OA:=bif p.beq 469 then aD.lh469 F ap bk dC dD ks n tm H else (bif p.beq 65515 then aD.lh65515 F ap bk dC dD ks n tm H else (bif p.beq 65513 then aD.lh65513 F ap bk dC dD ks n tm H else (bif p.beq 29 then aD.lh29 F ap bk dC dD ks n tm H else (none))))
def aD.pn:Nat->List Nat:=fp [(23,[23]),(27,[23]),(28,[23])]
def aD.tb:Nat->List (List Nat):=fp [(23,[[],[0],[0,1],[0,1,2],[0,1,2,3],[],[],[6],[6,7],[6,7,8],[6,7,8,9],[5,6,7,8,9,10],[],[5,6,7,8,9,10,11,12],[],[14],[14,15],[14,15,16],[],[],[14,15,16,17,18,19],[14,15,16,17,18,19,20],[0,1,2,3,4,5,6,7,8,9,10,11,12,13,14,15,16,17,18,19,20,21],[0,1,2,3,4,5,6,7,8,9,10,11,12,13,14,15,16,17,18,19,20,21,22]]),(27,[[],[0],[0,1],[0,1,2],[0,1,2,3],[],[],[6],[6,7],[6,7,8],[6,7,8,9],[5,6,7,8,9,10],[],[5,6,7,8,9,10,11,12],[],[14],[14,15],[14,15,16],[],[],[14,15,16,17,18,19],[14,15,16,17,18,19,20],[0,1,2,3,4,5,6,7,8,9,10,11,12,13,14,15,16,17,18,19,20,21],[0,1,2,3,4,5,6,7,8,9,10,11,12,13,14,15,16,17,18,19,20,21,22]]),(28,[[],[0],[0,1],[0,1,2],[0,1,2,3],[],[],[6],[6,7],[6,7,8],[6,7,8,9],[5,6,7,8,9,10],[],[5,6,7,8,9,10,11,12],[],[14],[14,15],[14,15,16],[],[],[14,15,16,17,18,19],[14,15,16,17,18,19,20],[0,1,2,3,4,5,6,7,8,9,10,11,12,13,14,15,16,17,18,19,20,21],[0,1,2,3,4,5,6,7,8,9,10,11,12,13,14,15,16,17,18,19,20,21,22]])]
def aD.mk (g:Nat->Nat->Int->Hp->OA) (args:List AV) (H:Hp):OA:=match args with
 | [(.ptr aa af),(.int .i64 ai)]=>g aa af ai H
 | _=>none
def aD.cs (F:Nat) (ap:Int->Int->Sl->Int->Int->Hp->OA) (bk:Int->Hp->OA) (dC:Int->Int->Sl->Int->Int->Hp->OA) (dD:Int->Int->Sl->Int->Int->Hp->OA):Cs:=[(79,bh.mk ap),(114,dR.mk bk),(145,cN.mk dC),(159,cO.mk dD)]
theorem aD.loops (F:Nat) (ap:Int->Int->Sl->Int->Int->Hp->OA) (bk:Int->Hp->OA) (dC:Int->Int->Sl->Int->Int->Hp->OA) (dD:Int->Int->Sl->Int->Int->Hp->OA):LO (bF (aD.cs F ap bk dC dD)) aD.pn (aD.lh F ap bk dC dD) F Try.f139:=
 (ah.rt (ah.rt (ah.seq (ah.rt (ah.block (ah.loop (λtm H=>eP λr h=>by obtain ⟨dK,gN,eH,eQ,lZ,l_,hks,e,h⟩:=aD.lh29_inv (show aD.lh29 F ap bk dC dD [] 0 tm H=some r from h);cases h) (λk29 tm H r h=>by obtain ⟨dK,gN,eH,eQ,lZ,l_,hks,e,h⟩:=aD.lh29_inv (show aD.lh29 F ap bk dC dD [] (k29+1) tm H=some r from h);rw [<- eM e];exact Eq.trans (by kernel_rfl) h) λk29=>(ah.rt (ah.lt (ah.block (ah.rt (ah.block (ah.loop (λtm H=>eP λr h=>by obtain ⟨dI,kQ,kR,jO,jP,ko,iK,iL,hks,e,h⟩:=aD.lh469_inv (show aD.lh469 F ap bk dC dD [k29] 0 tm H=some r from h);cases h) (λk469 tm H r h=>by obtain ⟨dI,kQ,kR,jO,jP,ko,iK,iL,hks,e,h⟩:=aD.lh469_inv (show aD.lh469 F ap bk dC dD [k29] (k469+1) tm H=some r from h);cases hks;rw [<- eM e];exact Eq.trans (by kernel_rfl) h) λk469=>ah.no))))))))) (ah.rt (ah.rt (ah.rt (ah.rt (ah.rt (ah.rt (ah.rt (ah.lt (ah.rt (ah.cond (ah.seq (ah.rt (ah.block (ah.loop (λtm H=>eP λr h=>by obtain ⟨mI,mJ,kl,kn,hks,e,h⟩:=aD.lh65513_inv (show aD.lh65513 F ap bk dC dD [] 0 tm H=some r from h);cases h) (λk65513 tm H r h=>by obtain ⟨mI,mJ,kl,kn,hks,e,h⟩:=aD.lh65513_inv (show aD.lh65513 F ap bk dC dD [] (k65513+1) tm H=some r from h);rw [<- eM e];exact Eq.trans (by kernel_rfl) h) λk65513=>ah.no))) (ah.rt (ah.block (ah.loop (λtm H=>eP λr h=>by obtain ⟨kO,kP,jK,jq,hks,e,h⟩:=aD.lh65515_inv (show aD.lh65515 F ap bk dC dD [] 0 tm H=some r from h);cases h) (λk65515 tm H r h=>by obtain ⟨kO,kP,jK,jq,hks,e,h⟩:=aD.lh65515_inv (show aD.lh65515 F ap bk dC dD [] (k65515+1) tm H=some r from h);rw [<- eM e];exact Eq.trans (by kernel_rfl) h) λk65515=>ah.no)))) ah.no)))))))))))))
theorem aD.eqX (F:Nat) (ap:Int->Int->Sl->Int->Int->Hp->OA) (bk:Int->Hp->OA) (dC:Int->Int->Sl->Int->Int->Hp->OA) (dD:Int->Int->Sl->Int->Int->Hp->OA) (aa:Nat) (af:Nat) (ai:Int) (H:Hp):EX (bF (aD.cs F ap bk dC dD)) aD.pn (aD.lh F ap bk dC dD) F Try.f139 [(.ptr aa af),(.int .i64 ai)] H=aD.twX F ap bk dC dD aa af ai H:=by kernel_rfl
theorem aD.k (F:Nat):Ok Try.prog 139 (aD.mk (aD.tw F)):=by
 intro args H v H' h
 unfold aD.mk at h
 split at h
 ·exact okT (TB:=aD.tb) Try.func139 (bG (bh.k F) (bG (dR.k F) (bG (cN.k F) (bG (cO.k F) cK)))) (aD.loops F (bh.tw F) (dR.tw F) (cN.tw F) (cO.tw F)) ((aD.eqX F (bh.tw F) (dR.tw F) (cN.tw F) (cO.tw F) _ _ _ H).trans h) (by kernel_rfl)
 ·cases h
def gO.twX (F:Nat) (aa:Int) (ax:Int) (H:Hp):OA:=(if ax=0 then none else ((if ax=0 then none else ((bif (decide ((Int.tmod aa ax)<0)) then (some ((.int .i64 (IntKind.i64.wrap ((IntKind.i64.wrap (Int.tdiv aa ax)) - 1))),H)) else (some ((.int .i64 (IntKind.i64.wrap (Int.tdiv aa ax))),H)))))))
def gO.tw (F:Nat) (aa:Int) (ax:Int) (H:Hp):OA:=gO.twX F aa ax H
def gO.mk (g:Int->Int->Hp->OA) (args:List AV) (H:Hp):OA:=match args with
 | [(.int .i64 aa),(.int .i64 ax)]=>g aa ax H
 | _=>none
theorem gO.eqX (F:Nat) (aa:Int) (ax:Int) (H:Hp):EX (bF []) bp lh0 F Try.f141 [(.int .i64 aa),(.int .i64 ax)] H=gO.twX F aa ax H:=by kernel_rfl
theorem gO.k (F:Nat):Ok Try.prog 141 (gO.mk (gO.tw F)):=by
 intro args H v H' h
 unfold gO.mk at h
 split at h
 ·exact okT (TB:=bp) Try.func141 cK ah.no ((gO.eqX F _ _ H).trans h) (by kernel_rfl)
 ·cases h
def gf.twX (F:Nat) (dS:Int->Int->Int->Hp->OA) (aa:Int) (ax:Int) (dJ:Int) (H:Hp):OA:=(dS ax dJ 2000000000000 H).bind λr4=>((r4.1).asTup 2).bind λl5=>(l5[0]?).bind λv6=>((v6).asI .i64).bind λn7=>(l5[1]?).bind λv8=>((v8).asB).bind λb9=>(bif (!b9) then (some ((.int .i64 3000000000000),r4.2)) else (some ((.int .i64 (IntKind.i64.wrap (aa - n7))),r4.2)))
def gf.tw (F:Nat) (aa:Int) (ax:Int) (dJ:Int) (H:Hp):OA:=gf.twX F (fq.tw F) aa ax dJ H
def gf.mk (g:Int->Int->Int->Hp->OA) (args:List AV) (H:Hp):OA:=match args with
 | [(.int .i64 aa),(.int .i64 ax),(.int .i64 dJ)]=>g aa ax dJ H
 | _=>none
def gf.cs (F:Nat) (dS:Int->Int->Int->Hp->OA):Cs:=[(113,fq.mk dS)]
theorem gf.eqX (F:Nat) (dS:Int->Int->Int->Hp->OA) (aa:Int) (ax:Int) (dJ:Int) (H:Hp):EX (bF (gf.cs F dS)) bp lh0 F Try.f165 [(.int .i64 aa),(.int .i64 ax),(.int .i64 dJ)] H=gf.twX F dS aa ax dJ H:=by kernel_rfl
theorem gf.k (F:Nat):Ok Try.prog 165 (gf.mk (gf.tw F)):=by
 intro args H v H' h
 unfold gf.mk at h
 split at h
 ·exact okT (TB:=bp) Try.func165 (bG (fq.k F) cK) ah.no ((gf.eqX F (fq.tw F) _ _ _ H).trans h) (by kernel_rfl)
 ·cases h
def gg.twX (F:Nat) (bk:Int->Hp->OA) (aa:Nat) (af:Nat) (ai:Int) (aj:Int) (aJ:Sl) (dL:Int) (dM:Int) (dE:Int) (H:Hp):OA:=(Hp.new H [(.int .i64 ai),(.int .i64 aj),(.sl aJ)]).bind λH9=>(bk dE H9).bind λr10=>((r10.1).asI .i64).bind λn11=>(bif (decide (n11>1000000000000)) then ((Hp.st r10.2 aa (af+15) (.bool true)).bind λH12=>some ((.tup []),H12)) else ((Hp.ldSl r10.2 H.length 2).bind λs13=>(Hp.ldI r10.2 .i64 H.length 1).bind λn14=>(Sl.idx s13 (IntKind.i64.wrap ((IntKind.i64.wrap (dL * n14))+dM)) 1).bind λp15=>(Hp.st r10.2 p15.1 p15.2 (.int .i64 dE)).bind λH16=>some ((.tup []),H16)))
def gg.tw (F:Nat) (aa:Nat) (af:Nat) (ai:Int) (aj:Int) (aJ:Sl) (dL:Int) (dM:Int) (dE:Int) (H:Hp):OA:=gg.twX F (dR.tw F) aa af ai aj aJ dL dM dE H
def gg.mk (g:Nat->Nat->Int->Int->Sl->Int->Int->Int->Hp->OA) (args:List AV) (H:Hp):OA:=match args with
 | [(.ptr aa af),(.agg [(.int .i64 ai),(.int .i64 aj),(.sl aJ)]),(.int .i64 dL),(.int .i64 dM),(.int .i64 dE)]=>g aa af ai aj aJ dL dM dE H
 | _=>none
def gg.cs (F:Nat) (bk:Int->Hp->OA):Cs:=[(114,dR.mk bk)]
theorem gg.eqX (F:Nat) (bk:Int->Hp->OA) (aa:Nat) (af:Nat) (ai:Int) (aj:Int) (aJ:Sl) (dL:Int) (dM:Int) (dE:Int) (H:Hp):EX (bF (gg.cs F bk)) bp lh0 F Try.f164 [(.ptr aa af),(.agg [(.int .i64 ai),(.int .i64 aj),(.sl aJ)]),(.int .i64 dL),(.int .i64 dM),(.int .i64 dE)] H=gg.twX F bk aa af ai aj aJ dL dM dE H:=by kernel_rfl
theorem gg.k (F:Nat):Ok Try.prog 164 (gg.mk (gg.tw F)):=by
 intro args H v H' h
 unfold gg.mk at h
 split at h
 ·exact okT (TB:=bp) Try.func164 (bG (dR.k F) cK) ah.no ((gg.eqX F (dR.tw F) _ _ _ _ _ _ _ _ H).trans h) (by kernel_rfl)
 ·cases h
def cS.l7 (F:Nat) (ap:Int->Int->Sl->Int->Int->Hp->OA) (fr:Int->Int->Int->Hp->OA) (ft:Nat->Nat->Int->Int->Sl->Int->Int->Int->Hp->OA) :Nat->Nat->Nat->Int->Int->Int->Nat->Nat->Int->Hp->OA
 | 0,_,_,_,_,_,_,_,_,_=>none
 | mH+1,ka,eF,gu,eX,gV,fu,dx,fv,H21=>(Hp.ldI H21 .i64 fu (dx+1)).bind λn40=>(bif (decide (fv<n40)) then ((Hp.ldB H21 ka (eF+15)).bind λb41=>(bif (!b41) then ((Hp.ldI H21 .i64 fu dx).bind λn42=>(Hp.ldI H21 .i64 fu (dx+1)).bind λn43=>(Hp.ldSl H21 fu (dx+2)).bind λs44=>(Hp.ldI H21 .i64 fu dx).bind λn45=>(Hp.ldI H21 .i64 fu (dx+1)).bind λn46=>(Hp.ldSl H21 fu (dx+2)).bind λs47=>(ap n45 n46 s47 gu fv H21).bind λr48=>((r48.1).asI .i64).bind λn49=>(if bt H21 r48.2 then ((Hp.ldI r48.2 .i64 fu dx).bind λn50=>(Hp.ldI r48.2 .i64 fu (dx+1)).bind λn51=>(Hp.ldSl r48.2 fu (dx+2)).bind λs52=>(ap n50 n51 s52 eX fv r48.2).bind λr53=>((r53.1).asI .i64).bind λn54=>(if bt r48.2 r53.2 then ((fr n49 gV n54 r53.2).bind λr55=>((r55.1).asI .i64).bind λn56=>(if bt r53.2 r55.2 then ((ft ka eF n42 n43 s44 gu fv n56 r55.2).bind λr57=>cS.l7 F ap fr ft mH ka eF gu eX gV fu dx (IntKind.i64.wrap (fv+1)) r57.2) else none)) else none)) else none)) else (some ((.tup []),H21)))) else (some ((.tup []),H21)))
termination_by structural n=>n
def cS.twX (F:Nat) (ap:Int->Int->Sl->Int->Int->Hp->OA) (fr:Int->Int->Int->Hp->OA) (ft:Nat->Nat->Int->Int->Sl->Int->Int->Int->Hp->OA) (aa:Nat) (af:Nat) (ai:Int) (aj:Int) (aJ:Sl) (dL:Int) (dM:Int) (dE:Int) (H:Hp):OA:=(Hp.new H [(.int .i64 ai),(.int .i64 aj),(.sl aJ)]).bind λH9=>cS.l7 F ap fr ft F aa af dL dM dE H.length 0 0 H9
def cS.tw (F:Nat) (aa:Nat) (af:Nat) (ai:Int) (aj:Int) (aJ:Sl) (dL:Int) (dM:Int) (dE:Int) (H:Hp):OA:=cS.twX F (bh.tw F) (gf.tw F) (gg.tw F) aa af ai aj aJ dL dM dE H
def cS.lh7 (F:Nat) (ap:Int->Int->Sl->Int->Int->Hp->OA) (fr:Int->Int->Int->Hp->OA) (ft:Nat->Nat->Int->Int->Sl->Int->Int->Int->Hp->OA) (ks:List Nat) (n:Nat) (tm:Tm) (H:Hp):OA:=match ks,tm 0,tm 2,tm 3,tm 4,tm 6,tm 10 with
 | [],(.ptr ka eF),(.int .i64 gu),(.int .i64 eX),(.int .i64 gV),(.ptr fu dx),(.int .i64 fv)=>cS.l7 F ap fr ft n ka eF gu eX gV fu dx fv H
 | _,_,_,_,_,_,_=>none
theorem cS.lh7_inv {F:Nat} {ap:Int->Int->Sl->Int->Int->Hp->OA} {fr:Int->Int->Int->Hp->OA} {ft:Nat->Nat->Int->Int->Sl->Int->Int->Int->Hp->OA} {ks:List Nat} {n:Nat} {tm:Tm} {H:Hp} {r:AV×Hp} (h:cS.lh7 F ap fr ft ks n tm H=some r):∃ ka eF gu eX gV fu dx fv,ks=[]/\eG tm [(0,(.ptr ka eF)),(2,(.int .i64 gu)),(3,(.int .i64 eX)),(4,(.int .i64 gV)),(6,(.ptr fu dx)),(10,(.int .i64 fv))]/\cS.l7 F ap fr ft n ka eF gu eX gV fu dx fv H=some r:=by
 unfold cS.lh7 at h
 split at h
 ·exact ⟨_,_,_,_,_,_,_,_,rfl,⟨‹_›,‹_›,‹_›,‹_›,‹_›,‹_›,trivial⟩,h⟩
 ·cases h
def cS.lh (F:Nat) (ap:Int->Int->Sl->Int->Int->Hp->OA) (fr:Int->Int->Int->Hp->OA) (ft:Nat->Nat->Int->Int->Sl->Int->Int->Int->Hp->OA) (p:Nat) (ks:List Nat) (n:Nat) (tm:Tm) (H:Hp):OA:=bif p.beq 7 then cS.lh7 F ap fr ft ks n tm H else (none)
def cS.pn:Nat->List Nat:=fp [(4,[14])]
def cS.tb:Nat->List (List Nat):=fp [(4,[[],[],[],[],[],[],[],[4,5,6],[],[],[],[],[4,5,6,7,9,10,11],[4,5,6,7,8,9,10,11,12],[0,1,2,3,4,5,6,7,8,9,10,11,12,13]])]
def cS.mk (g:Nat->Nat->Int->Int->Sl->Int->Int->Int->Hp->OA) (args:List AV) (H:Hp):OA:=match args with
 | [(.ptr aa af),(.agg [(.int .i64 ai),(.int .i64 aj),(.sl aJ)]),(.int .i64 dL),(.int .i64 dM),(.int .i64 dE)]=>g aa af ai aj aJ dL dM dE H
 | _=>none
def cS.cs (F:Nat) (ap:Int->Int->Sl->Int->Int->Hp->OA) (fr:Int->Int->Int->Hp->OA) (ft:Nat->Nat->Int->Int->Sl->Int->Int->Int->Hp->OA):Cs:=[(79,bh.mk ap),(165,gf.mk fr),(164,gg.mk ft)]
theorem cS.loops (F:Nat) (ap:Int->Int->Sl->Int->Int->Hp->OA) (fr:Int->Int->Int->Hp->OA) (ft:Nat->Nat->Int->Int->Sl->Int->Int->Int->Hp->OA):LO (bF (cS.cs F ap fr ft)) cS.pn (cS.lh F ap fr ft) F Try.f160:=
 (ah.rt (ah.rt (ah.block (ah.loop (λtm H=>eP λr h=>by obtain ⟨ka,eF,gu,eX,gV,fu,dx,fv,hks,e,h⟩:=cS.lh7_inv (show cS.lh7 F ap fr ft [] 0 tm H=some r from h);cases h) (λk7 tm H r h=>by obtain ⟨ka,eF,gu,eX,gV,fu,dx,fv,hks,e,h⟩:=cS.lh7_inv (show cS.lh7 F ap fr ft [] (k7+1) tm H=some r from h);rw [<- eM e];exact Eq.trans (by kernel_rfl) h) λk7=>ah.no))))
theorem cS.eqX (F:Nat) (ap:Int->Int->Sl->Int->Int->Hp->OA) (fr:Int->Int->Int->Hp->OA) (ft:Nat->Nat->Int->Int->Sl->Int->Int->Int->Hp->OA) (aa:Nat) (af:Nat) (ai:Int) (aj:Int) (aJ:Sl) (dL:Int) (dM:Int) (dE:Int) (H:Hp):EX (bF (cS.cs F ap fr ft)) cS.pn (cS.lh F ap fr ft) F Try.f160 [(.ptr aa af),(.agg [(.int .i64 ai),(.int .i64 aj),(.sl aJ)]),(.int .i64 dL),(.int .i64 dM),(.int .i64 dE)] H=cS.twX F ap fr ft aa af ai aj aJ dL dM dE H:=by kernel_rfl
theorem cS.k (F:Nat):Ok Try.prog 160 (cS.mk (cS.tw F)):=by
 intro args H v H' h
 unfold cS.mk at h
 split at h
 ·exact okT (TB:=cS.tb) Try.func160 (bG (bh.k F) (bG (gf.k F) (bG (gg.k F) cK))) (cS.loops F (bh.tw F) (gf.tw F) (gg.tw F)) ((cS.eqX F (bh.tw F) (gf.tw F) (gg.tw F) _ _ _ _ _ _ _ _ H).trans h) (by kernel_rfl)
 ·cases h
def cT.l7 (F:Nat) (ap:Int->Int->Sl->Int->Int->Hp->OA) (fr:Int->Int->Int->Hp->OA) (ft:Nat->Nat->Int->Int->Sl->Int->Int->Int->Hp->OA) :Nat->Nat->Nat->Int->Int->Int->Nat->Nat->Int->Hp->OA
 | 0,_,_,_,_,_,_,_,_,_=>none
 | mH+1,ka,eF,gu,eX,gV,fu,dx,fv,H21=>(Hp.ldI H21 .i64 fu dx).bind λn40=>(bif (decide (fv<n40)) then ((Hp.ldB H21 ka (eF+15)).bind λb41=>(bif (!b41) then ((Hp.ldI H21 .i64 fu dx).bind λn42=>(Hp.ldI H21 .i64 fu (dx+1)).bind λn43=>(Hp.ldSl H21 fu (dx+2)).bind λs44=>(Hp.ldI H21 .i64 fu dx).bind λn45=>(Hp.ldI H21 .i64 fu (dx+1)).bind λn46=>(Hp.ldSl H21 fu (dx+2)).bind λs47=>(ap n45 n46 s47 fv gu H21).bind λr48=>((r48.1).asI .i64).bind λn49=>(if bt H21 r48.2 then ((Hp.ldI r48.2 .i64 fu dx).bind λn50=>(Hp.ldI r48.2 .i64 fu (dx+1)).bind λn51=>(Hp.ldSl r48.2 fu (dx+2)).bind λs52=>(ap n50 n51 s52 fv eX r48.2).bind λr53=>((r53.1).asI .i64).bind λn54=>(if bt r48.2 r53.2 then ((fr n49 gV n54 r53.2).bind λr55=>((r55.1).asI .i64).bind λn56=>(if bt r53.2 r55.2 then ((ft ka eF n42 n43 s44 fv gu n56 r55.2).bind λr57=>cT.l7 F ap fr ft mH ka eF gu eX gV fu dx (IntKind.i64.wrap (fv+1)) r57.2) else none)) else none)) else none)) else (some ((.tup []),H21)))) else (some ((.tup []),H21)))
termination_by structural n=>n
def cT.twX (F:Nat) (ap:Int->Int->Sl->Int->Int->Hp->OA) (fr:Int->Int->Int->Hp->OA) (ft:Nat->Nat->Int->Int->Sl->Int->Int->Int->Hp->OA) (aa:Nat) (af:Nat) (ai:Int) (aj:Int) (aJ:Sl) (dL:Int) (dM:Int) (dE:Int) (H:Hp):OA:=(Hp.new H [(.int .i64 ai),(.int .i64 aj),(.sl aJ)]).bind λH9=>cT.l7 F ap fr ft F aa af dL dM dE H.length 0 0 H9
def cT.tw (F:Nat) (aa:Nat) (af:Nat) (ai:Int) (aj:Int) (aJ:Sl) (dL:Int) (dM:Int) (dE:Int) (H:Hp):OA:=cT.twX F (bh.tw F) (gf.tw F) (gg.tw F) aa af ai aj aJ dL dM dE H
def cT.lh7 (F:Nat) (ap:Int->Int->Sl->Int->Int->Hp->OA) (fr:Int->Int->Int->Hp->OA) (ft:Nat->Nat->Int->Int->Sl->Int->Int->Int->Hp->OA) (ks:List Nat) (n:Nat) (tm:Tm) (H:Hp):OA:=match ks,tm 0,tm 2,tm 3,tm 4,tm 6,tm 10 with
 | [],(.ptr ka eF),(.int .i64 gu),(.int .i64 eX),(.int .i64 gV),(.ptr fu dx),(.int .i64 fv)=>cT.l7 F ap fr ft n ka eF gu eX gV fu dx fv H
 | _,_,_,_,_,_,_=>none
theorem cT.lh7_inv {F:Nat} {ap:Int->Int->Sl->Int->Int->Hp->OA} {fr:Int->Int->Int->Hp->OA} {ft:Nat->Nat->Int->Int->Sl->Int->Int->Int->Hp->OA} {ks:List Nat} {n:Nat} {tm:Tm} {H:Hp} {r:AV×Hp} (h:cT.lh7 F ap fr ft ks n tm H=some r):∃ ka eF gu eX gV fu dx fv,ks=[]/\eG tm [(0,(.ptr ka eF)),(2,(.int .i64 gu)),(3,(.int .i64 eX)),(4,(.int .i64 gV)),(6,(.ptr fu dx)),(10,(.int .i64 fv))]/\cT.l7 F ap fr ft n ka eF gu eX gV fu dx fv H=some r:=by
 unfold cT.lh7 at h
 split at h
 ·exact ⟨_,_,_,_,_,_,_,_,rfl,⟨‹_›,‹_›,‹_›,‹_›,‹_›,‹_›,trivial⟩,h⟩
 ·cases h
def cT.lh (F:Nat) (ap:Int->Int->Sl->Int->Int->Hp->OA) (fr:Int->Int->Int->Hp->OA) (ft:Nat->Nat->Int->Int->Sl->Int->Int->Int->Hp->OA) (p:Nat) (ks:List Nat) (n:Nat) (tm:Tm) (H:Hp):OA:=bif p.beq 7 then cT.lh7 F ap fr ft ks n tm H else (none)
def cT.pn:Nat->List Nat:=fp [(4,[14])]
def cT.tb:Nat->List (List Nat):=fp [(4,[[],[],[],[],[],[],[],[4,5,6],[],[],[],[],[4,5,6,7,9,10,11],[4,5,6,7,8,9,10,11,12],[0,1,2,3,4,5,6,7,8,9,10,11,12,13]])]
def cT.mk (g:Nat->Nat->Int->Int->Sl->Int->Int->Int->Hp->OA) (args:List AV) (H:Hp):OA:=match args with
 | [(.ptr aa af),(.agg [(.int .i64 ai),(.int .i64 aj),(.sl aJ)]),(.int .i64 dL),(.int .i64 dM),(.int .i64 dE)]=>g aa af ai aj aJ dL dM dE H
 | _=>none
def cT.cs (F:Nat) (ap:Int->Int->Sl->Int->Int->Hp->OA) (fr:Int->Int->Int->Hp->OA) (ft:Nat->Nat->Int->Int->Sl->Int->Int->Int->Hp->OA):Cs:=[(79,bh.mk ap),(165,gf.mk fr),(164,gg.mk ft)]
theorem cT.loops (F:Nat) (ap:Int->Int->Sl->Int->Int->Hp->OA) (fr:Int->Int->Int->Hp->OA) (ft:Nat->Nat->Int->Int->Sl->Int->Int->Int->Hp->OA):LO (bF (cT.cs F ap fr ft)) cT.pn (cT.lh F ap fr ft) F Try.f161:=
 (ah.rt (ah.rt (ah.block (ah.loop (λtm H=>eP λr h=>by obtain ⟨ka,eF,gu,eX,gV,fu,dx,fv,hks,e,h⟩:=cT.lh7_inv (show cT.lh7 F ap fr ft [] 0 tm H=some r from h);cases h) (λk7 tm H r h=>by obtain ⟨ka,eF,gu,eX,gV,fu,dx,fv,hks,e,h⟩:=cT.lh7_inv (show cT.lh7 F ap fr ft [] (k7+1) tm H=some r from h);rw [<- eM e];exact Eq.trans (by kernel_rfl) h) λk7=>ah.no))))
theorem cT.eqX (F:Nat) (ap:Int->Int->Sl->Int->Int->Hp->OA) (fr:Int->Int->Int->Hp->OA) (ft:Nat->Nat->Int->Int->Sl->Int->Int->Int->Hp->OA) (aa:Nat) (af:Nat) (ai:Int) (aj:Int) (aJ:Sl) (dL:Int) (dM:Int) (dE:Int) (H:Hp):EX (bF (cT.cs F ap fr ft)) cT.pn (cT.lh F ap fr ft) F Try.f161 [(.ptr aa af),(.agg [(.int .i64 ai),(.int .i64 aj),(.sl aJ)]),(.int .i64 dL),(.int .i64 dM),(.int .i64 dE)] H=cT.twX F ap fr ft aa af ai aj aJ dL dM dE H:=by kernel_rfl
theorem cT.k (F:Nat):Ok Try.prog 161 (cT.mk (cT.tw F)):=by
 intro args H v H' h
 unfold cT.mk at h
 split at h
 ·exact okT (TB:=cT.tb) Try.func161 (bG (bh.k F) (bG (gf.k F) (bG (gg.k F) cK))) (cT.loops F (bh.tw F) (gf.tw F) (gg.tw F)) ((cT.eqX F (bh.tw F) (gf.tw F) (gg.tw F) _ _ _ _ _ _ _ _ H).trans h) (by kernel_rfl)
 ·cases h
def gv.twX (F:Nat) (ni:Nat->Nat->Int->Int->Sl->Int->Int->Int->Hp->OA) (nj:Nat->Nat->Int->Int->Sl->Int->Int->Int->Hp->OA) (aa:Nat) (af:Nat) (ai:Int) (cH:Int) (dy:Int) (H:Hp):OA:=(bif (dy != 0) then ((Hp.ldI H .i64 aa af).bind λn6=>(Hp.ldI H .i64 aa (af+1)).bind λn7=>(Hp.ldSl H aa (af+2)).bind λs8=>(ni aa af n6 n7 s8 ai cH dy H).bind λr9=>(Hp.ldI r9.2 .i64 aa (af+3)).bind λn10=>(Hp.ldI r9.2 .i64 aa ((af+3)+1)).bind λn11=>(Hp.ldSl r9.2 aa ((af+3)+2)).bind λs12=>(ni aa af n10 n11 s12 ai cH dy r9.2).bind λr13=>(Hp.ldI r13.2 .i64 aa (af+6)).bind λn14=>(Hp.ldI r13.2 .i64 aa ((af+6)+1)).bind λn15=>(Hp.ldSl r13.2 aa ((af+6)+2)).bind λs16=>(nj aa af n14 n15 s16 cH ai (IntKind.i64.wrap (0 - dy)) r13.2).bind λr17=>some ((.tup []),r17.2)) else (some ((.tup []),H)))
def gv.tw (F:Nat) (aa:Nat) (af:Nat) (ai:Int) (cH:Int) (dy:Int) (H:Hp):OA:=gv.twX F (cS.tw F) (cT.tw F) aa af ai cH dy H
def gv.mk (g:Nat->Nat->Int->Int->Int->Hp->OA) (args:List AV) (H:Hp):OA:=match args with
 | [(.ptr aa af),(.int .i64 ai),(.int .i64 cH),(.int .i64 dy)]=>g aa af ai cH dy H
 | _=>none
def gv.cs (F:Nat) (ni:Nat->Nat->Int->Int->Sl->Int->Int->Int->Hp->OA) (nj:Nat->Nat->Int->Int->Sl->Int->Int->Int->Hp->OA):Cs:=[(160,cS.mk ni),(161,cT.mk nj)]
theorem gv.eqX (F:Nat) (ni:Nat->Nat->Int->Int->Sl->Int->Int->Int->Hp->OA) (nj:Nat->Nat->Int->Int->Sl->Int->Int->Int->Hp->OA) (aa:Nat) (af:Nat) (ai:Int) (cH:Int) (dy:Int) (H:Hp):EX (bF (gv.cs F ni nj)) bp lh0 F Try.f140 [(.ptr aa af),(.int .i64 ai),(.int .i64 cH),(.int .i64 dy)] H=gv.twX F ni nj aa af ai cH dy H:=by kernel_rfl
theorem gv.k (F:Nat):Ok Try.prog 140 (gv.mk (gv.tw F)):=by
 intro args H v H' h
 unfold gv.mk at h
 split at h
 ·exact okT (TB:=bp) Try.func140 (bG (cS.k F) (bG (cT.k F) cK)) ah.no ((gv.eqX F (cS.tw F) (cT.tw F) _ _ _ _ _ H).trans h) (by kernel_rfl)
 ·cases h
def gF.twX (F:Nat) (nj:Nat->Nat->Int->Int->Sl->Int->Int->Int->Hp->OA) (ni:Nat->Nat->Int->Int->Sl->Int->Int->Int->Hp->OA) (aa:Nat) (af:Nat) (ai:Int) (cH:Int) (dy:Int) (H:Hp):OA:=(bif (dy != 0) then ((Hp.ldI H .i64 aa af).bind λn6=>(Hp.ldI H .i64 aa (af+1)).bind λn7=>(Hp.ldSl H aa (af+2)).bind λs8=>(nj aa af n6 n7 s8 ai cH dy H).bind λr9=>(Hp.ldI r9.2 .i64 aa (af+9)).bind λn10=>(Hp.ldI r9.2 .i64 aa ((af+9)+1)).bind λn11=>(Hp.ldSl r9.2 aa ((af+9)+2)).bind λs12=>(nj aa af n10 n11 s12 ai cH dy r9.2).bind λr13=>(Hp.ldI r13.2 .i64 aa (af+12)).bind λn14=>(Hp.ldI r13.2 .i64 aa ((af+12)+1)).bind λn15=>(Hp.ldSl r13.2 aa ((af+12)+2)).bind λs16=>(ni aa af n14 n15 s16 cH ai (IntKind.i64.wrap (0 - dy)) r13.2).bind λr17=>some ((.tup []),r17.2)) else (some ((.tup []),H)))
def gF.tw (F:Nat) (aa:Nat) (af:Nat) (ai:Int) (cH:Int) (dy:Int) (H:Hp):OA:=gF.twX F (cT.tw F) (cS.tw F) aa af ai cH dy H
def gF.mk (g:Nat->Nat->Int->Int->Int->Hp->OA) (args:List AV) (H:Hp):OA:=match args with
 | [(.ptr aa af),(.int .i64 ai),(.int .i64 cH),(.int .i64 dy)]=>g aa af ai cH dy H
 | _=>none
def gF.cs (F:Nat) (nj:Nat->Nat->Int->Int->Sl->Int->Int->Int->Hp->OA) (ni:Nat->Nat->Int->Int->Sl->Int->Int->Int->Hp->OA):Cs:=[(161,cT.mk nj),(160,cS.mk ni)]
theorem gF.eqX (F:Nat) (nj:Nat->Nat->Int->Int->Sl->Int->Int->Int->Hp->OA) (ni:Nat->Nat->Int->Int->Sl->Int->Int->Int->Hp->OA) (aa:Nat) (af:Nat) (ai:Int) (cH:Int) (dy:Int) (H:Hp):EX (bF (gF.cs F nj ni)) bp lh0 F Try.f142 [(.ptr aa af),(.int .i64 ai),(.int .i64 cH),(.int .i64 dy)] H=gF.twX F nj ni aa af ai cH dy H:=by kernel_rfl
theorem gF.k (F:Nat):Ok Try.prog 142 (gF.mk (gF.tw F)):=by
 intro args H v H' h
 unfold gF.mk at h
 split at h
 ·exact okT (TB:=bp) Try.func142 (bG (cT.k F) (bG (cS.k F) cK)) ah.no ((gF.eqX F (cT.tw F) (cS.tw F) _ _ _ _ _ H).trans h) (by kernel_rfl)
 ·cases h
def bU.l29 (F:Nat) (ap:Int->Int->Sl->Int->Int->Hp->OA) :Nat->Nat->Nat->Int->Int->Hp->OA
 | 0,_,_,_,_,_=>none
 | dI+1,oe,og,ma,lx,H30=>(Hp.ldI H30 .i64 oe (og+1)).bind λn37=>(bif (decide (lx<n37)) then ((Hp.ldI H30 .i64 oe og).bind λn38=>(Hp.ldI H30 .i64 oe (og+1)).bind λn39=>(Hp.ldSl H30 oe (og+2)).bind λs40=>(ap n38 n39 s40 ma lx H30).bind λr41=>((r41.1).asI .i64).bind λn42=>(bif (n42 != 0) then (some ((.bool false),r41.2)) else (bU.l29 F ap dI oe og ma (IntKind.i64.wrap (lx+1)) r41.2))) else (some ((.bool true),H30)))
termination_by structural n=>n
def bU.j1 (F:Nat) (ap:Int->Int->Sl->Int->Int->Hp->OA) (NF:Nat) (NG:Nat) (qo:Int) (H22:Hp):OA:=bU.l29 F ap F NF NG qo (IntKind.i64.wrap (qo+1)) H22
def bU.l13 (F:Nat) (ap:Int->Int->Sl->Int->Int->Hp->OA) :Nat->Nat->Nat->Int->Int->Hp->OA
 | 0,_,_,_,_,_=>none
 | iY+1,dK,gN,eH,eQ,H9=>(Hp.ldI H9 .i64 dK gN).bind λn43=>(bif (decide (eQ<n43)) then ((Hp.ldI H9 .i64 dK gN).bind λn44=>(Hp.ldI H9 .i64 dK (gN+1)).bind λn45=>(Hp.ldSl H9 dK (gN+2)).bind λs46=>(ap n44 n45 s46 eQ eH H9).bind λr47=>((r47.1).asI .i64).bind λn48=>(bif (n48 != 0) then (some ((.bool false),r47.2)) else (bU.l13 F ap iY dK gN eH (IntKind.i64.wrap (eQ+1)) r47.2))) else (bU.j1 F ap dK gN eH H9))
termination_by structural n=>n
def bU.twX (F:Nat) (ap:Int->Int->Sl->Int->Int->Hp->OA) (aa:Nat) (af:Nat) (ai:Int) (H:Hp):OA:=bU.l13 F ap F aa af ai (IntKind.i64.wrap (ai+1)) H
def bU.tw (F:Nat) (aa:Nat) (af:Nat) (ai:Int) (H:Hp):OA:=bU.twX F (bh.tw F) aa af ai H
def bU.lh13 (F:Nat) (ap:Int->Int->Sl->Int->Int->Hp->OA) (ks:List Nat) (n:Nat) (tm:Tm) (H:Hp):OA:=match ks,tm 0,tm 1,tm 5 with
 | [],(.ptr dK gN),(.int .i64 eH),(.int .i64 eQ)=>bU.l13 F ap n dK gN eH eQ H
 | _,_,_,_=>none
theorem bU.lh13_inv {F:Nat} {ap:Int->Int->Sl->Int->Int->Hp->OA} {ks:List Nat} {n:Nat} {tm:Tm} {H:Hp} {r:AV×Hp} (h:bU.lh13 F ap ks n tm H=some r):∃ dK gN eH eQ,ks=[]/\eG tm [(0,(.ptr dK gN)),(1,(.int .i64 eH)),(5,(.int .i64 eQ))]/\bU.l13 F ap n dK gN eH eQ H=some r:=by
 unfold bU.lh13 at h
 split at h
 ·exact ⟨_,_,_,_,rfl,⟨‹_›,‹_›,‹_›,trivial⟩,h⟩
 ·cases h
def bU.lh29 (F:Nat) (ap:Int->Int->Sl->Int->Int->Hp->OA) (ks:List Nat) (n:Nat) (tm:Tm) (H:Hp):OA:=match ks,tm 0,tm 1,tm 6 with
 | [],(.ptr oe og),(.int .i64 ma),(.int .i64 lx)=>bU.l29 F ap n oe og ma lx H
 | _,_,_,_=>none
theorem bU.lh29_inv {F:Nat} {ap:Int->Int->Sl->Int->Int->Hp->OA} {ks:List Nat} {n:Nat} {tm:Tm} {H:Hp} {r:AV×Hp} (h:bU.lh29 F ap ks n tm H=some r):∃ oe og ma lx,ks=[]/\eG tm [(0,(.ptr oe og)),(1,(.int .i64 ma)),(6,(.int .i64 lx))]/\bU.l29 F ap n oe og ma lx H=some r:=by
 unfold bU.lh29 at h
 split at h
 ·exact ⟨_,_,_,_,rfl,⟨‹_›,‹_›,‹_›,trivial⟩,h⟩
 ·cases h
def bU.lh (F:Nat) (ap:Int->Int->Sl->Int->Int->Hp->OA) (p:Nat) (ks:List Nat) (n:Nat) (tm:Tm) (H:Hp):OA:=bif p.beq 29 then bU.lh29 F ap ks n tm H else (bif p.beq 13 then bU.lh13 F ap ks n tm H else (none))
def bU.mk (g:Nat->Nat->Int->Hp->OA) (args:List AV) (H:Hp):OA:=match args with
 | [(.ptr aa af),(.int .i64 ai)]=>g aa af ai H
 | _=>none
def bU.cs (F:Nat) (ap:Int->Int->Sl->Int->Int->Hp->OA):Cs:=[(79,bh.mk ap)]
theorem bU.loops (F:Nat) (ap:Int->Int->Sl->Int->Int->Hp->OA):LO (bF (bU.cs F ap)) bp (bU.lh F ap) F Try.f143:=
 (ah.rt (ah.seq (ah.rt (ah.block (ah.loop (λtm H=>eP λr h=>by obtain ⟨dK,gN,eH,eQ,hks,e,h⟩:=bU.lh13_inv (show bU.lh13 F ap [] 0 tm H=some r from h);cases h) (λk13 tm H r h=>by obtain ⟨dK,gN,eH,eQ,hks,e,h⟩:=bU.lh13_inv (show bU.lh13 F ap [] (k13+1) tm H=some r from h);rw [<- eM e];exact Eq.trans (by kernel_rfl) h) λk13=>ah.no))) (ah.lt (ah.rt (ah.block (ah.loop (λtm H=>eP λr h=>by obtain ⟨oe,og,ma,lx,hks,e,h⟩:=bU.lh29_inv (show bU.lh29 F ap [] 0 tm H=some r from h);cases h) (λk29 tm H r h=>by obtain ⟨oe,og,ma,lx,hks,e,h⟩:=bU.lh29_inv (show bU.lh29 F ap [] (k29+1) tm H=some r from h);rw [<- eM e];exact Eq.trans (by kernel_rfl) h) λk29=>ah.no))))))
theorem bU.eqX (F:Nat) (ap:Int->Int->Sl->Int->Int->Hp->OA) (aa:Nat) (af:Nat) (ai:Int) (H:Hp):EX (bF (bU.cs F ap)) bp (bU.lh F ap) F Try.f143 [(.ptr aa af),(.int .i64 ai)] H=bU.twX F ap aa af ai H:=by kernel_rfl
theorem bU.k (F:Nat):Ok Try.prog 143 (bU.mk (bU.tw F)):=by
 intro args H v H' h
 unfold bU.mk at h
 split at h
 ·exact okT (TB:=bp) Try.func143 (bG (bh.k F) cK) (bU.loops F (bh.tw F)) ((bU.eqX F (bh.tw F) _ _ _ H).trans h) (by kernel_rfl)
 ·cases h
def bB.j3 (F:Nat) (ap:Int->Int->Sl->Int->Int->Hp->OA) (C13_:Nat->Nat->Int->Int->Hp->OA) (NH:Nat) (NI:Nat) (tC:Int) (tD:Int) (H96:Hp):OA:=C13_ NH NI tC (IntKind.i64.wrap (tD+1)) H96
def bB.j4 (F:Nat) (ap:Int->Int->Sl->Int->Int->Hp->OA) (C13_:Nat->Nat->Int->Int->Hp->OA) (NJ:Nat) (NK:Nat) (tE:Int) (qp:Int) (H87:Hp):OA:=bB.j3 F ap C13_ NJ NK tE qp H87
def bB.l213 (F:Nat) (ap:Int->Int->Sl->Int->Int->Hp->OA) (C13_:Nat->Nat->Int->Int->Hp->OA):Nat->Nat->Nat->Int->Int->Int->Hp->OA
 | 0,_,_,_,_,_,_=>none
 | NL+1,mb,mc,kp,kq,ly,H67=>(Hp.ldI H67 .i64 mb (mc+1)).bind λn97=>(bif (decide (ly<n97)) then ((Hp.ldI H67 .i64 mb mc).bind λn98=>(Hp.ldI H67 .i64 mb (mc+1)).bind λn99=>(Hp.ldSl H67 mb (mc+2)).bind λs100=>(ap n98 n99 s100 kq ly H67).bind λr101=>((r101.1).asI .i64).bind λn102=>(if bt H67 r101.2 then ((Hp.ldI r101.2 .i64 mb mc).bind λn103=>(Hp.ldI r101.2 .i64 mb (mc+1)).bind λn104=>(Hp.ldSl r101.2 mb (mc+2)).bind λs105=>(ap n103 n104 s105 kp kp r101.2).bind λr106=>((r106.1).asI .i64).bind λn107=>(if n107=0 then none else ((bif ((Int.tmod n102 n107) != 0) then (some ((.int .i64 kq),r106.2)) else (bB.l213 F ap C13_ NL mb mc kp kq (IntKind.i64.wrap (ly+1)) r106.2))))) else none)) else (bB.j4 F ap C13_ mb mc kp kq H67))
termination_by structural n=>n
def bB.l13 (F:Nat) (ap:Int->Int->Sl->Int->Int->Hp->OA) :Nat->Nat->Nat->Int->Int->Hp->OA
 | 0,_,_,_,_,_=>none
 | iY+1,dK,gN,eH,eQ,H9=>(Hp.ldI H9 .i64 dK gN).bind λn59=>(bif (decide (eQ<n59)) then (bB.l213 F ap (bB.l13 F ap iY) F dK gN eH eQ (IntKind.i64.wrap (eH+1)) H9) else (some ((.int .i64 (-1)),H9)))
termination_by structural n=>n
def bB.twX (F:Nat) (ap:Int->Int->Sl->Int->Int->Hp->OA) (aa:Nat) (af:Nat) (ai:Int) (H:Hp):OA:=bB.l13 F ap F aa af ai (IntKind.i64.wrap (ai+1)) H
def bB.tw (F:Nat) (aa:Nat) (af:Nat) (ai:Int) (H:Hp):OA:=bB.twX F (bh.tw F) aa af ai H
def bB.lh13 (F:Nat) (ap:Int->Int->Sl->Int->Int->Hp->OA) (ks:List Nat) (n:Nat) (tm:Tm) (H:Hp):OA:=match ks,tm 0,tm 1,tm 5 with
 | [],(.ptr dK gN),(.int .i64 eH),(.int .i64 eQ)=>bB.l13 F ap n dK gN eH eQ H
 | _,_,_,_=>none
theorem bB.lh13_inv {F:Nat} {ap:Int->Int->Sl->Int->Int->Hp->OA} {ks:List Nat} {n:Nat} {tm:Tm} {H:Hp} {r:AV×Hp} (h:bB.lh13 F ap ks n tm H=some r):∃ dK gN eH eQ,ks=[]/\eG tm [(0,(.ptr dK gN)),(1,(.int .i64 eH)),(5,(.int .i64 eQ))]/\bB.l13 F ap n dK gN eH eQ H=some r:=by
 unfold bB.lh13 at h
 split at h
 ·exact ⟨_,_,_,_,rfl,⟨‹_›,‹_›,‹_›,trivial⟩,h⟩
 ·cases h
def bB.lh213 (F:Nat) (ap:Int->Int->Sl->Int->Int->Hp->OA) (ks:List Nat) (n:Nat) (tm:Tm) (H:Hp):OA:=match ks,tm 0,tm 1,tm 5,tm 6 with
 | [iY],(.ptr mb mc),(.int .i64 kp),(.int .i64 kq),(.int .i64 ly)=>bB.l213 F ap (bB.l13 F ap iY) n mb mc kp kq ly H
 | _,_,_,_,_=>none
theorem bB.lh213_inv {F:Nat} {ap:Int->Int->Sl->Int->Int->Hp->OA} {ks:List Nat} {n:Nat} {tm:Tm} {H:Hp} {r:AV×Hp} (h:bB.lh213 F ap ks n tm H=some r):∃ iY mb mc kp kq ly,ks=[iY]/\eG tm [(0,(.ptr mb mc)),(1,(.int .i64 kp)),(5,(.int .i64 kq)),(6,(.int .i64 ly))]/\bB.l213 F ap (bB.l13 F ap iY) n mb mc kp kq ly H=some r:=by
 unfold bB.lh213 at h
 split at h
 ·exact ⟨_,_,_,_,_,_,rfl,⟨‹_›,‹_›,‹_›,‹_›,trivial⟩,h⟩
 ·cases h
def bB.lh (F:Nat) (ap:Int->Int->Sl->Int->Int->Hp->OA) (p:Nat) (ks:List Nat) (n:Nat) (tm:Tm) (H:Hp):OA:=bif p.beq 213 then bB.lh213 F ap ks n tm H else (bif p.beq 13 then bB.lh13 F ap ks n tm H else (none))
def bB.pn:Nat->List Nat:=fp [(7,[13])]
def bB.tb:Nat->List (List Nat):=fp [(7,[[],[0],[0,1],[0,1,2],[],[],[0,1,2,3,4,5],[],[7],[7,8],[7,8,9],[],[],[0,1,2,3,4,5,6,7,8,9,10,11,12],[0,1,2,3,4,5,6,7,8,9,10,11,12,13],[0,1,2,3,4,5,6,7,8,9,10,11,12,13,14]])]
def bB.mk (g:Nat->Nat->Int->Hp->OA) (args:List AV) (H:Hp):OA:=match args with
 | [(.ptr aa af),(.int .i64 ai)]=>g aa af ai H
 | _=>none
def bB.cs (F:Nat) (ap:Int->Int->Sl->Int->Int->Hp->OA):Cs:=[(79,bh.mk ap)]
theorem bB.loops (F:Nat) (ap:Int->Int->Sl->Int->Int->Hp->OA):LO (bF (bB.cs F ap)) bB.pn (bB.lh F ap) F Try.f144:=
 (ah.rt (ah.lt (ah.rt (ah.block (ah.loop (λtm H=>eP λr h=>by obtain ⟨dK,gN,eH,eQ,hks,e,h⟩:=bB.lh13_inv (show bB.lh13 F ap [] 0 tm H=some r from h);cases h) (λk13 tm H r h=>by obtain ⟨dK,gN,eH,eQ,hks,e,h⟩:=bB.lh13_inv (show bB.lh13 F ap [] (k13+1) tm H=some r from h);rw [<- eM e];exact Eq.trans (by kernel_rfl) h) λk13=>(ah.rt (ah.lt (ah.block (ah.rt (ah.block (ah.loop (λtm H=>eP λr h=>by obtain ⟨iY,mb,mc,kp,kq,ly,hks,e,h⟩:=bB.lh213_inv (show bB.lh213 F ap [k13] 0 tm H=some r from h);cases h) (λk213 tm H r h=>by obtain ⟨iY,mb,mc,kp,kq,ly,hks,e,h⟩:=bB.lh213_inv (show bB.lh213 F ap [k13] (k213+1) tm H=some r from h);cases hks;rw [<- eM e];exact Eq.trans (by kernel_rfl) h) λk213=>ah.no)))))))))))
theorem bB.eqX (F:Nat) (ap:Int->Int->Sl->Int->Int->Hp->OA) (aa:Nat) (af:Nat) (ai:Int) (H:Hp):EX (bF (bB.cs F ap)) bB.pn (bB.lh F ap) F Try.f144 [(.ptr aa af),(.int .i64 ai)] H=bB.twX F ap aa af ai H:=by kernel_rfl
theorem bB.k (F:Nat):Ok Try.prog 144 (bB.mk (bB.tw F)):=by
 intro args H v H' h
 unfold bB.mk at h
 split at h
 ·exact okT (TB:=bB.tb) Try.func144 (bG (bh.k F) cK) (bB.loops F (bh.tw F)) ((bB.eqX F (bh.tw F) _ _ _ H).trans h) (by kernel_rfl)
 ·cases h
def br.j1 (F:Nat) (gh:Nat->Nat->Int->Hp->OA) (ap:Int->Int->Sl->Int->Int->Hp->OA) (fZ:Int->Int->Hp->OA) (f_:Nat->Nat->Int->Int->Int->Hp->OA) (gi:Nat->Nat->Int->Int->Int->Hp->OA) (gj:Nat->Nat->Int->Hp->OA) (gk:Nat->Nat->Int->Hp->OA) (tF:Nat) (tG:Nat) (pc:Int) (H73:Hp):OA:=(Hp.ldB H73 tF (tG+15)).bind λb74=>(bif b74 then (some ((.tup [(.bool false),(.bool false)]),H73)) else ((gj tF tG pc H73).bind λr75=>((r75.1).asB).bind λb76=>(bif (!b76) then (some ((.tup [(.bool false),(.bool false)]),r75.2)) else ((gk tF tG pc r75.2).bind λr77=>((r77.1).asI .i64).bind λn78=>(bif (decide (n78<0)) then (some ((.tup [(.bool true),(.bool false)]),r77.2)) else ((f_ tF tG pc n78 (-1) r77.2).bind λr79=>some ((.tup [(.bool false),(.bool false)]),r79.2)))))))
def br.l61 (F:Nat) (gh:Nat->Nat->Int->Hp->OA) (ap:Int->Int->Sl->Int->Int->Hp->OA) (fZ:Int->Int->Hp->OA) (f_:Nat->Nat->Int->Int->Int->Hp->OA) (gi:Nat->Nat->Int->Int->Int->Hp->OA) (gj:Nat->Nat->Int->Hp->OA) (gk:Nat->Nat->Int->Hp->OA) :Nat->Nat->Nat->Int->Int->Hp->OA
 | 0,_,_,_,_,_=>none
 | md+1,kS,kT,je,kr,H47=>(Hp.ldI H47 .i64 kS (kT+1)).bind λn80=>(bif (decide (kr<n80)) then ((Hp.ldB H47 kS (kT+15)).bind λb81=>(bif (!b81) then ((Hp.ldI H47 .i64 kS kT).bind λn82=>(Hp.ldI H47 .i64 kS (kT+1)).bind λn83=>(Hp.ldSl H47 kS (kT+2)).bind λs84=>(ap n82 n83 s84 je kr H47).bind λr85=>((r85.1).asI .i64).bind λn86=>(if bt H47 r85.2 then ((Hp.ldI r85.2 .i64 kS kT).bind λn87=>(Hp.ldI r85.2 .i64 kS (kT+1)).bind λn88=>(Hp.ldSl r85.2 kS (kT+2)).bind λs89=>(ap n87 n88 s89 je je r85.2).bind λr90=>((r90.1).asI .i64).bind λn91=>(fZ n86 n91 r90.2).bind λr92=>((r92.1).asI .i64).bind λn93=>(gi kS kT kr je n93 r92.2).bind λr94=>br.l61 F gh ap fZ f_ gi gj gk md kS kT je (IntKind.i64.wrap (kr+1)) r94.2) else none)) else (br.j1 F gh ap fZ f_ gi gj gk kS kT je H47))) else (br.j1 F gh ap fZ f_ gi gj gk kS kT je H47))
termination_by structural n=>n
def br.j2 (F:Nat) (gh:Nat->Nat->Int->Hp->OA) (ap:Int->Int->Sl->Int->Int->Hp->OA) (fZ:Int->Int->Hp->OA) (f_:Nat->Nat->Int->Int->Int->Hp->OA) (gi:Nat->Nat->Int->Int->Int->Hp->OA) (gj:Nat->Nat->Int->Hp->OA) (gk:Nat->Nat->Int->Hp->OA) (AZ:Nat) (NM:Nat) (qq:Int) (H37:Hp):OA:=br.l61 F gh ap fZ f_ gi gj gk F AZ NM qq (IntKind.i64.wrap (qq+1)) H37
def br.l29 (F:Nat) (gh:Nat->Nat->Int->Hp->OA) (ap:Int->Int->Sl->Int->Int->Hp->OA) (fZ:Int->Int->Hp->OA) (f_:Nat->Nat->Int->Int->Int->Hp->OA) (gi:Nat->Nat->Int->Int->Int->Hp->OA) (gj:Nat->Nat->Int->Hp->OA) (gk:Nat->Nat->Int->Hp->OA) :Nat->Nat->Nat->Int->Int->Hp->OA
 | 0,_,_,_,_,_=>none
 | dI+1,iv,kU,jf,kt,H13=>(Hp.ldI H13 .i64 iv kU).bind λn95=>(bif (decide (kt<n95)) then ((Hp.ldB H13 iv (kU+15)).bind λb96=>(bif (!b96) then ((Hp.ldI H13 .i64 iv kU).bind λn97=>(Hp.ldI H13 .i64 iv (kU+1)).bind λn98=>(Hp.ldSl H13 iv (kU+2)).bind λs99=>(ap n97 n98 s99 kt jf H13).bind λr100=>((r100.1).asI .i64).bind λn101=>(if bt H13 r100.2 then ((Hp.ldI r100.2 .i64 iv kU).bind λn102=>(Hp.ldI r100.2 .i64 iv (kU+1)).bind λn103=>(Hp.ldSl r100.2 iv (kU+2)).bind λs104=>(ap n102 n103 s104 jf jf r100.2).bind λr105=>((r105.1).asI .i64).bind λn106=>(fZ n101 n106 r105.2).bind λr107=>((r107.1).asI .i64).bind λn108=>(f_ iv kU kt jf n108 r107.2).bind λr109=>br.l29 F gh ap fZ f_ gi gj gk dI iv kU jf (IntKind.i64.wrap (kt+1)) r109.2) else none)) else (br.j2 F gh ap fZ f_ gi gj gk iv kU jf H13))) else (br.j2 F gh ap fZ f_ gi gj gk iv kU jf H13))
termination_by structural n=>n
def br.twX (F:Nat) (gh:Nat->Nat->Int->Hp->OA) (ap:Int->Int->Sl->Int->Int->Hp->OA) (fZ:Int->Int->Hp->OA) (f_:Nat->Nat->Int->Int->Int->Hp->OA) (gi:Nat->Nat->Int->Int->Int->Hp->OA) (gj:Nat->Nat->Int->Hp->OA) (gk:Nat->Nat->Int->Hp->OA) (aa:Nat) (af:Nat) (ai:Int) (H:Hp):OA:=(gh aa af ai H).bind λr4=>((r4.1).asB).bind λb5=>(bif (!b5) then (some ((.tup [(.bool true),(.bool true)]),r4.2)) else (br.l29 F gh ap fZ f_ gi gj gk F aa af ai (IntKind.i64.wrap (ai+1)) r4.2))
def br.tw (F:Nat) (aa:Nat) (af:Nat) (ai:Int) (H:Hp):OA:=br.twX F (aD.tw F) (bh.tw F) (gO.tw F) (gv.tw F) (gF.tw F) (bU.tw F) (bB.tw F) aa af ai H
def br.lh29 (F:Nat) (gh:Nat->Nat->Int->Hp->OA) (ap:Int->Int->Sl->Int->Int->Hp->OA) (fZ:Int->Int->Hp->OA) (f_:Nat->Nat->Int->Int->Int->Hp->OA) (gi:Nat->Nat->Int->Int->Int->Hp->OA) (gj:Nat->Nat->Int->Hp->OA) (gk:Nat->Nat->Int->Hp->OA) (ks:List Nat) (n:Nat) (tm:Tm) (H:Hp):OA:=match ks,tm 0,tm 1,tm 6 with
 | [],(.ptr iv kU),(.int .i64 jf),(.int .i64 kt)=>br.l29 F gh ap fZ f_ gi gj gk n iv kU jf kt H
 | _,_,_,_=>none
theorem br.lh29_inv {F:Nat} {gh:Nat->Nat->Int->Hp->OA} {ap:Int->Int->Sl->Int->Int->Hp->OA} {fZ:Int->Int->Hp->OA} {f_:Nat->Nat->Int->Int->Int->Hp->OA} {gi:Nat->Nat->Int->Int->Int->Hp->OA} {gj:Nat->Nat->Int->Hp->OA} {gk:Nat->Nat->Int->Hp->OA} {ks:List Nat} {n:Nat} {tm:Tm} {H:Hp} {r:AV×Hp} (h:br.lh29 F gh ap fZ f_ gi gj gk ks n tm H=some r):∃ iv kU jf kt,ks=[]/\eG tm [(0,(.ptr iv kU)),(1,(.int .i64 jf)),(6,(.int .i64 kt))]/\br.l29 F gh ap fZ f_ gi gj gk n iv kU jf kt H=some r:=by
 unfold br.lh29 at h
 split at h
 ·exact ⟨_,_,_,_,rfl,⟨‹_›,‹_›,‹_›,trivial⟩,h⟩
 ·cases h
def br.lh61 (F:Nat) (gh:Nat->Nat->Int->Hp->OA) (ap:Int->Int->Sl->Int->Int->Hp->OA) (fZ:Int->Int->Hp->OA) (f_:Nat->Nat->Int->Int->Int->Hp->OA) (gi:Nat->Nat->Int->Int->Int->Hp->OA) (gj:Nat->Nat->Int->Hp->OA) (gk:Nat->Nat->Int->Hp->OA) (ks:List Nat) (n:Nat) (tm:Tm) (H:Hp):OA:=match ks,tm 0,tm 1,tm 7 with
 | [],(.ptr kS kT),(.int .i64 je),(.int .i64 kr)=>br.l61 F gh ap fZ f_ gi gj gk n kS kT je kr H
 | _,_,_,_=>none
theorem br.lh61_inv {F:Nat} {gh:Nat->Nat->Int->Hp->OA} {ap:Int->Int->Sl->Int->Int->Hp->OA} {fZ:Int->Int->Hp->OA} {f_:Nat->Nat->Int->Int->Int->Hp->OA} {gi:Nat->Nat->Int->Int->Int->Hp->OA} {gj:Nat->Nat->Int->Hp->OA} {gk:Nat->Nat->Int->Hp->OA} {ks:List Nat} {n:Nat} {tm:Tm} {H:Hp} {r:AV×Hp} (h:br.lh61 F gh ap fZ f_ gi gj gk ks n tm H=some r):∃ kS kT je kr,ks=[]/\eG tm [(0,(.ptr kS kT)),(1,(.int .i64 je)),(7,(.int .i64 kr))]/\br.l61 F gh ap fZ f_ gi gj gk n kS kT je kr H=some r:=by
 unfold br.lh61 at h
 split at h
 ·exact ⟨_,_,_,_,rfl,⟨‹_›,‹_›,‹_›,trivial⟩,h⟩
 ·cases h
def br.lh (F:Nat) (gh:Nat->Nat->Int->Hp->OA) (ap:Int->Int->Sl->Int->Int->Hp->OA) (fZ:Int->Int->Hp->OA) (f_:Nat->Nat->Int->Int->Int->Hp->OA) (gi:Nat->Nat->Int->Int->Int->Hp->OA) (gj:Nat->Nat->Int->Hp->OA) (gk:Nat->Nat->Int->Hp->OA) (p:Nat) (ks:List Nat) (n:Nat) (tm:Tm) (H:Hp):OA:=bif p.beq 61 then br.lh61 F gh ap fZ f_ gi gj gk ks n tm H else (bif p.beq 29 then br.lh29 F gh ap fZ f_ gi gj gk ks n tm H else (none))
def br.pn:Nat->List Nat:=fp [(6,[16,17,18]),(10,[16,17,18])]
def br.tb:Nat->List (List Nat):=fp [(6,[[],[],[],[],[3],[3,4],[3,4,5],[],[],[3,4,5,6,7,8],[],[10],[10,11],[10,11,12],[],[],[3,4,5,6,7,8,9,10,11,12,13,14,15],[3,4,5,6,7,8,9,10,11,12,13,14,15,16],[0,1,2,3,4,5,6,7,8,9,10,11,12,13,14,15,16,17]]),(10,[[],[],[],[],[3],[3,4],[3,4,5],[],[],[3,4,5,6,7,8],[],[10],[10,11],[10,11,12],[],[],[3,4,5,6,7,8,9,10,11,12,13,14,15],[3,4,5,6,7,8,9,10,11,12,13,14,15,16],[0,1,2,3,4,5,6,7,8,9,10,11,12,13,14,15,16,17]])]
def br.mk (g:Nat->Nat->Int->Hp->OA) (args:List AV) (H:Hp):OA:=match args with
 | [(.ptr aa af),(.int .i64 ai)]=>g aa af ai H
 | _=>none
def br.cs (F:Nat) (gh:Nat->Nat->Int->Hp->OA) (ap:Int->Int->Sl->Int->Int->Hp->OA) (fZ:Int->Int->Hp->OA) (f_:Nat->Nat->Int->Int->Int->Hp->OA) (gi:Nat->Nat->Int->Int->Int->Hp->OA) (gj:Nat->Nat->Int->Hp->OA) (gk:Nat->Nat->Int->Hp->OA):Cs:=[(139,aD.mk gh),(79,bh.mk ap),(141,gO.mk fZ),(140,gv.mk f_),(142,gF.mk gi),(143,bU.mk gj),(144,bB.mk gk)]
theorem br.loops (F:Nat) (gh:Nat->Nat->Int->Hp->OA) (ap:Int->Int->Sl->Int->Int->Hp->OA) (fZ:Int->Int->Hp->OA) (f_:Nat->Nat->Int->Int->Int->Hp->OA) (gi:Nat->Nat->Int->Int->Int->Hp->OA) (gj:Nat->Nat->Int->Hp->OA) (gk:Nat->Nat->Int->Hp->OA):LO (bF (br.cs F gh ap fZ f_ gi gj gk)) br.pn (br.lh F gh ap fZ f_ gi gj gk) F Try.f116:=
 (ah.rt (ah.rt (ah.seq (ah.rt (ah.block (ah.loop (λtm H=>eP λr h=>by obtain ⟨iv,kU,jf,kt,hks,e,h⟩:=br.lh29_inv (show br.lh29 F gh ap fZ f_ gi gj gk [] 0 tm H=some r from h);cases h) (λk29 tm H r h=>by obtain ⟨iv,kU,jf,kt,hks,e,h⟩:=br.lh29_inv (show br.lh29 F gh ap fZ f_ gi gj gk [] (k29+1) tm H=some r from h);rw [<- eM e];exact Eq.trans (by kernel_rfl) h) λk29=>ah.no))) (ah.lt (ah.rt (ah.block (ah.loop (λtm H=>eP λr h=>by obtain ⟨kS,kT,je,kr,hks,e,h⟩:=br.lh61_inv (show br.lh61 F gh ap fZ f_ gi gj gk [] 0 tm H=some r from h);cases h) (λk61 tm H r h=>by obtain ⟨kS,kT,je,kr,hks,e,h⟩:=br.lh61_inv (show br.lh61 F gh ap fZ f_ gi gj gk [] (k61+1) tm H=some r from h);rw [<- eM e];exact Eq.trans (by kernel_rfl) h) λk61=>ah.no)))))))
theorem br.eqX (F:Nat) (gh:Nat->Nat->Int->Hp->OA) (ap:Int->Int->Sl->Int->Int->Hp->OA) (fZ:Int->Int->Hp->OA) (f_:Nat->Nat->Int->Int->Int->Hp->OA) (gi:Nat->Nat->Int->Int->Int->Hp->OA) (gj:Nat->Nat->Int->Hp->OA) (gk:Nat->Nat->Int->Hp->OA) (aa:Nat) (af:Nat) (ai:Int) (H:Hp):EX (bF (br.cs F gh ap fZ f_ gi gj gk)) br.pn (br.lh F gh ap fZ f_ gi gj gk) F Try.f116 [(.ptr aa af),(.int .i64 ai)] H=br.twX F gh ap fZ f_ gi gj gk aa af ai H:=by kernel_rfl
theorem br.k (F:Nat):Ok Try.prog 116 (br.mk (br.tw F)):=by
 intro args H v H' h
 unfold br.mk at h
 split at h
 ·exact okT (TB:=br.tb) Try.func116 (bG (aD.k F) (bG (bh.k F) (bG (gO.k F) (bG (gv.k F) (bG (gF.k F) (bG (bU.k F) (bG (bB.k F) cK))))))) (br.loops F (aD.tw F) (bh.tw F) (gO.tw F) (gv.tw F) (gF.tw F) (bU.tw F) (bB.tw F)) ((br.eqX F (aD.tw F) (bh.tw F) (gO.tw F) (gv.tw F) (gF.tw F) (bU.tw F) (bB.tw F) _ _ _ H).trans h) (by kernel_rfl)
 ·cases h
def bu.j3 (F:Nat) (fG:Int->Hp->OA) (ga:Nat->Nat->Int->Hp->OA) (C29_:Nat->Nat->Nat->Nat->Int->Hp->OA) (xM:Nat) (NN:Nat) (xN:Nat) (NO:Nat) (tH:Int) (H161:Hp):OA:=C29_ xM NN xN NO (IntKind.i64.wrap (tH+1)) H161
def bu.j4 (F:Nat) (fG:Int->Hp->OA) (ga:Nat->Nat->Int->Hp->OA) (C29_:Nat->Nat->Nat->Nat->Int->Hp->OA) (xO:Nat) (NP:Nat) (rq:Nat) (xP:Nat) (qr:Int) (tI:Bool) (H146:Hp):OA:=(bif tI then (some ((.ptr rq xP),H146)) else ((Hp.ldB H146 rq (xP+15)).bind λb147=>(bif b147 then (some ((.ptr rq xP),H146)) else (bu.j3 F fG ga C29_ xO NP rq xP qr H146))))
def bu.l938 (F:Nat) (fG:Int->Hp->OA) (ga:Nat->Nat->Int->Hp->OA) (C29_:Nat->Nat->Nat->Nat->Int->Hp->OA):Nat->Nat->Nat->Nat->Nat->Int->Bool->Bool->Hp->OA
 | 0,_,_,_,_,_,_,_,_=>none
 | NQ+1,nk,pd,mf,oh,ku,nl,mg,H126=>(bif (!nl) then ((Hp.ldB H126 mf (oh+15)).bind λb162=>(bif (!b162) then ((ga mf oh ku H126).bind λr163=>((r163.1).asTup 2).bind λl164=>(l164[0]?).bind λv165=>((v165).asB).bind λb166=>(l164[1]?).bind λv167=>((v167).asB).bind λb168=>bu.l938 F fG ga C29_ NQ nk pd mf oh ku b166 b168 r163.2) else (bu.j4 F fG ga C29_ nk pd mf oh ku mg H126))) else (bu.j4 F fG ga C29_ nk pd mf oh ku mg H126))
termination_by structural n=>n
def bu.l29 (F:Nat) (fG:Int->Hp->OA) (ga:Nat->Nat->Int->Hp->OA) :Nat->Nat->Nat->Nat->Nat->Int->Hp->OA
 | 0,_,_,_,_,_,_=>none
 | dI+1,nm,pe,nL,pE,mh,H56=>(Hp.ldI H56 .i64 nm pe).bind λn113=>(Hp.ldI H56 .i64 nm (pe+1)).bind λn114=>(bif (decide (mh<(if n114<n113 then n114 else n113))) then (bu.l938 F fG ga (bu.l29 F fG ga dI) F nm pe nL pE mh false false H56) else (some ((.ptr nL pE),H56)))
termination_by structural n=>n
def bu.twX (F:Nat) (fG:Int->Hp->OA) (ga:Nat->Nat->Int->Hp->OA) (aa:Int) (af:Int) (aC:Sl) (H:Hp):OA:=(Hp.new H [(.int .i64 aa),(.int .i64 af),(.sl aC)]).bind λH4=>(Hp.ldI H4 .i64 H.length 0).bind λn5=>(Hp.ldI H4 .i64 H.length 1).bind λn6=>(Hp.new H4 []).bind λH7=>(Hp.ldSl H7 H.length 2).bind λs8=>(Sl.row H7 s8 1).bind λxs10=>(Hp.app H7 1 8 (⟨some (H4.length,0),0,.ex 0⟩:Sl) s8.n xs10).bind λa9=>(if bt H7 a9.2 then ((Hp.ldI a9.2 .i64 H.length 0).bind λn11=>(fG n11 a9.2).bind λr12=>((r12.1).asAgg 3).bind λl13=>(l13[0]?).bind λv14=>((v14).asI .i64).bind λn15=>(l13[1]?).bind λv16=>((v16).asI .i64).bind λn17=>(l13[2]?).bind λv18=>((v18).asSl).bind λs19=>(if bt a9.2 r12.2 then ((Hp.ldI r12.2 .i64 H.length 0).bind λn20=>(fG n20 r12.2).bind λr21=>((r21.1).asAgg 3).bind λl22=>(l22[0]?).bind λv23=>((v23).asI .i64).bind λn24=>(l22[1]?).bind λv25=>((v25).asI .i64).bind λn26=>(l22[2]?).bind λv27=>((v27).asSl).bind λs28=>(if bt r12.2 r21.2 then ((Hp.ldI r21.2 .i64 H.length 1).bind λn29=>(fG n29 r21.2).bind λr30=>((r30.1).asAgg 3).bind λl31=>(l31[0]?).bind λv32=>((v32).asI .i64).bind λn33=>(l31[1]?).bind λv34=>((v34).asI .i64).bind λn35=>(l31[2]?).bind λv36=>((v36).asSl).bind λs37=>(if bt r21.2 r30.2 then ((Hp.ldI r30.2 .i64 H.length 1).bind λn38=>(fG n38 r30.2).bind λr39=>((r39.1).asAgg 3).bind λl40=>(l40[0]?).bind λv41=>((v41).asI .i64).bind λn42=>(l40[1]?).bind λv43=>((v43).asI .i64).bind λn44=>(l40[2]?).bind λv45=>((v45).asSl).bind λs46=>(if bt r30.2 r39.2 then ((Hp.new r39.2 [(.int .i64 n5),(.int .i64 n6),(.sl a9.1),(.int .i64 n15),(.int .i64 n17),(.sl s19),(.int .i64 n24),(.int .i64 n26),(.sl s28),(.int .i64 n33),(.int .i64 n35),(.sl s37),(.int .i64 n42),(.int .i64 n44),(.sl s46),(.bool false)]).bind λH47=>bu.l29 F fG ga F H.length 0 r39.2.length 0 0 H47) else none)) else none)) else none)) else none)) else none)
def bu.tw (F:Nat) (aa:Int) (af:Int) (aC:Sl) (H:Hp):OA:=bu.twX F (dp.tw F) (br.tw F) aa af aC H
def bu.lh29 (F:Nat) (fG:Int->Hp->OA) (ga:Nat->Nat->Int->Hp->OA) (ks:List Nat) (n:Nat) (tm:Tm) (H:Hp):OA:=match ks,tm 1,tm 2,tm 3,tm 4 with
 | [],(.ptr nm pe),.nilp,(.ptr nL pE),(.int .i64 mh)=>bu.l29 F fG ga n nm pe nL pE mh H
 | _,_,_,_,_=>none
theorem bu.lh29_inv {F:Nat} {fG:Int->Hp->OA} {ga:Nat->Nat->Int->Hp->OA} {ks:List Nat} {n:Nat} {tm:Tm} {H:Hp} {r:AV×Hp} (h:bu.lh29 F fG ga ks n tm H=some r):∃ nm pe nL pE mh,ks=[]/\eG tm [(1,(.ptr nm pe)),(2,.nilp),(3,(.ptr nL pE)),(4,(.int .i64 mh))]/\bu.l29 F fG ga n nm pe nL pE mh H=some r:=by
 unfold bu.lh29 at h
 split at h
 ·exact ⟨_,_,_,_,_,rfl,⟨‹_›,‹_›,‹_›,‹_›,trivial⟩,h⟩
 ·cases h
def bu.lh938 (F:Nat) (fG:Int->Hp->OA) (ga:Nat->Nat->Int->Hp->OA) (ks:List Nat) (n:Nat) (tm:Tm) (H:Hp):OA:=match ks,tm 1,tm 2,tm 3,tm 4,tm 5,tm 6 with
 | [dI],(.ptr nk pd),.nilp,(.ptr mf oh),(.int .i64 ku),(.bool nl),(.bool mg)=>bu.l938 F fG ga (bu.l29 F fG ga dI) n nk pd mf oh ku nl mg H
 | _,_,_,_,_,_,_=>none
theorem bu.lh938_inv {F:Nat} {fG:Int->Hp->OA} {ga:Nat->Nat->Int->Hp->OA} {ks:List Nat} {n:Nat} {tm:Tm} {H:Hp} {r:AV×Hp} (h:bu.lh938 F fG ga ks n tm H=some r):∃ dI nk pd mf oh ku nl mg,ks=[dI]/\eG tm [(1,(.ptr nk pd)),(2,.nilp),(3,(.ptr mf oh)),(4,(.int .i64 ku)),(5,(.bool nl)),(6,(.bool mg))]/\bu.l938 F fG ga (bu.l29 F fG ga dI) n nk pd mf oh ku nl mg H=some r:=by
 unfold bu.lh938 at h
 split at h
 ·exact ⟨_,_,_,_,_,_,_,_,rfl,⟨‹_›,‹_›,‹_›,‹_›,‹_›,‹_›,trivial⟩,h⟩
 ·cases h
def bu.lh (F:Nat) (fG:Int->Hp->OA) (ga:Nat->Nat->Int->Hp->OA) (p:Nat) (ks:List Nat) (n:Nat) (tm:Tm) (H:Hp):OA:=bif p.beq 938 then bu.lh938 F fG ga ks n tm H else (bif p.beq 29 then bu.lh29 F fG ga ks n tm H else (none))
def bu.tb:Nat->List (List Nat):=fp [(1,[[],[0],[],[2],[],[],[5],[4,5,6],[0,1,2,3,4,5,6,7],[],[9],[4,5,6,7,9,10],[],[12],[4,5,6,7,9,10,11,12,13],[],[15],[4,5,6,7,9,10,11,12,13,14,15,16],[],[18],[4,5,6,7,9,10,11,12,13,14,15,16,17,18,19],[0,1,2,3,4,5,6,7,8,9,10,11,12,13,14,15,16,17,18,19,20],[0,1,2,3,4,5,6,7,8,9,10,11,12,13,14,15,16,17,18,19,20,21],[0,1,2,3,4,5,6,7,8,9,10,11,12,13,14,15,16,17,18,19,20,21,22]])]
def bu.mk (g:Int->Int->Sl->Hp->OA) (args:List AV) (H:Hp):OA:=match args with
 | [(.agg [(.int .i64 aa),(.int .i64 af),(.sl aC)])]=>g aa af aC H
 | _=>none
def bu.cs (F:Nat) (fG:Int->Hp->OA) (ga:Nat->Nat->Int->Hp->OA):Cs:=[(115,dp.mk fG),(116,br.mk ga)]
theorem bu.loops (F:Nat) (fG:Int->Hp->OA) (ga:Nat->Nat->Int->Hp->OA):LO (bF (bu.cs F fG ga)) bp (bu.lh F fG ga) F Try.f75:=
 (ah.rt (ah.rt (ah.lt (ah.rt (ah.block (ah.loop (λtm H=>eP λr h=>by obtain ⟨nm,pe,nL,pE,mh,hks,e,h⟩:=bu.lh29_inv (show bu.lh29 F fG ga [] 0 tm H=some r from h);cases h) (λk29 tm H r h=>by obtain ⟨nm,pe,nL,pE,mh,hks,e,h⟩:=bu.lh29_inv (show bu.lh29 F fG ga [] (k29+1) tm H=some r from h);rw [<- eM e];exact Eq.trans (by kernel_rfl) h) λk29=>(ah.rt (ah.lt (ah.block (ah.rt (ah.lt (ah.block (ah.loop (λtm H=>eP λr h=>by obtain ⟨dI,nk,pd,mf,oh,ku,nl,mg,hks,e,h⟩:=bu.lh938_inv (show bu.lh938 F fG ga [k29] 0 tm H=some r from h);cases h) (λk938 tm H r h=>by obtain ⟨dI,nk,pd,mf,oh,ku,nl,mg,hks,e,h⟩:=bu.lh938_inv (show bu.lh938 F fG ga [k29] (k938+1) tm H=some r from h);cases hks;rw [<- eM e];exact Eq.trans (by kernel_rfl) h) λk938=>ah.no)))))))))))))
theorem bu.eqX (F:Nat) (fG:Int->Hp->OA) (ga:Nat->Nat->Int->Hp->OA) (aa:Int) (af:Int) (aC:Sl) (H:Hp):EX (bF (bu.cs F fG ga)) bp (bu.lh F fG ga) F Try.f75 [(.agg [(.int .i64 aa),(.int .i64 af),(.sl aC)])] H=bu.twX F fG ga aa af aC H:=by kernel_rfl
theorem bu.k (F:Nat):Ok Try.prog 75 (bu.mk (bu.tw F)):=by
 intro args H v H' h
 unfold bu.mk at h
 split at h
 ·exact okT (TB:=bu.tb) Try.func75 (bG (dp.k F) (bG (br.k F) cK)) (bu.loops F (dp.tw F) (br.tw F)) ((bu.eqX F (dp.tw F) (br.tw F) _ _ _ H).trans h) (by kernel_rfl)
 ·cases h
def bY.j2 (F:Nat) (iw:Int->Int->Sl->Hp->OA) (ap:Int->Int->Sl->Int->Int->Hp->OA) (xQ:Nat) (NR:Nat) (NS:Sl) (H61:Hp):OA:=(Hp.ldB H61 xQ (NR+15)).bind λb62=>some ((.tup [(.sl NS),(.bool (!b62))]),H61)
def bY.j3 (F:Nat) (iw:Int->Int->Sl->Hp->OA) (ap:Int->Int->Sl->Int->Int->Hp->OA) (C61_:Nat->Nat->Nat->Nat->Sl->Int->Hp->OA) (xR:Nat) (NT:Nat) (xS:Nat) (NU:Nat) (qp:Sl) (tJ:Int) (H88:Hp):OA:=C61_ xR NT xS NU qp (IntKind.i64.wrap (tJ+1)) H88
def bY.l61 (F:Nat) (iw:Int->Int->Sl->Hp->OA) (ap:Int->Int->Sl->Int->Int->Hp->OA) :Nat->Nat->Nat->Nat->Nat->Sl->Int->Hp->OA
 | 0,_,_,_,_,_,_,_=>none
 | md+1,mK,oE,eE,mL,jl,fH,H22=>(Hp.ldI H22 .i64 mK oE).bind λn63=>(Hp.ldI H22 .i64 mK (oE+1)).bind λn64=>(bif (decide (fH<(if n64<n63 then n64 else n63))) then ((Hp.ldB H22 eE (mL+15)).bind λb65=>(bif (!b65) then ((Hp.ldI H22 .i64 eE mL).bind λn66=>(Hp.ldI H22 .i64 eE (mL+1)).bind λn67=>(Hp.ldSl H22 eE (mL+2)).bind λs68=>(ap n66 n67 s68 fH fH H22).bind λr69=>((r69.1).asI .i64).bind λn70=>(bif (n70 != 0) then ((Hp.new r69.2 [(.int .i64 n70)]).bind λH71=>(Sl.row H71 (⟨some (r69.2.length,0),1,.ex 1⟩:Sl) 1).bind λxs73=>(Hp.app H71 1 8 jl (⟨some (r69.2.length,0),1,.ex 1⟩:Sl).n xs73).bind λa72=>bY.j3 F iw ap (bY.l61 F iw ap md) mK oE eE mL a72.1 fH a72.2) else (bY.j3 F iw ap (bY.l61 F iw ap md) mK oE eE mL jl fH r69.2))) else (bY.j2 F iw ap eE mL jl H22))) else (bY.j2 F iw ap eE mL jl H22))
termination_by structural n=>n
def bY.twX (F:Nat) (iw:Int->Int->Sl->Hp->OA) (ap:Int->Int->Sl->Int->Int->Hp->OA) (aa:Int) (af:Int) (aC:Sl) (H:Hp):OA:=(Hp.new H [(.int .i64 aa),(.int .i64 af),(.sl aC)]).bind λH4=>(Hp.ldI H4 .i64 H.length 0).bind λn5=>(Hp.ldI H4 .i64 H.length (0+1)).bind λn6=>(Hp.ldSl H4 H.length (0+2)).bind λs7=>(iw n5 n6 s7 H4).bind λr8=>((r8.1).asP).bind λp9=>(Hp.new r8.2 []).bind λH10=>bY.l61 F iw ap F H.length 0 p9.1 p9.2 (⟨some (r8.2.length,0),0,.ex 0⟩:Sl) 0 H10
def bY.tw (F:Nat) (aa:Int) (af:Int) (aC:Sl) (H:Hp):OA:=bY.twX F (bu.tw F) (bh.tw F) aa af aC H
def bY.lh61 (F:Nat) (iw:Int->Int->Sl->Hp->OA) (ap:Int->Int->Sl->Int->Int->Hp->OA) (ks:List Nat) (n:Nat) (tm:Tm) (H:Hp):OA:=match ks,tm 1,tm 4,tm 5,tm 6 with
 | [],(.ptr mK oE),(.ptr eE mL),(.sl jl),(.int .i64 fH)=>bY.l61 F iw ap n mK oE eE mL jl fH H
 | _,_,_,_,_=>none
theorem bY.lh61_inv {F:Nat} {iw:Int->Int->Sl->Hp->OA} {ap:Int->Int->Sl->Int->Int->Hp->OA} {ks:List Nat} {n:Nat} {tm:Tm} {H:Hp} {r:AV×Hp} (h:bY.lh61 F iw ap ks n tm H=some r):∃ mK oE eE mL jl fH,ks=[]/\eG tm [(1,(.ptr mK oE)),(4,(.ptr eE mL)),(5,(.sl jl)),(6,(.int .i64 fH))]/\bY.l61 F iw ap n mK oE eE mL jl fH H=some r:=by
 unfold bY.lh61 at h
 split at h
 ·exact ⟨_,_,_,_,_,_,rfl,⟨‹_›,‹_›,‹_›,‹_›,trivial⟩,h⟩
 ·cases h
def bY.lh (F:Nat) (iw:Int->Int->Sl->Hp->OA) (ap:Int->Int->Sl->Int->Int->Hp->OA) (p:Nat) (ks:List Nat) (n:Nat) (tm:Tm) (H:Hp):OA:=bif p.beq 61 then bY.lh61 F iw ap ks n tm H else (none)
def bY.tb:Nat->List (List Nat):=fp [(9,[[],[],[1],[1,2],[1,2,3],[1,2,3,4],[0],[0,1,2,3,4,5,6]])]
def bY.mk (g:Int->Int->Sl->Hp->OA) (args:List AV) (H:Hp):OA:=match args with
 | [(.agg [(.int .i64 aa),(.int .i64 af),(.sl aC)])]=>g aa af aC H
 | _=>none
def bY.cs (F:Nat) (iw:Int->Int->Sl->Hp->OA) (ap:Int->Int->Sl->Int->Int->Hp->OA):Cs:=[(75,bu.mk iw),(79,bh.mk ap)]
theorem bY.loops (F:Nat) (iw:Int->Int->Sl->Hp->OA) (ap:Int->Int->Sl->Int->Int->Hp->OA):LO (bF (bY.cs F iw ap)) bp (bY.lh F iw ap) F Try.f74:=
 (ah.rt (ah.rt (ah.rt (ah.lt (ah.rt (ah.block (ah.loop (λtm H=>eP λr h=>by obtain ⟨mK,oE,eE,mL,jl,fH,hks,e,h⟩:=bY.lh61_inv (show bY.lh61 F iw ap [] 0 tm H=some r from h);cases h) (λk61 tm H r h=>by obtain ⟨mK,oE,eE,mL,jl,fH,hks,e,h⟩:=bY.lh61_inv (show bY.lh61 F iw ap [] (k61+1) tm H=some r from h);rw [<- eM e];exact Eq.trans (by kernel_rfl) h) λk61=>ah.no)))))))
theorem bY.eqX (F:Nat) (iw:Int->Int->Sl->Hp->OA) (ap:Int->Int->Sl->Int->Int->Hp->OA) (aa:Int) (af:Int) (aC:Sl) (H:Hp):EX (bF (bY.cs F iw ap)) bp (bY.lh F iw ap) F Try.f74 [(.agg [(.int .i64 aa),(.int .i64 af),(.sl aC)])] H=bY.twX F iw ap aa af aC H:=by kernel_rfl
theorem bY.k (F:Nat):Ok Try.prog 74 (bY.mk (bY.tw F)):=by
 intro args H v H' h
 unfold bY.mk at h
 split at h
 ·exact okT (TB:=bY.tb) Try.func74 (bG (bu.k F) (bG (bh.k F) cK)) (bY.loops F (bu.tw F) (bh.tw F)) ((bY.eqX F (bu.tw F) (bh.tw F) _ _ _ H).trans h) (by kernel_rfl)
 ·cases h
def dc.j2 (F:Nat) (C29_:Sl->Sl->Int->Hp->OA) (AZ:Sl) (NV:Sl) (tK:Int) (H35:Hp):OA:=C29_ AZ NV (IntKind.i64.wrap (tK+1)) H35
def dc.l29 (F:Nat) :Nat->Sl->Sl->Int->Hp->OA
 | 0,_,_,_,_=>none
 | dI+1,dh,jZ,fE,H7=>(bif (decide (fE<(dh.n:Int))) then ((Sl.idx dh fE 1).bind λp22=>(Hp.ldI H7 .i64 p22.1 p22.2).bind λn23=>(bif (decide (n23>1)) then ((Sl.idx dh fE 1).bind λp24=>(Hp.ldI H7 .i64 p24.1 p24.2).bind λn25=>(Hp.new H7 [(.int .i64 n25)]).bind λH26=>(Sl.row H26 (⟨some (H7.length,0),1,.ex 1⟩:Sl) 1).bind λxs28=>(Hp.app H26 1 8 jZ (⟨some (H7.length,0),1,.ex 1⟩:Sl).n xs28).bind λa27=>dc.j2 F (dc.l29 F dI) dh a27.1 fE a27.2) else (dc.j2 F (dc.l29 F dI) dh jZ fE H7))) else (some ((.sl jZ),H7)))
termination_by structural n=>n
def dc.twX (F:Nat) (aa:Sl) (H:Hp):OA:=(Hp.new H []).bind λH2=>dc.l29 F F aa (⟨some (H.length,0),0,.ex 0⟩:Sl) 0 H2
def dc.tw (F:Nat) (aa:Sl) (H:Hp):OA:=dc.twX F aa H
def dc.lh29 (F:Nat) (ks:List Nat) (n:Nat) (tm:Tm) (H:Hp):OA:=match ks,tm 0,tm 3,tm 4 with
 | [],(.sl dh),(.sl jZ),(.int .i64 fE)=>dc.l29 F n dh jZ fE H
 | _,_,_,_=>none
theorem dc.lh29_inv {F:Nat} {ks:List Nat} {n:Nat} {tm:Tm} {H:Hp} {r:AV×Hp} (h:dc.lh29 F ks n tm H=some r):∃ dh jZ fE,ks=[]/\eG tm [(0,(.sl dh)),(3,(.sl jZ)),(4,(.int .i64 fE))]/\dc.l29 F n dh jZ fE H=some r:=by
 unfold dc.lh29 at h
 split at h
 ·exact ⟨_,_,_,rfl,⟨‹_›,‹_›,‹_›,trivial⟩,h⟩
 ·cases h
def dc.lh (F:Nat) (p:Nat) (ks:List Nat) (n:Nat) (tm:Tm) (H:Hp):OA:=bif p.beq 29 then dc.lh29 F ks n tm H else (none)
def dc.mk (g:Sl->Hp->OA) (args:List AV) (H:Hp):OA:=match args with
 | [(.sl aa)]=>g aa H
 | _=>none
theorem dc.loops (F:Nat):LO (bF []) bp (dc.lh F) F Try.f84:=
 (ah.rt (ah.rt (ah.lt (ah.rt (ah.block (ah.loop (λtm H=>eP λr h=>by obtain ⟨dh,jZ,fE,hks,e,h⟩:=dc.lh29_inv (show dc.lh29 F [] 0 tm H=some r from h);cases h) (λk29 tm H r h=>by obtain ⟨dh,jZ,fE,hks,e,h⟩:=dc.lh29_inv (show dc.lh29 F [] (k29+1) tm H=some r from h);rw [<- eM e];exact Eq.trans (by kernel_rfl) h) λk29=>ah.no))))))
theorem dc.eqX (F:Nat) (aa:Sl) (H:Hp):EX (bF []) bp (dc.lh F) F Try.f84 [(.sl aa)] H=dc.twX F aa H:=by kernel_rfl
theorem dc.k (F:Nat):Ok Try.prog 84 (dc.mk (dc.tw F)):=by
 intro args H v H' h
 unfold dc.mk at h
 split at h
 ·exact okT (TB:=bp) Try.func84 cK (dc.loops F) ((dc.eqX F _ H).trans h) (by kernel_rfl)
 ·cases h
def gW.twX (F:Nat) (rr:Int->Int->Sl->Hp->OA) (tL:Int->Int->Sl->Int->Int->Sl->Hp->OA) (cD:Int->Int->Hp->OA) (tM:Int->Int->Sl->Int->Int->Sl->Hp->OA) (ru:Int->Int->Sl->Hp->OA) (tN:Sl->Hp->OA) (aa:Int) (af:Int) (aC:Sl) (aj:Int) (aJ:Int) (df:Sl) (H:Hp):OA:=(Hp.new H [(.int .i64 aa),(.int .i64 af),(.sl aC)]).bind λH7=>(Hp.new H7 [(.int .i64 aj),(.int .i64 aJ),(.sl df)]).bind λH8=>(Hp.new H8 [.int .i64 0,.sl ⟨none,0,.ex 0⟩]).bind λH9=>(Hp.ldI H9 .i64 H.length 0).bind λn10=>(Hp.ldI H9 .i64 H.length (0+1)).bind λn11=>(Hp.ldSl H9 H.length (0+2)).bind λs12=>(rr n10 n11 s12 H9).bind λr13=>((r13.1).asB).bind λb14=>(bif (!b14) then ((Hp.st r13.2 H8.length 0 (.int .i64 0)).bind λH15=>(Hp.st H15 H8.length (0+1) (.sl (⟨none,0,.ex 0⟩:Sl))).bind λH16=>(Hp.ldI H16 .i64 H8.length 0).bind λn17=>(Hp.ldSl H16 H8.length (0+1)).bind λs18=>some ((.tup [(.agg [(.int .i64 n17),(.sl s18)]),(.int .i64 1)]),H16)) else ((Hp.ldI r13.2 .i64 H7.length 0).bind λn19=>(Hp.ldI r13.2 .i64 H7.length (0+1)).bind λn20=>(Hp.ldSl r13.2 H7.length (0+2)).bind λs21=>(rr n19 n20 s21 r13.2).bind λr22=>((r22.1).asB).bind λb23=>(bif (!b23) then ((Hp.st r22.2 H8.length 0 (.int .i64 0)).bind λH24=>(Hp.st H24 H8.length (0+1) (.sl (⟨none,0,.ex 0⟩:Sl))).bind λH25=>(Hp.ldI H25 .i64 H8.length 0).bind λn26=>(Hp.ldSl H25 H8.length (0+1)).bind λs27=>some ((.tup [(.agg [(.int .i64 n26),(.sl s27)]),(.int .i64 1)]),H25)) else ((Hp.ldI r22.2 .i64 H7.length 1).bind λn28=>(Hp.ldI r22.2 .i64 H.length 0).bind λn29=>(bif (n28 != n29) then ((Hp.st r22.2 H8.length 0 (.int .i64 0)).bind λH30=>(Hp.st H30 H8.length (0+1) (.sl (⟨none,0,.ex 0⟩:Sl))).bind λH31=>(Hp.ldI H31 .i64 H8.length 0).bind λn32=>(Hp.ldSl H31 H8.length (0+1)).bind λs33=>some ((.tup [(.agg [(.int .i64 n32),(.sl s33)]),(.int .i64 2)]),H31)) else ((Hp.ldI r22.2 .i64 H7.length 0).bind λn34=>(Hp.ldI r22.2 .i64 H7.length (0+1)).bind λn35=>(Hp.ldSl r22.2 H7.length (0+2)).bind λs36=>(Hp.ldI r22.2 .i64 H.length 0).bind λn37=>(Hp.ldI r22.2 .i64 H.length (0+1)).bind λn38=>(Hp.ldSl r22.2 H.length (0+2)).bind λs39=>(tL n34 n35 s36 n37 n38 s39 r22.2).bind λr40=>((r40.1).asTup 2).bind λl41=>(l41[0]?).bind λv42=>((v42).asAgg 3).bind λl43=>(l43[0]?).bind λv44=>((v44).asI .i64).bind λn45=>(l43[1]?).bind λv46=>((v46).asI .i64).bind λn47=>(l43[2]?).bind λv48=>((v48).asSl).bind λs49=>(l41[1]?).bind λv50=>((v50).asB).bind λb51=>(Hp.new r40.2 [.int .i64 0,.int .i64 0,.sl ⟨none,0,.ex 0⟩]).bind λH52=>(Hp.st H52 r40.2.length 0 (.int .i64 n45)).bind λH53=>(Hp.st H53 r40.2.length (0+1) (.int .i64 n47)).bind λH54=>(Hp.st H54 r40.2.length (0+1+1) (.sl s49)).bind λH55=>(bif (!b51) then ((Hp.st H55 H8.length 0 (.int .i64 0)).bind λH56=>(Hp.st H56 H8.length (0+1) (.sl (⟨none,0,.ex 0⟩:Sl))).bind λH57=>(Hp.ldI H57 .i64 H8.length 0).bind λn58=>(Hp.ldSl H57 H8.length (0+1)).bind λs59=>some ((.tup [(.agg [(.int .i64 n58),(.sl s59)]),(.int .i64 3)]),H57)) else ((Hp.ldI H55 .i64 r40.2.length 0).bind λn60=>(Hp.ldI H55 .i64 r40.2.length (0+1)).bind λn61=>(Hp.ldSl H55 r40.2.length (0+2)).bind λs62=>(Hp.ldI H55 .i64 H7.length 0).bind λn63=>(Hp.ldI H55 .i64 H.length 1).bind λn64=>(cD n63 n64 H55).bind λr65=>((r65.1).asAgg 3).bind λl66=>(l66[0]?).bind λv67=>((v67).asI .i64).bind λn68=>(l66[1]?).bind λv69=>((v69).asI .i64).bind λn70=>(l66[2]?).bind λv71=>((v71).asSl).bind λs72=>(if bt H55 r65.2 then ((tM n60 n61 s62 n68 n70 s72 r65.2).bind λr73=>((r73.1).asB).bind λb74=>(bif (!b74) then ((Hp.st r73.2 H8.length 0 (.int .i64 0)).bind λH75=>(Hp.st H75 H8.length (0+1) (.sl (⟨none,0,.ex 0⟩:Sl))).bind λH76=>(Hp.ldI H76 .i64 H8.length 0).bind λn77=>(Hp.ldSl H76 H8.length (0+1)).bind λs78=>some ((.tup [(.agg [(.int .i64 n77),(.sl s78)]),(.int .i64 5)]),H76)) else ((Hp.ldI r73.2 .i64 H.length 0).bind λn79=>(Hp.ldI r73.2 .i64 H.length (0+1)).bind λn80=>(Hp.ldSl r73.2 H.length (0+2)).bind λs81=>(ru n79 n80 s81 r73.2).bind λr82=>((r82.1).asTup 2).bind λl83=>(l83[0]?).bind λv84=>((v84).asSl).bind λs85=>(l83[1]?).bind λv86=>((v86).asB).bind λb87=>(Hp.ldI r82.2 .i64 H7.length 0).bind λn88=>(Hp.ldI r82.2 .i64 H7.length (0+1)).bind λn89=>(Hp.ldSl r82.2 H7.length (0+2)).bind λs90=>(ru n88 n89 s90 r82.2).bind λr91=>((r91.1).asTup 2).bind λl92=>(l92[0]?).bind λv93=>((v93).asSl).bind λs94=>(l92[1]?).bind λv95=>((v95).asB).bind λb96=>(bif (!b87) then ((Hp.st r91.2 H8.length 0 (.int .i64 0)).bind λH97=>(Hp.st H97 H8.length (0+1) (.sl (⟨none,0,.ex 0⟩:Sl))).bind λH98=>(Hp.ldI H98 .i64 H8.length 0).bind λn99=>(Hp.ldSl H98 H8.length (0+1)).bind λs100=>some ((.tup [(.agg [(.int .i64 n99),(.sl s100)]),(.int .i64 3)]),H98)) else ((bif (!b96) then ((Hp.st r91.2 H8.length 0 (.int .i64 0)).bind λH101=>(Hp.st H101 H8.length (0+1) (.sl (⟨none,0,.ex 0⟩:Sl))).bind λH102=>(Hp.ldI H102 .i64 H8.length 0).bind λn103=>(Hp.ldSl H102 H8.length (0+1)).bind λs104=>some ((.tup [(.agg [(.int .i64 n103),(.sl s104)]),(.int .i64 3)]),H102)) else ((Hp.ldI r91.2 .i64 H.length 0).bind λn105=>(tN s85 r91.2).bind λr106=>((r106.1).asSl).bind λs107=>(if bt r91.2 r106.2 then ((Hp.st r106.2 H8.length 0 (.int .i64 (IntKind.i64.wrap ((IntKind.i64.wrap (n105 - (s85.n:Int))) - (s94.n:Int))))).bind λH108=>(Hp.st H108 H8.length (0+1) (.sl s107)).bind λH109=>(Hp.ldI H109 .i64 H8.length 0).bind λn110=>(Hp.ldSl H109 H8.length (0+1)).bind λs111=>some ((.tup [(.agg [(.int .i64 n110),(.sl s111)]),(.int .i64 0)]),H109)) else none)))))))) else none)))))))))
def gW.tw (F:Nat) (aa:Int) (af:Int) (aC:Sl) (aj:Int) (aJ:Int) (df:Sl) (H:Hp):OA:=gW.twX F (dQ.tw F) (aK.tw F) (eV.tw F) (dV.tw F) (bY.tw F) (dc.tw F) aa af aC aj aJ df H
def gW.pn:Nat->List Nat:=fp [(8,[6]),(14,[11])]
def gW.tb:Nat->List (List Nat):=fp [(8,[[],[],[1],[],[3],[1,2,3,4],[0,1,2,3,4,5],[0,1,2,3,4,5,6]]),(14,[[],[0],[],[2],[0,1,2,3],[],[5],[0,1,2,3,4,5,6],[],[8],[0,1,2,3,4,5,6,7,8,9],[0,1,2,3,4,5,6,7,8,9,10],[0,1,2,3,4,5,6,7,8,9,10,11]])]
def gW.mk (g:Int->Int->Sl->Int->Int->Sl->Hp->OA) (args:List AV) (H:Hp):OA:=match args with
 | [(.agg [(.int .i64 aa),(.int .i64 af),(.sl aC)]),(.agg [(.int .i64 aj),(.int .i64 aJ),(.sl df)])]=>g aa af aC aj aJ df H
 | _=>none
def gW.cs (F:Nat) (rr:Int->Int->Sl->Hp->OA) (tL:Int->Int->Sl->Int->Int->Sl->Hp->OA) (cD:Int->Int->Hp->OA) (tM:Int->Int->Sl->Int->Int->Sl->Hp->OA) (ru:Int->Int->Sl->Hp->OA) (tN:Sl->Hp->OA):Cs:=[(19,dQ.mk rr),(69,aK.mk tL),(80,eV.mk cD),(88,dV.mk tM),(74,bY.mk ru),(84,dc.mk tN)]
theorem gW.eqX (F:Nat) (rr:Int->Int->Sl->Hp->OA) (tL:Int->Int->Sl->Int->Int->Sl->Hp->OA) (cD:Int->Int->Hp->OA) (tM:Int->Int->Sl->Int->Int->Sl->Hp->OA) (ru:Int->Int->Sl->Hp->OA) (tN:Sl->Hp->OA) (aa:Int) (af:Int) (aC:Sl) (aj:Int) (aJ:Int) (df:Sl) (H:Hp):EX (bF (gW.cs F rr tL cD tM ru tN)) gW.pn lh0 F Try.f52 [(.agg [(.int .i64 aa),(.int .i64 af),(.sl aC)]),(.agg [(.int .i64 aj),(.int .i64 aJ),(.sl df)])] H=gW.twX F rr tL cD tM ru tN aa af aC aj aJ df H:=by kernel_rfl
theorem gW.k (F:Nat):Ok Try.prog 52 (gW.mk (gW.tw F)):=by
 intro args H v H' h
 unfold gW.mk at h
 split at h
 ·exact okT (TB:=gW.tb) Try.func52 (bG (dQ.k F) (bG (aK.k F) (bG (eV.k F) (bG (dV.k F) (bG (bY.k F) (bG (dc.k F) cK)))))) ah.no ((gW.eqX F (dQ.tw F) (aK.tw F) (eV.tw F) (dV.tw F) (bY.tw F) (dc.tw F) _ _ _ _ _ _ H).trans h) (by kernel_rfl)
 ·cases h
def gG.twX (F:Nat) (aa:Int) (ax:Int) (dJ:Int) (H:Hp):OA:=(bif (decide (ax<=aa)) then (some ((.bool (decide (aa<=dJ))),H)) else (some ((.bool false),H)))
def gG.tw (F:Nat) (aa:Int) (ax:Int) (dJ:Int) (H:Hp):OA:=gG.twX F aa ax dJ H
def gG.mk (g:Int->Int->Int->Hp->OA) (args:List AV) (H:Hp):OA:=match args with
 | [(.int .i64 aa),(.int .i64 ax),(.int .i64 dJ)]=>g aa ax dJ H
 | _=>none
theorem gG.eqX (F:Nat) (aa:Int) (ax:Int) (dJ:Int) (H:Hp):EX (bF []) bp lh0 F Try.f106 [(.int .i64 aa),(.int .i64 ax),(.int .i64 dJ)] H=gG.twX F aa ax dJ H:=by kernel_rfl
theorem gG.k (F:Nat):Ok Try.prog 106 (gG.mk (gG.tw F)):=by
 intro args H v H' h
 unfold gG.mk at h
 split at h
 ·exact okT (TB:=bp) Try.func106 cK ah.no ((gG.eqX F _ _ _ H).trans h) (by kernel_rfl)
 ·cases h
def gH.twX (F:Nat) (aa:Sl) (H:Hp):OA:=some ((.int .i64 (aa.n:Int)),H)
def gH.tw (F:Nat) (aa:Sl) (H:Hp):OA:=gH.twX F aa H
def gH.mk (g:Sl->Hp->OA) (args:List AV) (H:Hp):OA:=match args with
 | [(.sl aa)]=>g aa H
 | _=>none
theorem gH.eqX (F:Nat) (aa:Sl) (H:Hp):EX (bF []) bp lh0 F Try.f73 [(.sl aa)] H=gH.twX F aa H:=by kernel_rfl
theorem gH.k (F:Nat):Ok Try.prog 73 (gH.mk (gH.tw F)):=by
 intro args H v H' h
 unfold gH.mk at h
 split at h
 ·exact okT (TB:=bp) Try.func73 cK ah.no ((gH.eqX F _ H).trans h) (by kernel_rfl)
 ·cases h
def im.twX (F:Nat) (nn:Int->Int->Int->Hp->OA) (aa:Int) (H:Hp):OA:=(nn aa (-1000000000000) 1000000000000 H).bind λr2=>((r2.1).asB).bind λb3=>some ((.bool (!b3)),r2.2)
def im.tw (F:Nat) (aa:Int) (H:Hp):OA:=im.twX F (gG.tw F) aa H
def im.mk (g:Int->Hp->OA) (args:List AV) (H:Hp):OA:=match args with
 | [(.int .i64 aa)]=>g aa H
 | _=>none
def im.cs (F:Nat) (nn:Int->Int->Int->Hp->OA):Cs:=[(106,gG.mk nn)]
theorem im.eqX (F:Nat) (nn:Int->Int->Int->Hp->OA) (aa:Int) (H:Hp):EX (bF (im.cs F nn)) bp lh0 F Try.f107 [(.int .i64 aa)] H=im.twX F nn aa H:=by kernel_rfl
theorem im.k (F:Nat):Ok Try.prog 107 (im.mk (im.tw F)):=by
 intro args H v H' h
 unfold im.mk at h
 split at h
 ·exact okT (TB:=bp) Try.func107 (bG (gG.k F) cK) ah.no ((im.eqX F (gG.tw F) _ H).trans h) (by kernel_rfl)
 ·cases h
def dW.l13 (F:Nat) (jQ:Int->Hp->OA) :Nat->Sl->Int->Int->Hp->OA
 | 0,_,_,_,_=>none
 | iY+1,gb,dT,cP,H6=>(bif (decide (cP<dT)) then ((Sl.idx gb cP 1).bind λp11=>(Hp.ldI H6 .i64 p11.1 p11.2).bind λn12=>(jQ n12 H6).bind λr13=>((r13.1).asB).bind λb14=>(bif b14 then (some ((.int .i64 cP),r13.2)) else (dW.l13 F jQ iY gb dT (IntKind.i64.wrap (cP+1)) r13.2))) else (some ((.int .i64 (-1)),H6)))
termination_by structural n=>n
def dW.twX (F:Nat) (jQ:Int->Hp->OA) (aa:Sl) (H:Hp):OA:=dW.l13 F jQ F aa (aa.n:Int) 0 H
def dW.tw (F:Nat) (aa:Sl) (H:Hp):OA:=dW.twX F (im.tw F) aa H
def dW.lh13 (F:Nat) (jQ:Int->Hp->OA) (ks:List Nat) (n:Nat) (tm:Tm) (H:Hp):OA:=match ks,tm 0,tm 1,tm 7,tm 8 with
 | [],(.sl gb),(.fn 107 []),(.int .i64 dT),(.int .i64 cP)=>dW.l13 F jQ n gb dT cP H
 | _,_,_,_,_=>none
theorem dW.lh13_inv {F:Nat} {jQ:Int->Hp->OA} {ks:List Nat} {n:Nat} {tm:Tm} {H:Hp} {r:AV×Hp} (h:dW.lh13 F jQ ks n tm H=some r):∃ gb dT cP,ks=[]/\eG tm [(0,(.sl gb)),(1,(.fn 107 [])),(7,(.int .i64 dT)),(8,(.int .i64 cP))]/\dW.l13 F jQ n gb dT cP H=some r:=by
 unfold dW.lh13 at h
 split at h
 ·exact ⟨_,_,_,rfl,⟨‹_›,‹_›,‹_›,‹_›,trivial⟩,h⟩
 ·cases h
def dW.lh (F:Nat) (jQ:Int->Hp->OA) (p:Nat) (ks:List Nat) (n:Nat) (tm:Tm) (H:Hp):OA:=bif p.beq 13 then dW.lh13 F jQ ks n tm H else (none)
def dW.mk (g:Sl->Hp->OA) (args:List AV) (H:Hp):OA:=match args with
 | [(.sl aa),(.fn 107 [])]=>g aa H
 | _=>none
def dW.cs (F:Nat) (jQ:Int->Hp->OA):Cs:=[(107,im.mk jQ)]
theorem dW.loops (F:Nat) (jQ:Int->Hp->OA):LO (bF (dW.cs F jQ)) bp (dW.lh F jQ) F Try.f117:=
 (ah.rt (ah.lt (ah.rt (ah.block (ah.loop (λtm H=>eP λr h=>by obtain ⟨gb,dT,cP,hks,e,h⟩:=dW.lh13_inv (show dW.lh13 F jQ [] 0 tm H=some r from h);cases h) (λk13 tm H r h=>by obtain ⟨gb,dT,cP,hks,e,h⟩:=dW.lh13_inv (show dW.lh13 F jQ [] (k13+1) tm H=some r from h);rw [<- eM e];exact Eq.trans (by kernel_rfl) h) λk13=>ah.no)))))
theorem dW.eqX (F:Nat) (jQ:Int->Hp->OA) (aa:Sl) (H:Hp):EX (bF (dW.cs F jQ)) bp (dW.lh F jQ) F Try.f117 [(.sl aa),(.fn 107 [])] H=dW.twX F jQ aa H:=by kernel_rfl
theorem dW.k (F:Nat):Ok Try.prog 117 (dW.mk (dW.tw F)):=by
 intro args H v H' h
 unfold dW.mk at h
 split at h
 ·exact okT (TB:=bp) Try.func117 (bG (im.k F) cK) (dW.loops F (im.tw F)) ((dW.eqX F (im.tw F) _ H).trans h) (by kernel_rfl)
 ·cases h
def iM.twX (F:Nat) (tO:Sl->Hp->OA) (aa:Sl) (H:Hp):OA:=(tO aa H).bind λr2=>((r2.1).asI .i64).bind λn3=>some ((.bool (decide (n3>=0))),r2.2)
def iM.tw (F:Nat) (aa:Sl) (H:Hp):OA:=iM.twX F (dW.tw F) aa H
def iM.mk (g:Sl->Hp->OA) (args:List AV) (H:Hp):OA:=match args with
 | [(.sl aa),(.fn 107 [])]=>g aa H
 | _=>none
def iM.cs (F:Nat) (tO:Sl->Hp->OA):Cs:=[(117,dW.mk tO)]
theorem iM.eqX (F:Nat) (tO:Sl->Hp->OA) (aa:Sl) (H:Hp):EX (bF (iM.cs F tO)) bp lh0 F Try.f81 [(.sl aa),(.fn 107 [])] H=iM.twX F tO aa H:=by kernel_rfl
theorem iM.k (F:Nat):Ok Try.prog 81 (iM.mk (iM.tw F)):=by
 intro args H v H' h
 unfold iM.mk at h
 split at h
 ·exact okT (TB:=bp) Try.func81 (bG (dW.k F) cK) ah.no ((iM.eqX F (dW.tw F) _ H).trans h) (by kernel_rfl)
 ·cases h
def gc.twX (F:Nat) (nn:Int->Int->Int->Hp->OA) (np:Sl->Hp->OA) (tP:Sl->Hp->OA) (aa:Int) (af:Int) (aC:Sl) (H:Hp):OA:=(Hp.new H [(.int .i64 aa),(.int .i64 af),(.sl aC)]).bind λH4=>(Hp.ldI H4 .i64 H.length 0).bind λn5=>(nn n5 0 48 H4).bind λr6=>((r6.1).asB).bind λb7=>(bif b7 then ((Hp.ldI r6.2 .i64 H.length 1).bind λn8=>(nn n8 0 48 r6.2).bind λr9=>((r9.1).asB).bind λb10=>(bif b10 then ((Hp.ldSl r9.2 H.length 2).bind λs11=>(np s11 r9.2).bind λr12=>((r12.1).asI .i64).bind λn13=>(if bt r9.2 r12.2 then ((Hp.ldI r12.2 .i64 H.length 0).bind λn14=>(Hp.ldI r12.2 .i64 H.length 1).bind λn15=>(bif (n13 == (IntKind.i64.wrap (n14 * n15))) then ((Hp.ldSl r12.2 H.length 2).bind λs16=>(tP s16 r12.2).bind λr17=>((r17.1).asB).bind λb18=>some ((.bool (!b18)),r17.2)) else (some ((.bool false),r12.2)))) else none)) else (some ((.bool false),r9.2)))) else (some ((.bool false),r6.2)))
def gc.tw (F:Nat) (aa:Int) (af:Int) (aC:Sl) (H:Hp):OA:=gc.twX F (gG.tw F) (gH.tw F) (iM.tw F) aa af aC H
def gc.pn:Nat->List Nat:=fp [(1,[2,6,22])]
def gc.tb:Nat->List (List Nat):=fp [(1,[[],[0],[0,1],[0,1,2],[0,1,2,3],[0,1,2,3,4],[0,1,2,3,4,5],[0,1,2,3,4,5,6],[0,1,2,3,4,5,6,7],[0,1,2,3,4,5,6,7,8],[0,1,2,3,4,5,6,7,8,9],[0,1,2,3,4,5,6,7,8,9,10],[0,1,2,3,4,5,6,7,8],[0,1,2,3,4,5,6,7,8,12],[0,1,2,3,4,5,6,7,8],[0,1,2,3,4,5,6,7,8,14],[0,1,2,3,4,5,6,7,8,12,13,14,15],[0,1,2,3,4,5,6,7,8,9,10,11,12,13,14,15,16],[0,1,2,3,4,5,6,7,8,9,10,11,12,13,14,15,16,17],[0,1,2,3,4,5,6,7,8,9,10,11,12,13,14,15,16,17,18],[0,1,2,3,4,5,6,7,8,9,10,11,12,13,14,15,16,17,18,19],[0,1,2,3,4,5,6,7,8,9,10,11,12,13,14,15,16,17,18,19,20],[0,1,2,3,4,5,6,7,8,9,10,11,12,13,14,15,16,17,18,19,20,21],[0,1,2,3,4,5,6,7,8,9,10,11,12,13,14,15,16,17,18,19,20,21,22],[0,1,2,3,4,5,6,7,8,9,10,11,12,13,14,15,16,17,18,19,20,21,22,23],[0,1,2,3,4,5,6,7,8,9,10,11,12,13,14,15,16,17,18,19,20,21,22,23,24]])]
def gc.mk (g:Int->Int->Sl->Hp->OA) (args:List AV) (H:Hp):OA:=match args with
 | [(.agg [(.int .i64 aa),(.int .i64 af),(.sl aC)])]=>g aa af aC H
 | _=>none
def gc.cs (F:Nat) (nn:Int->Int->Int->Hp->OA) (np:Sl->Hp->OA) (tP:Sl->Hp->OA):Cs:=[(106,gG.mk nn),(73,gH.mk np),(81,iM.mk tP)]
theorem gc.eqX (F:Nat) (nn:Int->Int->Int->Hp->OA) (np:Sl->Hp->OA) (tP:Sl->Hp->OA) (aa:Int) (af:Int) (aC:Sl) (H:Hp):EX (bF (gc.cs F nn np tP)) gc.pn lh0 F Try.f61 [(.agg [(.int .i64 aa),(.int .i64 af),(.sl aC)])] H=gc.twX F nn np tP aa af aC H:=by kernel_rfl
theorem gc.k (F:Nat):Ok Try.prog 61 (gc.mk (gc.tw F)):=by
 intro args H v H' h
 unfold gc.mk at h
 split at h
 ·exact okT (TB:=gc.tb) Try.func61 (bG (gG.k F) (bG (gH.k F) (bG (iM.k F) cK))) ah.no ((gc.eqX F (gG.tw F) (gH.tw F) (iM.tw F) _ _ _ H).trans h) (by kernel_rfl)
 ·cases h
def fL.twX (F:Nat) (aa:Int) (ax:Int) (H:Hp):OA:=(Hp.new H [.int .i64 0,.int .i64 0,.sl ⟨none,0,.ex 0⟩]).bind λH3=>(Hp.mk H3 [.int .i64 0] 8 (IntKind.i64.wrap (aa * ax)) (IntKind.i64.wrap (aa * ax))).bind λm4=>(Hp.st m4.2 H.length 0 (.int .i64 aa)).bind λH5=>(Hp.st H5 H.length (0+1) (.int .i64 ax)).bind λH6=>(Hp.st H6 H.length (0+1+1) (.sl m4.1)).bind λH7=>(Hp.ldI H7 .i64 H.length 0).bind λn8=>(Hp.ldI H7 .i64 H.length (0+1)).bind λn9=>(Hp.ldSl H7 H.length (0+2)).bind λs10=>some ((.agg [(.int .i64 n8),(.int .i64 n9),(.sl s10)]),H7)
def fL.tw (F:Nat) (aa:Int) (ax:Int) (H:Hp):OA:=fL.twX F aa ax H
def fL.mk (g:Int->Int->Hp->OA) (args:List AV) (H:Hp):OA:=match args with
 | [(.int .i64 aa),(.int .i64 ax)]=>g aa ax H
 | _=>none
theorem fL.eqX (F:Nat) (aa:Int) (ax:Int) (H:Hp):EX (bF []) bp lh0 F Try.f94 [(.int .i64 aa),(.int .i64 ax)] H=fL.twX F aa ax H:=by kernel_rfl
theorem fL.k (F:Nat):Ok Try.prog 94 (fL.mk (fL.tw F)):=by
 intro args H v H' h
 unfold fL.mk at h
 split at h
 ·exact okT (TB:=bp) Try.func94 cK ah.no ((fL.eqX F _ _ H).trans h) (by kernel_rfl)
 ·cases h
def bI.twX (F:Nat) (aa:Int) (af:Int) (aC:Sl) (aj:Int) (bW:Int) (H:Hp):OA:=(Hp.new H [(.int .i64 aa),(.int .i64 af),(.sl aC)]).bind λH6=>(Hp.ldSl H6 H.length 2).bind λs7=>(Hp.ldI H6 .i64 H.length 1).bind λn8=>(Sl.idx s7 (IntKind.i64.wrap ((IntKind.i64.wrap (aj * n8))+bW)) 1).bind λp9=>some ((.ptr p9.1 p9.2),H6)
def bI.tw (F:Nat) (aa:Int) (af:Int) (aC:Sl) (aj:Int) (bW:Int) (H:Hp):OA:=bI.twX F aa af aC aj bW H
def bI.mk (g:Int->Int->Sl->Int->Int->Hp->OA) (args:List AV) (H:Hp):OA:=match args with
 | [(.agg [(.int .i64 aa),(.int .i64 af),(.sl aC)]),(.int .i64 aj),(.int .i64 bW)]=>g aa af aC aj bW H
 | _=>none
theorem bI.eqX (F:Nat) (aa:Int) (af:Int) (aC:Sl) (aj:Int) (bW:Int) (H:Hp):EX (bF []) bp lh0 F Try.f95 [(.agg [(.int .i64 aa),(.int .i64 af),(.sl aC)]),(.int .i64 aj),(.int .i64 bW)] H=bI.twX F aa af aC aj bW H:=by kernel_rfl
theorem bI.k (F:Nat):Ok Try.prog 95 (bI.mk (bI.tw F)):=by
 intro args H v H' h
 unfold bI.mk at h
 split at h
 ·exact okT (TB:=bp) Try.func95 cK ah.no ((bI.eqX F _ _ _ _ _ H).trans h) (by kernel_rfl)
 ·cases h
def d_.twX (F:Nat) (aa:Int) (H:Hp):OA:=(bif (decide (aa<0)) then (some ((.int .i64 (IntKind.i64.wrap (0 - aa))),H)) else (some ((.int .i64 aa),H)))
def d_.tw (F:Nat) (aa:Int) (H:Hp):OA:=d_.twX F aa H
def d_.mk (g:Int->Hp->OA) (args:List AV) (H:Hp):OA:=match args with
 | [(.int .i64 aa)]=>g aa H
 | _=>none
theorem d_.eqX (F:Nat) (aa:Int) (H:Hp):EX (bF []) bp lh0 F Try.f102 [(.int .i64 aa)] H=d_.twX F aa H:=by kernel_rfl
theorem d_.k (F:Nat):Ok Try.prog 102 (d_.mk (d_.tw F)):=by
 intro args H v H' h
 unfold d_.mk at h
 split at h
 ·exact okT (TB:=bp) Try.func102 cK ah.no ((d_.eqX F _ H).trans h) (by kernel_rfl)
 ·cases h
def fB.twX (F:Nat) (cI:Int->Hp->OA) (aa:Int) (ax:Int) (dJ:Int) (H:Hp):OA:=(bif (aa != 0) then ((cI ax H).bind λr4=>((r4.1).asI .i64).bind λn5=>(cI aa r4.2).bind λr6=>((r6.1).asI .i64).bind λn7=>(if n7=0 then none else ((bif (decide (n5>(IntKind.i64.wrap (Int.tdiv dJ n7)))) then (some ((.tup [(.int .i64 0),(.bool false)]),r6.2)) else (some ((.tup [(.int .i64 (IntKind.i64.wrap (aa * ax))),(.bool true)]),r6.2)))))) else (some ((.tup [(.int .i64 (IntKind.i64.wrap (aa * ax))),(.bool true)]),H)))
def fB.tw (F:Nat) (aa:Int) (ax:Int) (dJ:Int) (H:Hp):OA:=fB.twX F (d_.tw F) aa ax dJ H
def fB.mk (g:Int->Int->Int->Hp->OA) (args:List AV) (H:Hp):OA:=match args with
 | [(.int .i64 aa),(.int .i64 ax),(.int .i64 dJ)]=>g aa ax dJ H
 | _=>none
def fB.cs (F:Nat) (cI:Int->Hp->OA):Cs:=[(102,d_.mk cI)]
theorem fB.eqX (F:Nat) (cI:Int->Hp->OA) (aa:Int) (ax:Int) (dJ:Int) (H:Hp):EX (bF (fB.cs F cI)) bp lh0 F Try.f138 [(.int .i64 aa),(.int .i64 ax),(.int .i64 dJ)] H=fB.twX F cI aa ax dJ H:=by kernel_rfl
theorem fB.k (F:Nat):Ok Try.prog 138 (fB.mk (fB.tw F)):=by
 intro args H v H' h
 unfold fB.mk at h
 split at h
 ·exact okT (TB:=bp) Try.func138 (bG (d_.k F) cK) ah.no ((fB.eqX F (d_.tw F) _ _ _ H).trans h) (by kernel_rfl)
 ·cases h
def dz.l29 (F:Nat) (ak:Int->Int->Sl->Int->Int->Hp->OA) (iy:Int->Int->Int->Hp->OA) (cI:Int->Hp->OA) :Nat->Int->Int->Nat->Nat->Nat->Nat->Int->Int->Int->Int->Hp->OA
 | 0,_,_,_,_,_,_,_,_,_,_,_=>none
 | dI+1,mi,fA,gB,oF,mM,oG,mj,ml,mm,kv,H30=>(bif (decide (kv<mm)) then ((Hp.ldI H30 .i64 gB oF).bind λn51=>(Hp.ldI H30 .i64 gB (oF+1)).bind λn52=>(Hp.ldSl H30 gB (oF+2)).bind λs53=>(ak n51 n52 s53 mi kv H30).bind λr54=>((r54.1).asP).bind λp55=>(if bt H30 r54.2 then ((Hp.ldI r54.2 .i64 p55.1 p55.2).bind λn56=>(Hp.ldI r54.2 .i64 mM oG).bind λn57=>(Hp.ldI r54.2 .i64 mM (oG+1)).bind λn58=>(Hp.ldSl r54.2 mM (oG+2)).bind λs59=>(ak n57 n58 s59 kv fA r54.2).bind λr60=>((r60.1).asP).bind λp61=>(if bt r54.2 r60.2 then ((Hp.ldI r60.2 .i64 p61.1 p61.2).bind λn62=>(iy n56 n62 1000000000000 r60.2).bind λr63=>((r63.1).asTup 2).bind λl64=>(l64[0]?).bind λv65=>((v65).asI .i64).bind λn66=>(l64[1]?).bind λv67=>((v67).asB).bind λb68=>(cI n66 r63.2).bind λr69=>((r69.1).asI .i64).bind λn70=>(bif (!b68) then (some ((.tup [(.int .i64 0),(.bool false)]),r69.2)) else ((bif (decide ((IntKind.i64.wrap (ml+n70))>1000000000000)) then (some ((.tup [(.int .i64 0),(.bool false)]),r69.2)) else (dz.l29 F ak iy cI dI mi fA gB oF mM oG (IntKind.i64.wrap (mj+n66)) (IntKind.i64.wrap (ml+n70)) mm (IntKind.i64.wrap (kv+1)) r69.2))))) else none)) else none)) else (some ((.tup [(.int .i64 mj),(.bool true)]),H30)))
termination_by structural n=>n
def dz.twX (F:Nat) (ak:Int->Int->Sl->Int->Int->Hp->OA) (iy:Int->Int->Int->Hp->OA) (cI:Int->Hp->OA) (aa:Int) (af:Int) (aC:Sl) (aj:Int) (aJ:Int) (df:Sl) (nM:Int) (nN:Int) (H:Hp):OA:=(Hp.new H [(.int .i64 aa),(.int .i64 af),(.sl aC)]).bind λH9=>(Hp.new H9 [(.int .i64 aj),(.int .i64 aJ),(.sl df)]).bind λH10=>(Hp.ldI H10 .i64 H.length 1).bind λn11=>dz.l29 F ak iy cI F nM nN H.length 0 H9.length 0 0 0 n11 0 H10
def dz.tw (F:Nat) (aa:Int) (af:Int) (aC:Sl) (aj:Int) (aJ:Int) (df:Sl) (nM:Int) (nN:Int) (H:Hp):OA:=dz.twX F (bI.tw F) (fB.tw F) (d_.tw F) aa af aC aj aJ df nM nN H
def dz.lh29 (F:Nat) (ak:Int->Int->Sl->Int->Int->Hp->OA) (iy:Int->Int->Int->Hp->OA) (cI:Int->Hp->OA) (ks:List Nat) (n:Nat) (tm:Tm) (H:Hp):OA:=match ks,tm 2,tm 3,tm 4,tm 5,tm 10,tm 11,tm 16,tm 17 with
 | [],(.int .i64 mi),(.int .i64 fA),(.ptr gB oF),(.ptr mM oG),(.int .i64 mj),(.int .i64 ml),(.int .i64 mm),(.int .i64 kv)=>dz.l29 F ak iy cI n mi fA gB oF mM oG mj ml mm kv H
 | _,_,_,_,_,_,_,_,_=>none
theorem dz.lh29_inv {F:Nat} {ak:Int->Int->Sl->Int->Int->Hp->OA} {iy:Int->Int->Int->Hp->OA} {cI:Int->Hp->OA} {ks:List Nat} {n:Nat} {tm:Tm} {H:Hp} {r:AV×Hp} (h:dz.lh29 F ak iy cI ks n tm H=some r):∃ mi fA gB oF mM oG mj ml mm kv,ks=[]/\eG tm [(2,(.int .i64 mi)),(3,(.int .i64 fA)),(4,(.ptr gB oF)),(5,(.ptr mM oG)),(10,(.int .i64 mj)),(11,(.int .i64 ml)),(16,(.int .i64 mm)),(17,(.int .i64 kv))]/\dz.l29 F ak iy cI n mi fA gB oF mM oG mj ml mm kv H=some r:=by
 unfold dz.lh29 at h
 split at h
 ·exact ⟨_,_,_,_,_,_,_,_,_,_,rfl,⟨‹_›,‹_›,‹_›,‹_›,‹_›,‹_›,‹_›,‹_›,trivial⟩,h⟩
 ·cases h
def dz.lh (F:Nat) (ak:Int->Int->Sl->Int->Int->Hp->OA) (iy:Int->Int->Int->Hp->OA) (cI:Int->Hp->OA) (p:Nat) (ks:List Nat) (n:Nat) (tm:Tm) (H:Hp):OA:=bif p.beq 29 then dz.lh29 F ak iy cI ks n tm H else (none)
def dz.pn:Nat->List Nat:=fp [(5,[12])]
def dz.tb:Nat->List (List Nat):=fp [(5,[[],[],[],[0,1,2],[0,1,2,3],[0,1,2,3,4],[],[],[],[0,1,2,3,6,7,8],[0,1,2,3,6,7,8,9],[0,1,2,3,6,7,8,9,10],[0,1,2,3,4,5,6,7,8,9,10,11],[0,1,2,3,4,5,6,7,8,9,10,11,12],[0,1,2,3,4,5,6,7,8,9,10,11,12,13],[0,1,2,3,4,5,6,7,8,9,10,11,12,13],[0,1,2,3,4,5,6,7,8,9,10,11,12,13,14],[0,1,2,3,4,5,6,7,8,9,10,11,12,13,14,15,16]])]
def dz.mk (g:Int->Int->Sl->Int->Int->Sl->Int->Int->Hp->OA) (args:List AV) (H:Hp):OA:=match args with
 | [(.agg [(.int .i64 aa),(.int .i64 af),(.sl aC)]),(.agg [(.int .i64 aj),(.int .i64 aJ),(.sl df)]),(.int .i64 nM),(.int .i64 nN)]=>g aa af aC aj aJ df nM nN H
 | _=>none
def dz.cs (F:Nat) (ak:Int->Int->Sl->Int->Int->Hp->OA) (iy:Int->Int->Int->Hp->OA) (cI:Int->Hp->OA):Cs:=[(95,bI.mk ak),(138,fB.mk iy),(102,d_.mk cI)]
theorem dz.loops (F:Nat) (ak:Int->Int->Sl->Int->Int->Hp->OA) (iy:Int->Int->Int->Hp->OA) (cI:Int->Hp->OA):LO (bF (dz.cs F ak iy cI)) dz.pn (dz.lh F ak iy cI) F Try.f111:=
 (ah.rt (ah.rt (ah.lt (ah.rt (ah.block (ah.loop (λtm H=>eP λr h=>by obtain ⟨mi,fA,gB,oF,mM,oG,mj,ml,mm,kv,hks,e,h⟩:=dz.lh29_inv (show dz.lh29 F ak iy cI [] 0 tm H=some r from h);cases h) (λk29 tm H r h=>by obtain ⟨mi,fA,gB,oF,mM,oG,mj,ml,mm,kv,hks,e,h⟩:=dz.lh29_inv (show dz.lh29 F ak iy cI [] (k29+1) tm H=some r from h);rw [<- eM e];exact Eq.trans (by kernel_rfl) h) λk29=>ah.no))))))
theorem dz.eqX (F:Nat) (ak:Int->Int->Sl->Int->Int->Hp->OA) (iy:Int->Int->Int->Hp->OA) (cI:Int->Hp->OA) (aa:Int) (af:Int) (aC:Sl) (aj:Int) (aJ:Int) (df:Sl) (nM:Int) (nN:Int) (H:Hp):EX (bF (dz.cs F ak iy cI)) dz.pn (dz.lh F ak iy cI) F Try.f111 [(.agg [(.int .i64 aa),(.int .i64 af),(.sl aC)]),(.agg [(.int .i64 aj),(.int .i64 aJ),(.sl df)]),(.int .i64 nM),(.int .i64 nN)] H=dz.twX F ak iy cI aa af aC aj aJ df nM nN H:=by kernel_rfl
theorem dz.k (F:Nat):Ok Try.prog 111 (dz.mk (dz.tw F)):=by
 intro args H v H' h
 unfold dz.mk at h
 split at h
 ·exact okT (TB:=dz.tb) Try.func111 (bG (bI.k F) (bG (fB.k F) (bG (d_.k F) cK))) (dz.loops F (bI.tw F) (fB.tw F) (d_.tw F)) ((dz.eqX F (bI.tw F) (fB.tw F) (d_.tw F) _ _ _ _ _ _ _ _ H).trans h) (by kernel_rfl)
 ·cases h
def bJ.j3 (F:Nat) (gd:Int->Int->Sl->Hp->OA) (ed:Int->Int->Hp->OA) (gl:Int->Int->Sl->Int->Int->Sl->Int->Int->Hp->OA) (ak:Int->Int->Sl->Int->Int->Hp->OA) (C61_:Nat->Nat->Nat->Nat->Nat->Nat->Nat->Nat->Int->Int->Hp->OA) (xT:Nat) (NW:Nat) (xU:Nat) (NX:Nat) (xV:Nat) (NY:Nat) (xW:Nat) (NZ:Nat) (tQ:Int) (tR:Int) (H305:Hp):OA:=C61_ xT NW xU NX xV NY xW NZ tQ (IntKind.i64.wrap (tR+1)) H305
def bJ.j4 (F:Nat) (gd:Int->Int->Sl->Hp->OA) (ed:Int->Int->Hp->OA) (gl:Int->Int->Sl->Int->Int->Sl->Int->Int->Hp->OA) (ak:Int->Int->Sl->Int->Int->Hp->OA) (C61_:Nat->Nat->Nat->Nat->Nat->Nat->Nat->Nat->Int->Int->Hp->OA) (xX:Nat) (N_:Nat) (xY:Nat) (Oa:Nat) (xZ:Nat) (Ob:Nat) (x_:Nat) (Oc:Nat) (tS:Int) (tT:Int) (H280:Hp):OA:=bJ.j3 F gd ed gl ak C61_ xX N_ xY Oa xZ Ob x_ Oc tS tT H280
def bJ.l3931 (F:Nat) (gd:Int->Int->Sl->Hp->OA) (ed:Int->Int->Hp->OA) (gl:Int->Int->Sl->Int->Int->Sl->Int->Int->Hp->OA) (ak:Int->Int->Sl->Int->Int->Hp->OA) (C61_:Nat->Nat->Nat->Nat->Nat->Nat->Nat->Nat->Int->Int->Hp->OA):Nat->Nat->Nat->Nat->Nat->Nat->Nat->Nat->Nat->Int->Int->Int->Int->Int->Hp->OA
 | 0,_,_,_,_,_,_,_,_,_,_,_,_,_,_=>none
 | Od+1,mn,om,mo,oq,kV,mN,mp,ou,mq,mr,lz,ms,kw,H231=>(bif (decide (kw<ms)) then ((Hp.ldI H231 .i64 mn om).bind λn306=>(Hp.ldI H231 .i64 mn (om+1)).bind λn307=>(Hp.ldSl H231 mn (om+2)).bind λs308=>(Hp.ldI H231 .i64 mo oq).bind λn309=>(Hp.ldI H231 .i64 mo (oq+1)).bind λn310=>(Hp.ldSl H231 mo (oq+2)).bind λs311=>(gl n306 n307 s308 n309 n310 s311 lz kw H231).bind λr312=>((r312.1).asTup 2).bind λl313=>(l313[0]?).bind λv314=>((v314).asI .i64).bind λn315=>(l313[1]?).bind λv316=>((v316).asB).bind λb317=>(bif (!b317) then ((Hp.st r312.2 kV mN (.int .i64 0)).bind λH318=>(Hp.st H318 kV (mN+1) (.int .i64 0)).bind λH319=>(Hp.st H319 kV (mN+1+1) (.sl (⟨none,0,.ex 0⟩:Sl))).bind λH320=>(Hp.ldI H320 .i64 kV mN).bind λn321=>(Hp.ldI H320 .i64 kV (mN+1)).bind λn322=>(Hp.ldSl H320 kV (mN+2)).bind λs323=>some ((.tup [(.agg [(.int .i64 n321),(.int .i64 n322),(.sl s323)]),(.int .i64 3)]),H320)) else ((Hp.ldI r312.2 .i64 mp ou).bind λn324=>(Hp.ldI r312.2 .i64 mp (ou+1)).bind λn325=>(Hp.ldSl r312.2 mp (ou+2)).bind λs326=>(ak n324 n325 s326 lz kw r312.2).bind λr327=>((r327.1).asP).bind λp328=>(Hp.st r327.2 p328.1 p328.2 (.int .i64 n315)).bind λH329=>bJ.l3931 F gd ed gl ak C61_ Od mn om mo oq kV mN mp ou mq mr lz ms (IntKind.i64.wrap (kw+1)) H329))) else (bJ.j4 F gd ed gl ak C61_ mn om mo oq kV mN mp ou mq mr H231))
termination_by structural n=>n
def bJ.l61 (F:Nat) (gd:Int->Int->Sl->Hp->OA) (ed:Int->Int->Hp->OA) (gl:Int->Int->Sl->Int->Int->Sl->Int->Int->Hp->OA) (ak:Int->Int->Sl->Int->Int->Hp->OA) :Nat->Nat->Nat->Nat->Nat->Nat->Nat->Nat->Nat->Int->Int->Hp->OA
 | 0,_,_,_,_,_,_,_,_,_,_,_=>none
 | md+1,ov,qs,nO,pF,lA,nq,mO,oH,mu,lB,H74=>(bif (decide (lB<mu)) then ((Hp.ldI H74 .i64 nO (pF+1)).bind λn207=>bJ.l3931 F gd ed gl ak (bJ.l61 F gd ed gl ak md) F ov qs nO pF lA nq mO oH mu lB lB n207 0 H74) else ((Hp.ldI H74 .i64 mO oH).bind λn330=>(Hp.ldI H74 .i64 mO (oH+1)).bind λn331=>(Hp.ldSl H74 mO (oH+2)).bind λs332=>(Hp.st H74 lA nq (.int .i64 n330)).bind λH333=>(Hp.st H333 lA (nq+1) (.int .i64 n331)).bind λH334=>(Hp.st H334 lA (nq+1+1) (.sl s332)).bind λH335=>(Hp.ldI H335 .i64 lA nq).bind λn336=>(Hp.ldI H335 .i64 lA (nq+1)).bind λn337=>(Hp.ldSl H335 lA (nq+2)).bind λs338=>some ((.tup [(.agg [(.int .i64 n336),(.int .i64 n337),(.sl s338)]),(.int .i64 0)]),H335)))
termination_by structural n=>n
def bJ.twX (F:Nat) (gd:Int->Int->Sl->Hp->OA) (ed:Int->Int->Hp->OA) (gl:Int->Int->Sl->Int->Int->Sl->Int->Int->Hp->OA) (ak:Int->Int->Sl->Int->Int->Hp->OA) (aa:Int) (af:Int) (aC:Sl) (aj:Int) (aJ:Int) (df:Sl) (H:Hp):OA:=(Hp.new H [(.int .i64 aa),(.int .i64 af),(.sl aC)]).bind λH7=>(Hp.new H7 [(.int .i64 aj),(.int .i64 aJ),(.sl df)]).bind λH8=>(Hp.new H8 [.int .i64 0,.int .i64 0,.sl ⟨none,0,.ex 0⟩]).bind λH9=>(Hp.ldI H9 .i64 H.length 0).bind λn10=>(Hp.ldI H9 .i64 H.length (0+1)).bind λn11=>(Hp.ldSl H9 H.length (0+2)).bind λs12=>(gd n10 n11 s12 H9).bind λr13=>((r13.1).asB).bind λb14=>(bif (!b14) then ((Hp.st r13.2 H8.length 0 (.int .i64 0)).bind λH15=>(Hp.st H15 H8.length (0+1) (.int .i64 0)).bind λH16=>(Hp.st H16 H8.length (0+1+1) (.sl (⟨none,0,.ex 0⟩:Sl))).bind λH17=>(Hp.ldI H17 .i64 H8.length 0).bind λn18=>(Hp.ldI H17 .i64 H8.length (0+1)).bind λn19=>(Hp.ldSl H17 H8.length (0+2)).bind λs20=>some ((.tup [(.agg [(.int .i64 n18),(.int .i64 n19),(.sl s20)]),(.int .i64 1)]),H17)) else ((Hp.ldI r13.2 .i64 H7.length 0).bind λn21=>(Hp.ldI r13.2 .i64 H7.length (0+1)).bind λn22=>(Hp.ldSl r13.2 H7.length (0+2)).bind λs23=>(gd n21 n22 s23 r13.2).bind λr24=>((r24.1).asB).bind λb25=>(bif (!b25) then ((Hp.st r24.2 H8.length 0 (.int .i64 0)).bind λH26=>(Hp.st H26 H8.length (0+1) (.int .i64 0)).bind λH27=>(Hp.st H27 H8.length (0+1+1) (.sl (⟨none,0,.ex 0⟩:Sl))).bind λH28=>(Hp.ldI H28 .i64 H8.length 0).bind λn29=>(Hp.ldI H28 .i64 H8.length (0+1)).bind λn30=>(Hp.ldSl H28 H8.length (0+2)).bind λs31=>some ((.tup [(.agg [(.int .i64 n29),(.int .i64 n30),(.sl s31)]),(.int .i64 1)]),H28)) else ((Hp.ldI r24.2 .i64 H.length 1).bind λn32=>(Hp.ldI r24.2 .i64 H7.length 0).bind λn33=>(bif (n32 != n33) then ((Hp.st r24.2 H8.length 0 (.int .i64 0)).bind λH34=>(Hp.st H34 H8.length (0+1) (.int .i64 0)).bind λH35=>(Hp.st H35 H8.length (0+1+1) (.sl (⟨none,0,.ex 0⟩:Sl))).bind λH36=>(Hp.ldI H36 .i64 H8.length 0).bind λn37=>(Hp.ldI H36 .i64 H8.length (0+1)).bind λn38=>(Hp.ldSl H36 H8.length (0+2)).bind λs39=>some ((.tup [(.agg [(.int .i64 n37),(.int .i64 n38),(.sl s39)]),(.int .i64 2)]),H36)) else ((Hp.ldI r24.2 .i64 H.length 0).bind λn40=>(Hp.ldI r24.2 .i64 H7.length 1).bind λn41=>(ed n40 n41 r24.2).bind λr42=>((r42.1).asAgg 3).bind λl43=>(l43[0]?).bind λv44=>((v44).asI .i64).bind λn45=>(l43[1]?).bind λv46=>((v46).asI .i64).bind λn47=>(l43[2]?).bind λv48=>((v48).asSl).bind λs49=>(Hp.new r42.2 [.int .i64 0,.int .i64 0,.sl ⟨none,0,.ex 0⟩]).bind λH50=>(Hp.st H50 r42.2.length 0 (.int .i64 n45)).bind λH51=>(Hp.st H51 r42.2.length (0+1) (.int .i64 n47)).bind λH52=>(Hp.st H52 r42.2.length (0+1+1) (.sl s49)).bind λH53=>(Hp.ldI H53 .i64 H.length 0).bind λn54=>bJ.l61 F gd ed gl ak F H.length 0 H7.length 0 H8.length 0 r42.2.length 0 n54 0 H53))))))
def bJ.tw (F:Nat) (aa:Int) (af:Int) (aC:Sl) (aj:Int) (aJ:Int) (df:Sl) (H:Hp):OA:=bJ.twX F (gc.tw F) (fL.tw F) (dz.tw F) (bI.tw F) aa af aC aj aJ df H
def bJ.lh61 (F:Nat) (gd:Int->Int->Sl->Hp->OA) (ed:Int->Int->Hp->OA) (gl:Int->Int->Sl->Int->Int->Sl->Int->Int->Hp->OA) (ak:Int->Int->Sl->Int->Int->Hp->OA) (ks:List Nat) (n:Nat) (tm:Tm) (H:Hp):OA:=match ks,tm 2,tm 3,tm 4,tm 6,tm 34,tm 35 with
 | [],(.ptr ov qs),(.ptr nO pF),(.ptr lA nq),(.ptr mO oH),(.int .i64 mu),(.int .i64 lB)=>bJ.l61 F gd ed gl ak n ov qs nO pF lA nq mO oH mu lB H
 | _,_,_,_,_,_,_=>none
theorem bJ.lh61_inv {F:Nat} {gd:Int->Int->Sl->Hp->OA} {ed:Int->Int->Hp->OA} {gl:Int->Int->Sl->Int->Int->Sl->Int->Int->Hp->OA} {ak:Int->Int->Sl->Int->Int->Hp->OA} {ks:List Nat} {n:Nat} {tm:Tm} {H:Hp} {r:AV×Hp} (h:bJ.lh61 F gd ed gl ak ks n tm H=some r):∃ ov qs nO pF lA nq mO oH mu lB,ks=[]/\eG tm [(2,(.ptr ov qs)),(3,(.ptr nO pF)),(4,(.ptr lA nq)),(6,(.ptr mO oH)),(34,(.int .i64 mu)),(35,(.int .i64 lB))]/\bJ.l61 F gd ed gl ak n ov qs nO pF lA nq mO oH mu lB H=some r:=by
 unfold bJ.lh61 at h
 split at h
 ·exact ⟨_,_,_,_,_,_,_,_,_,_,rfl,⟨‹_›,‹_›,‹_›,‹_›,‹_›,‹_›,trivial⟩,h⟩
 ·cases h
def bJ.lh3931 (F:Nat) (gd:Int->Int->Sl->Hp->OA) (ed:Int->Int->Hp->OA) (gl:Int->Int->Sl->Int->Int->Sl->Int->Int->Hp->OA) (ak:Int->Int->Sl->Int->Int->Hp->OA) (ks:List Nat) (n:Nat) (tm:Tm) (H:Hp):OA:=match ks,tm 2,tm 3,tm 4,tm 6,tm 7,tm 34,tm 35,tm 39,tm 40 with
 | [md],(.ptr mn om),(.ptr mo oq),(.ptr kV mN),(.ptr mp ou),(.int .i64 lz),(.int .i64 mq),(.int .i64 mr),(.int .i64 ms),(.int .i64 kw)=>bJ.l3931 F gd ed gl ak (bJ.l61 F gd ed gl ak md) n mn om mo oq kV mN mp ou mq mr lz ms kw H
 | _,_,_,_,_,_,_,_,_,_=>none
theorem bJ.lh3931_inv {F:Nat} {gd:Int->Int->Sl->Hp->OA} {ed:Int->Int->Hp->OA} {gl:Int->Int->Sl->Int->Int->Sl->Int->Int->Hp->OA} {ak:Int->Int->Sl->Int->Int->Hp->OA} {ks:List Nat} {n:Nat} {tm:Tm} {H:Hp} {r:AV×Hp} (h:bJ.lh3931 F gd ed gl ak ks n tm H=some r):∃ md mn om mo oq kV mN mp ou lz mq mr ms kw,ks=[md]/\eG tm [(2,(.ptr mn om)),(3,(.ptr mo oq)),(4,(.ptr kV mN)),(6,(.ptr mp ou)),(7,(.int .i64 lz)),(34,(.int .i64 mq)),(35,(.int .i64 mr)),(39,(.int .i64 ms)),(40,(.int .i64 kw))]/\bJ.l3931 F gd ed gl ak (bJ.l61 F gd ed gl ak md) n mn om mo oq kV mN mp ou mq mr lz ms kw H=some r:=by
 unfold bJ.lh3931 at h
 split at h
 ·exact ⟨_,_,_,_,_,_,_,_,_,_,_,_,_,_,rfl,⟨‹_›,‹_›,‹_›,‹_›,‹_›,‹_›,‹_›,‹_›,‹_›,trivial⟩,h⟩
 ·cases h
def bJ.lh (F:Nat) (gd:Int->Int->Sl->Hp->OA) (ed:Int->Int->Hp->OA) (gl:Int->Int->Sl->Int->Int->Sl->Int->Int->Hp->OA) (ak:Int->Int->Sl->Int->Int->Hp->OA) (p:Nat) (ks:List Nat) (n:Nat) (tm:Tm) (H:Hp):OA:=bif p.beq 3931 then bJ.lh3931 F gd ed gl ak ks n tm H else (bif p.beq 61 then bJ.lh61 F gd ed gl ak ks n tm H else (none))
def bJ.mk (g:Int->Int->Sl->Int->Int->Sl->Hp->OA) (args:List AV) (H:Hp):OA:=match args with
 | [(.agg [(.int .i64 aa),(.int .i64 af),(.sl aC)]),(.agg [(.int .i64 aj),(.int .i64 aJ),(.sl df)])]=>g aa af aC aj aJ df H
 | _=>none
def bJ.cs (F:Nat) (gd:Int->Int->Sl->Hp->OA) (ed:Int->Int->Hp->OA) (gl:Int->Int->Sl->Int->Int->Sl->Int->Int->Hp->OA) (ak:Int->Int->Sl->Int->Int->Hp->OA):Cs:=[(61,gc.mk gd),(94,fL.mk ed),(111,dz.mk gl),(95,bI.mk ak)]
theorem bJ.loops (F:Nat) (gd:Int->Int->Sl->Hp->OA) (ed:Int->Int->Hp->OA) (gl:Int->Int->Sl->Int->Int->Sl->Int->Int->Hp->OA) (ak:Int->Int->Sl->Int->Int->Hp->OA):LO (bF (bJ.cs F gd ed gl ak)) bp (bJ.lh F gd ed gl ak) F Try.f65:=
 (ah.rt (ah.rt (ah.rt (ah.lt (ah.rt (ah.block (ah.loop (λtm H=>eP λr h=>by obtain ⟨ov,qs,nO,pF,lA,nq,mO,oH,mu,lB,hks,e,h⟩:=bJ.lh61_inv (show bJ.lh61 F gd ed gl ak [] 0 tm H=some r from h);cases h) (λk61 tm H r h=>by obtain ⟨ov,qs,nO,pF,lA,nq,mO,oH,mu,lB,hks,e,h⟩:=bJ.lh61_inv (show bJ.lh61 F gd ed gl ak [] (k61+1) tm H=some r from h);rw [<- eM e];exact Eq.trans (by kernel_rfl) h) λk61=>(ah.rt (ah.rt (ah.lt (ah.block (ah.rt (ah.rt (ah.block (ah.loop (λtm H=>eP λr h=>by obtain ⟨md,mn,om,mo,oq,kV,mN,mp,ou,lz,mq,mr,ms,kw,hks,e,h⟩:=bJ.lh3931_inv (show bJ.lh3931 F gd ed gl ak [k61] 0 tm H=some r from h);cases h) (λk3931 tm H r h=>by obtain ⟨md,mn,om,mo,oq,kV,mN,mp,ou,lz,mq,mr,ms,kw,hks,e,h⟩:=bJ.lh3931_inv (show bJ.lh3931 F gd ed gl ak [k61] (k3931+1) tm H=some r from h);cases hks;rw [<- eM e];exact Eq.trans (by kernel_rfl) h) λk3931=>ah.no)))))))))))))))
theorem bJ.eqX (F:Nat) (gd:Int->Int->Sl->Hp->OA) (ed:Int->Int->Hp->OA) (gl:Int->Int->Sl->Int->Int->Sl->Int->Int->Hp->OA) (ak:Int->Int->Sl->Int->Int->Hp->OA) (aa:Int) (af:Int) (aC:Sl) (aj:Int) (aJ:Int) (df:Sl) (H:Hp):EX (bF (bJ.cs F gd ed gl ak)) bp (bJ.lh F gd ed gl ak) F Try.f65 [(.agg [(.int .i64 aa),(.int .i64 af),(.sl aC)]),(.agg [(.int .i64 aj),(.int .i64 aJ),(.sl df)])] H=bJ.twX F gd ed gl ak aa af aC aj aJ df H:=by kernel_rfl
theorem bJ.k (F:Nat):Ok Try.prog 65 (bJ.mk (bJ.tw F)):=by
 intro args H v H' h
 unfold bJ.mk at h
 split at h
 ·exact okT (TB:=bp) Try.func65 (bG (gc.k F) (bG (fL.k F) (bG (dz.k F) (bG (bI.k F) cK)))) (bJ.loops F (gc.tw F) (fL.tw F) (dz.tw F) (bI.tw F)) ((bJ.eqX F (gc.tw F) (fL.tw F) (dz.tw F) (bI.tw F) _ _ _ _ _ _ H).trans h) (by kernel_rfl)
 ·cases h
def iN.twX (F:Nat) (aa:Int) (H:Hp):OA:=some ((.bool (aa != 0)),H)
def iN.tw (F:Nat) (aa:Int) (H:Hp):OA:=iN.twX F aa H
def iN.mk (g:Int->Hp->OA) (args:List AV) (H:Hp):OA:=match args with
 | [(.int .i64 aa)]=>g aa H
 | _=>none
theorem iN.eqX (F:Nat) (aa:Int) (H:Hp):EX (bF []) bp lh0 F Try.f82 [(.int .i64 aa)] H=iN.twX F aa H:=by kernel_rfl
theorem iN.k (F:Nat):Ok Try.prog 82 (iN.mk (iN.tw F)):=by
 intro args H v H' h
 unfold iN.mk at h
 split at h
 ·exact okT (TB:=bp) Try.func82 cK ah.no ((iN.eqX F _ H).trans h) (by kernel_rfl)
 ·cases h
def dU.l13 (F:Nat) (jR:Int->Hp->OA) :Nat->Sl->Int->Int->Hp->OA
 | 0,_,_,_,_=>none
 | iY+1,gb,dT,cP,H6=>(bif (decide (cP<dT)) then ((Sl.idx gb cP 1).bind λp11=>(Hp.ldI H6 .i64 p11.1 p11.2).bind λn12=>(jR n12 H6).bind λr13=>((r13.1).asB).bind λb14=>(bif b14 then (some ((.int .i64 cP),r13.2)) else (dU.l13 F jR iY gb dT (IntKind.i64.wrap (cP+1)) r13.2))) else (some ((.int .i64 (-1)),H6)))
termination_by structural n=>n
def dU.twX (F:Nat) (jR:Int->Hp->OA) (aa:Sl) (H:Hp):OA:=dU.l13 F jR F aa (aa.n:Int) 0 H
def dU.tw (F:Nat) (aa:Sl) (H:Hp):OA:=dU.twX F (iN.tw F) aa H
def dU.lh13 (F:Nat) (jR:Int->Hp->OA) (ks:List Nat) (n:Nat) (tm:Tm) (H:Hp):OA:=match ks,tm 0,tm 1,tm 7,tm 8 with
 | [],(.sl gb),(.fn 82 []),(.int .i64 dT),(.int .i64 cP)=>dU.l13 F jR n gb dT cP H
 | _,_,_,_,_=>none
theorem dU.lh13_inv {F:Nat} {jR:Int->Hp->OA} {ks:List Nat} {n:Nat} {tm:Tm} {H:Hp} {r:AV×Hp} (h:dU.lh13 F jR ks n tm H=some r):∃ gb dT cP,ks=[]/\eG tm [(0,(.sl gb)),(1,(.fn 82 [])),(7,(.int .i64 dT)),(8,(.int .i64 cP))]/\dU.l13 F jR n gb dT cP H=some r:=by
 unfold dU.lh13 at h
 split at h
 ·exact ⟨_,_,_,rfl,⟨‹_›,‹_›,‹_›,‹_›,trivial⟩,h⟩
 ·cases h
def dU.lh (F:Nat) (jR:Int->Hp->OA) (p:Nat) (ks:List Nat) (n:Nat) (tm:Tm) (H:Hp):OA:=bif p.beq 13 then dU.lh13 F jR ks n tm H else (none)
def dU.mk (g:Sl->Hp->OA) (args:List AV) (H:Hp):OA:=match args with
 | [(.sl aa),(.fn 82 [])]=>g aa H
 | _=>none
def dU.cs (F:Nat) (jR:Int->Hp->OA):Cs:=[(82,iN.mk jR)]
theorem dU.loops (F:Nat) (jR:Int->Hp->OA):LO (bF (dU.cs F jR)) bp (dU.lh F jR) F Try.f117:=
 (ah.rt (ah.lt (ah.rt (ah.block (ah.loop (λtm H=>eP λr h=>by obtain ⟨gb,dT,cP,hks,e,h⟩:=dU.lh13_inv (show dU.lh13 F jR [] 0 tm H=some r from h);cases h) (λk13 tm H r h=>by obtain ⟨gb,dT,cP,hks,e,h⟩:=dU.lh13_inv (show dU.lh13 F jR [] (k13+1) tm H=some r from h);rw [<- eM e];exact Eq.trans (by kernel_rfl) h) λk13=>ah.no)))))
theorem dU.eqX (F:Nat) (jR:Int->Hp->OA) (aa:Sl) (H:Hp):EX (bF (dU.cs F jR)) bp (dU.lh F jR) F Try.f117 [(.sl aa),(.fn 82 [])] H=dU.twX F jR aa H:=by kernel_rfl
theorem dU.k (F:Nat):Ok Try.prog 117 (dU.mk (dU.tw F)):=by
 intro args H v H' h
 unfold dU.mk at h
 split at h
 ·exact okT (TB:=bp) Try.func117 (bG (iN.k F) cK) (dU.loops F (iN.tw F)) ((dU.eqX F (iN.tw F) _ H).trans h) (by kernel_rfl)
 ·cases h
def iO.twX (F:Nat) (tU:Sl->Hp->OA) (aa:Sl) (H:Hp):OA:=(tU aa H).bind λr2=>((r2.1).asI .i64).bind λn3=>some ((.bool (decide (n3>=0))),r2.2)
def iO.tw (F:Nat) (aa:Sl) (H:Hp):OA:=iO.twX F (dU.tw F) aa H
def iO.mk (g:Sl->Hp->OA) (args:List AV) (H:Hp):OA:=match args with
 | [(.sl aa),(.fn 82 [])]=>g aa H
 | _=>none
def iO.cs (F:Nat) (tU:Sl->Hp->OA):Cs:=[(117,dU.mk tU)]
theorem iO.eqX (F:Nat) (tU:Sl->Hp->OA) (aa:Sl) (H:Hp):EX (bF (iO.cs F tU)) bp lh0 F Try.f81 [(.sl aa),(.fn 82 [])] H=iO.twX F tU aa H:=by kernel_rfl
theorem iO.k (F:Nat):Ok Try.prog 81 (iO.mk (iO.tw F)):=by
 intro args H v H' h
 unfold iO.mk at h
 split at h
 ·exact okT (TB:=bp) Try.func81 (bG (dU.k F) cK) ah.no ((iO.eqX F (dU.tw F) _ H).trans h) (by kernel_rfl)
 ·cases h
def dA.l29 (F:Nat) (ed:Int->Int->Hp->OA) (ak:Int->Int->Sl->Int->Int->Hp->OA) :Nat->Nat->Nat->Nat->Nat->Int->Int->Hp->OA
 | 0,_,_,_,_,_,_,_=>none
 | dI+1,dw,iu,gE,fA,mv,kx,H22=>(bif (decide (kx<mv)) then ((Hp.ldI H22 .i64 gE fA).bind λn38=>(Hp.ldI H22 .i64 gE (fA+1)).bind λn39=>(Hp.ldSl H22 gE (fA+2)).bind λs40=>(ak n38 n39 s40 kx kx H22).bind λr41=>((r41.1).asP).bind λp42=>(Hp.st r41.2 p42.1 p42.2 (.int .i64 1)).bind λH43=>dA.l29 F ed ak dI dw iu gE fA mv (IntKind.i64.wrap (kx+1)) H43) else ((Hp.ldI H22 .i64 gE fA).bind λn44=>(Hp.ldI H22 .i64 gE (fA+1)).bind λn45=>(Hp.ldSl H22 gE (fA+2)).bind λs46=>(Hp.st H22 dw iu (.int .i64 n44)).bind λH47=>(Hp.st H47 dw (iu+1) (.int .i64 n45)).bind λH48=>(Hp.st H48 dw (iu+1+1) (.sl s46)).bind λH49=>(Hp.ldI H49 .i64 dw iu).bind λn50=>(Hp.ldI H49 .i64 dw (iu+1)).bind λn51=>(Hp.ldSl H49 dw (iu+2)).bind λs52=>some ((.agg [(.int .i64 n50),(.int .i64 n51),(.sl s52)]),H49)))
termination_by structural n=>n
def dA.twX (F:Nat) (ed:Int->Int->Hp->OA) (ak:Int->Int->Sl->Int->Int->Hp->OA) (aa:Int) (H:Hp):OA:=(Hp.new H [.int .i64 0,.int .i64 0,.sl ⟨none,0,.ex 0⟩]).bind λH2=>(ed aa aa H2).bind λr3=>((r3.1).asAgg 3).bind λl4=>(l4[0]?).bind λv5=>((v5).asI .i64).bind λn6=>(l4[1]?).bind λv7=>((v7).asI .i64).bind λn8=>(l4[2]?).bind λv9=>((v9).asSl).bind λs10=>(Hp.new r3.2 [.int .i64 0,.int .i64 0,.sl ⟨none,0,.ex 0⟩]).bind λH11=>(Hp.st H11 r3.2.length 0 (.int .i64 n6)).bind λH12=>(Hp.st H12 r3.2.length (0+1) (.int .i64 n8)).bind λH13=>(Hp.st H13 r3.2.length (0+1+1) (.sl s10)).bind λH14=>dA.l29 F ed ak F H.length 0 r3.2.length 0 aa 0 H14
def dA.tw (F:Nat) (aa:Int) (H:Hp):OA:=dA.twX F (fL.tw F) (bI.tw F) aa H
def dA.lh29 (F:Nat) (ed:Int->Int->Hp->OA) (ak:Int->Int->Sl->Int->Int->Hp->OA) (ks:List Nat) (n:Nat) (tm:Tm) (H:Hp):OA:=match ks,tm 2,tm 3,tm 8,tm 9 with
 | [],(.ptr dw iu),(.ptr gE fA),(.int .i64 mv),(.int .i64 kx)=>dA.l29 F ed ak n dw iu gE fA mv kx H
 | _,_,_,_,_=>none
theorem dA.lh29_inv {F:Nat} {ed:Int->Int->Hp->OA} {ak:Int->Int->Sl->Int->Int->Hp->OA} {ks:List Nat} {n:Nat} {tm:Tm} {H:Hp} {r:AV×Hp} (h:dA.lh29 F ed ak ks n tm H=some r):∃ dw iu gE fA mv kx,ks=[]/\eG tm [(2,(.ptr dw iu)),(3,(.ptr gE fA)),(8,(.int .i64 mv)),(9,(.int .i64 kx))]/\dA.l29 F ed ak n dw iu gE fA mv kx H=some r:=by
 unfold dA.lh29 at h
 split at h
 ·exact ⟨_,_,_,_,_,_,rfl,⟨‹_›,‹_›,‹_›,‹_›,trivial⟩,h⟩
 ·cases h
def dA.lh (F:Nat) (ed:Int->Int->Hp->OA) (ak:Int->Int->Sl->Int->Int->Hp->OA) (p:Nat) (ks:List Nat) (n:Nat) (tm:Tm) (H:Hp):OA:=bif p.beq 29 then dA.lh29 F ed ak ks n tm H else (none)
def dA.mk (g:Int->Hp->OA) (args:List AV) (H:Hp):OA:=match args with
 | [(.int .i64 aa)]=>g aa H
 | _=>none
def dA.cs (F:Nat) (ed:Int->Int->Hp->OA) (ak:Int->Int->Sl->Int->Int->Hp->OA):Cs:=[(94,fL.mk ed),(95,bI.mk ak)]
theorem dA.loops (F:Nat) (ed:Int->Int->Hp->OA) (ak:Int->Int->Sl->Int->Int->Hp->OA):LO (bF (dA.cs F ed ak)) bp (dA.lh F ed ak) F Try.f110:=
 (ah.rt (ah.rt (ah.lt (ah.rt (ah.block (ah.loop (λtm H=>eP λr h=>by obtain ⟨dw,iu,gE,fA,mv,kx,hks,e,h⟩:=dA.lh29_inv (show dA.lh29 F ed ak [] 0 tm H=some r from h);cases h) (λk29 tm H r h=>by obtain ⟨dw,iu,gE,fA,mv,kx,hks,e,h⟩:=dA.lh29_inv (show dA.lh29 F ed ak [] (k29+1) tm H=some r from h);rw [<- eM e];exact Eq.trans (by kernel_rfl) h) λk29=>ah.no))))))
theorem dA.eqX (F:Nat) (ed:Int->Int->Hp->OA) (ak:Int->Int->Sl->Int->Int->Hp->OA) (aa:Int) (H:Hp):EX (bF (dA.cs F ed ak)) bp (dA.lh F ed ak) F Try.f110 [(.int .i64 aa)] H=dA.twX F ed ak aa H:=by kernel_rfl
theorem dA.k (F:Nat):Ok Try.prog 110 (dA.mk (dA.tw F)):=by
 intro args H v H' h
 unfold dA.mk at h
 split at h
 ·exact okT (TB:=bp) Try.func110 (bG (fL.k F) (bG (bI.k F) cK)) (dA.loops F (fL.tw F) (bI.tw F)) ((dA.eqX F (fL.tw F) (bI.tw F) _ H).trans h) (by kernel_rfl)
 ·cases h
def jg.twX (F:Nat) (aa:Sl) (H:Hp):OA:=(bif (aa.a.isNone) then (some ((.sl (⟨none,0,.ex 0⟩:Sl)),H)) else ((Hp.new H []).bind λH2=>(Sl.row H2 aa 1).bind λxs4=>(Hp.app H2 1 8 (⟨some (H.length,0),0,.ex 0⟩:Sl) aa.n xs4).bind λa3=>some ((.sl a3.1),a3.2)))
def jg.tw (F:Nat) (aa:Sl) (H:Hp):OA:=jg.twX F aa H
def jg.mk (g:Sl->Hp->OA) (args:List AV) (H:Hp):OA:=match args with
 | [(.sl aa)]=>g aa H
 | _=>none
theorem jg.eqX (F:Nat) (aa:Sl) (H:Hp):EX (bF []) bp lh0 F Try.f149 [(.sl aa)] H=jg.twX F aa H:=by kernel_rfl
theorem jg.k (F:Nat):Ok Try.prog 149 (jg.mk (jg.tw F)):=by
 intro args H v H' h
 unfold jg.mk at h
 split at h
 ·exact okT (TB:=bp) Try.func149 cK ah.no ((jg.eqX F _ H).trans h) (by kernel_rfl)
 ·cases h
def iz.twX (F:Nat) (tV:Sl->Hp->OA) (aa:Int) (af:Int) (aC:Sl) (H:Hp):OA:=(Hp.new H [(.int .i64 aa),(.int .i64 af),(.sl aC)]).bind λH4=>(Hp.new H4 [.int .i64 0,.int .i64 0,.sl ⟨none,0,.ex 0⟩]).bind λH5=>(Hp.ldSl H5 H.length 2).bind λs6=>(tV s6 H5).bind λr7=>((r7.1).asSl).bind λs8=>(Hp.st r7.2 H.length 2 (.sl s8)).bind λH9=>(Hp.ldI H9 .i64 H.length 0).bind λn10=>(Hp.ldI H9 .i64 H.length (0+1)).bind λn11=>(Hp.ldSl H9 H.length (0+2)).bind λs12=>(Hp.st H9 H4.length 0 (.int .i64 n10)).bind λH13=>(Hp.st H13 H4.length (0+1) (.int .i64 n11)).bind λH14=>(Hp.st H14 H4.length (0+1+1) (.sl s12)).bind λH15=>(Hp.ldI H15 .i64 H4.length 0).bind λn16=>(Hp.ldI H15 .i64 H4.length (0+1)).bind λn17=>(Hp.ldSl H15 H4.length (0+2)).bind λs18=>some ((.agg [(.int .i64 n16),(.int .i64 n17),(.sl s18)]),H15)
def iz.tw (F:Nat) (aa:Int) (af:Int) (aC:Sl) (H:Hp):OA:=iz.twX F (jg.tw F) aa af aC H
def iz.mk (g:Int->Int->Sl->Hp->OA) (args:List AV) (H:Hp):OA:=match args with
 | [(.agg [(.int .i64 aa),(.int .i64 af),(.sl aC)])]=>g aa af aC H
 | _=>none
def iz.cs (F:Nat) (tV:Sl->Hp->OA):Cs:=[(149,jg.mk tV)]
theorem iz.eqX (F:Nat) (tV:Sl->Hp->OA) (aa:Int) (af:Int) (aC:Sl) (H:Hp):EX (bF (iz.cs F tV)) bp lh0 F Try.f132 [(.agg [(.int .i64 aa),(.int .i64 af),(.sl aC)])] H=iz.twX F tV aa af aC H:=by kernel_rfl
theorem iz.k (F:Nat):Ok Try.prog 132 (iz.mk (iz.tw F)):=by
 intro args H v H' h
 unfold iz.mk at h
 split at h
 ·exact okT (TB:=bp) Try.func132 (bG (jg.k F) cK) ah.no ((iz.eqX F (jg.tw F) _ _ _ H).trans h) (by kernel_rfl)
 ·cases h
def jw.twX (F:Nat) (pG:Int->Hp->OA) (tW:Int->Int->Sl->Hp->OA) (aa:Int) (af:Int) (aC:Sl) (H:Hp):OA:=(Hp.new H [(.int .i64 aa),(.int .i64 af),(.sl aC)]).bind λH4=>(Hp.ldI H4 .i64 H.length 0).bind λn5=>(pG n5 H4).bind λr6=>((r6.1).asAgg 3).bind λl7=>(l7[0]?).bind λv8=>((v8).asI .i64).bind λn9=>(l7[1]?).bind λv10=>((v10).asI .i64).bind λn11=>(l7[2]?).bind λv12=>((v12).asSl).bind λs13=>(if bt H4 r6.2 then ((Hp.ldI r6.2 .i64 H.length 0).bind λn14=>(pG n14 r6.2).bind λr15=>((r15.1).asAgg 3).bind λl16=>(l16[0]?).bind λv17=>((v17).asI .i64).bind λn18=>(l16[1]?).bind λv19=>((v19).asI .i64).bind λn20=>(l16[2]?).bind λv21=>((v21).asSl).bind λs22=>(if bt r6.2 r15.2 then ((Hp.ldI r15.2 .i64 H.length 0).bind λn23=>(Hp.ldI r15.2 .i64 H.length (0+1)).bind λn24=>(Hp.ldSl r15.2 H.length (0+2)).bind λs25=>(tW n23 n24 s25 r15.2).bind λr26=>((r26.1).asAgg 3).bind λl27=>(l27[0]?).bind λv28=>((v28).asI .i64).bind λn29=>(l27[1]?).bind λv30=>((v30).asI .i64).bind λn31=>(l27[2]?).bind λv32=>((v32).asSl).bind λs33=>(if bt r15.2 r26.2 then ((Hp.ldI r26.2 .i64 H.length 1).bind λn34=>(pG n34 r26.2).bind λr35=>((r35.1).asAgg 3).bind λl36=>(l36[0]?).bind λv37=>((v37).asI .i64).bind λn38=>(l36[1]?).bind λv39=>((v39).asI .i64).bind λn40=>(l36[2]?).bind λv41=>((v41).asSl).bind λs42=>(if bt r26.2 r35.2 then ((Hp.ldI r35.2 .i64 H.length 1).bind λn43=>(pG n43 r35.2).bind λr44=>((r44.1).asAgg 3).bind λl45=>(l45[0]?).bind λv46=>((v46).asI .i64).bind λn47=>(l45[1]?).bind λv48=>((v48).asI .i64).bind λn49=>(l45[2]?).bind λv50=>((v50).asSl).bind λs51=>(Hp.new r44.2 [(.int .i64 n9),(.int .i64 n11),(.sl s13),(.int .i64 n18),(.int .i64 n20),(.sl s22),(.int .i64 n29),(.int .i64 n31),(.sl s33),(.int .i64 n38),(.int .i64 n40),(.sl s42),(.int .i64 n47),(.int .i64 n49),(.sl s51),(.bool false)]).bind λH52=>some ((.ptr r44.2.length 0),H52)) else none)) else none)) else none)) else none)
def jw.tw (F:Nat) (aa:Int) (af:Int) (aC:Sl) (H:Hp):OA:=jw.twX F (dA.tw F) (iz.tw F) aa af aC H
def jw.pn:Nat->List Nat:=fp [(1,[13])]
def jw.tb:Nat->List (List Nat):=fp [(1,[[],[0],[0,1],[],[3],[0,1,2,3,4],[],[0,1,2,3,4,5,6],[],[8],[0,1,2,3,4,5,6,7,8,9],[],[11],[0,1,2,3,4,5,6,7,8,9,10,11,12],[0,1,2,3,4,5,6,7,8,9,10,11,12,13],[0,1,2,3,4,5,6,7,8,9,10,11,12,13,14],[0,1,2,3,4,5,6,7,8,9,10,11,12,13,14,15],[0,1,2,3,4,5,6,7,8,9,10,11,12,13,14,15,16]])]
def jw.mk (g:Int->Int->Sl->Hp->OA) (args:List AV) (H:Hp):OA:=match args with
 | [(.agg [(.int .i64 aa),(.int .i64 af),(.sl aC)])]=>g aa af aC H
 | _=>none
def jw.cs (F:Nat) (pG:Int->Hp->OA) (tW:Int->Int->Sl->Hp->OA):Cs:=[(110,dA.mk pG),(132,iz.mk tW)]
theorem jw.eqX (F:Nat) (pG:Int->Hp->OA) (tW:Int->Int->Sl->Hp->OA) (aa:Int) (af:Int) (aC:Sl) (H:Hp):EX (bF (jw.cs F pG tW)) jw.pn lh0 F Try.f108 [(.agg [(.int .i64 aa),(.int .i64 af),(.sl aC)])] H=jw.twX F pG tW aa af aC H:=by kernel_rfl
theorem jw.k (F:Nat):Ok Try.prog 108 (jw.mk (jw.tw F)):=by
 intro args H v H' h
 unfold jw.mk at h
 split at h
 ·exact okT (TB:=jw.tb) Try.func108 (bG (dA.k F) (bG (iz.k F) cK)) ah.no ((jw.eqX F (dA.tw F) (iz.tw F) _ _ _ H).trans h) (by kernel_rfl)
 ·cases h
def aZ.j5 (F:Nat) (ak:Int->Int->Sl->Int->Int->Hp->OA) (cI:Int->Hp->OA) (tX:Int) (tY:Int) (tZ:Bool) (H134:Hp):OA:=some ((.tup [(.int .i64 tX),(.int .i64 tY),(.bool tZ)]),H134)
def aZ.j7 (F:Nat) (ak:Int->Int->Sl->Int->Int->Hp->OA) (cI:Int->Hp->OA) (C29_:Int->Int->Int->Bool->Nat->Nat->Int->Hp->OA) (t_:Int) (ua:Int) (ub:Int) (uc:Bool) (ya:Nat) (Oe:Nat) (ud:Int) (H205:Hp):OA:=C29_ t_ ua ub uc ya Oe (IntKind.i64.wrap (ud+1)) H205
def aZ.j8 (F:Nat) (ak:Int->Int->Sl->Int->Int->Hp->OA) (cI:Int->Hp->OA) (C29_:Int->Int->Int->Bool->Nat->Nat->Int->Hp->OA) (ue:Int) (uf:Int) (ug:Int) (uh:Bool) (yb:Nat) (Of:Nat) (ui:Int) (H192:Hp):OA:=aZ.j7 F ak cI C29_ ue uf ug uh yb Of ui H192
def aZ.j9 (F:Nat) (ak:Int->Int->Sl->Int->Int->Hp->OA) (cI:Int->Hp->OA) (C469_:Int->Int->Int->Bool->Nat->Nat->Int->Int->Hp->OA) (uj:Int) (uk:Int) (ul:Int) (um:Bool) (yc:Nat) (Og:Nat) (un:Int) (uo:Int) (H237:Hp):OA:=C469_ uj uk ul um yc Og un (IntKind.i64.wrap (uo+1)) H237
def aZ.l469 (F:Nat) (ak:Int->Int->Sl->Int->Int->Hp->OA) (cI:Int->Hp->OA) (C29_:Int->Int->Int->Bool->Nat->Nat->Int->Hp->OA):Nat->Int->Int->Int->Bool->Nat->Nat->Int->Int->Hp->OA
 | 0,_,_,_,_,_,_,_,_,_=>none
 | lr+1,jS,ky,kz,kA,jx,kW,iR,iS,H147=>(Hp.ldI H147 .i64 jx (kW+1)).bind λn206=>(bif (decide (iS<n206)) then ((Hp.ldI H147 .i64 jx kW).bind λn207=>(Hp.ldI H147 .i64 jx (kW+1)).bind λn208=>(Hp.ldSl H147 jx (kW+2)).bind λs209=>(ak n207 n208 s209 iR iS H147).bind λr210=>((r210.1).asP).bind λp211=>(Hp.ldI r210.2 .i64 p211.1 p211.2).bind λn212=>(cI n212 r210.2).bind λr213=>((r213.1).asI .i64).bind λn214=>(bif (n214 != 0) then ((bif (!kA) then (aZ.l469 F ak cI C29_ lr jS iR iS true jx kW iR (IntKind.i64.wrap (iS+1)) r213.2) else ((Hp.ldI r213.2 .i64 jx kW).bind λn215=>(Hp.ldI r213.2 .i64 jx (kW+1)).bind λn216=>(Hp.ldSl r213.2 jx (kW+2)).bind λs217=>(ak n215 n216 s217 ky kz r213.2).bind λr218=>((r218.1).asP).bind λp219=>(Hp.ldI r218.2 .i64 p219.1 p219.2).bind λn220=>(cI n220 r218.2).bind λr221=>((r221.1).asI .i64).bind λn222=>(bif (decide (n214<n222)) then (aZ.j9 F ak cI (aZ.l469 F ak cI C29_ lr) jS iR iS true jx kW iR iS r221.2) else (aZ.j9 F ak cI (aZ.l469 F ak cI C29_ lr) jS ky kz kA jx kW iR iS r221.2))))) else (aZ.l469 F ak cI C29_ lr jS ky kz kA jx kW iR (IntKind.i64.wrap (iS+1)) r213.2))) else (aZ.j8 F ak cI C29_ jS ky kz kA jx kW iR H147))
termination_by structural n=>n
def aZ.l29 (F:Nat) (ak:Int->Int->Sl->Int->Int->Hp->OA) (cI:Int->Hp->OA) :Nat->Int->Int->Int->Bool->Nat->Nat->Int->Hp->OA
 | 0,_,_,_,_,_,_,_,_=>none
 | dI+1,dX,gm,gP,mw,nP,pH,mz,H20=>(Hp.ldI H20 .i64 nP pH).bind λn135=>(bif (decide (mz<n135)) then (aZ.l469 F ak cI (aZ.l29 F ak cI dI) F dX gm gP mw nP pH mz dX H20) else (aZ.j5 F ak cI gm gP mw H20))
termination_by structural n=>n
def aZ.twX (F:Nat) (ak:Int->Int->Sl->Int->Int->Hp->OA) (cI:Int->Hp->OA) (aa:Nat) (af:Nat) (ai:Int) (H:Hp):OA:=(Hp.ldI H .i64 aa (af+6)).bind λn4=>(Hp.ldI H .i64 aa ((af+6)+1)).bind λn5=>(Hp.ldSl H aa ((af+6)+2)).bind λs6=>(Hp.new H [.int .i64 0,.int .i64 0,.sl ⟨none,0,.ex 0⟩]).bind λH7=>(Hp.st H7 H.length 0 (.int .i64 n4)).bind λH8=>(Hp.st H8 H.length (0+1) (.int .i64 n5)).bind λH9=>(Hp.st H9 H.length (0+1+1) (.sl s6)).bind λH10=>aZ.l29 F ak cI F ai 0 0 false H.length 0 ai H10
def aZ.tw (F:Nat) (aa:Nat) (af:Nat) (ai:Int) (H:Hp):OA:=aZ.twX F (bI.tw F) (d_.tw F) aa af ai H
def aZ.lh29 (F:Nat) (ak:Int->Int->Sl->Int->Int->Hp->OA) (cI:Int->Hp->OA) (ks:List Nat) (n:Nat) (tm:Tm) (H:Hp):OA:=match ks,tm 1,tm 4,tm 5,tm 6,tm 7,tm 8 with
 | [],(.int .i64 dX),(.int .i64 gm),(.int .i64 gP),(.bool mw),(.ptr nP pH),(.int .i64 mz)=>aZ.l29 F ak cI n dX gm gP mw nP pH mz H
 | _,_,_,_,_,_,_=>none
theorem aZ.lh29_inv {F:Nat} {ak:Int->Int->Sl->Int->Int->Hp->OA} {cI:Int->Hp->OA} {ks:List Nat} {n:Nat} {tm:Tm} {H:Hp} {r:AV×Hp} (h:aZ.lh29 F ak cI ks n tm H=some r):∃ dX gm gP mw nP pH mz,ks=[]/\eG tm [(1,(.int .i64 dX)),(4,(.int .i64 gm)),(5,(.int .i64 gP)),(6,(.bool mw)),(7,(.ptr nP pH)),(8,(.int .i64 mz))]/\aZ.l29 F ak cI n dX gm gP mw nP pH mz H=some r:=by
 unfold aZ.lh29 at h
 split at h
 ·exact ⟨_,_,_,_,_,_,_,rfl,⟨‹_›,‹_›,‹_›,‹_›,‹_›,‹_›,trivial⟩,h⟩
 ·cases h
def aZ.lh469 (F:Nat) (ak:Int->Int->Sl->Int->Int->Hp->OA) (cI:Int->Hp->OA) (ks:List Nat) (n:Nat) (tm:Tm) (H:Hp):OA:=match ks,tm 1,tm 4,tm 5,tm 6,tm 7,tm 8,tm 9 with
 | [dI],(.int .i64 jS),(.int .i64 ky),(.int .i64 kz),(.bool kA),(.ptr jx kW),(.int .i64 iR),(.int .i64 iS)=>aZ.l469 F ak cI (aZ.l29 F ak cI dI) n jS ky kz kA jx kW iR iS H
 | _,_,_,_,_,_,_,_=>none
theorem aZ.lh469_inv {F:Nat} {ak:Int->Int->Sl->Int->Int->Hp->OA} {cI:Int->Hp->OA} {ks:List Nat} {n:Nat} {tm:Tm} {H:Hp} {r:AV×Hp} (h:aZ.lh469 F ak cI ks n tm H=some r):∃ dI jS ky kz kA jx kW iR iS,ks=[dI]/\eG tm [(1,(.int .i64 jS)),(4,(.int .i64 ky)),(5,(.int .i64 kz)),(6,(.bool kA)),(7,(.ptr jx kW)),(8,(.int .i64 iR)),(9,(.int .i64 iS))]/\aZ.l469 F ak cI (aZ.l29 F ak cI dI) n jS ky kz kA jx kW iR iS H=some r:=by
 unfold aZ.lh469 at h
 split at h
 ·exact ⟨_,_,_,_,_,_,_,_,_,rfl,⟨‹_›,‹_›,‹_›,‹_›,‹_›,‹_›,‹_›,trivial⟩,h⟩
 ·cases h
def aZ.lh (F:Nat) (ak:Int->Int->Sl->Int->Int->Hp->OA) (cI:Int->Hp->OA) (p:Nat) (ks:List Nat) (n:Nat) (tm:Tm) (H:Hp):OA:=bif p.beq 469 then aZ.lh469 F ak cI ks n tm H else (bif p.beq 29 then aZ.lh29 F ak cI ks n tm H else (none))
def aZ.mk (g:Nat->Nat->Int->Hp->OA) (args:List AV) (H:Hp):OA:=match args with
 | [(.ptr aa af),(.int .i64 ai)]=>g aa af ai H
 | _=>none
def aZ.cs (F:Nat) (ak:Int->Int->Sl->Int->Int->Hp->OA) (cI:Int->Hp->OA):Cs:=[(95,bI.mk ak),(102,d_.mk cI)]
theorem aZ.loops (F:Nat) (ak:Int->Int->Sl->Int->Int->Hp->OA) (cI:Int->Hp->OA):LO (bF (aZ.cs F ak cI)) bp (aZ.lh F ak cI) F Try.f150:=
 (ah.rt (ah.rt (ah.lt (ah.rt (ah.block (ah.loop (λtm H=>eP λr h=>by obtain ⟨dX,gm,gP,mw,nP,pH,mz,hks,e,h⟩:=aZ.lh29_inv (show aZ.lh29 F ak cI [] 0 tm H=some r from h);cases h) (λk29 tm H r h=>by obtain ⟨dX,gm,gP,mw,nP,pH,mz,hks,e,h⟩:=aZ.lh29_inv (show aZ.lh29 F ak cI [] (k29+1) tm H=some r from h);rw [<- eM e];exact Eq.trans (by kernel_rfl) h) λk29=>(ah.rt (ah.lt (ah.block (ah.rt (ah.block (ah.loop (λtm H=>eP λr h=>by obtain ⟨dI,jS,ky,kz,kA,jx,kW,iR,iS,hks,e,h⟩:=aZ.lh469_inv (show aZ.lh469 F ak cI [k29] 0 tm H=some r from h);cases h) (λk469 tm H r h=>by obtain ⟨dI,jS,ky,kz,kA,jx,kW,iR,iS,hks,e,h⟩:=aZ.lh469_inv (show aZ.lh469 F ak cI [k29] (k469+1) tm H=some r from h);cases hks;rw [<- eM e];exact Eq.trans (by kernel_rfl) h) λk469=>ah.no))))))))))))
theorem aZ.eqX (F:Nat) (ak:Int->Int->Sl->Int->Int->Hp->OA) (cI:Int->Hp->OA) (aa:Nat) (af:Nat) (ai:Int) (H:Hp):EX (bF (aZ.cs F ak cI)) bp (aZ.lh F ak cI) F Try.f150 [(.ptr aa af),(.int .i64 ai)] H=aZ.twX F ak cI aa af ai H:=by kernel_rfl
theorem aZ.k (F:Nat):Ok Try.prog 150 (aZ.mk (aZ.tw F)):=by
 intro args H v H' h
 unfold aZ.mk at h
 split at h
 ·exact okT (TB:=bp) Try.func150 (bG (bI.k F) (bG (d_.k F) cK)) (aZ.loops F (bI.tw F) (d_.tw F)) ((aZ.eqX F (bI.tw F) (d_.tw F) _ _ _ H).trans h) (by kernel_rfl)
 ·cases h
def dd.l7 (F:Nat) (ak:Int->Int->Sl->Int->Int->Hp->OA) :Nat->Int->Int->Nat->Nat->Int->Int->Hp->OA
 | 0,_,_,_,_,_,_,_=>none
 | mH+1,gX,gY,di,iA,gZ,fO,H17=>(bif (decide (fO<gZ)) then ((Hp.ldI H17 .i64 di iA).bind λn32=>(Hp.ldI H17 .i64 di (iA+1)).bind λn33=>(Hp.ldSl H17 di (iA+2)).bind λs34=>(ak n32 n33 s34 gX fO H17).bind λr35=>((r35.1).asP).bind λp36=>(if bt H17 r35.2 then ((Hp.ldI r35.2 .i64 di iA).bind λn37=>(Hp.ldI r35.2 .i64 di (iA+1)).bind λn38=>(Hp.ldSl r35.2 di (iA+2)).bind λs39=>(ak n37 n38 s39 gY fO r35.2).bind λr40=>((r40.1).asP).bind λp41=>(Hp.ldI r40.2 .i64 p41.1 p41.2).bind λn42=>(Hp.ldI r40.2 .i64 p36.1 p36.2).bind λn43=>(Hp.st r40.2 p36.1 p36.2 (.int .i64 n42)).bind λH44=>(Hp.st H44 p41.1 p41.2 (.int .i64 n43)).bind λH45=>dd.l7 F ak mH gX gY di iA gZ (IntKind.i64.wrap (fO+1)) H45) else none)) else (some ((.tup []),H17)))
termination_by structural n=>n
def dd.twX (F:Nat) (ak:Int->Int->Sl->Int->Int->Hp->OA) (aa:Int) (af:Int) (aC:Sl) (aj:Int) (bW:Int) (H:Hp):OA:=(Hp.new H [(.int .i64 aa),(.int .i64 af),(.sl aC)]).bind λH6=>(Hp.ldI H6 .i64 H.length 1).bind λn7=>dd.l7 F ak F aj bW H.length 0 n7 0 H6
def dd.tw (F:Nat) (aa:Int) (af:Int) (aC:Sl) (aj:Int) (bW:Int) (H:Hp):OA:=dd.twX F (bI.tw F) aa af aC aj bW H
def dd.lh7 (F:Nat) (ak:Int->Int->Sl->Int->Int->Hp->OA) (ks:List Nat) (n:Nat) (tm:Tm) (H:Hp):OA:=match ks,tm 1,tm 2,tm 3,tm 10,tm 11 with
 | [],(.int .i64 gX),(.int .i64 gY),(.ptr di iA),(.int .i64 gZ),(.int .i64 fO)=>dd.l7 F ak n gX gY di iA gZ fO H
 | _,_,_,_,_,_=>none
theorem dd.lh7_inv {F:Nat} {ak:Int->Int->Sl->Int->Int->Hp->OA} {ks:List Nat} {n:Nat} {tm:Tm} {H:Hp} {r:AV×Hp} (h:dd.lh7 F ak ks n tm H=some r):∃ gX gY di iA gZ fO,ks=[]/\eG tm [(1,(.int .i64 gX)),(2,(.int .i64 gY)),(3,(.ptr di iA)),(10,(.int .i64 gZ)),(11,(.int .i64 fO))]/\dd.l7 F ak n gX gY di iA gZ fO H=some r:=by
 unfold dd.lh7 at h
 split at h
 ·exact ⟨_,_,_,_,_,_,rfl,⟨‹_›,‹_›,‹_›,‹_›,‹_›,trivial⟩,h⟩
 ·cases h
def dd.lh (F:Nat) (ak:Int->Int->Sl->Int->Int->Hp->OA) (p:Nat) (ks:List Nat) (n:Nat) (tm:Tm) (H:Hp):OA:=bif p.beq 7 then dd.lh7 F ak ks n tm H else (none)
def dd.pn:Nat->List Nat:=fp [(4,[7]),(5,[9,11])]
def dd.tb:Nat->List (List Nat):=fp [(4,[[],[],[],[0,1,2],[],[],[],[0,1,2,3,4,5,6],[0,1,2,3,4,5,6,7],[0,1,2,3,4,5,6,7,8]]),(5,[[],[],[],[2],[2,3],[],[5],[5,6],[0,2,3,4,5,6,7],[0,2,3,4,5,6,7,8],[0,1,2,3,4,5,6,7,8,9],[0,1,2,3,4,5,6,7,8,9,10]])]
def dd.mk (g:Int->Int->Sl->Int->Int->Hp->OA) (args:List AV) (H:Hp):OA:=match args with
 | [(.agg [(.int .i64 aa),(.int .i64 af),(.sl aC)]),(.int .i64 aj),(.int .i64 bW)]=>g aa af aC aj bW H
 | _=>none
def dd.cs (F:Nat) (ak:Int->Int->Sl->Int->Int->Hp->OA):Cs:=[(95,bI.mk ak)]
theorem dd.loops (F:Nat) (ak:Int->Int->Sl->Int->Int->Hp->OA):LO (bF (dd.cs F ak)) dd.pn (dd.lh F ak) F Try.f151:=
 (ah.rt (ah.rt (ah.block (ah.loop (λtm H=>eP λr h=>by obtain ⟨gX,gY,di,iA,gZ,fO,hks,e,h⟩:=dd.lh7_inv (show dd.lh7 F ak [] 0 tm H=some r from h);cases h) (λk7 tm H r h=>by obtain ⟨gX,gY,di,iA,gZ,fO,hks,e,h⟩:=dd.lh7_inv (show dd.lh7 F ak [] (k7+1) tm H=some r from h);rw [<- eM e];exact Eq.trans (by kernel_rfl) h) λk7=>ah.no))))
theorem dd.eqX (F:Nat) (ak:Int->Int->Sl->Int->Int->Hp->OA) (aa:Int) (af:Int) (aC:Sl) (aj:Int) (bW:Int) (H:Hp):EX (bF (dd.cs F ak)) dd.pn (dd.lh F ak) F Try.f151 [(.agg [(.int .i64 aa),(.int .i64 af),(.sl aC)]),(.int .i64 aj),(.int .i64 bW)] H=dd.twX F ak aa af aC aj bW H:=by kernel_rfl
theorem dd.k (F:Nat):Ok Try.prog 151 (dd.mk (dd.tw F)):=by
 intro args H v H' h
 unfold dd.mk at h
 split at h
 ·exact okT (TB:=dd.tb) Try.func151 (bG (bI.k F) cK) (dd.loops F (bI.tw F)) ((dd.eqX F (bI.tw F) _ _ _ _ _ H).trans h) (by kernel_rfl)
 ·cases h
def de.l7 (F:Nat) (ak:Int->Int->Sl->Int->Int->Hp->OA) :Nat->Int->Int->Nat->Nat->Int->Int->Hp->OA
 | 0,_,_,_,_,_,_,_=>none
 | mH+1,gX,gY,di,iA,gZ,fO,H17=>(bif (decide (fO<gZ)) then ((Hp.ldI H17 .i64 di iA).bind λn32=>(Hp.ldI H17 .i64 di (iA+1)).bind λn33=>(Hp.ldSl H17 di (iA+2)).bind λs34=>(ak n32 n33 s34 fO gX H17).bind λr35=>((r35.1).asP).bind λp36=>(if bt H17 r35.2 then ((Hp.ldI r35.2 .i64 di iA).bind λn37=>(Hp.ldI r35.2 .i64 di (iA+1)).bind λn38=>(Hp.ldSl r35.2 di (iA+2)).bind λs39=>(ak n37 n38 s39 fO gY r35.2).bind λr40=>((r40.1).asP).bind λp41=>(Hp.ldI r40.2 .i64 p41.1 p41.2).bind λn42=>(Hp.ldI r40.2 .i64 p36.1 p36.2).bind λn43=>(Hp.st r40.2 p36.1 p36.2 (.int .i64 n42)).bind λH44=>(Hp.st H44 p41.1 p41.2 (.int .i64 n43)).bind λH45=>de.l7 F ak mH gX gY di iA gZ (IntKind.i64.wrap (fO+1)) H45) else none)) else (some ((.tup []),H17)))
termination_by structural n=>n
def de.twX (F:Nat) (ak:Int->Int->Sl->Int->Int->Hp->OA) (aa:Int) (af:Int) (aC:Sl) (aj:Int) (bW:Int) (H:Hp):OA:=(Hp.new H [(.int .i64 aa),(.int .i64 af),(.sl aC)]).bind λH6=>(Hp.ldI H6 .i64 H.length 0).bind λn7=>de.l7 F ak F aj bW H.length 0 n7 0 H6
def de.tw (F:Nat) (aa:Int) (af:Int) (aC:Sl) (aj:Int) (bW:Int) (H:Hp):OA:=de.twX F (bI.tw F) aa af aC aj bW H
def de.lh7 (F:Nat) (ak:Int->Int->Sl->Int->Int->Hp->OA) (ks:List Nat) (n:Nat) (tm:Tm) (H:Hp):OA:=match ks,tm 1,tm 2,tm 3,tm 10,tm 11 with
 | [],(.int .i64 gX),(.int .i64 gY),(.ptr di iA),(.int .i64 gZ),(.int .i64 fO)=>de.l7 F ak n gX gY di iA gZ fO H
 | _,_,_,_,_,_=>none
theorem de.lh7_inv {F:Nat} {ak:Int->Int->Sl->Int->Int->Hp->OA} {ks:List Nat} {n:Nat} {tm:Tm} {H:Hp} {r:AV×Hp} (h:de.lh7 F ak ks n tm H=some r):∃ gX gY di iA gZ fO,ks=[]/\eG tm [(1,(.int .i64 gX)),(2,(.int .i64 gY)),(3,(.ptr di iA)),(10,(.int .i64 gZ)),(11,(.int .i64 fO))]/\de.l7 F ak n gX gY di iA gZ fO H=some r:=by
 unfold de.lh7 at h
 split at h
 ·exact ⟨_,_,_,_,_,_,rfl,⟨‹_›,‹_›,‹_›,‹_›,‹_›,trivial⟩,h⟩
 ·cases h
def de.lh (F:Nat) (ak:Int->Int->Sl->Int->Int->Hp->OA) (p:Nat) (ks:List Nat) (n:Nat) (tm:Tm) (H:Hp):OA:=bif p.beq 7 then de.lh7 F ak ks n tm H else (none)
def de.pn:Nat->List Nat:=fp [(4,[7]),(5,[9,11])]
def de.tb:Nat->List (List Nat):=fp [(4,[[],[],[],[0,1,2],[],[],[],[0,1,2,3,4,5,6],[0,1,2,3,4,5,6,7],[0,1,2,3,4,5,6,7,8]]),(5,[[],[],[],[2],[2,3],[],[5],[5,6],[0,2,3,4,5,6,7],[0,2,3,4,5,6,7,8],[0,1,2,3,4,5,6,7,8,9],[0,1,2,3,4,5,6,7,8,9,10]])]
def de.mk (g:Int->Int->Sl->Int->Int->Hp->OA) (args:List AV) (H:Hp):OA:=match args with
 | [(.agg [(.int .i64 aa),(.int .i64 af),(.sl aC)]),(.int .i64 aj),(.int .i64 bW)]=>g aa af aC aj bW H
 | _=>none
def de.cs (F:Nat) (ak:Int->Int->Sl->Int->Int->Hp->OA):Cs:=[(95,bI.mk ak)]
theorem de.loops (F:Nat) (ak:Int->Int->Sl->Int->Int->Hp->OA):LO (bF (de.cs F ak)) de.pn (de.lh F ak) F Try.f152:=
 (ah.rt (ah.rt (ah.block (ah.loop (λtm H=>eP λr h=>by obtain ⟨gX,gY,di,iA,gZ,fO,hks,e,h⟩:=de.lh7_inv (show de.lh7 F ak [] 0 tm H=some r from h);cases h) (λk7 tm H r h=>by obtain ⟨gX,gY,di,iA,gZ,fO,hks,e,h⟩:=de.lh7_inv (show de.lh7 F ak [] (k7+1) tm H=some r from h);rw [<- eM e];exact Eq.trans (by kernel_rfl) h) λk7=>ah.no))))
theorem de.eqX (F:Nat) (ak:Int->Int->Sl->Int->Int->Hp->OA) (aa:Int) (af:Int) (aC:Sl) (aj:Int) (bW:Int) (H:Hp):EX (bF (de.cs F ak)) de.pn (de.lh F ak) F Try.f152 [(.agg [(.int .i64 aa),(.int .i64 af),(.sl aC)]),(.int .i64 aj),(.int .i64 bW)] H=de.twX F ak aa af aC aj bW H:=by kernel_rfl
theorem de.k (F:Nat):Ok Try.prog 152 (de.mk (de.tw F)):=by
 intro args H v H' h
 unfold de.mk at h
 split at h
 ·exact okT (TB:=de.tb) Try.func152 (bG (bI.k F) cK) (de.loops F (bI.tw F)) ((de.eqX F (bI.tw F) _ _ _ _ _ H).trans h) (by kernel_rfl)
 ·cases h
def eS.twX (F:Nat) (aa:Int) (af:Int) (aC:Sl) (aj:Int) (H:Hp):OA:=(Hp.new H [(.int .i64 aa),(.int .i64 af),(.sl aC)]).bind λH5=>(Hp.ldSl H5 H.length 2).bind λs6=>(Hp.ldI H5 .i64 H.length 1).bind λn7=>(Hp.ldI H5 .i64 H.length 1).bind λn8=>(Sl.cut s6 1 (IntKind.i64.wrap (aj * n7)) (IntKind.i64.wrap ((IntKind.i64.wrap (aj+1)) * n8))).bind λs9=>some ((.sl s9),H5)
def eS.tw (F:Nat) (aa:Int) (af:Int) (aC:Sl) (aj:Int) (H:Hp):OA:=eS.twX F aa af aC aj H
def eS.mk (g:Int->Int->Sl->Int->Hp->OA) (args:List AV) (H:Hp):OA:=match args with
 | [(.agg [(.int .i64 aa),(.int .i64 af),(.sl aC)]),(.int .i64 aj)]=>g aa af aC aj H
 | _=>none
theorem eS.eqX (F:Nat) (aa:Int) (af:Int) (aC:Sl) (aj:Int) (H:Hp):EX (bF []) bp lh0 F Try.f120 [(.agg [(.int .i64 aa),(.int .i64 af),(.sl aC)]),(.int .i64 aj)] H=eS.twX F aa af aC aj H:=by kernel_rfl
theorem eS.k (F:Nat):Ok Try.prog 120 (eS.mk (eS.tw F)):=by
 intro args H v H' h
 unfold eS.mk at h
 split at h
 ·exact okT (TB:=bp) Try.func120 cK ah.no ((eS.eqX F _ _ _ _ H).trans h) (by kernel_rfl)
 ·cases h
def bD.l32747 (F:Nat) (eR:Nat->Nat->Int->Hp->OA) (eJ:Int->Int->Sl->Int->Int->Hp->OA) (eK:Int->Int->Sl->Int->Int->Hp->OA) (ak:Int->Int->Sl->Int->Int->Hp->OA) (b_:Int->Int->Sl->Int->Hp->OA) :Nat->Nat->Nat->Int->Int->Int->Hp->OA
 | 0,_,_,_,_,_,_=>none
 | Oh+1,nr,ns,lC,mA,kB,H159=>(bif (decide (kB<mA)) then ((Hp.ldI H159 .i64 nr (ns+3)).bind λn172=>(Hp.ldI H159 .i64 nr ((ns+3)+1)).bind λn173=>(Hp.ldSl H159 nr ((ns+3)+2)).bind λs174=>(ak n172 n173 s174 kB lC H159).bind λr175=>((r175.1).asP).bind λp176=>(if bt H159 r175.2 then ((Hp.ldI r175.2 .i64 nr (ns+3)).bind λn177=>(Hp.ldI r175.2 .i64 nr ((ns+3)+1)).bind λn178=>(Hp.ldSl r175.2 nr ((ns+3)+2)).bind λs179=>(ak n177 n178 s179 kB lC r175.2).bind λr180=>((r180.1).asP).bind λp181=>(Hp.ldI r180.2 .i64 p181.1 p181.2).bind λn182=>(Hp.st r180.2 p176.1 p176.2 (.int .i64 (IntKind.i64.wrap (0 - n182)))).bind λH183=>bD.l32747 F eR eJ eK ak b_ Oh nr ns lC mA (IntKind.i64.wrap (kB+1)) H183) else none)) else (some ((.bool true),H159)))
termination_by structural n=>n
def bD.j3 (F:Nat) (eR:Nat->Nat->Int->Hp->OA) (eJ:Int->Int->Sl->Int->Int->Hp->OA) (eK:Int->Int->Sl->Int->Int->Hp->OA) (ak:Int->Int->Sl->Int->Int->Hp->OA) (b_:Int->Int->Sl->Int->Hp->OA) (GI:Nat) (GJ:Nat) (uq:Int) (H142:Hp):OA:=(Hp.ldI H142 .i64 GI (GJ+3)).bind λn143=>bD.l32747 F eR eJ eK ak b_ F GI GJ uq n143 0 H142
def bD.j4 (F:Nat) (eR:Nat->Nat->Int->Hp->OA) (eJ:Int->Int->Sl->Int->Int->Hp->OA) (eK:Int->Int->Sl->Int->Int->Hp->OA) (ak:Int->Int->Sl->Int->Int->Hp->OA) (b_:Int->Int->Sl->Int->Hp->OA) (C32745_:Nat->Nat->Int->Sl->Int->Int->Hp->OA) (Oi:Nat) (Oj:Nat) (Ol:Int) (Om:Sl) (On:Int) (Oo:Int) (H242:Hp):OA:=C32745_ Oi Oj Ol Om On (IntKind.i64.wrap (Oo+1)) H242
def bD.j5 (F:Nat) (eR:Nat->Nat->Int->Hp->OA) (eJ:Int->Int->Sl->Int->Int->Hp->OA) (eK:Int->Int->Sl->Int->Int->Hp->OA) (ak:Int->Int->Sl->Int->Int->Hp->OA) (b_:Int->Int->Sl->Int->Hp->OA) (C32745_:Nat->Nat->Int->Sl->Int->Int->Hp->OA) (Oq:Nat) (Ot:Nat) (Ou:Int) (Ov:Sl) (Ow:Int) (Ox:Int) (H224:Hp):OA:=bD.j4 F eR eJ eK ak b_ C32745_ Oq Ot Ou Ov Ow Ox H224
def bD.l2095707 (F:Nat) (eR:Nat->Nat->Int->Hp->OA) (eJ:Int->Int->Sl->Int->Int->Hp->OA) (eK:Int->Int->Sl->Int->Int->Hp->OA) (ak:Int->Int->Sl->Int->Int->Hp->OA) (b_:Int->Int->Sl->Int->Hp->OA) (C32745_:Nat->Nat->Int->Sl->Int->Int->Hp->OA):Nat->Nat->Nat->Int->Sl->Int->Int->Sl->Int->Int->Hp->OA
 | 0,_,_,_,_,_,_,_,_,_,_=>none
 | Oy+1,pI,pJ,pK,pL,pM,pN,pf,pO,oI,H202=>(bif (decide (oI<pO)) then ((Sl.idx pf oI 1).bind λp243=>(Hp.ldI H202 .i64 p243.1 p243.2).bind λn244=>(Sl.idx pf oI 1).bind λp245=>(Hp.st H202 p245.1 p245.2 (.int .i64 (IntKind.i64.wrap (0 - n244)))).bind λH246=>bD.l2095707 F eR eJ eK ak b_ C32745_ Oy pI pJ pK pL pM pN pf pO (IntKind.i64.wrap (oI+1)) H246) else (bD.j5 F eR eJ eK ak b_ C32745_ pI pJ pK pL pM pN H202))
termination_by structural n=>n
def bD.l32745 (F:Nat) (eR:Nat->Nat->Int->Hp->OA) (eJ:Int->Int->Sl->Int->Int->Hp->OA) (eK:Int->Int->Sl->Int->Int->Hp->OA) (ak:Int->Int->Sl->Int->Int->Hp->OA) (b_:Int->Int->Sl->Int->Hp->OA) :Nat->Nat->Nat->Int->Sl->Int->Int->Hp->OA
 | 0,_,_,_,_,_,_,_=>none
 | qt+1,kb,kc,gQ,pP,pQ,pg,H65=>(bif (decide (pg<pQ)) then ((Sl.idx pP pg 1).bind λp184=>(Hp.ldSl H65 p184.1 p184.2).bind λs185=>bD.l2095707 F eR eJ eK ak b_ (bD.l32745 F eR eJ eK ak b_ qt) F kb kc gQ pP pQ pg s185 (s185.n:Int) 0 H65) else (bD.j3 F eR eJ eK ak b_ kb kc gQ H65))
termination_by structural n=>n
def bD.twX (F:Nat) (eR:Nat->Nat->Int->Hp->OA) (eJ:Int->Int->Sl->Int->Int->Hp->OA) (eK:Int->Int->Sl->Int->Int->Hp->OA) (ak:Int->Int->Sl->Int->Int->Hp->OA) (b_:Int->Int->Sl->Int->Hp->OA) (aa:Nat) (af:Nat) (ai:Int) (H:Hp):OA:=(eR aa af ai H).bind λr4=>((r4.1).asTup 3).bind λl5=>(l5[0]?).bind λv6=>((v6).asI .i64).bind λn7=>(l5[1]?).bind λv8=>((v8).asI .i64).bind λn9=>(l5[2]?).bind λv10=>((v10).asB).bind λb11=>(bif (!b11) then (some ((.bool false),r4.2)) else ((Hp.ldI r4.2 .i64 aa (af+6)).bind λn12=>(Hp.ldI r4.2 .i64 aa ((af+6)+1)).bind λn13=>(Hp.ldSl r4.2 aa ((af+6)+2)).bind λs14=>(eJ n12 n13 s14 n7 ai r4.2).bind λr15=>(Hp.ldI r15.2 .i64 aa af).bind λn16=>(Hp.ldI r15.2 .i64 aa (af+1)).bind λn17=>(Hp.ldSl r15.2 aa (af+2)).bind λs18=>(eJ n16 n17 s18 n7 ai r15.2).bind λr19=>(Hp.ldI r19.2 .i64 aa (af+3)).bind λn20=>(Hp.ldI r19.2 .i64 aa ((af+3)+1)).bind λn21=>(Hp.ldSl r19.2 aa ((af+3)+2)).bind λs22=>(eK n20 n21 s22 n7 ai r19.2).bind λr23=>(Hp.ldI r23.2 .i64 aa (af+6)).bind λn24=>(Hp.ldI r23.2 .i64 aa ((af+6)+1)).bind λn25=>(Hp.ldSl r23.2 aa ((af+6)+2)).bind λs26=>(eK n24 n25 s26 n9 ai r23.2).bind λr27=>(Hp.ldI r27.2 .i64 aa (af+9)).bind λn28=>(Hp.ldI r27.2 .i64 aa ((af+9)+1)).bind λn29=>(Hp.ldSl r27.2 aa ((af+9)+2)).bind λs30=>(eK n28 n29 s30 n9 ai r27.2).bind λr31=>(Hp.ldI r31.2 .i64 aa (af+12)).bind λn32=>(Hp.ldI r31.2 .i64 aa ((af+12)+1)).bind λn33=>(Hp.ldSl r31.2 aa ((af+12)+2)).bind λs34=>(eJ n32 n33 s34 n9 ai r31.2).bind λr35=>(Hp.ldI r35.2 .i64 aa (af+6)).bind λn36=>(Hp.ldI r35.2 .i64 aa ((af+6)+1)).bind λn37=>(Hp.ldSl r35.2 aa ((af+6)+2)).bind λs38=>(ak n36 n37 s38 ai ai r35.2).bind λr39=>((r39.1).asP).bind λp40=>(Hp.ldI r39.2 .i64 p40.1 p40.2).bind λn41=>(bif (decide (n41<0)) then ((Hp.ldI r39.2 .i64 aa (af+6)).bind λn42=>(Hp.ldI r39.2 .i64 aa ((af+6)+1)).bind λn43=>(Hp.ldSl r39.2 aa ((af+6)+2)).bind λs44=>(b_ n42 n43 s44 ai r39.2).bind λr45=>((r45.1).asSl).bind λs46=>(if bt r39.2 r45.2 then ((Hp.ldI r45.2 .i64 aa af).bind λn47=>(Hp.ldI r45.2 .i64 aa (af+1)).bind λn48=>(Hp.ldSl r45.2 aa (af+2)).bind λs49=>(b_ n47 n48 s49 ai r45.2).bind λr50=>((r50.1).asSl).bind λs51=>(Hp.new r50.2 [(.sl s46),(.sl s51)]).bind λH52=>bD.l32745 F eR eJ eK ak b_ F aa af ai (⟨some (r50.2.length,0),2,.ex 2⟩:Sl) ((⟨some (r50.2.length,0),2,.ex 2⟩:Sl).n:Int) 0 H52) else none)) else (some ((.bool true),r39.2)))))
def bD.tw (F:Nat) (aa:Nat) (af:Nat) (ai:Int) (H:Hp):OA:=bD.twX F (aZ.tw F) (dd.tw F) (de.tw F) (bI.tw F) (eS.tw F) aa af ai H
def bD.lh32745 (F:Nat) (eR:Nat->Nat->Int->Hp->OA) (eJ:Int->Int->Sl->Int->Int->Hp->OA) (eK:Int->Int->Sl->Int->Int->Hp->OA) (ak:Int->Int->Sl->Int->Int->Hp->OA) (b_:Int->Int->Sl->Int->Hp->OA) (ks:List Nat) (n:Nat) (tm:Tm) (H:Hp):OA:=match ks,tm 0,tm 1,tm 94,tm 95,tm 96 with
 | [],(.ptr kb kc),(.int .i64 gQ),(.sl pP),(.int .i64 pQ),(.int .i64 pg)=>bD.l32745 F eR eJ eK ak b_ n kb kc gQ pP pQ pg H
 | _,_,_,_,_,_=>none
theorem bD.lh32745_inv {F:Nat} {eR:Nat->Nat->Int->Hp->OA} {eJ:Int->Int->Sl->Int->Int->Hp->OA} {eK:Int->Int->Sl->Int->Int->Hp->OA} {ak:Int->Int->Sl->Int->Int->Hp->OA} {b_:Int->Int->Sl->Int->Hp->OA} {ks:List Nat} {n:Nat} {tm:Tm} {H:Hp} {r:AV×Hp} (h:bD.lh32745 F eR eJ eK ak b_ ks n tm H=some r):∃ kb kc gQ pP pQ pg,ks=[]/\eG tm [(0,(.ptr kb kc)),(1,(.int .i64 gQ)),(94,(.sl pP)),(95,(.int .i64 pQ)),(96,(.int .i64 pg))]/\bD.l32745 F eR eJ eK ak b_ n kb kc gQ pP pQ pg H=some r:=by
 unfold bD.lh32745 at h
 split at h
 ·exact ⟨_,_,_,_,_,_,rfl,⟨‹_›,‹_›,‹_›,‹_›,‹_›,trivial⟩,h⟩
 ·cases h
def bD.lh32747 (F:Nat) (eR:Nat->Nat->Int->Hp->OA) (eJ:Int->Int->Sl->Int->Int->Hp->OA) (eK:Int->Int->Sl->Int->Int->Hp->OA) (ak:Int->Int->Sl->Int->Int->Hp->OA) (b_:Int->Int->Sl->Int->Hp->OA) (ks:List Nat) (n:Nat) (tm:Tm) (H:Hp):OA:=match ks,tm 0,tm 1,tm 120,tm 121 with
 | [],(.ptr nr ns),(.int .i64 lC),(.int .i64 mA),(.int .i64 kB)=>bD.l32747 F eR eJ eK ak b_ n nr ns lC mA kB H
 | _,_,_,_,_=>none
theorem bD.lh32747_inv {F:Nat} {eR:Nat->Nat->Int->Hp->OA} {eJ:Int->Int->Sl->Int->Int->Hp->OA} {eK:Int->Int->Sl->Int->Int->Hp->OA} {ak:Int->Int->Sl->Int->Int->Hp->OA} {b_:Int->Int->Sl->Int->Hp->OA} {ks:List Nat} {n:Nat} {tm:Tm} {H:Hp} {r:AV×Hp} (h:bD.lh32747 F eR eJ eK ak b_ ks n tm H=some r):∃ nr ns lC mA kB,ks=[]/\eG tm [(0,(.ptr nr ns)),(1,(.int .i64 lC)),(120,(.int .i64 mA)),(121,(.int .i64 kB))]/\bD.l32747 F eR eJ eK ak b_ n nr ns lC mA kB H=some r:=by
 unfold bD.lh32747 at h
 split at h
 ·exact ⟨_,_,_,_,_,rfl,⟨‹_›,‹_›,‹_›,‹_›,trivial⟩,h⟩
 ·cases h
def bD.lh2095707 (F:Nat) (eR:Nat->Nat->Int->Hp->OA) (eJ:Int->Int->Sl->Int->Int->Hp->OA) (eK:Int->Int->Sl->Int->Int->Hp->OA) (ak:Int->Int->Sl->Int->Int->Hp->OA) (b_:Int->Int->Sl->Int->Hp->OA) (ks:List Nat) (n:Nat) (tm:Tm) (H:Hp):OA:=match ks,tm 0,tm 1,tm 9,tm 94,tm 95,tm 96,tm 101,tm 102 with
 | [qt],(.ptr pI pJ),(.int .i64 pK),(.sl pf),(.sl pL),(.int .i64 pM),(.int .i64 pN),(.int .i64 pO),(.int .i64 oI)=>bD.l2095707 F eR eJ eK ak b_ (bD.l32745 F eR eJ eK ak b_ qt) n pI pJ pK pL pM pN pf pO oI H
 | _,_,_,_,_,_,_,_,_=>none
theorem bD.lh2095707_inv {F:Nat} {eR:Nat->Nat->Int->Hp->OA} {eJ:Int->Int->Sl->Int->Int->Hp->OA} {eK:Int->Int->Sl->Int->Int->Hp->OA} {ak:Int->Int->Sl->Int->Int->Hp->OA} {b_:Int->Int->Sl->Int->Hp->OA} {ks:List Nat} {n:Nat} {tm:Tm} {H:Hp} {r:AV×Hp} (h:bD.lh2095707 F eR eJ eK ak b_ ks n tm H=some r):∃ qt pI pJ pK pf pL pM pN pO oI,ks=[qt]/\eG tm [(0,(.ptr pI pJ)),(1,(.int .i64 pK)),(9,(.sl pf)),(94,(.sl pL)),(95,(.int .i64 pM)),(96,(.int .i64 pN)),(101,(.int .i64 pO)),(102,(.int .i64 oI))]/\bD.l2095707 F eR eJ eK ak b_ (bD.l32745 F eR eJ eK ak b_ qt) n pI pJ pK pL pM pN pf pO oI H=some r:=by
 unfold bD.lh2095707 at h
 split at h
 ·exact ⟨_,_,_,_,_,_,_,_,_,_,rfl,⟨‹_›,‹_›,‹_›,‹_›,‹_›,‹_›,‹_›,‹_›,trivial⟩,h⟩
 ·cases h
def bD.lh (F:Nat) (eR:Nat->Nat->Int->Hp->OA) (eJ:Int->Int->Sl->Int->Int->Hp->OA) (eK:Int->Int->Sl->Int->Int->Hp->OA) (ak:Int->Int->Sl->Int->Int->Hp->OA) (b_:Int->Int->Sl->Int->Hp->OA) (p:Nat) (ks:List Nat) (n:Nat) (tm:Tm) (H:Hp):OA:=bif p.beq 2095707 then bD.lh2095707 F eR eJ eK ak b_ ks n tm H else (bif p.beq 32747 then bD.lh32747 F eR eJ eK ak b_ ks n tm H else (bif p.beq 32745 then bD.lh32745 F eR eJ eK ak b_ ks n tm H else (none)))
def bD.pn:Nat->List Nat:=fp [(11,[13]),(23,[15,20])]
def bD.tb:Nat->List (List Nat):=fp [(11,[[],[0],[0,1],[0,1,2],[0,1,2,3],[],[0,1,2,3,4,5],[],[7],[7,8],[7,8,9],[7,8,9,10],[],[0,1,2,3,4,5,6,7,8,9,10,11,12],[0,1,2,3,4,5,6,7,8,9,10,11,12,13],[0,1,2,3,4,5,6,7,8,9,10,11,12,13,14],[]]),(23,[[],[0],[0,1],[0,1,2],[0,1,2,3],[],[],[0,1,2,3,4,5,6],[],[8],[8,9],[8,9,10],[8,9,10,11],[],[],[0,1,2,3,4,5,6,7,8,9,10,11,12,13,14],[0,1,2,3,4,5,6,7,8,9,10,11,12,13,14,15],[0,1,2,3,4,5,6,7,8,9,10,11,12,13,14,15,16],[0,1,2,3,4,5,6,7,8,9,10,11,12,13,14,15,16,17],[0,1,2,3,4,5,6,7,8,9,10,11,12,13,14,15,16,17,18],[0,1,2,3,4,5,6,7,8,9,10,11,12,13,14,15,16,17,18,19]])]
def bD.mk (g:Nat->Nat->Int->Hp->OA) (args:List AV) (H:Hp):OA:=match args with
 | [(.ptr aa af),(.int .i64 ai)]=>g aa af ai H
 | _=>none
def bD.cs (F:Nat) (eR:Nat->Nat->Int->Hp->OA) (eJ:Int->Int->Sl->Int->Int->Hp->OA) (eK:Int->Int->Sl->Int->Int->Hp->OA) (ak:Int->Int->Sl->Int->Int->Hp->OA) (b_:Int->Int->Sl->Int->Hp->OA):Cs:=[(150,aZ.mk eR),(151,dd.mk eJ),(152,de.mk eK),(95,bI.mk ak),(120,eS.mk b_)]
theorem bD.loops (F:Nat) (eR:Nat->Nat->Int->Hp->OA) (eJ:Int->Int->Sl->Int->Int->Hp->OA) (eK:Int->Int->Sl->Int->Int->Hp->OA) (ak:Int->Int->Sl->Int->Int->Hp->OA) (b_:Int->Int->Sl->Int->Hp->OA):LO (bF (bD.cs F eR eJ eK ak b_)) bD.pn (bD.lh F eR eJ eK ak b_) F Try.f133:=
 (ah.rt (ah.rt (ah.rt (ah.rt (ah.rt (ah.rt (ah.rt (ah.rt (ah.rt (ah.lt (ah.rt (ah.cond (ah.seq (ah.rt (ah.block (ah.loop (λtm H=>eP λr h=>by obtain ⟨kb,kc,gQ,pP,pQ,pg,hks,e,h⟩:=bD.lh32745_inv (show bD.lh32745 F eR eJ eK ak b_ [] 0 tm H=some r from h);cases h) (λk32745 tm H r h=>by obtain ⟨kb,kc,gQ,pP,pQ,pg,hks,e,h⟩:=bD.lh32745_inv (show bD.lh32745 F eR eJ eK ak b_ [] (k32745+1) tm H=some r from h);rw [<- eM e];exact Eq.trans (by kernel_rfl) h) λk32745=>(ah.rt (ah.rt (ah.lt (ah.block (ah.rt (ah.rt (ah.block (ah.loop (λtm H=>eP λr h=>by obtain ⟨qt,pI,pJ,pK,pf,pL,pM,pN,pO,oI,hks,e,h⟩:=bD.lh2095707_inv (show bD.lh2095707 F eR eJ eK ak b_ [k32745] 0 tm H=some r from h);cases h) (λk2095707 tm H r h=>by obtain ⟨qt,pI,pJ,pK,pf,pL,pM,pN,pO,oI,hks,e,h⟩:=bD.lh2095707_inv (show bD.lh2095707 F eR eJ eK ak b_ [k32745] (k2095707+1) tm H=some r from h);cases hks;rw [<- eM e];exact Eq.trans (by kernel_rfl) h) λk2095707=>ah.no))))))))))) (ah.rt (ah.block (ah.loop (λtm H=>eP λr h=>by obtain ⟨nr,ns,lC,mA,kB,hks,e,h⟩:=bD.lh32747_inv (show bD.lh32747 F eR eJ eK ak b_ [] 0 tm H=some r from h);cases h) (λk32747 tm H r h=>by obtain ⟨nr,ns,lC,mA,kB,hks,e,h⟩:=bD.lh32747_inv (show bD.lh32747 F eR eJ eK ak b_ [] (k32747+1) tm H=some r from h);rw [<- eM e];exact Eq.trans (by kernel_rfl) h) λk32747=>ah.no)))) ah.no))))))))))))
theorem bD.eqX (F:Nat) (eR:Nat->Nat->Int->Hp->OA) (eJ:Int->Int->Sl->Int->Int->Hp->OA) (eK:Int->Int->Sl->Int->Int->Hp->OA) (ak:Int->Int->Sl->Int->Int->Hp->OA) (b_:Int->Int->Sl->Int->Hp->OA) (aa:Nat) (af:Nat) (ai:Int) (H:Hp):EX (bF (bD.cs F eR eJ eK ak b_)) bD.pn (bD.lh F eR eJ eK ak b_) F Try.f133 [(.ptr aa af),(.int .i64 ai)] H=bD.twX F eR eJ eK ak b_ aa af ai H:=by kernel_rfl
theorem bD.k (F:Nat):Ok Try.prog 133 (bD.mk (bD.tw F)):=by
 intro args H v H' h
 unfold bD.mk at h
 split at h
 ·exact okT (TB:=bD.tb) Try.func133 (bG (aZ.k F) (bG (dd.k F) (bG (de.k F) (bG (bI.k F) (bG (eS.k F) cK))))) (bD.loops F (aZ.tw F) (dd.tw F) (de.tw F) (bI.tw F) (eS.tw F)) ((bD.eqX F (aZ.tw F) (dd.tw F) (de.tw F) (bI.tw F) (eS.tw F) _ _ _ H).trans h) (by kernel_rfl)
 ·cases h
def gI.twX (F:Nat) (aa:Int) (ax:Int) (H:Hp):OA:=(if ax=0 then none else ((if ax=0 then none else ((bif (decide ((Int.tmod aa ax)<0)) then (some ((.int .i64 (IntKind.i64.wrap ((IntKind.i64.wrap (Int.tdiv aa ax)) - 1))),H)) else (some ((.int .i64 (IntKind.i64.wrap (Int.tdiv aa ax))),H)))))))
def gI.tw (F:Nat) (aa:Int) (ax:Int) (H:Hp):OA:=gI.twX F aa ax H
def gI.mk (g:Int->Int->Hp->OA) (args:List AV) (H:Hp):OA:=match args with
 | [(.int .i64 aa),(.int .i64 ax)]=>g aa ax H
 | _=>none
theorem gI.eqX (F:Nat) (aa:Int) (ax:Int) (H:Hp):EX (bF []) bp lh0 F Try.f153 [(.int .i64 aa),(.int .i64 ax)] H=gI.twX F aa ax H:=by kernel_rfl
theorem gI.k (F:Nat):Ok Try.prog 153 (gI.mk (gI.tw F)):=by
 intro args H v H' h
 unfold gI.mk at h
 split at h
 ·exact okT (TB:=bp) Try.func153 cK ah.no ((gI.eqX F _ _ H).trans h) (by kernel_rfl)
 ·cases h
def gw.twX (F:Nat) (iy:Int->Int->Int->Hp->OA) (cI:Int->Hp->OA) (aa:Nat) (af:Nat) (ai:Nat) (aj:Nat) (bW:Int) (mB:Int) (H:Hp):OA:=(iy bW mB 2000000000000 H).bind λr7=>((r7.1).asTup 2).bind λl8=>(l8[0]?).bind λv9=>((v9).asI .i64).bind λn10=>(l8[1]?).bind λv11=>((v11).asB).bind λb12=>(Hp.ldI r7.2 .i64 ai aj).bind λn13=>(Hp.st r7.2 ai aj (.int .i64 (IntKind.i64.wrap (n13+n10)))).bind λH14=>(bif (!b12) then ((Hp.st H14 aa (af+15) (.bool true)).bind λH15=>(Hp.st H15 ai aj (.int .i64 0)).bind λH16=>some ((.tup []),H16)) else ((Hp.ldI H14 .i64 ai aj).bind λn17=>(cI n17 H14).bind λr18=>((r18.1).asI .i64).bind λn19=>(bif (decide (n19>1000000000000)) then ((Hp.st r18.2 aa (af+15) (.bool true)).bind λH20=>(Hp.st H20 ai aj (.int .i64 0)).bind λH21=>some ((.tup []),H21)) else (some ((.tup []),r18.2)))))
def gw.tw (F:Nat) (aa:Nat) (af:Nat) (ai:Nat) (aj:Nat) (bW:Int) (mB:Int) (H:Hp):OA:=gw.twX F (fB.tw F) (d_.tw F) aa af ai aj bW mB H
def gw.mk (g:Nat->Nat->Nat->Nat->Int->Int->Hp->OA) (args:List AV) (H:Hp):OA:=match args with
 | [(.ptr aa af),(.ptr ai aj),(.int .i64 bW),(.int .i64 mB)]=>g aa af ai aj bW mB H
 | _=>none
def gw.cs (F:Nat) (iy:Int->Int->Int->Hp->OA) (cI:Int->Hp->OA):Cs:=[(138,fB.mk iy),(102,d_.mk cI)]
theorem gw.eqX (F:Nat) (iy:Int->Int->Int->Hp->OA) (cI:Int->Hp->OA) (aa:Nat) (af:Nat) (ai:Nat) (aj:Nat) (bW:Int) (mB:Int) (H:Hp):EX (bF (gw.cs F iy cI)) bp lh0 F Try.f163 [(.ptr aa af),(.ptr ai aj),(.int .i64 bW),(.int .i64 mB)] H=gw.twX F iy cI aa af ai aj bW mB H:=by kernel_rfl
theorem gw.k (F:Nat):Ok Try.prog 163 (gw.mk (gw.tw F)):=by
 intro args H v H' h
 unfold gw.mk at h
 split at h
 ·exact okT (TB:=bp) Try.func163 (bG (fB.k F) (bG (d_.k F) cK)) ah.no ((gw.eqX F (fB.tw F) (d_.tw F) _ _ _ _ _ _ H).trans h) (by kernel_rfl)
 ·cases h
def cU.l7 (F:Nat) (ak:Int->Int->Sl->Int->Int->Hp->OA) (fw:Nat->Nat->Nat->Nat->Int->Int->Hp->OA) :Nat->Nat->Nat->Int->Int->Int->Nat->Nat->Int->Int->Hp->OA
 | 0,_,_,_,_,_,_,_,_,_,_=>none
 | mH+1,eF,g_,dw,eY,eE,dx,iB,gy,fx,H23=>(bif (decide (fx<gy)) then ((Hp.ldI H23 .i64 dx iB).bind λn36=>(Hp.ldI H23 .i64 dx (iB+1)).bind λn37=>(Hp.ldSl H23 dx (iB+2)).bind λs38=>(ak n36 n37 s38 dw fx H23).bind λr39=>((r39.1).asP).bind λp40=>(if bt H23 r39.2 then ((Hp.ldI r39.2 .i64 dx iB).bind λn41=>(Hp.ldI r39.2 .i64 dx (iB+1)).bind λn42=>(Hp.ldSl r39.2 dx (iB+2)).bind λs43=>(ak n41 n42 s43 eY fx r39.2).bind λr44=>((r44.1).asP).bind λp45=>(Hp.ldI r44.2 .i64 p45.1 p45.2).bind λn46=>(fw eF g_ p40.1 p40.2 n46 eE r44.2).bind λr47=>cU.l7 F ak fw mH eF g_ dw eY eE dx iB gy (IntKind.i64.wrap (fx+1)) r47.2) else none)) else (some ((.tup []),H23)))
termination_by structural n=>n
def cU.twX (F:Nat) (ak:Int->Int->Sl->Int->Int->Hp->OA) (fw:Nat->Nat->Nat->Nat->Int->Int->Hp->OA) (aa:Nat) (af:Nat) (ai:Int) (aj:Int) (aJ:Sl) (dL:Int) (dM:Int) (dE:Int) (H:Hp):OA:=(Hp.new H [(.int .i64 ai),(.int .i64 aj),(.sl aJ)]).bind λH9=>(Hp.ldI H9 .i64 H.length 1).bind λn10=>cU.l7 F ak fw F aa af dL dM dE H.length 0 n10 0 H9
def cU.tw (F:Nat) (aa:Nat) (af:Nat) (ai:Int) (aj:Int) (aJ:Sl) (dL:Int) (dM:Int) (dE:Int) (H:Hp):OA:=cU.twX F (bI.tw F) (gw.tw F) aa af ai aj aJ dL dM dE H
def cU.lh7 (F:Nat) (ak:Int->Int->Sl->Int->Int->Hp->OA) (fw:Nat->Nat->Nat->Nat->Int->Int->Hp->OA) (ks:List Nat) (n:Nat) (tm:Tm) (H:Hp):OA:=match ks,tm 0,tm 2,tm 3,tm 4,tm 6,tm 12,tm 13 with
 | [],(.ptr eF g_),(.int .i64 dw),(.int .i64 eY),(.int .i64 eE),(.ptr dx iB),(.int .i64 gy),(.int .i64 fx)=>cU.l7 F ak fw n eF g_ dw eY eE dx iB gy fx H
 | _,_,_,_,_,_,_,_=>none
theorem cU.lh7_inv {F:Nat} {ak:Int->Int->Sl->Int->Int->Hp->OA} {fw:Nat->Nat->Nat->Nat->Int->Int->Hp->OA} {ks:List Nat} {n:Nat} {tm:Tm} {H:Hp} {r:AV×Hp} (h:cU.lh7 F ak fw ks n tm H=some r):∃ eF g_ dw eY eE dx iB gy fx,ks=[]/\eG tm [(0,(.ptr eF g_)),(2,(.int .i64 dw)),(3,(.int .i64 eY)),(4,(.int .i64 eE)),(6,(.ptr dx iB)),(12,(.int .i64 gy)),(13,(.int .i64 fx))]/\cU.l7 F ak fw n eF g_ dw eY eE dx iB gy fx H=some r:=by
 unfold cU.lh7 at h
 split at h
 ·exact ⟨_,_,_,_,_,_,_,_,_,rfl,⟨‹_›,‹_›,‹_›,‹_›,‹_›,‹_›,‹_›,trivial⟩,h⟩
 ·cases h
def cU.lh (F:Nat) (ak:Int->Int->Sl->Int->Int->Hp->OA) (fw:Nat->Nat->Nat->Nat->Int->Int->Hp->OA) (p:Nat) (ks:List Nat) (n:Nat) (tm:Tm) (H:Hp):OA:=bif p.beq 7 then cU.lh7 F ak fw ks n tm H else (none)
def cU.pn:Nat->List Nat:=fp [(4,[8,12])]
def cU.tb:Nat->List (List Nat):=fp [(4,[[],[],[],[],[1,2,3],[],[],[],[1,2,3,4,5,6,7],[1,2,3,4,5,6,7,8],[1,2,3,4,5,6,7,8,9],[],[0,1,2,3,4,5,6,7,8,9,10,11]])]
def cU.mk (g:Nat->Nat->Int->Int->Sl->Int->Int->Int->Hp->OA) (args:List AV) (H:Hp):OA:=match args with
 | [(.ptr aa af),(.agg [(.int .i64 ai),(.int .i64 aj),(.sl aJ)]),(.int .i64 dL),(.int .i64 dM),(.int .i64 dE)]=>g aa af ai aj aJ dL dM dE H
 | _=>none
def cU.cs (F:Nat) (ak:Int->Int->Sl->Int->Int->Hp->OA) (fw:Nat->Nat->Nat->Nat->Int->Int->Hp->OA):Cs:=[(95,bI.mk ak),(163,gw.mk fw)]
theorem cU.loops (F:Nat) (ak:Int->Int->Sl->Int->Int->Hp->OA) (fw:Nat->Nat->Nat->Nat->Int->Int->Hp->OA):LO (bF (cU.cs F ak fw)) cU.pn (cU.lh F ak fw) F Try.f157:=
 (ah.rt (ah.rt (ah.block (ah.loop (λtm H=>eP λr h=>by obtain ⟨eF,g_,dw,eY,eE,dx,iB,gy,fx,hks,e,h⟩:=cU.lh7_inv (show cU.lh7 F ak fw [] 0 tm H=some r from h);cases h) (λk7 tm H r h=>by obtain ⟨eF,g_,dw,eY,eE,dx,iB,gy,fx,hks,e,h⟩:=cU.lh7_inv (show cU.lh7 F ak fw [] (k7+1) tm H=some r from h);rw [<- eM e];exact Eq.trans (by kernel_rfl) h) λk7=>ah.no))))
theorem cU.eqX (F:Nat) (ak:Int->Int->Sl->Int->Int->Hp->OA) (fw:Nat->Nat->Nat->Nat->Int->Int->Hp->OA) (aa:Nat) (af:Nat) (ai:Int) (aj:Int) (aJ:Sl) (dL:Int) (dM:Int) (dE:Int) (H:Hp):EX (bF (cU.cs F ak fw)) cU.pn (cU.lh F ak fw) F Try.f157 [(.ptr aa af),(.agg [(.int .i64 ai),(.int .i64 aj),(.sl aJ)]),(.int .i64 dL),(.int .i64 dM),(.int .i64 dE)] H=cU.twX F ak fw aa af ai aj aJ dL dM dE H:=by kernel_rfl
theorem cU.k (F:Nat):Ok Try.prog 157 (cU.mk (cU.tw F)):=by
 intro args H v H' h
 unfold cU.mk at h
 split at h
 ·exact okT (TB:=cU.tb) Try.func157 (bG (bI.k F) (bG (gw.k F) cK)) (cU.loops F (bI.tw F) (gw.tw F)) ((cU.eqX F (bI.tw F) (gw.tw F) _ _ _ _ _ _ _ _ H).trans h) (by kernel_rfl)
 ·cases h
def cV.l7 (F:Nat) (ak:Int->Int->Sl->Int->Int->Hp->OA) (fw:Nat->Nat->Nat->Nat->Int->Int->Hp->OA) :Nat->Nat->Nat->Int->Int->Int->Nat->Nat->Int->Int->Hp->OA
 | 0,_,_,_,_,_,_,_,_,_,_=>none
 | mH+1,eF,g_,dw,eY,eE,dx,iB,gy,fx,H23=>(bif (decide (fx<gy)) then ((Hp.ldI H23 .i64 dx iB).bind λn36=>(Hp.ldI H23 .i64 dx (iB+1)).bind λn37=>(Hp.ldSl H23 dx (iB+2)).bind λs38=>(ak n36 n37 s38 fx dw H23).bind λr39=>((r39.1).asP).bind λp40=>(if bt H23 r39.2 then ((Hp.ldI r39.2 .i64 dx iB).bind λn41=>(Hp.ldI r39.2 .i64 dx (iB+1)).bind λn42=>(Hp.ldSl r39.2 dx (iB+2)).bind λs43=>(ak n41 n42 s43 fx eY r39.2).bind λr44=>((r44.1).asP).bind λp45=>(Hp.ldI r44.2 .i64 p45.1 p45.2).bind λn46=>(fw eF g_ p40.1 p40.2 n46 eE r44.2).bind λr47=>cV.l7 F ak fw mH eF g_ dw eY eE dx iB gy (IntKind.i64.wrap (fx+1)) r47.2) else none)) else (some ((.tup []),H23)))
termination_by structural n=>n
def cV.twX (F:Nat) (ak:Int->Int->Sl->Int->Int->Hp->OA) (fw:Nat->Nat->Nat->Nat->Int->Int->Hp->OA) (aa:Nat) (af:Nat) (ai:Int) (aj:Int) (aJ:Sl) (dL:Int) (dM:Int) (dE:Int) (H:Hp):OA:=(Hp.new H [(.int .i64 ai),(.int .i64 aj),(.sl aJ)]).bind λH9=>(Hp.ldI H9 .i64 H.length 0).bind λn10=>cV.l7 F ak fw F aa af dL dM dE H.length 0 n10 0 H9
def cV.tw (F:Nat) (aa:Nat) (af:Nat) (ai:Int) (aj:Int) (aJ:Sl) (dL:Int) (dM:Int) (dE:Int) (H:Hp):OA:=cV.twX F (bI.tw F) (gw.tw F) aa af ai aj aJ dL dM dE H
def cV.lh7 (F:Nat) (ak:Int->Int->Sl->Int->Int->Hp->OA) (fw:Nat->Nat->Nat->Nat->Int->Int->Hp->OA) (ks:List Nat) (n:Nat) (tm:Tm) (H:Hp):OA:=match ks,tm 0,tm 2,tm 3,tm 4,tm 6,tm 12,tm 13 with
 | [],(.ptr eF g_),(.int .i64 dw),(.int .i64 eY),(.int .i64 eE),(.ptr dx iB),(.int .i64 gy),(.int .i64 fx)=>cV.l7 F ak fw n eF g_ dw eY eE dx iB gy fx H
 | _,_,_,_,_,_,_,_=>none
theorem cV.lh7_inv {F:Nat} {ak:Int->Int->Sl->Int->Int->Hp->OA} {fw:Nat->Nat->Nat->Nat->Int->Int->Hp->OA} {ks:List Nat} {n:Nat} {tm:Tm} {H:Hp} {r:AV×Hp} (h:cV.lh7 F ak fw ks n tm H=some r):∃ eF g_ dw eY eE dx iB gy fx,ks=[]/\eG tm [(0,(.ptr eF g_)),(2,(.int .i64 dw)),(3,(.int .i64 eY)),(4,(.int .i64 eE)),(6,(.ptr dx iB)),(12,(.int .i64 gy)),(13,(.int .i64 fx))]/\cV.l7 F ak fw n eF g_ dw eY eE dx iB gy fx H=some r:=by
 unfold cV.lh7 at h
 split at h
 ·exact ⟨_,_,_,_,_,_,_,_,_,rfl,⟨‹_›,‹_›,‹_›,‹_›,‹_›,‹_›,‹_›,trivial⟩,h⟩
 ·cases h
def cV.lh (F:Nat) (ak:Int->Int->Sl->Int->Int->Hp->OA) (fw:Nat->Nat->Nat->Nat->Int->Int->Hp->OA) (p:Nat) (ks:List Nat) (n:Nat) (tm:Tm) (H:Hp):OA:=bif p.beq 7 then cV.lh7 F ak fw ks n tm H else (none)
def cV.pn:Nat->List Nat:=fp [(4,[8,12])]
def cV.tb:Nat->List (List Nat):=fp [(4,[[],[],[],[],[1,2,3],[],[],[],[1,2,3,4,5,6,7],[1,2,3,4,5,6,7,8],[1,2,3,4,5,6,7,8,9],[],[0,1,2,3,4,5,6,7,8,9,10,11]])]
def cV.mk (g:Nat->Nat->Int->Int->Sl->Int->Int->Int->Hp->OA) (args:List AV) (H:Hp):OA:=match args with
 | [(.ptr aa af),(.agg [(.int .i64 ai),(.int .i64 aj),(.sl aJ)]),(.int .i64 dL),(.int .i64 dM),(.int .i64 dE)]=>g aa af ai aj aJ dL dM dE H
 | _=>none
def cV.cs (F:Nat) (ak:Int->Int->Sl->Int->Int->Hp->OA) (fw:Nat->Nat->Nat->Nat->Int->Int->Hp->OA):Cs:=[(95,bI.mk ak),(163,gw.mk fw)]
theorem cV.loops (F:Nat) (ak:Int->Int->Sl->Int->Int->Hp->OA) (fw:Nat->Nat->Nat->Nat->Int->Int->Hp->OA):LO (bF (cV.cs F ak fw)) cV.pn (cV.lh F ak fw) F Try.f158:=
 (ah.rt (ah.rt (ah.block (ah.loop (λtm H=>eP λr h=>by obtain ⟨eF,g_,dw,eY,eE,dx,iB,gy,fx,hks,e,h⟩:=cV.lh7_inv (show cV.lh7 F ak fw [] 0 tm H=some r from h);cases h) (λk7 tm H r h=>by obtain ⟨eF,g_,dw,eY,eE,dx,iB,gy,fx,hks,e,h⟩:=cV.lh7_inv (show cV.lh7 F ak fw [] (k7+1) tm H=some r from h);rw [<- eM e];exact Eq.trans (by kernel_rfl) h) λk7=>ah.no))))
theorem cV.eqX (F:Nat) (ak:Int->Int->Sl->Int->Int->Hp->OA) (fw:Nat->Nat->Nat->Nat->Int->Int->Hp->OA) (aa:Nat) (af:Nat) (ai:Int) (aj:Int) (aJ:Sl) (dL:Int) (dM:Int) (dE:Int) (H:Hp):EX (bF (cV.cs F ak fw)) cV.pn (cV.lh F ak fw) F Try.f158 [(.ptr aa af),(.agg [(.int .i64 ai),(.int .i64 aj),(.sl aJ)]),(.int .i64 dL),(.int .i64 dM),(.int .i64 dE)] H=cV.twX F ak fw aa af ai aj aJ dL dM dE H:=by kernel_rfl
theorem cV.k (F:Nat):Ok Try.prog 158 (cV.mk (cV.tw F)):=by
 intro args H v H' h
 unfold cV.mk at h
 split at h
 ·exact okT (TB:=cV.tb) Try.func158 (bG (bI.k F) (bG (gw.k F) cK)) (cV.loops F (bI.tw F) (gw.tw F)) ((cV.eqX F (bI.tw F) (gw.tw F) _ _ _ _ _ _ _ _ H).trans h) (by kernel_rfl)
 ·cases h
def fa.twX (F:Nat) (nu:Nat->Nat->Int->Int->Sl->Int->Int->Int->Hp->OA) (nv:Nat->Nat->Int->Int->Sl->Int->Int->Int->Hp->OA) (aa:Nat) (af:Nat) (ai:Int) (cH:Int) (dy:Int) (H:Hp):OA:=(Hp.ldI H .i64 aa (af+6)).bind λn6=>(Hp.ldI H .i64 aa ((af+6)+1)).bind λn7=>(Hp.ldSl H aa ((af+6)+2)).bind λs8=>(nu aa af n6 n7 s8 ai cH dy H).bind λr9=>(Hp.ldI r9.2 .i64 aa af).bind λn10=>(Hp.ldI r9.2 .i64 aa (af+1)).bind λn11=>(Hp.ldSl r9.2 aa (af+2)).bind λs12=>(nu aa af n10 n11 s12 ai cH dy r9.2).bind λr13=>(Hp.ldI r13.2 .i64 aa (af+3)).bind λn14=>(Hp.ldI r13.2 .i64 aa ((af+3)+1)).bind λn15=>(Hp.ldSl r13.2 aa ((af+3)+2)).bind λs16=>(nv aa af n14 n15 s16 cH ai (IntKind.i64.wrap (0 - dy)) r13.2).bind λr17=>some ((.tup []),r17.2)
def fa.tw (F:Nat) (aa:Nat) (af:Nat) (ai:Int) (cH:Int) (dy:Int) (H:Hp):OA:=fa.twX F (cU.tw F) (cV.tw F) aa af ai cH dy H
def fa.mk (g:Nat->Nat->Int->Int->Int->Hp->OA) (args:List AV) (H:Hp):OA:=match args with
 | [(.ptr aa af),(.int .i64 ai),(.int .i64 cH),(.int .i64 dy)]=>g aa af ai cH dy H
 | _=>none
def fa.cs (F:Nat) (nu:Nat->Nat->Int->Int->Sl->Int->Int->Int->Hp->OA) (nv:Nat->Nat->Int->Int->Sl->Int->Int->Int->Hp->OA):Cs:=[(157,cU.mk nu),(158,cV.mk nv)]
theorem fa.eqX (F:Nat) (nu:Nat->Nat->Int->Int->Sl->Int->Int->Int->Hp->OA) (nv:Nat->Nat->Int->Int->Sl->Int->Int->Int->Hp->OA) (aa:Nat) (af:Nat) (ai:Int) (cH:Int) (dy:Int) (H:Hp):EX (bF (fa.cs F nu nv)) bp lh0 F Try.f137 [(.ptr aa af),(.int .i64 ai),(.int .i64 cH),(.int .i64 dy)] H=fa.twX F nu nv aa af ai cH dy H:=by kernel_rfl
theorem fa.k (F:Nat):Ok Try.prog 137 (fa.mk (fa.tw F)):=by
 intro args H v H' h
 unfold fa.mk at h
 split at h
 ·exact okT (TB:=bp) Try.func137 (bG (cU.k F) (bG (cV.k F) cK)) ah.no ((fa.eqX F (cU.tw F) (cV.tw F) _ _ _ _ _ H).trans h) (by kernel_rfl)
 ·cases h
def gJ.twX (F:Nat) (nv:Nat->Nat->Int->Int->Sl->Int->Int->Int->Hp->OA) (nu:Nat->Nat->Int->Int->Sl->Int->Int->Int->Hp->OA) (aa:Nat) (af:Nat) (ai:Int) (cH:Int) (dy:Int) (H:Hp):OA:=(Hp.ldI H .i64 aa (af+6)).bind λn6=>(Hp.ldI H .i64 aa ((af+6)+1)).bind λn7=>(Hp.ldSl H aa ((af+6)+2)).bind λs8=>(nv aa af n6 n7 s8 ai cH dy H).bind λr9=>(Hp.ldI r9.2 .i64 aa (af+9)).bind λn10=>(Hp.ldI r9.2 .i64 aa ((af+9)+1)).bind λn11=>(Hp.ldSl r9.2 aa ((af+9)+2)).bind λs12=>(nv aa af n10 n11 s12 ai cH dy r9.2).bind λr13=>(Hp.ldI r13.2 .i64 aa (af+12)).bind λn14=>(Hp.ldI r13.2 .i64 aa ((af+12)+1)).bind λn15=>(Hp.ldSl r13.2 aa ((af+12)+2)).bind λs16=>(nu aa af n14 n15 s16 cH ai (IntKind.i64.wrap (0 - dy)) r13.2).bind λr17=>some ((.tup []),r17.2)
def gJ.tw (F:Nat) (aa:Nat) (af:Nat) (ai:Int) (cH:Int) (dy:Int) (H:Hp):OA:=gJ.twX F (cV.tw F) (cU.tw F) aa af ai cH dy H
def gJ.mk (g:Nat->Nat->Int->Int->Int->Hp->OA) (args:List AV) (H:Hp):OA:=match args with
 | [(.ptr aa af),(.int .i64 ai),(.int .i64 cH),(.int .i64 dy)]=>g aa af ai cH dy H
 | _=>none
def gJ.cs (F:Nat) (nv:Nat->Nat->Int->Int->Sl->Int->Int->Int->Hp->OA) (nu:Nat->Nat->Int->Int->Sl->Int->Int->Int->Hp->OA):Cs:=[(158,cV.mk nv),(157,cU.mk nu)]
theorem gJ.eqX (F:Nat) (nv:Nat->Nat->Int->Int->Sl->Int->Int->Int->Hp->OA) (nu:Nat->Nat->Int->Int->Sl->Int->Int->Int->Hp->OA) (aa:Nat) (af:Nat) (ai:Int) (cH:Int) (dy:Int) (H:Hp):EX (bF (gJ.cs F nv nu)) bp lh0 F Try.f154 [(.ptr aa af),(.int .i64 ai),(.int .i64 cH),(.int .i64 dy)] H=gJ.twX F nv nu aa af ai cH dy H:=by kernel_rfl
theorem gJ.k (F:Nat):Ok Try.prog 154 (gJ.mk (gJ.tw F)):=by
 intro args H v H' h
 unfold gJ.mk at h
 split at h
 ·exact okT (TB:=bp) Try.func154 (bG (cV.k F) (bG (cU.k F) cK)) ah.no ((gJ.eqX F (cV.tw F) (cU.tw F) _ _ _ _ _ H).trans h) (by kernel_rfl)
 ·cases h
def aX.j3 (F:Nat) (ak:Int->Int->Sl->Int->Int->Hp->OA) (fy:Int->Int->Hp->OA) (dg:Nat->Nat->Int->Int->Int->Hp->OA) (fC:Nat->Nat->Int->Int->Int->Hp->OA) (C15_:Nat->Nat->Int->Nat->Nat->Int->Hp->OA) (Oz:Nat) (OB:Nat) (ur:Int) (yd:Nat) (OC:Nat) (ut:Int) (H119:Hp):OA:=C15_ Oz OB ur yd OC (IntKind.i64.wrap (ut+1)) H119
def aX.l15 (F:Nat) (ak:Int->Int->Sl->Int->Int->Hp->OA) (fy:Int->Int->Hp->OA) (dg:Nat->Nat->Int->Int->Int->Hp->OA) (fC:Nat->Nat->Int->Int->Int->Hp->OA) :Nat->Nat->Nat->Int->Nat->Nat->Int->Hp->OA
 | 0,_,_,_,_,_,_,_=>none
 | GK+1,kb,kc,gQ,kC,mC,jT,H61=>(Hp.ldI H61 .i64 kC (mC+1)).bind λn91=>(bif (decide (jT<n91)) then ((Hp.ldB H61 kb (kc+15)).bind λb92=>(bif (!b92) then ((Hp.ldI H61 .i64 kC mC).bind λn93=>(Hp.ldI H61 .i64 kC (mC+1)).bind λn94=>(Hp.ldSl H61 kC (mC+2)).bind λs95=>(ak n93 n94 s95 gQ jT H61).bind λr96=>((r96.1).asP).bind λp97=>(if bt H61 r96.2 then ((Hp.ldI r96.2 .i64 p97.1 p97.2).bind λn98=>(Hp.ldI r96.2 .i64 kC mC).bind λn99=>(Hp.ldI r96.2 .i64 kC (mC+1)).bind λn100=>(Hp.ldSl r96.2 kC (mC+2)).bind λs101=>(ak n99 n100 s101 gQ gQ r96.2).bind λr102=>((r102.1).asP).bind λp103=>(if bt r96.2 r102.2 then ((Hp.ldI r102.2 .i64 p103.1 p103.2).bind λn104=>(fy n98 n104 r102.2).bind λr105=>((r105.1).asI .i64).bind λn106=>(bif (n106 != 0) then ((fC kb kc jT gQ (IntKind.i64.wrap (0 - n106)) r105.2).bind λr107=>aX.j3 F ak fy dg fC (aX.l15 F ak fy dg fC GK) kb kc gQ kC mC jT r107.2) else (aX.j3 F ak fy dg fC (aX.l15 F ak fy dg fC GK) kb kc gQ kC mC jT r105.2))) else none)) else none)) else (some ((.tup []),H61)))) else (some ((.tup []),H61)))
termination_by structural n=>n
def aX.j4 (F:Nat) (ak:Int->Int->Sl->Int->Int->Hp->OA) (fy:Int->Int->Hp->OA) (dg:Nat->Nat->Int->Int->Int->Hp->OA) (fC:Nat->Nat->Int->Int->Int->Hp->OA) (OD:Nat) (OE:Nat) (qu:Int) (ye:Nat) (OF:Nat) (H52:Hp):OA:=aX.l15 F ak fy dg fC F OD OE qu ye OF (IntKind.i64.wrap (qu+1)) H52
def aX.j5 (F:Nat) (ak:Int->Int->Sl->Int->Int->Hp->OA) (fy:Int->Int->Hp->OA) (dg:Nat->Nat->Int->Int->Int->Hp->OA) (fC:Nat->Nat->Int->Int->Int->Hp->OA) (C13_:Nat->Nat->Int->Nat->Nat->Int->Hp->OA) (OG:Nat) (OH:Nat) (uu:Int) (yf:Nat) (qr:Nat) (uv:Int) (H146:Hp):OA:=C13_ OG OH uu yf qr (IntKind.i64.wrap (uv+1)) H146
def aX.l13 (F:Nat) (ak:Int->Int->Sl->Int->Int->Hp->OA) (fy:Int->Int->Hp->OA) (dg:Nat->Nat->Int->Int->Int->Hp->OA) (fC:Nat->Nat->Int->Int->Int->Hp->OA) :Nat->Nat->Nat->Int->Nat->Nat->Int->Hp->OA
 | 0,_,_,_,_,_,_,_=>none
 | iY+1,eF,g_,dX,gm,lD,gC,H17=>(Hp.ldI H17 .i64 gm lD).bind λn120=>(bif (decide (gC<n120)) then ((Hp.ldB H17 eF (g_+15)).bind λb121=>(bif (!b121) then ((Hp.ldI H17 .i64 gm lD).bind λn122=>(Hp.ldI H17 .i64 gm (lD+1)).bind λn123=>(Hp.ldSl H17 gm (lD+2)).bind λs124=>(ak n122 n123 s124 gC dX H17).bind λr125=>((r125.1).asP).bind λp126=>(if bt H17 r125.2 then ((Hp.ldI r125.2 .i64 p126.1 p126.2).bind λn127=>(Hp.ldI r125.2 .i64 gm lD).bind λn128=>(Hp.ldI r125.2 .i64 gm (lD+1)).bind λn129=>(Hp.ldSl r125.2 gm (lD+2)).bind λs130=>(ak n128 n129 s130 dX dX r125.2).bind λr131=>((r131.1).asP).bind λp132=>(if bt r125.2 r131.2 then ((Hp.ldI r131.2 .i64 p132.1 p132.2).bind λn133=>(fy n127 n133 r131.2).bind λr134=>((r134.1).asI .i64).bind λn135=>(bif (n135 != 0) then ((dg eF g_ gC dX (IntKind.i64.wrap (0 - n135)) r134.2).bind λr136=>aX.j5 F ak fy dg fC (aX.l13 F ak fy dg fC iY) eF g_ dX gm lD gC r136.2) else (aX.j5 F ak fy dg fC (aX.l13 F ak fy dg fC iY) eF g_ dX gm lD gC r134.2))) else none)) else none)) else (aX.j4 F ak fy dg fC eF g_ dX gm lD H17))) else (aX.j4 F ak fy dg fC eF g_ dX gm lD H17))
termination_by structural n=>n
def aX.twX (F:Nat) (ak:Int->Int->Sl->Int->Int->Hp->OA) (fy:Int->Int->Hp->OA) (dg:Nat->Nat->Int->Int->Int->Hp->OA) (fC:Nat->Nat->Int->Int->Int->Hp->OA) (aa:Nat) (af:Nat) (ai:Int) (H:Hp):OA:=(Hp.ldI H .i64 aa (af+6)).bind λn4=>(Hp.ldI H .i64 aa ((af+6)+1)).bind λn5=>(Hp.ldSl H aa ((af+6)+2)).bind λs6=>(Hp.new H [.int .i64 0,.int .i64 0,.sl ⟨none,0,.ex 0⟩]).bind λH7=>(Hp.st H7 H.length 0 (.int .i64 n4)).bind λH8=>(Hp.st H8 H.length (0+1) (.int .i64 n5)).bind λH9=>(Hp.st H9 H.length (0+1+1) (.sl s6)).bind λH10=>aX.l13 F ak fy dg fC F aa af ai H.length 0 (IntKind.i64.wrap (ai+1)) H10
def aX.tw (F:Nat) (aa:Nat) (af:Nat) (ai:Int) (H:Hp):OA:=aX.twX F (bI.tw F) (gI.tw F) (fa.tw F) (gJ.tw F) aa af ai H
def aX.lh13 (F:Nat) (ak:Int->Int->Sl->Int->Int->Hp->OA) (fy:Int->Int->Hp->OA) (dg:Nat->Nat->Int->Int->Int->Hp->OA) (fC:Nat->Nat->Int->Int->Int->Hp->OA) (ks:List Nat) (n:Nat) (tm:Tm) (H:Hp):OA:=match ks,tm 0,tm 1,tm 4,tm 5 with
 | [],(.ptr eF g_),(.int .i64 dX),(.ptr gm lD),(.int .i64 gC)=>aX.l13 F ak fy dg fC n eF g_ dX gm lD gC H
 | _,_,_,_,_=>none
theorem aX.lh13_inv {F:Nat} {ak:Int->Int->Sl->Int->Int->Hp->OA} {fy:Int->Int->Hp->OA} {dg:Nat->Nat->Int->Int->Int->Hp->OA} {fC:Nat->Nat->Int->Int->Int->Hp->OA} {ks:List Nat} {n:Nat} {tm:Tm} {H:Hp} {r:AV×Hp} (h:aX.lh13 F ak fy dg fC ks n tm H=some r):∃ eF g_ dX gm lD gC,ks=[]/\eG tm [(0,(.ptr eF g_)),(1,(.int .i64 dX)),(4,(.ptr gm lD)),(5,(.int .i64 gC))]/\aX.l13 F ak fy dg fC n eF g_ dX gm lD gC H=some r:=by
 unfold aX.lh13 at h
 split at h
 ·exact ⟨_,_,_,_,_,_,rfl,⟨‹_›,‹_›,‹_›,‹_›,trivial⟩,h⟩
 ·cases h
def aX.lh15 (F:Nat) (ak:Int->Int->Sl->Int->Int->Hp->OA) (fy:Int->Int->Hp->OA) (dg:Nat->Nat->Int->Int->Int->Hp->OA) (fC:Nat->Nat->Int->Int->Int->Hp->OA) (ks:List Nat) (n:Nat) (tm:Tm) (H:Hp):OA:=match ks,tm 0,tm 1,tm 4,tm 7 with
 | [],(.ptr kb kc),(.int .i64 gQ),(.ptr kC mC),(.int .i64 jT)=>aX.l15 F ak fy dg fC n kb kc gQ kC mC jT H
 | _,_,_,_,_=>none
theorem aX.lh15_inv {F:Nat} {ak:Int->Int->Sl->Int->Int->Hp->OA} {fy:Int->Int->Hp->OA} {dg:Nat->Nat->Int->Int->Int->Hp->OA} {fC:Nat->Nat->Int->Int->Int->Hp->OA} {ks:List Nat} {n:Nat} {tm:Tm} {H:Hp} {r:AV×Hp} (h:aX.lh15 F ak fy dg fC ks n tm H=some r):∃ kb kc gQ kC mC jT,ks=[]/\eG tm [(0,(.ptr kb kc)),(1,(.int .i64 gQ)),(4,(.ptr kC mC)),(7,(.int .i64 jT))]/\aX.l15 F ak fy dg fC n kb kc gQ kC mC jT H=some r:=by
 unfold aX.lh15 at h
 split at h
 ·exact ⟨_,_,_,_,_,_,rfl,⟨‹_›,‹_›,‹_›,‹_›,trivial⟩,h⟩
 ·cases h
def aX.lh (F:Nat) (ak:Int->Int->Sl->Int->Int->Hp->OA) (fy:Int->Int->Hp->OA) (dg:Nat->Nat->Int->Int->Int->Hp->OA) (fC:Nat->Nat->Int->Int->Int->Hp->OA) (p:Nat) (ks:List Nat) (n:Nat) (tm:Tm) (H:Hp):OA:=bif p.beq 15 then aX.lh15 F ak fy dg fC ks n tm H else (bif p.beq 13 then aX.lh13 F ak fy dg fC ks n tm H else (none))
def aX.pn:Nat->List Nat:=fp [(4,[12]),(10,[12])]
def aX.tb:Nat->List (List Nat):=fp [(4,[[],[],[],[0,1,2],[0,1,2,3],[0,1,2,3,4],[],[],[],[0,1,2,3,6,7,8],[0,1,2,3,6,7,8,9],[0,1,2,3,6,7,8,9,10],[0,1,2,3,4,5,6,7,8,9,10,11],[0,1,2,3,4,5,6,7,8,9,10,11,12]]),(10,[[],[],[],[0,1,2],[0,1,2,3],[0,1,2,3,4],[],[],[],[0,1,2,3,6,7,8],[0,1,2,3,6,7,8,9],[0,1,2,3,6,7,8,9,10],[0,1,2,3,4,5,6,7,8,9,10,11],[0,1,2,3,4,5,6,7,8,9,10,11,12]])]
def aX.mk (g:Nat->Nat->Int->Hp->OA) (args:List AV) (H:Hp):OA:=match args with
 | [(.ptr aa af),(.int .i64 ai)]=>g aa af ai H
 | _=>none
def aX.cs (F:Nat) (ak:Int->Int->Sl->Int->Int->Hp->OA) (fy:Int->Int->Hp->OA) (dg:Nat->Nat->Int->Int->Int->Hp->OA) (fC:Nat->Nat->Int->Int->Int->Hp->OA):Cs:=[(95,bI.mk ak),(153,gI.mk fy),(137,fa.mk dg),(154,gJ.mk fC)]
theorem aX.loops (F:Nat) (ak:Int->Int->Sl->Int->Int->Hp->OA) (fy:Int->Int->Hp->OA) (dg:Nat->Nat->Int->Int->Int->Hp->OA) (fC:Nat->Nat->Int->Int->Int->Hp->OA):LO (bF (aX.cs F ak fy dg fC)) aX.pn (aX.lh F ak fy dg fC) F Try.f134:=
 (ah.rt (ah.seq (ah.rt (ah.block (ah.loop (λtm H=>eP λr h=>by obtain ⟨eF,g_,dX,gm,lD,gC,hks,e,h⟩:=aX.lh13_inv (show aX.lh13 F ak fy dg fC [] 0 tm H=some r from h);cases h) (λk13 tm H r h=>by obtain ⟨eF,g_,dX,gm,lD,gC,hks,e,h⟩:=aX.lh13_inv (show aX.lh13 F ak fy dg fC [] (k13+1) tm H=some r from h);rw [<- eM e];exact Eq.trans (by kernel_rfl) h) λk13=>ah.no))) (ah.rt (ah.block (ah.loop (λtm H=>eP λr h=>by obtain ⟨kb,kc,gQ,kC,mC,jT,hks,e,h⟩:=aX.lh15_inv (show aX.lh15 F ak fy dg fC [] 0 tm H=some r from h);cases h) (λk15 tm H r h=>by obtain ⟨kb,kc,gQ,kC,mC,jT,hks,e,h⟩:=aX.lh15_inv (show aX.lh15 F ak fy dg fC [] (k15+1) tm H=some r from h);rw [<- eM e];exact Eq.trans (by kernel_rfl) h) λk15=>ah.no)))))
theorem aX.eqX (F:Nat) (ak:Int->Int->Sl->Int->Int->Hp->OA) (fy:Int->Int->Hp->OA) (dg:Nat->Nat->Int->Int->Int->Hp->OA) (fC:Nat->Nat->Int->Int->Int->Hp->OA) (aa:Nat) (af:Nat) (ai:Int) (H:Hp):EX (bF (aX.cs F ak fy dg fC)) aX.pn (aX.lh F ak fy dg fC) F Try.f134 [(.ptr aa af),(.int .i64 ai)] H=aX.twX F ak fy dg fC aa af ai H:=by kernel_rfl
theorem aX.k (F:Nat):Ok Try.prog 134 (aX.mk (aX.tw F)):=by
 intro args H v H' h
 unfold aX.mk at h
 split at h
 ·exact okT (TB:=aX.tb) Try.func134 (bG (bI.k F) (bG (gI.k F) (bG (fa.k F) (bG (gJ.k F) cK)))) (aX.loops F (bI.tw F) (gI.tw F) (fa.tw F) (gJ.tw F)) ((aX.eqX F (bI.tw F) (gI.tw F) (fa.tw F) (gJ.tw F) _ _ _ H).trans h) (by kernel_rfl)
 ·cases h
def iT.twX (F:Nat) (aa:Int) (H:Hp):OA:=some ((.bool (aa != 0)),H)
def iT.tw (F:Nat) (aa:Int) (H:Hp):OA:=iT.twX F aa H
def iT.mk (g:Int->Hp->OA) (args:List AV) (H:Hp):OA:=match args with
 | [(.int .i64 aa)]=>g aa H
 | _=>none
theorem iT.eqX (F:Nat) (aa:Int) (H:Hp):EX (bF []) bp lh0 F Try.f155 [(.int .i64 aa)] H=iT.twX F aa H:=by kernel_rfl
theorem iT.k (F:Nat):Ok Try.prog 155 (iT.mk (iT.tw F)):=by
 intro args H v H' h
 unfold iT.mk at h
 split at h
 ·exact okT (TB:=bp) Try.func155 cK ah.no ((iT.eqX F _ H).trans h) (by kernel_rfl)
 ·cases h
def dY.l13 (F:Nat) (jU:Int->Hp->OA) :Nat->Sl->Int->Int->Hp->OA
 | 0,_,_,_,_=>none
 | iY+1,gb,dT,cP,H6=>(bif (decide (cP<dT)) then ((Sl.idx gb cP 1).bind λp11=>(Hp.ldI H6 .i64 p11.1 p11.2).bind λn12=>(jU n12 H6).bind λr13=>((r13.1).asB).bind λb14=>(bif b14 then (some ((.int .i64 cP),r13.2)) else (dY.l13 F jU iY gb dT (IntKind.i64.wrap (cP+1)) r13.2))) else (some ((.int .i64 (-1)),H6)))
termination_by structural n=>n
def dY.twX (F:Nat) (jU:Int->Hp->OA) (aa:Sl) (H:Hp):OA:=dY.l13 F jU F aa (aa.n:Int) 0 H
def dY.tw (F:Nat) (aa:Sl) (H:Hp):OA:=dY.twX F (iT.tw F) aa H
def dY.lh13 (F:Nat) (jU:Int->Hp->OA) (ks:List Nat) (n:Nat) (tm:Tm) (H:Hp):OA:=match ks,tm 0,tm 1,tm 7,tm 8 with
 | [],(.sl gb),(.fn 155 []),(.int .i64 dT),(.int .i64 cP)=>dY.l13 F jU n gb dT cP H
 | _,_,_,_,_=>none
theorem dY.lh13_inv {F:Nat} {jU:Int->Hp->OA} {ks:List Nat} {n:Nat} {tm:Tm} {H:Hp} {r:AV×Hp} (h:dY.lh13 F jU ks n tm H=some r):∃ gb dT cP,ks=[]/\eG tm [(0,(.sl gb)),(1,(.fn 155 [])),(7,(.int .i64 dT)),(8,(.int .i64 cP))]/\dY.l13 F jU n gb dT cP H=some r:=by
 unfold dY.lh13 at h
 split at h
 ·exact ⟨_,_,_,rfl,⟨‹_›,‹_›,‹_›,‹_›,trivial⟩,h⟩
 ·cases h
def dY.lh (F:Nat) (jU:Int->Hp->OA) (p:Nat) (ks:List Nat) (n:Nat) (tm:Tm) (H:Hp):OA:=bif p.beq 13 then dY.lh13 F jU ks n tm H else (none)
def dY.mk (g:Sl->Hp->OA) (args:List AV) (H:Hp):OA:=match args with
 | [(.sl aa),(.fn 155 [])]=>g aa H
 | _=>none
def dY.cs (F:Nat) (jU:Int->Hp->OA):Cs:=[(155,iT.mk jU)]
theorem dY.loops (F:Nat) (jU:Int->Hp->OA):LO (bF (dY.cs F jU)) bp (dY.lh F jU) F Try.f117:=
 (ah.rt (ah.lt (ah.rt (ah.block (ah.loop (λtm H=>eP λr h=>by obtain ⟨gb,dT,cP,hks,e,h⟩:=dY.lh13_inv (show dY.lh13 F jU [] 0 tm H=some r from h);cases h) (λk13 tm H r h=>by obtain ⟨gb,dT,cP,hks,e,h⟩:=dY.lh13_inv (show dY.lh13 F jU [] (k13+1) tm H=some r from h);rw [<- eM e];exact Eq.trans (by kernel_rfl) h) λk13=>ah.no)))))
theorem dY.eqX (F:Nat) (jU:Int->Hp->OA) (aa:Sl) (H:Hp):EX (bF (dY.cs F jU)) bp (dY.lh F jU) F Try.f117 [(.sl aa),(.fn 155 [])] H=dY.twX F jU aa H:=by kernel_rfl
theorem dY.k (F:Nat):Ok Try.prog 117 (dY.mk (dY.tw F)):=by
 intro args H v H' h
 unfold dY.mk at h
 split at h
 ·exact okT (TB:=bp) Try.func117 (bG (iT.k F) cK) (dY.loops F (iT.tw F)) ((dY.eqX F (iT.tw F) _ H).trans h) (by kernel_rfl)
 ·cases h
def ib.twX (F:Nat) (uw:Sl->Hp->OA) (aa:Sl) (H:Hp):OA:=(uw aa H).bind λr2=>((r2.1).asI .i64).bind λn3=>some ((.bool (decide (n3>=0))),r2.2)
def ib.tw (F:Nat) (aa:Sl) (H:Hp):OA:=ib.twX F (dY.tw F) aa H
def ib.mk (g:Sl->Hp->OA) (args:List AV) (H:Hp):OA:=match args with
 | [(.sl aa),(.fn 155 [])]=>g aa H
 | _=>none
def ib.cs (F:Nat) (uw:Sl->Hp->OA):Cs:=[(117,dY.mk uw)]
theorem ib.eqX (F:Nat) (uw:Sl->Hp->OA) (aa:Sl) (H:Hp):EX (bF (ib.cs F uw)) bp lh0 F Try.f81 [(.sl aa),(.fn 155 [])] H=ib.twX F uw aa H:=by kernel_rfl
theorem ib.k (F:Nat):Ok Try.prog 81 (ib.mk (ib.tw F)):=by
 intro args H v H' h
 unfold ib.mk at h
 split at h
 ·exact okT (TB:=bp) Try.func81 (bG (dY.k F) cK) ah.no ((ib.eqX F (dY.tw F) _ H).trans h) (by kernel_rfl)
 ·cases h
def cQ.j1 (F:Nat) (ak:Int->Int->Sl->Int->Int->Hp->OA) (b_:Int->Int->Sl->Int->Hp->OA) (jr:Sl->Hp->OA) (qv:Int) (ux:Nat) (A_:Nat) (H34:Hp):OA:=(Hp.ldI H34 .i64 ux A_).bind λn35=>(Hp.ldI H34 .i64 ux (A_+1)).bind λn36=>(Hp.ldSl H34 ux (A_+2)).bind λs37=>(b_ n35 n36 s37 qv H34).bind λr38=>((r38.1).asSl).bind λs39=>(Sl.cut s39 1 (IntKind.i64.wrap (qv+1)) (s39.n:Int)).bind λs40=>(jr s40 r38.2).bind λr41=>((r41.1).asB).bind λb42=>some ((.bool (!b42)),r41.2)
def cQ.l29 (F:Nat) (ak:Int->Int->Sl->Int->Int->Hp->OA) (b_:Int->Int->Sl->Int->Hp->OA) (jr:Sl->Hp->OA) :Nat->Int->Nat->Nat->Int->Hp->OA
 | 0,_,_,_,_,_=>none
 | dI+1,dX,gP,gC,lE,H18=>(Hp.ldI H18 .i64 gP gC).bind λn43=>(bif (decide (lE<n43)) then ((Hp.ldI H18 .i64 gP gC).bind λn44=>(Hp.ldI H18 .i64 gP (gC+1)).bind λn45=>(Hp.ldSl H18 gP (gC+2)).bind λs46=>(ak n44 n45 s46 lE dX H18).bind λr47=>((r47.1).asP).bind λp48=>(Hp.ldI r47.2 .i64 p48.1 p48.2).bind λn49=>(bif (n49 != 0) then (some ((.bool false),r47.2)) else (cQ.l29 F ak b_ jr dI dX gP gC (IntKind.i64.wrap (lE+1)) r47.2))) else (cQ.j1 F ak b_ jr dX gP gC H18))
termination_by structural n=>n
def cQ.twX (F:Nat) (ak:Int->Int->Sl->Int->Int->Hp->OA) (b_:Int->Int->Sl->Int->Hp->OA) (jr:Sl->Hp->OA) (aa:Nat) (af:Nat) (ai:Int) (H:Hp):OA:=(Hp.ldI H .i64 aa (af+6)).bind λn4=>(Hp.ldI H .i64 aa ((af+6)+1)).bind λn5=>(Hp.ldSl H aa ((af+6)+2)).bind λs6=>(Hp.new H [.int .i64 0,.int .i64 0,.sl ⟨none,0,.ex 0⟩]).bind λH7=>(Hp.st H7 H.length 0 (.int .i64 n4)).bind λH8=>(Hp.st H8 H.length (0+1) (.int .i64 n5)).bind λH9=>(Hp.st H9 H.length (0+1+1) (.sl s6)).bind λH10=>cQ.l29 F ak b_ jr F ai H.length 0 (IntKind.i64.wrap (ai+1)) H10
def cQ.tw (F:Nat) (aa:Nat) (af:Nat) (ai:Int) (H:Hp):OA:=cQ.twX F (bI.tw F) (eS.tw F) (ib.tw F) aa af ai H
def cQ.lh29 (F:Nat) (ak:Int->Int->Sl->Int->Int->Hp->OA) (b_:Int->Int->Sl->Int->Hp->OA) (jr:Sl->Hp->OA) (ks:List Nat) (n:Nat) (tm:Tm) (H:Hp):OA:=match ks,tm 1,tm 5,tm 6 with
 | [],(.int .i64 dX),(.ptr gP gC),(.int .i64 lE)=>cQ.l29 F ak b_ jr n dX gP gC lE H
 | _,_,_,_=>none
theorem cQ.lh29_inv {F:Nat} {ak:Int->Int->Sl->Int->Int->Hp->OA} {b_:Int->Int->Sl->Int->Hp->OA} {jr:Sl->Hp->OA} {ks:List Nat} {n:Nat} {tm:Tm} {H:Hp} {r:AV×Hp} (h:cQ.lh29 F ak b_ jr ks n tm H=some r):∃ dX gP gC lE,ks=[]/\eG tm [(1,(.int .i64 dX)),(5,(.ptr gP gC)),(6,(.int .i64 lE))]/\cQ.l29 F ak b_ jr n dX gP gC lE H=some r:=by
 unfold cQ.lh29 at h
 split at h
 ·exact ⟨_,_,_,_,rfl,⟨‹_›,‹_›,‹_›,trivial⟩,h⟩
 ·cases h
def cQ.lh (F:Nat) (ak:Int->Int->Sl->Int->Int->Hp->OA) (b_:Int->Int->Sl->Int->Hp->OA) (jr:Sl->Hp->OA) (p:Nat) (ks:List Nat) (n:Nat) (tm:Tm) (H:Hp):OA:=bif p.beq 29 then cQ.lh29 F ak b_ jr ks n tm H else (none)
def cQ.mk (g:Nat->Nat->Int->Hp->OA) (args:List AV) (H:Hp):OA:=match args with
 | [(.ptr aa af),(.int .i64 ai)]=>g aa af ai H
 | _=>none
def cQ.cs (F:Nat) (ak:Int->Int->Sl->Int->Int->Hp->OA) (b_:Int->Int->Sl->Int->Hp->OA) (jr:Sl->Hp->OA):Cs:=[(95,bI.mk ak),(120,eS.mk b_),(81,ib.mk jr)]
theorem cQ.loops (F:Nat) (ak:Int->Int->Sl->Int->Int->Hp->OA) (b_:Int->Int->Sl->Int->Hp->OA) (jr:Sl->Hp->OA):LO (bF (cQ.cs F ak b_ jr)) bp (cQ.lh F ak b_ jr) F Try.f135:=
 (ah.rt (ah.rt (ah.lt (ah.rt (ah.block (ah.loop (λtm H=>eP λr h=>by obtain ⟨dX,gP,gC,lE,hks,e,h⟩:=cQ.lh29_inv (show cQ.lh29 F ak b_ jr [] 0 tm H=some r from h);cases h) (λk29 tm H r h=>by obtain ⟨dX,gP,gC,lE,hks,e,h⟩:=cQ.lh29_inv (show cQ.lh29 F ak b_ jr [] (k29+1) tm H=some r from h);rw [<- eM e];exact Eq.trans (by kernel_rfl) h) λk29=>ah.no))))))
theorem cQ.eqX (F:Nat) (ak:Int->Int->Sl->Int->Int->Hp->OA) (b_:Int->Int->Sl->Int->Hp->OA) (jr:Sl->Hp->OA) (aa:Nat) (af:Nat) (ai:Int) (H:Hp):EX (bF (cQ.cs F ak b_ jr)) bp (cQ.lh F ak b_ jr) F Try.f135 [(.ptr aa af),(.int .i64 ai)] H=cQ.twX F ak b_ jr aa af ai H:=by kernel_rfl
theorem cQ.k (F:Nat):Ok Try.prog 135 (cQ.mk (cQ.tw F)):=by
 intro args H v H' h
 unfold cQ.mk at h
 split at h
 ·exact okT (TB:=bp) Try.func135 (bG (bI.k F) (bG (eS.k F) (bG (ib.k F) cK))) (cQ.loops F (bI.tw F) (eS.tw F) (ib.tw F)) ((cQ.eqX F (bI.tw F) (eS.tw F) (ib.tw F) _ _ _ H).trans h) (by kernel_rfl)
 ·cases h
def io.twX (F:Nat) (ak:Int->Int->Sl->Int->Int->Hp->OA) (aa:Int) (ax:Nat) (ai:Nat) (cH:Nat) (bW:Nat) (H:Hp):OA:=(Hp.ldI H .i64 ax ai).bind λn6=>(Hp.ldI H .i64 ax (ai+1)).bind λn7=>(Hp.ldSl H ax (ai+2)).bind λs8=>(Hp.ldI H .i64 cH bW).bind λn9=>(Hp.ldI H .i64 cH bW).bind λn10=>(ak n6 n7 s8 n9 n10 H).bind λr11=>((r11.1).asP).bind λp12=>(Hp.ldI r11.2 .i64 p12.1 p12.2).bind λn13=>(if n13=0 then none else (some ((.bool ((Int.tmod aa n13) != 0)),r11.2)))
def io.tw (F:Nat) (aa:Int) (ax:Nat) (ai:Nat) (cH:Nat) (bW:Nat) (H:Hp):OA:=io.twX F (bI.tw F) aa ax ai cH bW H
def io.mk (g:Int->Nat->Nat->Nat->Nat->Hp->OA) (args:List AV) (H:Hp):OA:=match args with
 | [(.int .i64 aa),(.ptr ax ai),(.ptr cH bW)]=>g aa ax ai cH bW H
 | _=>none
def io.cs (F:Nat) (ak:Int->Int->Sl->Int->Int->Hp->OA):Cs:=[(95,bI.mk ak)]
theorem io.eqX (F:Nat) (ak:Int->Int->Sl->Int->Int->Hp->OA) (aa:Int) (ax:Nat) (ai:Nat) (cH:Nat) (bW:Nat) (H:Hp):EX (bF (io.cs F ak)) bp lh0 F Try.f156 [(.int .i64 aa),(.ptr ax ai),(.ptr cH bW)] H=io.twX F ak aa ax ai cH bW H:=by kernel_rfl
theorem io.k (F:Nat):Ok Try.prog 156 (io.mk (io.tw F)):=by
 intro args H v H' h
 unfold io.mk at h
 split at h
 ·exact okT (TB:=bp) Try.func156 (bG (bI.k F) cK) ah.no ((io.eqX F (bI.tw F) _ _ _ _ _ H).trans h) (by kernel_rfl)
 ·cases h
def dZ.l13 (F:Nat) (jV:Int->Nat->Nat->Nat->Nat->Hp->OA) :Nat->Sl->Nat->Nat->Nat->Nat->Int->Int->Hp->OA
 | 0,_,_,_,_,_,_,_,_=>none
 | iY+1,iv,ax,ai,aj,aJ,mD,kD,H10=>(bif (decide (kD<mD)) then ((Sl.idx iv kD 1).bind λp15=>(Hp.ldI H10 .i64 p15.1 p15.2).bind λn16=>(jV n16 ax ai aj aJ H10).bind λr17=>((r17.1).asB).bind λb18=>(bif b18 then (some ((.int .i64 kD),r17.2)) else (dZ.l13 F jV iY iv ax ai aj aJ mD (IntKind.i64.wrap (kD+1)) r17.2))) else (some ((.int .i64 (-1)),H10)))
termination_by structural n=>n
def dZ.twX (F:Nat) (jV:Int->Nat->Nat->Nat->Nat->Hp->OA) (aa:Sl) (ax:Nat) (ai:Nat) (aj:Nat) (aJ:Nat) (H:Hp):OA:=dZ.l13 F jV F aa ax ai aj aJ (aa.n:Int) 0 H
def dZ.tw (F:Nat) (aa:Sl) (ax:Nat) (ai:Nat) (aj:Nat) (aJ:Nat) (H:Hp):OA:=dZ.twX F (io.tw F) aa ax ai aj aJ H
def dZ.lh13 (F:Nat) (jV:Int->Nat->Nat->Nat->Nat->Hp->OA) (ks:List Nat) (n:Nat) (tm:Tm) (H:Hp):OA:=match ks,tm 0,tm 1,tm 7,tm 8 with
 | [],(.sl iv),(.fn 156 [(.ptr ax ai),(.ptr aj aJ)]),(.int .i64 mD),(.int .i64 kD)=>dZ.l13 F jV n iv ax ai aj aJ mD kD H
 | _,_,_,_,_=>none
theorem dZ.lh13_inv {F:Nat} {jV:Int->Nat->Nat->Nat->Nat->Hp->OA} {ks:List Nat} {n:Nat} {tm:Tm} {H:Hp} {r:AV×Hp} (h:dZ.lh13 F jV ks n tm H=some r):∃ iv ax ai aj aJ mD kD,ks=[]/\eG tm [(0,(.sl iv)),(1,(.fn 156 [(.ptr ax ai),(.ptr aj aJ)])),(7,(.int .i64 mD)),(8,(.int .i64 kD))]/\dZ.l13 F jV n iv ax ai aj aJ mD kD H=some r:=by
 unfold dZ.lh13 at h
 split at h
 ·exact ⟨_,_,_,_,_,_,_,rfl,⟨‹_›,‹_›,‹_›,‹_›,trivial⟩,h⟩
 ·cases h
def dZ.lh (F:Nat) (jV:Int->Nat->Nat->Nat->Nat->Hp->OA) (p:Nat) (ks:List Nat) (n:Nat) (tm:Tm) (H:Hp):OA:=bif p.beq 13 then dZ.lh13 F jV ks n tm H else (none)
def dZ.mk (g:Sl->Nat->Nat->Nat->Nat->Hp->OA) (args:List AV) (H:Hp):OA:=match args with
 | [(.sl aa),(.fn 156 [(.ptr ax ai),(.ptr aj aJ)])]=>g aa ax ai aj aJ H
 | _=>none
def dZ.cs (F:Nat) (jV:Int->Nat->Nat->Nat->Nat->Hp->OA):Cs:=[(156,io.mk jV)]
theorem dZ.loops (F:Nat) (jV:Int->Nat->Nat->Nat->Nat->Hp->OA):LO (bF (dZ.cs F jV)) bp (dZ.lh F jV) F Try.f117:=
 (ah.rt (ah.lt (ah.rt (ah.block (ah.loop (λtm H=>eP λr h=>by obtain ⟨iv,ax,ai,aj,aJ,mD,kD,hks,e,h⟩:=dZ.lh13_inv (show dZ.lh13 F jV [] 0 tm H=some r from h);cases h) (λk13 tm H r h=>by obtain ⟨iv,ax,ai,aj,aJ,mD,kD,hks,e,h⟩:=dZ.lh13_inv (show dZ.lh13 F jV [] (k13+1) tm H=some r from h);rw [<- eM e];exact Eq.trans (by kernel_rfl) h) λk13=>ah.no)))))
theorem dZ.eqX (F:Nat) (jV:Int->Nat->Nat->Nat->Nat->Hp->OA) (aa:Sl) (ax:Nat) (ai:Nat) (aj:Nat) (aJ:Nat) (H:Hp):EX (bF (dZ.cs F jV)) bp (dZ.lh F jV) F Try.f117 [(.sl aa),(.fn 156 [(.ptr ax ai),(.ptr aj aJ)])] H=dZ.twX F jV aa ax ai aj aJ H:=by kernel_rfl
theorem dZ.k (F:Nat):Ok Try.prog 117 (dZ.mk (dZ.tw F)):=by
 intro args H v H' h
 unfold dZ.mk at h
 split at h
 ·exact okT (TB:=bp) Try.func117 (bG (io.k F) cK) (dZ.loops F (io.tw F)) ((dZ.eqX F (io.tw F) _ _ _ _ _ H).trans h) (by kernel_rfl)
 ·cases h
def ip.twX (F:Nat) (uy:Sl->Nat->Nat->Nat->Nat->Hp->OA) (aa:Sl) (ax:Nat) (ai:Nat) (aj:Nat) (aJ:Nat) (H:Hp):OA:=(uy aa ax ai aj aJ H).bind λr6=>((r6.1).asI .i64).bind λn7=>some ((.bool (decide (n7>=0))),r6.2)
def ip.tw (F:Nat) (aa:Sl) (ax:Nat) (ai:Nat) (aj:Nat) (aJ:Nat) (H:Hp):OA:=ip.twX F (dZ.tw F) aa ax ai aj aJ H
def ip.mk (g:Sl->Nat->Nat->Nat->Nat->Hp->OA) (args:List AV) (H:Hp):OA:=match args with
 | [(.sl aa),(.fn 156 [(.ptr ax ai),(.ptr aj aJ)])]=>g aa ax ai aj aJ H
 | _=>none
def ip.cs (F:Nat) (uy:Sl->Nat->Nat->Nat->Nat->Hp->OA):Cs:=[(117,dZ.mk uy)]
theorem ip.eqX (F:Nat) (uy:Sl->Nat->Nat->Nat->Nat->Hp->OA) (aa:Sl) (ax:Nat) (ai:Nat) (aj:Nat) (aJ:Nat) (H:Hp):EX (bF (ip.cs F uy)) bp lh0 F Try.f81 [(.sl aa),(.fn 156 [(.ptr ax ai),(.ptr aj aJ)])] H=ip.twX F uy aa ax ai aj aJ H:=by kernel_rfl
theorem ip.k (F:Nat):Ok Try.prog 81 (ip.mk (ip.tw F)):=by
 intro args H v H' h
 unfold ip.mk at h
 split at h
 ·exact okT (TB:=bp) Try.func81 (bG (dZ.k F) cK) ah.no ((ip.eqX F (dZ.tw F) _ _ _ _ _ H).trans h) (by kernel_rfl)
 ·cases h
def dq.l29 (F:Nat) (b_:Int->Int->Sl->Int->Hp->OA) (jW:Sl->Nat->Nat->Nat->Nat->Hp->OA) :Nat->Nat->Nat->Nat->Nat->Int->Hp->OA
 | 0,_,_,_,_,_,_=>none
 | dI+1,eX,eY,lL,jl,fH,H22=>(Hp.ldI H22 .i64 lL jl).bind λn33=>(bif (decide (fH<n33)) then ((Hp.ldI H22 .i64 lL jl).bind λn34=>(Hp.ldI H22 .i64 lL (jl+1)).bind λn35=>(Hp.ldSl H22 lL (jl+2)).bind λs36=>(b_ n34 n35 s36 fH H22).bind λr37=>((r37.1).asSl).bind λs38=>(if bt H22 r37.2 then ((Hp.ldI r37.2 .i64 eX eY).bind λn39=>(Sl.cut s38 1 (IntKind.i64.wrap (n39+1)) (s38.n:Int)).bind λs40=>(jW s40 lL jl eX eY r37.2).bind λr41=>((r41.1).asB).bind λb42=>(bif b42 then (some ((.int .i64 fH),r41.2)) else (dq.l29 F b_ jW dI eX eY lL jl (IntKind.i64.wrap (fH+1)) r41.2))) else none)) else (some ((.int .i64 (-1)),H22)))
termination_by structural n=>n
def dq.twX (F:Nat) (b_:Int->Int->Sl->Int->Hp->OA) (jW:Sl->Nat->Nat->Nat->Nat->Hp->OA) (aa:Nat) (af:Nat) (ai:Int) (H:Hp):OA:=(Hp.new H [(.int .i64 ai)]).bind λH4=>(Hp.ldI H4 .i64 aa (af+6)).bind λn5=>(Hp.ldI H4 .i64 aa ((af+6)+1)).bind λn6=>(Hp.ldSl H4 aa ((af+6)+2)).bind λs7=>(Hp.new H4 [.int .i64 0,.int .i64 0,.sl ⟨none,0,.ex 0⟩]).bind λH8=>(Hp.st H8 H4.length 0 (.int .i64 n5)).bind λH9=>(Hp.st H9 H4.length (0+1) (.int .i64 n6)).bind λH10=>(Hp.st H10 H4.length (0+1+1) (.sl s7)).bind λH11=>(Hp.ldI H11 .i64 H.length 0).bind λn12=>dq.l29 F b_ jW F H.length 0 H4.length 0 (IntKind.i64.wrap (n12+1)) H11
def dq.tw (F:Nat) (aa:Nat) (af:Nat) (ai:Int) (H:Hp):OA:=dq.twX F (eS.tw F) (ip.tw F) aa af ai H
def dq.lh29 (F:Nat) (b_:Int->Int->Sl->Int->Hp->OA) (jW:Sl->Nat->Nat->Nat->Nat->Hp->OA) (ks:List Nat) (n:Nat) (tm:Tm) (H:Hp):OA:=match ks,tm 3,tm 5,tm 6 with
 | [],(.ptr eX eY),(.ptr lL jl),(.int .i64 fH)=>dq.l29 F b_ jW n eX eY lL jl fH H
 | _,_,_,_=>none
theorem dq.lh29_inv {F:Nat} {b_:Int->Int->Sl->Int->Hp->OA} {jW:Sl->Nat->Nat->Nat->Nat->Hp->OA} {ks:List Nat} {n:Nat} {tm:Tm} {H:Hp} {r:AV×Hp} (h:dq.lh29 F b_ jW ks n tm H=some r):∃ eX eY lL jl fH,ks=[]/\eG tm [(3,(.ptr eX eY)),(5,(.ptr lL jl)),(6,(.int .i64 fH))]/\dq.l29 F b_ jW n eX eY lL jl fH H=some r:=by
 unfold dq.lh29 at h
 split at h
 ·exact ⟨_,_,_,_,_,rfl,⟨‹_›,‹_›,‹_›,trivial⟩,h⟩
 ·cases h
def dq.lh (F:Nat) (b_:Int->Int->Sl->Int->Hp->OA) (jW:Sl->Nat->Nat->Nat->Nat->Hp->OA) (p:Nat) (ks:List Nat) (n:Nat) (tm:Tm) (H:Hp):OA:=bif p.beq 29 then dq.lh29 F b_ jW ks n tm H else (none)
def dq.pn:Nat->List Nat:=fp [(5,[7])]
def dq.tb:Nat->List (List Nat):=fp [(5,[[],[],[0,1],[],[3],[0,1,2,3,4],[],[0,1,2,3,4,5,6]])]
def dq.mk (g:Nat->Nat->Int->Hp->OA) (args:List AV) (H:Hp):OA:=match args with
 | [(.ptr aa af),(.int .i64 ai)]=>g aa af ai H
 | _=>none
def dq.cs (F:Nat) (b_:Int->Int->Sl->Int->Hp->OA) (jW:Sl->Nat->Nat->Nat->Nat->Hp->OA):Cs:=[(120,eS.mk b_),(81,ip.mk jW)]
theorem dq.loops (F:Nat) (b_:Int->Int->Sl->Int->Hp->OA) (jW:Sl->Nat->Nat->Nat->Nat->Hp->OA):LO (bF (dq.cs F b_ jW)) dq.pn (dq.lh F b_ jW) F Try.f136:=
 (ah.rt (ah.rt (ah.lt (ah.rt (ah.block (ah.loop (λtm H=>eP λr h=>by obtain ⟨eX,eY,lL,jl,fH,hks,e,h⟩:=dq.lh29_inv (show dq.lh29 F b_ jW [] 0 tm H=some r from h);cases h) (λk29 tm H r h=>by obtain ⟨eX,eY,lL,jl,fH,hks,e,h⟩:=dq.lh29_inv (show dq.lh29 F b_ jW [] (k29+1) tm H=some r from h);rw [<- eM e];exact Eq.trans (by kernel_rfl) h) λk29=>ah.no))))))
theorem dq.eqX (F:Nat) (b_:Int->Int->Sl->Int->Hp->OA) (jW:Sl->Nat->Nat->Nat->Nat->Hp->OA) (aa:Nat) (af:Nat) (ai:Int) (H:Hp):EX (bF (dq.cs F b_ jW)) dq.pn (dq.lh F b_ jW) F Try.f136 [(.ptr aa af),(.int .i64 ai)] H=dq.twX F b_ jW aa af ai H:=by kernel_rfl
theorem dq.k (F:Nat):Ok Try.prog 136 (dq.mk (dq.tw F)):=by
 intro args H v H' h
 unfold dq.mk at h
 split at h
 ·exact okT (TB:=dq.tb) Try.func136 (bG (eS.k F) (bG (ip.k F) cK)) (dq.loops F (eS.tw F) (ip.tw F)) ((dq.eqX F (eS.tw F) (ip.tw F) _ _ _ H).trans h) (by kernel_rfl)
 ·cases h
def bH.j4 (F:Nat) (hG:Nat->Nat->Int->Hp->OA) (hJ:Nat->Nat->Int->Hp->OA) (hN:Nat->Nat->Int->Hp->OA) (hO:Nat->Nat->Int->Hp->OA) (dg:Nat->Nat->Int->Int->Int->Hp->OA) (C3_:Nat->Nat->Int->Hp->OA) (OI:Nat) (OJ:Nat) (uz:Int) (H57:Hp):OA:=C3_ OI OJ uz H57
def bH.j5 (F:Nat) (hG:Nat->Nat->Int->Hp->OA) (hJ:Nat->Nat->Int->Hp->OA) (hN:Nat->Nat->Int->Hp->OA) (hO:Nat->Nat->Int->Hp->OA) (dg:Nat->Nat->Int->Int->Int->Hp->OA) (C3_:Nat->Nat->Int->Hp->OA) (OK:Nat) (OL:Nat) (uA:Int) (H80:Hp):OA:=C3_ OK OL uA H80
def bH.j6 (F:Nat) (hG:Nat->Nat->Int->Hp->OA) (hJ:Nat->Nat->Int->Hp->OA) (hN:Nat->Nat->Int->Hp->OA) (hO:Nat->Nat->Int->Hp->OA) (dg:Nat->Nat->Int->Int->Int->Hp->OA) (C3_:Nat->Nat->Int->Hp->OA) (tF:Nat) (tG:Nat) (uB:Int) (H71:Hp):OA:=bH.j5 F hG hJ hN hO dg C3_ tF tG uB H71
def bH.l3 (F:Nat) (hG:Nat->Nat->Int->Hp->OA) (hJ:Nat->Nat->Int->Hp->OA) (hN:Nat->Nat->Int->Hp->OA) (hO:Nat->Nat->Int->Hp->OA) (dg:Nat->Nat->Int->Int->Int->Hp->OA) :Nat->Nat->Nat->Int->Hp->OA
 | 0,_,_,_,_=>none
 | yh+1,dh,dK,h_,H6=>(Hp.ldB H6 dh (dK+15)).bind λb44=>(bif (!b44) then ((Hp.ldI H6 .i64 dh (dK+6)).bind λn45=>(Hp.ldI H6 .i64 dh ((dK+6)+1)).bind λn46=>(bif (decide (h_<(if n46<n45 then n46 else n45))) then ((hG dh dK h_ H6).bind λr47=>((r47.1).asB).bind λb48=>(bif (!b48) then (some ((.tup []),r47.2)) else ((hJ dh dK h_ r47.2).bind λr49=>(Hp.ldB r49.2 dh (dK+15)).bind λb50=>(bif b50 then (bH.j4 F hG hJ hN hO dg (bH.l3 F hG hJ hN hO dg yh) dh dK h_ r49.2) else ((hN dh dK h_ r49.2).bind λr58=>((r58.1).asB).bind λb59=>(bif (!b59) then (bH.j4 F hG hJ hN hO dg (bH.l3 F hG hJ hN hO dg yh) dh dK h_ r58.2) else ((hO dh dK h_ r58.2).bind λr60=>((r60.1).asI .i64).bind λn61=>(bif (decide (n61>=0)) then ((dg dh dK h_ n61 1 r60.2).bind λr62=>bH.j6 F hG hJ hN hO dg (bH.l3 F hG hJ hN hO dg yh) dh dK h_ r62.2) else (bH.j6 F hG hJ hN hO dg (bH.l3 F hG hJ hN hO dg yh) dh dK (IntKind.i64.wrap (h_+1)) r60.2))))))))) else (some ((.tup []),H6)))) else (some ((.tup []),H6)))
termination_by structural n=>n
def bH.twX (F:Nat) (hG:Nat->Nat->Int->Hp->OA) (hJ:Nat->Nat->Int->Hp->OA) (hN:Nat->Nat->Int->Hp->OA) (hO:Nat->Nat->Int->Hp->OA) (dg:Nat->Nat->Int->Int->Int->Hp->OA) (aa:Nat) (af:Nat) (H:Hp):OA:=bH.l3 F hG hJ hN hO dg F aa af 0 H
def bH.tw (F:Nat) (aa:Nat) (af:Nat) (H:Hp):OA:=bH.twX F (bD.tw F) (aX.tw F) (cQ.tw F) (dq.tw F) (fa.tw F) aa af H
def bH.lh3 (F:Nat) (hG:Nat->Nat->Int->Hp->OA) (hJ:Nat->Nat->Int->Hp->OA) (hN:Nat->Nat->Int->Hp->OA) (hO:Nat->Nat->Int->Hp->OA) (dg:Nat->Nat->Int->Int->Int->Hp->OA) (ks:List Nat) (n:Nat) (tm:Tm) (H:Hp):OA:=match ks,tm 0,tm 2 with
 | [],(.ptr dh dK),(.int .i64 h_)=>bH.l3 F hG hJ hN hO dg n dh dK h_ H
 | _,_,_=>none
theorem bH.lh3_inv {F:Nat} {hG:Nat->Nat->Int->Hp->OA} {hJ:Nat->Nat->Int->Hp->OA} {hN:Nat->Nat->Int->Hp->OA} {hO:Nat->Nat->Int->Hp->OA} {dg:Nat->Nat->Int->Int->Int->Hp->OA} {ks:List Nat} {n:Nat} {tm:Tm} {H:Hp} {r:AV×Hp} (h:bH.lh3 F hG hJ hN hO dg ks n tm H=some r):∃ dh dK h_,ks=[]/\eG tm [(0,(.ptr dh dK)),(2,(.int .i64 h_))]/\bH.l3 F hG hJ hN hO dg n dh dK h_ H=some r:=by
 unfold bH.lh3 at h
 split at h
 ·exact ⟨_,_,_,rfl,⟨‹_›,‹_›,trivial⟩,h⟩
 ·cases h
def bH.lh (F:Nat) (hG:Nat->Nat->Int->Hp->OA) (hJ:Nat->Nat->Int->Hp->OA) (hN:Nat->Nat->Int->Hp->OA) (hO:Nat->Nat->Int->Hp->OA) (dg:Nat->Nat->Int->Int->Int->Hp->OA) (p:Nat) (ks:List Nat) (n:Nat) (tm:Tm) (H:Hp):OA:=bif p.beq 3 then bH.lh3 F hG hJ hN hO dg ks n tm H else (none)
def bH.tb:Nat->List (List Nat):=fp [(1,[[],[0],[0,1],[0,1,2],[0,1,2,3],[0,1,2,3,4],[0,1,2,3,4,5],[0,1,2,3,4,5],[0,1,2,3,4,5,7],[0,1,2,3,4,5,7,8],[0,1,2,3,4,5,7,8,9],[0,1,2,3,4,5,7,8,9,10],[0,1,2,3,4,5,7,8,9,10,11],[0,1,2,3,4,5],[0,1,2,3,4,5,13],[0,1,2,3,4,5,13,14],[0,1,2,3,4,5,13,14,15],[0,1,2,3,4,5,13,14,15,16],[0,1,2,3,4,5,13,14,15,16,17],[0,1,2,3,4,5,7,8,9,10,11,12,13,14,15,16,17,18],[0,1,2,3,4,5,6,7,8,9,10,11,12,13,14,15,16,17,18,19],[0,1,2,3,4,5,6,7,8,9,10,11,12,13,14,15,16,17,18,19,20]])]
def bH.mk (g:Nat->Nat->Hp->OA) (args:List AV) (H:Hp):OA:=match args with
 | [(.ptr aa af)]=>g aa af H
 | _=>none
def bH.cs (F:Nat) (hG:Nat->Nat->Int->Hp->OA) (hJ:Nat->Nat->Int->Hp->OA) (hN:Nat->Nat->Int->Hp->OA) (hO:Nat->Nat->Int->Hp->OA) (dg:Nat->Nat->Int->Int->Int->Hp->OA):Cs:=[(133,bD.mk hG),(134,aX.mk hJ),(135,cQ.mk hN),(136,dq.mk hO),(137,fa.mk dg)]
theorem bH.loops (F:Nat) (hG:Nat->Nat->Int->Hp->OA) (hJ:Nat->Nat->Int->Hp->OA) (hN:Nat->Nat->Int->Hp->OA) (hO:Nat->Nat->Int->Hp->OA) (dg:Nat->Nat->Int->Int->Int->Hp->OA):LO (bF (bH.cs F hG hJ hN hO dg)) bp (bH.lh F hG hJ hN hO dg) F Try.f109:=
 (ah.rt (ah.block (ah.loop (λtm H=>eP λr h=>by obtain ⟨dh,dK,h_,hks,e,h⟩:=bH.lh3_inv (show bH.lh3 F hG hJ hN hO dg [] 0 tm H=some r from h);cases h) (λk3 tm H r h=>by obtain ⟨dh,dK,h_,hks,e,h⟩:=bH.lh3_inv (show bH.lh3 F hG hJ hN hO dg [] (k3+1) tm H=some r from h);rw [<- eM e];exact Eq.trans (by kernel_rfl) h) λk3=>ah.no)))
theorem bH.eqX (F:Nat) (hG:Nat->Nat->Int->Hp->OA) (hJ:Nat->Nat->Int->Hp->OA) (hN:Nat->Nat->Int->Hp->OA) (hO:Nat->Nat->Int->Hp->OA) (dg:Nat->Nat->Int->Int->Int->Hp->OA) (aa:Nat) (af:Nat) (H:Hp):EX (bF (bH.cs F hG hJ hN hO dg)) bp (bH.lh F hG hJ hN hO dg) F Try.f109 [(.ptr aa af)] H=bH.twX F hG hJ hN hO dg aa af H:=by kernel_rfl
theorem bH.k (F:Nat):Ok Try.prog 109 (bH.mk (bH.tw F)):=by
 intro args H v H' h
 unfold bH.mk at h
 split at h
 ·exact okT (TB:=bH.tb) Try.func109 (bG (bD.k F) (bG (aX.k F) (bG (cQ.k F) (bG (dq.k F) (bG (fa.k F) cK))))) (bH.loops F (bD.tw F) (aX.tw F) (cQ.tw F) (dq.tw F) (fa.tw F)) ((bH.eqX F (bD.tw F) (aX.tw F) (cQ.tw F) (dq.tw F) (fa.tw F) _ _ H).trans h) (by kernel_rfl)
 ·cases h
def hQ.twX (F:Nat) (uC:Int->Int->Sl->Hp->OA) (uD:Nat->Nat->Hp->OA) (aa:Int) (af:Int) (aC:Sl) (H:Hp):OA:=(Hp.new H [(.int .i64 aa),(.int .i64 af),(.sl aC)]).bind λH4=>(Hp.new H4 [.int .i64 0,.int .i64 0,.sl ⟨none,0,.ex 0⟩,.int .i64 0,.int .i64 0,.sl ⟨none,0,.ex 0⟩,.int .i64 0,.int .i64 0,.sl ⟨none,0,.ex 0⟩,.int .i64 0,.int .i64 0,.sl ⟨none,0,.ex 0⟩,.int .i64 0,.int .i64 0,.sl ⟨none,0,.ex 0⟩]).bind λH5=>(Hp.ldI H5 .i64 H.length 0).bind λn6=>(Hp.ldI H5 .i64 H.length (0+1)).bind λn7=>(Hp.ldSl H5 H.length (0+2)).bind λs8=>(uC n6 n7 s8 H5).bind λr9=>((r9.1).asP).bind λp10=>(uD p10.1 p10.2 r9.2).bind λr11=>(Hp.ldB r11.2 p10.1 (p10.2+15)).bind λb12=>(bif b12 then ((Hp.st r11.2 H4.length 0 (.int .i64 0)).bind λH13=>(Hp.st H13 H4.length (0+1) (.int .i64 0)).bind λH14=>(Hp.st H14 H4.length (0+1+1) (.sl (⟨none,0,.ex 0⟩:Sl))).bind λH15=>(Hp.st H15 H4.length (0+1+1+1) (.int .i64 0)).bind λH16=>(Hp.st H16 H4.length (0+1+1+1+1) (.int .i64 0)).bind λH17=>(Hp.st H17 H4.length (0+1+1+1+1+1) (.sl (⟨none,0,.ex 0⟩:Sl))).bind λH18=>(Hp.st H18 H4.length (0+1+1+1+1+1+1) (.int .i64 0)).bind λH19=>(Hp.st H19 H4.length (0+1+1+1+1+1+1+1) (.int .i64 0)).bind λH20=>(Hp.st H20 H4.length (0+1+1+1+1+1+1+1+1) (.sl (⟨none,0,.ex 0⟩:Sl))).bind λH21=>(Hp.st H21 H4.length (0+1+1+1+1+1+1+1+1+1) (.int .i64 0)).bind λH22=>(Hp.st H22 H4.length (0+1+1+1+1+1+1+1+1+1+1) (.int .i64 0)).bind λH23=>(Hp.st H23 H4.length (0+1+1+1+1+1+1+1+1+1+1+1) (.sl (⟨none,0,.ex 0⟩:Sl))).bind λH24=>(Hp.st H24 H4.length (0+1+1+1+1+1+1+1+1+1+1+1+1) (.int .i64 0)).bind λH25=>(Hp.st H25 H4.length (0+1+1+1+1+1+1+1+1+1+1+1+1+1) (.int .i64 0)).bind λH26=>(Hp.st H26 H4.length (0+1+1+1+1+1+1+1+1+1+1+1+1+1+1) (.sl (⟨none,0,.ex 0⟩:Sl))).bind λH27=>(Hp.ldI H27 .i64 H4.length 0).bind λn28=>(Hp.ldI H27 .i64 H4.length (0+1)).bind λn29=>(Hp.ldSl H27 H4.length (0+2)).bind λs30=>(Hp.ldI H27 .i64 H4.length (0+3)).bind λn31=>(Hp.ldI H27 .i64 H4.length (0+4)).bind λn32=>(Hp.ldSl H27 H4.length (0+5)).bind λs33=>(Hp.ldI H27 .i64 H4.length (0+6)).bind λn34=>(Hp.ldI H27 .i64 H4.length (0+7)).bind λn35=>(Hp.ldSl H27 H4.length (0+8)).bind λs36=>(Hp.ldI H27 .i64 H4.length (0+9)).bind λn37=>(Hp.ldI H27 .i64 H4.length (0+10)).bind λn38=>(Hp.ldSl H27 H4.length (0+11)).bind λs39=>(Hp.ldI H27 .i64 H4.length (0+12)).bind λn40=>(Hp.ldI H27 .i64 H4.length (0+13)).bind λn41=>(Hp.ldSl H27 H4.length (0+14)).bind λs42=>some ((.tup [(.agg [(.int .i64 n28),(.int .i64 n29),(.sl s30),(.int .i64 n31),(.int .i64 n32),(.sl s33),(.int .i64 n34),(.int .i64 n35),(.sl s36),(.int .i64 n37),(.int .i64 n38),(.sl s39),(.int .i64 n40),(.int .i64 n41),(.sl s42)]),(.int .i64 3)]),H27)) else ((Hp.ldI r11.2 .i64 p10.1 p10.2).bind λn43=>(Hp.ldI r11.2 .i64 p10.1 (p10.2+1)).bind λn44=>(Hp.ldSl r11.2 p10.1 (p10.2+2)).bind λs45=>(Hp.ldI r11.2 .i64 p10.1 (p10.2+3)).bind λn46=>(Hp.ldI r11.2 .i64 p10.1 (p10.2+4)).bind λn47=>(Hp.ldSl r11.2 p10.1 (p10.2+5)).bind λs48=>(Hp.ldI r11.2 .i64 p10.1 (p10.2+6)).bind λn49=>(Hp.ldI r11.2 .i64 p10.1 (p10.2+7)).bind λn50=>(Hp.ldSl r11.2 p10.1 (p10.2+8)).bind λs51=>(Hp.ldI r11.2 .i64 p10.1 (p10.2+9)).bind λn52=>(Hp.ldI r11.2 .i64 p10.1 (p10.2+10)).bind λn53=>(Hp.ldSl r11.2 p10.1 (p10.2+11)).bind λs54=>(Hp.ldI r11.2 .i64 p10.1 (p10.2+12)).bind λn55=>(Hp.ldI r11.2 .i64 p10.1 (p10.2+13)).bind λn56=>(Hp.ldSl r11.2 p10.1 (p10.2+14)).bind λs57=>(Hp.st r11.2 H4.length 0 (.int .i64 n43)).bind λH58=>(Hp.st H58 H4.length (0+1) (.int .i64 n44)).bind λH59=>(Hp.st H59 H4.length (0+1+1) (.sl s45)).bind λH60=>(Hp.st H60 H4.length (0+1+1+1) (.int .i64 n46)).bind λH61=>(Hp.st H61 H4.length (0+1+1+1+1) (.int .i64 n47)).bind λH62=>(Hp.st H62 H4.length (0+1+1+1+1+1) (.sl s48)).bind λH63=>(Hp.st H63 H4.length (0+1+1+1+1+1+1) (.int .i64 n49)).bind λH64=>(Hp.st H64 H4.length (0+1+1+1+1+1+1+1) (.int .i64 n50)).bind λH65=>(Hp.st H65 H4.length (0+1+1+1+1+1+1+1+1) (.sl s51)).bind λH66=>(Hp.st H66 H4.length (0+1+1+1+1+1+1+1+1+1) (.int .i64 n52)).bind λH67=>(Hp.st H67 H4.length (0+1+1+1+1+1+1+1+1+1+1) (.int .i64 n53)).bind λH68=>(Hp.st H68 H4.length (0+1+1+1+1+1+1+1+1+1+1+1) (.sl s54)).bind λH69=>(Hp.st H69 H4.length (0+1+1+1+1+1+1+1+1+1+1+1+1) (.int .i64 n55)).bind λH70=>(Hp.st H70 H4.length (0+1+1+1+1+1+1+1+1+1+1+1+1+1) (.int .i64 n56)).bind λH71=>(Hp.st H71 H4.length (0+1+1+1+1+1+1+1+1+1+1+1+1+1+1) (.sl s57)).bind λH72=>(Hp.ldI H72 .i64 H4.length 0).bind λn73=>(Hp.ldI H72 .i64 H4.length (0+1)).bind λn74=>(Hp.ldSl H72 H4.length (0+2)).bind λs75=>(Hp.ldI H72 .i64 H4.length (0+3)).bind λn76=>(Hp.ldI H72 .i64 H4.length (0+4)).bind λn77=>(Hp.ldSl H72 H4.length (0+5)).bind λs78=>(Hp.ldI H72 .i64 H4.length (0+6)).bind λn79=>(Hp.ldI H72 .i64 H4.length (0+7)).bind λn80=>(Hp.ldSl H72 H4.length (0+8)).bind λs81=>(Hp.ldI H72 .i64 H4.length (0+9)).bind λn82=>(Hp.ldI H72 .i64 H4.length (0+10)).bind λn83=>(Hp.ldSl H72 H4.length (0+11)).bind λs84=>(Hp.ldI H72 .i64 H4.length (0+12)).bind λn85=>(Hp.ldI H72 .i64 H4.length (0+13)).bind λn86=>(Hp.ldSl H72 H4.length (0+14)).bind λs87=>some ((.tup [(.agg [(.int .i64 n73),(.int .i64 n74),(.sl s75),(.int .i64 n76),(.int .i64 n77),(.sl s78),(.int .i64 n79),(.int .i64 n80),(.sl s81),(.int .i64 n82),(.int .i64 n83),(.sl s84),(.int .i64 n85),(.int .i64 n86),(.sl s87)]),(.int .i64 0)]),H72)))
def hQ.tw (F:Nat) (aa:Int) (af:Int) (aC:Sl) (H:Hp):OA:=hQ.twX F (jw.tw F) (bH.tw F) aa af aC H
def hQ.mk (g:Int->Int->Sl->Hp->OA) (args:List AV) (H:Hp):OA:=match args with
 | [(.agg [(.int .i64 aa),(.int .i64 af),(.sl aC)])]=>g aa af aC H
 | _=>none
def hQ.cs (F:Nat) (uC:Int->Int->Sl->Hp->OA) (uD:Nat->Nat->Hp->OA):Cs:=[(108,jw.mk uC),(109,bH.mk uD)]
theorem hQ.eqX (F:Nat) (uC:Int->Int->Sl->Hp->OA) (uD:Nat->Nat->Hp->OA) (aa:Int) (af:Int) (aC:Sl) (H:Hp):EX (bF (hQ.cs F uC uD)) bp lh0 F Try.f62 [(.agg [(.int .i64 aa),(.int .i64 af),(.sl aC)])] H=hQ.twX F uC uD aa af aC H:=by kernel_rfl
theorem hQ.k (F:Nat):Ok Try.prog 62 (hQ.mk (hQ.tw F)):=by
 intro args H v H' h
 unfold hQ.mk at h
 split at h
 ·exact okT (TB:=bp) Try.func62 (bG (jw.k F) (bG (bH.k F) cK)) ah.no ((hQ.eqX F (jw.tw F) (bH.tw F) _ _ _ H).trans h) (by kernel_rfl)
 ·cases h
def cJ.j2 (F:Nat) (jh:Int->Int->Sl->Hp->OA) (ak:Int->Int->Sl->Int->Int->Hp->OA) (C125_:Nat->Nat->Sl->Int->Int->Hp->OA) (yi:Nat) (OM:Nat) (OO:Sl) (uE:Int) (uF:Int) (H132:Hp):OA:=C125_ yi OM OO uE (IntKind.i64.wrap (uF+1)) H132
def cJ.l125 (F:Nat) (jh:Int->Int->Sl->Hp->OA) (ak:Int->Int->Sl->Int->Int->Hp->OA) :Nat->Nat->Nat->Sl->Int->Int->Hp->OA
 | 0,_,_,_,_,_,_=>none
 | GL+1,mE,ox,ph,lF,jX,H76=>(bif (decide (jX<lF)) then ((Hp.ldI H76 .i64 mE (ox+6)).bind λn105=>(Hp.ldI H76 .i64 mE ((ox+6)+1)).bind λn106=>(Hp.ldSl H76 mE ((ox+6)+2)).bind λs107=>(ak n105 n106 s107 jX jX H76).bind λr108=>((r108.1).asP).bind λp109=>(Hp.ldI r108.2 .i64 p109.1 p109.2).bind λn110=>(bif (n110 != 0) then ((Hp.new r108.2 [(.int .i64 n110)]).bind λH111=>(Sl.row H111 (⟨some (r108.2.length,0),1,.ex 1⟩:Sl) 1).bind λxs113=>(Hp.app H111 1 8 ph (⟨some (r108.2.length,0),1,.ex 1⟩:Sl).n xs113).bind λa112=>cJ.j2 F jh ak (cJ.l125 F jh ak GL) mE ox a112.1 lF jX a112.2) else (cJ.j2 F jh ak (cJ.l125 F jh ak GL) mE ox ph lF jX r108.2))) else (some ((.tup [(.sl ph),(.int .i64 0)]),H76)))
termination_by structural n=>n
def cJ.twX (F:Nat) (jh:Int->Int->Sl->Hp->OA) (ak:Int->Int->Sl->Int->Int->Hp->OA) (aa:Int) (af:Int) (aC:Sl) (H:Hp):OA:=(Hp.new H [(.int .i64 aa),(.int .i64 af),(.sl aC)]).bind λH4=>(Hp.ldI H4 .i64 H.length 0).bind λn5=>(Hp.ldI H4 .i64 H.length (0+1)).bind λn6=>(Hp.ldSl H4 H.length (0+2)).bind λs7=>(jh n5 n6 s7 H4).bind λr8=>((r8.1).asTup 2).bind λl9=>(l9[0]?).bind λv10=>((v10).asAgg 15).bind λl11=>(l11[0]?).bind λv12=>((v12).asI .i64).bind λn13=>(l11[1]?).bind λv14=>((v14).asI .i64).bind λn15=>(l11[2]?).bind λv16=>((v16).asSl).bind λs17=>(l11[3]?).bind λv18=>((v18).asI .i64).bind λn19=>(l11[4]?).bind λv20=>((v20).asI .i64).bind λn21=>(l11[5]?).bind λv22=>((v22).asSl).bind λs23=>(l11[6]?).bind λv24=>((v24).asI .i64).bind λn25=>(l11[7]?).bind λv26=>((v26).asI .i64).bind λn27=>(l11[8]?).bind λv28=>((v28).asSl).bind λs29=>(l11[9]?).bind λv30=>((v30).asI .i64).bind λn31=>(l11[10]?).bind λv32=>((v32).asI .i64).bind λn33=>(l11[11]?).bind λv34=>((v34).asSl).bind λs35=>(l11[12]?).bind λv36=>((v36).asI .i64).bind λn37=>(l11[13]?).bind λv38=>((v38).asI .i64).bind λn39=>(l11[14]?).bind λv40=>((v40).asSl).bind λs41=>(l9[1]?).bind λv42=>((v42).asI .i64).bind λn43=>(Hp.new r8.2 [.int .i64 0,.int .i64 0,.sl ⟨none,0,.ex 0⟩,.int .i64 0,.int .i64 0,.sl ⟨none,0,.ex 0⟩,.int .i64 0,.int .i64 0,.sl ⟨none,0,.ex 0⟩,.int .i64 0,.int .i64 0,.sl ⟨none,0,.ex 0⟩,.int .i64 0,.int .i64 0,.sl ⟨none,0,.ex 0⟩]).bind λH44=>(Hp.st H44 r8.2.length 0 (.int .i64 n13)).bind λH45=>(Hp.st H45 r8.2.length (0+1) (.int .i64 n15)).bind λH46=>(Hp.st H46 r8.2.length (0+1+1) (.sl s17)).bind λH47=>(Hp.st H47 r8.2.length (0+1+1+1) (.int .i64 n19)).bind λH48=>(Hp.st H48 r8.2.length (0+1+1+1+1) (.int .i64 n21)).bind λH49=>(Hp.st H49 r8.2.length (0+1+1+1+1+1) (.sl s23)).bind λH50=>(Hp.st H50 r8.2.length (0+1+1+1+1+1+1) (.int .i64 n25)).bind λH51=>(Hp.st H51 r8.2.length (0+1+1+1+1+1+1+1) (.int .i64 n27)).bind λH52=>(Hp.st H52 r8.2.length (0+1+1+1+1+1+1+1+1) (.sl s29)).bind λH53=>(Hp.st H53 r8.2.length (0+1+1+1+1+1+1+1+1+1) (.int .i64 n31)).bind λH54=>(Hp.st H54 r8.2.length (0+1+1+1+1+1+1+1+1+1+1) (.int .i64 n33)).bind λH55=>(Hp.st H55 r8.2.length (0+1+1+1+1+1+1+1+1+1+1+1) (.sl s35)).bind λH56=>(Hp.st H56 r8.2.length (0+1+1+1+1+1+1+1+1+1+1+1+1) (.int .i64 n37)).bind λH57=>(Hp.st H57 r8.2.length (0+1+1+1+1+1+1+1+1+1+1+1+1+1) (.int .i64 n39)).bind λH58=>(Hp.st H58 r8.2.length (0+1+1+1+1+1+1+1+1+1+1+1+1+1+1) (.sl s41)).bind λH59=>(bif (n43 != 0) then (some ((.tup [(.sl (⟨none,0,.ex 0⟩:Sl)),(.int .i64 n43)]),H59)) else ((Hp.ldI H59 .i64 H.length 0).bind λn60=>(Hp.ldI H59 .i64 H.length 1).bind λn61=>cJ.l125 F jh ak F r8.2.length 0 (⟨none,0,.ex 0⟩:Sl) (if n61<n60 then n61 else n60) 0 H59))
def cJ.tw (F:Nat) (aa:Int) (af:Int) (aC:Sl) (H:Hp):OA:=cJ.twX F (hQ.tw F) (bI.tw F) aa af aC H
def cJ.lh125 (F:Nat) (jh:Int->Int->Sl->Hp->OA) (ak:Int->Int->Sl->Int->Int->Hp->OA) (ks:List Nat) (n:Nat) (tm:Tm) (H:Hp):OA:=match ks,tm 4,tm 6,tm 21,tm 22 with
 | [],(.ptr mE ox),(.sl ph),(.int .i64 lF),(.int .i64 jX)=>cJ.l125 F jh ak n mE ox ph lF jX H
 | _,_,_,_,_=>none
theorem cJ.lh125_inv {F:Nat} {jh:Int->Int->Sl->Hp->OA} {ak:Int->Int->Sl->Int->Int->Hp->OA} {ks:List Nat} {n:Nat} {tm:Tm} {H:Hp} {r:AV×Hp} (h:cJ.lh125 F jh ak ks n tm H=some r):∃ mE ox ph lF jX,ks=[]/\eG tm [(4,(.ptr mE ox)),(6,(.sl ph)),(21,(.int .i64 lF)),(22,(.int .i64 jX))]/\cJ.l125 F jh ak n mE ox ph lF jX H=some r:=by
 unfold cJ.lh125 at h
 split at h
 ·exact ⟨_,_,_,_,_,rfl,⟨‹_›,‹_›,‹_›,‹_›,trivial⟩,h⟩
 ·cases h
def cJ.lh (F:Nat) (jh:Int->Int->Sl->Hp->OA) (ak:Int->Int->Sl->Int->Int->Hp->OA) (p:Nat) (ks:List Nat) (n:Nat) (tm:Tm) (H:Hp):OA:=bif p.beq 125 then cJ.lh125 F jh ak ks n tm H else (none)
def cJ.mk (g:Int->Int->Sl->Hp->OA) (args:List AV) (H:Hp):OA:=match args with
 | [(.agg [(.int .i64 aa),(.int .i64 af),(.sl aC)])]=>g aa af aC H
 | _=>none
def cJ.cs (F:Nat) (jh:Int->Int->Sl->Hp->OA) (ak:Int->Int->Sl->Int->Int->Hp->OA):Cs:=[(62,hQ.mk jh),(95,bI.mk ak)]
theorem cJ.loops (F:Nat) (jh:Int->Int->Sl->Hp->OA) (ak:Int->Int->Sl->Int->Int->Hp->OA):LO (bF (cJ.cs F jh ak)) bp (cJ.lh F jh ak) F Try.f63:=
 (ah.rt (ah.rt (ah.rt (ah.rt (ah.lt (ah.rt (ah.block (ah.loop (λtm H=>eP λr h=>by obtain ⟨mE,ox,ph,lF,jX,hks,e,h⟩:=cJ.lh125_inv (show cJ.lh125 F jh ak [] 0 tm H=some r from h);cases h) (λk125 tm H r h=>by obtain ⟨mE,ox,ph,lF,jX,hks,e,h⟩:=cJ.lh125_inv (show cJ.lh125 F jh ak [] (k125+1) tm H=some r from h);rw [<- eM e];exact Eq.trans (by kernel_rfl) h) λk125=>ah.no))))))))
theorem cJ.eqX (F:Nat) (jh:Int->Int->Sl->Hp->OA) (ak:Int->Int->Sl->Int->Int->Hp->OA) (aa:Int) (af:Int) (aC:Sl) (H:Hp):EX (bF (cJ.cs F jh ak)) bp (cJ.lh F jh ak) F Try.f63 [(.agg [(.int .i64 aa),(.int .i64 af),(.sl aC)])] H=cJ.twX F jh ak aa af aC H:=by kernel_rfl
theorem cJ.k (F:Nat):Ok Try.prog 63 (cJ.mk (cJ.tw F)):=by
 intro args H v H' h
 unfold cJ.mk at h
 split at h
 ·exact okT (TB:=bp) Try.func63 (bG (hQ.k F) (bG (bI.k F) cK)) (cJ.loops F (hQ.tw F) (bI.tw F)) ((cJ.eqX F (hQ.tw F) (bI.tw F) _ _ _ H).trans h) (by kernel_rfl)
 ·cases h
def gn.twX (F:Nat) (aa:Int) (H:Hp):OA:=some ((.bool (aa == 1)),H)
def gn.tw (F:Nat) (aa:Int) (H:Hp):OA:=gn.twX F aa H
def gn.mk (g:Int->Hp->OA) (args:List AV) (H:Hp):OA:=match args with
 | [(.int .i64 aa)]=>g aa H
 | _=>none
theorem gn.eqX (F:Nat) (aa:Int) (H:Hp):EX (bF []) bp lh0 F Try.f119 [(.int .i64 aa)] H=gn.twX F aa H:=by kernel_rfl
theorem gn.k (F:Nat):Ok Try.prog 119 (gn.mk (gn.tw F)):=by
 intro args H v H' h
 unfold gn.mk at h
 split at h
 ·exact okT (TB:=bp) Try.func119 cK ah.no ((gn.eqX F _ H).trans h) (by kernel_rfl)
 ·cases h
def dN.l13 (F:Nat) (eT:Int->Hp->OA) :Nat->Sl->Int->Int->Hp->OA
 | 0,_,_,_,_=>none
 | iY+1,gb,dT,cP,H6=>(bif (decide (cP<dT)) then ((Sl.idx gb cP 1).bind λp11=>(Hp.ldI H6 .i64 p11.1 p11.2).bind λn12=>(eT n12 H6).bind λr13=>((r13.1).asB).bind λb14=>(bif b14 then (some ((.int .i64 cP),r13.2)) else (dN.l13 F eT iY gb dT (IntKind.i64.wrap (cP+1)) r13.2))) else (some ((.int .i64 (-1)),H6)))
termination_by structural n=>n
def dN.twX (F:Nat) (eT:Int->Hp->OA) (aa:Sl) (H:Hp):OA:=dN.l13 F eT F aa (aa.n:Int) 0 H
def dN.tw (F:Nat) (aa:Sl) (H:Hp):OA:=dN.twX F (gn.tw F) aa H
def dN.lh13 (F:Nat) (eT:Int->Hp->OA) (ks:List Nat) (n:Nat) (tm:Tm) (H:Hp):OA:=match ks,tm 0,tm 1,tm 7,tm 8 with
 | [],(.sl gb),(.fn 119 []),(.int .i64 dT),(.int .i64 cP)=>dN.l13 F eT n gb dT cP H
 | _,_,_,_,_=>none
theorem dN.lh13_inv {F:Nat} {eT:Int->Hp->OA} {ks:List Nat} {n:Nat} {tm:Tm} {H:Hp} {r:AV×Hp} (h:dN.lh13 F eT ks n tm H=some r):∃ gb dT cP,ks=[]/\eG tm [(0,(.sl gb)),(1,(.fn 119 [])),(7,(.int .i64 dT)),(8,(.int .i64 cP))]/\dN.l13 F eT n gb dT cP H=some r:=by
 unfold dN.lh13 at h
 split at h
 ·exact ⟨_,_,_,rfl,⟨‹_›,‹_›,‹_›,‹_›,trivial⟩,h⟩
 ·cases h
def dN.lh (F:Nat) (eT:Int->Hp->OA) (p:Nat) (ks:List Nat) (n:Nat) (tm:Tm) (H:Hp):OA:=bif p.beq 13 then dN.lh13 F eT ks n tm H else (none)
def dN.mk (g:Sl->Hp->OA) (args:List AV) (H:Hp):OA:=match args with
 | [(.sl aa),(.fn 119 [])]=>g aa H
 | _=>none
def dN.cs (F:Nat) (eT:Int->Hp->OA):Cs:=[(119,gn.mk eT)]
theorem dN.loops (F:Nat) (eT:Int->Hp->OA):LO (bF (dN.cs F eT)) bp (dN.lh F eT) F Try.f117:=
 (ah.rt (ah.lt (ah.rt (ah.block (ah.loop (λtm H=>eP λr h=>by obtain ⟨gb,dT,cP,hks,e,h⟩:=dN.lh13_inv (show dN.lh13 F eT [] 0 tm H=some r from h);cases h) (λk13 tm H r h=>by obtain ⟨gb,dT,cP,hks,e,h⟩:=dN.lh13_inv (show dN.lh13 F eT [] (k13+1) tm H=some r from h);rw [<- eM e];exact Eq.trans (by kernel_rfl) h) λk13=>ah.no)))))
theorem dN.eqX (F:Nat) (eT:Int->Hp->OA) (aa:Sl) (H:Hp):EX (bF (dN.cs F eT)) bp (dN.lh F eT) F Try.f117 [(.sl aa),(.fn 119 [])] H=dN.twX F eT aa H:=by kernel_rfl
theorem dN.k (F:Nat):Ok Try.prog 117 (dN.mk (dN.tw F)):=by
 intro args H v H' h
 unfold dN.mk at h
 split at h
 ·exact okT (TB:=bp) Try.func117 (bG (gn.k F) cK) (dN.loops F (gn.tw F)) ((dN.eqX F (gn.tw F) _ H).trans h) (by kernel_rfl)
 ·cases h
def cy.j2 (F:Nat) (iU:Sl->Hp->OA) (eT:Int->Hp->OA) (Ba:Sl) (rv:Int) (H31:Hp):OA:=(Sl.cut Ba 1 rv (Ba.n:Int)).bind λs32=>(Hp.clr H31 [.int .i64 0] s32).bind λH33=>(Sl.cut Ba 1 0 rv).bind λs34=>some ((.sl s34),H33)
def cy.j3 (F:Nat) (iU:Sl->Hp->OA) (eT:Int->Hp->OA) (C61_:Sl->Int->Int->Hp->OA) (OP:Sl) (uG:Int) (uH:Int) (H49:Hp):OA:=C61_ OP uG (IntKind.i64.wrap (uH+1)) H49
def cy.l61 (F:Nat) (iU:Sl->Hp->OA) (eT:Int->Hp->OA) :Nat->Sl->Int->Int->Hp->OA
 | 0,_,_,_,_=>none
 | md+1,dK,eB,kE,H9=>(bif (decide (kE<(dK.n:Int))) then ((Sl.idx dK kE 1).bind λp35=>(Hp.ldI H9 .i64 p35.1 p35.2).bind λn36=>(eT n36 H9).bind λr37=>((r37.1).asB).bind λb38=>(bif (!b38) then ((Sl.idx dK eB 1).bind λp39=>(Hp.st r37.2 p39.1 p39.2 (.int .i64 n36)).bind λH40=>cy.j3 F iU eT (cy.l61 F iU eT md) dK (IntKind.i64.wrap (eB+1)) kE H40) else (cy.j3 F iU eT (cy.l61 F iU eT md) dK eB kE r37.2))) else (cy.j2 F iU eT dK eB H9))
termination_by structural n=>n
def cy.twX (F:Nat) (iU:Sl->Hp->OA) (eT:Int->Hp->OA) (aa:Sl) (H:Hp):OA:=(iU aa H).bind λr2=>((r2.1).asI .i64).bind λn3=>(bif (n3 == (-1)) then (some ((.sl aa),r2.2)) else (cy.l61 F iU eT F aa n3 (IntKind.i64.wrap (n3+1)) r2.2))
def cy.tw (F:Nat) (aa:Sl) (H:Hp):OA:=cy.twX F (dN.tw F) (gn.tw F) aa H
def cy.lh61 (F:Nat) (iU:Sl->Hp->OA) (eT:Int->Hp->OA) (ks:List Nat) (n:Nat) (tm:Tm) (H:Hp):OA:=match ks,tm 0,tm 1,tm 5,tm 6 with
 | [],(.sl dK),(.fn 119 []),(.int .i64 eB),(.int .i64 kE)=>cy.l61 F iU eT n dK eB kE H
 | _,_,_,_,_=>none
theorem cy.lh61_inv {F:Nat} {iU:Sl->Hp->OA} {eT:Int->Hp->OA} {ks:List Nat} {n:Nat} {tm:Tm} {H:Hp} {r:AV×Hp} (h:cy.lh61 F iU eT ks n tm H=some r):∃ dK eB kE,ks=[]/\eG tm [(0,(.sl dK)),(1,(.fn 119 [])),(5,(.int .i64 eB)),(6,(.int .i64 kE))]/\cy.l61 F iU eT n dK eB kE H=some r:=by
 unfold cy.lh61 at h
 split at h
 ·exact ⟨_,_,_,rfl,⟨‹_›,‹_›,‹_›,‹_›,trivial⟩,h⟩
 ·cases h
def cy.lh (F:Nat) (iU:Sl->Hp->OA) (eT:Int->Hp->OA) (p:Nat) (ks:List Nat) (n:Nat) (tm:Tm) (H:Hp):OA:=bif p.beq 61 then cy.lh61 F iU eT ks n tm H else (none)
def cy.mk (g:Sl->Hp->OA) (args:List AV) (H:Hp):OA:=match args with
 | [(.sl aa),(.fn 119 [])]=>g aa H
 | _=>none
def cy.cs (F:Nat) (iU:Sl->Hp->OA) (eT:Int->Hp->OA):Cs:=[(117,dN.mk iU),(119,gn.mk eT)]
theorem cy.loops (F:Nat) (iU:Sl->Hp->OA) (eT:Int->Hp->OA):LO (bF (cy.cs F iU eT)) bp (cy.lh F iU eT) F Try.f118:=
 (ah.rt (ah.rt (ah.rt (ah.lt (ah.rt (ah.block (ah.loop (λtm H=>eP λr h=>by obtain ⟨dK,eB,kE,hks,e,h⟩:=cy.lh61_inv (show cy.lh61 F iU eT [] 0 tm H=some r from h);cases h) (λk61 tm H r h=>by obtain ⟨dK,eB,kE,hks,e,h⟩:=cy.lh61_inv (show cy.lh61 F iU eT [] (k61+1) tm H=some r from h);rw [<- eM e];exact Eq.trans (by kernel_rfl) h) λk61=>ah.no)))))))
theorem cy.eqX (F:Nat) (iU:Sl->Hp->OA) (eT:Int->Hp->OA) (aa:Sl) (H:Hp):EX (bF (cy.cs F iU eT)) bp (cy.lh F iU eT) F Try.f118 [(.sl aa),(.fn 119 [])] H=cy.twX F iU eT aa H:=by kernel_rfl
theorem cy.k (F:Nat):Ok Try.prog 118 (cy.mk (cy.tw F)):=by
 intro args H v H' h
 unfold cy.mk at h
 split at h
 ·exact okT (TB:=bp) Try.func118 (bG (dN.k F) (bG (gn.k F) cK)) (cy.loops F (dN.tw F) (gn.tw F)) ((cy.eqX F (dN.tw F) (gn.tw F) _ H).trans h) (by kernel_rfl)
 ·cases h
def iC.twX (F:Nat) (uI:Sl->Hp->OA) (aa:Sl) (H:Hp):OA:=(uI aa H).bind λr2=>((r2.1).asSl).bind λs3=>some ((.sl s3),r2.2)
def iC.tw (F:Nat) (aa:Sl) (H:Hp):OA:=iC.twX F (cy.tw F) aa H
def iC.mk (g:Sl->Hp->OA) (args:List AV) (H:Hp):OA:=match args with
 | [(.sl aa)]=>g aa H
 | _=>none
def iC.cs (F:Nat) (uI:Sl->Hp->OA):Cs:=[(118,cy.mk uI)]
theorem iC.eqX (F:Nat) (uI:Sl->Hp->OA) (aa:Sl) (H:Hp):EX (bF (iC.cs F uI)) bp lh0 F Try.f83 [(.sl aa)] H=iC.twX F uI aa H:=by kernel_rfl
theorem iC.k (F:Nat):Ok Try.prog 83 (iC.mk (iC.tw F)):=by
 intro args H v H' h
 unfold iC.mk at h
 split at h
 ·exact okT (TB:=bp) Try.func83 (bG (cy.k F) cK) ah.no ((iC.eqX F (cy.tw F) _ H).trans h) (by kernel_rfl)
 ·cases h
def gK.twX (F:Nat) (uJ:Int->Int->Sl->Int->Int->Sl->Hp->OA) (uK:Sl->Hp->OA) (rx:Int->Int->Sl->Hp->OA) (np:Sl->Hp->OA) (uL:Sl->Hp->OA) (aa:Int) (af:Int) (aC:Sl) (aj:Int) (aJ:Int) (df:Sl) (H:Hp):OA:=(Hp.new H [(.int .i64 aa),(.int .i64 af),(.sl aC)]).bind λH7=>(Hp.new H7 [(.int .i64 aj),(.int .i64 aJ),(.sl df)]).bind λH8=>(Hp.new H8 [.int .i64 0,.sl ⟨none,0,.ex 0⟩]).bind λH9=>(Hp.ldI H9 .i64 H7.length 0).bind λn10=>(Hp.ldI H9 .i64 H7.length (0+1)).bind λn11=>(Hp.ldSl H9 H7.length (0+2)).bind λs12=>(Hp.ldI H9 .i64 H.length 0).bind λn13=>(Hp.ldI H9 .i64 H.length (0+1)).bind λn14=>(Hp.ldSl H9 H.length (0+2)).bind λs15=>(uJ n10 n11 s12 n13 n14 s15 H9).bind λr16=>((r16.1).asTup 2).bind λl17=>(l17[0]?).bind λv18=>((v18).asAgg 3).bind λl19=>(l19[0]?).bind λv20=>((v20).asI .i64).bind λn21=>(l19[1]?).bind λv22=>((v22).asI .i64).bind λn23=>(l19[2]?).bind λv24=>((v24).asSl).bind λs25=>(l17[1]?).bind λv26=>((v26).asI .i64).bind λn27=>(Hp.new r16.2 [.int .i64 0,.int .i64 0,.sl ⟨none,0,.ex 0⟩]).bind λH28=>(Hp.st H28 r16.2.length 0 (.int .i64 n21)).bind λH29=>(Hp.st H29 r16.2.length (0+1) (.int .i64 n23)).bind λH30=>(Hp.st H30 r16.2.length (0+1+1) (.sl s25)).bind λH31=>(bif (n27 != 0) then ((Hp.st H31 H8.length 0 (.int .i64 0)).bind λH32=>(Hp.st H32 H8.length (0+1) (.sl (⟨none,0,.ex 0⟩:Sl))).bind λH33=>(Hp.ldI H33 .i64 H8.length 0).bind λn34=>(Hp.ldSl H33 H8.length (0+1)).bind λs35=>some ((.tup [(.agg [(.int .i64 n34),(.sl s35)]),(.int .i64 n27)]),H33)) else ((Hp.ldSl H31 r16.2.length 2).bind λs36=>(uK s36 H31).bind λr37=>((r37.1).asB).bind λb38=>(bif b38 then ((Hp.st r37.2 H8.length 0 (.int .i64 0)).bind λH39=>(Hp.st H39 H8.length (0+1) (.sl (⟨none,0,.ex 0⟩:Sl))).bind λH40=>(Hp.ldI H40 .i64 H8.length 0).bind λn41=>(Hp.ldSl H40 H8.length (0+1)).bind λs42=>some ((.tup [(.agg [(.int .i64 n41),(.sl s42)]),(.int .i64 5)]),H40)) else ((Hp.ldI r37.2 .i64 H.length 0).bind λn43=>(Hp.ldI r37.2 .i64 H.length (0+1)).bind λn44=>(Hp.ldSl r37.2 H.length (0+2)).bind λs45=>(rx n43 n44 s45 r37.2).bind λr46=>((r46.1).asTup 2).bind λl47=>(l47[0]?).bind λv48=>((v48).asSl).bind λs49=>(l47[1]?).bind λv50=>((v50).asI .i64).bind λn51=>(Hp.ldI r46.2 .i64 H7.length 0).bind λn52=>(Hp.ldI r46.2 .i64 H7.length (0+1)).bind λn53=>(Hp.ldSl r46.2 H7.length (0+2)).bind λs54=>(rx n52 n53 s54 r46.2).bind λr55=>((r55.1).asTup 2).bind λl56=>(l56[0]?).bind λv57=>((v57).asSl).bind λs58=>(l56[1]?).bind λv59=>((v59).asI .i64).bind λn60=>(bif (n51 != 0) then ((Hp.st r55.2 H8.length 0 (.int .i64 0)).bind λH61=>(Hp.st H61 H8.length (0+1) (.sl (⟨none,0,.ex 0⟩:Sl))).bind λH62=>(Hp.ldI H62 .i64 H8.length 0).bind λn63=>(Hp.ldSl H62 H8.length (0+1)).bind λs64=>some ((.tup [(.agg [(.int .i64 n63),(.sl s64)]),(.int .i64 3)]),H62)) else ((bif (n60 != 0) then ((Hp.st r55.2 H8.length 0 (.int .i64 0)).bind λH65=>(Hp.st H65 H8.length (0+1) (.sl (⟨none,0,.ex 0⟩:Sl))).bind λH66=>(Hp.ldI H66 .i64 H8.length 0).bind λn67=>(Hp.ldSl H66 H8.length (0+1)).bind λs68=>some ((.tup [(.agg [(.int .i64 n67),(.sl s68)]),(.int .i64 3)]),H66)) else ((Hp.ldI r55.2 .i64 H.length 0).bind λn69=>(np s49 r55.2).bind λr70=>((r70.1).asI .i64).bind λn71=>(np s58 r70.2).bind λr72=>((r72.1).asI .i64).bind λn73=>(uL s49 r72.2).bind λr74=>((r74.1).asSl).bind λs75=>(Hp.st r74.2 H8.length 0 (.int .i64 (IntKind.i64.wrap ((IntKind.i64.wrap (n69 - n71)) - n73)))).bind λH76=>(Hp.st H76 H8.length (0+1) (.sl s75)).bind λH77=>(ifW (((((Hp.ldI H77 .i64 H.length 0).bind λn78=>qg (.int .i64 n69) H77 (.int .i64 n78) H77)=some ())/\(((Hp.ldI r74.2 .i64 H.length 0).bind λn79=>qg (.int .i64 n69) r74.2 (.int .i64 n79) r74.2)=some ())/\(((Hp.ldI r72.2 .i64 H.length 0).bind λn80=>qg (.int .i64 n69) r72.2 (.int .i64 n80) r72.2)=some ())/\(((Hp.ldI r70.2 .i64 H.length 0).bind λn81=>qg (.int .i64 n69) r70.2 (.int .i64 n81) r70.2)=some ())/\(((Hp.ldI r55.2 .i64 H.length 0).bind λn82=>qg (.int .i64 n69) r55.2 (.int .i64 n82) r55.2)=some ())/\True)/\True) ((Hp.ldI H77 .i64 H8.length 0).bind λn83=>(Hp.ldSl H77 H8.length (0+1)).bind λs84=>some ((.tup [(.agg [(.int .i64 n83),(.sl s84)]),(.int .i64 0)]),H77)))))))))))
def gK.tw (F:Nat) (aa:Int) (af:Int) (aC:Sl) (aj:Int) (aJ:Int) (df:Sl) (H:Hp):OA:=gK.twX F (bJ.tw F) (iO.tw F) (cJ.tw F) (gH.tw F) (iC.tw F) aa af aC aj aJ df H
def gK.pn:Nat->List Nat:=fp [(10,[3,6,9,11,1001])]
def gK.tb:Nat->List (List Nat):=fp [(10,[[],[0],[],[2],[0,1,2,3],[],[2,3,5],[0,1,2,3,4,5,6],[],[2,3,5,6,8],[0,1,2,3,4,5,6,7,8,9],[0,1,2,3,4,5,6,7,8,9,10],[0,1,2,3,4,5,6,7,8,9,10,11]])]
def gK.mk (g:Int->Int->Sl->Int->Int->Sl->Hp->OA) (args:List AV) (H:Hp):OA:=match args with
 | [(.agg [(.int .i64 aa),(.int .i64 af),(.sl aC)]),(.agg [(.int .i64 aj),(.int .i64 aJ),(.sl df)])]=>g aa af aC aj aJ df H
 | _=>none
def gK.cs (F:Nat) (uJ:Int->Int->Sl->Int->Int->Sl->Hp->OA) (uK:Sl->Hp->OA) (rx:Int->Int->Sl->Hp->OA) (np:Sl->Hp->OA) (uL:Sl->Hp->OA):Cs:=[(65,bJ.mk uJ),(81,iO.mk uK),(63,cJ.mk rx),(73,gH.mk np),(83,iC.mk uL)]
theorem gK.eqX (F:Nat) (uJ:Int->Int->Sl->Int->Int->Sl->Hp->OA) (uK:Sl->Hp->OA) (rx:Int->Int->Sl->Hp->OA) (np:Sl->Hp->OA) (uL:Sl->Hp->OA) (aa:Int) (af:Int) (aC:Sl) (aj:Int) (aJ:Int) (df:Sl) (H:Hp):EX (bF (gK.cs F uJ uK rx np uL)) gK.pn lh0 F Try.f38 [(.agg [(.int .i64 aa),(.int .i64 af),(.sl aC)]),(.agg [(.int .i64 aj),(.int .i64 aJ),(.sl df)])] H=gK.twX F uJ uK rx np uL aa af aC aj aJ df H:=by kernel_rfl
theorem gK.k (F:Nat):Ok Try.prog 38 (gK.mk (gK.tw F)):=by
 intro args H v H' h
 unfold gK.mk at h
 split at h
 ·exact okT (TB:=gK.tb) Try.func38 (bG (bJ.k F) (bG (iO.k F) (bG (cJ.k F) (bG (gH.k F) (bG (iC.k F) cK))))) ah.no ((gK.eqX F (bJ.tw F) (iO.tw F) (cJ.tw F) (gH.tw F) (iC.tw F) _ _ _ _ _ _ H).trans h) (by kernel_rfl)
 ·cases h
def dH.l29 (F:Nat) :Nat->Sl->Sl->Int->Hp->OA
 | 0,_,_,_,_=>none
 | dI+1,dh,fb,kF,H8=>(bif (decide (kF<(dh.n:Int))) then ((Sl.idx dh kF 1).bind λp13=>(Hp.ldI H8 .i64 p13.1 p13.2).bind λn14=>(Sl.idx fb kF 1).bind λp15=>(Hp.ldI H8 .i64 p15.1 p15.2).bind λn16=>(bif (n14 != n16) then (some ((.bool false),H8)) else (dH.l29 F dI dh fb (IntKind.i64.wrap (kF+1)) H8))) else (some ((.bool true),H8)))
termination_by structural n=>n
def dH.twX (F:Nat) (aa:Sl) (ax:Sl) (H:Hp):OA:=(bif ((aa.n:Int) != (ax.n:Int)) then (some ((.bool false),H)) else (dH.l29 F F aa ax 0 H))
def dH.tw (F:Nat) (aa:Sl) (ax:Sl) (H:Hp):OA:=dH.twX F aa ax H
def dH.lh29 (F:Nat) (ks:List Nat) (n:Nat) (tm:Tm) (H:Hp):OA:=match ks,tm 0,tm 1,tm 5 with
 | [],(.sl dh),(.sl fb),(.int .i64 kF)=>dH.l29 F n dh fb kF H
 | _,_,_,_=>none
theorem dH.lh29_inv {F:Nat} {ks:List Nat} {n:Nat} {tm:Tm} {H:Hp} {r:AV×Hp} (h:dH.lh29 F ks n tm H=some r):∃ dh fb kF,ks=[]/\eG tm [(0,(.sl dh)),(1,(.sl fb)),(5,(.int .i64 kF))]/\dH.l29 F n dh fb kF H=some r:=by
 unfold dH.lh29 at h
 split at h
 ·exact ⟨_,_,_,rfl,⟨‹_›,‹_›,‹_›,trivial⟩,h⟩
 ·cases h
def dH.lh (F:Nat) (p:Nat) (ks:List Nat) (n:Nat) (tm:Tm) (H:Hp):OA:=bif p.beq 29 then dH.lh29 F ks n tm H else (none)
def dH.tb:Nat->List (List Nat):=fp [(6,[[],[],[0,1],[0,1,2],[],[],[4,5],[4,5,6],[0,1,2,3,4,5,6,7]])]
def dH.mk (g:Sl->Sl->Hp->OA) (args:List AV) (H:Hp):OA:=match args with
 | [(.sl aa),(.sl ax)]=>g aa ax H
 | _=>none
theorem dH.loops (F:Nat):LO (bF []) bp (dH.lh F) F Try.f29:=
 (ah.rt (ah.rt (ah.lt (ah.rt (ah.block (ah.loop (λtm H=>eP λr h=>by obtain ⟨dh,fb,kF,hks,e,h⟩:=dH.lh29_inv (show dH.lh29 F [] 0 tm H=some r from h);cases h) (λk29 tm H r h=>by obtain ⟨dh,fb,kF,hks,e,h⟩:=dH.lh29_inv (show dH.lh29 F [] (k29+1) tm H=some r from h);rw [<- eM e];exact Eq.trans (by kernel_rfl) h) λk29=>ah.no))))))
theorem dH.eqX (F:Nat) (aa:Sl) (ax:Sl) (H:Hp):EX (bF []) bp (dH.lh F) F Try.f29 [(.sl aa),(.sl ax)] H=dH.twX F aa ax H:=by kernel_rfl
theorem dH.k (F:Nat):Ok Try.prog 29 (dH.mk (dH.tw F)):=by
 intro args H v H' h
 unfold dH.mk at h
 split at h
 ·exact okT (TB:=dH.tb) Try.func29 cK (dH.loops F) ((dH.eqX F _ _ H).trans h) (by kernel_rfl)
 ·cases h
def ia.twX (F:Nat) (nQ:Sl->Sl->Hp->OA) (aa:Int) (af:Sl) (ai:Int) (aj:Sl) (H:Hp):OA:=(Hp.new H [(.int .i64 aa),(.sl af)]).bind λH5=>(Hp.new H5 [(.int .i64 ai),(.sl aj)]).bind λH6=>(Hp.ldI H6 .i64 H.length 0).bind λn7=>(Hp.ldI H6 .i64 H5.length 0).bind λn8=>(bif (n7 != n8) then (some ((.bool false),H6)) else ((Hp.ldSl H6 H.length 1).bind λs9=>(Hp.ldSl H6 H5.length 1).bind λs10=>(nQ s9 s10 H6).bind λr11=>((r11.1).asB).bind λb12=>(bif (!b12) then (some ((.bool false),r11.2)) else (some ((.bool true),r11.2)))))
def ia.tw (F:Nat) (aa:Int) (af:Sl) (ai:Int) (aj:Sl) (H:Hp):OA:=ia.twX F (dH.tw F) aa af ai aj H
def ia.mk (g:Int->Sl->Int->Sl->Hp->OA) (args:List AV) (H:Hp):OA:=match args with
 | [(.agg [(.int .i64 aa),(.sl af)]),(.agg [(.int .i64 ai),(.sl aj)])]=>g aa af ai aj H
 | _=>none
def ia.cs (F:Nat) (nQ:Sl->Sl->Hp->OA):Cs:=[(29,dH.mk nQ)]
theorem ia.eqX (F:Nat) (nQ:Sl->Sl->Hp->OA) (aa:Int) (af:Sl) (ai:Int) (aj:Sl) (H:Hp):EX (bF (ia.cs F nQ)) bp lh0 F Try.f42 [(.agg [(.int .i64 aa),(.sl af)]),(.agg [(.int .i64 ai),(.sl aj)])] H=ia.twX F nQ aa af ai aj H:=by kernel_rfl
theorem ia.k (F:Nat):Ok Try.prog 42 (ia.mk (ia.tw F)):=by
 intro args H v H' h
 unfold ia.mk at h
 split at h
 ·exact okT (TB:=bp) Try.func42 (bG (dH.k F) cK) ah.no ((ia.eqX F (dH.tw F) _ _ _ _ H).trans h) (by kernel_rfl)
 ·cases h
def ic.twX (F:Nat) (nQ:Sl->Sl->Hp->OA) (aa:Int) (af:Int) (aC:Sl) (aj:Int) (aJ:Int) (df:Sl) (H:Hp):OA:=(Hp.new H [(.int .i64 aa),(.int .i64 af),(.sl aC)]).bind λH7=>(Hp.new H7 [(.int .i64 aj),(.int .i64 aJ),(.sl df)]).bind λH8=>(Hp.ldI H8 .i64 H.length 0).bind λn9=>(Hp.ldI H8 .i64 H7.length 0).bind λn10=>(bif (n9 != n10) then (some ((.bool false),H8)) else ((Hp.ldI H8 .i64 H.length 1).bind λn11=>(Hp.ldI H8 .i64 H7.length 1).bind λn12=>(bif (n11 != n12) then (some ((.bool false),H8)) else ((Hp.ldSl H8 H.length 2).bind λs13=>(Hp.ldSl H8 H7.length 2).bind λs14=>(nQ s13 s14 H8).bind λr15=>((r15.1).asB).bind λb16=>(bif (!b16) then (some ((.bool false),r15.2)) else (some ((.bool true),r15.2)))))))
def ic.tw (F:Nat) (aa:Int) (af:Int) (aC:Sl) (aj:Int) (aJ:Int) (df:Sl) (H:Hp):OA:=ic.twX F (dH.tw F) aa af aC aj aJ df H
def ic.mk (g:Int->Int->Sl->Int->Int->Sl->Hp->OA) (args:List AV) (H:Hp):OA:=match args with
 | [(.agg [(.int .i64 aa),(.int .i64 af),(.sl aC)]),(.agg [(.int .i64 aj),(.int .i64 aJ),(.sl df)])]=>g aa af aC aj aJ df H
 | _=>none
def ic.cs (F:Nat) (nQ:Sl->Sl->Hp->OA):Cs:=[(29,dH.mk nQ)]
theorem ic.eqX (F:Nat) (nQ:Sl->Sl->Hp->OA) (aa:Int) (af:Int) (aC:Sl) (aj:Int) (aJ:Int) (df:Sl) (H:Hp):EX (bF (ic.cs F nQ)) bp lh0 F Try.f27 [(.agg [(.int .i64 aa),(.int .i64 af),(.sl aC)]),(.agg [(.int .i64 aj),(.int .i64 aJ),(.sl df)])] H=ic.twX F nQ aa af aC aj aJ df H:=by kernel_rfl
theorem ic.k (F:Nat):Ok Try.prog 27 (ic.mk (ic.tw F)):=by
 intro args H v H' h
 unfold ic.mk at h
 split at h
 ·exact okT (TB:=bp) Try.func27 (bG (dH.k F) cK) ah.no ((ic.eqX F (dH.tw F) _ _ _ _ _ _ H).trans h) (by kernel_rfl)
 ·cases h
def dO.l13 (F:Nat) :Nat->Sl->Int->Int->Hp->OA
 | 0,_,_,_,_=>none
 | iY+1,dh,fb,eB,H7=>(bif (decide (eB<(dh.n:Int))) then ((Sl.idx dh eB 1).bind λp10=>(Hp.st H7 p10.1 p10.2 (.int .i64 fb)).bind λH11=>dO.l13 F iY dh (IntKind.i64.wrap (fb+1)) (IntKind.i64.wrap (eB+1)) H11) else (some ((.int .i64 fb),H7)))
termination_by structural n=>n
def dO.twX (F:Nat) (aa:Sl) (ax:Int) (H:Hp):OA:=dO.l13 F F aa ax 0 H
def dO.tw (F:Nat) (aa:Sl) (ax:Int) (H:Hp):OA:=dO.twX F aa ax H
def dO.lh13 (F:Nat) (ks:List Nat) (n:Nat) (tm:Tm) (H:Hp):OA:=match ks,tm 0,tm 1,tm 5 with
 | [],(.sl dh),(.int .i64 fb),(.int .i64 eB)=>dO.l13 F n dh fb eB H
 | _,_,_,_=>none
theorem dO.lh13_inv {F:Nat} {ks:List Nat} {n:Nat} {tm:Tm} {H:Hp} {r:AV×Hp} (h:dO.lh13 F ks n tm H=some r):∃ dh fb eB,ks=[]/\eG tm [(0,(.sl dh)),(1,(.int .i64 fb)),(5,(.int .i64 eB))]/\dO.l13 F n dh fb eB H=some r:=by
 unfold dO.lh13 at h
 split at h
 ·exact ⟨_,_,_,rfl,⟨‹_›,‹_›,‹_›,trivial⟩,h⟩
 ·cases h
def dO.lh (F:Nat) (p:Nat) (ks:List Nat) (n:Nat) (tm:Tm) (H:Hp):OA:=bif p.beq 13 then dO.lh13 F ks n tm H else (none)
def dO.mk (g:Sl->Int->Hp->OA) (args:List AV) (H:Hp):OA:=match args with
 | [(.sl aa),(.int .i64 ax)]=>g aa ax H
 | _=>none
theorem dO.loops (F:Nat):LO (bF []) bp (dO.lh F) F Try.f31:=
 (ah.rt (ah.lt (ah.rt (ah.block (ah.loop (λtm H=>eP λr h=>by obtain ⟨dh,fb,eB,hks,e,h⟩:=dO.lh13_inv (show dO.lh13 F [] 0 tm H=some r from h);cases h) (λk13 tm H r h=>by obtain ⟨dh,fb,eB,hks,e,h⟩:=dO.lh13_inv (show dO.lh13 F [] (k13+1) tm H=some r from h);rw [<- eM e];exact Eq.trans (by kernel_rfl) h) λk13=>ah.no)))))
theorem dO.eqX (F:Nat) (aa:Sl) (ax:Int) (H:Hp):EX (bF []) bp (dO.lh F) F Try.f31 [(.sl aa),(.int .i64 ax)] H=dO.twX F aa ax H:=by kernel_rfl
theorem dO.k (F:Nat):Ok Try.prog 31 (dO.mk (dO.tw F)):=by
 intro args H v H' h
 unfold dO.mk at h
 split at h
 ·exact okT (TB:=bp) Try.func31 cK (dO.loops F) ((dO.eqX F _ _ H).trans h) (by kernel_rfl)
 ·cases h
def ig.twX (F:Nat) (nR:Sl->Int->Hp->OA) (aa:Int) (af:Int) (aC:Sl) (aj:Int) (H:Hp):OA:=(Hp.new H [(.int .i64 aa),(.int .i64 af),(.sl aC)]).bind λH5=>(Hp.ldSl H5 H.length 2).bind λs6=>(nR s6 aj H5).bind λr7=>((r7.1).asI .i64).bind λn8=>some ((.int .i64 n8),r7.2)
def ig.tw (F:Nat) (aa:Int) (af:Int) (aC:Sl) (aj:Int) (H:Hp):OA:=ig.twX F (dO.tw F) aa af aC aj H
def ig.mk (g:Int->Int->Sl->Int->Hp->OA) (args:List AV) (H:Hp):OA:=match args with
 | [(.agg [(.int .i64 aa),(.int .i64 af),(.sl aC)]),(.int .i64 aj)]=>g aa af aC aj H
 | _=>none
def ig.cs (F:Nat) (nR:Sl->Int->Hp->OA):Cs:=[(31,dO.mk nR)]
theorem ig.eqX (F:Nat) (nR:Sl->Int->Hp->OA) (aa:Int) (af:Int) (aC:Sl) (aj:Int) (H:Hp):EX (bF (ig.cs F nR)) bp lh0 F Try.f30 [(.agg [(.int .i64 aa),(.int .i64 af),(.sl aC)]),(.int .i64 aj)] H=ig.twX F nR aa af aC aj H:=by kernel_rfl
theorem ig.k (F:Nat):Ok Try.prog 30 (ig.mk (ig.tw F)):=by
 intro args H v H' h
 unfold ig.mk at h
 split at h
 ·exact okT (TB:=bp) Try.func30 (bG (dO.k F) cK) ah.no ((ig.eqX F (dO.tw F) _ _ _ _ H).trans h) (by kernel_rfl)
 ·cases h
def iV.twX (F:Nat) (nR:Sl->Int->Hp->OA) (aa:Int) (af:Sl) (ai:Int) (H:Hp):OA:=(Hp.new H [(.int .i64 aa),(.sl af)]).bind λH4=>(Hp.ldSl H4 H.length 1).bind λs5=>(nR s5 ai H4).bind λr6=>((r6.1).asI .i64).bind λn7=>some ((.int .i64 n7),r6.2)
def iV.tw (F:Nat) (aa:Int) (af:Sl) (ai:Int) (H:Hp):OA:=iV.twX F (dO.tw F) aa af ai H
def iV.mk (g:Int->Sl->Int->Hp->OA) (args:List AV) (H:Hp):OA:=match args with
 | [(.agg [(.int .i64 aa),(.sl af)]),(.int .i64 ai)]=>g aa af ai H
 | _=>none
def iV.cs (F:Nat) (nR:Sl->Int->Hp->OA):Cs:=[(31,dO.mk nR)]
theorem iV.eqX (F:Nat) (nR:Sl->Int->Hp->OA) (aa:Int) (af:Sl) (ai:Int) (H:Hp):EX (bF (iV.cs F nR)) bp lh0 F Try.f43 [(.agg [(.int .i64 aa),(.sl af)]),(.int .i64 ai)] H=iV.twX F nR aa af ai H:=by kernel_rfl
theorem iV.k (F:Nat):Ok Try.prog 43 (iV.mk (iV.tw F)):=by
 intro args H v H' h
 unfold iV.mk at h
 split at h
 ·exact okT (TB:=bp) Try.func43 (bG (dO.k F) cK) ah.no ((iV.eqX F (dO.tw F) _ _ _ H).trans h) (by kernel_rfl)
 ·cases h
def ee.l13 (F:Nat) :Nat->Sl->Int->Int->Hp->OA
 | 0,_,_,_,_=>none
 | iY+1,dh,fb,eB,H7=>(bif (decide (eB<(dh.n:Int))) then ((Sl.idx dh eB 1).bind λp10=>(Hp.ldI H7 .i64 p10.1 p10.2).bind λn11=>(bif (n11 != fb) then (some ((.int .i64 (-1)),H7)) else (ee.l13 F iY dh (IntKind.i64.wrap (fb+1)) (IntKind.i64.wrap (eB+1)) H7))) else (some ((.int .i64 fb),H7)))
termination_by structural n=>n
def ee.twX (F:Nat) (aa:Sl) (ax:Int) (H:Hp):OA:=ee.l13 F F aa ax 0 H
def ee.tw (F:Nat) (aa:Sl) (ax:Int) (H:Hp):OA:=ee.twX F aa ax H
def ee.lh13 (F:Nat) (ks:List Nat) (n:Nat) (tm:Tm) (H:Hp):OA:=match ks,tm 0,tm 1,tm 5 with
 | [],(.sl dh),(.int .i64 fb),(.int .i64 eB)=>ee.l13 F n dh fb eB H
 | _,_,_,_=>none
theorem ee.lh13_inv {F:Nat} {ks:List Nat} {n:Nat} {tm:Tm} {H:Hp} {r:AV×Hp} (h:ee.lh13 F ks n tm H=some r):∃ dh fb eB,ks=[]/\eG tm [(0,(.sl dh)),(1,(.int .i64 fb)),(5,(.int .i64 eB))]/\ee.l13 F n dh fb eB H=some r:=by
 unfold ee.lh13 at h
 split at h
 ·exact ⟨_,_,_,rfl,⟨‹_›,‹_›,‹_›,trivial⟩,h⟩
 ·cases h
def ee.lh (F:Nat) (p:Nat) (ks:List Nat) (n:Nat) (tm:Tm) (H:Hp):OA:=bif p.beq 13 then ee.lh13 F ks n tm H else (none)
def ee.mk (g:Sl->Int->Hp->OA) (args:List AV) (H:Hp):OA:=match args with
 | [(.sl aa),(.int .i64 ax)]=>g aa ax H
 | _=>none
theorem ee.loops (F:Nat):LO (bF []) bp (ee.lh F) F Try.f32:=
 (ah.rt (ah.lt (ah.rt (ah.block (ah.loop (λtm H=>eP λr h=>by obtain ⟨dh,fb,eB,hks,e,h⟩:=ee.lh13_inv (show ee.lh13 F [] 0 tm H=some r from h);cases h) (λk13 tm H r h=>by obtain ⟨dh,fb,eB,hks,e,h⟩:=ee.lh13_inv (show ee.lh13 F [] (k13+1) tm H=some r from h);rw [<- eM e];exact Eq.trans (by kernel_rfl) h) λk13=>ah.no)))))
theorem ee.eqX (F:Nat) (aa:Sl) (ax:Int) (H:Hp):EX (bF []) bp (ee.lh F) F Try.f32 [(.sl aa),(.int .i64 ax)] H=ee.twX F aa ax H:=by kernel_rfl
theorem ee.k (F:Nat):Ok Try.prog 32 (ee.mk (ee.tw F)):=by
 intro args H v H' h
 unfold ee.mk at h
 split at h
 ·exact okT (TB:=bp) Try.func32 cK (ee.loops F) ((ee.eqX F _ _ H).trans h) (by kernel_rfl)
 ·cases h
def iq.twX (F:Nat) (uM:Sl->Int->Hp->OA) (aa:Int) (af:Sl) (ai:Int) (H:Hp):OA:=(Hp.new H [(.int .i64 aa),(.sl af)]).bind λH4=>(Hp.ldSl H4 H.length 1).bind λs5=>(uM s5 ai H4).bind λr6=>((r6.1).asI .i64).bind λn7=>(bif (decide (n7<0)) then (some ((.int .i64 (-1)),r6.2)) else (some ((.int .i64 n7),r6.2)))
def iq.tw (F:Nat) (aa:Int) (af:Sl) (ai:Int) (H:Hp):OA:=iq.twX F (ee.tw F) aa af ai H
def iq.mk (g:Int->Sl->Int->Hp->OA) (args:List AV) (H:Hp):OA:=match args with
 | [(.agg [(.int .i64 aa),(.sl af)]),(.int .i64 ai)]=>g aa af ai H
 | _=>none
def iq.cs (F:Nat) (uM:Sl->Int->Hp->OA):Cs:=[(32,ee.mk uM)]
theorem iq.eqX (F:Nat) (uM:Sl->Int->Hp->OA) (aa:Int) (af:Sl) (ai:Int) (H:Hp):EX (bF (iq.cs F uM)) bp lh0 F Try.f44 [(.agg [(.int .i64 aa),(.sl af)]),(.int .i64 ai)] H=iq.twX F uM aa af ai H:=by kernel_rfl
theorem iq.k (F:Nat):Ok Try.prog 44 (iq.mk (iq.tw F)):=by
 intro args H v H' h
 unfold iq.mk at h
 split at h
 ·exact okT (TB:=bp) Try.func44 (bG (ee.k F) cK) ah.no ((iq.eqX F (ee.tw F) _ _ _ H).trans h) (by kernel_rfl)
 ·cases h
def gD.twX (F:Nat) (ry:Int->Int->Sl->Int->Hp->OA) (nS:Int->Int->Sl->Hp->OA) (uN:Int->Int->Sl->Int->Int->Sl->Hp->OA) (rz:Int->Int->Sl->Int->Int->Sl->Hp->OA) (qw:Int->Sl->Int->Sl->Hp->OA) (rA:Int->Int->Sl->Int->Int->Sl->Hp->OA) (rB:Int->Int->Sl->Int->Hp->OA) (uO:Int->Sl->Int->Hp->OA) (rC:Int->Sl->Int->Hp->OA) (aa:Int) (af:Int) (aC:Sl) (aj:Int) (aJ:Int) (df:Sl) (H:Hp):OA:=(Hp.new H [(.int .i64 aa),(.int .i64 af),(.sl aC)]).bind λH7=>(Hp.new H7 [(.int .i64 aj),(.int .i64 aJ),(.sl df)]).bind λH8=>(Hp.ldI H8 .i64 H.length 0).bind λn9=>(Hp.ldI H8 .i64 H.length (0+1)).bind λn10=>(Hp.ldSl H8 H.length (0+2)).bind λs11=>(ry n9 n10 s11 1048576 H8).bind λr12=>((r12.1).asI .i64).bind λn13=>(bif (decide (n13<0)) then (some ((.bool true),r12.2)) else ((Hp.ldI r12.2 .i64 H7.length 0).bind λn14=>(Hp.ldI r12.2 .i64 H7.length (0+1)).bind λn15=>(Hp.ldSl r12.2 H7.length (0+2)).bind λs16=>(ry n14 n15 s16 n13 r12.2).bind λr17=>((r17.1).asI .i64).bind λn18=>(bif (decide (n18<0)) then (some ((.bool true),r17.2)) else ((Hp.ldI r17.2 .i64 H.length 0).bind λn19=>(Hp.ldI r17.2 .i64 H.length (0+1)).bind λn20=>(Hp.ldSl r17.2 H.length (0+2)).bind λs21=>(nS n19 n20 s21 r17.2).bind λr22=>((r22.1).asAgg 3).bind λl23=>(l23[0]?).bind λv24=>((v24).asI .i64).bind λn25=>(l23[1]?).bind λv26=>((v26).asI .i64).bind λn27=>(l23[2]?).bind λv28=>((v28).asSl).bind λs29=>(if bt r17.2 r22.2 then ((Hp.ldI r22.2 .i64 H7.length 0).bind λn30=>(Hp.ldI r22.2 .i64 H7.length (0+1)).bind λn31=>(Hp.ldSl r22.2 H7.length (0+2)).bind λs32=>(nS n30 n31 s32 r22.2).bind λr33=>((r33.1).asAgg 3).bind λl34=>(l34[0]?).bind λv35=>((v35).asI .i64).bind λn36=>(l34[1]?).bind λv37=>((v37).asI .i64).bind λn38=>(l34[2]?).bind λv39=>((v39).asSl).bind λs40=>(if bt r22.2 r33.2 then ((uN n25 n27 s29 n36 n38 s40 r33.2).bind λr41=>((r41.1).asTup 2).bind λl42=>(l42[0]?).bind λv43=>((v43).asAgg 2).bind λl44=>(l44[0]?).bind λv45=>((v45).asI .i64).bind λn46=>(l44[1]?).bind λv47=>((v47).asSl).bind λs48=>(l42[1]?).bind λv49=>((v49).asI .i64).bind λn50=>(if bt r33.2 r41.2 then ((Hp.new r41.2 [.int .i64 0,.sl ⟨none,0,.ex 0⟩]).bind λH51=>(Hp.st H51 r41.2.length 0 (.int .i64 n46)).bind λH52=>(Hp.st H52 r41.2.length (0+1) (.sl s48)).bind λH53=>(Hp.ldI H53 .i64 H.length 0).bind λn54=>(Hp.ldI H53 .i64 H.length (0+1)).bind λn55=>(Hp.ldSl H53 H.length (0+2)).bind λs56=>(nS n54 n55 s56 H53).bind λr57=>((r57.1).asAgg 3).bind λl58=>(l58[0]?).bind λv59=>((v59).asI .i64).bind λn60=>(l58[1]?).bind λv61=>((v61).asI .i64).bind λn62=>(l58[2]?).bind λv63=>((v63).asSl).bind λs64=>(Hp.new r57.2 [.int .i64 0,.int .i64 0,.sl ⟨none,0,.ex 0⟩]).bind λH65=>(Hp.st H65 r57.2.length 0 (.int .i64 n60)).bind λH66=>(Hp.st H66 r57.2.length (0+1) (.int .i64 n62)).bind λH67=>(Hp.st H67 r57.2.length (0+1+1) (.sl s64)).bind λH68=>(Hp.ldI H68 .i64 H7.length 0).bind λn69=>(Hp.ldI H68 .i64 H7.length (0+1)).bind λn70=>(Hp.ldSl H68 H7.length (0+2)).bind λs71=>(nS n69 n70 s71 H68).bind λr72=>((r72.1).asAgg 3).bind λl73=>(l73[0]?).bind λv74=>((v74).asI .i64).bind λn75=>(l73[1]?).bind λv76=>((v76).asI .i64).bind λn77=>(l73[2]?).bind λv78=>((v78).asSl).bind λs79=>(Hp.new r72.2 [.int .i64 0,.int .i64 0,.sl ⟨none,0,.ex 0⟩]).bind λH80=>(Hp.st H80 r72.2.length 0 (.int .i64 n75)).bind λH81=>(Hp.st H81 r72.2.length (0+1) (.int .i64 n77)).bind λH82=>(Hp.st H82 r72.2.length (0+1+1) (.sl s79)).bind λH83=>(Hp.ldI H83 .i64 r57.2.length 0).bind λn84=>(Hp.ldI H83 .i64 r57.2.length (0+1)).bind λn85=>(Hp.ldSl H83 r57.2.length (0+2)).bind λs86=>(Hp.ldI H83 .i64 r72.2.length 0).bind λn87=>(Hp.ldI H83 .i64 r72.2.length (0+1)).bind λn88=>(Hp.ldSl H83 r72.2.length (0+2)).bind λs89=>(rz n84 n85 s86 n87 n88 s89 H83).bind λr90=>((r90.1).asTup 2).bind λl91=>(l91[0]?).bind λv92=>((v92).asAgg 2).bind λl93=>(l93[0]?).bind λv94=>((v94).asI .i64).bind λn95=>(l93[1]?).bind λv96=>((v96).asSl).bind λs97=>(l91[1]?).bind λv98=>((v98).asI .i64).bind λn99=>(Hp.new r90.2 [.int .i64 0,.sl ⟨none,0,.ex 0⟩]).bind λH100=>(Hp.st H100 r90.2.length 0 (.int .i64 n95)).bind λH101=>(Hp.st H101 r90.2.length (0+1) (.sl s97)).bind λH102=>(Hp.ldI H102 .i64 r90.2.length 0).bind λn103=>(Hp.ldSl H102 r90.2.length (0+1)).bind λs104=>(Hp.ldI H102 .i64 r41.2.length 0).bind λn105=>(Hp.ldSl H102 r41.2.length (0+1)).bind λs106=>(qw n103 s104 n105 s106 H102).bind λr107=>((r107.1).asB).bind λb108=>(bif (!b108) then (some ((.bool false),r107.2)) else ((bif (n99 != n50) then (some ((.bool false),r107.2)) else ((Hp.ldI r107.2 .i64 r57.2.length 0).bind λn109=>(Hp.ldI r107.2 .i64 r57.2.length (0+1)).bind λn110=>(Hp.ldSl r107.2 r57.2.length (0+2)).bind λs111=>(Hp.ldI r107.2 .i64 H.length 0).bind λn112=>(Hp.ldI r107.2 .i64 H.length (0+1)).bind λn113=>(Hp.ldSl r107.2 H.length (0+2)).bind λs114=>(nS n112 n113 s114 r107.2).bind λr115=>((r115.1).asAgg 3).bind λl116=>(l116[0]?).bind λv117=>((v117).asI .i64).bind λn118=>(l116[1]?).bind λv119=>((v119).asI .i64).bind λn120=>(l116[2]?).bind λv121=>((v121).asSl).bind λs122=>(if bt r107.2 r115.2 then ((rA n109 n110 s111 n118 n120 s122 r115.2).bind λr123=>((r123.1).asB).bind λb124=>(bif (!b124) then (some ((.bool false),r123.2)) else ((Hp.ldI r123.2 .i64 r72.2.length 0).bind λn125=>(Hp.ldI r123.2 .i64 r72.2.length (0+1)).bind λn126=>(Hp.ldSl r123.2 r72.2.length (0+2)).bind λs127=>(Hp.ldI r123.2 .i64 H7.length 0).bind λn128=>(Hp.ldI r123.2 .i64 H7.length (0+1)).bind λn129=>(Hp.ldSl r123.2 H7.length (0+2)).bind λs130=>(nS n128 n129 s130 r123.2).bind λr131=>((r131.1).asAgg 3).bind λl132=>(l132[0]?).bind λv133=>((v133).asI .i64).bind λn134=>(l132[1]?).bind λv135=>((v135).asI .i64).bind λn136=>(l132[2]?).bind λv137=>((v137).asSl).bind λs138=>(if bt r123.2 r131.2 then ((rA n125 n126 s127 n134 n136 s138 r131.2).bind λr139=>((r139.1).asB).bind λb140=>(bif (!b140) then (some ((.bool false),r139.2)) else ((Hp.ldI r139.2 .i64 r57.2.length 0).bind λn141=>(Hp.ldI r139.2 .i64 r57.2.length (0+1)).bind λn142=>(Hp.ldSl r139.2 r57.2.length (0+2)).bind λs143=>(rB n141 n142 s143 1 r139.2).bind λr144=>((r144.1).asI .i64).bind λn145=>(Hp.ldI r144.2 .i64 r72.2.length 0).bind λn146=>(Hp.ldI r144.2 .i64 r72.2.length (0+1)).bind λn147=>(Hp.ldSl r144.2 r72.2.length (0+2)).bind λs148=>(rB n146 n147 s148 n145 r144.2).bind λr149=>((r149.1).asI .i64).bind λn150=>(bif (decide (n150<0)) then (some ((.bool false),r149.2)) else ((Hp.ldI r149.2 .i64 r90.2.length 0).bind λn151=>(Hp.ldSl r149.2 r90.2.length (0+1)).bind λs152=>(Hp.ldI r149.2 .i64 r41.2.length 0).bind λn153=>(Hp.ldSl r149.2 r41.2.length (0+1)).bind λs154=>(qw n151 s152 n153 s154 r149.2).bind λr155=>((r155.1).asB).bind λb156=>(bif (!b156) then (some ((.bool false),r155.2)) else ((bif (n99 != n50) then (some ((.bool false),r155.2)) else ((Hp.ldI r155.2 .i64 r90.2.length 0).bind λn157=>(Hp.ldSl r155.2 r90.2.length (0+1)).bind λs158=>(uO n157 s158 1 r155.2).bind λr159=>((r159.1).asI .i64).bind λn160=>(Hp.ldI r159.2 .i64 r90.2.length 0).bind λn161=>(Hp.ldSl r159.2 r90.2.length (0+1)).bind λs162=>(rC n161 s162 1 r159.2).bind λr163=>((r163.1).asI .i64).bind λn164=>(bif (decide (n164<0)) then (some ((.bool false),r163.2)) else ((bif (n164 != n160) then (some ((.bool false),r163.2)) else ((Hp.ldI r163.2 .i64 H.length 0).bind λn165=>(Hp.ldI r163.2 .i64 H.length (0+1)).bind λn166=>(Hp.ldSl r163.2 H.length (0+2)).bind λs167=>(nS n165 n166 s167 r163.2).bind λr168=>((r168.1).asAgg 3).bind λl169=>(l169[0]?).bind λv170=>((v170).asI .i64).bind λn171=>(l169[1]?).bind λv172=>((v172).asI .i64).bind λn173=>(l169[2]?).bind λv174=>((v174).asSl).bind λs175=>(if bt r163.2 r168.2 then ((Hp.ldI r168.2 .i64 H7.length 0).bind λn176=>(Hp.ldI r168.2 .i64 H7.length (0+1)).bind λn177=>(Hp.ldSl r168.2 H7.length (0+2)).bind λs178=>(nS n176 n177 s178 r168.2).bind λr179=>((r179.1).asAgg 3).bind λl180=>(l180[0]?).bind λv181=>((v181).asI .i64).bind λn182=>(l180[1]?).bind λv183=>((v183).asI .i64).bind λn184=>(l180[2]?).bind λv185=>((v185).asSl).bind λs186=>(if bt r168.2 r179.2 then ((rz n171 n173 s175 n182 n184 s186 r179.2).bind λr187=>((r187.1).asTup 2).bind λl188=>(l188[0]?).bind λv189=>((v189).asAgg 2).bind λl190=>(l190[0]?).bind λv191=>((v191).asI .i64).bind λn192=>(l190[1]?).bind λv193=>((v193).asSl).bind λs194=>(l188[1]?).bind λv195=>((v195).asI .i64).bind λn196=>(if bt r179.2 r187.2 then ((Hp.new r187.2 [.int .i64 0,.sl ⟨none,0,.ex 0⟩]).bind λH197=>(Hp.st H197 r187.2.length 0 (.int .i64 n192)).bind λH198=>(Hp.st H198 r187.2.length (0+1) (.sl s194)).bind λH199=>(Hp.ldI H199 .i64 r187.2.length 0).bind λn200=>(Hp.ldSl H199 r187.2.length (0+1)).bind λs201=>(Hp.ldI H199 .i64 r41.2.length 0).bind λn202=>(Hp.ldSl H199 r41.2.length (0+1)).bind λs203=>(qw n200 s201 n202 s203 H199).bind λr204=>((r204.1).asB).bind λb205=>(bif (!b205) then (some ((.bool false),r204.2)) else ((bif (n196 != n50) then (some ((.bool false),r204.2)) else ((Hp.ldI r204.2 .i64 r90.2.length 0).bind λn206=>(Hp.ldSl r204.2 r90.2.length (0+1)).bind λs207=>(rC n206 s207 1 r204.2).bind λr208=>((r208.1).asI .i64).bind λn209=>(bif (decide (n209<0)) then (some ((.bool false),r208.2)) else ((bif (n209 != n160) then (some ((.bool false),r208.2)) else (some ((.bool true),r208.2)))))))))) else none)) else none)) else none)))))))))))))) else none)))) else none)))))) else none)) else none)) else none)))))
def gD.tw (F:Nat) (aa:Int) (af:Int) (aC:Sl) (aj:Int) (aJ:Int) (df:Sl) (H:Hp):OA:=gD.twX F (gT.tw F) (fF.tw F) (gW.tw F) (gK.tw F) (ia.tw F) (ic.tw F) (ig.tw F) (iV.tw F) (iq.tw F) aa af aC aj aJ df H
def gD.pn:Nat->List Nat:=fp [(8,[9]),(14,[3]),(16,[3]),(31,[9])]
def gD.tb:Nat->List (List Nat):=fp [(8,[[],[0],[],[0,1,2],[0,1,2,3],[0,1,2,3,4],[0,1,2,3,4,5],[0,1,2,3,4,5],[],[0,1,2,3,4,5,6,8],[0,1,2,3,4,5,6,7,8,9]]),(14,[[],[],[1],[0,1,2],[0,1,2,3]]),(16,[[],[],[1],[0,1,2],[0,1,2,3]]),(31,[[],[0],[],[0,1,2],[0,1,2,3],[0,1,2,3,4],[0,1,2,3,4,5],[0,1,2,3,4,5],[],[0,1,2,3,4,5,6,8],[0,1,2,3,4,5,6,7,8,9]])]
def gD.mk (g:Int->Int->Sl->Int->Int->Sl->Hp->OA) (args:List AV) (H:Hp):OA:=match args with
 | [(.agg [(.int .i64 aa),(.int .i64 af),(.sl aC)]),(.agg [(.int .i64 aj),(.int .i64 aJ),(.sl df)])]=>g aa af aC aj aJ df H
 | _=>none
def gD.cs (F:Nat) (ry:Int->Int->Sl->Int->Hp->OA) (nS:Int->Int->Sl->Hp->OA) (uN:Int->Int->Sl->Int->Int->Sl->Hp->OA) (rz:Int->Int->Sl->Int->Int->Sl->Hp->OA) (qw:Int->Sl->Int->Sl->Hp->OA) (rA:Int->Int->Sl->Int->Int->Sl->Hp->OA) (rB:Int->Int->Sl->Int->Hp->OA) (uO:Int->Sl->Int->Hp->OA) (rC:Int->Sl->Int->Hp->OA):Cs:=[(23,gT.mk ry),(25,fF.mk nS),(52,gW.mk uN),(38,gK.mk rz),(42,ia.mk qw),(27,ic.mk rA),(30,ig.mk rB),(43,iV.mk uO),(44,iq.mk rC)]
theorem gD.eqX (F:Nat) (ry:Int->Int->Sl->Int->Hp->OA) (nS:Int->Int->Sl->Hp->OA) (uN:Int->Int->Sl->Int->Int->Sl->Hp->OA) (rz:Int->Int->Sl->Int->Int->Sl->Hp->OA) (qw:Int->Sl->Int->Sl->Hp->OA) (rA:Int->Int->Sl->Int->Int->Sl->Hp->OA) (rB:Int->Int->Sl->Int->Hp->OA) (uO:Int->Sl->Int->Hp->OA) (rC:Int->Sl->Int->Hp->OA) (aa:Int) (af:Int) (aC:Sl) (aj:Int) (aJ:Int) (df:Sl) (H:Hp):EX (bF (gD.cs F ry nS uN rz qw rA rB uO rC)) gD.pn lh0 F Try.f11 [(.agg [(.int .i64 aa),(.int .i64 af),(.sl aC)]),(.agg [(.int .i64 aj),(.int .i64 aJ),(.sl df)])] H=gD.twX F ry nS uN rz qw rA rB uO rC aa af aC aj aJ df H:=by kernel_rfl
end
end Go.Proofs.Ytnkgeongfneafaa.AE
