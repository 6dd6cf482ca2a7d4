import Derived.Test.YtnkgeongfneafaaTab1
set_option linter.unusedVariables false
set_option linter.unusedSimpArgs false
namespace Go.Proofs.Ytnkgeongfneafaa.AE
open Go Go.AE Go.Proofs
set_option linter.unusedVariables false
set_option maxHeartbeats 4000000
set_option maxRecDepth 100000
noncomputable section
def eu.twX (F:Nat) (aa:Sl) (ag:Int) (H:Hp):OA:=(bif (decide ((IntKind.i64.wrap (ag - (aa.n:Int))) < 0)) then (some ((.int .i64 (-1)),H)) else (some ((.int .i64 (IntKind.i64.wrap (ag - (aa.n:Int)))),H)))
def eu.tw (F:Nat) (aa:Sl) (ag:Int) (H:Hp):OA:=eu.twX F aa ag H
def eu.code:Go.Code:=(Try.f71.body).getD .skip
def eu.lh (F:Nat) (p:Nat) (ks:List Nat) (n:Nat) (tm:Tm) (H:Hp):OA:=none
def eu.pn:Nat→List Nat:=fun i=>(([]:List (Nat×List Nat)).lookup i).getD []
def eu.tb:Nat→List (List Nat):=fun i=>(([]:List (Nat×List (List Nat))).lookup i).getD []
def eu.mk (g:Sl→Int→Hp→OA) (args:List AV) (H:Hp):OA:=match args with
 | [(.sl aa),(.int .i64 ag)]=>g aa ag H
 | _=>none
def eu.cs (F:Nat):List (FuncId×(List AV→Hp→OA)):=[]
theorem eu.loops (F:Nat):LoopsOk tabs (mkOrc (eu.cs F)) eu.pn (eu.lh F) F [] 1 eu.code (fun tm H=>aresults tabs.ty H tm Try.f71.results.toList fun v=>some (v,H)) (fun _ _ _=>none) (fun tm H=>aresults tabs.ty H tm Try.f71.results.toList fun v=>some (v,H)):=by
 exact loops_none (by kernel_rfl)
theorem eu.eqX (F:Nat) (aa:Sl) (ag:Int) (H:Hp):aCode tabs (mkOrc (eu.cs F)) eu.pn (eu.lh F) F [] 1 eu.code (argTm [(.sl aa),(.int .i64 ag)]) H (fun tm H=>aresults tabs.ty H tm Try.f71.results.toList fun v=>some (v,H)) (fun _ _ _=>none) (fun tm H=>aresults tabs.ty H tm Try.f71.results.toList fun v=>some (v,H)) = eu.twX F aa ag H:=by kernel_rfl
theorem eu.cs_ok (F:Nat):∀ p ∈ eu.cs F,∀ args H v H',p.2 args H = some (v,H')→Go.AE.T Try.prog p.1 args H v H':=by
 intro p hp
 exact absurd (show p ∈ [] from hp) List.not_mem_nil
theorem eu.ok:codeOk eu.pn Try.f71.ntmps eu.tb eu.code = true:=by kernel_rfl
theorem eu.T {F:Nat} {aa:Sl} {ag:Int} {H:Hp} {v:AV} {H':Hp} (h:eu.tw F aa ag H = some (v,H')):Go.AE.T Try.prog 71 [(.sl aa),(.int .i64 ag)] H v H':=
 Go.AE.T.of (Y:=tabs) (C:=mkOrc (eu.cs F)) (PN:=eu.pn) (LH:=eu.lh F) (F:=F) (TB:=eu.tb) (fn:=Try.f71) (code:=eu.code) mixed tabs_ok (mkOrc_ok (eu.cs_ok F)) Try.func71 (by kernel_rfl) (by kernel_rfl) eu.ok (Nat.le_of_ble_eq_true (by kernel_rfl)) (eu.loops F) (Eq.trans (eu.eqX F aa ag H) h)
theorem eu.mk_T {F:Nat} {args:List AV} {H:Hp} {v:AV} {H':Hp} (h:eu.mk (eu.tw F) args H = some (v,H')):Go.AE.T Try.prog 71 args H v H':=by
 unfold eu.mk at h
 split at h
 ·exact eu.T h
 ·cases h
def dM.twX (F:Nat) (lx:Sl→Int→Hp→OA) (aa:Int) (ac:Int) (aj:Sl) (af:Int) (H:Hp):OA:=(Hp.new H [(.int .i64 aa),(.int .i64 ac),(.sl aj)]).bind fun H5=>(Hp.ldSl H5 H.length 2).bind fun s6=>(lx s6 af H5).bind fun r7=>((r7.1).asI .i64).bind fun n8=>(bif (decide (n8 < 0)) then (some ((.int .i64 (-1)),r7.2)) else (some ((.int .i64 n8),r7.2)))
def dM.tw (F:Nat) (aa:Int) (ac:Int) (aj:Sl) (af:Int) (H:Hp):OA:=dM.twX F (eu.tw F) aa ac aj af H
def dM.code:Go.Code:=(Try.f23.body).getD .skip
def dM.lh (F:Nat) (lx:Sl→Int→Hp→OA) (p:Nat) (ks:List Nat) (n:Nat) (tm:Tm) (H:Hp):OA:=none
def dM.pn:Nat→List Nat:=fun i=>(([]:List (Nat×List Nat)).lookup i).getD []
def dM.tb:Nat→List (List Nat):=fun i=>(([]:List (Nat×List (List Nat))).lookup i).getD []
def dM.mk (g:Int→Int→Sl→Int→Hp→OA) (args:List AV) (H:Hp):OA:=match args with
 | [(.agg [(.int .i64 aa),(.int .i64 ac),(.sl aj)]),(.int .i64 af)]=>g aa ac aj af H
 | _=>none
def dM.cs (F:Nat) (lx:Sl→Int→Hp→OA):List (FuncId×(List AV→Hp→OA)):=[(71,eu.mk lx)]
theorem dM.loops (F:Nat) (lx:Sl→Int→Hp→OA):LoopsOk tabs (mkOrc (dM.cs F lx)) dM.pn (dM.lh F lx) F [] 1 dM.code (fun tm H=>aresults tabs.ty H tm Try.f23.results.toList fun v=>some (v,H)) (fun _ _ _=>none) (fun tm H=>aresults tabs.ty H tm Try.f23.results.toList fun v=>some (v,H)):=by
 exact loops_none (by kernel_rfl)
theorem dM.eqX (F:Nat) (lx:Sl→Int→Hp→OA) (aa:Int) (ac:Int) (aj:Sl) (af:Int) (H:Hp):aCode tabs (mkOrc (dM.cs F lx)) dM.pn (dM.lh F lx) F [] 1 dM.code (argTm [(.agg [(.int .i64 aa),(.int .i64 ac),(.sl aj)]),(.int .i64 af)]) H (fun tm H=>aresults tabs.ty H tm Try.f23.results.toList fun v=>some (v,H)) (fun _ _ _=>none) (fun tm H=>aresults tabs.ty H tm Try.f23.results.toList fun v=>some (v,H)) = dM.twX F lx aa ac aj af H:=by kernel_rfl
theorem dM.cs_ok (F:Nat):∀ p ∈ dM.cs F (eu.tw F),∀ args H v H',p.2 args H = some (v,H')→Go.AE.T Try.prog p.1 args H v H':=by
 intro p hp
 simp only [dM.cs,List.mem_cons,List.not_mem_nil,or_false] at hp
 subst hp
 exact fun args H v H' h=>eu.mk_T h
theorem dM.ok:codeOk dM.pn Try.f23.ntmps dM.tb dM.code = true:=by kernel_rfl
theorem dM.T {F:Nat} {aa:Int} {ac:Int} {aj:Sl} {af:Int} {H:Hp} {v:AV} {H':Hp} (h:dM.tw F aa ac aj af H = some (v,H')):Go.AE.T Try.prog 23 [(.agg [(.int .i64 aa),(.int .i64 ac),(.sl aj)]),(.int .i64 af)] H v H':=
 Go.AE.T.of (Y:=tabs) (C:=mkOrc (dM.cs F (eu.tw F))) (PN:=dM.pn) (LH:=dM.lh F (eu.tw F)) (F:=F) (TB:=dM.tb) (fn:=Try.f23) (code:=dM.code) mixed tabs_ok (mkOrc_ok (dM.cs_ok F)) Try.func23 (by kernel_rfl) (by kernel_rfl) dM.ok (Nat.le_of_ble_eq_true (by kernel_rfl)) (dM.loops F (eu.tw F)) (Eq.trans (dM.eqX F (eu.tw F) aa ac aj af H) h)
theorem dM.mk_T {F:Nat} {args:List AV} {H:Hp} {v:AV} {H':Hp} (h:dM.mk (dM.tw F) args H = some (v,H')):Go.AE.T Try.prog 23 args H v H':=by
 unfold dM.mk at h
 split at h
 ·exact dM.T h
 ·cases h
def cy.l29 (F:Nat) :Nat→Sl→Sl→Int→Hp→OA
 | 0,_,_,_,_=>none
 | fa + 1,ct,hK,ff,H7=>(bif (decide (ff < (ct.n:Int))) then ((Sl.idx ct ff 1).bind fun p12=>(Hp.ldI H7 .i64 p12.1 p12.2).bind fun n13=>(Sl.idx hK ff 1).bind fun p14=>(Hp.st H7 p14.1 p14.2 (.int .i64 n13)).bind fun H15=>cy.l29 F fa ct hK (IntKind.i64.wrap (ff + 1)) H15) else (some ((.sl hK),H7)))
termination_by structural n=>n
def cy.twX (F:Nat) (aa:Sl) (H:Hp):OA:=(Hp.mk H [.int .i64 0] 8 (aa.n:Int) (aa.n:Int)).bind fun m2=>cy.l29 F F aa m2.1 0 m2.2
def cy.tw (F:Nat) (aa:Sl) (H:Hp):OA:=cy.twX F aa H
def cy.code:Go.Code:=(Try.f72.body).getD .skip
def cy.lh29 (F:Nat) (ks:List Nat) (n:Nat) (tm:Tm) (H:Hp):OA:=match ks,tm 0,tm 3,tm 4 with
 | [],(.sl ct),(.sl hK),(.int .i64 ff)=>cy.l29 F n ct hK ff H
 | _,_,_,_=>none
theorem cy.lh29_inv {F:Nat} {ks:List Nat} {n:Nat} {tm:Tm} {H:Hp} {r:AV×Hp} (h:cy.lh29 F ks n tm H = some r):∃ ct:Sl,∃ hK:Sl,∃ ff:Int,ks = []∧tm 0 = (.sl ct)∧tm 3 = (.sl hK)∧tm 4 = (.int .i64 ff)∧cy.l29 F n ct hK ff H = some r:=by
 unfold cy.lh29 at h
 split at h
 ·exact ⟨_,_,_,rfl,by assumption,by assumption,by assumption,h⟩
 ·cases h
def cy.lh (F:Nat) (p:Nat) (ks:List Nat) (n:Nat) (tm:Tm) (H:Hp):OA:=bif p.beq 29 then cy.lh29 F ks n tm H else (none)
def cy.pn:Nat→List Nat:=fun i=>(([]:List (Nat×List Nat)).lookup i).getD []
def cy.tb:Nat→List (List Nat):=fun i=>(([]:List (Nat×List (List Nat))).lookup i).getD []
def cy.mk (g:Sl→Hp→OA) (args:List AV) (H:Hp):OA:=match args with
 | [(.sl aa)]=>g aa H
 | _=>none
def cy.cs (F:Nat):List (FuncId×(List AV→Hp→OA)):=[]
theorem cy.loops (F:Nat):LoopsOk tabs (mkOrc (cy.cs F)) cy.pn (cy.lh F) F [] 1 cy.code (fun tm H=>aresults tabs.ty H tm Try.f72.results.toList fun v=>some (v,H)) (fun _ _ _=>none) (fun tm H=>aresults tabs.ty H tm Try.f72.results.toList fun v=>some (v,H)):=by
 refine LoopsOk.seq ?_ ?_
 ·exact loops_none (by kernel_rfl)
 ·refine LoopsOk.seq ?_ ?_
  ·exact loops_none (by kernel_rfl)
  ·refine LoopsOk.seq ?_ ?_
   ·refine LoopsOk.seq ?_ ?_
    ·exact loops_none (by kernel_rfl)
    ·refine LoopsOk.block ?_
     refine LoopsOk.loop (fun tm H=>?_) (fun k29 tm H r h0=>?_) (fun k29=>?_)
     ·refine none_of fun r h0=>?_
      obtain ⟨ct,hK,ff,hks,e0,e3,e4,h⟩:=cy.lh29_inv (show cy.lh29 F [] 0 tm H = some r from h0)
      cases h
     ·obtain ⟨ct,hK,ff,hks,e0,e3,e4,h⟩:=cy.lh29_inv (show cy.lh29 F [] (k29 + 1) tm H = some r from h0)
      have q0:(Tm.put tm 0 (.sl ct)) = tm:=by exact Tm.put_same e0
      have q1:(Tm.put (Tm.put tm 0 (.sl ct)) 3 (.sl hK)) = tm:=by rw [q0]; exact Tm.put_same e3
      have q2:(Tm.put (Tm.put (Tm.put tm 0 (.sl ct)) 3 (.sl hK)) 4 (.int .i64 ff)) = tm:=by rw [q1]; exact Tm.put_same e4
      rw [← q2]
      exact Eq.trans (by kernel_rfl) h
     ·exact loops_none (by kernel_rfl)
   ·exact loops_none (by kernel_rfl)
theorem cy.eqX (F:Nat) (aa:Sl) (H:Hp):aCode tabs (mkOrc (cy.cs F)) cy.pn (cy.lh F) F [] 1 cy.code (argTm [(.sl aa)]) H (fun tm H=>aresults tabs.ty H tm Try.f72.results.toList fun v=>some (v,H)) (fun _ _ _=>none) (fun tm H=>aresults tabs.ty H tm Try.f72.results.toList fun v=>some (v,H)) = cy.twX F aa H:=by kernel_rfl
theorem cy.cs_ok (F:Nat):∀ p ∈ cy.cs F,∀ args H v H',p.2 args H = some (v,H')→Go.AE.T Try.prog p.1 args H v H':=by
 intro p hp
 exact absurd (show p ∈ [] from hp) List.not_mem_nil
theorem cy.ok:codeOk cy.pn Try.f72.ntmps cy.tb cy.code = true:=by kernel_rfl
theorem cy.T {F:Nat} {aa:Sl} {H:Hp} {v:AV} {H':Hp} (h:cy.tw F aa H = some (v,H')):Go.AE.T Try.prog 72 [(.sl aa)] H v H':=
 Go.AE.T.of (Y:=tabs) (C:=mkOrc (cy.cs F)) (PN:=cy.pn) (LH:=cy.lh F) (F:=F) (TB:=cy.tb) (fn:=Try.f72) (code:=cy.code) mixed tabs_ok (mkOrc_ok (cy.cs_ok F)) Try.func72 (by kernel_rfl) (by kernel_rfl) cy.ok (Nat.le_of_ble_eq_true (by kernel_rfl)) (cy.loops F) (Eq.trans (cy.eqX F aa H) h)
theorem cy.mk_T {F:Nat} {args:List AV} {H:Hp} {v:AV} {H':Hp} (h:cy.mk (cy.tw F) args H = some (v,H')):Go.AE.T Try.prog 72 args H v H':=by
 unfold cy.mk at h
 split at h
 ·exact cy.T h
 ·cases h
def dB.twX (F:Nat) (ly:Sl→Hp→OA) (aa:Int) (ac:Int) (aj:Sl) (H:Hp):OA:=(Hp.new H [(.int .i64 aa),(.int .i64 ac),(.sl aj)]).bind fun H4=>(Hp.new H4 [.int .i64 0,.int .i64 0,.sl ⟨none,0,.ex 0⟩]).bind fun H5=>(Hp.new H5 [.int .i64 0,.int .i64 0,.sl ⟨none,0,.ex 0⟩]).bind fun H6=>(Hp.ldI H6 .i64 H.length 0).bind fun n7=>(Hp.st H6 H5.length 0 (.int .i64 n7)).bind fun H8=>(Hp.ldI H8 .i64 H.length 1).bind fun n9=>(Hp.st H8 H5.length 1 (.int .i64 n9)).bind fun H10=>(Hp.ldSl H10 H.length 2).bind fun s11=>(ly s11 H10).bind fun r12=>((r12.1).asSl).bind fun s13=>(Hp.st r12.2 H5.length 2 (.sl s13)).bind fun H14=>(Hp.ldI H14 .i64 H5.length 0).bind fun n15=>(Hp.ldI H14 .i64 H5.length (0 + 1)).bind fun n16=>(Hp.ldSl H14 H5.length (0 + 2)).bind fun s17=>(Hp.st H14 H4.length 0 (.int .i64 n15)).bind fun H18=>(Hp.st H18 H4.length (0 + 1) (.int .i64 n16)).bind fun H19=>(Hp.st H19 H4.length (0 + 1 + 1) (.sl s17)).bind fun H20=>(Hp.ldI H20 .i64 H4.length 0).bind fun n21=>(Hp.ldI H20 .i64 H4.length (0 + 1)).bind fun n22=>(Hp.ldSl H20 H4.length (0 + 2)).bind fun s23=>some ((.agg [(.int .i64 n21),(.int .i64 n22),(.sl s23)]),H20)
def dB.tw (F:Nat) (aa:Int) (ac:Int) (aj:Sl) (H:Hp):OA:=dB.twX F (cy.tw F) aa ac aj H
def dB.code:Go.Code:=(Try.f25.body).getD .skip
def dB.lh (F:Nat) (ly:Sl→Hp→OA) (p:Nat) (ks:List Nat) (n:Nat) (tm:Tm) (H:Hp):OA:=none
def dB.pn:Nat→List Nat:=fun i=>(([]:List (Nat×List Nat)).lookup i).getD []
def dB.tb:Nat→List (List Nat):=fun i=>(([]:List (Nat×List (List Nat))).lookup i).getD []
def dB.mk (g:Int→Int→Sl→Hp→OA) (args:List AV) (H:Hp):OA:=match args with
 | [(.agg [(.int .i64 aa),(.int .i64 ac),(.sl aj)])]=>g aa ac aj H
 | _=>none
def dB.cs (F:Nat) (ly:Sl→Hp→OA):List (FuncId×(List AV→Hp→OA)):=[(72,cy.mk ly)]
theorem dB.loops (F:Nat) (ly:Sl→Hp→OA):LoopsOk tabs (mkOrc (dB.cs F ly)) dB.pn (dB.lh F ly) F [] 1 dB.code (fun tm H=>aresults tabs.ty H tm Try.f25.results.toList fun v=>some (v,H)) (fun _ _ _=>none) (fun tm H=>aresults tabs.ty H tm Try.f25.results.toList fun v=>some (v,H)):=by
 exact loops_none (by kernel_rfl)
theorem dB.eqX (F:Nat) (ly:Sl→Hp→OA) (aa:Int) (ac:Int) (aj:Sl) (H:Hp):aCode tabs (mkOrc (dB.cs F ly)) dB.pn (dB.lh F ly) F [] 1 dB.code (argTm [(.agg [(.int .i64 aa),(.int .i64 ac),(.sl aj)])]) H (fun tm H=>aresults tabs.ty H tm Try.f25.results.toList fun v=>some (v,H)) (fun _ _ _=>none) (fun tm H=>aresults tabs.ty H tm Try.f25.results.toList fun v=>some (v,H)) = dB.twX F ly aa ac aj H:=by kernel_rfl
theorem dB.cs_ok (F:Nat):∀ p ∈ dB.cs F (cy.tw F),∀ args H v H',p.2 args H = some (v,H')→Go.AE.T Try.prog p.1 args H v H':=by
 intro p hp
 simp only [dB.cs,List.mem_cons,List.not_mem_nil,or_false] at hp
 subst hp
 exact fun args H v H' h=>cy.mk_T h
theorem dB.ok:codeOk dB.pn Try.f25.ntmps dB.tb dB.code = true:=by kernel_rfl
theorem dB.T {F:Nat} {aa:Int} {ac:Int} {aj:Sl} {H:Hp} {v:AV} {H':Hp} (h:dB.tw F aa ac aj H = some (v,H')):Go.AE.T Try.prog 25 [(.agg [(.int .i64 aa),(.int .i64 ac),(.sl aj)])] H v H':=
 Go.AE.T.of (Y:=tabs) (C:=mkOrc (dB.cs F (cy.tw F))) (PN:=dB.pn) (LH:=dB.lh F (cy.tw F)) (F:=F) (TB:=dB.tb) (fn:=Try.f25) (code:=dB.code) mixed tabs_ok (mkOrc_ok (dB.cs_ok F)) Try.func25 (by kernel_rfl) (by kernel_rfl) dB.ok (Nat.le_of_ble_eq_true (by kernel_rfl)) (dB.loops F (cy.tw F)) (Eq.trans (dB.eqX F (cy.tw F) aa ac aj H) h)
theorem dB.mk_T {F:Nat} {args:List AV} {H:Hp} {v:AV} {H':Hp} (h:dB.mk (dB.tw F) args H = some (v,H')):Go.AE.T Try.prog 25 args H v H':=by
 unfold dB.mk at h
 split at h
 ·exact dB.T h
 ·cases h
def dJ.twX (F:Nat) (aa:Int) (ag:Int) (cO:Int) (H:Hp):OA:=(bif (decide (aa ≥ ag)) then (some ((.bool (decide (aa ≤ cO))),H)) else (some ((.bool false),H)))
def dJ.tw (F:Nat) (aa:Int) (ag:Int) (cO:Int) (H:Hp):OA:=dJ.twX F aa ag cO H
def dJ.code:Go.Code:=(Try.f68.body).getD .skip
def dJ.lh (F:Nat) (p:Nat) (ks:List Nat) (n:Nat) (tm:Tm) (H:Hp):OA:=none
def dJ.pn:Nat→List Nat:=fun i=>(([]:List (Nat×List Nat)).lookup i).getD []
def dJ.tb:Nat→List (List Nat):=fun i=>(([]:List (Nat×List (List Nat))).lookup i).getD []
def dJ.mk (g:Int→Int→Int→Hp→OA) (args:List AV) (H:Hp):OA:=match args with
 | [(.int .i64 aa),(.int .i64 ag),(.int .i64 cO)]=>g aa ag cO H
 | _=>none
def dJ.cs (F:Nat):List (FuncId×(List AV→Hp→OA)):=[]
theorem dJ.loops (F:Nat):LoopsOk tabs (mkOrc (dJ.cs F)) dJ.pn (dJ.lh F) F [] 1 dJ.code (fun tm H=>aresults tabs.ty H tm Try.f68.results.toList fun v=>some (v,H)) (fun _ _ _=>none) (fun tm H=>aresults tabs.ty H tm Try.f68.results.toList fun v=>some (v,H)):=by
 exact loops_none (by kernel_rfl)
theorem dJ.eqX (F:Nat) (aa:Int) (ag:Int) (cO:Int) (H:Hp):aCode tabs (mkOrc (dJ.cs F)) dJ.pn (dJ.lh F) F [] 1 dJ.code (argTm [(.int .i64 aa),(.int .i64 ag),(.int .i64 cO)]) H (fun tm H=>aresults tabs.ty H tm Try.f68.results.toList fun v=>some (v,H)) (fun _ _ _=>none) (fun tm H=>aresults tabs.ty H tm Try.f68.results.toList fun v=>some (v,H)) = dJ.twX F aa ag cO H:=by kernel_rfl
theorem dJ.cs_ok (F:Nat):∀ p ∈ dJ.cs F,∀ args H v H',p.2 args H = some (v,H')→Go.AE.T Try.prog p.1 args H v H':=by
 intro p hp
 exact absurd (show p ∈ [] from hp) List.not_mem_nil
theorem dJ.ok:codeOk dJ.pn Try.f68.ntmps dJ.tb dJ.code = true:=by kernel_rfl
theorem dJ.T {F:Nat} {aa:Int} {ag:Int} {cO:Int} {H:Hp} {v:AV} {H':Hp} (h:dJ.tw F aa ag cO H = some (v,H')):Go.AE.T Try.prog 68 [(.int .i64 aa),(.int .i64 ag),(.int .i64 cO)] H v H':=
 Go.AE.T.of (Y:=tabs) (C:=mkOrc (dJ.cs F)) (PN:=dJ.pn) (LH:=dJ.lh F) (F:=F) (TB:=dJ.tb) (fn:=Try.f68) (code:=dJ.code) mixed tabs_ok (mkOrc_ok (dJ.cs_ok F)) Try.func68 (by kernel_rfl) (by kernel_rfl) dJ.ok (Nat.le_of_ble_eq_true (by kernel_rfl)) (dJ.loops F) (Eq.trans (dJ.eqX F aa ag cO H) h)
theorem dJ.mk_T {F:Nat} {args:List AV} {H:Hp} {v:AV} {H':Hp} (h:dJ.mk (dJ.tw F) args H = some (v,H')):Go.AE.T Try.prog 68 args H v H':=by
 unfold dJ.mk at h
 split at h
 ·exact dJ.T h
 ·cases h
def cu.l29 (F:Nat) (hX:Int→Int→Int→Hp→OA) :Nat→Nat→Nat→Int→Hp→OA
 | 0,_,_,_,_=>none
 | fa + 1,kn,ll,js,H22=>(Hp.ldSl H22 kn (ll + 2)).bind fun s29=>(bif (decide (js < (s29.n:Int))) then ((Hp.ldSl H22 kn (ll + 2)).bind fun s30=>(Sl.idx s30 js 1).bind fun p31=>(Hp.ldI H22 .i64 p31.1 p31.2).bind fun n32=>(hX n32 (-1000000000000) 1000000000000 H22).bind fun r33=>((r33.1).asB).bind fun b34=>(bif (!b34) then (some ((.bool false),r33.2)) else (cu.l29 F hX fa kn ll (IntKind.i64.wrap (js + 1)) r33.2))) else (some ((.bool true),H22)))
termination_by structural n=>n
def cu.twX (F:Nat) (hX:Int→Int→Int→Hp→OA) (aa:Int) (ac:Int) (aj:Sl) (H:Hp):OA:=(Hp.new H [(.int .i64 aa),(.int .i64 ac),(.sl aj)]).bind fun H4=>(Hp.ldI H4 .i64 H.length 0).bind fun n5=>(hX n5 0 48 H4).bind fun r6=>((r6.1).asB).bind fun b7=>(bif (!b7) then (some ((.bool false),r6.2)) else ((Hp.ldI r6.2 .i64 H.length 1).bind fun n8=>(hX n8 0 48 r6.2).bind fun r9=>((r9.1).asB).bind fun b10=>(bif (!b10) then (some ((.bool false),r9.2)) else ((Hp.ldSl r9.2 H.length 2).bind fun s11=>(Hp.ldI r9.2 .i64 H.length 0).bind fun n12=>(Hp.ldI r9.2 .i64 H.length 1).bind fun n13=>(bif ((s11.n:Int) != (IntKind.i64.wrap (n12 * n13))) then (some ((.bool false),r9.2)) else (cu.l29 F hX F H.length 0 0 r9.2))))))
def cu.tw (F:Nat) (aa:Int) (ac:Int) (aj:Sl) (H:Hp):OA:=cu.twX F (dJ.tw F) aa ac aj H
def cu.code:Go.Code:=(Try.f19.body).getD .skip
def cu.lh29 (F:Nat) (hX:Int→Int→Int→Hp→OA) (ks:List Nat) (n:Nat) (tm:Tm) (H:Hp):OA:=match ks,tm 1,tm 3 with
 | [],(.ptr kn ll),(.int .i64 js)=>cu.l29 F hX n kn ll js H
 | _,_,_=>none
theorem cu.lh29_inv {F:Nat} {hX:Int→Int→Int→Hp→OA} {ks:List Nat} {n:Nat} {tm:Tm} {H:Hp} {r:AV×Hp} (h:cu.lh29 F hX ks n tm H = some r):∃ kn:Nat,∃ ll:Nat,∃ js:Int,ks = []∧tm 1 = (.ptr kn ll)∧tm 3 = (.int .i64 js)∧cu.l29 F hX n kn ll js H = some r:=by
 unfold cu.lh29 at h
 split at h
 ·exact ⟨_,_,_,rfl,by assumption,by assumption,h⟩
 ·cases h
def cu.lh (F:Nat) (hX:Int→Int→Int→Hp→OA) (p:Nat) (ks:List Nat) (n:Nat) (tm:Tm) (H:Hp):OA:=bif p.beq 29 then cu.lh29 F hX ks n tm H else (none)
def cu.pn:Nat→List Nat:=fun i=>(([]:List (Nat×List Nat)).lookup i).getD []
def cu.tb:Nat→List (List Nat):=fun i=>(([]:List (Nat×List (List Nat))).lookup i).getD []
def cu.mk (g:Int→Int→Sl→Hp→OA) (args:List AV) (H:Hp):OA:=match args with
 | [(.agg [(.int .i64 aa),(.int .i64 ac),(.sl aj)])]=>g aa ac aj H
 | _=>none
def cu.cs (F:Nat) (hX:Int→Int→Int→Hp→OA):List (FuncId×(List AV→Hp→OA)):=[(68,dJ.mk hX)]
theorem cu.loops (F:Nat) (hX:Int→Int→Int→Hp→OA):LoopsOk tabs (mkOrc (cu.cs F hX)) cu.pn (cu.lh F hX) F [] 1 cu.code (fun tm H=>aresults tabs.ty H tm Try.f19.results.toList fun v=>some (v,H)) (fun _ _ _=>none) (fun tm H=>aresults tabs.ty H tm Try.f19.results.toList fun v=>some (v,H)):=by
 refine LoopsOk.seq ?_ ?_
 ·exact loops_none (by kernel_rfl)
 ·refine LoopsOk.seq ?_ ?_
  ·exact loops_none (by kernel_rfl)
  ·refine LoopsOk.seq ?_ ?_
   ·refine LoopsOk.seq ?_ ?_
    ·exact loops_none (by kernel_rfl)
    ·refine LoopsOk.block ?_
     refine LoopsOk.loop (fun tm H=>?_) (fun k29 tm H r h0=>?_) (fun k29=>?_)
     ·refine none_of fun r h0=>?_
      obtain ⟨kn,ll,js,hks,e1,e3,h⟩:=cu.lh29_inv (show cu.lh29 F hX [] 0 tm H = some r from h0)
      cases h
     ·obtain ⟨kn,ll,js,hks,e1,e3,h⟩:=cu.lh29_inv (show cu.lh29 F hX [] (k29 + 1) tm H = some r from h0)
      have q0:(Tm.put tm 1 (.ptr kn ll)) = tm:=by exact Tm.put_same e1
      have q1:(Tm.put (Tm.put tm 1 (.ptr kn ll)) 3 (.int .i64 js)) = tm:=by rw [q0]; exact Tm.put_same e3
      rw [← q1]
      exact Eq.trans (by kernel_rfl) h
     ·exact loops_none (by kernel_rfl)
   ·exact loops_none (by kernel_rfl)
theorem cu.eqX (F:Nat) (hX:Int→Int→Int→Hp→OA) (aa:Int) (ac:Int) (aj:Sl) (H:Hp):aCode tabs (mkOrc (cu.cs F hX)) cu.pn (cu.lh F hX) F [] 1 cu.code (argTm [(.agg [(.int .i64 aa),(.int .i64 ac),(.sl aj)])]) H (fun tm H=>aresults tabs.ty H tm Try.f19.results.toList fun v=>some (v,H)) (fun _ _ _=>none) (fun tm H=>aresults tabs.ty H tm Try.f19.results.toList fun v=>some (v,H)) = cu.twX F hX aa ac aj H:=by kernel_rfl
theorem cu.cs_ok (F:Nat):∀ p ∈ cu.cs F (dJ.tw F),∀ args H v H',p.2 args H = some (v,H')→Go.AE.T Try.prog p.1 args H v H':=by
 intro p hp
 simp only [cu.cs,List.mem_cons,List.not_mem_nil,or_false] at hp
 subst hp
 exact fun args H v H' h=>dJ.mk_T h
theorem cu.ok:codeOk cu.pn Try.f19.ntmps cu.tb cu.code = true:=by kernel_rfl
theorem cu.T {F:Nat} {aa:Int} {ac:Int} {aj:Sl} {H:Hp} {v:AV} {H':Hp} (h:cu.tw F aa ac aj H = some (v,H')):Go.AE.T Try.prog 19 [(.agg [(.int .i64 aa),(.int .i64 ac),(.sl aj)])] H v H':=
 Go.AE.T.of (Y:=tabs) (C:=mkOrc (cu.cs F (dJ.tw F))) (PN:=cu.pn) (LH:=cu.lh F (dJ.tw F)) (F:=F) (TB:=cu.tb) (fn:=Try.f19) (code:=cu.code) mixed tabs_ok (mkOrc_ok (cu.cs_ok F)) Try.func19 (by kernel_rfl) (by kernel_rfl) cu.ok (Nat.le_of_ble_eq_true (by kernel_rfl)) (cu.loops F (dJ.tw F)) (Eq.trans (cu.eqX F (dJ.tw F) aa ac aj H) h)
theorem cu.mk_T {F:Nat} {args:List AV} {H:Hp} {v:AV} {H':Hp} (h:cu.mk (cu.tw F) args H = some (v,H')):Go.AE.T Try.prog 19 args H v H':=by
 unfold cu.mk at h
 split at h
 ·exact cu.T h
 ·cases h
def ef.twX (F:Nat) (aa:Int) (ag:Int) (H:Hp):OA:=(Hp.new H [.int .i64 0,.int .i64 0,.sl ⟨none,0,.ex 0⟩]).bind fun H3=>(Hp.mk H3 [.int .i64 0] 8 (IntKind.i64.wrap (aa * ag)) (IntKind.i64.wrap (aa * ag))).bind fun m4=>(Hp.st m4.2 H.length 0 (.int .i64 aa)).bind fun H5=>(Hp.st H5 H.length (0 + 1) (.int .i64 ag)).bind fun H6=>(Hp.st H6 H.length (0 + 1 + 1) (.sl m4.1)).bind fun H7=>(Hp.ldI H7 .i64 H.length 0).bind fun n8=>(Hp.ldI H7 .i64 H.length (0 + 1)).bind fun n9=>(Hp.ldSl H7 H.length (0 + 2)).bind fun s10=>some ((.agg [(.int .i64 n8),(.int .i64 n9),(.sl s10)]),H7)
def ef.tw (F:Nat) (aa:Int) (ag:Int) (H:Hp):OA:=ef.twX F aa ag H
def ef.code:Go.Code:=(Try.f80.body).getD .skip
def ef.lh (F:Nat) (p:Nat) (ks:List Nat) (n:Nat) (tm:Tm) (H:Hp):OA:=none
def ef.pn:Nat→List Nat:=fun i=>(([]:List (Nat×List Nat)).lookup i).getD []
def ef.tb:Nat→List (List Nat):=fun i=>(([]:List (Nat×List (List Nat))).lookup i).getD []
def ef.mk (g:Int→Int→Hp→OA) (args:List AV) (H:Hp):OA:=match args with
 | [(.int .i64 aa),(.int .i64 ag)]=>g aa ag H
 | _=>none
def ef.cs (F:Nat):List (FuncId×(List AV→Hp→OA)):=[]
theorem ef.loops (F:Nat):LoopsOk tabs (mkOrc (ef.cs F)) ef.pn (ef.lh F) F [] 1 ef.code (fun tm H=>aresults tabs.ty H tm Try.f80.results.toList fun v=>some (v,H)) (fun _ _ _=>none) (fun tm H=>aresults tabs.ty H tm Try.f80.results.toList fun v=>some (v,H)):=by
 exact loops_none (by kernel_rfl)
theorem ef.eqX (F:Nat) (aa:Int) (ag:Int) (H:Hp):aCode tabs (mkOrc (ef.cs F)) ef.pn (ef.lh F) F [] 1 ef.code (argTm [(.int .i64 aa),(.int .i64 ag)]) H (fun tm H=>aresults tabs.ty H tm Try.f80.results.toList fun v=>some (v,H)) (fun _ _ _=>none) (fun tm H=>aresults tabs.ty H tm Try.f80.results.toList fun v=>some (v,H)) = ef.twX F aa ag H:=by kernel_rfl
theorem ef.cs_ok (F:Nat):∀ p ∈ ef.cs F,∀ args H v H',p.2 args H = some (v,H')→Go.AE.T Try.prog p.1 args H v H':=by
 intro p hp
 exact absurd (show p ∈ [] from hp) List.not_mem_nil
theorem ef.ok:codeOk ef.pn Try.f80.ntmps ef.tb ef.code = true:=by kernel_rfl
theorem ef.T {F:Nat} {aa:Int} {ag:Int} {H:Hp} {v:AV} {H':Hp} (h:ef.tw F aa ag H = some (v,H')):Go.AE.T Try.prog 80 [(.int .i64 aa),(.int .i64 ag)] H v H':=
 Go.AE.T.of (Y:=tabs) (C:=mkOrc (ef.cs F)) (PN:=ef.pn) (LH:=ef.lh F) (F:=F) (TB:=ef.tb) (fn:=Try.f80) (code:=ef.code) mixed tabs_ok (mkOrc_ok (ef.cs_ok F)) Try.func80 (by kernel_rfl) (by kernel_rfl) ef.ok (Nat.le_of_ble_eq_true (by kernel_rfl)) (ef.loops F) (Eq.trans (ef.eqX F aa ag H) h)
theorem ef.mk_T {F:Nat} {args:List AV} {H:Hp} {v:AV} {H':Hp} (h:ef.mk (ef.tw F) args H = some (v,H')):Go.AE.T Try.prog 80 args H v H':=by
 unfold ef.mk at h
 split at h
 ·exact ef.T h
 ·cases h
def bO.l29 (F:Nat) (iI:Int→Int→Hp→OA) :Nat→Int→Nat→Nat→Nat→Nat→Int→Hp→OA
 | 0,_,_,_,_,_,_,_=>none
 | fa + 1,im,ck,gd,fH,gu,iJ,H21=>(bif (decide (iJ < im)) then ((Hp.ldSl H21 fH (gu + 2)).bind fun s34=>(Sl.idx s34 (IntKind.i64.wrap ((IntKind.i64.wrap (iJ * im)) + iJ)) 1).bind fun p35=>(Hp.st H21 p35.1 p35.2 (.int .i64 1)).bind fun H36=>bO.l29 F iI fa im ck gd fH gu (IntKind.i64.wrap (iJ + 1)) H36) else ((Hp.ldI H21 .i64 fH gu).bind fun n37=>(Hp.ldI H21 .i64 fH (gu + 1)).bind fun n38=>(Hp.ldSl H21 fH (gu + 2)).bind fun s39=>(Hp.st H21 ck gd (.int .i64 n37)).bind fun H40=>(Hp.st H40 ck (gd + 1) (.int .i64 n38)).bind fun H41=>(Hp.st H41 ck (gd + 1 + 1) (.sl s39)).bind fun H42=>(Hp.ldI H42 .i64 ck gd).bind fun n43=>(Hp.ldI H42 .i64 ck (gd + 1)).bind fun n44=>(Hp.ldSl H42 ck (gd + 2)).bind fun s45=>some ((.agg [(.int .i64 n43),(.int .i64 n44),(.sl s45)]),H42)))
termination_by structural n=>n
def bO.twX (F:Nat) (iI:Int→Int→Hp→OA) (aa:Int) (H:Hp):OA:=(Hp.new H [.int .i64 0,.int .i64 0,.sl ⟨none,0,.ex 0⟩]).bind fun H2=>(iI aa aa H2).bind fun r3=>((r3.1).asAgg 3).bind fun l4=>(l4[0]?).bind fun v5=>((v5).asI .i64).bind fun n6=>(l4[1]?).bind fun v7=>((v7).asI .i64).bind fun n8=>(l4[2]?).bind fun v9=>((v9).asSl).bind fun s10=>(Hp.new r3.2 [.int .i64 0,.int .i64 0,.sl ⟨none,0,.ex 0⟩]).bind fun H11=>(Hp.st H11 r3.2.length 0 (.int .i64 n6)).bind fun H12=>(Hp.st H12 r3.2.length (0 + 1) (.int .i64 n8)).bind fun H13=>(Hp.st H13 r3.2.length (0 + 1 + 1) (.sl s10)).bind fun H14=>bO.l29 F iI F aa H.length 0 r3.2.length 0 0 H14
def bO.tw (F:Nat) (aa:Int) (H:Hp):OA:=bO.twX F (ef.tw F) aa H
def bO.code:Go.Code:=(Try.f115.body).getD .skip
def bO.lh29 (F:Nat) (iI:Int→Int→Hp→OA) (ks:List Nat) (n:Nat) (tm:Tm) (H:Hp):OA:=match ks,tm 0,tm 2,tm 3,tm 4 with
 | [],(.int .i64 im),(.ptr ck gd),(.ptr fH gu),(.int .i64 iJ)=>bO.l29 F iI n im ck gd fH gu iJ H
 | _,_,_,_,_=>none
theorem bO.lh29_inv {F:Nat} {iI:Int→Int→Hp→OA} {ks:List Nat} {n:Nat} {tm:Tm} {H:Hp} {r:AV×Hp} (h:bO.lh29 F iI ks n tm H = some r):∃ im:Int,∃ ck:Nat,∃ gd:Nat,∃ fH:Nat,∃ gu:Nat,∃ iJ:Int,ks = []∧tm 0 = (.int .i64 im)∧tm 2 = (.ptr ck gd)∧tm 3 = (.ptr fH gu)∧tm 4 = (.int .i64 iJ)∧bO.l29 F iI n im ck gd fH gu iJ H = some r:=by
 unfold bO.lh29 at h
 split at h
 ·exact ⟨_,_,_,_,_,_,rfl,by assumption,by assumption,by assumption,by assumption,h⟩
 ·cases h
def bO.lh (F:Nat) (iI:Int→Int→Hp→OA) (p:Nat) (ks:List Nat) (n:Nat) (tm:Tm) (H:Hp):OA:=bif p.beq 29 then bO.lh29 F iI ks n tm H else (none)
def bO.pn:Nat→List Nat:=fun i=>(([]:List (Nat×List Nat)).lookup i).getD []
def bO.tb:Nat→List (List Nat):=fun i=>(([]:List (Nat×List (List Nat))).lookup i).getD []
def bO.mk (g:Int→Hp→OA) (args:List AV) (H:Hp):OA:=match args with
 | [(.int .i64 aa)]=>g aa H
 | _=>none
def bO.cs (F:Nat) (iI:Int→Int→Hp→OA):List (FuncId×(List AV→Hp→OA)):=[(80,ef.mk iI)]
theorem bO.loops (F:Nat) (iI:Int→Int→Hp→OA):LoopsOk tabs (mkOrc (bO.cs F iI)) bO.pn (bO.lh F iI) F [] 1 bO.code (fun tm H=>aresults tabs.ty H tm Try.f115.results.toList fun v=>some (v,H)) (fun _ _ _=>none) (fun tm H=>aresults tabs.ty H tm Try.f115.results.toList fun v=>some (v,H)):=by
 refine LoopsOk.seq ?_ ?_
 ·exact loops_none (by kernel_rfl)
 ·refine LoopsOk.seq ?_ ?_
  ·exact loops_none (by kernel_rfl)
  ·refine LoopsOk.seq ?_ ?_
   ·refine LoopsOk.seq ?_ ?_
    ·exact loops_none (by kernel_rfl)
    ·refine LoopsOk.block ?_
     refine LoopsOk.loop (fun tm H=>?_) (fun k29 tm H r h0=>?_) (fun k29=>?_)
     ·refine none_of fun r h0=>?_
      obtain ⟨im,ck,gd,fH,gu,iJ,hks,e0,e2,e3,e4,h⟩:=bO.lh29_inv (show bO.lh29 F iI [] 0 tm H = some r from h0)
      cases h
     ·obtain ⟨im,ck,gd,fH,gu,iJ,hks,e0,e2,e3,e4,h⟩:=bO.lh29_inv (show bO.lh29 F iI [] (k29 + 1) tm H = some r from h0)
      have q0:(Tm.put tm 0 (.int .i64 im)) = tm:=by exact Tm.put_same e0
      have q1:(Tm.put (Tm.put tm 0 (.int .i64 im)) 2 (.ptr ck gd)) = tm:=by rw [q0]; exact Tm.put_same e2
      have q2:(Tm.put (Tm.put (Tm.put tm 0 (.int .i64 im)) 2 (.ptr ck gd)) 3 (.ptr fH gu)) = tm:=by rw [q1]; exact Tm.put_same e3
      have q3:(Tm.put (Tm.put (Tm.put (Tm.put tm 0 (.int .i64 im)) 2 (.ptr ck gd)) 3 (.ptr fH gu)) 4 (.int .i64 iJ)) = tm:=by rw [q2]; exact Tm.put_same e4
      rw [← q3]
      exact Eq.trans (by kernel_rfl) h
     ·exact loops_none (by kernel_rfl)
   ·exact loops_none (by kernel_rfl)
theorem bO.eqX (F:Nat) (iI:Int→Int→Hp→OA) (aa:Int) (H:Hp):aCode tabs (mkOrc (bO.cs F iI)) bO.pn (bO.lh F iI) F [] 1 bO.code (argTm [(.int .i64 aa)]) H (fun tm H=>aresults tabs.ty H tm Try.f115.results.toList fun v=>some (v,H)) (fun _ _ _=>none) (fun tm H=>aresults tabs.ty H tm Try.f115.results.toList fun v=>some (v,H)) = bO.twX F iI aa H:=by kernel_rfl
theorem bO.cs_ok (F:Nat):∀ p ∈ bO.cs F (ef.tw F),∀ args H v H',p.2 args H = some (v,H')→Go.AE.T Try.prog p.1 args H v H':=by
 intro p hp
 simp only [bO.cs,List.mem_cons,List.not_mem_nil,or_false] at hp
 subst hp
 exact fun args H v H' h=>ef.mk_T h
theorem bO.ok:codeOk bO.pn Try.f115.ntmps bO.tb bO.code = true:=by kernel_rfl
theorem bO.T {F:Nat} {aa:Int} {H:Hp} {v:AV} {H':Hp} (h:bO.tw F aa H = some (v,H')):Go.AE.T Try.prog 115 [(.int .i64 aa)] H v H':=
 Go.AE.T.of (Y:=tabs) (C:=mkOrc (bO.cs F (ef.tw F))) (PN:=bO.pn) (LH:=bO.lh F (ef.tw F)) (F:=F) (TB:=bO.tb) (fn:=Try.f115) (code:=bO.code) mixed tabs_ok (mkOrc_ok (bO.cs_ok F)) Try.func115 (by kernel_rfl) (by kernel_rfl) bO.ok (Nat.le_of_ble_eq_true (by kernel_rfl)) (bO.loops F (ef.tw F)) (Eq.trans (bO.eqX F (ef.tw F) aa H) h)
theorem bO.mk_T {F:Nat} {args:List AV} {H:Hp} {v:AV} {H':Hp} (h:bO.mk (bO.tw F) args H = some (v,H')):Go.AE.T Try.prog 115 args H v H':=by
 unfold bO.mk at h
 split at h
 ·exact bO.T h
 ·cases h
def aC.twX (F:Nat) (aa:Int) (ac:Int) (aj:Sl) (af:Int) (bi:Int) (H:Hp):OA:=(Hp.new H [(.int .i64 aa),(.int .i64 ac),(.sl aj)]).bind fun H6=>(Hp.ldSl H6 H.length 2).bind fun s7=>(Hp.ldI H6 .i64 H.length 1).bind fun n8=>(Sl.idx s7 (IntKind.i64.wrap ((IntKind.i64.wrap (af * n8)) + bi)) 1).bind fun p9=>(Hp.ldI H6 .i64 p9.1 p9.2).bind fun n10=>some ((.int .i64 n10),H6)
def aC.tw (F:Nat) (aa:Int) (ac:Int) (aj:Sl) (af:Int) (bi:Int) (H:Hp):OA:=aC.twX F aa ac aj af bi H
def aC.code:Go.Code:=(Try.f79.body).getD .skip
def aC.lh (F:Nat) (p:Nat) (ks:List Nat) (n:Nat) (tm:Tm) (H:Hp):OA:=none
def aC.pn:Nat→List Nat:=fun i=>(([]:List (Nat×List Nat)).lookup i).getD []
def aC.tb:Nat→List (List Nat):=fun i=>(([]:List (Nat×List (List Nat))).lookup i).getD []
def aC.mk (g:Int→Int→Sl→Int→Int→Hp→OA) (args:List AV) (H:Hp):OA:=match args with
 | [(.agg [(.int .i64 aa),(.int .i64 ac),(.sl aj)]),(.int .i64 af),(.int .i64 bi)]=>g aa ac aj af bi H
 | _=>none
def aC.cs (F:Nat):List (FuncId×(List AV→Hp→OA)):=[]
theorem aC.loops (F:Nat):LoopsOk tabs (mkOrc (aC.cs F)) aC.pn (aC.lh F) F [] 1 aC.code (fun tm H=>aresults tabs.ty H tm Try.f79.results.toList fun v=>some (v,H)) (fun _ _ _=>none) (fun tm H=>aresults tabs.ty H tm Try.f79.results.toList fun v=>some (v,H)):=by
 exact loops_none (by kernel_rfl)
theorem aC.eqX (F:Nat) (aa:Int) (ac:Int) (aj:Sl) (af:Int) (bi:Int) (H:Hp):aCode tabs (mkOrc (aC.cs F)) aC.pn (aC.lh F) F [] 1 aC.code (argTm [(.agg [(.int .i64 aa),(.int .i64 ac),(.sl aj)]),(.int .i64 af),(.int .i64 bi)]) H (fun tm H=>aresults tabs.ty H tm Try.f79.results.toList fun v=>some (v,H)) (fun _ _ _=>none) (fun tm H=>aresults tabs.ty H tm Try.f79.results.toList fun v=>some (v,H)) = aC.twX F aa ac aj af bi H:=by kernel_rfl
theorem aC.cs_ok (F:Nat):∀ p ∈ aC.cs F,∀ args H v H',p.2 args H = some (v,H')→Go.AE.T Try.prog p.1 args H v H':=by
 intro p hp
 exact absurd (show p ∈ [] from hp) List.not_mem_nil
theorem aC.ok:codeOk aC.pn Try.f79.ntmps aC.tb aC.code = true:=by kernel_rfl
theorem aC.T {F:Nat} {aa:Int} {ac:Int} {aj:Sl} {af:Int} {bi:Int} {H:Hp} {v:AV} {H':Hp} (h:aC.tw F aa ac aj af bi H = some (v,H')):Go.AE.T Try.prog 79 [(.agg [(.int .i64 aa),(.int .i64 ac),(.sl aj)]),(.int .i64 af),(.int .i64 bi)] H v H':=
 Go.AE.T.of (Y:=tabs) (C:=mkOrc (aC.cs F)) (PN:=aC.pn) (LH:=aC.lh F) (F:=F) (TB:=aC.tb) (fn:=Try.f79) (code:=aC.code) mixed tabs_ok (mkOrc_ok (aC.cs_ok F)) Try.func79 (by kernel_rfl) (by kernel_rfl) aC.ok (Nat.le_of_ble_eq_true (by kernel_rfl)) (aC.loops F) (Eq.trans (aC.eqX F aa ac aj af bi H) h)
theorem aC.mk_T {F:Nat} {args:List AV} {H:Hp} {v:AV} {H':Hp} (h:aC.mk (aC.tw F) args H = some (v,H')):Go.AE.T Try.prog 79 args H v H':=by
 unfold aC.mk at h
 split at h
 ·exact aC.T h
 ·cases h
def co.twX (F:Nat) (aa:Int) (H:Hp):OA:=some ((.int .i64 (if (IntKind.i64.wrap (0 - aa)) > aa then (IntKind.i64.wrap (0 - aa)) else aa)),H)
def co.tw (F:Nat) (aa:Int) (H:Hp):OA:=co.twX F aa H
def co.code:Go.Code:=(Try.f114.body).getD .skip
def co.lh (F:Nat) (p:Nat) (ks:List Nat) (n:Nat) (tm:Tm) (H:Hp):OA:=none
def co.pn:Nat→List Nat:=fun i=>(([]:List (Nat×List Nat)).lookup i).getD []
def co.tb:Nat→List (List Nat):=fun i=>(([]:List (Nat×List (List Nat))).lookup i).getD []
def co.mk (g:Int→Hp→OA) (args:List AV) (H:Hp):OA:=match args with
 | [(.int .i64 aa)]=>g aa H
 | _=>none
def co.cs (F:Nat):List (FuncId×(List AV→Hp→OA)):=[]
theorem co.loops (F:Nat):LoopsOk tabs (mkOrc (co.cs F)) co.pn (co.lh F) F [] 1 co.code (fun tm H=>aresults tabs.ty H tm Try.f114.results.toList fun v=>some (v,H)) (fun _ _ _=>none) (fun tm H=>aresults tabs.ty H tm Try.f114.results.toList fun v=>some (v,H)):=by
 exact loops_none (by kernel_rfl)
theorem co.eqX (F:Nat) (aa:Int) (H:Hp):aCode tabs (mkOrc (co.cs F)) co.pn (co.lh F) F [] 1 co.code (argTm [(.int .i64 aa)]) H (fun tm H=>aresults tabs.ty H tm Try.f114.results.toList fun v=>some (v,H)) (fun _ _ _=>none) (fun tm H=>aresults tabs.ty H tm Try.f114.results.toList fun v=>some (v,H)) = co.twX F aa H:=by kernel_rfl
theorem co.cs_ok (F:Nat):∀ p ∈ co.cs F,∀ args H v H',p.2 args H = some (v,H')→Go.AE.T Try.prog p.1 args H v H':=by
 intro p hp
 exact absurd (show p ∈ [] from hp) List.not_mem_nil
theorem co.ok:codeOk co.pn Try.f114.ntmps co.tb co.code = true:=by kernel_rfl
theorem co.T {F:Nat} {aa:Int} {H:Hp} {v:AV} {H':Hp} (h:co.tw F aa H = some (v,H')):Go.AE.T Try.prog 114 [(.int .i64 aa)] H v H':=
 Go.AE.T.of (Y:=tabs) (C:=mkOrc (co.cs F)) (PN:=co.pn) (LH:=co.lh F) (F:=F) (TB:=co.tb) (fn:=Try.f114) (code:=co.code) mixed tabs_ok (mkOrc_ok (co.cs_ok F)) Try.func114 (by kernel_rfl) (by kernel_rfl) co.ok (Nat.le_of_ble_eq_true (by kernel_rfl)) (co.loops F) (Eq.trans (co.eqX F aa H) h)
theorem co.mk_T {F:Nat} {args:List AV} {H:Hp} {v:AV} {H':Hp} (h:co.mk (co.tw F) args H = some (v,H')):Go.AE.T Try.prog 114 args H v H':=by
 unfold co.mk at h
 split at h
 ·exact co.T h
 ·cases h
def bL.l7 (F:Nat) (ai:Int→Int→Sl→Int→Int→Hp→OA) :Nat→Int→Int→Nat→Nat→Int→Hp→OA
 | 0,_,_,_,_,_,_=>none
 | kI + 1,fg,fp,eR,cP,eS,H15=>(Hp.ldI H15 .i64 eR (cP + 1)).bind fun n35=>(bif (decide (eS < n35)) then ((Hp.ldI H15 .i64 eR cP).bind fun n36=>(Hp.ldI H15 .i64 eR (cP + 1)).bind fun n37=>(Hp.ldSl H15 eR (cP + 2)).bind fun s38=>(ai n36 n37 s38 fg eS H15).bind fun r39=>((r39.1).asI .i64).bind fun n40=>(Hp.ldSl r39.2 eR (cP + 2)).bind fun s41=>(Hp.ldI r39.2 .i64 eR (cP + 1)).bind fun n42=>(Hp.ldI r39.2 .i64 eR cP).bind fun n43=>(Hp.ldI r39.2 .i64 eR (cP + 1)).bind fun n44=>(Hp.ldSl r39.2 eR (cP + 2)).bind fun s45=>(ai n43 n44 s45 fp eS r39.2).bind fun r46=>((r46.1).asI .i64).bind fun n47=>(if Cons r39.2 r46.2 then ((Sl.idx s41 (IntKind.i64.wrap ((IntKind.i64.wrap (fg * n42)) + eS)) 1).bind fun p48=>(Hp.st r46.2 p48.1 p48.2 (.int .i64 n47)).bind fun H49=>(Hp.ldSl H49 eR (cP + 2)).bind fun s50=>(Hp.ldI H49 .i64 eR (cP + 1)).bind fun n51=>(Sl.idx s50 (IntKind.i64.wrap ((IntKind.i64.wrap (fp * n51)) + eS)) 1).bind fun p52=>(Hp.st H49 p52.1 p52.2 (.int .i64 n40)).bind fun H53=>bL.l7 F ai kI fg fp eR cP (IntKind.i64.wrap (eS + 1)) H53) else none)) else (some ((.tup []),H15)))
termination_by structural n=>n
def bL.twX (F:Nat) (ai:Int→Int→Sl→Int→Int→Hp→OA) (aa:Int) (ac:Int) (aj:Sl) (af:Int) (bi:Int) (H:Hp):OA:=(Hp.new H [(.int .i64 aa),(.int .i64 ac),(.sl aj)]).bind fun H6=>bL.l7 F ai F af bi H.length 0 0 H6
def bL.tw (F:Nat) (aa:Int) (ac:Int) (aj:Sl) (af:Int) (bi:Int) (H:Hp):OA:=bL.twX F (aC.tw F) aa ac aj af bi H
def bL.code:Go.Code:=(Try.f145.body).getD .skip
def bL.lh7 (F:Nat) (ai:Int→Int→Sl→Int→Int→Hp→OA) (ks:List Nat) (n:Nat) (tm:Tm) (H:Hp):OA:=match ks,tm 1,tm 2,tm 3,tm 6 with
 | [],(.int .i64 fg),(.int .i64 fp),(.ptr eR cP),(.int .i64 eS)=>bL.l7 F ai n fg fp eR cP eS H
 | _,_,_,_,_=>none
theorem bL.lh7_inv {F:Nat} {ai:Int→Int→Sl→Int→Int→Hp→OA} {ks:List Nat} {n:Nat} {tm:Tm} {H:Hp} {r:AV×Hp} (h:bL.lh7 F ai ks n tm H = some r):∃ fg:Int,∃ fp:Int,∃ eR:Nat,∃ cP:Nat,∃ eS:Int,ks = []∧tm 1 = (.int .i64 fg)∧tm 2 = (.int .i64 fp)∧tm 3 = (.ptr eR cP)∧tm 6 = (.int .i64 eS)∧bL.l7 F ai n fg fp eR cP eS H = some r:=by
 unfold bL.lh7 at h
 split at h
 ·exact ⟨_,_,_,_,_,rfl,by assumption,by assumption,by assumption,by assumption,h⟩
 ·cases h
def bL.lh (F:Nat) (ai:Int→Int→Sl→Int→Int→Hp→OA) (p:Nat) (ks:List Nat) (n:Nat) (tm:Tm) (H:Hp):OA:=bif p.beq 7 then bL.lh7 F ai ks n tm H else (none)
def bL.pn:Nat→List Nat:=fun i=>(([(5,[13])]:List (Nat×List Nat)).lookup i).getD []
def bL.tb:Nat→List (List Nat):=fun i=>(([(5,[[],[0],[],[],[3],[2,3,4],[],[2,3,4,5,6],[],[],[],[8,9,10],[0,1,2,3,4,5,6,7,8,9,10,11],[0,1,2,3,4,5,6,7,8,9,10,11,12]])]:List (Nat×List (List Nat))).lookup i).getD []
def bL.mk (g:Int→Int→Sl→Int→Int→Hp→OA) (args:List AV) (H:Hp):OA:=match args with
 | [(.agg [(.int .i64 aa),(.int .i64 ac),(.sl aj)]),(.int .i64 af),(.int .i64 bi)]=>g aa ac aj af bi H
 | _=>none
def bL.cs (F:Nat) (ai:Int→Int→Sl→Int→Int→Hp→OA):List (FuncId×(List AV→Hp→OA)):=[(79,aC.mk ai)]
theorem bL.loops (F:Nat) (ai:Int→Int→Sl→Int→Int→Hp→OA):LoopsOk tabs (mkOrc (bL.cs F ai)) bL.pn (bL.lh F ai) F [] 1 bL.code (fun tm H=>aresults tabs.ty H tm Try.f145.results.toList fun v=>some (v,H)) (fun _ _ _=>none) (fun tm H=>aresults tabs.ty H tm Try.f145.results.toList fun v=>some (v,H)):=by
 refine LoopsOk.seq ?_ ?_
 ·exact loops_none (by kernel_rfl)
 ·refine LoopsOk.seq ?_ ?_
  ·exact loops_none (by kernel_rfl)
  ·refine LoopsOk.block ?_
   refine LoopsOk.loop (fun tm H=>?_) (fun k7 tm H r h0=>?_) (fun k7=>?_)
   ·refine none_of fun r h0=>?_
    obtain ⟨fg,fp,eR,cP,eS,hks,e1,e2,e3,e6,h⟩:=bL.lh7_inv (show bL.lh7 F ai [] 0 tm H = some r from h0)
    cases h
   ·obtain ⟨fg,fp,eR,cP,eS,hks,e1,e2,e3,e6,h⟩:=bL.lh7_inv (show bL.lh7 F ai [] (k7 + 1) tm H = some r from h0)
    have q0:(Tm.put tm 1 (.int .i64 fg)) = tm:=by exact Tm.put_same e1
    have q1:(Tm.put (Tm.put tm 1 (.int .i64 fg)) 2 (.int .i64 fp)) = tm:=by rw [q0]; exact Tm.put_same e2
    have q2:(Tm.put (Tm.put (Tm.put tm 1 (.int .i64 fg)) 2 (.int .i64 fp)) 3 (.ptr eR cP)) = tm:=by rw [q1]; exact Tm.put_same e3
    have q3:(Tm.put (Tm.put (Tm.put (Tm.put tm 1 (.int .i64 fg)) 2 (.int .i64 fp)) 3 (.ptr eR cP)) 6 (.int .i64 eS)) = tm:=by rw [q2]; exact Tm.put_same e6
    rw [← q3]
    exact Eq.trans (by kernel_rfl) h
   ·exact loops_none (by kernel_rfl)
theorem bL.eqX (F:Nat) (ai:Int→Int→Sl→Int→Int→Hp→OA) (aa:Int) (ac:Int) (aj:Sl) (af:Int) (bi:Int) (H:Hp):aCode tabs (mkOrc (bL.cs F ai)) bL.pn (bL.lh F ai) F [] 1 bL.code (argTm [(.agg [(.int .i64 aa),(.int .i64 ac),(.sl aj)]),(.int .i64 af),(.int .i64 bi)]) H (fun tm H=>aresults tabs.ty H tm Try.f145.results.toList fun v=>some (v,H)) (fun _ _ _=>none) (fun tm H=>aresults tabs.ty H tm Try.f145.results.toList fun v=>some (v,H)) = bL.twX F ai aa ac aj af bi H:=by kernel_rfl
theorem bL.cs_ok (F:Nat):∀ p ∈ bL.cs F (aC.tw F),∀ args H v H',p.2 args H = some (v,H')→Go.AE.T Try.prog p.1 args H v H':=by
 intro p hp
 simp only [bL.cs,List.mem_cons,List.not_mem_nil,or_false] at hp
 subst hp
 exact fun args H v H' h=>aC.mk_T h
theorem bL.ok:codeOk bL.pn Try.f145.ntmps bL.tb bL.code = true:=by kernel_rfl
theorem bL.T {F:Nat} {aa:Int} {ac:Int} {aj:Sl} {af:Int} {bi:Int} {H:Hp} {v:AV} {H':Hp} (h:bL.tw F aa ac aj af bi H = some (v,H')):Go.AE.T Try.prog 145 [(.agg [(.int .i64 aa),(.int .i64 ac),(.sl aj)]),(.int .i64 af),(.int .i64 bi)] H v H':=
 Go.AE.T.of (Y:=tabs) (C:=mkOrc (bL.cs F (aC.tw F))) (PN:=bL.pn) (LH:=bL.lh F (aC.tw F)) (F:=F) (TB:=bL.tb) (fn:=Try.f145) (code:=bL.code) mixed tabs_ok (mkOrc_ok (bL.cs_ok F)) Try.func145 (by kernel_rfl) (by kernel_rfl) bL.ok (Nat.le_of_ble_eq_true (by kernel_rfl)) (bL.loops F (aC.tw F)) (Eq.trans (bL.eqX F (aC.tw F) aa ac aj af bi H) h)
theorem bL.mk_T {F:Nat} {args:List AV} {H:Hp} {v:AV} {H':Hp} (h:bL.mk (bL.tw F) args H = some (v,H')):Go.AE.T Try.prog 145 args H v H':=by
 unfold bL.mk at h
 split at h
 ·exact bL.T h
 ·cases h
def bM.l7 (F:Nat) (ai:Int→Int→Sl→Int→Int→Hp→OA) :Nat→Int→Int→Nat→Nat→Int→Hp→OA
 | 0,_,_,_,_,_,_=>none
 | kI + 1,fg,fp,eR,cP,eS,H15=>(Hp.ldI H15 .i64 eR cP).bind fun n35=>(bif (decide (eS < n35)) then ((Hp.ldI H15 .i64 eR cP).bind fun n36=>(Hp.ldI H15 .i64 eR (cP + 1)).bind fun n37=>(Hp.ldSl H15 eR (cP + 2)).bind fun s38=>(ai n36 n37 s38 eS fg H15).bind fun r39=>((r39.1).asI .i64).bind fun n40=>(Hp.ldSl r39.2 eR (cP + 2)).bind fun s41=>(Hp.ldI r39.2 .i64 eR (cP + 1)).bind fun n42=>(Hp.ldI r39.2 .i64 eR cP).bind fun n43=>(Hp.ldI r39.2 .i64 eR (cP + 1)).bind fun n44=>(Hp.ldSl r39.2 eR (cP + 2)).bind fun s45=>(ai n43 n44 s45 eS fp r39.2).bind fun r46=>((r46.1).asI .i64).bind fun n47=>(if Cons r39.2 r46.2 then ((Sl.idx s41 (IntKind.i64.wrap ((IntKind.i64.wrap (eS * n42)) + fg)) 1).bind fun p48=>(Hp.st r46.2 p48.1 p48.2 (.int .i64 n47)).bind fun H49=>(Hp.ldSl H49 eR (cP + 2)).bind fun s50=>(Hp.ldI H49 .i64 eR (cP + 1)).bind fun n51=>(Sl.idx s50 (IntKind.i64.wrap ((IntKind.i64.wrap (eS * n51)) + fp)) 1).bind fun p52=>(Hp.st H49 p52.1 p52.2 (.int .i64 n40)).bind fun H53=>bM.l7 F ai kI fg fp eR cP (IntKind.i64.wrap (eS + 1)) H53) else none)) else (some ((.tup []),H15)))
termination_by structural n=>n
def bM.twX (F:Nat) (ai:Int→Int→Sl→Int→Int→Hp→OA) (aa:Int) (ac:Int) (aj:Sl) (af:Int) (bi:Int) (H:Hp):OA:=(Hp.new H [(.int .i64 aa),(.int .i64 ac),(.sl aj)]).bind fun H6=>bM.l7 F ai F af bi H.length 0 0 H6
def bM.tw (F:Nat) (aa:Int) (ac:Int) (aj:Sl) (af:Int) (bi:Int) (H:Hp):OA:=bM.twX F (aC.tw F) aa ac aj af bi H
def bM.code:Go.Code:=(Try.f159.body).getD .skip
def bM.lh7 (F:Nat) (ai:Int→Int→Sl→Int→Int→Hp→OA) (ks:List Nat) (n:Nat) (tm:Tm) (H:Hp):OA:=match ks,tm 1,tm 2,tm 3,tm 6 with
 | [],(.int .i64 fg),(.int .i64 fp),(.ptr eR cP),(.int .i64 eS)=>bM.l7 F ai n fg fp eR cP eS H
 | _,_,_,_,_=>none
theorem bM.lh7_inv {F:Nat} {ai:Int→Int→Sl→Int→Int→Hp→OA} {ks:List Nat} {n:Nat} {tm:Tm} {H:Hp} {r:AV×Hp} (h:bM.lh7 F ai ks n tm H = some r):∃ fg:Int,∃ fp:Int,∃ eR:Nat,∃ cP:Nat,∃ eS:Int,ks = []∧tm 1 = (.int .i64 fg)∧tm 2 = (.int .i64 fp)∧tm 3 = (.ptr eR cP)∧tm 6 = (.int .i64 eS)∧bM.l7 F ai n fg fp eR cP eS H = some r:=by
 unfold bM.lh7 at h
 split at h
 ·exact ⟨_,_,_,_,_,rfl,by assumption,by assumption,by assumption,by assumption,h⟩
 ·cases h
def bM.lh (F:Nat) (ai:Int→Int→Sl→Int→Int→Hp→OA) (p:Nat) (ks:List Nat) (n:Nat) (tm:Tm) (H:Hp):OA:=bif p.beq 7 then bM.lh7 F ai ks n tm H else (none)
def bM.pn:Nat→List Nat:=fun i=>(([(5,[13])]:List (Nat×List Nat)).lookup i).getD []
def bM.tb:Nat→List (List Nat):=fun i=>(([(5,[[],[0],[],[],[3],[2,3,4],[],[2,3,4,5,6],[],[],[],[8,9,10],[0,1,2,3,4,5,6,7,8,9,10,11],[0,1,2,3,4,5,6,7,8,9,10,11,12]])]:List (Nat×List (List Nat))).lookup i).getD []
def bM.mk (g:Int→Int→Sl→Int→Int→Hp→OA) (args:List AV) (H:Hp):OA:=match args with
 | [(.agg [(.int .i64 aa),(.int .i64 ac),(.sl aj)]),(.int .i64 af),(.int .i64 bi)]=>g aa ac aj af bi H
 | _=>none
def bM.cs (F:Nat) (ai:Int→Int→Sl→Int→Int→Hp→OA):List (FuncId×(List AV→Hp→OA)):=[(79,aC.mk ai)]
theorem bM.loops (F:Nat) (ai:Int→Int→Sl→Int→Int→Hp→OA):LoopsOk tabs (mkOrc (bM.cs F ai)) bM.pn (bM.lh F ai) F [] 1 bM.code (fun tm H=>aresults tabs.ty H tm Try.f159.results.toList fun v=>some (v,H)) (fun _ _ _=>none) (fun tm H=>aresults tabs.ty H tm Try.f159.results.toList fun v=>some (v,H)):=by
 refine LoopsOk.seq ?_ ?_
 ·exact loops_none (by kernel_rfl)
 ·refine LoopsOk.seq ?_ ?_
  ·exact loops_none (by kernel_rfl)
  ·refine LoopsOk.block ?_
   refine LoopsOk.loop (fun tm H=>?_) (fun k7 tm H r h0=>?_) (fun k7=>?_)
   ·refine none_of fun r h0=>?_
    obtain ⟨fg,fp,eR,cP,eS,hks,e1,e2,e3,e6,h⟩:=bM.lh7_inv (show bM.lh7 F ai [] 0 tm H = some r from h0)
    cases h
   ·obtain ⟨fg,fp,eR,cP,eS,hks,e1,e2,e3,e6,h⟩:=bM.lh7_inv (show bM.lh7 F ai [] (k7 + 1) tm H = some r from h0)
    have q0:(Tm.put tm 1 (.int .i64 fg)) = tm:=by exact Tm.put_same e1
    have q1:(Tm.put (Tm.put tm 1 (.int .i64 fg)) 2 (.int .i64 fp)) = tm:=by rw [q0]; exact Tm.put_same e2
    have q2:(Tm.put (Tm.put (Tm.put tm 1 (.int .i64 fg)) 2 (.int .i64 fp)) 3 (.ptr eR cP)) = tm:=by rw [q1]; exact Tm.put_same e3
    have q3:(Tm.put (Tm.put (Tm.put (Tm.put tm 1 (.int .i64 fg)) 2 (.int .i64 fp)) 3 (.ptr eR cP)) 6 (.int .i64 eS)) = tm:=by rw [q2]; exact Tm.put_same e6
    rw [← q3]
    exact Eq.trans (by kernel_rfl) h
   ·exact loops_none (by kernel_rfl)
theorem bM.eqX (F:Nat) (ai:Int→Int→Sl→Int→Int→Hp→OA) (aa:Int) (ac:Int) (aj:Sl) (af:Int) (bi:Int) (H:Hp):aCode tabs (mkOrc (bM.cs F ai)) bM.pn (bM.lh F ai) F [] 1 bM.code (argTm [(.agg [(.int .i64 aa),(.int .i64 ac),(.sl aj)]),(.int .i64 af),(.int .i64 bi)]) H (fun tm H=>aresults tabs.ty H tm Try.f159.results.toList fun v=>some (v,H)) (fun _ _ _=>none) (fun tm H=>aresults tabs.ty H tm Try.f159.results.toList fun v=>some (v,H)) = bM.twX F ai aa ac aj af bi H:=by kernel_rfl
theorem bM.cs_ok (F:Nat):∀ p ∈ bM.cs F (aC.tw F),∀ args H v H',p.2 args H = some (v,H')→Go.AE.T Try.prog p.1 args H v H':=by
 intro p hp
 simp only [bM.cs,List.mem_cons,List.not_mem_nil,or_false] at hp
 subst hp
 exact fun args H v H' h=>aC.mk_T h
theorem bM.ok:codeOk bM.pn Try.f159.ntmps bM.tb bM.code = true:=by kernel_rfl
theorem bM.T {F:Nat} {aa:Int} {ac:Int} {aj:Sl} {af:Int} {bi:Int} {H:Hp} {v:AV} {H':Hp} (h:bM.tw F aa ac aj af bi H = some (v,H')):Go.AE.T Try.prog 159 [(.agg [(.int .i64 aa),(.int .i64 ac),(.sl aj)]),(.int .i64 af),(.int .i64 bi)] H v H':=
 Go.AE.T.of (Y:=tabs) (C:=mkOrc (bM.cs F (aC.tw F))) (PN:=bM.pn) (LH:=bM.lh F (aC.tw F)) (F:=F) (TB:=bM.tb) (fn:=Try.f159) (code:=bM.code) mixed tabs_ok (mkOrc_ok (bM.cs_ok F)) Try.func159 (by kernel_rfl) (by kernel_rfl) bM.ok (Nat.le_of_ble_eq_true (by kernel_rfl)) (bM.loops F (aC.tw F)) (Eq.trans (bM.eqX F (aC.tw F) aa ac aj af bi H) h)
theorem bM.mk_T {F:Nat} {args:List AV} {H:Hp} {v:AV} {H':Hp} (h:bM.mk (bM.tw F) args H = some (v,H')):Go.AE.T Try.prog 159 args H v H':=by
 unfold bM.mk at h
 split at h
 ·exact bM.T h
 ·cases h
def ar.l65515 (F:Nat) (ai:Int→Int→Sl→Int→Int→Hp→OA) (cl:Int→Hp→OA) (dr:Int→Int→Sl→Int→Int→Hp→OA) (dt:Int→Int→Sl→Int→Int→Hp→OA) :Nat→Nat→Nat→Int→Int→Hp→OA
 | 0,_,_,_,_,_=>none
 | zT + 1,iK,iL,hL,hD,H187=>(Hp.ldI H187 .i64 iK ((iL + 3) + 1)).bind fun n207=>(bif (decide (hD < n207)) then ((Hp.ldSl H187 iK ((iL + 3) + 2)).bind fun s208=>(Hp.ldI H187 .i64 iK ((iL + 3) + 1)).bind fun n209=>(Hp.ldI H187 .i64 iK (iL + 3)).bind fun n210=>(Hp.ldI H187 .i64 iK ((iL + 3) + 1)).bind fun n211=>(Hp.ldSl H187 iK ((iL + 3) + 2)).bind fun s212=>(ai n210 n211 s212 hL hD H187).bind fun r213=>((r213.1).asI .i64).bind fun n214=>(if Cons H187 r213.2 then ((Sl.idx s208 (IntKind.i64.wrap ((IntKind.i64.wrap (hL * n209)) + hD)) 1).bind fun p215=>(Hp.st r213.2 p215.1 p215.2 (.int .i64 (IntKind.i64.wrap (0 - n214)))).bind fun H216=>(Hp.ldSl H216 iK ((iL + 6) + 2)).bind fun s217=>(Hp.ldI H216 .i64 iK ((iL + 6) + 1)).bind fun n218=>(Hp.ldI H216 .i64 iK (iL + 6)).bind fun n219=>(Hp.ldI H216 .i64 iK ((iL + 6) + 1)).bind fun n220=>(Hp.ldSl H216 iK ((iL + 6) + 2)).bind fun s221=>(ai n219 n220 s221 hD hL H216).bind fun r222=>((r222.1).asI .i64).bind fun n223=>(if Cons H216 r222.2 then ((Sl.idx s217 (IntKind.i64.wrap ((IntKind.i64.wrap (hD * n218)) + hL)) 1).bind fun p224=>(Hp.st r222.2 p224.1 p224.2 (.int .i64 (IntKind.i64.wrap (0 - n223)))).bind fun H225=>ar.l65515 F ai cl dr dt zT iK iL hL (IntKind.i64.wrap (hD + 1)) H225) else none)) else none)) else (some ((.bool true),H187)))
termination_by structural n=>n
def ar.j5 (F:Nat) (ai:Int→Int→Sl→Int→Int→Hp→OA) (cl:Int→Hp→OA) (dr:Int→Int→Sl→Int→Int→Hp→OA) (dt:Int→Int→Sl→Int→Int→Hp→OA) (zU:Nat) (zV:Nat) (oC:Int) (H173:Hp):OA:=ar.l65515 F ai cl dr dt F zU zV oC 0 H173
def ar.l65513 (F:Nat) (ai:Int→Int→Sl→Int→Int→Hp→OA) (cl:Int→Hp→OA) (dr:Int→Int→Sl→Int→Int→Hp→OA) (dt:Int→Int→Sl→Int→Int→Hp→OA) :Nat→Nat→Nat→Int→Int→Hp→OA
 | 0,_,_,_,_,_=>none
 | zW + 1,kd,ke,io,iM,H150=>(Hp.ldI H150 .i64 kd (ke + 1)).bind fun n226=>(bif (decide (iM < n226)) then ((Hp.ldSl H150 kd (ke + 2)).bind fun s227=>(Hp.ldI H150 .i64 kd (ke + 1)).bind fun n228=>(Hp.ldI H150 .i64 kd ke).bind fun n229=>(Hp.ldI H150 .i64 kd (ke + 1)).bind fun n230=>(Hp.ldSl H150 kd (ke + 2)).bind fun s231=>(ai n229 n230 s231 io iM H150).bind fun r232=>((r232.1).asI .i64).bind fun n233=>(if Cons H150 r232.2 then ((Sl.idx s227 (IntKind.i64.wrap ((IntKind.i64.wrap (io * n228)) + iM)) 1).bind fun p234=>(Hp.st r232.2 p234.1 p234.2 (.int .i64 (IntKind.i64.wrap (0 - n233)))).bind fun H235=>ar.l65513 F ai cl dr dt zW kd ke io (IntKind.i64.wrap (iM + 1)) H235) else none)) else (ar.j5 F ai cl dr dt kd ke io H150))
termination_by structural n=>n
def ar.j6 (F:Nat) (ai:Int→Int→Sl→Int→Int→Hp→OA) (cl:Int→Hp→OA) (dr:Int→Int→Sl→Int→Int→Hp→OA) (dt:Int→Int→Sl→Int→Int→Hp→OA) (iN:Nat) (iO:Nat) (iR:Int) (lm:Int) (mu:Int) (H109:Hp):OA:=(bif (decide (lm < 0)) then (some ((.bool false),H109)) else ((Hp.ldI H109 .i64 iN iO).bind fun n110=>(Hp.ldI H109 .i64 iN (iO + 1)).bind fun n111=>(Hp.ldSl H109 iN (iO + 2)).bind fun s112=>(dr n110 n111 s112 lm iR H109).bind fun r113=>(Hp.ldI r113.2 .i64 iN (iO + 3)).bind fun n114=>(Hp.ldI r113.2 .i64 iN ((iO + 3) + 1)).bind fun n115=>(Hp.ldSl r113.2 iN ((iO + 3) + 2)).bind fun s116=>(dr n114 n115 s116 lm iR r113.2).bind fun r117=>(Hp.ldI r117.2 .i64 iN (iO + 6)).bind fun n118=>(Hp.ldI r117.2 .i64 iN ((iO + 6) + 1)).bind fun n119=>(Hp.ldSl r117.2 iN ((iO + 6) + 2)).bind fun s120=>(dt n118 n119 s120 lm iR r117.2).bind fun r121=>(Hp.ldI r121.2 .i64 iN iO).bind fun n122=>(Hp.ldI r121.2 .i64 iN (iO + 1)).bind fun n123=>(Hp.ldSl r121.2 iN (iO + 2)).bind fun s124=>(dt n122 n123 s124 mu iR r121.2).bind fun r125=>(Hp.ldI r125.2 .i64 iN (iO + 9)).bind fun n126=>(Hp.ldI r125.2 .i64 iN ((iO + 9) + 1)).bind fun n127=>(Hp.ldSl r125.2 iN ((iO + 9) + 2)).bind fun s128=>(dt n126 n127 s128 mu iR r125.2).bind fun r129=>(Hp.ldI r129.2 .i64 iN (iO + 12)).bind fun n130=>(Hp.ldI r129.2 .i64 iN ((iO + 12) + 1)).bind fun n131=>(Hp.ldSl r129.2 iN ((iO + 12) + 2)).bind fun s132=>(dr n130 n131 s132 mu iR r129.2).bind fun r133=>(Hp.ldI r133.2 .i64 iN iO).bind fun n134=>(Hp.ldI r133.2 .i64 iN (iO + 1)).bind fun n135=>(Hp.ldSl r133.2 iN (iO + 2)).bind fun s136=>(ai n134 n135 s136 iR iR r133.2).bind fun r137=>((r137.1).asI .i64).bind fun n138=>(bif (decide (n138 < 0)) then (ar.l65513 F ai cl dr dt F iN iO iR 0 r137.2) else (some ((.bool true),r137.2)))))
def ar.j8 (F:Nat) (ai:Int→Int→Sl→Int→Int→Hp→OA) (cl:Int→Hp→OA) (dr:Int→Int→Sl→Int→Int→Hp→OA) (dt:Int→Int→Sl→Int→Int→Hp→OA) (C29_:Nat→Nat→Int→Int→Int→Int→Hp→OA) (zX:Nat) (zY:Nat) (oD:Int) (oE:Int) (oF:Int) (oG:Int) (H296:Hp):OA:=C29_ zX zY oD oE oF (IntKind.i64.wrap (oG + 1)) H296
def ar.j9 (F:Nat) (ai:Int→Int→Sl→Int→Int→Hp→OA) (cl:Int→Hp→OA) (dr:Int→Int→Sl→Int→Int→Hp→OA) (dt:Int→Int→Sl→Int→Int→Hp→OA) (C29_:Nat→Nat→Int→Int→Int→Int→Hp→OA) (zZ:Nat) (z_:Nat) (oH:Int) (oI:Int) (oJ:Int) (oK:Int) (H285:Hp):OA:=ar.j8 F ai cl dr dt C29_ zZ z_ oH oI oJ oK H285
def ar.j10 (F:Nat) (ai:Int→Int→Sl→Int→Int→Hp→OA) (cl:Int→Hp→OA) (dr:Int→Int→Sl→Int→Int→Hp→OA) (dt:Int→Int→Sl→Int→Int→Hp→OA) (C469_:Nat→Nat→Int→Int→Int→Int→Int→Hp→OA) (Aa:Nat) (Ab:Nat) (oL:Int) (oM:Int) (oN:Int) (oO:Int) (oP:Int) (H324:Hp):OA:=C469_ Aa Ab oL oM oN oO (IntKind.i64.wrap (oP + 1)) H324
def ar.l469 (F:Nat) (ai:Int→Int→Sl→Int→Int→Hp→OA) (cl:Int→Hp→OA) (dr:Int→Int→Sl→Int→Int→Hp→OA) (dt:Int→Int→Sl→Int→Int→Hp→OA) (C29_:Nat→Nat→Int→Int→Int→Int→Hp→OA):Nat→Nat→Nat→Int→Int→Int→Int→Int→Hp→OA
 | 0,_,_,_,_,_,_,_,_=>none
 | mC + 1,hN,hO,gR,gT,hY,gv,gB,H246=>(Hp.ldI H246 .i64 hN (hO + 1)).bind fun n297=>(bif (decide (gB < n297)) then ((Hp.ldI H246 .i64 hN hO).bind fun n298=>(Hp.ldI H246 .i64 hN (hO + 1)).bind fun n299=>(Hp.ldSl H246 hN (hO + 2)).bind fun s300=>(ai n298 n299 s300 gv gB H246).bind fun r301=>((r301.1).asI .i64).bind fun n302=>(cl n302 r301.2).bind fun r303=>((r303.1).asI .i64).bind fun n304=>(bif (decide (n304 > 0)) then ((bif (decide (gT < 0)) then (ar.l469 F ai cl dr dt C29_ mC hN hO gR gv gB gv (IntKind.i64.wrap (gB + 1)) r303.2) else ((Hp.ldI r303.2 .i64 hN hO).bind fun n305=>(Hp.ldI r303.2 .i64 hN (hO + 1)).bind fun n306=>(Hp.ldSl r303.2 hN (hO + 2)).bind fun s307=>(ai n305 n306 s307 gT hY r303.2).bind fun r308=>((r308.1).asI .i64).bind fun n309=>(cl n309 r308.2).bind fun r310=>((r310.1).asI .i64).bind fun n311=>(bif (decide (n304 < n311)) then (ar.j10 F ai cl dr dt (ar.l469 F ai cl dr dt C29_ mC) hN hO gR gv gB gv gB r310.2) else (ar.j10 F ai cl dr dt (ar.l469 F ai cl dr dt C29_ mC) hN hO gR gT hY gv gB r310.2))))) else (ar.l469 F ai cl dr dt C29_ mC hN hO gR gT hY gv (IntKind.i64.wrap (gB + 1)) r303.2))) else (ar.j9 F ai cl dr dt C29_ hN hO gR gT hY gv H246))
termination_by structural n=>n
def ar.l29 (F:Nat) (ai:Int→Int→Sl→Int→Int→Hp→OA) (cl:Int→Hp→OA) (dr:Int→Int→Sl→Int→Int→Hp→OA) (dt:Int→Int→Sl→Int→Int→Hp→OA) :Nat→Nat→Nat→Int→Int→Int→Int→Hp→OA
 | 0,_,_,_,_,_,_,_=>none
 | fa + 1,cT,fq,dN,eA,jK,kf,H11=>(Hp.ldI H11 .i64 cT fq).bind fun n236=>(bif (decide (kf < n236)) then (ar.l469 F ai cl dr dt (ar.l29 F ai cl dr dt fa) F cT fq dN eA jK kf dN H11) else (ar.j6 F ai cl dr dt cT fq dN eA jK H11))
termination_by structural n=>n
def ar.twX (F:Nat) (ai:Int→Int→Sl→Int→Int→Hp→OA) (cl:Int→Hp→OA) (dr:Int→Int→Sl→Int→Int→Hp→OA) (dt:Int→Int→Sl→Int→Int→Hp→OA) (aa:Nat) (ac:Nat) (ae:Int) (H:Hp):OA:=ar.l29 F ai cl dr dt F aa ac ae (-1) (-1) ae H
def ar.tw (F:Nat) (aa:Nat) (ac:Nat) (ae:Int) (H:Hp):OA:=ar.twX F (aC.tw F) (co.tw F) (bL.tw F) (bM.tw F) aa ac ae H
def ar.code:Go.Code:=(Try.f139.body).getD .skip
def ar.lh29 (F:Nat) (ai:Int→Int→Sl→Int→Int→Hp→OA) (cl:Int→Hp→OA) (dr:Int→Int→Sl→Int→Int→Hp→OA) (dt:Int→Int→Sl→Int→Int→Hp→OA) (ks:List Nat) (n:Nat) (tm:Tm) (H:Hp):OA:=match ks,tm 0,tm 1,tm 5,tm 6,tm 7 with
 | [],(.ptr cT fq),(.int .i64 dN),(.int .i64 eA),(.int .i64 jK),(.int .i64 kf)=>ar.l29 F ai cl dr dt n cT fq dN eA jK kf H
 | _,_,_,_,_,_=>none
theorem ar.lh29_inv {F:Nat} {ai:Int→Int→Sl→Int→Int→Hp→OA} {cl:Int→Hp→OA} {dr:Int→Int→Sl→Int→Int→Hp→OA} {dt:Int→Int→Sl→Int→Int→Hp→OA} {ks:List Nat} {n:Nat} {tm:Tm} {H:Hp} {r:AV×Hp} (h:ar.lh29 F ai cl dr dt ks n tm H = some r):∃ cT:Nat,∃ fq:Nat,∃ dN:Int,∃ eA:Int,∃ jK:Int,∃ kf:Int,ks = []∧tm 0 = (.ptr cT fq)∧tm 1 = (.int .i64 dN)∧tm 5 = (.int .i64 eA)∧tm 6 = (.int .i64 jK)∧tm 7 = (.int .i64 kf)∧ar.l29 F ai cl dr dt n cT fq dN eA jK kf H = some r:=by
 unfold ar.lh29 at h
 split at h
 ·exact ⟨_,_,_,_,_,_,rfl,by assumption,by assumption,by assumption,by assumption,by assumption,h⟩
 ·cases h
def ar.lh65513 (F:Nat) (ai:Int→Int→Sl→Int→Int→Hp→OA) (cl:Int→Hp→OA) (dr:Int→Int→Sl→Int→Int→Hp→OA) (dt:Int→Int→Sl→Int→Int→Hp→OA) (ks:List Nat) (n:Nat) (tm:Tm) (H:Hp):OA:=match ks,tm 0,tm 1,tm 10 with
 | [],(.ptr kd ke),(.int .i64 io),(.int .i64 iM)=>ar.l65513 F ai cl dr dt n kd ke io iM H
 | _,_,_,_=>none
theorem ar.lh65513_inv {F:Nat} {ai:Int→Int→Sl→Int→Int→Hp→OA} {cl:Int→Hp→OA} {dr:Int→Int→Sl→Int→Int→Hp→OA} {dt:Int→Int→Sl→Int→Int→Hp→OA} {ks:List Nat} {n:Nat} {tm:Tm} {H:Hp} {r:AV×Hp} (h:ar.lh65513 F ai cl dr dt ks n tm H = some r):∃ kd:Nat,∃ ke:Nat,∃ io:Int,∃ iM:Int,ks = []∧tm 0 = (.ptr kd ke)∧tm 1 = (.int .i64 io)∧tm 10 = (.int .i64 iM)∧ar.l65513 F ai cl dr dt n kd ke io iM H = some r:=by
 unfold ar.lh65513 at h
 split at h
 ·exact ⟨_,_,_,_,rfl,by assumption,by assumption,by assumption,h⟩
 ·cases h
def ar.lh65515 (F:Nat) (ai:Int→Int→Sl→Int→Int→Hp→OA) (cl:Int→Hp→OA) (dr:Int→Int→Sl→Int→Int→Hp→OA) (dt:Int→Int→Sl→Int→Int→Hp→OA) (ks:List Nat) (n:Nat) (tm:Tm) (H:Hp):OA:=match ks,tm 0,tm 1,tm 11 with
 | [],(.ptr iK iL),(.int .i64 hL),(.int .i64 hD)=>ar.l65515 F ai cl dr dt n iK iL hL hD H
 | _,_,_,_=>none
theorem ar.lh65515_inv {F:Nat} {ai:Int→Int→Sl→Int→Int→Hp→OA} {cl:Int→Hp→OA} {dr:Int→Int→Sl→Int→Int→Hp→OA} {dt:Int→Int→Sl→Int→Int→Hp→OA} {ks:List Nat} {n:Nat} {tm:Tm} {H:Hp} {r:AV×Hp} (h:ar.lh65515 F ai cl dr dt ks n tm H = some r):∃ iK:Nat,∃ iL:Nat,∃ hL:Int,∃ hD:Int,ks = []∧tm 0 = (.ptr iK iL)∧tm 1 = (.int .i64 hL)∧tm 11 = (.int .i64 hD)∧ar.l65515 F ai cl dr dt n iK iL hL hD H = some r:=by
 unfold ar.lh65515 at h
 split at h
 ·exact ⟨_,_,_,_,rfl,by assumption,by assumption,by assumption,h⟩
 ·cases h
def ar.lh469 (F:Nat) (ai:Int→Int→Sl→Int→Int→Hp→OA) (cl:Int→Hp→OA) (dr:Int→Int→Sl→Int→Int→Hp→OA) (dt:Int→Int→Sl→Int→Int→Hp→OA) (ks:List Nat) (n:Nat) (tm:Tm) (H:Hp):OA:=match ks,tm 0,tm 1,tm 5,tm 6,tm 7,tm 8 with
 | [fa],(.ptr hN hO),(.int .i64 gR),(.int .i64 gT),(.int .i64 hY),(.int .i64 gv),(.int .i64 gB)=>ar.l469 F ai cl dr dt (ar.l29 F ai cl dr dt fa) n hN hO gR gT hY gv gB H
 | _,_,_,_,_,_,_=>none
theorem ar.lh469_inv {F:Nat} {ai:Int→Int→Sl→Int→Int→Hp→OA} {cl:Int→Hp→OA} {dr:Int→Int→Sl→Int→Int→Hp→OA} {dt:Int→Int→Sl→Int→Int→Hp→OA} {ks:List Nat} {n:Nat} {tm:Tm} {H:Hp} {r:AV×Hp} (h:ar.lh469 F ai cl dr dt ks n tm H = some r):∃ fa:Nat,∃ hN:Nat,∃ hO:Nat,∃ gR:Int,∃ gT:Int,∃ hY:Int,∃ gv:Int,∃ gB:Int,ks = [fa]∧tm 0 = (.ptr hN hO)∧tm 1 = (.int .i64 gR)∧tm 5 = (.int .i64 gT)∧tm 6 = (.int .i64 hY)∧tm 7 = (.int .i64 gv)∧tm 8 = (.int .i64 gB)∧ar.l469 F ai cl dr dt (ar.l29 F ai cl dr dt fa) n hN hO gR gT hY gv gB H = some r:=by
 unfold ar.lh469 at h
 split at h
 ·exact ⟨_,_,_,_,_,_,_,_,rfl,by assumption,by assumption,by assumption,by assumption,by assumption,by assumption,h⟩
 ·cases h
def ar.lh (F:Nat) (ai:Int→Int→Sl→Int→Int→Hp→OA) (cl:Int→Hp→OA) (dr:Int→Int→Sl→Int→Int→Hp→OA) (dt:Int→Int→Sl→Int→Int→Hp→OA) (p:Nat) (ks:List Nat) (n:Nat) (tm:Tm) (H:Hp):OA:=bif p.beq 469 then ar.lh469 F ai cl dr dt ks n tm H else (bif p.beq 65515 then ar.lh65515 F ai cl dr dt ks n tm H else (bif p.beq 65513 then ar.lh65513 F ai cl dr dt ks n tm H else (bif p.beq 29 then ar.lh29 F ai cl dr dt ks n tm H else (none))))
def ar.pn:Nat→List Nat:=fun i=>(([(23,[23]),(27,[23]),(28,[23])]:List (Nat×List Nat)).lookup i).getD []
def ar.tb:Nat→List (List Nat):=fun i=>(([(23,[[],[0],[0,1],[0,1,2],[0,1,2,3],[],[],[6],[6,7],[6,7,8],[6,7,8,9],[5,6,7,8,9,10],[],[5,6,7,8,9,10,11,12],[],[14],[14,15],[14,15,16],[],[],[14,15,16,17,18,19],[14,15,16,17,18,19,20],[0,1,2,3,4,5,6,7,8,9,10,11,12,13,14,15,16,17,18,19,20,21],[0,1,2,3,4,5,6,7,8,9,10,11,12,13,14,15,16,17,18,19,20,21,22]]),(27,[[],[0],[0,1],[0,1,2],[0,1,2,3],[],[],[6],[6,7],[6,7,8],[6,7,8,9],[5,6,7,8,9,10],[],[5,6,7,8,9,10,11,12],[],[14],[14,15],[14,15,16],[],[],[14,15,16,17,18,19],[14,15,16,17,18,19,20],[0,1,2,3,4,5,6,7,8,9,10,11,12,13,14,15,16,17,18,19,20,21],[0,1,2,3,4,5,6,7,8,9,10,11,12,13,14,15,16,17,18,19,20,21,22]]),(28,[[],[0],[0,1],[0,1,2],[0,1,2,3],[],[],[6],[6,7],[6,7,8],[6,7,8,9],[5,6,7,8,9,10],[],[5,6,7,8,9,10,11,12],[],[14],[14,15],[14,15,16],[],[],[14,15,16,17,18,19],[14,15,16,17,18,19,20],[0,1,2,3,4,5,6,7,8,9,10,11,12,13,14,15,16,17,18,19,20,21],[0,1,2,3,4,5,6,7,8,9,10,11,12,13,14,15,16,17,18,19,20,21,22]])]:List (Nat×List (List Nat))).lookup i).getD []
def ar.mk (g:Nat→Nat→Int→Hp→OA) (args:List AV) (H:Hp):OA:=match args with
 | [(.ptr aa ac),(.int .i64 ae)]=>g aa ac ae H
 | _=>none
def ar.cs (F:Nat) (ai:Int→Int→Sl→Int→Int→Hp→OA) (cl:Int→Hp→OA) (dr:Int→Int→Sl→Int→Int→Hp→OA) (dt:Int→Int→Sl→Int→Int→Hp→OA):List (FuncId×(List AV→Hp→OA)):=[(79,aC.mk ai),(114,co.mk cl),(145,bL.mk dr),(159,bM.mk dt)]
theorem ar.loops (F:Nat) (ai:Int→Int→Sl→Int→Int→Hp→OA) (cl:Int→Hp→OA) (dr:Int→Int→Sl→Int→Int→Hp→OA) (dt:Int→Int→Sl→Int→Int→Hp→OA):LoopsOk tabs (mkOrc (ar.cs F ai cl dr dt)) ar.pn (ar.lh F ai cl dr dt) F [] 1 ar.code (fun tm H=>aresults tabs.ty H tm Try.f139.results.toList fun v=>some (v,H)) (fun _ _ _=>none) (fun tm H=>aresults tabs.ty H tm Try.f139.results.toList fun v=>some (v,H)):=by
 refine LoopsOk.seq ?_ ?_
 ·exact loops_none (by kernel_rfl)
 ·refine LoopsOk.seq ?_ ?_
  ·exact loops_none (by kernel_rfl)
  ·refine LoopsOk.seq ?_ ?_
   ·refine LoopsOk.seq ?_ ?_
    ·exact loops_none (by kernel_rfl)
    ·refine LoopsOk.block ?_
     refine LoopsOk.loop (fun tm H=>?_) (fun k29 tm H r h0=>?_) (fun k29=>?_)
     ·refine none_of fun r h0=>?_
      obtain ⟨cT,fq,dN,eA,jK,kf,hks,e0,e1,e5,e6,e7,h⟩:=ar.lh29_inv (show ar.lh29 F ai cl dr dt [] 0 tm H = some r from h0)
      cases h
     ·obtain ⟨cT,fq,dN,eA,jK,kf,hks,e0,e1,e5,e6,e7,h⟩:=ar.lh29_inv (show ar.lh29 F ai cl dr dt [] (k29 + 1) tm H = some r from h0)
      have q0:(Tm.put tm 0 (.ptr cT fq)) = tm:=by exact Tm.put_same e0
      have q1:(Tm.put (Tm.put tm 0 (.ptr cT fq)) 1 (.int .i64 dN)) = tm:=by rw [q0]; exact Tm.put_same e1
      have q2:(Tm.put (Tm.put (Tm.put tm 0 (.ptr cT fq)) 1 (.int .i64 dN)) 5 (.int .i64 eA)) = tm:=by rw [q1]; exact Tm.put_same e5
      have q3:(Tm.put (Tm.put (Tm.put (Tm.put tm 0 (.ptr cT fq)) 1 (.int .i64 dN)) 5 (.int .i64 eA)) 6 (.int .i64 jK)) = tm:=by rw [q2]; exact Tm.put_same e6
      have q4:(Tm.put (Tm.put (Tm.put (Tm.put (Tm.put tm 0 (.ptr cT fq)) 1 (.int .i64 dN)) 5 (.int .i64 eA)) 6 (.int .i64 jK)) 7 (.int .i64 kf)) = tm:=by rw [q3]; exact Tm.put_same e7
      rw [← q4]
      exact Eq.trans (by kernel_rfl) h
     ·refine LoopsOk.seq ?_ ?_
      ·exact loops_none (by kernel_rfl)
      ·refine LoopsOk.seq ?_ ?_
       ·refine LoopsOk.block ?_
        refine LoopsOk.seq ?_ ?_
        ·exact loops_none (by kernel_rfl)
        ·refine LoopsOk.block ?_
         refine LoopsOk.loop (fun tm H=>?_) (fun k469 tm H r h0=>?_) (fun k469=>?_)
         ·refine none_of fun r h0=>?_
          obtain ⟨fa,hN,hO,gR,gT,hY,gv,gB,hks,e0,e1,e5,e6,e7,e8,h⟩:=ar.lh469_inv (show ar.lh469 F ai cl dr dt [k29] 0 tm H = some r from h0)
          cases h
         ·obtain ⟨fa,hN,hO,gR,gT,hY,gv,gB,hks,e0,e1,e5,e6,e7,e8,h⟩:=ar.lh469_inv (show ar.lh469 F ai cl dr dt [k29] (k469 + 1) tm H = some r from h0)
          obtain rfl:fa = k29:=by simpa [eq_comm] using hks
          have q0:(Tm.put tm 0 (.ptr hN hO)) = tm:=by exact Tm.put_same e0
          have q1:(Tm.put (Tm.put tm 0 (.ptr hN hO)) 1 (.int .i64 gR)) = tm:=by rw [q0]; exact Tm.put_same e1
          have q2:(Tm.put (Tm.put (Tm.put tm 0 (.ptr hN hO)) 1 (.int .i64 gR)) 5 (.int .i64 gT)) = tm:=by rw [q1]; exact Tm.put_same e5
          have q3:(Tm.put (Tm.put (Tm.put (Tm.put tm 0 (.ptr hN hO)) 1 (.int .i64 gR)) 5 (.int .i64 gT)) 6 (.int .i64 hY)) = tm:=by rw [q2]; exact Tm.put_same e6
          have q4:(Tm.put (Tm.put (Tm.put (Tm.put (Tm.put tm 0 (.ptr hN hO)) 1 (.int .i64 gR)) 5 (.int .i64 gT)) 6 (.int .i64 hY)) 7 (.int .i64 gv)) = tm:=by rw [q3]; exact Tm.put_same e7
          have q5:(Tm.put (Tm.put (Tm.put (Tm.put (Tm.put (Tm.put tm 0 (.ptr hN hO)) 1 (.int .i64 gR)) 5 (.int .i64 gT)) 6 (.int .i64 hY)) 7 (.int .i64 gv)) 8 (.int .i64 gB)) = tm:=by rw [q4]; exact Tm.put_same e8
          rw [← q5]
          exact Eq.trans (by kernel_rfl) h
         ·exact loops_none (by kernel_rfl)
       ·exact loops_none (by kernel_rfl)
   ·refine LoopsOk.seq ?_ ?_
    ·exact loops_none (by kernel_rfl)
    ·refine LoopsOk.seq ?_ ?_
     ·exact loops_none (by kernel_rfl)
     ·refine LoopsOk.seq ?_ ?_
      ·exact loops_none (by kernel_rfl)
      ·refine LoopsOk.seq ?_ ?_
       ·exact loops_none (by kernel_rfl)
       ·refine LoopsOk.seq ?_ ?_
        ·exact loops_none (by kernel_rfl)
        ·refine LoopsOk.seq ?_ ?_
         ·exact loops_none (by kernel_rfl)
         ·refine LoopsOk.seq ?_ ?_
          ·exact loops_none (by kernel_rfl)
          ·refine LoopsOk.seq ?_ ?_
           ·refine LoopsOk.seq ?_ ?_
            ·exact loops_none (by kernel_rfl)
            ·refine LoopsOk.cond ?_ ?_
             ·refine LoopsOk.seq ?_ ?_
              ·refine LoopsOk.seq ?_ ?_
               ·exact loops_none (by kernel_rfl)
               ·refine LoopsOk.block ?_
                refine LoopsOk.loop (fun tm H=>?_) (fun k65513 tm H r h0=>?_) (fun k65513=>?_)
                ·refine none_of fun r h0=>?_
                 obtain ⟨kd,ke,io,iM,hks,e0,e1,e10,h⟩:=ar.lh65513_inv (show ar.lh65513 F ai cl dr dt [] 0 tm H = some r from h0)
                 cases h
                ·obtain ⟨kd,ke,io,iM,hks,e0,e1,e10,h⟩:=ar.lh65513_inv (show ar.lh65513 F ai cl dr dt [] (k65513 + 1) tm H = some r from h0)
                 have q0:(Tm.put tm 0 (.ptr kd ke)) = tm:=by exact Tm.put_same e0
                 have q1:(Tm.put (Tm.put tm 0 (.ptr kd ke)) 1 (.int .i64 io)) = tm:=by rw [q0]; exact Tm.put_same e1
                 have q2:(Tm.put (Tm.put (Tm.put tm 0 (.ptr kd ke)) 1 (.int .i64 io)) 10 (.int .i64 iM)) = tm:=by rw [q1]; exact Tm.put_same e10
                 rw [← q2]
                 exact Eq.trans (by kernel_rfl) h
                ·exact loops_none (by kernel_rfl)
              ·refine LoopsOk.seq ?_ ?_
               ·exact loops_none (by kernel_rfl)
               ·refine LoopsOk.block ?_
                refine LoopsOk.loop (fun tm H=>?_) (fun k65515 tm H r h0=>?_) (fun k65515=>?_)
                ·refine none_of fun r h0=>?_
                 obtain ⟨iK,iL,hL,hD,hks,e0,e1,e11,h⟩:=ar.lh65515_inv (show ar.lh65515 F ai cl dr dt [] 0 tm H = some r from h0)
                 cases h
                ·obtain ⟨iK,iL,hL,hD,hks,e0,e1,e11,h⟩:=ar.lh65515_inv (show ar.lh65515 F ai cl dr dt [] (k65515 + 1) tm H = some r from h0)
                 have q0:(Tm.put tm 0 (.ptr iK iL)) = tm:=by exact Tm.put_same e0
                 have q1:(Tm.put (Tm.put tm 0 (.ptr iK iL)) 1 (.int .i64 hL)) = tm:=by rw [q0]; exact Tm.put_same e1
                 have q2:(Tm.put (Tm.put (Tm.put tm 0 (.ptr iK iL)) 1 (.int .i64 hL)) 11 (.int .i64 hD)) = tm:=by rw [q1]; exact Tm.put_same e11
                 rw [← q2]
                 exact Eq.trans (by kernel_rfl) h
                ·exact loops_none (by kernel_rfl)
             ·exact loops_none (by kernel_rfl)
           ·exact loops_none (by kernel_rfl)
theorem ar.eqX (F:Nat) (ai:Int→Int→Sl→Int→Int→Hp→OA) (cl:Int→Hp→OA) (dr:Int→Int→Sl→Int→Int→Hp→OA) (dt:Int→Int→Sl→Int→Int→Hp→OA) (aa:Nat) (ac:Nat) (ae:Int) (H:Hp):aCode tabs (mkOrc (ar.cs F ai cl dr dt)) ar.pn (ar.lh F ai cl dr dt) F [] 1 ar.code (argTm [(.ptr aa ac),(.int .i64 ae)]) H (fun tm H=>aresults tabs.ty H tm Try.f139.results.toList fun v=>some (v,H)) (fun _ _ _=>none) (fun tm H=>aresults tabs.ty H tm Try.f139.results.toList fun v=>some (v,H)) = ar.twX F ai cl dr dt aa ac ae H:=by kernel_rfl
theorem ar.cs_ok (F:Nat):∀ p ∈ ar.cs F (aC.tw F) (co.tw F) (bL.tw F) (bM.tw F),∀ args H v H',p.2 args H = some (v,H')→Go.AE.T Try.prog p.1 args H v H':=by
 intro p hp
 simp only [ar.cs,List.mem_cons,List.not_mem_nil,or_false] at hp
 rcases hp with rfl | rfl | rfl | rfl
 ·exact fun args H v H' h=>aC.mk_T h
 ·exact fun args H v H' h=>co.mk_T h
 ·exact fun args H v H' h=>bL.mk_T h
 ·exact fun args H v H' h=>bM.mk_T h
theorem ar.ok:codeOk ar.pn Try.f139.ntmps ar.tb ar.code = true:=by kernel_rfl
theorem ar.T {F:Nat} {aa:Nat} {ac:Nat} {ae:Int} {H:Hp} {v:AV} {H':Hp} (h:ar.tw F aa ac ae H = some (v,H')):Go.AE.T Try.prog 139 [(.ptr aa ac),(.int .i64 ae)] H v H':=
 Go.AE.T.of (Y:=tabs) (C:=mkOrc (ar.cs F (aC.tw F) (co.tw F) (bL.tw F) (bM.tw F))) (PN:=ar.pn) (LH:=ar.lh F (aC.tw F) (co.tw F) (bL.tw F) (bM.tw F)) (F:=F) (TB:=ar.tb) (fn:=Try.f139) (code:=ar.code) mixed tabs_ok (mkOrc_ok (ar.cs_ok F)) Try.func139 (by kernel_rfl) (by kernel_rfl) ar.ok (Nat.le_of_ble_eq_true (by kernel_rfl)) (ar.loops F (aC.tw F) (co.tw F) (bL.tw F) (bM.tw F)) (Eq.trans (ar.eqX F (aC.tw F) (co.tw F) (bL.tw F) (bM.tw F) aa ac ae H) h)
theorem ar.mk_T {F:Nat} {args:List AV} {H:Hp} {v:AV} {H':Hp} (h:ar.mk (ar.tw F) args H = some (v,H')):Go.AE.T Try.prog 139 args H v H':=by
 unfold ar.mk at h
 split at h
 ·exact ar.T h
 ·cases h
def dD.twX (F:Nat) (aa:Int) (ag:Int) (H:Hp):OA:=(if ag = 0 then none else ((if ag = 0 then none else ((bif (decide ((Int.tmod aa ag) < 0)) then (some ((.int .i64 (IntKind.i64.wrap ((IntKind.i64.wrap (Int.tdiv aa ag)) - 1))),H)) else (some ((.int .i64 (IntKind.i64.wrap (Int.tdiv aa ag))),H)))))))
def dD.tw (F:Nat) (aa:Int) (ag:Int) (H:Hp):OA:=dD.twX F aa ag H
def dD.code:Go.Code:=(Try.f141.body).getD .skip
def dD.lh (F:Nat) (p:Nat) (ks:List Nat) (n:Nat) (tm:Tm) (H:Hp):OA:=none
def dD.pn:Nat→List Nat:=fun i=>(([]:List (Nat×List Nat)).lookup i).getD []
def dD.tb:Nat→List (List Nat):=fun i=>(([]:List (Nat×List (List Nat))).lookup i).getD []
def dD.mk (g:Int→Int→Hp→OA) (args:List AV) (H:Hp):OA:=match args with
 | [(.int .i64 aa),(.int .i64 ag)]=>g aa ag H
 | _=>none
def dD.cs (F:Nat):List (FuncId×(List AV→Hp→OA)):=[]
theorem dD.loops (F:Nat):LoopsOk tabs (mkOrc (dD.cs F)) dD.pn (dD.lh F) F [] 1 dD.code (fun tm H=>aresults tabs.ty H tm Try.f141.results.toList fun v=>some (v,H)) (fun _ _ _=>none) (fun tm H=>aresults tabs.ty H tm Try.f141.results.toList fun v=>some (v,H)):=by
 exact loops_none (by kernel_rfl)
theorem dD.eqX (F:Nat) (aa:Int) (ag:Int) (H:Hp):aCode tabs (mkOrc (dD.cs F)) dD.pn (dD.lh F) F [] 1 dD.code (argTm [(.int .i64 aa),(.int .i64 ag)]) H (fun tm H=>aresults tabs.ty H tm Try.f141.results.toList fun v=>some (v,H)) (fun _ _ _=>none) (fun tm H=>aresults tabs.ty H tm Try.f141.results.toList fun v=>some (v,H)) = dD.twX F aa ag H:=by kernel_rfl
theorem dD.cs_ok (F:Nat):∀ p ∈ dD.cs F,∀ args H v H',p.2 args H = some (v,H')→Go.AE.T Try.prog p.1 args H v H':=by
 intro p hp
 exact absurd (show p ∈ [] from hp) List.not_mem_nil
theorem dD.ok:codeOk dD.pn Try.f141.ntmps dD.tb dD.code = true:=by kernel_rfl
theorem dD.T {F:Nat} {aa:Int} {ag:Int} {H:Hp} {v:AV} {H':Hp} (h:dD.tw F aa ag H = some (v,H')):Go.AE.T Try.prog 141 [(.int .i64 aa),(.int .i64 ag)] H v H':=
 Go.AE.T.of (Y:=tabs) (C:=mkOrc (dD.cs F)) (PN:=dD.pn) (LH:=dD.lh F) (F:=F) (TB:=dD.tb) (fn:=Try.f141) (code:=dD.code) mixed tabs_ok (mkOrc_ok (dD.cs_ok F)) Try.func141 (by kernel_rfl) (by kernel_rfl) dD.ok (Nat.le_of_ble_eq_true (by kernel_rfl)) (dD.loops F) (Eq.trans (dD.eqX F aa ag H) h)
theorem dD.mk_T {F:Nat} {args:List AV} {H:Hp} {v:AV} {H':Hp} (h:dD.mk (dD.tw F) args H = some (v,H')):Go.AE.T Try.prog 141 args H v H':=by
 unfold dD.mk at h
 split at h
 ·exact dD.T h
 ·cases h
def dS.twX (F:Nat) (cl:Int→Hp→OA) (aa:Int) (ag:Int) (cO:Int) (H:Hp):OA:=(bif (aa != 0) then ((cl ag H).bind fun r4=>((r4.1).asI .i64).bind fun n5=>(cl aa r4.2).bind fun r6=>((r6.1).asI .i64).bind fun n7=>(if n7 = 0 then none else ((bif (decide (n5 > (IntKind.i64.wrap (Int.tdiv cO n7)))) then (some ((.tup [(.int .i64 0),(.bool false)]),r6.2)) else (some ((.tup [(.int .i64 (IntKind.i64.wrap (aa * ag))),(.bool true)]),r6.2)))))) else (some ((.tup [(.int .i64 (IntKind.i64.wrap (aa * ag))),(.bool true)]),H)))
def dS.tw (F:Nat) (aa:Int) (ag:Int) (cO:Int) (H:Hp):OA:=dS.twX F (co.tw F) aa ag cO H
def dS.code:Go.Code:=(Try.f113.body).getD .skip
def dS.lh (F:Nat) (cl:Int→Hp→OA) (p:Nat) (ks:List Nat) (n:Nat) (tm:Tm) (H:Hp):OA:=none
def dS.pn:Nat→List Nat:=fun i=>(([]:List (Nat×List Nat)).lookup i).getD []
def dS.tb:Nat→List (List Nat):=fun i=>(([]:List (Nat×List (List Nat))).lookup i).getD []
def dS.mk (g:Int→Int→Int→Hp→OA) (args:List AV) (H:Hp):OA:=match args with
 | [(.int .i64 aa),(.int .i64 ag),(.int .i64 cO)]=>g aa ag cO H
 | _=>none
def dS.cs (F:Nat) (cl:Int→Hp→OA):List (FuncId×(List AV→Hp→OA)):=[(114,co.mk cl)]
theorem dS.loops (F:Nat) (cl:Int→Hp→OA):LoopsOk tabs (mkOrc (dS.cs F cl)) dS.pn (dS.lh F cl) F [] 1 dS.code (fun tm H=>aresults tabs.ty H tm Try.f113.results.toList fun v=>some (v,H)) (fun _ _ _=>none) (fun tm H=>aresults tabs.ty H tm Try.f113.results.toList fun v=>some (v,H)):=by
 exact loops_none (by kernel_rfl)
theorem dS.eqX (F:Nat) (cl:Int→Hp→OA) (aa:Int) (ag:Int) (cO:Int) (H:Hp):aCode tabs (mkOrc (dS.cs F cl)) dS.pn (dS.lh F cl) F [] 1 dS.code (argTm [(.int .i64 aa),(.int .i64 ag),(.int .i64 cO)]) H (fun tm H=>aresults tabs.ty H tm Try.f113.results.toList fun v=>some (v,H)) (fun _ _ _=>none) (fun tm H=>aresults tabs.ty H tm Try.f113.results.toList fun v=>some (v,H)) = dS.twX F cl aa ag cO H:=by kernel_rfl
theorem dS.cs_ok (F:Nat):∀ p ∈ dS.cs F (co.tw F),∀ args H v H',p.2 args H = some (v,H')→Go.AE.T Try.prog p.1 args H v H':=by
 intro p hp
 simp only [dS.cs,List.mem_cons,List.not_mem_nil,or_false] at hp
 subst hp
 exact fun args H v H' h=>co.mk_T h
theorem dS.ok:codeOk dS.pn Try.f113.ntmps dS.tb dS.code = true:=by kernel_rfl
theorem dS.T {F:Nat} {aa:Int} {ag:Int} {cO:Int} {H:Hp} {v:AV} {H':Hp} (h:dS.tw F aa ag cO H = some (v,H')):Go.AE.T Try.prog 113 [(.int .i64 aa),(.int .i64 ag),(.int .i64 cO)] H v H':=
 Go.AE.T.of (Y:=tabs) (C:=mkOrc (dS.cs F (co.tw F))) (PN:=dS.pn) (LH:=dS.lh F (co.tw F)) (F:=F) (TB:=dS.tb) (fn:=Try.f113) (code:=dS.code) mixed tabs_ok (mkOrc_ok (dS.cs_ok F)) Try.func113 (by kernel_rfl) (by kernel_rfl) dS.ok (Nat.le_of_ble_eq_true (by kernel_rfl)) (dS.loops F (co.tw F)) (Eq.trans (dS.eqX F (co.tw F) aa ag cO H) h)
theorem dS.mk_T {F:Nat} {args:List AV} {H:Hp} {v:AV} {H':Hp} (h:dS.mk (dS.tw F) args H = some (v,H')):Go.AE.T Try.prog 113 args H v H':=by
 unfold dS.mk at h
 split at h
 ·exact dS.T h
 ·cases h
def dl.twX (F:Nat) (lz:Int→Int→Int→Hp→OA) (aa:Int) (ag:Int) (cO:Int) (H:Hp):OA:=(lz ag cO 2000000000000 H).bind fun r4=>((r4.1).asTup 2).bind fun l5=>(l5[0]?).bind fun v6=>((v6).asI .i64).bind fun n7=>(l5[1]?).bind fun v8=>((v8).asB).bind fun b9=>(bif (!b9) then (some ((.int .i64 3000000000000),r4.2)) else (some ((.int .i64 (IntKind.i64.wrap (aa - n7))),r4.2)))
def dl.tw (F:Nat) (aa:Int) (ag:Int) (cO:Int) (H:Hp):OA:=dl.twX F (dS.tw F) aa ag cO H
def dl.code:Go.Code:=(Try.f165.body).getD .skip
def dl.lh (F:Nat) (lz:Int→Int→Int→Hp→OA) (p:Nat) (ks:List Nat) (n:Nat) (tm:Tm) (H:Hp):OA:=none
def dl.pn:Nat→List Nat:=fun i=>(([]:List (Nat×List Nat)).lookup i).getD []
def dl.tb:Nat→List (List Nat):=fun i=>(([]:List (Nat×List (List Nat))).lookup i).getD []
def dl.mk (g:Int→Int→Int→Hp→OA) (args:List AV) (H:Hp):OA:=match args with
 | [(.int .i64 aa),(.int .i64 ag),(.int .i64 cO)]=>g aa ag cO H
 | _=>none
def dl.cs (F:Nat) (lz:Int→Int→Int→Hp→OA):List (FuncId×(List AV→Hp→OA)):=[(113,dS.mk lz)]
theorem dl.loops (F:Nat) (lz:Int→Int→Int→Hp→OA):LoopsOk tabs (mkOrc (dl.cs F lz)) dl.pn (dl.lh F lz) F [] 1 dl.code (fun tm H=>aresults tabs.ty H tm Try.f165.results.toList fun v=>some (v,H)) (fun _ _ _=>none) (fun tm H=>aresults tabs.ty H tm Try.f165.results.toList fun v=>some (v,H)):=by
 exact loops_none (by kernel_rfl)
theorem dl.eqX (F:Nat) (lz:Int→Int→Int→Hp→OA) (aa:Int) (ag:Int) (cO:Int) (H:Hp):aCode tabs (mkOrc (dl.cs F lz)) dl.pn (dl.lh F lz) F [] 1 dl.code (argTm [(.int .i64 aa),(.int .i64 ag),(.int .i64 cO)]) H (fun tm H=>aresults tabs.ty H tm Try.f165.results.toList fun v=>some (v,H)) (fun _ _ _=>none) (fun tm H=>aresults tabs.ty H tm Try.f165.results.toList fun v=>some (v,H)) = dl.twX F lz aa ag cO H:=by kernel_rfl
theorem dl.cs_ok (F:Nat):∀ p ∈ dl.cs F (dS.tw F),∀ args H v H',p.2 args H = some (v,H')→Go.AE.T Try.prog p.1 args H v H':=by
 intro p hp
 simp only [dl.cs,List.mem_cons,List.not_mem_nil,or_false] at hp
 subst hp
 exact fun args H v H' h=>dS.mk_T h
theorem dl.ok:codeOk dl.pn Try.f165.ntmps dl.tb dl.code = true:=by kernel_rfl
theorem dl.T {F:Nat} {aa:Int} {ag:Int} {cO:Int} {H:Hp} {v:AV} {H':Hp} (h:dl.tw F aa ag cO H = some (v,H')):Go.AE.T Try.prog 165 [(.int .i64 aa),(.int .i64 ag),(.int .i64 cO)] H v H':=
 Go.AE.T.of (Y:=tabs) (C:=mkOrc (dl.cs F (dS.tw F))) (PN:=dl.pn) (LH:=dl.lh F (dS.tw F)) (F:=F) (TB:=dl.tb) (fn:=Try.f165) (code:=dl.code) mixed tabs_ok (mkOrc_ok (dl.cs_ok F)) Try.func165 (by kernel_rfl) (by kernel_rfl) dl.ok (Nat.le_of_ble_eq_true (by kernel_rfl)) (dl.loops F (dS.tw F)) (Eq.trans (dl.eqX F (dS.tw F) aa ag cO H) h)
theorem dl.mk_T {F:Nat} {args:List AV} {H:Hp} {v:AV} {H':Hp} (h:dl.mk (dl.tw F) args H = some (v,H')):Go.AE.T Try.prog 165 args H v H':=by
 unfold dl.mk at h
 split at h
 ·exact dl.T h
 ·cases h
def dm.twX (F:Nat) (cl:Int→Hp→OA) (aa:Nat) (ac:Nat) (ae:Int) (af:Int) (bu:Sl) (cQ:Int) (cR:Int) (cz:Int) (H:Hp):OA:=(Hp.new H [(.int .i64 ae),(.int .i64 af),(.sl bu)]).bind fun H9=>(cl cz H9).bind fun r10=>((r10.1).asI .i64).bind fun n11=>(bif (decide (n11 > 1000000000000)) then ((Hp.st r10.2 aa (ac + 15) (.bool true)).bind fun H12=>some ((.tup []),H12)) else ((Hp.ldSl r10.2 H.length 2).bind fun s13=>(Hp.ldI r10.2 .i64 H.length 1).bind fun n14=>(Sl.idx s13 (IntKind.i64.wrap ((IntKind.i64.wrap (cQ * n14)) + cR)) 1).bind fun p15=>(Hp.st r10.2 p15.1 p15.2 (.int .i64 cz)).bind fun H16=>some ((.tup []),H16)))
def dm.tw (F:Nat) (aa:Nat) (ac:Nat) (ae:Int) (af:Int) (bu:Sl) (cQ:Int) (cR:Int) (cz:Int) (H:Hp):OA:=dm.twX F (co.tw F) aa ac ae af bu cQ cR cz H
def dm.code:Go.Code:=(Try.f164.body).getD .skip
def dm.lh (F:Nat) (cl:Int→Hp→OA) (p:Nat) (ks:List Nat) (n:Nat) (tm:Tm) (H:Hp):OA:=none
def dm.pn:Nat→List Nat:=fun i=>(([]:List (Nat×List Nat)).lookup i).getD []
def dm.tb:Nat→List (List Nat):=fun i=>(([]:List (Nat×List (List Nat))).lookup i).getD []
def dm.mk (g:Nat→Nat→Int→Int→Sl→Int→Int→Int→Hp→OA) (args:List AV) (H:Hp):OA:=match args with
 | [(.ptr aa ac),(.agg [(.int .i64 ae),(.int .i64 af),(.sl bu)]),(.int .i64 cQ),(.int .i64 cR),(.int .i64 cz)]=>g aa ac ae af bu cQ cR cz H
 | _=>none
def dm.cs (F:Nat) (cl:Int→Hp→OA):List (FuncId×(List AV→Hp→OA)):=[(114,co.mk cl)]
theorem dm.loops (F:Nat) (cl:Int→Hp→OA):LoopsOk tabs (mkOrc (dm.cs F cl)) dm.pn (dm.lh F cl) F [] 1 dm.code (fun tm H=>aresults tabs.ty H tm Try.f164.results.toList fun v=>some (v,H)) (fun _ _ _=>none) (fun tm H=>aresults tabs.ty H tm Try.f164.results.toList fun v=>some (v,H)):=by
 exact loops_none (by kernel_rfl)
theorem dm.eqX (F:Nat) (cl:Int→Hp→OA) (aa:Nat) (ac:Nat) (ae:Int) (af:Int) (bu:Sl) (cQ:Int) (cR:Int) (cz:Int) (H:Hp):aCode tabs (mkOrc (dm.cs F cl)) dm.pn (dm.lh F cl) F [] 1 dm.code (argTm [(.ptr aa ac),(.agg [(.int .i64 ae),(.int .i64 af),(.sl bu)]),(.int .i64 cQ),(.int .i64 cR),(.int .i64 cz)]) H (fun tm H=>aresults tabs.ty H tm Try.f164.results.toList fun v=>some (v,H)) (fun _ _ _=>none) (fun tm H=>aresults tabs.ty H tm Try.f164.results.toList fun v=>some (v,H)) = dm.twX F cl aa ac ae af bu cQ cR cz H:=by kernel_rfl
theorem dm.cs_ok (F:Nat):∀ p ∈ dm.cs F (co.tw F),∀ args H v H',p.2 args H = some (v,H')→Go.AE.T Try.prog p.1 args H v H':=by
 intro p hp
 simp only [dm.cs,List.mem_cons,List.not_mem_nil,or_false] at hp
 subst hp
 exact fun args H v H' h=>co.mk_T h
theorem dm.ok:codeOk dm.pn Try.f164.ntmps dm.tb dm.code = true:=by kernel_rfl
theorem dm.T {F:Nat} {aa:Nat} {ac:Nat} {ae:Int} {af:Int} {bu:Sl} {cQ:Int} {cR:Int} {cz:Int} {H:Hp} {v:AV} {H':Hp} (h:dm.tw F aa ac ae af bu cQ cR cz H = some (v,H')):Go.AE.T Try.prog 164 [(.ptr aa ac),(.agg [(.int .i64 ae),(.int .i64 af),(.sl bu)]),(.int .i64 cQ),(.int .i64 cR),(.int .i64 cz)] H v H':=
 Go.AE.T.of (Y:=tabs) (C:=mkOrc (dm.cs F (co.tw F))) (PN:=dm.pn) (LH:=dm.lh F (co.tw F)) (F:=F) (TB:=dm.tb) (fn:=Try.f164) (code:=dm.code) mixed tabs_ok (mkOrc_ok (dm.cs_ok F)) Try.func164 (by kernel_rfl) (by kernel_rfl) dm.ok (Nat.le_of_ble_eq_true (by kernel_rfl)) (dm.loops F (co.tw F)) (Eq.trans (dm.eqX F (co.tw F) aa ac ae af bu cQ cR cz H) h)
theorem dm.mk_T {F:Nat} {args:List AV} {H:Hp} {v:AV} {H':Hp} (h:dm.mk (dm.tw F) args H = some (v,H')):Go.AE.T Try.prog 164 args H v H':=by
 unfold dm.mk at h
 split at h
 ·exact dm.T h
 ·cases h
def bH.l7 (F:Nat) (ai:Int→Int→Sl→Int→Int→Hp→OA) (fr:Int→Int→Int→Hp→OA) (ft:Nat→Nat→Int→Int→Sl→Int→Int→Int→Hp→OA) :Nat→Nat→Nat→Int→Int→Int→Nat→Nat→Int→Hp→OA
 | 0,_,_,_,_,_,_,_,_,_=>none
 | kI + 1,gl,cU,fb,eg,fL,eX,cS,fc,H21=>(Hp.ldI H21 .i64 eX (cS + 1)).bind fun n40=>(bif (decide (fc < n40)) then ((Hp.ldB H21 gl (cU + 15)).bind fun b41=>(bif (!b41) then ((Hp.ldI H21 .i64 eX cS).bind fun n42=>(Hp.ldI H21 .i64 eX (cS + 1)).bind fun n43=>(Hp.ldSl H21 eX (cS + 2)).bind fun s44=>(Hp.ldI H21 .i64 eX cS).bind fun n45=>(Hp.ldI H21 .i64 eX (cS + 1)).bind fun n46=>(Hp.ldSl H21 eX (cS + 2)).bind fun s47=>(ai n45 n46 s47 fb fc H21).bind fun r48=>((r48.1).asI .i64).bind fun n49=>(if Cons H21 r48.2 then ((Hp.ldI r48.2 .i64 eX cS).bind fun n50=>(Hp.ldI r48.2 .i64 eX (cS + 1)).bind fun n51=>(Hp.ldSl r48.2 eX (cS + 2)).bind fun s52=>(ai n50 n51 s52 eg fc r48.2).bind fun r53=>((r53.1).asI .i64).bind fun n54=>(if Cons r48.2 r53.2 then ((fr n49 fL n54 r53.2).bind fun r55=>((r55.1).asI .i64).bind fun n56=>(if Cons r53.2 r55.2 then ((ft gl cU n42 n43 s44 fb fc n56 r55.2).bind fun r57=>bH.l7 F ai fr ft kI gl cU fb eg fL eX cS (IntKind.i64.wrap (fc + 1)) r57.2) else none)) else none)) else none)) else (some ((.tup []),H21)))) else (some ((.tup []),H21)))
termination_by structural n=>n
def bH.twX (F:Nat) (ai:Int→Int→Sl→Int→Int→Hp→OA) (fr:Int→Int→Int→Hp→OA) (ft:Nat→Nat→Int→Int→Sl→Int→Int→Int→Hp→OA) (aa:Nat) (ac:Nat) (ae:Int) (af:Int) (bu:Sl) (cQ:Int) (cR:Int) (cz:Int) (H:Hp):OA:=(Hp.new H [(.int .i64 ae),(.int .i64 af),(.sl bu)]).bind fun H9=>bH.l7 F ai fr ft F aa ac cQ cR cz H.length 0 0 H9
def bH.tw (F:Nat) (aa:Nat) (ac:Nat) (ae:Int) (af:Int) (bu:Sl) (cQ:Int) (cR:Int) (cz:Int) (H:Hp):OA:=bH.twX F (aC.tw F) (dl.tw F) (dm.tw F) aa ac ae af bu cQ cR cz H
def bH.code:Go.Code:=(Try.f160.body).getD .skip
def bH.lh7 (F:Nat) (ai:Int→Int→Sl→Int→Int→Hp→OA) (fr:Int→Int→Int→Hp→OA) (ft:Nat→Nat→Int→Int→Sl→Int→Int→Int→Hp→OA) (ks:List Nat) (n:Nat) (tm:Tm) (H:Hp):OA:=match ks,tm 0,tm 2,tm 3,tm 4,tm 6,tm 10 with
 | [],(.ptr gl cU),(.int .i64 fb),(.int .i64 eg),(.int .i64 fL),(.ptr eX cS),(.int .i64 fc)=>bH.l7 F ai fr ft n gl cU fb eg fL eX cS fc H
 | _,_,_,_,_,_,_=>none
theorem bH.lh7_inv {F:Nat} {ai:Int→Int→Sl→Int→Int→Hp→OA} {fr:Int→Int→Int→Hp→OA} {ft:Nat→Nat→Int→Int→Sl→Int→Int→Int→Hp→OA} {ks:List Nat} {n:Nat} {tm:Tm} {H:Hp} {r:AV×Hp} (h:bH.lh7 F ai fr ft ks n tm H = some r):∃ gl:Nat,∃ cU:Nat,∃ fb:Int,∃ eg:Int,∃ fL:Int,∃ eX:Nat,∃ cS:Nat,∃ fc:Int,ks = []∧tm 0 = (.ptr gl cU)∧tm 2 = (.int .i64 fb)∧tm 3 = (.int .i64 eg)∧tm 4 = (.int .i64 fL)∧tm 6 = (.ptr eX cS)∧tm 10 = (.int .i64 fc)∧bH.l7 F ai fr ft n gl cU fb eg fL eX cS fc H = some r:=by
 unfold bH.lh7 at h
 split at h
 ·exact ⟨_,_,_,_,_,_,_,_,rfl,by assumption,by assumption,by assumption,by assumption,by assumption,by assumption,h⟩
 ·cases h
def bH.lh (F:Nat) (ai:Int→Int→Sl→Int→Int→Hp→OA) (fr:Int→Int→Int→Hp→OA) (ft:Nat→Nat→Int→Int→Sl→Int→Int→Int→Hp→OA) (p:Nat) (ks:List Nat) (n:Nat) (tm:Tm) (H:Hp):OA:=bif p.beq 7 then bH.lh7 F ai fr ft ks n tm H else (none)
def bH.pn:Nat→List Nat:=fun i=>(([(4,[14])]:List (Nat×List Nat)).lookup i).getD []
def bH.tb:Nat→List (List Nat):=fun i=>(([(4,[[],[],[],[],[],[],[],[4,5,6],[],[],[],[],[4,5,6,7,9,10,11],[4,5,6,7,8,9,10,11,12],[0,1,2,3,4,5,6,7,8,9,10,11,12,13]])]:List (Nat×List (List Nat))).lookup i).getD []
def bH.mk (g:Nat→Nat→Int→Int→Sl→Int→Int→Int→Hp→OA) (args:List AV) (H:Hp):OA:=match args with
 | [(.ptr aa ac),(.agg [(.int .i64 ae),(.int .i64 af),(.sl bu)]),(.int .i64 cQ),(.int .i64 cR),(.int .i64 cz)]=>g aa ac ae af bu cQ cR cz H
 | _=>none
def bH.cs (F:Nat) (ai:Int→Int→Sl→Int→Int→Hp→OA) (fr:Int→Int→Int→Hp→OA) (ft:Nat→Nat→Int→Int→Sl→Int→Int→Int→Hp→OA):List (FuncId×(List AV→Hp→OA)):=[(79,aC.mk ai),(165,dl.mk fr),(164,dm.mk ft)]
theorem bH.loops (F:Nat) (ai:Int→Int→Sl→Int→Int→Hp→OA) (fr:Int→Int→Int→Hp→OA) (ft:Nat→Nat→Int→Int→Sl→Int→Int→Int→Hp→OA):LoopsOk tabs (mkOrc (bH.cs F ai fr ft)) bH.pn (bH.lh F ai fr ft) F [] 1 bH.code (fun tm H=>aresults tabs.ty H tm Try.f160.results.toList fun v=>some (v,H)) (fun _ _ _=>none) (fun tm H=>aresults tabs.ty H tm Try.f160.results.toList fun v=>some (v,H)):=by
 refine LoopsOk.seq ?_ ?_
 ·exact loops_none (by kernel_rfl)
 ·refine LoopsOk.seq ?_ ?_
  ·exact loops_none (by kernel_rfl)
  ·refine LoopsOk.block ?_
   refine LoopsOk.loop (fun tm H=>?_) (fun k7 tm H r h0=>?_) (fun k7=>?_)
   ·refine none_of fun r h0=>?_
    obtain ⟨gl,cU,fb,eg,fL,eX,cS,fc,hks,e0,e2,e3,e4,e6,e10,h⟩:=bH.lh7_inv (show bH.lh7 F ai fr ft [] 0 tm H = some r from h0)
    cases h
   ·obtain ⟨gl,cU,fb,eg,fL,eX,cS,fc,hks,e0,e2,e3,e4,e6,e10,h⟩:=bH.lh7_inv (show bH.lh7 F ai fr ft [] (k7 + 1) tm H = some r from h0)
    have q0:(Tm.put tm 0 (.ptr gl cU)) = tm:=by exact Tm.put_same e0
    have q1:(Tm.put (Tm.put tm 0 (.ptr gl cU)) 2 (.int .i64 fb)) = tm:=by rw [q0]; exact Tm.put_same e2
    have q2:(Tm.put (Tm.put (Tm.put tm 0 (.ptr gl cU)) 2 (.int .i64 fb)) 3 (.int .i64 eg)) = tm:=by rw [q1]; exact Tm.put_same e3
    have q3:(Tm.put (Tm.put (Tm.put (Tm.put tm 0 (.ptr gl cU)) 2 (.int .i64 fb)) 3 (.int .i64 eg)) 4 (.int .i64 fL)) = tm:=by rw [q2]; exact Tm.put_same e4
    have q4:(Tm.put (Tm.put (Tm.put (Tm.put (Tm.put tm 0 (.ptr gl cU)) 2 (.int .i64 fb)) 3 (.int .i64 eg)) 4 (.int .i64 fL)) 6 (.ptr eX cS)) = tm:=by rw [q3]; exact Tm.put_same e6
    have q5:(Tm.put (Tm.put (Tm.put (Tm.put (Tm.put (Tm.put tm 0 (.ptr gl cU)) 2 (.int .i64 fb)) 3 (.int .i64 eg)) 4 (.int .i64 fL)) 6 (.ptr eX cS)) 10 (.int .i64 fc)) = tm:=by rw [q4]; exact Tm.put_same e10
    rw [← q5]
    exact Eq.trans (by kernel_rfl) h
   ·exact loops_none (by kernel_rfl)
theorem bH.eqX (F:Nat) (ai:Int→Int→Sl→Int→Int→Hp→OA) (fr:Int→Int→Int→Hp→OA) (ft:Nat→Nat→Int→Int→Sl→Int→Int→Int→Hp→OA) (aa:Nat) (ac:Nat) (ae:Int) (af:Int) (bu:Sl) (cQ:Int) (cR:Int) (cz:Int) (H:Hp):aCode tabs (mkOrc (bH.cs F ai fr ft)) bH.pn (bH.lh F ai fr ft) F [] 1 bH.code (argTm [(.ptr aa ac),(.agg [(.int .i64 ae),(.int .i64 af),(.sl bu)]),(.int .i64 cQ),(.int .i64 cR),(.int .i64 cz)]) H (fun tm H=>aresults tabs.ty H tm Try.f160.results.toList fun v=>some (v,H)) (fun _ _ _=>none) (fun tm H=>aresults tabs.ty H tm Try.f160.results.toList fun v=>some (v,H)) = bH.twX F ai fr ft aa ac ae af bu cQ cR cz H:=by kernel_rfl
theorem bH.cs_ok (F:Nat):∀ p ∈ bH.cs F (aC.tw F) (dl.tw F) (dm.tw F),∀ args H v H',p.2 args H = some (v,H')→Go.AE.T Try.prog p.1 args H v H':=by
 intro p hp
 simp only [bH.cs,List.mem_cons,List.not_mem_nil,or_false] at hp
 rcases hp with rfl | rfl | rfl
 ·exact fun args H v H' h=>aC.mk_T h
 ·exact fun args H v H' h=>dl.mk_T h
 ·exact fun args H v H' h=>dm.mk_T h
theorem bH.ok:codeOk bH.pn Try.f160.ntmps bH.tb bH.code = true:=by kernel_rfl
theorem bH.T {F:Nat} {aa:Nat} {ac:Nat} {ae:Int} {af:Int} {bu:Sl} {cQ:Int} {cR:Int} {cz:Int} {H:Hp} {v:AV} {H':Hp} (h:bH.tw F aa ac ae af bu cQ cR cz H = some (v,H')):Go.AE.T Try.prog 160 [(.ptr aa ac),(.agg [(.int .i64 ae),(.int .i64 af),(.sl bu)]),(.int .i64 cQ),(.int .i64 cR),(.int .i64 cz)] H v H':=
 Go.AE.T.of (Y:=tabs) (C:=mkOrc (bH.cs F (aC.tw F) (dl.tw F) (dm.tw F))) (PN:=bH.pn) (LH:=bH.lh F (aC.tw F) (dl.tw F) (dm.tw F)) (F:=F) (TB:=bH.tb) (fn:=Try.f160) (code:=bH.code) mixed tabs_ok (mkOrc_ok (bH.cs_ok F)) Try.func160 (by kernel_rfl) (by kernel_rfl) bH.ok (Nat.le_of_ble_eq_true (by kernel_rfl)) (bH.loops F (aC.tw F) (dl.tw F) (dm.tw F)) (Eq.trans (bH.eqX F (aC.tw F) (dl.tw F) (dm.tw F) aa ac ae af bu cQ cR cz H) h)
theorem bH.mk_T {F:Nat} {args:List AV} {H:Hp} {v:AV} {H':Hp} (h:bH.mk (bH.tw F) args H = some (v,H')):Go.AE.T Try.prog 160 args H v H':=by
 unfold bH.mk at h
 split at h
 ·exact bH.T h
 ·cases h
def bI.l7 (F:Nat) (ai:Int→Int→Sl→Int→Int→Hp→OA) (fr:Int→Int→Int→Hp→OA) (ft:Nat→Nat→Int→Int→Sl→Int→Int→Int→Hp→OA) :Nat→Nat→Nat→Int→Int→Int→Nat→Nat→Int→Hp→OA
 | 0,_,_,_,_,_,_,_,_,_=>none
 | kI + 1,gl,cU,fb,eg,fL,eX,cS,fc,H21=>(Hp.ldI H21 .i64 eX cS).bind fun n40=>(bif (decide (fc < n40)) then ((Hp.ldB H21 gl (cU + 15)).bind fun b41=>(bif (!b41) then ((Hp.ldI H21 .i64 eX cS).bind fun n42=>(Hp.ldI H21 .i64 eX (cS + 1)).bind fun n43=>(Hp.ldSl H21 eX (cS + 2)).bind fun s44=>(Hp.ldI H21 .i64 eX cS).bind fun n45=>(Hp.ldI H21 .i64 eX (cS + 1)).bind fun n46=>(Hp.ldSl H21 eX (cS + 2)).bind fun s47=>(ai n45 n46 s47 fc fb H21).bind fun r48=>((r48.1).asI .i64).bind fun n49=>(if Cons H21 r48.2 then ((Hp.ldI r48.2 .i64 eX cS).bind fun n50=>(Hp.ldI r48.2 .i64 eX (cS + 1)).bind fun n51=>(Hp.ldSl r48.2 eX (cS + 2)).bind fun s52=>(ai n50 n51 s52 fc eg r48.2).bind fun r53=>((r53.1).asI .i64).bind fun n54=>(if Cons r48.2 r53.2 then ((fr n49 fL n54 r53.2).bind fun r55=>((r55.1).asI .i64).bind fun n56=>(if Cons r53.2 r55.2 then ((ft gl cU n42 n43 s44 fc fb n56 r55.2).bind fun r57=>bI.l7 F ai fr ft kI gl cU fb eg fL eX cS (IntKind.i64.wrap (fc + 1)) r57.2) else none)) else none)) else none)) else (some ((.tup []),H21)))) else (some ((.tup []),H21)))
termination_by structural n=>n
def bI.twX (F:Nat) (ai:Int→Int→Sl→Int→Int→Hp→OA) (fr:Int→Int→Int→Hp→OA) (ft:Nat→Nat→Int→Int→Sl→Int→Int→Int→Hp→OA) (aa:Nat) (ac:Nat) (ae:Int) (af:Int) (bu:Sl) (cQ:Int) (cR:Int) (cz:Int) (H:Hp):OA:=(Hp.new H [(.int .i64 ae),(.int .i64 af),(.sl bu)]).bind fun H9=>bI.l7 F ai fr ft F aa ac cQ cR cz H.length 0 0 H9
def bI.tw (F:Nat) (aa:Nat) (ac:Nat) (ae:Int) (af:Int) (bu:Sl) (cQ:Int) (cR:Int) (cz:Int) (H:Hp):OA:=bI.twX F (aC.tw F) (dl.tw F) (dm.tw F) aa ac ae af bu cQ cR cz H
def bI.code:Go.Code:=(Try.f161.body).getD .skip
def bI.lh7 (F:Nat) (ai:Int→Int→Sl→Int→Int→Hp→OA) (fr:Int→Int→Int→Hp→OA) (ft:Nat→Nat→Int→Int→Sl→Int→Int→Int→Hp→OA) (ks:List Nat) (n:Nat) (tm:Tm) (H:Hp):OA:=match ks,tm 0,tm 2,tm 3,tm 4,tm 6,tm 10 with
 | [],(.ptr gl cU),(.int .i64 fb),(.int .i64 eg),(.int .i64 fL),(.ptr eX cS),(.int .i64 fc)=>bI.l7 F ai fr ft n gl cU fb eg fL eX cS fc H
 | _,_,_,_,_,_,_=>none
theorem bI.lh7_inv {F:Nat} {ai:Int→Int→Sl→Int→Int→Hp→OA} {fr:Int→Int→Int→Hp→OA} {ft:Nat→Nat→Int→Int→Sl→Int→Int→Int→Hp→OA} {ks:List Nat} {n:Nat} {tm:Tm} {H:Hp} {r:AV×Hp} (h:bI.lh7 F ai fr ft ks n tm H = some r):∃ gl:Nat,∃ cU:Nat,∃ fb:Int,∃ eg:Int,∃ fL:Int,∃ eX:Nat,∃ cS:Nat,∃ fc:Int,ks = []∧tm 0 = (.ptr gl cU)∧tm 2 = (.int .i64 fb)∧tm 3 = (.int .i64 eg)∧tm 4 = (.int .i64 fL)∧tm 6 = (.ptr eX cS)∧tm 10 = (.int .i64 fc)∧bI.l7 F ai fr ft n gl cU fb eg fL eX cS fc H = some r:=by
 unfold bI.lh7 at h
 split at h
 ·exact ⟨_,_,_,_,_,_,_,_,rfl,by assumption,by assumption,by assumption,by assumption,by assumption,by assumption,h⟩
 ·cases h
def bI.lh (F:Nat) (ai:Int→Int→Sl→Int→Int→Hp→OA) (fr:Int→Int→Int→Hp→OA) (ft:Nat→Nat→Int→Int→Sl→Int→Int→Int→Hp→OA) (p:Nat) (ks:List Nat) (n:Nat) (tm:Tm) (H:Hp):OA:=bif p.beq 7 then bI.lh7 F ai fr ft ks n tm H else (none)
def bI.pn:Nat→List Nat:=fun i=>(([(4,[14])]:List (Nat×List Nat)).lookup i).getD []
def bI.tb:Nat→List (List Nat):=fun i=>(([(4,[[],[],[],[],[],[],[],[4,5,6],[],[],[],[],[4,5,6,7,9,10,11],[4,5,6,7,8,9,10,11,12],[0,1,2,3,4,5,6,7,8,9,10,11,12,13]])]:List (Nat×List (List Nat))).lookup i).getD []
def bI.mk (g:Nat→Nat→Int→Int→Sl→Int→Int→Int→Hp→OA) (args:List AV) (H:Hp):OA:=match args with
 | [(.ptr aa ac),(.agg [(.int .i64 ae),(.int .i64 af),(.sl bu)]),(.int .i64 cQ),(.int .i64 cR),(.int .i64 cz)]=>g aa ac ae af bu cQ cR cz H
 | _=>none
def bI.cs (F:Nat) (ai:Int→Int→Sl→Int→Int→Hp→OA) (fr:Int→Int→Int→Hp→OA) (ft:Nat→Nat→Int→Int→Sl→Int→Int→Int→Hp→OA):List (FuncId×(List AV→Hp→OA)):=[(79,aC.mk ai),(165,dl.mk fr),(164,dm.mk ft)]
theorem bI.loops (F:Nat) (ai:Int→Int→Sl→Int→Int→Hp→OA) (fr:Int→Int→Int→Hp→OA) (ft:Nat→Nat→Int→Int→Sl→Int→Int→Int→Hp→OA):LoopsOk tabs (mkOrc (bI.cs F ai fr ft)) bI.pn (bI.lh F ai fr ft) F [] 1 bI.code (fun tm H=>aresults tabs.ty H tm Try.f161.results.toList fun v=>some (v,H)) (fun _ _ _=>none) (fun tm H=>aresults tabs.ty H tm Try.f161.results.toList fun v=>some (v,H)):=by
 refine LoopsOk.seq ?_ ?_
 ·exact loops_none (by kernel_rfl)
 ·refine LoopsOk.seq ?_ ?_
  ·exact loops_none (by kernel_rfl)
  ·refine LoopsOk.block ?_
   refine LoopsOk.loop (fun tm H=>?_) (fun k7 tm H r h0=>?_) (fun k7=>?_)
   ·refine none_of fun r h0=>?_
    obtain ⟨gl,cU,fb,eg,fL,eX,cS,fc,hks,e0,e2,e3,e4,e6,e10,h⟩:=bI.lh7_inv (show bI.lh7 F ai fr ft [] 0 tm H = some r from h0)
    cases h
   ·obtain ⟨gl,cU,fb,eg,fL,eX,cS,fc,hks,e0,e2,e3,e4,e6,e10,h⟩:=bI.lh7_inv (show bI.lh7 F ai fr ft [] (k7 + 1) tm H = some r from h0)
    have q0:(Tm.put tm 0 (.ptr gl cU)) = tm:=by exact Tm.put_same e0
    have q1:(Tm.put (Tm.put tm 0 (.ptr gl cU)) 2 (.int .i64 fb)) = tm:=by rw [q0]; exact Tm.put_same e2
    have q2:(Tm.put (Tm.put (Tm.put tm 0 (.ptr gl cU)) 2 (.int .i64 fb)) 3 (.int .i64 eg)) = tm:=by rw [q1]; exact Tm.put_same e3
    have q3:(Tm.put (Tm.put (Tm.put (Tm.put tm 0 (.ptr gl cU)) 2 (.int .i64 fb)) 3 (.int .i64 eg)) 4 (.int .i64 fL)) = tm:=by rw [q2]; exact Tm.put_same e4
    have q4:(Tm.put (Tm.put (Tm.put (Tm.put (Tm.put tm 0 (.ptr gl cU)) 2 (.int .i64 fb)) 3 (.int .i64 eg)) 4 (.int .i64 fL)) 6 (.ptr eX cS)) = tm:=by rw [q3]; exact Tm.put_same e6
    have q5:(Tm.put (Tm.put (Tm.put (Tm.put (Tm.put (Tm.put tm 0 (.ptr gl cU)) 2 (.int .i64 fb)) 3 (.int .i64 eg)) 4 (.int .i64 fL)) 6 (.ptr eX cS)) 10 (.int .i64 fc)) = tm:=by rw [q4]; exact Tm.put_same e10
    rw [← q5]
    exact Eq.trans (by kernel_rfl) h
   ·exact loops_none (by kernel_rfl)
theorem bI.eqX (F:Nat) (ai:Int→Int→Sl→Int→Int→Hp→OA) (fr:Int→Int→Int→Hp→OA) (ft:Nat→Nat→Int→Int→Sl→Int→Int→Int→Hp→OA) (aa:Nat) (ac:Nat) (ae:Int) (af:Int) (bu:Sl) (cQ:Int) (cR:Int) (cz:Int) (H:Hp):aCode tabs (mkOrc (bI.cs F ai fr ft)) bI.pn (bI.lh F ai fr ft) F [] 1 bI.code (argTm [(.ptr aa ac),(.agg [(.int .i64 ae),(.int .i64 af),(.sl bu)]),(.int .i64 cQ),(.int .i64 cR),(.int .i64 cz)]) H (fun tm H=>aresults tabs.ty H tm Try.f161.results.toList fun v=>some (v,H)) (fun _ _ _=>none) (fun tm H=>aresults tabs.ty H tm Try.f161.results.toList fun v=>some (v,H)) = bI.twX F ai fr ft aa ac ae af bu cQ cR cz H:=by kernel_rfl
theorem bI.cs_ok (F:Nat):∀ p ∈ bI.cs F (aC.tw F) (dl.tw F) (dm.tw F),∀ args H v H',p.2 args H = some (v,H')→Go.AE.T Try.prog p.1 args H v H':=by
 intro p hp
 simp only [bI.cs,List.mem_cons,List.not_mem_nil,or_false] at hp
 rcases hp with rfl | rfl | rfl
 ·exact fun args H v H' h=>aC.mk_T h
 ·exact fun args H v H' h=>dl.mk_T h
 ·exact fun args H v H' h=>dm.mk_T h
theorem bI.ok:codeOk bI.pn Try.f161.ntmps bI.tb bI.code = true:=by kernel_rfl
theorem bI.T {F:Nat} {aa:Nat} {ac:Nat} {ae:Int} {af:Int} {bu:Sl} {cQ:Int} {cR:Int} {cz:Int} {H:Hp} {v:AV} {H':Hp} (h:bI.tw F aa ac ae af bu cQ cR cz H = some (v,H')):Go.AE.T Try.prog 161 [(.ptr aa ac),(.agg [(.int .i64 ae),(.int .i64 af),(.sl bu)]),(.int .i64 cQ),(.int .i64 cR),(.int .i64 cz)] H v H':=
 Go.AE.T.of (Y:=tabs) (C:=mkOrc (bI.cs F (aC.tw F) (dl.tw F) (dm.tw F))) (PN:=bI.pn) (LH:=bI.lh F (aC.tw F) (dl.tw F) (dm.tw F)) (F:=F) (TB:=bI.tb) (fn:=Try.f161) (code:=bI.code) mixed tabs_ok (mkOrc_ok (bI.cs_ok F)) Try.func161 (by kernel_rfl) (by kernel_rfl) bI.ok (Nat.le_of_ble_eq_true (by kernel_rfl)) (bI.loops F (aC.tw F) (dl.tw F) (dm.tw F)) (Eq.trans (bI.eqX F (aC.tw F) (dl.tw F) (dm.tw F) aa ac ae af bu cQ cR cz H) h)
theorem bI.mk_T {F:Nat} {args:List AV} {H:Hp} {v:AV} {H':Hp} (h:bI.mk (bI.tw F) args H = some (v,H')):Go.AE.T Try.prog 161 args H v H':=by
 unfold bI.mk at h
 split at h
 ·exact bI.T h
 ·cases h
def dA.twX (F:Nat) (hZ:Nat→Nat→Int→Int→Sl→Int→Int→Int→Hp→OA) (h_:Nat→Nat→Int→Int→Sl→Int→Int→Int→Hp→OA) (aa:Nat) (ac:Nat) (ae:Int) (bG:Int) (cA:Int) (H:Hp):OA:=(bif (cA != 0) then ((Hp.ldI H .i64 aa ac).bind fun n6=>(Hp.ldI H .i64 aa (ac + 1)).bind fun n7=>(Hp.ldSl H aa (ac + 2)).bind fun s8=>(hZ aa ac n6 n7 s8 ae bG cA H).bind fun r9=>(Hp.ldI r9.2 .i64 aa (ac + 3)).bind fun n10=>(Hp.ldI r9.2 .i64 aa ((ac + 3) + 1)).bind fun n11=>(Hp.ldSl r9.2 aa ((ac + 3) + 2)).bind fun s12=>(hZ aa ac n10 n11 s12 ae bG cA r9.2).bind fun r13=>(Hp.ldI r13.2 .i64 aa (ac + 6)).bind fun n14=>(Hp.ldI r13.2 .i64 aa ((ac + 6) + 1)).bind fun n15=>(Hp.ldSl r13.2 aa ((ac + 6) + 2)).bind fun s16=>(h_ aa ac n14 n15 s16 bG ae (IntKind.i64.wrap (0 - cA)) r13.2).bind fun r17=>some ((.tup []),r17.2)) else (some ((.tup []),H)))
def dA.tw (F:Nat) (aa:Nat) (ac:Nat) (ae:Int) (bG:Int) (cA:Int) (H:Hp):OA:=dA.twX F (bH.tw F) (bI.tw F) aa ac ae bG cA H
def dA.code:Go.Code:=(Try.f140.body).getD .skip
def dA.lh (F:Nat) (hZ:Nat→Nat→Int→Int→Sl→Int→Int→Int→Hp→OA) (h_:Nat→Nat→Int→Int→Sl→Int→Int→Int→Hp→OA) (p:Nat) (ks:List Nat) (n:Nat) (tm:Tm) (H:Hp):OA:=none
def dA.pn:Nat→List Nat:=fun i=>(([]:List (Nat×List Nat)).lookup i).getD []
def dA.tb:Nat→List (List Nat):=fun i=>(([]:List (Nat×List (List Nat))).lookup i).getD []
def dA.mk (g:Nat→Nat→Int→Int→Int→Hp→OA) (args:List AV) (H:Hp):OA:=match args with
 | [(.ptr aa ac),(.int .i64 ae),(.int .i64 bG),(.int .i64 cA)]=>g aa ac ae bG cA H
 | _=>none
def dA.cs (F:Nat) (hZ:Nat→Nat→Int→Int→Sl→Int→Int→Int→Hp→OA) (h_:Nat→Nat→Int→Int→Sl→Int→Int→Int→Hp→OA):List (FuncId×(List AV→Hp→OA)):=[(160,bH.mk hZ),(161,bI.mk h_)]
theorem dA.loops (F:Nat) (hZ:Nat→Nat→Int→Int→Sl→Int→Int→Int→Hp→OA) (h_:Nat→Nat→Int→Int→Sl→Int→Int→Int→Hp→OA):LoopsOk tabs (mkOrc (dA.cs F hZ h_)) dA.pn (dA.lh F hZ h_) F [] 1 dA.code (fun tm H=>aresults tabs.ty H tm Try.f140.results.toList fun v=>some (v,H)) (fun _ _ _=>none) (fun tm H=>aresults tabs.ty H tm Try.f140.results.toList fun v=>some (v,H)):=by
 exact loops_none (by kernel_rfl)
theorem dA.eqX (F:Nat) (hZ:Nat→Nat→Int→Int→Sl→Int→Int→Int→Hp→OA) (h_:Nat→Nat→Int→Int→Sl→Int→Int→Int→Hp→OA) (aa:Nat) (ac:Nat) (ae:Int) (bG:Int) (cA:Int) (H:Hp):aCode tabs (mkOrc (dA.cs F hZ h_)) dA.pn (dA.lh F hZ h_) F [] 1 dA.code (argTm [(.ptr aa ac),(.int .i64 ae),(.int .i64 bG),(.int .i64 cA)]) H (fun tm H=>aresults tabs.ty H tm Try.f140.results.toList fun v=>some (v,H)) (fun _ _ _=>none) (fun tm H=>aresults tabs.ty H tm Try.f140.results.toList fun v=>some (v,H)) = dA.twX F hZ h_ aa ac ae bG cA H:=by kernel_rfl
theorem dA.cs_ok (F:Nat):∀ p ∈ dA.cs F (bH.tw F) (bI.tw F),∀ args H v H',p.2 args H = some (v,H')→Go.AE.T Try.prog p.1 args H v H':=by
 intro p hp
 simp only [dA.cs,List.mem_cons,List.not_mem_nil,or_false] at hp
 rcases hp with rfl | rfl
 ·exact fun args H v H' h=>bH.mk_T h
 ·exact fun args H v H' h=>bI.mk_T h
theorem dA.ok:codeOk dA.pn Try.f140.ntmps dA.tb dA.code = true:=by kernel_rfl
theorem dA.T {F:Nat} {aa:Nat} {ac:Nat} {ae:Int} {bG:Int} {cA:Int} {H:Hp} {v:AV} {H':Hp} (h:dA.tw F aa ac ae bG cA H = some (v,H')):Go.AE.T Try.prog 140 [(.ptr aa ac),(.int .i64 ae),(.int .i64 bG),(.int .i64 cA)] H v H':=
 Go.AE.T.of (Y:=tabs) (C:=mkOrc (dA.cs F (bH.tw F) (bI.tw F))) (PN:=dA.pn) (LH:=dA.lh F (bH.tw F) (bI.tw F)) (F:=F) (TB:=dA.tb) (fn:=Try.f140) (code:=dA.code) mixed tabs_ok (mkOrc_ok (dA.cs_ok F)) Try.func140 (by kernel_rfl) (by kernel_rfl) dA.ok (Nat.le_of_ble_eq_true (by kernel_rfl)) (dA.loops F (bH.tw F) (bI.tw F)) (Eq.trans (dA.eqX F (bH.tw F) (bI.tw F) aa ac ae bG cA H) h)
theorem dA.mk_T {F:Nat} {args:List AV} {H:Hp} {v:AV} {H':Hp} (h:dA.mk (dA.tw F) args H = some (v,H')):Go.AE.T Try.prog 140 args H v H':=by
 unfold dA.mk at h
 split at h
 ·exact dA.T h
 ·cases h
def dE.twX (F:Nat) (h_:Nat→Nat→Int→Int→Sl→Int→Int→Int→Hp→OA) (hZ:Nat→Nat→Int→Int→Sl→Int→Int→Int→Hp→OA) (aa:Nat) (ac:Nat) (ae:Int) (bG:Int) (cA:Int) (H:Hp):OA:=(bif (cA != 0) then ((Hp.ldI H .i64 aa ac).bind fun n6=>(Hp.ldI H .i64 aa (ac + 1)).bind fun n7=>(Hp.ldSl H aa (ac + 2)).bind fun s8=>(h_ aa ac n6 n7 s8 ae bG cA H).bind fun r9=>(Hp.ldI r9.2 .i64 aa (ac + 9)).bind fun n10=>(Hp.ldI r9.2 .i64 aa ((ac + 9) + 1)).bind fun n11=>(Hp.ldSl r9.2 aa ((ac + 9) + 2)).bind fun s12=>(h_ aa ac n10 n11 s12 ae bG cA r9.2).bind fun r13=>(Hp.ldI r13.2 .i64 aa (ac + 12)).bind fun n14=>(Hp.ldI r13.2 .i64 aa ((ac + 12) + 1)).bind fun n15=>(Hp.ldSl r13.2 aa ((ac + 12) + 2)).bind fun s16=>(hZ aa ac n14 n15 s16 bG ae (IntKind.i64.wrap (0 - cA)) r13.2).bind fun r17=>some ((.tup []),r17.2)) else (some ((.tup []),H)))
def dE.tw (F:Nat) (aa:Nat) (ac:Nat) (ae:Int) (bG:Int) (cA:Int) (H:Hp):OA:=dE.twX F (bI.tw F) (bH.tw F) aa ac ae bG cA H
def dE.code:Go.Code:=(Try.f142.body).getD .skip
def dE.lh (F:Nat) (h_:Nat→Nat→Int→Int→Sl→Int→Int→Int→Hp→OA) (hZ:Nat→Nat→Int→Int→Sl→Int→Int→Int→Hp→OA) (p:Nat) (ks:List Nat) (n:Nat) (tm:Tm) (H:Hp):OA:=none
def dE.pn:Nat→List Nat:=fun i=>(([]:List (Nat×List Nat)).lookup i).getD []
def dE.tb:Nat→List (List Nat):=fun i=>(([]:List (Nat×List (List Nat))).lookup i).getD []
def dE.mk (g:Nat→Nat→Int→Int→Int→Hp→OA) (args:List AV) (H:Hp):OA:=match args with
 | [(.ptr aa ac),(.int .i64 ae),(.int .i64 bG),(.int .i64 cA)]=>g aa ac ae bG cA H
 | _=>none
def dE.cs (F:Nat) (h_:Nat→Nat→Int→Int→Sl→Int→Int→Int→Hp→OA) (hZ:Nat→Nat→Int→Int→Sl→Int→Int→Int→Hp→OA):List (FuncId×(List AV→Hp→OA)):=[(161,bI.mk h_),(160,bH.mk hZ)]
theorem dE.loops (F:Nat) (h_:Nat→Nat→Int→Int→Sl→Int→Int→Int→Hp→OA) (hZ:Nat→Nat→Int→Int→Sl→Int→Int→Int→Hp→OA):LoopsOk tabs (mkOrc (dE.cs F h_ hZ)) dE.pn (dE.lh F h_ hZ) F [] 1 dE.code (fun tm H=>aresults tabs.ty H tm Try.f142.results.toList fun v=>some (v,H)) (fun _ _ _=>none) (fun tm H=>aresults tabs.ty H tm Try.f142.results.toList fun v=>some (v,H)):=by
 exact loops_none (by kernel_rfl)
theorem dE.eqX (F:Nat) (h_:Nat→Nat→Int→Int→Sl→Int→Int→Int→Hp→OA) (hZ:Nat→Nat→Int→Int→Sl→Int→Int→Int→Hp→OA) (aa:Nat) (ac:Nat) (ae:Int) (bG:Int) (cA:Int) (H:Hp):aCode tabs (mkOrc (dE.cs F h_ hZ)) dE.pn (dE.lh F h_ hZ) F [] 1 dE.code (argTm [(.ptr aa ac),(.int .i64 ae),(.int .i64 bG),(.int .i64 cA)]) H (fun tm H=>aresults tabs.ty H tm Try.f142.results.toList fun v=>some (v,H)) (fun _ _ _=>none) (fun tm H=>aresults tabs.ty H tm Try.f142.results.toList fun v=>some (v,H)) = dE.twX F h_ hZ aa ac ae bG cA H:=by kernel_rfl
theorem dE.cs_ok (F:Nat):∀ p ∈ dE.cs F (bI.tw F) (bH.tw F),∀ args H v H',p.2 args H = some (v,H')→Go.AE.T Try.prog p.1 args H v H':=by
 intro p hp
 simp only [dE.cs,List.mem_cons,List.not_mem_nil,or_false] at hp
 rcases hp with rfl | rfl
 ·exact fun args H v H' h=>bI.mk_T h
 ·exact fun args H v H' h=>bH.mk_T h
theorem dE.ok:codeOk dE.pn Try.f142.ntmps dE.tb dE.code = true:=by kernel_rfl
theorem dE.T {F:Nat} {aa:Nat} {ac:Nat} {ae:Int} {bG:Int} {cA:Int} {H:Hp} {v:AV} {H':Hp} (h:dE.tw F aa ac ae bG cA H = some (v,H')):Go.AE.T Try.prog 142 [(.ptr aa ac),(.int .i64 ae),(.int .i64 bG),(.int .i64 cA)] H v H':=
 Go.AE.T.of (Y:=tabs) (C:=mkOrc (dE.cs F (bI.tw F) (bH.tw F))) (PN:=dE.pn) (LH:=dE.lh F (bI.tw F) (bH.tw F)) (F:=F) (TB:=dE.tb) (fn:=Try.f142) (code:=dE.code) mixed tabs_ok (mkOrc_ok (dE.cs_ok F)) Try.func142 (by kernel_rfl) (by kernel_rfl) dE.ok (Nat.le_of_ble_eq_true (by kernel_rfl)) (dE.loops F (bI.tw F) (bH.tw F)) (Eq.trans (dE.eqX F (bI.tw F) (bH.tw F) aa ac ae bG cA H) h)
theorem dE.mk_T {F:Nat} {args:List AV} {H:Hp} {v:AV} {H':Hp} (h:dE.mk (dE.tw F) args H = some (v,H')):Go.AE.T Try.prog 142 args H v H':=by
 unfold dE.mk at h
 split at h
 ·exact dE.T h
 ·cases h
def bj.l29 (F:Nat) (ai:Int→Int→Sl→Int→Int→Hp→OA) :Nat→Nat→Nat→Int→Int→Hp→OA
 | 0,_,_,_,_,_=>none
 | fa + 1,kJ,kK,jL,jt,H30=>(Hp.ldI H30 .i64 kJ (kK + 1)).bind fun n37=>(bif (decide (jt < n37)) then ((Hp.ldI H30 .i64 kJ kK).bind fun n38=>(Hp.ldI H30 .i64 kJ (kK + 1)).bind fun n39=>(Hp.ldSl H30 kJ (kK + 2)).bind fun s40=>(ai n38 n39 s40 jL jt H30).bind fun r41=>((r41.1).asI .i64).bind fun n42=>(bif (n42 != 0) then (some ((.bool false),r41.2)) else (bj.l29 F ai fa kJ kK jL (IntKind.i64.wrap (jt + 1)) r41.2))) else (some ((.bool true),H30)))
termination_by structural n=>n
def bj.j1 (F:Nat) (ai:Int→Int→Sl→Int→Int→Hp→OA) (Ac:Nat) (Ad:Nat) (ns:Int) (H22:Hp):OA:=bj.l29 F ai F Ac Ad ns (IntKind.i64.wrap (ns + 1)) H22
def bj.l13 (F:Nat) (ai:Int→Int→Sl→Int→Int→Hp→OA) :Nat→Nat→Nat→Int→Int→Hp→OA
 | 0,_,_,_,_,_=>none
 | hE + 1,cT,fq,dN,eA,H9=>(Hp.ldI H9 .i64 cT fq).bind fun n43=>(bif (decide (eA < n43)) then ((Hp.ldI H9 .i64 cT fq).bind fun n44=>(Hp.ldI H9 .i64 cT (fq + 1)).bind fun n45=>(Hp.ldSl H9 cT (fq + 2)).bind fun s46=>(ai n44 n45 s46 eA dN H9).bind fun r47=>((r47.1).asI .i64).bind fun n48=>(bif (n48 != 0) then (some ((.bool false),r47.2)) else (bj.l13 F ai hE cT fq dN (IntKind.i64.wrap (eA + 1)) r47.2))) else (bj.j1 F ai cT fq dN H9))
termination_by structural n=>n
def bj.twX (F:Nat) (ai:Int→Int→Sl→Int→Int→Hp→OA) (aa:Nat) (ac:Nat) (ae:Int) (H:Hp):OA:=bj.l13 F ai F aa ac ae (IntKind.i64.wrap (ae + 1)) H
def bj.tw (F:Nat) (aa:Nat) (ac:Nat) (ae:Int) (H:Hp):OA:=bj.twX F (aC.tw F) aa ac ae H
def bj.code:Go.Code:=(Try.f143.body).getD .skip
def bj.lh13 (F:Nat) (ai:Int→Int→Sl→Int→Int→Hp→OA) (ks:List Nat) (n:Nat) (tm:Tm) (H:Hp):OA:=match ks,tm 0,tm 1,tm 5 with
 | [],(.ptr cT fq),(.int .i64 dN),(.int .i64 eA)=>bj.l13 F ai n cT fq dN eA H
 | _,_,_,_=>none
theorem bj.lh13_inv {F:Nat} {ai:Int→Int→Sl→Int→Int→Hp→OA} {ks:List Nat} {n:Nat} {tm:Tm} {H:Hp} {r:AV×Hp} (h:bj.lh13 F ai ks n tm H = some r):∃ cT:Nat,∃ fq:Nat,∃ dN:Int,∃ eA:Int,ks = []∧tm 0 = (.ptr cT fq)∧tm 1 = (.int .i64 dN)∧tm 5 = (.int .i64 eA)∧bj.l13 F ai n cT fq dN eA H = some r:=by
 unfold bj.lh13 at h
 split at h
 ·exact ⟨_,_,_,_,rfl,by assumption,by assumption,by assumption,h⟩
 ·cases h
def bj.lh29 (F:Nat) (ai:Int→Int→Sl→Int→Int→Hp→OA) (ks:List Nat) (n:Nat) (tm:Tm) (H:Hp):OA:=match ks,tm 0,tm 1,tm 6 with
 | [],(.ptr kJ kK),(.int .i64 jL),(.int .i64 jt)=>bj.l29 F ai n kJ kK jL jt H
 | _,_,_,_=>none
theorem bj.lh29_inv {F:Nat} {ai:Int→Int→Sl→Int→Int→Hp→OA} {ks:List Nat} {n:Nat} {tm:Tm} {H:Hp} {r:AV×Hp} (h:bj.lh29 F ai ks n tm H = some r):∃ kJ:Nat,∃ kK:Nat,∃ jL:Int,∃ jt:Int,ks = []∧tm 0 = (.ptr kJ kK)∧tm 1 = (.int .i64 jL)∧tm 6 = (.int .i64 jt)∧bj.l29 F ai n kJ kK jL jt H = some r:=by
 unfold bj.lh29 at h
 split at h
 ·exact ⟨_,_,_,_,rfl,by assumption,by assumption,by assumption,h⟩
 ·cases h
def bj.lh (F:Nat) (ai:Int→Int→Sl→Int→Int→Hp→OA) (p:Nat) (ks:List Nat) (n:Nat) (tm:Tm) (H:Hp):OA:=bif p.beq 29 then bj.lh29 F ai ks n tm H else (bif p.beq 13 then bj.lh13 F ai ks n tm H else (none))
def bj.pn:Nat→List Nat:=fun i=>(([]:List (Nat×List Nat)).lookup i).getD []
def bj.tb:Nat→List (List Nat):=fun i=>(([]:List (Nat×List (List Nat))).lookup i).getD []
def bj.mk (g:Nat→Nat→Int→Hp→OA) (args:List AV) (H:Hp):OA:=match args with
 | [(.ptr aa ac),(.int .i64 ae)]=>g aa ac ae H
 | _=>none
def bj.cs (F:Nat) (ai:Int→Int→Sl→Int→Int→Hp→OA):List (FuncId×(List AV→Hp→OA)):=[(79,aC.mk ai)]
theorem bj.loops (F:Nat) (ai:Int→Int→Sl→Int→Int→Hp→OA):LoopsOk tabs (mkOrc (bj.cs F ai)) bj.pn (bj.lh F ai) F [] 1 bj.code (fun tm H=>aresults tabs.ty H tm Try.f143.results.toList fun v=>some (v,H)) (fun _ _ _=>none) (fun tm H=>aresults tabs.ty H tm Try.f143.results.toList fun v=>some (v,H)):=by
 refine LoopsOk.seq ?_ ?_
 ·exact loops_none (by kernel_rfl)
 ·refine LoopsOk.seq ?_ ?_
  ·refine LoopsOk.seq ?_ ?_
   ·exact loops_none (by kernel_rfl)
   ·refine LoopsOk.block ?_
    refine LoopsOk.loop (fun tm H=>?_) (fun k13 tm H r h0=>?_) (fun k13=>?_)
    ·refine none_of fun r h0=>?_
     obtain ⟨cT,fq,dN,eA,hks,e0,e1,e5,h⟩:=bj.lh13_inv (show bj.lh13 F ai [] 0 tm H = some r from h0)
     cases h
    ·obtain ⟨cT,fq,dN,eA,hks,e0,e1,e5,h⟩:=bj.lh13_inv (show bj.lh13 F ai [] (k13 + 1) tm H = some r from h0)
     have q0:(Tm.put tm 0 (.ptr cT fq)) = tm:=by exact Tm.put_same e0
     have q1:(Tm.put (Tm.put tm 0 (.ptr cT fq)) 1 (.int .i64 dN)) = tm:=by rw [q0]; exact Tm.put_same e1
     have q2:(Tm.put (Tm.put (Tm.put tm 0 (.ptr cT fq)) 1 (.int .i64 dN)) 5 (.int .i64 eA)) = tm:=by rw [q1]; exact Tm.put_same e5
     rw [← q2]
     exact Eq.trans (by kernel_rfl) h
    ·exact loops_none (by kernel_rfl)
  ·refine LoopsOk.seq ?_ ?_
   ·refine LoopsOk.seq ?_ ?_
    ·exact loops_none (by kernel_rfl)
    ·refine LoopsOk.block ?_
     refine LoopsOk.loop (fun tm H=>?_) (fun k29 tm H r h0=>?_) (fun k29=>?_)
     ·refine none_of fun r h0=>?_
      obtain ⟨kJ,kK,jL,jt,hks,e0,e1,e6,h⟩:=bj.lh29_inv (show bj.lh29 F ai [] 0 tm H = some r from h0)
      cases h
     ·obtain ⟨kJ,kK,jL,jt,hks,e0,e1,e6,h⟩:=bj.lh29_inv (show bj.lh29 F ai [] (k29 + 1) tm H = some r from h0)
      have q0:(Tm.put tm 0 (.ptr kJ kK)) = tm:=by exact Tm.put_same e0
      have q1:(Tm.put (Tm.put tm 0 (.ptr kJ kK)) 1 (.int .i64 jL)) = tm:=by rw [q0]; exact Tm.put_same e1
      have q2:(Tm.put (Tm.put (Tm.put tm 0 (.ptr kJ kK)) 1 (.int .i64 jL)) 6 (.int .i64 jt)) = tm:=by rw [q1]; exact Tm.put_same e6
      rw [← q2]
      exact Eq.trans (by kernel_rfl) h
     ·exact loops_none (by kernel_rfl)
   ·exact loops_none (by kernel_rfl)
theorem bj.eqX (F:Nat) (ai:Int→Int→Sl→Int→Int→Hp→OA) (aa:Nat) (ac:Nat) (ae:Int) (H:Hp):aCode tabs (mkOrc (bj.cs F ai)) bj.pn (bj.lh F ai) F [] 1 bj.code (argTm [(.ptr aa ac),(.int .i64 ae)]) H (fun tm H=>aresults tabs.ty H tm Try.f143.results.toList fun v=>some (v,H)) (fun _ _ _=>none) (fun tm H=>aresults tabs.ty H tm Try.f143.results.toList fun v=>some (v,H)) = bj.twX F ai aa ac ae H:=by kernel_rfl
theorem bj.cs_ok (F:Nat):∀ p ∈ bj.cs F (aC.tw F),∀ args H v H',p.2 args H = some (v,H')→Go.AE.T Try.prog p.1 args H v H':=by
 intro p hp
 simp only [bj.cs,List.mem_cons,List.not_mem_nil,or_false] at hp
 subst hp
 exact fun args H v H' h=>aC.mk_T h
theorem bj.ok:codeOk bj.pn Try.f143.ntmps bj.tb bj.code = true:=by kernel_rfl
theorem bj.T {F:Nat} {aa:Nat} {ac:Nat} {ae:Int} {H:Hp} {v:AV} {H':Hp} (h:bj.tw F aa ac ae H = some (v,H')):Go.AE.T Try.prog 143 [(.ptr aa ac),(.int .i64 ae)] H v H':=
 Go.AE.T.of (Y:=tabs) (C:=mkOrc (bj.cs F (aC.tw F))) (PN:=bj.pn) (LH:=bj.lh F (aC.tw F)) (F:=F) (TB:=bj.tb) (fn:=Try.f143) (code:=bj.code) mixed tabs_ok (mkOrc_ok (bj.cs_ok F)) Try.func143 (by kernel_rfl) (by kernel_rfl) bj.ok (Nat.le_of_ble_eq_true (by kernel_rfl)) (bj.loops F (aC.tw F)) (Eq.trans (bj.eqX F (aC.tw F) aa ac ae H) h)
theorem bj.mk_T {F:Nat} {args:List AV} {H:Hp} {v:AV} {H':Hp} (h:bj.mk (bj.tw F) args H = some (v,H')):Go.AE.T Try.prog 143 args H v H':=by
 unfold bj.mk at h
 split at h
 ·exact bj.T h
 ·cases h
def aU.j3 (F:Nat) (ai:Int→Int→Sl→Int→Int→Hp→OA) (C13_:Nat→Nat→Int→Int→Hp→OA) (Ae:Nat) (Af:Nat) (oQ:Int) (oR:Int) (H96:Hp):OA:=C13_ Ae Af oQ (IntKind.i64.wrap (oR + 1)) H96
def aU.j4 (F:Nat) (ai:Int→Int→Sl→Int→Int→Hp→OA) (C13_:Nat→Nat→Int→Int→Hp→OA) (Ag:Nat) (Ah:Nat) (oS:Int) (nt:Int) (H87:Hp):OA:=aU.j3 F ai C13_ Ag Ah oS nt H87
def aU.l213 (F:Nat) (ai:Int→Int→Sl→Int→Int→Hp→OA) (C13_:Nat→Nat→Int→Int→Hp→OA):Nat→Nat→Nat→Int→Int→Int→Hp→OA
 | 0,_,_,_,_,_,_=>none
 | Ai + 1,ju,jv,ia,ip,jw,H67=>(Hp.ldI H67 .i64 ju (jv + 1)).bind fun n97=>(bif (decide (jw < n97)) then ((Hp.ldI H67 .i64 ju jv).bind fun n98=>(Hp.ldI H67 .i64 ju (jv + 1)).bind fun n99=>(Hp.ldSl H67 ju (jv + 2)).bind fun s100=>(ai n98 n99 s100 ip jw H67).bind fun r101=>((r101.1).asI .i64).bind fun n102=>(if Cons H67 r101.2 then ((Hp.ldI r101.2 .i64 ju jv).bind fun n103=>(Hp.ldI r101.2 .i64 ju (jv + 1)).bind fun n104=>(Hp.ldSl r101.2 ju (jv + 2)).bind fun s105=>(ai n103 n104 s105 ia ia r101.2).bind fun r106=>((r106.1).asI .i64).bind fun n107=>(if n107 = 0 then none else ((bif ((Int.tmod n102 n107) != 0) then (some ((.int .i64 ip),r106.2)) else (aU.l213 F ai C13_ Ai ju jv ia ip (IntKind.i64.wrap (jw + 1)) r106.2))))) else none)) else (aU.j4 F ai C13_ ju jv ia ip H67))
termination_by structural n=>n
def aU.l13 (F:Nat) (ai:Int→Int→Sl→Int→Int→Hp→OA) :Nat→Nat→Nat→Int→Int→Hp→OA
 | 0,_,_,_,_,_=>none
 | hE + 1,cT,fq,dN,eA,H9=>(Hp.ldI H9 .i64 cT fq).bind fun n59=>(bif (decide (eA < n59)) then (aU.l213 F ai (aU.l13 F ai hE) F cT fq dN eA (IntKind.i64.wrap (dN + 1)) H9) else (some ((.int .i64 (-1)),H9)))
termination_by structural n=>n
def aU.twX (F:Nat) (ai:Int→Int→Sl→Int→Int→Hp→OA) (aa:Nat) (ac:Nat) (ae:Int) (H:Hp):OA:=aU.l13 F ai F aa ac ae (IntKind.i64.wrap (ae + 1)) H
def aU.tw (F:Nat) (aa:Nat) (ac:Nat) (ae:Int) (H:Hp):OA:=aU.twX F (aC.tw F) aa ac ae H
def aU.code:Go.Code:=(Try.f144.body).getD .skip
def aU.lh13 (F:Nat) (ai:Int→Int→Sl→Int→Int→Hp→OA) (ks:List Nat) (n:Nat) (tm:Tm) (H:Hp):OA:=match ks,tm 0,tm 1,tm 5 with
 | [],(.ptr cT fq),(.int .i64 dN),(.int .i64 eA)=>aU.l13 F ai n cT fq dN eA H
 | _,_,_,_=>none
theorem aU.lh13_inv {F:Nat} {ai:Int→Int→Sl→Int→Int→Hp→OA} {ks:List Nat} {n:Nat} {tm:Tm} {H:Hp} {r:AV×Hp} (h:aU.lh13 F ai ks n tm H = some r):∃ cT:Nat,∃ fq:Nat,∃ dN:Int,∃ eA:Int,ks = []∧tm 0 = (.ptr cT fq)∧tm 1 = (.int .i64 dN)∧tm 5 = (.int .i64 eA)∧aU.l13 F ai n cT fq dN eA H = some r:=by
 unfold aU.lh13 at h
 split at h
 ·exact ⟨_,_,_,_,rfl,by assumption,by assumption,by assumption,h⟩
 ·cases h
def aU.lh213 (F:Nat) (ai:Int→Int→Sl→Int→Int→Hp→OA) (ks:List Nat) (n:Nat) (tm:Tm) (H:Hp):OA:=match ks,tm 0,tm 1,tm 5,tm 6 with
 | [hE],(.ptr ju jv),(.int .i64 ia),(.int .i64 ip),(.int .i64 jw)=>aU.l213 F ai (aU.l13 F ai hE) n ju jv ia ip jw H
 | _,_,_,_,_=>none
theorem aU.lh213_inv {F:Nat} {ai:Int→Int→Sl→Int→Int→Hp→OA} {ks:List Nat} {n:Nat} {tm:Tm} {H:Hp} {r:AV×Hp} (h:aU.lh213 F ai ks n tm H = some r):∃ hE:Nat,∃ ju:Nat,∃ jv:Nat,∃ ia:Int,∃ ip:Int,∃ jw:Int,ks = [hE]∧tm 0 = (.ptr ju jv)∧tm 1 = (.int .i64 ia)∧tm 5 = (.int .i64 ip)∧tm 6 = (.int .i64 jw)∧aU.l213 F ai (aU.l13 F ai hE) n ju jv ia ip jw H = some r:=by
 unfold aU.lh213 at h
 split at h
 ·exact ⟨_,_,_,_,_,_,rfl,by assumption,by assumption,by assumption,by assumption,h⟩
 ·cases h
def aU.lh (F:Nat) (ai:Int→Int→Sl→Int→Int→Hp→OA) (p:Nat) (ks:List Nat) (n:Nat) (tm:Tm) (H:Hp):OA:=bif p.beq 213 then aU.lh213 F ai ks n tm H else (bif p.beq 13 then aU.lh13 F ai ks n tm H else (none))
def aU.pn:Nat→List Nat:=fun i=>(([(7,[13])]:List (Nat×List Nat)).lookup i).getD []
def aU.tb:Nat→List (List Nat):=fun i=>(([(7,[[],[0],[0,1],[0,1,2],[],[],[0,1,2,3,4,5],[],[7],[7,8],[7,8,9],[],[],[0,1,2,3,4,5,6,7,8,9,10,11,12],[0,1,2,3,4,5,6,7,8,9,10,11,12,13],[0,1,2,3,4,5,6,7,8,9,10,11,12,13,14]])]:List (Nat×List (List Nat))).lookup i).getD []
def aU.mk (g:Nat→Nat→Int→Hp→OA) (args:List AV) (H:Hp):OA:=match args with
 | [(.ptr aa ac),(.int .i64 ae)]=>g aa ac ae H
 | _=>none
def aU.cs (F:Nat) (ai:Int→Int→Sl→Int→Int→Hp→OA):List (FuncId×(List AV→Hp→OA)):=[(79,aC.mk ai)]
theorem aU.loops (F:Nat) (ai:Int→Int→Sl→Int→Int→Hp→OA):LoopsOk tabs (mkOrc (aU.cs F ai)) aU.pn (aU.lh F ai) F [] 1 aU.code (fun tm H=>aresults tabs.ty H tm Try.f144.results.toList fun v=>some (v,H)) (fun _ _ _=>none) (fun tm H=>aresults tabs.ty H tm Try.f144.results.toList fun v=>some (v,H)):=by
 refine LoopsOk.seq ?_ ?_
 ·exact loops_none (by kernel_rfl)
 ·refine LoopsOk.seq ?_ ?_
  ·refine LoopsOk.seq ?_ ?_
   ·exact loops_none (by kernel_rfl)
   ·refine LoopsOk.block ?_
    refine LoopsOk.loop (fun tm H=>?_) (fun k13 tm H r h0=>?_) (fun k13=>?_)
    ·refine none_of fun r h0=>?_
     obtain ⟨cT,fq,dN,eA,hks,e0,e1,e5,h⟩:=aU.lh13_inv (show aU.lh13 F ai [] 0 tm H = some r from h0)
     cases h
    ·obtain ⟨cT,fq,dN,eA,hks,e0,e1,e5,h⟩:=aU.lh13_inv (show aU.lh13 F ai [] (k13 + 1) tm H = some r from h0)
     have q0:(Tm.put tm 0 (.ptr cT fq)) = tm:=by exact Tm.put_same e0
     have q1:(Tm.put (Tm.put tm 0 (.ptr cT fq)) 1 (.int .i64 dN)) = tm:=by rw [q0]; exact Tm.put_same e1
     have q2:(Tm.put (Tm.put (Tm.put tm 0 (.ptr cT fq)) 1 (.int .i64 dN)) 5 (.int .i64 eA)) = tm:=by rw [q1]; exact Tm.put_same e5
     rw [← q2]
     exact Eq.trans (by kernel_rfl) h
    ·refine LoopsOk.seq ?_ ?_
     ·exact loops_none (by kernel_rfl)
     ·refine LoopsOk.seq ?_ ?_
      ·refine LoopsOk.block ?_
       refine LoopsOk.seq ?_ ?_
       ·exact loops_none (by kernel_rfl)
       ·refine LoopsOk.block ?_
        refine LoopsOk.loop (fun tm H=>?_) (fun k213 tm H r h0=>?_) (fun k213=>?_)
        ·refine none_of fun r h0=>?_
         obtain ⟨hE,ju,jv,ia,ip,jw,hks,e0,e1,e5,e6,h⟩:=aU.lh213_inv (show aU.lh213 F ai [k13] 0 tm H = some r from h0)
         cases h
        ·obtain ⟨hE,ju,jv,ia,ip,jw,hks,e0,e1,e5,e6,h⟩:=aU.lh213_inv (show aU.lh213 F ai [k13] (k213 + 1) tm H = some r from h0)
         obtain rfl:hE = k13:=by simpa [eq_comm] using hks
         have q0:(Tm.put tm 0 (.ptr ju jv)) = tm:=by exact Tm.put_same e0
         have q1:(Tm.put (Tm.put tm 0 (.ptr ju jv)) 1 (.int .i64 ia)) = tm:=by rw [q0]; exact Tm.put_same e1
         have q2:(Tm.put (Tm.put (Tm.put tm 0 (.ptr ju jv)) 1 (.int .i64 ia)) 5 (.int .i64 ip)) = tm:=by rw [q1]; exact Tm.put_same e5
         have q3:(Tm.put (Tm.put (Tm.put (Tm.put tm 0 (.ptr ju jv)) 1 (.int .i64 ia)) 5 (.int .i64 ip)) 6 (.int .i64 jw)) = tm:=by rw [q2]; exact Tm.put_same e6
         rw [← q3]
         exact Eq.trans (by kernel_rfl) h
        ·exact loops_none (by kernel_rfl)
      ·exact loops_none (by kernel_rfl)
  ·exact loops_none (by kernel_rfl)
theorem aU.eqX (F:Nat) (ai:Int→Int→Sl→Int→Int→Hp→OA) (aa:Nat) (ac:Nat) (ae:Int) (H:Hp):aCode tabs (mkOrc (aU.cs F ai)) aU.pn (aU.lh F ai) F [] 1 aU.code (argTm [(.ptr aa ac),(.int .i64 ae)]) H (fun tm H=>aresults tabs.ty H tm Try.f144.results.toList fun v=>some (v,H)) (fun _ _ _=>none) (fun tm H=>aresults tabs.ty H tm Try.f144.results.toList fun v=>some (v,H)) = aU.twX F ai aa ac ae H:=by kernel_rfl
theorem aU.cs_ok (F:Nat):∀ p ∈ aU.cs F (aC.tw F),∀ args H v H',p.2 args H = some (v,H')→Go.AE.T Try.prog p.1 args H v H':=by
 intro p hp
 simp only [aU.cs,List.mem_cons,List.not_mem_nil,or_false] at hp
 subst hp
 exact fun args H v H' h=>aC.mk_T h
theorem aU.ok:codeOk aU.pn Try.f144.ntmps aU.tb aU.code = true:=by kernel_rfl
theorem aU.T {F:Nat} {aa:Nat} {ac:Nat} {ae:Int} {H:Hp} {v:AV} {H':Hp} (h:aU.tw F aa ac ae H = some (v,H')):Go.AE.T Try.prog 144 [(.ptr aa ac),(.int .i64 ae)] H v H':=
 Go.AE.T.of (Y:=tabs) (C:=mkOrc (aU.cs F (aC.tw F))) (PN:=aU.pn) (LH:=aU.lh F (aC.tw F)) (F:=F) (TB:=aU.tb) (fn:=Try.f144) (code:=aU.code) mixed tabs_ok (mkOrc_ok (aU.cs_ok F)) Try.func144 (by kernel_rfl) (by kernel_rfl) aU.ok (Nat.le_of_ble_eq_true (by kernel_rfl)) (aU.loops F (aC.tw F)) (Eq.trans (aU.eqX F (aC.tw F) aa ac ae H) h)
theorem aU.mk_T {F:Nat} {args:List AV} {H:Hp} {v:AV} {H':Hp} (h:aU.mk (aU.tw F) args H = some (v,H')):Go.AE.T Try.prog 144 args H v H':=by
 unfold aU.mk at h
 split at h
 ·exact aU.T h
 ·cases h
def aP.j1 (F:Nat) (fZ:Nat→Nat→Int→Hp→OA) (ai:Int→Int→Sl→Int→Int→Hp→OA) (fV:Int→Int→Hp→OA) (fW:Nat→Nat→Int→Int→Int→Hp→OA) (f_:Nat→Nat→Int→Int→Int→Hp→OA) (ga:Nat→Nat→Int→Hp→OA) (gb:Nat→Nat→Int→Hp→OA) (oT:Nat) (oU:Nat) (mv:Int) (H73:Hp):OA:=(Hp.ldB H73 oT (oU + 15)).bind fun b74=>(bif b74 then (some ((.tup [(.bool false),(.bool false)]),H73)) else ((ga oT oU mv H73).bind fun r75=>((r75.1).asB).bind fun b76=>(bif (!b76) then (some ((.tup [(.bool false),(.bool false)]),r75.2)) else ((gb oT oU mv r75.2).bind fun r77=>((r77.1).asI .i64).bind fun n78=>(bif (decide (n78 < 0)) then (some ((.tup [(.bool true),(.bool false)]),r77.2)) else ((fW oT oU mv n78 (-1) r77.2).bind fun r79=>some ((.tup [(.bool false),(.bool false)]),r79.2)))))))
def aP.l61 (F:Nat) (fZ:Nat→Nat→Int→Hp→OA) (ai:Int→Int→Sl→Int→Int→Hp→OA) (fV:Int→Int→Hp→OA) (fW:Nat→Nat→Int→Int→Int→Hp→OA) (f_:Nat→Nat→Int→Int→Int→Hp→OA) (ga:Nat→Nat→Int→Hp→OA) (gb:Nat→Nat→Int→Hp→OA) :Nat→Nat→Nat→Int→Int→Hp→OA
 | 0,_,_,_,_,_=>none
 | nT + 1,iS,iT,gG,iU,H47=>(Hp.ldI H47 .i64 iS (iT + 1)).bind fun n80=>(bif (decide (iU < n80)) then ((Hp.ldB H47 iS (iT + 15)).bind fun b81=>(bif (!b81) then ((Hp.ldI H47 .i64 iS iT).bind fun n82=>(Hp.ldI H47 .i64 iS (iT + 1)).bind fun n83=>(Hp.ldSl H47 iS (iT + 2)).bind fun s84=>(ai n82 n83 s84 gG iU H47).bind fun r85=>((r85.1).asI .i64).bind fun n86=>(if Cons H47 r85.2 then ((Hp.ldI r85.2 .i64 iS iT).bind fun n87=>(Hp.ldI r85.2 .i64 iS (iT + 1)).bind fun n88=>(Hp.ldSl r85.2 iS (iT + 2)).bind fun s89=>(ai n87 n88 s89 gG gG r85.2).bind fun r90=>((r90.1).asI .i64).bind fun n91=>(fV n86 n91 r90.2).bind fun r92=>((r92.1).asI .i64).bind fun n93=>(f_ iS iT iU gG n93 r92.2).bind fun r94=>aP.l61 F fZ ai fV fW f_ ga gb nT iS iT gG (IntKind.i64.wrap (iU + 1)) r94.2) else none)) else (aP.j1 F fZ ai fV fW f_ ga gb iS iT gG H47))) else (aP.j1 F fZ ai fV fW f_ ga gb iS iT gG H47))
termination_by structural n=>n
def aP.j2 (F:Nat) (fZ:Nat→Nat→Int→Hp→OA) (ai:Int→Int→Sl→Int→Int→Hp→OA) (fV:Int→Int→Hp→OA) (fW:Nat→Nat→Int→Int→Int→Hp→OA) (f_:Nat→Nat→Int→Int→Int→Hp→OA) (ga:Nat→Nat→Int→Hp→OA) (gb:Nat→Nat→Int→Hp→OA) (uz:Nat) (Aj:Nat) (nu:Int) (H37:Hp):OA:=aP.l61 F fZ ai fV fW f_ ga gb F uz Aj nu (IntKind.i64.wrap (nu + 1)) H37
def aP.l29 (F:Nat) (fZ:Nat→Nat→Int→Hp→OA) (ai:Int→Int→Sl→Int→Int→Hp→OA) (fV:Int→Int→Hp→OA) (fW:Nat→Nat→Int→Int→Int→Hp→OA) (f_:Nat→Nat→Int→Int→Int→Hp→OA) (ga:Nat→Nat→Int→Hp→OA) (gb:Nat→Nat→Int→Hp→OA) :Nat→Nat→Nat→Int→Int→Hp→OA
 | 0,_,_,_,_,_=>none
 | fa + 1,gf,iV,gH,iW,H13=>(Hp.ldI H13 .i64 gf iV).bind fun n95=>(bif (decide (iW < n95)) then ((Hp.ldB H13 gf (iV + 15)).bind fun b96=>(bif (!b96) then ((Hp.ldI H13 .i64 gf iV).bind fun n97=>(Hp.ldI H13 .i64 gf (iV + 1)).bind fun n98=>(Hp.ldSl H13 gf (iV + 2)).bind fun s99=>(ai n97 n98 s99 iW gH H13).bind fun r100=>((r100.1).asI .i64).bind fun n101=>(if Cons H13 r100.2 then ((Hp.ldI r100.2 .i64 gf iV).bind fun n102=>(Hp.ldI r100.2 .i64 gf (iV + 1)).bind fun n103=>(Hp.ldSl r100.2 gf (iV + 2)).bind fun s104=>(ai n102 n103 s104 gH gH r100.2).bind fun r105=>((r105.1).asI .i64).bind fun n106=>(fV n101 n106 r105.2).bind fun r107=>((r107.1).asI .i64).bind fun n108=>(fW gf iV iW gH n108 r107.2).bind fun r109=>aP.l29 F fZ ai fV fW f_ ga gb fa gf iV gH (IntKind.i64.wrap (iW + 1)) r109.2) else none)) else (aP.j2 F fZ ai fV fW f_ ga gb gf iV gH H13))) else (aP.j2 F fZ ai fV fW f_ ga gb gf iV gH H13))
termination_by structural n=>n
def aP.twX (F:Nat) (fZ:Nat→Nat→Int→Hp→OA) (ai:Int→Int→Sl→Int→Int→Hp→OA) (fV:Int→Int→Hp→OA) (fW:Nat→Nat→Int→Int→Int→Hp→OA) (f_:Nat→Nat→Int→Int→Int→Hp→OA) (ga:Nat→Nat→Int→Hp→OA) (gb:Nat→Nat→Int→Hp→OA) (aa:Nat) (ac:Nat) (ae:Int) (H:Hp):OA:=(fZ aa ac ae H).bind fun r4=>((r4.1).asB).bind fun b5=>(bif (!b5) then (some ((.tup [(.bool true),(.bool true)]),r4.2)) else (aP.l29 F fZ ai fV fW f_ ga gb F aa ac ae (IntKind.i64.wrap (ae + 1)) r4.2))
def aP.tw (F:Nat) (aa:Nat) (ac:Nat) (ae:Int) (H:Hp):OA:=aP.twX F (ar.tw F) (aC.tw F) (dD.tw F) (dA.tw F) (dE.tw F) (bj.tw F) (aU.tw F) aa ac ae H
def aP.code:Go.Code:=(Try.f116.body).getD .skip
def aP.lh29 (F:Nat) (fZ:Nat→Nat→Int→Hp→OA) (ai:Int→Int→Sl→Int→Int→Hp→OA) (fV:Int→Int→Hp→OA) (fW:Nat→Nat→Int→Int→Int→Hp→OA) (f_:Nat→Nat→Int→Int→Int→Hp→OA) (ga:Nat→Nat→Int→Hp→OA) (gb:Nat→Nat→Int→Hp→OA) (ks:List Nat) (n:Nat) (tm:Tm) (H:Hp):OA:=match ks,tm 0,tm 1,tm 6 with
 | [],(.ptr gf iV),(.int .i64 gH),(.int .i64 iW)=>aP.l29 F fZ ai fV fW f_ ga gb n gf iV gH iW H
 | _,_,_,_=>none
theorem aP.lh29_inv {F:Nat} {fZ:Nat→Nat→Int→Hp→OA} {ai:Int→Int→Sl→Int→Int→Hp→OA} {fV:Int→Int→Hp→OA} {fW:Nat→Nat→Int→Int→Int→Hp→OA} {f_:Nat→Nat→Int→Int→Int→Hp→OA} {ga:Nat→Nat→Int→Hp→OA} {gb:Nat→Nat→Int→Hp→OA} {ks:List Nat} {n:Nat} {tm:Tm} {H:Hp} {r:AV×Hp} (h:aP.lh29 F fZ ai fV fW f_ ga gb ks n tm H = some r):∃ gf:Nat,∃ iV:Nat,∃ gH:Int,∃ iW:Int,ks = []∧tm 0 = (.ptr gf iV)∧tm 1 = (.int .i64 gH)∧tm 6 = (.int .i64 iW)∧aP.l29 F fZ ai fV fW f_ ga gb n gf iV gH iW H = some r:=by
 unfold aP.lh29 at h
 split at h
 ·exact ⟨_,_,_,_,rfl,by assumption,by assumption,by assumption,h⟩
 ·cases h
def aP.lh61 (F:Nat) (fZ:Nat→Nat→Int→Hp→OA) (ai:Int→Int→Sl→Int→Int→Hp→OA) (fV:Int→Int→Hp→OA) (fW:Nat→Nat→Int→Int→Int→Hp→OA) (f_:Nat→Nat→Int→Int→Int→Hp→OA) (ga:Nat→Nat→Int→Hp→OA) (gb:Nat→Nat→Int→Hp→OA) (ks:List Nat) (n:Nat) (tm:Tm) (H:Hp):OA:=match ks,tm 0,tm 1,tm 7 with
 | [],(.ptr iS iT),(.int .i64 gG),(.int .i64 iU)=>aP.l61 F fZ ai fV fW f_ ga gb n iS iT gG iU H
 | _,_,_,_=>none
theorem aP.lh61_inv {F:Nat} {fZ:Nat→Nat→Int→Hp→OA} {ai:Int→Int→Sl→Int→Int→Hp→OA} {fV:Int→Int→Hp→OA} {fW:Nat→Nat→Int→Int→Int→Hp→OA} {f_:Nat→Nat→Int→Int→Int→Hp→OA} {ga:Nat→Nat→Int→Hp→OA} {gb:Nat→Nat→Int→Hp→OA} {ks:List Nat} {n:Nat} {tm:Tm} {H:Hp} {r:AV×Hp} (h:aP.lh61 F fZ ai fV fW f_ ga gb ks n tm H = some r):∃ iS:Nat,∃ iT:Nat,∃ gG:Int,∃ iU:Int,ks = []∧tm 0 = (.ptr iS iT)∧tm 1 = (.int .i64 gG)∧tm 7 = (.int .i64 iU)∧aP.l61 F fZ ai fV fW f_ ga gb n iS iT gG iU H = some r:=by
 unfold aP.lh61 at h
 split at h
 ·exact ⟨_,_,_,_,rfl,by assumption,by assumption,by assumption,h⟩
 ·cases h
def aP.lh (F:Nat) (fZ:Nat→Nat→Int→Hp→OA) (ai:Int→Int→Sl→Int→Int→Hp→OA) (fV:Int→Int→Hp→OA) (fW:Nat→Nat→Int→Int→Int→Hp→OA) (f_:Nat→Nat→Int→Int→Int→Hp→OA) (ga:Nat→Nat→Int→Hp→OA) (gb:Nat→Nat→Int→Hp→OA) (p:Nat) (ks:List Nat) (n:Nat) (tm:Tm) (H:Hp):OA:=bif p.beq 61 then aP.lh61 F fZ ai fV fW f_ ga gb ks n tm H else (bif p.beq 29 then aP.lh29 F fZ ai fV fW f_ ga gb ks n tm H else (none))
def aP.pn:Nat→List Nat:=fun i=>(([(6,[16,17,18]),(10,[16,17,18])]:List (Nat×List Nat)).lookup i).getD []
def aP.tb:Nat→List (List Nat):=fun i=>(([(6,[[],[],[],[],[3],[3,4],[3,4,5],[],[],[3,4,5,6,7,8],[],[10],[10,11],[10,11,12],[],[],[3,4,5,6,7,8,9,10,11,12,13,14,15],[3,4,5,6,7,8,9,10,11,12,13,14,15,16],[0,1,2,3,4,5,6,7,8,9,10,11,12,13,14,15,16,17]]),(10,[[],[],[],[],[3],[3,4],[3,4,5],[],[],[3,4,5,6,7,8],[],[10],[10,11],[10,11,12],[],[],[3,4,5,6,7,8,9,10,11,12,13,14,15],[3,4,5,6,7,8,9,10,11,12,13,14,15,16],[0,1,2,3,4,5,6,7,8,9,10,11,12,13,14,15,16,17]])]:List (Nat×List (List Nat))).lookup i).getD []
def aP.mk (g:Nat→Nat→Int→Hp→OA) (args:List AV) (H:Hp):OA:=match args with
 | [(.ptr aa ac),(.int .i64 ae)]=>g aa ac ae H
 | _=>none
def aP.cs (F:Nat) (fZ:Nat→Nat→Int→Hp→OA) (ai:Int→Int→Sl→Int→Int→Hp→OA) (fV:Int→Int→Hp→OA) (fW:Nat→Nat→Int→Int→Int→Hp→OA) (f_:Nat→Nat→Int→Int→Int→Hp→OA) (ga:Nat→Nat→Int→Hp→OA) (gb:Nat→Nat→Int→Hp→OA):List (FuncId×(List AV→Hp→OA)):=[(139,ar.mk fZ),(79,aC.mk ai),(141,dD.mk fV),(140,dA.mk fW),(142,dE.mk f_),(143,bj.mk ga),(144,aU.mk gb)]
theorem aP.loops (F:Nat) (fZ:Nat→Nat→Int→Hp→OA) (ai:Int→Int→Sl→Int→Int→Hp→OA) (fV:Int→Int→Hp→OA) (fW:Nat→Nat→Int→Int→Int→Hp→OA) (f_:Nat→Nat→Int→Int→Int→Hp→OA) (ga:Nat→Nat→Int→Hp→OA) (gb:Nat→Nat→Int→Hp→OA):LoopsOk tabs (mkOrc (aP.cs F fZ ai fV fW f_ ga gb)) aP.pn (aP.lh F fZ ai fV fW f_ ga gb) F [] 1 aP.code (fun tm H=>aresults tabs.ty H tm Try.f116.results.toList fun v=>some (v,H)) (fun _ _ _=>none) (fun tm H=>aresults tabs.ty H tm Try.f116.results.toList fun v=>some (v,H)):=by
 refine LoopsOk.seq ?_ ?_
 ·exact loops_none (by kernel_rfl)
 ·refine LoopsOk.seq ?_ ?_
  ·exact loops_none (by kernel_rfl)
  ·refine LoopsOk.seq ?_ ?_
   ·refine LoopsOk.seq ?_ ?_
    ·exact loops_none (by kernel_rfl)
    ·refine LoopsOk.block ?_
     refine LoopsOk.loop (fun tm H=>?_) (fun k29 tm H r h0=>?_) (fun k29=>?_)
     ·refine none_of fun r h0=>?_
      obtain ⟨gf,iV,gH,iW,hks,e0,e1,e6,h⟩:=aP.lh29_inv (show aP.lh29 F fZ ai fV fW f_ ga gb [] 0 tm H = some r from h0)
      cases h
     ·obtain ⟨gf,iV,gH,iW,hks,e0,e1,e6,h⟩:=aP.lh29_inv (show aP.lh29 F fZ ai fV fW f_ ga gb [] (k29 + 1) tm H = some r from h0)
      have q0:(Tm.put tm 0 (.ptr gf iV)) = tm:=by exact Tm.put_same e0
      have q1:(Tm.put (Tm.put tm 0 (.ptr gf iV)) 1 (.int .i64 gH)) = tm:=by rw [q0]; exact Tm.put_same e1
      have q2:(Tm.put (Tm.put (Tm.put tm 0 (.ptr gf iV)) 1 (.int .i64 gH)) 6 (.int .i64 iW)) = tm:=by rw [q1]; exact Tm.put_same e6
      rw [← q2]
      exact Eq.trans (by kernel_rfl) h
     ·exact loops_none (by kernel_rfl)
   ·refine LoopsOk.seq ?_ ?_
    ·refine LoopsOk.seq ?_ ?_
     ·exact loops_none (by kernel_rfl)
     ·refine LoopsOk.block ?_
      refine LoopsOk.loop (fun tm H=>?_) (fun k61 tm H r h0=>?_) (fun k61=>?_)
      ·refine none_of fun r h0=>?_
       obtain ⟨iS,iT,gG,iU,hks,e0,e1,e7,h⟩:=aP.lh61_inv (show aP.lh61 F fZ ai fV fW f_ ga gb [] 0 tm H = some r from h0)
       cases h
      ·obtain ⟨iS,iT,gG,iU,hks,e0,e1,e7,h⟩:=aP.lh61_inv (show aP.lh61 F fZ ai fV fW f_ ga gb [] (k61 + 1) tm H = some r from h0)
       have q0:(Tm.put tm 0 (.ptr iS iT)) = tm:=by exact Tm.put_same e0
       have q1:(Tm.put (Tm.put tm 0 (.ptr iS iT)) 1 (.int .i64 gG)) = tm:=by rw [q0]; exact Tm.put_same e1
       have q2:(Tm.put (Tm.put (Tm.put tm 0 (.ptr iS iT)) 1 (.int .i64 gG)) 7 (.int .i64 iU)) = tm:=by rw [q1]; exact Tm.put_same e7
       rw [← q2]
       exact Eq.trans (by kernel_rfl) h
      ·exact loops_none (by kernel_rfl)
    ·exact loops_none (by kernel_rfl)
theorem aP.eqX (F:Nat) (fZ:Nat→Nat→Int→Hp→OA) (ai:Int→Int→Sl→Int→Int→Hp→OA) (fV:Int→Int→Hp→OA) (fW:Nat→Nat→Int→Int→Int→Hp→OA) (f_:Nat→Nat→Int→Int→Int→Hp→OA) (ga:Nat→Nat→Int→Hp→OA) (gb:Nat→Nat→Int→Hp→OA) (aa:Nat) (ac:Nat) (ae:Int) (H:Hp):aCode tabs (mkOrc (aP.cs F fZ ai fV fW f_ ga gb)) aP.pn (aP.lh F fZ ai fV fW f_ ga gb) F [] 1 aP.code (argTm [(.ptr aa ac),(.int .i64 ae)]) H (fun tm H=>aresults tabs.ty H tm Try.f116.results.toList fun v=>some (v,H)) (fun _ _ _=>none) (fun tm H=>aresults tabs.ty H tm Try.f116.results.toList fun v=>some (v,H)) = aP.twX F fZ ai fV fW f_ ga gb aa ac ae H:=by kernel_rfl
theorem aP.cs_ok (F:Nat):∀ p ∈ aP.cs F (ar.tw F) (aC.tw F) (dD.tw F) (dA.tw F) (dE.tw F) (bj.tw F) (aU.tw F),∀ args H v H',p.2 args H = some (v,H')→Go.AE.T Try.prog p.1 args H v H':=by
 intro p hp
 simp only [aP.cs,List.mem_cons,List.not_mem_nil,or_false] at hp
 rcases hp with rfl | rfl | rfl | rfl | rfl | rfl | rfl
 ·exact fun args H v H' h=>ar.mk_T h
 ·exact fun args H v H' h=>aC.mk_T h
 ·exact fun args H v H' h=>dD.mk_T h
 ·exact fun args H v H' h=>dA.mk_T h
 ·exact fun args H v H' h=>dE.mk_T h
 ·exact fun args H v H' h=>bj.mk_T h
 ·exact fun args H v H' h=>aU.mk_T h
theorem aP.ok:codeOk aP.pn Try.f116.ntmps aP.tb aP.code = true:=by kernel_rfl
theorem aP.T {F:Nat} {aa:Nat} {ac:Nat} {ae:Int} {H:Hp} {v:AV} {H':Hp} (h:aP.tw F aa ac ae H = some (v,H')):Go.AE.T Try.prog 116 [(.ptr aa ac),(.int .i64 ae)] H v H':=
 Go.AE.T.of (Y:=tabs) (C:=mkOrc (aP.cs F (ar.tw F) (aC.tw F) (dD.tw F) (dA.tw F) (dE.tw F) (bj.tw F) (aU.tw F))) (PN:=aP.pn) (LH:=aP.lh F (ar.tw F) (aC.tw F) (dD.tw F) (dA.tw F) (dE.tw F) (bj.tw F) (aU.tw F)) (F:=F) (TB:=aP.tb) (fn:=Try.f116) (code:=aP.code) mixed tabs_ok (mkOrc_ok (aP.cs_ok F)) Try.func116 (by kernel_rfl) (by kernel_rfl) aP.ok (Nat.le_of_ble_eq_true (by kernel_rfl)) (aP.loops F (ar.tw F) (aC.tw F) (dD.tw F) (dA.tw F) (dE.tw F) (bj.tw F) (aU.tw F)) (Eq.trans (aP.eqX F (ar.tw F) (aC.tw F) (dD.tw F) (dA.tw F) (dE.tw F) (bj.tw F) (aU.tw F) aa ac ae H) h)
theorem aP.mk_T {F:Nat} {args:List AV} {H:Hp} {v:AV} {H':Hp} (h:aP.mk (aP.tw F) args H = some (v,H')):Go.AE.T Try.prog 116 args H v H':=by
 unfold aP.mk at h
 split at h
 ·exact aP.T h
 ·cases h
def aQ.j3 (F:Nat) (fA:Int→Hp→OA) (fX:Nat→Nat→Int→Hp→OA) (C29_:Nat→Nat→Nat→Nat→Int→Hp→OA) (ro:Nat) (Ak:Nat) (rp:Nat) (Al:Nat) (oV:Int) (H161:Hp):OA:=C29_ ro Ak rp Al (IntKind.i64.wrap (oV + 1)) H161
def aQ.j4 (F:Nat) (fA:Int→Hp→OA) (fX:Nat→Nat→Int→Hp→OA) (C29_:Nat→Nat→Nat→Nat→Int→Hp→OA) (rq:Nat) (Am:Nat) (nU:Nat) (rr:Nat) (nv:Int) (oW:Bool) (H146:Hp):OA:=(bif oW then (some ((.ptr nU rr),H146)) else ((Hp.ldB H146 nU (rr + 15)).bind fun b147=>(bif b147 then (some ((.ptr nU rr),H146)) else (aQ.j3 F fA fX C29_ rq Am nU rr nv H146))))
def aQ.l938 (F:Nat) (fA:Int→Hp→OA) (fX:Nat→Nat→Int→Hp→OA) (C29_:Nat→Nat→Nat→Nat→Int→Hp→OA):Nat→Nat→Nat→Nat→Nat→Int→Bool→Bool→Hp→OA
 | 0,_,_,_,_,_,_,_,_=>none
 | An + 1,jk,kz,jl,kA,ib,ko,kg,H126=>(bif (!ko) then ((Hp.ldB H126 jl (kA + 15)).bind fun b162=>(bif (!b162) then ((fX jl kA ib H126).bind fun r163=>((r163.1).asTup 2).bind fun l164=>(l164[0]?).bind fun v165=>((v165).asB).bind fun b166=>(l164[1]?).bind fun v167=>((v167).asB).bind fun b168=>aQ.l938 F fA fX C29_ An jk kz jl kA ib b166 b168 r163.2) else (aQ.j4 F fA fX C29_ jk kz jl kA ib kg H126))) else (aQ.j4 F fA fX C29_ jk kz jl kA ib kg H126))
termination_by structural n=>n
def aQ.l29 (F:Nat) (fA:Int→Hp→OA) (fX:Nat→Nat→Int→Hp→OA) :Nat→Nat→Nat→Nat→Nat→Int→Hp→OA
 | 0,_,_,_,_,_,_=>none
 | fa + 1,jM,kQ,kB,lA,kh,H56=>(Hp.ldI H56 .i64 jM kQ).bind fun n113=>(Hp.ldI H56 .i64 jM (kQ + 1)).bind fun n114=>(bif (decide (kh < (if n114 < n113 then n114 else n113))) then (aQ.l938 F fA fX (aQ.l29 F fA fX fa) F jM kQ kB lA kh false false H56) else (some ((.ptr kB lA),H56)))
termination_by structural n=>n
def aQ.twX (F:Nat) (fA:Int→Hp→OA) (fX:Nat→Nat→Int→Hp→OA) (aa:Int) (ac:Int) (aj:Sl) (H:Hp):OA:=(Hp.new H [(.int .i64 aa),(.int .i64 ac),(.sl aj)]).bind fun H4=>(Hp.ldI H4 .i64 H.length 0).bind fun n5=>(Hp.ldI H4 .i64 H.length 1).bind fun n6=>(Hp.new H4 []).bind fun H7=>(Hp.ldSl H7 H.length 2).bind fun s8=>(Sl.row H7 s8 1).bind fun xs10=>(Hp.app H7 1 8 (⟨some (H4.length,0),0,.ex 0⟩:Sl) s8.n xs10).bind fun a9=>(if Cons H7 a9.2 then ((Hp.ldI a9.2 .i64 H.length 0).bind fun n11=>(fA n11 a9.2).bind fun r12=>((r12.1).asAgg 3).bind fun l13=>(l13[0]?).bind fun v14=>((v14).asI .i64).bind fun n15=>(l13[1]?).bind fun v16=>((v16).asI .i64).bind fun n17=>(l13[2]?).bind fun v18=>((v18).asSl).bind fun s19=>(if Cons a9.2 r12.2 then ((Hp.ldI r12.2 .i64 H.length 0).bind fun n20=>(fA n20 r12.2).bind fun r21=>((r21.1).asAgg 3).bind fun l22=>(l22[0]?).bind fun v23=>((v23).asI .i64).bind fun n24=>(l22[1]?).bind fun v25=>((v25).asI .i64).bind fun n26=>(l22[2]?).bind fun v27=>((v27).asSl).bind fun s28=>(if Cons r12.2 r21.2 then ((Hp.ldI r21.2 .i64 H.length 1).bind fun n29=>(fA n29 r21.2).bind fun r30=>((r30.1).asAgg 3).bind fun l31=>(l31[0]?).bind fun v32=>((v32).asI .i64).bind fun n33=>(l31[1]?).bind fun v34=>((v34).asI .i64).bind fun n35=>(l31[2]?).bind fun v36=>((v36).asSl).bind fun s37=>(if Cons r21.2 r30.2 then ((Hp.ldI r30.2 .i64 H.length 1).bind fun n38=>(fA n38 r30.2).bind fun r39=>((r39.1).asAgg 3).bind fun l40=>(l40[0]?).bind fun v41=>((v41).asI .i64).bind fun n42=>(l40[1]?).bind fun v43=>((v43).asI .i64).bind fun n44=>(l40[2]?).bind fun v45=>((v45).asSl).bind fun s46=>(if Cons r30.2 r39.2 then ((Hp.new r39.2 [(.int .i64 n5),(.int .i64 n6),(.sl a9.1),(.int .i64 n15),(.int .i64 n17),(.sl s19),(.int .i64 n24),(.int .i64 n26),(.sl s28),(.int .i64 n33),(.int .i64 n35),(.sl s37),(.int .i64 n42),(.int .i64 n44),(.sl s46),(.bool false)]).bind fun H47=>aQ.l29 F fA fX F H.length 0 r39.2.length 0 0 H47) else none)) else none)) else none)) else none)) else none)
def aQ.tw (F:Nat) (aa:Int) (ac:Int) (aj:Sl) (H:Hp):OA:=aQ.twX F (bO.tw F) (aP.tw F) aa ac aj H
def aQ.code:Go.Code:=(Try.f75.body).getD .skip
def aQ.lh29 (F:Nat) (fA:Int→Hp→OA) (fX:Nat→Nat→Int→Hp→OA) (ks:List Nat) (n:Nat) (tm:Tm) (H:Hp):OA:=match ks,tm 1,tm 2,tm 3,tm 4 with
 | [],(.ptr jM kQ),.nilp,(.ptr kB lA),(.int .i64 kh)=>aQ.l29 F fA fX n jM kQ kB lA kh H
 | _,_,_,_,_=>none
theorem aQ.lh29_inv {F:Nat} {fA:Int→Hp→OA} {fX:Nat→Nat→Int→Hp→OA} {ks:List Nat} {n:Nat} {tm:Tm} {H:Hp} {r:AV×Hp} (h:aQ.lh29 F fA fX ks n tm H = some r):∃ jM:Nat,∃ kQ:Nat,∃ kB:Nat,∃ lA:Nat,∃ kh:Int,ks = []∧tm 1 = (.ptr jM kQ)∧tm 2 = .nilp∧tm 3 = (.ptr kB lA)∧tm 4 = (.int .i64 kh)∧aQ.l29 F fA fX n jM kQ kB lA kh H = some r:=by
 unfold aQ.lh29 at h
 split at h
 ·exact ⟨_,_,_,_,_,rfl,by assumption,by assumption,by assumption,by assumption,h⟩
 ·cases h
def aQ.lh938 (F:Nat) (fA:Int→Hp→OA) (fX:Nat→Nat→Int→Hp→OA) (ks:List Nat) (n:Nat) (tm:Tm) (H:Hp):OA:=match ks,tm 1,tm 2,tm 3,tm 4,tm 5,tm 6 with
 | [fa],(.ptr jk kz),.nilp,(.ptr jl kA),(.int .i64 ib),(.bool ko),(.bool kg)=>aQ.l938 F fA fX (aQ.l29 F fA fX fa) n jk kz jl kA ib ko kg H
 | _,_,_,_,_,_,_=>none
theorem aQ.lh938_inv {F:Nat} {fA:Int→Hp→OA} {fX:Nat→Nat→Int→Hp→OA} {ks:List Nat} {n:Nat} {tm:Tm} {H:Hp} {r:AV×Hp} (h:aQ.lh938 F fA fX ks n tm H = some r):∃ fa:Nat,∃ jk:Nat,∃ kz:Nat,∃ jl:Nat,∃ kA:Nat,∃ ib:Int,∃ ko:Bool,∃ kg:Bool,ks = [fa]∧tm 1 = (.ptr jk kz)∧tm 2 = .nilp∧tm 3 = (.ptr jl kA)∧tm 4 = (.int .i64 ib)∧tm 5 = (.bool ko)∧tm 6 = (.bool kg)∧aQ.l938 F fA fX (aQ.l29 F fA fX fa) n jk kz jl kA ib ko kg H = some r:=by
 unfold aQ.lh938 at h
 split at h
 ·exact ⟨_,_,_,_,_,_,_,_,rfl,by assumption,by assumption,by assumption,by assumption,by assumption,by assumption,h⟩
 ·cases h
def aQ.lh (F:Nat) (fA:Int→Hp→OA) (fX:Nat→Nat→Int→Hp→OA) (p:Nat) (ks:List Nat) (n:Nat) (tm:Tm) (H:Hp):OA:=bif p.beq 938 then aQ.lh938 F fA fX ks n tm H else (bif p.beq 29 then aQ.lh29 F fA fX ks n tm H else (none))
def aQ.pn:Nat→List Nat:=fun i=>(([(1,[])]:List (Nat×List Nat)).lookup i).getD []
def aQ.tb:Nat→List (List Nat):=fun i=>(([(1,[[],[0],[],[2],[],[],[5],[4,5,6],[0,1,2,3,4,5,6,7],[],[9],[4,5,6,7,9,10],[],[12],[4,5,6,7,9,10,11,12,13],[],[15],[4,5,6,7,9,10,11,12,13,14,15,16],[],[18],[4,5,6,7,9,10,11,12,13,14,15,16,17,18,19],[0,1,2,3,4,5,6,7,8,9,10,11,12,13,14,15,16,17,18,19,20],[0,1,2,3,4,5,6,7,8,9,10,11,12,13,14,15,16,17,18,19,20,21],[0,1,2,3,4,5,6,7,8,9,10,11,12,13,14,15,16,17,18,19,20,21,22]])]:List (Nat×List (List Nat))).lookup i).getD []
def aQ.mk (g:Int→Int→Sl→Hp→OA) (args:List AV) (H:Hp):OA:=match args with
 | [(.agg [(.int .i64 aa),(.int .i64 ac),(.sl aj)])]=>g aa ac aj H
 | _=>none
def aQ.cs (F:Nat) (fA:Int→Hp→OA) (fX:Nat→Nat→Int→Hp→OA):List (FuncId×(List AV→Hp→OA)):=[(115,bO.mk fA),(116,aP.mk fX)]
theorem aQ.loops (F:Nat) (fA:Int→Hp→OA) (fX:Nat→Nat→Int→Hp→OA):LoopsOk tabs (mkOrc (aQ.cs F fA fX)) aQ.pn (aQ.lh F fA fX) F [] 1 aQ.code (fun tm H=>aresults tabs.ty H tm Try.f75.results.toList fun v=>some (v,H)) (fun _ _ _=>none) (fun tm H=>aresults tabs.ty H tm Try.f75.results.toList fun v=>some (v,H)):=by
 refine LoopsOk.seq ?_ ?_
 ·exact loops_none (by kernel_rfl)
 ·refine LoopsOk.seq ?_ ?_
  ·exact loops_none (by kernel_rfl)
  ·refine LoopsOk.seq ?_ ?_
   ·refine LoopsOk.seq ?_ ?_
    ·exact loops_none (by kernel_rfl)
    ·refine LoopsOk.block ?_
     refine LoopsOk.loop (fun tm H=>?_) (fun k29 tm H r h0=>?_) (fun k29=>?_)
     ·refine none_of fun r h0=>?_
      obtain ⟨jM,kQ,kB,lA,kh,hks,e1,e2,e3,e4,h⟩:=aQ.lh29_inv (show aQ.lh29 F fA fX [] 0 tm H = some r from h0)
      cases h
     ·obtain ⟨jM,kQ,kB,lA,kh,hks,e1,e2,e3,e4,h⟩:=aQ.lh29_inv (show aQ.lh29 F fA fX [] (k29 + 1) tm H = some r from h0)
      have q0:(Tm.put tm 1 (.ptr jM kQ)) = tm:=by exact Tm.put_same e1
      have q1:(Tm.put (Tm.put tm 1 (.ptr jM kQ)) 2 .nilp) = tm:=by rw [q0]; exact Tm.put_same e2
      have q2:(Tm.put (Tm.put (Tm.put tm 1 (.ptr jM kQ)) 2 .nilp) 3 (.ptr kB lA)) = tm:=by rw [q1]; exact Tm.put_same e3
      have q3:(Tm.put (Tm.put (Tm.put (Tm.put tm 1 (.ptr jM kQ)) 2 .nilp) 3 (.ptr kB lA)) 4 (.int .i64 kh)) = tm:=by rw [q2]; exact Tm.put_same e4
      rw [← q3]
      exact Eq.trans (by kernel_rfl) h
     ·refine LoopsOk.seq ?_ ?_
      ·exact loops_none (by kernel_rfl)
      ·refine LoopsOk.seq ?_ ?_
       ·refine LoopsOk.block ?_
        refine LoopsOk.seq ?_ ?_
        ·exact loops_none (by kernel_rfl)
        ·refine LoopsOk.seq ?_ ?_
         ·refine LoopsOk.block ?_
          refine LoopsOk.loop (fun tm H=>?_) (fun k938 tm H r h0=>?_) (fun k938=>?_)
          ·refine none_of fun r h0=>?_
           obtain ⟨fa,jk,kz,jl,kA,ib,ko,kg,hks,e1,e2,e3,e4,e5,e6,h⟩:=aQ.lh938_inv (show aQ.lh938 F fA fX [k29] 0 tm H = some r from h0)
           cases h
          ·obtain ⟨fa,jk,kz,jl,kA,ib,ko,kg,hks,e1,e2,e3,e4,e5,e6,h⟩:=aQ.lh938_inv (show aQ.lh938 F fA fX [k29] (k938 + 1) tm H = some r from h0)
           obtain rfl:fa = k29:=by simpa [eq_comm] using hks
           have q0:(Tm.put tm 1 (.ptr jk kz)) = tm:=by exact Tm.put_same e1
           have q1:(Tm.put (Tm.put tm 1 (.ptr jk kz)) 2 .nilp) = tm:=by rw [q0]; exact Tm.put_same e2
           have q2:(Tm.put (Tm.put (Tm.put tm 1 (.ptr jk kz)) 2 .nilp) 3 (.ptr jl kA)) = tm:=by rw [q1]; exact Tm.put_same e3
           have q3:(Tm.put (Tm.put (Tm.put (Tm.put tm 1 (.ptr jk kz)) 2 .nilp) 3 (.ptr jl kA)) 4 (.int .i64 ib)) = tm:=by rw [q2]; exact Tm.put_same e4
           have q4:(Tm.put (Tm.put (Tm.put (Tm.put (Tm.put tm 1 (.ptr jk kz)) 2 .nilp) 3 (.ptr jl kA)) 4 (.int .i64 ib)) 5 (.bool ko)) = tm:=by rw [q3]; exact Tm.put_same e5
           have q5:(Tm.put (Tm.put (Tm.put (Tm.put (Tm.put (Tm.put tm 1 (.ptr jk kz)) 2 .nilp) 3 (.ptr jl kA)) 4 (.int .i64 ib)) 5 (.bool ko)) 6 (.bool kg)) = tm:=by rw [q4]; exact Tm.put_same e6
           rw [← q5]
           exact Eq.trans (by kernel_rfl) h
          ·exact loops_none (by kernel_rfl)
         ·exact loops_none (by kernel_rfl)
       ·exact loops_none (by kernel_rfl)
   ·exact loops_none (by kernel_rfl)
theorem aQ.eqX (F:Nat) (fA:Int→Hp→OA) (fX:Nat→Nat→Int→Hp→OA) (aa:Int) (ac:Int) (aj:Sl) (H:Hp):aCode tabs (mkOrc (aQ.cs F fA fX)) aQ.pn (aQ.lh F fA fX) F [] 1 aQ.code (argTm [(.agg [(.int .i64 aa),(.int .i64 ac),(.sl aj)])]) H (fun tm H=>aresults tabs.ty H tm Try.f75.results.toList fun v=>some (v,H)) (fun _ _ _=>none) (fun tm H=>aresults tabs.ty H tm Try.f75.results.toList fun v=>some (v,H)) = aQ.twX F fA fX aa ac aj H:=by kernel_rfl
theorem aQ.cs_ok (F:Nat):∀ p ∈ aQ.cs F (bO.tw F) (aP.tw F),∀ args H v H',p.2 args H = some (v,H')→Go.AE.T Try.prog p.1 args H v H':=by
 intro p hp
 simp only [aQ.cs,List.mem_cons,List.not_mem_nil,or_false] at hp
 rcases hp with rfl | rfl
 ·exact fun args H v H' h=>bO.mk_T h
 ·exact fun args H v H' h=>aP.mk_T h
theorem aQ.ok:codeOk aQ.pn Try.f75.ntmps aQ.tb aQ.code = true:=by kernel_rfl
theorem aQ.T {F:Nat} {aa:Int} {ac:Int} {aj:Sl} {H:Hp} {v:AV} {H':Hp} (h:aQ.tw F aa ac aj H = some (v,H')):Go.AE.T Try.prog 75 [(.agg [(.int .i64 aa),(.int .i64 ac),(.sl aj)])] H v H':=
 Go.AE.T.of (Y:=tabs) (C:=mkOrc (aQ.cs F (bO.tw F) (aP.tw F))) (PN:=aQ.pn) (LH:=aQ.lh F (bO.tw F) (aP.tw F)) (F:=F) (TB:=aQ.tb) (fn:=Try.f75) (code:=aQ.code) mixed tabs_ok (mkOrc_ok (aQ.cs_ok F)) Try.func75 (by kernel_rfl) (by kernel_rfl) aQ.ok (Nat.le_of_ble_eq_true (by kernel_rfl)) (aQ.loops F (bO.tw F) (aP.tw F)) (Eq.trans (aQ.eqX F (bO.tw F) (aP.tw F) aa ac aj H) h)
theorem aQ.mk_T {F:Nat} {args:List AV} {H:Hp} {v:AV} {H':Hp} (h:aQ.mk (aQ.tw F) args H = some (v,H')):Go.AE.T Try.prog 75 args H v H':=by
 unfold aQ.mk at h
 split at h
 ·exact aQ.T h
 ·cases h
def bm.j2 (F:Nat) (gI:Int→Int→Sl→Hp→OA) (ai:Int→Int→Sl→Int→Int→Hp→OA) (rs:Nat) (Ao:Nat) (Ap:Sl) (H61:Hp):OA:=(Hp.ldB H61 rs (Ao + 15)).bind fun b62=>some ((.tup [(.sl Ap),(.bool (!b62))]),H61)
def bm.j3 (F:Nat) (gI:Int→Int→Sl→Hp→OA) (ai:Int→Int→Sl→Int→Int→Hp→OA) (C61_:Nat→Nat→Nat→Nat→Sl→Int→Hp→OA) (rt:Nat) (Aq:Nat) (ru:Nat) (Ar:Nat) (nt:Sl) (oX:Int) (H88:Hp):OA:=C61_ rt Aq ru Ar nt (IntKind.i64.wrap (oX + 1)) H88
def bm.l61 (F:Nat) (gI:Int→Int→Sl→Hp→OA) (ai:Int→Int→Sl→Int→Int→Hp→OA) :Nat→Nat→Nat→Nat→Nat→Sl→Int→Hp→OA
 | 0,_,_,_,_,_,_,_=>none
 | nT + 1,jx,kL,dx,ki,gJ,fh,H22=>(Hp.ldI H22 .i64 jx kL).bind fun n63=>(Hp.ldI H22 .i64 jx (kL + 1)).bind fun n64=>(bif (decide (fh < (if n64 < n63 then n64 else n63))) then ((Hp.ldB H22 dx (ki + 15)).bind fun b65=>(bif (!b65) then ((Hp.ldI H22 .i64 dx ki).bind fun n66=>(Hp.ldI H22 .i64 dx (ki + 1)).bind fun n67=>(Hp.ldSl H22 dx (ki + 2)).bind fun s68=>(ai n66 n67 s68 fh fh H22).bind fun r69=>((r69.1).asI .i64).bind fun n70=>(bif (n70 != 0) then ((Hp.new r69.2 [(.int .i64 n70)]).bind fun H71=>(Sl.row H71 (⟨some (r69.2.length,0),1,.ex 1⟩:Sl) 1).bind fun xs73=>(Hp.app H71 1 8 gJ (⟨some (r69.2.length,0),1,.ex 1⟩:Sl).n xs73).bind fun a72=>bm.j3 F gI ai (bm.l61 F gI ai nT) jx kL dx ki a72.1 fh a72.2) else (bm.j3 F gI ai (bm.l61 F gI ai nT) jx kL dx ki gJ fh r69.2))) else (bm.j2 F gI ai dx ki gJ H22))) else (bm.j2 F gI ai dx ki gJ H22))
termination_by structural n=>n
def bm.twX (F:Nat) (gI:Int→Int→Sl→Hp→OA) (ai:Int→Int→Sl→Int→Int→Hp→OA) (aa:Int) (ac:Int) (aj:Sl) (H:Hp):OA:=(Hp.new H [(.int .i64 aa),(.int .i64 ac),(.sl aj)]).bind fun H4=>(Hp.ldI H4 .i64 H.length 0).bind fun n5=>(Hp.ldI H4 .i64 H.length (0 + 1)).bind fun n6=>(Hp.ldSl H4 H.length (0 + 2)).bind fun s7=>(gI n5 n6 s7 H4).bind fun r8=>((r8.1).asP).bind fun p9=>(Hp.new r8.2 []).bind fun H10=>bm.l61 F gI ai F H.length 0 p9.1 p9.2 (⟨some (r8.2.length,0),0,.ex 0⟩:Sl) 0 H10
def bm.tw (F:Nat) (aa:Int) (ac:Int) (aj:Sl) (H:Hp):OA:=bm.twX F (aQ.tw F) (aC.tw F) aa ac aj H
def bm.code:Go.Code:=(Try.f74.body).getD .skip
def bm.lh61 (F:Nat) (gI:Int→Int→Sl→Hp→OA) (ai:Int→Int→Sl→Int→Int→Hp→OA) (ks:List Nat) (n:Nat) (tm:Tm) (H:Hp):OA:=match ks,tm 1,tm 4,tm 5,tm 6 with
 | [],(.ptr jx kL),(.ptr dx ki),(.sl gJ),(.int .i64 fh)=>bm.l61 F gI ai n jx kL dx ki gJ fh H
 | _,_,_,_,_=>none
theorem bm.lh61_inv {F:Nat} {gI:Int→Int→Sl→Hp→OA} {ai:Int→Int→Sl→Int→Int→Hp→OA} {ks:List Nat} {n:Nat} {tm:Tm} {H:Hp} {r:AV×Hp} (h:bm.lh61 F gI ai ks n tm H = some r):∃ jx:Nat,∃ kL:Nat,∃ dx:Nat,∃ ki:Nat,∃ gJ:Sl,∃ fh:Int,ks = []∧tm 1 = (.ptr jx kL)∧tm 4 = (.ptr dx ki)∧tm 5 = (.sl gJ)∧tm 6 = (.int .i64 fh)∧bm.l61 F gI ai n jx kL dx ki gJ fh H = some r:=by
 unfold bm.lh61 at h
 split at h
 ·exact ⟨_,_,_,_,_,_,rfl,by assumption,by assumption,by assumption,by assumption,h⟩
 ·cases h
def bm.lh (F:Nat) (gI:Int→Int→Sl→Hp→OA) (ai:Int→Int→Sl→Int→Int→Hp→OA) (p:Nat) (ks:List Nat) (n:Nat) (tm:Tm) (H:Hp):OA:=bif p.beq 61 then bm.lh61 F gI ai ks n tm H else (none)
def bm.pn:Nat→List Nat:=fun i=>(([(9,[])]:List (Nat×List Nat)).lookup i).getD []
def bm.tb:Nat→List (List Nat):=fun i=>(([(9,[[],[],[1],[1,2],[1,2,3],[1,2,3,4],[0],[0,1,2,3,4,5,6]])]:List (Nat×List (List Nat))).lookup i).getD []
def bm.mk (g:Int→Int→Sl→Hp→OA) (args:List AV) (H:Hp):OA:=match args with
 | [(.agg [(.int .i64 aa),(.int .i64 ac),(.sl aj)])]=>g aa ac aj H
 | _=>none
def bm.cs (F:Nat) (gI:Int→Int→Sl→Hp→OA) (ai:Int→Int→Sl→Int→Int→Hp→OA):List (FuncId×(List AV→Hp→OA)):=[(75,aQ.mk gI),(79,aC.mk ai)]
theorem bm.loops (F:Nat) (gI:Int→Int→Sl→Hp→OA) (ai:Int→Int→Sl→Int→Int→Hp→OA):LoopsOk tabs (mkOrc (bm.cs F gI ai)) bm.pn (bm.lh F gI ai) F [] 1 bm.code (fun tm H=>aresults tabs.ty H tm Try.f74.results.toList fun v=>some (v,H)) (fun _ _ _=>none) (fun tm H=>aresults tabs.ty H tm Try.f74.results.toList fun v=>some (v,H)):=by
 refine LoopsOk.seq ?_ ?_
 ·exact loops_none (by kernel_rfl)
 ·refine LoopsOk.seq ?_ ?_
  ·exact loops_none (by kernel_rfl)
  ·refine LoopsOk.seq ?_ ?_
   ·exact loops_none (by kernel_rfl)
   ·refine LoopsOk.seq ?_ ?_
    ·refine LoopsOk.seq ?_ ?_
     ·exact loops_none (by kernel_rfl)
     ·refine LoopsOk.block ?_
      refine LoopsOk.loop (fun tm H=>?_) (fun k61 tm H r h0=>?_) (fun k61=>?_)
      ·refine none_of fun r h0=>?_
       obtain ⟨jx,kL,dx,ki,gJ,fh,hks,e1,e4,e5,e6,h⟩:=bm.lh61_inv (show bm.lh61 F gI ai [] 0 tm H = some r from h0)
       cases h
      ·obtain ⟨jx,kL,dx,ki,gJ,fh,hks,e1,e4,e5,e6,h⟩:=bm.lh61_inv (show bm.lh61 F gI ai [] (k61 + 1) tm H = some r from h0)
       have q0:(Tm.put tm 1 (.ptr jx kL)) = tm:=by exact Tm.put_same e1
       have q1:(Tm.put (Tm.put tm 1 (.ptr jx kL)) 4 (.ptr dx ki)) = tm:=by rw [q0]; exact Tm.put_same e4
       have q2:(Tm.put (Tm.put (Tm.put tm 1 (.ptr jx kL)) 4 (.ptr dx ki)) 5 (.sl gJ)) = tm:=by rw [q1]; exact Tm.put_same e5
       have q3:(Tm.put (Tm.put (Tm.put (Tm.put tm 1 (.ptr jx kL)) 4 (.ptr dx ki)) 5 (.sl gJ)) 6 (.int .i64 fh)) = tm:=by rw [q2]; exact Tm.put_same e6
       rw [← q3]
       exact Eq.trans (by kernel_rfl) h
      ·exact loops_none (by kernel_rfl)
    ·exact loops_none (by kernel_rfl)
theorem bm.eqX (F:Nat) (gI:Int→Int→Sl→Hp→OA) (ai:Int→Int→Sl→Int→Int→Hp→OA) (aa:Int) (ac:Int) (aj:Sl) (H:Hp):aCode tabs (mkOrc (bm.cs F gI ai)) bm.pn (bm.lh F gI ai) F [] 1 bm.code (argTm [(.agg [(.int .i64 aa),(.int .i64 ac),(.sl aj)])]) H (fun tm H=>aresults tabs.ty H tm Try.f74.results.toList fun v=>some (v,H)) (fun _ _ _=>none) (fun tm H=>aresults tabs.ty H tm Try.f74.results.toList fun v=>some (v,H)) = bm.twX F gI ai aa ac aj H:=by kernel_rfl
theorem bm.cs_ok (F:Nat):∀ p ∈ bm.cs F (aQ.tw F) (aC.tw F),∀ args H v H',p.2 args H = some (v,H')→Go.AE.T Try.prog p.1 args H v H':=by
 intro p hp
 simp only [bm.cs,List.mem_cons,List.not_mem_nil,or_false] at hp
 rcases hp with rfl | rfl
 ·exact fun args H v H' h=>aQ.mk_T h
 ·exact fun args H v H' h=>aC.mk_T h
theorem bm.ok:codeOk bm.pn Try.f74.ntmps bm.tb bm.code = true:=by kernel_rfl
theorem bm.T {F:Nat} {aa:Int} {ac:Int} {aj:Sl} {H:Hp} {v:AV} {H':Hp} (h:bm.tw F aa ac aj H = some (v,H')):Go.AE.T Try.prog 74 [(.agg [(.int .i64 aa),(.int .i64 ac),(.sl aj)])] H v H':=
 Go.AE.T.of (Y:=tabs) (C:=mkOrc (bm.cs F (aQ.tw F) (aC.tw F))) (PN:=bm.pn) (LH:=bm.lh F (aQ.tw F) (aC.tw F)) (F:=F) (TB:=bm.tb) (fn:=Try.f74) (code:=bm.code) mixed tabs_ok (mkOrc_ok (bm.cs_ok F)) Try.func74 (by kernel_rfl) (by kernel_rfl) bm.ok (Nat.le_of_ble_eq_true (by kernel_rfl)) (bm.loops F (aQ.tw F) (aC.tw F)) (Eq.trans (bm.eqX F (aQ.tw F) (aC.tw F) aa ac aj H) h)
theorem bm.mk_T {F:Nat} {args:List AV} {H:Hp} {v:AV} {H':Hp} (h:bm.mk (bm.tw F) args H = some (v,H')):Go.AE.T Try.prog 74 args H v H':=by
 unfold bm.mk at h
 split at h
 ·exact bm.T h
 ·cases h
def dT.twX (F:Nat) (lB:Int→Int→Sl→Hp→OA) (lC:Int→Int→Sl→Hp→OA) (aa:Int) (ac:Int) (aj:Sl) (H:Hp):OA:=(Hp.new H [(.int .i64 aa),(.int .i64 ac),(.sl aj)]).bind fun H4=>(Hp.ldI H4 .i64 H.length 0).bind fun n5=>(Hp.ldI H4 .i64 H.length (0 + 1)).bind fun n6=>(Hp.ldSl H4 H.length (0 + 2)).bind fun s7=>(lB n5 n6 s7 H4).bind fun r8=>((r8.1).asB).bind fun b9=>(bif (!b9) then ((Hp.new r8.2 []).bind fun H10=>some ((.tup [(.sl (⟨some (r8.2.length,0),0,.ex 0⟩:Sl)),(.int .i64 1)]),H10)) else ((Hp.ldI r8.2 .i64 H.length 0).bind fun n11=>(Hp.ldI r8.2 .i64 H.length (0 + 1)).bind fun n12=>(Hp.ldSl r8.2 H.length (0 + 2)).bind fun s13=>(lC n11 n12 s13 r8.2).bind fun r14=>((r14.1).asTup 2).bind fun l15=>(l15[0]?).bind fun v16=>((v16).asSl).bind fun s17=>(l15[1]?).bind fun v18=>((v18).asB).bind fun b19=>(bif (!b19) then ((Hp.new r14.2 []).bind fun H20=>some ((.tup [(.sl (⟨some (r14.2.length,0),0,.ex 0⟩:Sl)),(.int .i64 3)]),H20)) else (some ((.tup [(.sl s17),(.int .i64 0)]),r14.2)))))
def dT.tw (F:Nat) (aa:Int) (ac:Int) (aj:Sl) (H:Hp):OA:=dT.twX F (cu.tw F) (bm.tw F) aa ac aj H
def dT.code:Go.Code:=(Try.f28.body).getD .skip
def dT.lh (F:Nat) (lB:Int→Int→Sl→Hp→OA) (lC:Int→Int→Sl→Hp→OA) (p:Nat) (ks:List Nat) (n:Nat) (tm:Tm) (H:Hp):OA:=none
def dT.pn:Nat→List Nat:=fun i=>(([]:List (Nat×List Nat)).lookup i).getD []
def dT.tb:Nat→List (List Nat):=fun i=>(([]:List (Nat×List (List Nat))).lookup i).getD []
def dT.mk (g:Int→Int→Sl→Hp→OA) (args:List AV) (H:Hp):OA:=match args with
 | [(.agg [(.int .i64 aa),(.int .i64 ac),(.sl aj)])]=>g aa ac aj H
 | _=>none
def dT.cs (F:Nat) (lB:Int→Int→Sl→Hp→OA) (lC:Int→Int→Sl→Hp→OA):List (FuncId×(List AV→Hp→OA)):=[(19,cu.mk lB),(74,bm.mk lC)]
theorem dT.loops (F:Nat) (lB:Int→Int→Sl→Hp→OA) (lC:Int→Int→Sl→Hp→OA):LoopsOk tabs (mkOrc (dT.cs F lB lC)) dT.pn (dT.lh F lB lC) F [] 1 dT.code (fun tm H=>aresults tabs.ty H tm Try.f28.results.toList fun v=>some (v,H)) (fun _ _ _=>none) (fun tm H=>aresults tabs.ty H tm Try.f28.results.toList fun v=>some (v,H)):=by
 exact loops_none (by kernel_rfl)
theorem dT.eqX (F:Nat) (lB:Int→Int→Sl→Hp→OA) (lC:Int→Int→Sl→Hp→OA) (aa:Int) (ac:Int) (aj:Sl) (H:Hp):aCode tabs (mkOrc (dT.cs F lB lC)) dT.pn (dT.lh F lB lC) F [] 1 dT.code (argTm [(.agg [(.int .i64 aa),(.int .i64 ac),(.sl aj)])]) H (fun tm H=>aresults tabs.ty H tm Try.f28.results.toList fun v=>some (v,H)) (fun _ _ _=>none) (fun tm H=>aresults tabs.ty H tm Try.f28.results.toList fun v=>some (v,H)) = dT.twX F lB lC aa ac aj H:=by kernel_rfl
theorem dT.cs_ok (F:Nat):∀ p ∈ dT.cs F (cu.tw F) (bm.tw F),∀ args H v H',p.2 args H = some (v,H')→Go.AE.T Try.prog p.1 args H v H':=by
 intro p hp
 simp only [dT.cs,List.mem_cons,List.not_mem_nil,or_false] at hp
 rcases hp with rfl | rfl
 ·exact fun args H v H' h=>cu.mk_T h
 ·exact fun args H v H' h=>bm.mk_T h
theorem dT.ok:codeOk dT.pn Try.f28.ntmps dT.tb dT.code = true:=by kernel_rfl
theorem dT.T {F:Nat} {aa:Int} {ac:Int} {aj:Sl} {H:Hp} {v:AV} {H':Hp} (h:dT.tw F aa ac aj H = some (v,H')):Go.AE.T Try.prog 28 [(.agg [(.int .i64 aa),(.int .i64 ac),(.sl aj)])] H v H':=
 Go.AE.T.of (Y:=tabs) (C:=mkOrc (dT.cs F (cu.tw F) (bm.tw F))) (PN:=dT.pn) (LH:=dT.lh F (cu.tw F) (bm.tw F)) (F:=F) (TB:=dT.tb) (fn:=Try.f28) (code:=dT.code) mixed tabs_ok (mkOrc_ok (dT.cs_ok F)) Try.func28 (by kernel_rfl) (by kernel_rfl) dT.ok (Nat.le_of_ble_eq_true (by kernel_rfl)) (dT.loops F (cu.tw F) (bm.tw F)) (Eq.trans (dT.eqX F (cu.tw F) (bm.tw F) aa ac aj H) h)
theorem dT.mk_T {F:Nat} {args:List AV} {H:Hp} {v:AV} {H':Hp} (h:dT.mk (dT.tw F) args H = some (v,H')):Go.AE.T Try.prog 28 args H v H':=by
 unfold dT.mk at h
 split at h
 ·exact dT.T h
 ·cases h
def bE.j2 (F:Nat) (C29_:Sl→Sl→Int→Hp→OA) (uz:Sl) (As:Sl) (oY:Int) (H35:Hp):OA:=C29_ uz As (IntKind.i64.wrap (oY + 1)) H35
def bE.l29 (F:Nat) :Nat→Sl→Sl→Int→Hp→OA
 | 0,_,_,_,_=>none
 | fa + 1,ct,hK,ff,H7=>(bif (decide (ff < (ct.n:Int))) then ((Sl.idx ct ff 1).bind fun p22=>(Hp.ldI H7 .i64 p22.1 p22.2).bind fun n23=>(bif (decide (n23 > 1)) then ((Sl.idx ct ff 1).bind fun p24=>(Hp.ldI H7 .i64 p24.1 p24.2).bind fun n25=>(Hp.new H7 [(.int .i64 n25)]).bind fun H26=>(Sl.row H26 (⟨some (H7.length,0),1,.ex 1⟩:Sl) 1).bind fun xs28=>(Hp.app H26 1 8 hK (⟨some (H7.length,0),1,.ex 1⟩:Sl).n xs28).bind fun a27=>bE.j2 F (bE.l29 F fa) ct a27.1 ff a27.2) else (bE.j2 F (bE.l29 F fa) ct hK ff H7))) else (some ((.sl hK),H7)))
termination_by structural n=>n
def bE.twX (F:Nat) (aa:Sl) (H:Hp):OA:=(Hp.new H []).bind fun H2=>bE.l29 F F aa (⟨some (H.length,0),0,.ex 0⟩:Sl) 0 H2
def bE.tw (F:Nat) (aa:Sl) (H:Hp):OA:=bE.twX F aa H
def bE.code:Go.Code:=(Try.f84.body).getD .skip
def bE.lh29 (F:Nat) (ks:List Nat) (n:Nat) (tm:Tm) (H:Hp):OA:=match ks,tm 0,tm 3,tm 4 with
 | [],(.sl ct),(.sl hK),(.int .i64 ff)=>bE.l29 F n ct hK ff H
 | _,_,_,_=>none
theorem bE.lh29_inv {F:Nat} {ks:List Nat} {n:Nat} {tm:Tm} {H:Hp} {r:AV×Hp} (h:bE.lh29 F ks n tm H = some r):∃ ct:Sl,∃ hK:Sl,∃ ff:Int,ks = []∧tm 0 = (.sl ct)∧tm 3 = (.sl hK)∧tm 4 = (.int .i64 ff)∧bE.l29 F n ct hK ff H = some r:=by
 unfold bE.lh29 at h
 split at h
 ·exact ⟨_,_,_,rfl,by assumption,by assumption,by assumption,h⟩
 ·cases h
def bE.lh (F:Nat) (p:Nat) (ks:List Nat) (n:Nat) (tm:Tm) (H:Hp):OA:=bif p.beq 29 then bE.lh29 F ks n tm H else (none)
def bE.pn:Nat→List Nat:=fun i=>(([]:List (Nat×List Nat)).lookup i).getD []
def bE.tb:Nat→List (List Nat):=fun i=>(([]:List (Nat×List (List Nat))).lookup i).getD []
def bE.mk (g:Sl→Hp→OA) (args:List AV) (H:Hp):OA:=match args with
 | [(.sl aa)]=>g aa H
 | _=>none
def bE.cs (F:Nat):List (FuncId×(List AV→Hp→OA)):=[]
theorem bE.loops (F:Nat):LoopsOk tabs (mkOrc (bE.cs F)) bE.pn (bE.lh F) F [] 1 bE.code (fun tm H=>aresults tabs.ty H tm Try.f84.results.toList fun v=>some (v,H)) (fun _ _ _=>none) (fun tm H=>aresults tabs.ty H tm Try.f84.results.toList fun v=>some (v,H)):=by
 refine LoopsOk.seq ?_ ?_
 ·exact loops_none (by kernel_rfl)
 ·refine LoopsOk.seq ?_ ?_
  ·exact loops_none (by kernel_rfl)
  ·refine LoopsOk.seq ?_ ?_
   ·refine LoopsOk.seq ?_ ?_
    ·exact loops_none (by kernel_rfl)
    ·refine LoopsOk.block ?_
     refine LoopsOk.loop (fun tm H=>?_) (fun k29 tm H r h0=>?_) (fun k29=>?_)
     ·refine none_of fun r h0=>?_
      obtain ⟨ct,hK,ff,hks,e0,e3,e4,h⟩:=bE.lh29_inv (show bE.lh29 F [] 0 tm H = some r from h0)
      cases h
     ·obtain ⟨ct,hK,ff,hks,e0,e3,e4,h⟩:=bE.lh29_inv (show bE.lh29 F [] (k29 + 1) tm H = some r from h0)
      have q0:(Tm.put tm 0 (.sl ct)) = tm:=by exact Tm.put_same e0
      have q1:(Tm.put (Tm.put tm 0 (.sl ct)) 3 (.sl hK)) = tm:=by rw [q0]; exact Tm.put_same e3
      have q2:(Tm.put (Tm.put (Tm.put tm 0 (.sl ct)) 3 (.sl hK)) 4 (.int .i64 ff)) = tm:=by rw [q1]; exact Tm.put_same e4
      rw [← q2]
      exact Eq.trans (by kernel_rfl) h
     ·exact loops_none (by kernel_rfl)
   ·exact loops_none (by kernel_rfl)
theorem bE.eqX (F:Nat) (aa:Sl) (H:Hp):aCode tabs (mkOrc (bE.cs F)) bE.pn (bE.lh F) F [] 1 bE.code (argTm [(.sl aa)]) H (fun tm H=>aresults tabs.ty H tm Try.f84.results.toList fun v=>some (v,H)) (fun _ _ _=>none) (fun tm H=>aresults tabs.ty H tm Try.f84.results.toList fun v=>some (v,H)) = bE.twX F aa H:=by kernel_rfl
theorem bE.cs_ok (F:Nat):∀ p ∈ bE.cs F,∀ args H v H',p.2 args H = some (v,H')→Go.AE.T Try.prog p.1 args H v H':=by
 intro p hp
 exact absurd (show p ∈ [] from hp) List.not_mem_nil
theorem bE.ok:codeOk bE.pn Try.f84.ntmps bE.tb bE.code = true:=by kernel_rfl
theorem bE.T {F:Nat} {aa:Sl} {H:Hp} {v:AV} {H':Hp} (h:bE.tw F aa H = some (v,H')):Go.AE.T Try.prog 84 [(.sl aa)] H v H':=
 Go.AE.T.of (Y:=tabs) (C:=mkOrc (bE.cs F)) (PN:=bE.pn) (LH:=bE.lh F) (F:=F) (TB:=bE.tb) (fn:=Try.f84) (code:=bE.code) mixed tabs_ok (mkOrc_ok (bE.cs_ok F)) Try.func84 (by kernel_rfl) (by kernel_rfl) bE.ok (Nat.le_of_ble_eq_true (by kernel_rfl)) (bE.loops F) (Eq.trans (bE.eqX F aa H) h)
theorem bE.mk_T {F:Nat} {args:List AV} {H:Hp} {v:AV} {H':Hp} (h:bE.mk (bE.tw F) args H = some (v,H')):Go.AE.T Try.prog 84 args H v H':=by
 unfold bE.mk at h
 split at h
 ·exact bE.T h
 ·cases h
def dU.twX (F:Nat) (lD:Int→Int→Sl→Hp→OA) (lE:Sl→Hp→OA) (aa:Int) (ac:Int) (aj:Sl) (H:Hp):OA:=(Hp.new H [(.int .i64 aa),(.int .i64 ac),(.sl aj)]).bind fun H4=>(Hp.new H4 [.int .i64 0,.sl ⟨none,0,.ex 0⟩]).bind fun H5=>(Hp.ldI H5 .i64 H.length 0).bind fun n6=>(Hp.ldI H5 .i64 H.length (0 + 1)).bind fun n7=>(Hp.ldSl H5 H.length (0 + 2)).bind fun s8=>(lD n6 n7 s8 H5).bind fun r9=>((r9.1).asTup 2).bind fun l10=>(l10[0]?).bind fun v11=>((v11).asSl).bind fun s12=>(l10[1]?).bind fun v13=>((v13).asI .i64).bind fun n14=>(bif (n14 != 0) then ((Hp.st r9.2 H4.length 0 (.int .i64 0)).bind fun H15=>(Hp.st H15 H4.length (0 + 1) (.sl (⟨none,0,.ex 0⟩:Sl))).bind fun H16=>(Hp.ldI H16 .i64 H4.length 0).bind fun n17=>(Hp.ldSl H16 H4.length (0 + 1)).bind fun s18=>some ((.tup [(.agg [(.int .i64 n17),(.sl s18)]),(.int .i64 n14)]),H16)) else ((Hp.ldI r9.2 .i64 H.length 0).bind fun n19=>(lE s12 r9.2).bind fun r20=>((r20.1).asSl).bind fun s21=>(if Cons r9.2 r20.2 then ((Hp.st r20.2 H4.length 0 (.int .i64 (IntKind.i64.wrap (n19 - (s12.n:Int))))).bind fun H22=>(Hp.st H22 H4.length (0 + 1) (.sl s21)).bind fun H23=>(Hp.ldI H23 .i64 H4.length 0).bind fun n24=>(Hp.ldSl H23 H4.length (0 + 1)).bind fun s25=>some ((.tup [(.agg [(.int .i64 n24),(.sl s25)]),(.int .i64 0)]),H23)) else none)))
def dU.tw (F:Nat) (aa:Int) (ac:Int) (aj:Sl) (H:Hp):OA:=dU.twX F (dT.tw F) (bE.tw F) aa ac aj H
def dU.code:Go.Code:=(Try.f40.body).getD .skip
def dU.lh (F:Nat) (lD:Int→Int→Sl→Hp→OA) (lE:Sl→Hp→OA) (p:Nat) (ks:List Nat) (n:Nat) (tm:Tm) (H:Hp):OA:=none
def dU.pn:Nat→List Nat:=fun i=>(([(4,[8])]:List (Nat×List Nat)).lookup i).getD []
def dU.tb:Nat→List (List Nat):=fun i=>(([(4,[[],[0],[],[2],[0,1,2,3],[],[5],[0,1,2,3,4,5,6],[0,1,2,3,4,5,6,7],[0,1,2,3,4,5,6,7,8]])]:List (Nat×List (List Nat))).lookup i).getD []
def dU.mk (g:Int→Int→Sl→Hp→OA) (args:List AV) (H:Hp):OA:=match args with
 | [(.agg [(.int .i64 aa),(.int .i64 ac),(.sl aj)])]=>g aa ac aj H
 | _=>none
def dU.cs (F:Nat) (lD:Int→Int→Sl→Hp→OA) (lE:Sl→Hp→OA):List (FuncId×(List AV→Hp→OA)):=[(28,dT.mk lD),(84,bE.mk lE)]
theorem dU.loops (F:Nat) (lD:Int→Int→Sl→Hp→OA) (lE:Sl→Hp→OA):LoopsOk tabs (mkOrc (dU.cs F lD lE)) dU.pn (dU.lh F lD lE) F [] 1 dU.code (fun tm H=>aresults tabs.ty H tm Try.f40.results.toList fun v=>some (v,H)) (fun _ _ _=>none) (fun tm H=>aresults tabs.ty H tm Try.f40.results.toList fun v=>some (v,H)):=by
 exact loops_none (by kernel_rfl)
theorem dU.eqX (F:Nat) (lD:Int→Int→Sl→Hp→OA) (lE:Sl→Hp→OA) (aa:Int) (ac:Int) (aj:Sl) (H:Hp):aCode tabs (mkOrc (dU.cs F lD lE)) dU.pn (dU.lh F lD lE) F [] 1 dU.code (argTm [(.agg [(.int .i64 aa),(.int .i64 ac),(.sl aj)])]) H (fun tm H=>aresults tabs.ty H tm Try.f40.results.toList fun v=>some (v,H)) (fun _ _ _=>none) (fun tm H=>aresults tabs.ty H tm Try.f40.results.toList fun v=>some (v,H)) = dU.twX F lD lE aa ac aj H:=by kernel_rfl
theorem dU.cs_ok (F:Nat):∀ p ∈ dU.cs F (dT.tw F) (bE.tw F),∀ args H v H',p.2 args H = some (v,H')→Go.AE.T Try.prog p.1 args H v H':=by
 intro p hp
 simp only [dU.cs,List.mem_cons,List.not_mem_nil,or_false] at hp
 rcases hp with rfl | rfl
 ·exact fun args H v H' h=>dT.mk_T h
 ·exact fun args H v H' h=>bE.mk_T h
theorem dU.ok:codeOk dU.pn Try.f40.ntmps dU.tb dU.code = true:=by kernel_rfl
theorem dU.T {F:Nat} {aa:Int} {ac:Int} {aj:Sl} {H:Hp} {v:AV} {H':Hp} (h:dU.tw F aa ac aj H = some (v,H')):Go.AE.T Try.prog 40 [(.agg [(.int .i64 aa),(.int .i64 ac),(.sl aj)])] H v H':=
 Go.AE.T.of (Y:=tabs) (C:=mkOrc (dU.cs F (dT.tw F) (bE.tw F))) (PN:=dU.pn) (LH:=dU.lh F (dT.tw F) (bE.tw F)) (F:=F) (TB:=dU.tb) (fn:=Try.f40) (code:=dU.code) mixed tabs_ok (mkOrc_ok (dU.cs_ok F)) Try.func40 (by kernel_rfl) (by kernel_rfl) dU.ok (Nat.le_of_ble_eq_true (by kernel_rfl)) (dU.loops F (dT.tw F) (bE.tw F)) (Eq.trans (dU.eqX F (dT.tw F) (bE.tw F) aa ac aj H) h)
theorem dU.mk_T {F:Nat} {args:List AV} {H:Hp} {v:AV} {H':Hp} (h:dU.mk (dU.tw F) args H = some (v,H')):Go.AE.T Try.prog 40 args H v H':=by
 unfold dU.mk at h
 split at h
 ·exact dU.T h
 ·cases h
def dp.twX (F:Nat) (aa:Int) (ag:Int) (cO:Int) (H:Hp):OA:=(bif (decide (ag ≤ aa)) then (some ((.bool (decide (aa ≤ cO))),H)) else (some ((.bool false),H)))
def dp.tw (F:Nat) (aa:Int) (ag:Int) (cO:Int) (H:Hp):OA:=dp.twX F aa ag cO H
def dp.code:Go.Code:=(Try.f106.body).getD .skip
def dp.lh (F:Nat) (p:Nat) (ks:List Nat) (n:Nat) (tm:Tm) (H:Hp):OA:=none
def dp.pn:Nat→List Nat:=fun i=>(([]:List (Nat×List Nat)).lookup i).getD []
def dp.tb:Nat→List (List Nat):=fun i=>(([]:List (Nat×List (List Nat))).lookup i).getD []
def dp.mk (g:Int→Int→Int→Hp→OA) (args:List AV) (H:Hp):OA:=match args with
 | [(.int .i64 aa),(.int .i64 ag),(.int .i64 cO)]=>g aa ag cO H
 | _=>none
def dp.cs (F:Nat):List (FuncId×(List AV→Hp→OA)):=[]
theorem dp.loops (F:Nat):LoopsOk tabs (mkOrc (dp.cs F)) dp.pn (dp.lh F) F [] 1 dp.code (fun tm H=>aresults tabs.ty H tm Try.f106.results.toList fun v=>some (v,H)) (fun _ _ _=>none) (fun tm H=>aresults tabs.ty H tm Try.f106.results.toList fun v=>some (v,H)):=by
 exact loops_none (by kernel_rfl)
theorem dp.eqX (F:Nat) (aa:Int) (ag:Int) (cO:Int) (H:Hp):aCode tabs (mkOrc (dp.cs F)) dp.pn (dp.lh F) F [] 1 dp.code (argTm [(.int .i64 aa),(.int .i64 ag),(.int .i64 cO)]) H (fun tm H=>aresults tabs.ty H tm Try.f106.results.toList fun v=>some (v,H)) (fun _ _ _=>none) (fun tm H=>aresults tabs.ty H tm Try.f106.results.toList fun v=>some (v,H)) = dp.twX F aa ag cO H:=by kernel_rfl
theorem dp.cs_ok (F:Nat):∀ p ∈ dp.cs F,∀ args H v H',p.2 args H = some (v,H')→Go.AE.T Try.prog p.1 args H v H':=by
 intro p hp
 exact absurd (show p ∈ [] from hp) List.not_mem_nil
theorem dp.ok:codeOk dp.pn Try.f106.ntmps dp.tb dp.code = true:=by kernel_rfl
theorem dp.T {F:Nat} {aa:Int} {ag:Int} {cO:Int} {H:Hp} {v:AV} {H':Hp} (h:dp.tw F aa ag cO H = some (v,H')):Go.AE.T Try.prog 106 [(.int .i64 aa),(.int .i64 ag),(.int .i64 cO)] H v H':=
 Go.AE.T.of (Y:=tabs) (C:=mkOrc (dp.cs F)) (PN:=dp.pn) (LH:=dp.lh F) (F:=F) (TB:=dp.tb) (fn:=Try.f106) (code:=dp.code) mixed tabs_ok (mkOrc_ok (dp.cs_ok F)) Try.func106 (by kernel_rfl) (by kernel_rfl) dp.ok (Nat.le_of_ble_eq_true (by kernel_rfl)) (dp.loops F) (Eq.trans (dp.eqX F aa ag cO H) h)
theorem dp.mk_T {F:Nat} {args:List AV} {H:Hp} {v:AV} {H':Hp} (h:dp.mk (dp.tw F) args H = some (v,H')):Go.AE.T Try.prog 106 args H v H':=by
 unfold dp.mk at h
 split at h
 ·exact dp.T h
 ·cases h
def dw.twX (F:Nat) (aa:Sl) (H:Hp):OA:=some ((.int .i64 (aa.n:Int)),H)
def dw.tw (F:Nat) (aa:Sl) (H:Hp):OA:=dw.twX F aa H
def dw.code:Go.Code:=(Try.f73.body).getD .skip
def dw.lh (F:Nat) (p:Nat) (ks:List Nat) (n:Nat) (tm:Tm) (H:Hp):OA:=none
def dw.pn:Nat→List Nat:=fun i=>(([]:List (Nat×List Nat)).lookup i).getD []
def dw.tb:Nat→List (List Nat):=fun i=>(([]:List (Nat×List (List Nat))).lookup i).getD []
def dw.mk (g:Sl→Hp→OA) (args:List AV) (H:Hp):OA:=match args with
 | [(.sl aa)]=>g aa H
 | _=>none
def dw.cs (F:Nat):List (FuncId×(List AV→Hp→OA)):=[]
theorem dw.loops (F:Nat):LoopsOk tabs (mkOrc (dw.cs F)) dw.pn (dw.lh F) F [] 1 dw.code (fun tm H=>aresults tabs.ty H tm Try.f73.results.toList fun v=>some (v,H)) (fun _ _ _=>none) (fun tm H=>aresults tabs.ty H tm Try.f73.results.toList fun v=>some (v,H)):=by
 exact loops_none (by kernel_rfl)
theorem dw.eqX (F:Nat) (aa:Sl) (H:Hp):aCode tabs (mkOrc (dw.cs F)) dw.pn (dw.lh F) F [] 1 dw.code (argTm [(.sl aa)]) H (fun tm H=>aresults tabs.ty H tm Try.f73.results.toList fun v=>some (v,H)) (fun _ _ _=>none) (fun tm H=>aresults tabs.ty H tm Try.f73.results.toList fun v=>some (v,H)) = dw.twX F aa H:=by kernel_rfl
theorem dw.cs_ok (F:Nat):∀ p ∈ dw.cs F,∀ args H v H',p.2 args H = some (v,H')→Go.AE.T Try.prog p.1 args H v H':=by
 intro p hp
 exact absurd (show p ∈ [] from hp) List.not_mem_nil
theorem dw.ok:codeOk dw.pn Try.f73.ntmps dw.tb dw.code = true:=by kernel_rfl
theorem dw.T {F:Nat} {aa:Sl} {H:Hp} {v:AV} {H':Hp} (h:dw.tw F aa H = some (v,H')):Go.AE.T Try.prog 73 [(.sl aa)] H v H':=
 Go.AE.T.of (Y:=tabs) (C:=mkOrc (dw.cs F)) (PN:=dw.pn) (LH:=dw.lh F) (F:=F) (TB:=dw.tb) (fn:=Try.f73) (code:=dw.code) mixed tabs_ok (mkOrc_ok (dw.cs_ok F)) Try.func73 (by kernel_rfl) (by kernel_rfl) dw.ok (Nat.le_of_ble_eq_true (by kernel_rfl)) (dw.loops F) (Eq.trans (dw.eqX F aa H) h)
theorem dw.mk_T {F:Nat} {args:List AV} {H:Hp} {v:AV} {H':Hp} (h:dw.mk (dw.tw F) args H = some (v,H')):Go.AE.T Try.prog 73 args H v H':=by
 unfold dw.mk at h
 split at h
 ·exact dw.T h
 ·cases h
def dV.twX (F:Nat) (ic:Int→Int→Int→Hp→OA) (aa:Int) (H:Hp):OA:=(ic aa (-1000000000000) 1000000000000 H).bind fun r2=>((r2.1).asB).bind fun b3=>some ((.bool (!b3)),r2.2)
def dV.tw (F:Nat) (aa:Int) (H:Hp):OA:=dV.twX F (dp.tw F) aa H
def dV.code:Go.Code:=(Try.f107.body).getD .skip
def dV.lh (F:Nat) (ic:Int→Int→Int→Hp→OA) (p:Nat) (ks:List Nat) (n:Nat) (tm:Tm) (H:Hp):OA:=none
def dV.pn:Nat→List Nat:=fun i=>(([]:List (Nat×List Nat)).lookup i).getD []
def dV.tb:Nat→List (List Nat):=fun i=>(([]:List (Nat×List (List Nat))).lookup i).getD []
def dV.mk (g:Int→Hp→OA) (args:List AV) (H:Hp):OA:=match args with
 | [(.int .i64 aa)]=>g aa H
 | _=>none
def dV.cs (F:Nat) (ic:Int→Int→Int→Hp→OA):List (FuncId×(List AV→Hp→OA)):=[(106,dp.mk ic)]
theorem dV.loops (F:Nat) (ic:Int→Int→Int→Hp→OA):LoopsOk tabs (mkOrc (dV.cs F ic)) dV.pn (dV.lh F ic) F [] 1 dV.code (fun tm H=>aresults tabs.ty H tm Try.f107.results.toList fun v=>some (v,H)) (fun _ _ _=>none) (fun tm H=>aresults tabs.ty H tm Try.f107.results.toList fun v=>some (v,H)):=by
 exact loops_none (by kernel_rfl)
theorem dV.eqX (F:Nat) (ic:Int→Int→Int→Hp→OA) (aa:Int) (H:Hp):aCode tabs (mkOrc (dV.cs F ic)) dV.pn (dV.lh F ic) F [] 1 dV.code (argTm [(.int .i64 aa)]) H (fun tm H=>aresults tabs.ty H tm Try.f107.results.toList fun v=>some (v,H)) (fun _ _ _=>none) (fun tm H=>aresults tabs.ty H tm Try.f107.results.toList fun v=>some (v,H)) = dV.twX F ic aa H:=by kernel_rfl
theorem dV.cs_ok (F:Nat):∀ p ∈ dV.cs F (dp.tw F),∀ args H v H',p.2 args H = some (v,H')→Go.AE.T Try.prog p.1 args H v H':=by
 intro p hp
 simp only [dV.cs,List.mem_cons,List.not_mem_nil,or_false] at hp
 subst hp
 exact fun args H v H' h=>dp.mk_T h
theorem dV.ok:codeOk dV.pn Try.f107.ntmps dV.tb dV.code = true:=by kernel_rfl
theorem dV.T {F:Nat} {aa:Int} {H:Hp} {v:AV} {H':Hp} (h:dV.tw F aa H = some (v,H')):Go.AE.T Try.prog 107 [(.int .i64 aa)] H v H':=
 Go.AE.T.of (Y:=tabs) (C:=mkOrc (dV.cs F (dp.tw F))) (PN:=dV.pn) (LH:=dV.lh F (dp.tw F)) (F:=F) (TB:=dV.tb) (fn:=Try.f107) (code:=dV.code) mixed tabs_ok (mkOrc_ok (dV.cs_ok F)) Try.func107 (by kernel_rfl) (by kernel_rfl) dV.ok (Nat.le_of_ble_eq_true (by kernel_rfl)) (dV.loops F (dp.tw F)) (Eq.trans (dV.eqX F (dp.tw F) aa H) h)
theorem dV.mk_T {F:Nat} {args:List AV} {H:Hp} {v:AV} {H':Hp} (h:dV.mk (dV.tw F) args H = some (v,H')):Go.AE.T Try.prog 107 args H v H':=by
 unfold dV.mk at h
 split at h
 ·exact dV.T h
 ·cases h
def cB.l13 (F:Nat) (iX:Int→Hp→OA) :Nat→Sl→Int→Int→Hp→OA
 | 0,_,_,_,_=>none
 | hE + 1,fI,eB,dF,H6=>(bif (decide (dF < eB)) then ((Sl.idx fI dF 1).bind fun p11=>(Hp.ldI H6 .i64 p11.1 p11.2).bind fun n12=>(iX n12 H6).bind fun r13=>((r13.1).asB).bind fun b14=>(bif b14 then (some ((.int .i64 dF),r13.2)) else (cB.l13 F iX hE fI eB (IntKind.i64.wrap (dF + 1)) r13.2))) else (some ((.int .i64 (-1)),H6)))
termination_by structural n=>n
def cB.twX (F:Nat) (iX:Int→Hp→OA) (aa:Sl) (H:Hp):OA:=cB.l13 F iX F aa (aa.n:Int) 0 H
def cB.tw (F:Nat) (aa:Sl) (H:Hp):OA:=cB.twX F (dV.tw F) aa H
def cB.code:Go.Code:=(Try.f117.body).getD .skip
def cB.lh13 (F:Nat) (iX:Int→Hp→OA) (ks:List Nat) (n:Nat) (tm:Tm) (H:Hp):OA:=match ks,tm 0,tm 1,tm 7,tm 8 with
 | [],(.sl fI),(.fn 107 []),(.int .i64 eB),(.int .i64 dF)=>cB.l13 F iX n fI eB dF H
 | _,_,_,_,_=>none
theorem cB.lh13_inv {F:Nat} {iX:Int→Hp→OA} {ks:List Nat} {n:Nat} {tm:Tm} {H:Hp} {r:AV×Hp} (h:cB.lh13 F iX ks n tm H = some r):∃ fI:Sl,∃ eB:Int,∃ dF:Int,ks = []∧tm 0 = (.sl fI)∧tm 1 = (.fn 107 [])∧tm 7 = (.int .i64 eB)∧tm 8 = (.int .i64 dF)∧cB.l13 F iX n fI eB dF H = some r:=by
 unfold cB.lh13 at h
 split at h
 ·exact ⟨_,_,_,rfl,by assumption,by assumption,by assumption,by assumption,h⟩
 ·cases h
def cB.lh (F:Nat) (iX:Int→Hp→OA) (p:Nat) (ks:List Nat) (n:Nat) (tm:Tm) (H:Hp):OA:=bif p.beq 13 then cB.lh13 F iX ks n tm H else (none)
def cB.pn:Nat→List Nat:=fun i=>(([]:List (Nat×List Nat)).lookup i).getD []
def cB.tb:Nat→List (List Nat):=fun i=>(([]:List (Nat×List (List Nat))).lookup i).getD []
def cB.mk (g:Sl→Hp→OA) (args:List AV) (H:Hp):OA:=match args with
 | [(.sl aa),(.fn 107 [])]=>g aa H
 | _=>none
def cB.cs (F:Nat) (iX:Int→Hp→OA):List (FuncId×(List AV→Hp→OA)):=[(107,dV.mk iX)]
theorem cB.loops (F:Nat) (iX:Int→Hp→OA):LoopsOk tabs (mkOrc (cB.cs F iX)) cB.pn (cB.lh F iX) F [] 1 cB.code (fun tm H=>aresults tabs.ty H tm Try.f117.results.toList fun v=>some (v,H)) (fun _ _ _=>none) (fun tm H=>aresults tabs.ty H tm Try.f117.results.toList fun v=>some (v,H)):=by
 refine LoopsOk.seq ?_ ?_
 ·exact loops_none (by kernel_rfl)
 ·refine LoopsOk.seq ?_ ?_
  ·refine LoopsOk.seq ?_ ?_
   ·exact loops_none (by kernel_rfl)
   ·refine LoopsOk.block ?_
    refine LoopsOk.loop (fun tm H=>?_) (fun k13 tm H r h0=>?_) (fun k13=>?_)
    ·refine none_of fun r h0=>?_
     obtain ⟨fI,eB,dF,hks,e0,e1,e7,e8,h⟩:=cB.lh13_inv (show cB.lh13 F iX [] 0 tm H = some r from h0)
     cases h
    ·obtain ⟨fI,eB,dF,hks,e0,e1,e7,e8,h⟩:=cB.lh13_inv (show cB.lh13 F iX [] (k13 + 1) tm H = some r from h0)
     have q0:(Tm.put tm 0 (.sl fI)) = tm:=by exact Tm.put_same e0
     have q1:(Tm.put (Tm.put tm 0 (.sl fI)) 1 (.fn 107 [])) = tm:=by rw [q0]; exact Tm.put_same e1
     have q2:(Tm.put (Tm.put (Tm.put tm 0 (.sl fI)) 1 (.fn 107 [])) 7 (.int .i64 eB)) = tm:=by rw [q1]; exact Tm.put_same e7
     have q3:(Tm.put (Tm.put (Tm.put (Tm.put tm 0 (.sl fI)) 1 (.fn 107 [])) 7 (.int .i64 eB)) 8 (.int .i64 dF)) = tm:=by rw [q2]; exact Tm.put_same e8
     rw [← q3]
     exact Eq.trans (by kernel_rfl) h
    ·exact loops_none (by kernel_rfl)
  ·exact loops_none (by kernel_rfl)
theorem cB.eqX (F:Nat) (iX:Int→Hp→OA) (aa:Sl) (H:Hp):aCode tabs (mkOrc (cB.cs F iX)) cB.pn (cB.lh F iX) F [] 1 cB.code (argTm [(.sl aa),(.fn 107 [])]) H (fun tm H=>aresults tabs.ty H tm Try.f117.results.toList fun v=>some (v,H)) (fun _ _ _=>none) (fun tm H=>aresults tabs.ty H tm Try.f117.results.toList fun v=>some (v,H)) = cB.twX F iX aa H:=by kernel_rfl
theorem cB.cs_ok (F:Nat):∀ p ∈ cB.cs F (dV.tw F),∀ args H v H',p.2 args H = some (v,H')→Go.AE.T Try.prog p.1 args H v H':=by
 intro p hp
 simp only [cB.cs,List.mem_cons,List.not_mem_nil,or_false] at hp
 subst hp
 exact fun args H v H' h=>dV.mk_T h
theorem cB.ok:codeOk cB.pn Try.f117.ntmps cB.tb cB.code = true:=by kernel_rfl
theorem cB.T {F:Nat} {aa:Sl} {H:Hp} {v:AV} {H':Hp} (h:cB.tw F aa H = some (v,H')):Go.AE.T Try.prog 117 [(.sl aa),(.fn 107 [])] H v H':=
 Go.AE.T.of (Y:=tabs) (C:=mkOrc (cB.cs F (dV.tw F))) (PN:=cB.pn) (LH:=cB.lh F (dV.tw F)) (F:=F) (TB:=cB.tb) (fn:=Try.f117) (code:=cB.code) mixed tabs_ok (mkOrc_ok (cB.cs_ok F)) Try.func117 (by kernel_rfl) (by kernel_rfl) cB.ok (Nat.le_of_ble_eq_true (by kernel_rfl)) (cB.loops F (dV.tw F)) (Eq.trans (cB.eqX F (dV.tw F) aa H) h)
theorem cB.mk_T {F:Nat} {args:List AV} {H:Hp} {v:AV} {H':Hp} (h:cB.mk (cB.tw F) args H = some (v,H')):Go.AE.T Try.prog 117 args H v H':=by
 unfold cB.mk at h
 split at h
 ·exact cB.T h
 ·cases h
def eh.twX (F:Nat) (lF:Sl→Hp→OA) (aa:Sl) (H:Hp):OA:=(lF aa H).bind fun r2=>((r2.1).asI .i64).bind fun n3=>some ((.bool (decide (n3 ≥ 0))),r2.2)
def eh.tw (F:Nat) (aa:Sl) (H:Hp):OA:=eh.twX F (cB.tw F) aa H
def eh.code:Go.Code:=(Try.f81.body).getD .skip
def eh.lh (F:Nat) (lF:Sl→Hp→OA) (p:Nat) (ks:List Nat) (n:Nat) (tm:Tm) (H:Hp):OA:=none
def eh.pn:Nat→List Nat:=fun i=>(([]:List (Nat×List Nat)).lookup i).getD []
def eh.tb:Nat→List (List Nat):=fun i=>(([]:List (Nat×List (List Nat))).lookup i).getD []
def eh.mk (g:Sl→Hp→OA) (args:List AV) (H:Hp):OA:=match args with
 | [(.sl aa),(.fn 107 [])]=>g aa H
 | _=>none
def eh.cs (F:Nat) (lF:Sl→Hp→OA):List (FuncId×(List AV→Hp→OA)):=[(117,cB.mk lF)]
theorem eh.loops (F:Nat) (lF:Sl→Hp→OA):LoopsOk tabs (mkOrc (eh.cs F lF)) eh.pn (eh.lh F lF) F [] 1 eh.code (fun tm H=>aresults tabs.ty H tm Try.f81.results.toList fun v=>some (v,H)) (fun _ _ _=>none) (fun tm H=>aresults tabs.ty H tm Try.f81.results.toList fun v=>some (v,H)):=by
 exact loops_none (by kernel_rfl)
theorem eh.eqX (F:Nat) (lF:Sl→Hp→OA) (aa:Sl) (H:Hp):aCode tabs (mkOrc (eh.cs F lF)) eh.pn (eh.lh F lF) F [] 1 eh.code (argTm [(.sl aa),(.fn 107 [])]) H (fun tm H=>aresults tabs.ty H tm Try.f81.results.toList fun v=>some (v,H)) (fun _ _ _=>none) (fun tm H=>aresults tabs.ty H tm Try.f81.results.toList fun v=>some (v,H)) = eh.twX F lF aa H:=by kernel_rfl
theorem eh.cs_ok (F:Nat):∀ p ∈ eh.cs F (cB.tw F),∀ args H v H',p.2 args H = some (v,H')→Go.AE.T Try.prog p.1 args H v H':=by
 intro p hp
 simp only [eh.cs,List.mem_cons,List.not_mem_nil,or_false] at hp
 subst hp
 exact fun args H v H' h=>cB.mk_T h
theorem eh.ok:codeOk eh.pn Try.f81.ntmps eh.tb eh.code = true:=by kernel_rfl
theorem eh.T {F:Nat} {aa:Sl} {H:Hp} {v:AV} {H':Hp} (h:eh.tw F aa H = some (v,H')):Go.AE.T Try.prog 81 [(.sl aa),(.fn 107 [])] H v H':=
 Go.AE.T.of (Y:=tabs) (C:=mkOrc (eh.cs F (cB.tw F))) (PN:=eh.pn) (LH:=eh.lh F (cB.tw F)) (F:=F) (TB:=eh.tb) (fn:=Try.f81) (code:=eh.code) mixed tabs_ok (mkOrc_ok (eh.cs_ok F)) Try.func81 (by kernel_rfl) (by kernel_rfl) eh.ok (Nat.le_of_ble_eq_true (by kernel_rfl)) (eh.loops F (cB.tw F)) (Eq.trans (eh.eqX F (cB.tw F) aa H) h)
theorem eh.mk_T {F:Nat} {args:List AV} {H:Hp} {v:AV} {H':Hp} (h:eh.mk (eh.tw F) args H = some (v,H')):Go.AE.T Try.prog 81 args H v H':=by
 unfold eh.mk at h
 split at h
 ·exact eh.T h
 ·cases h
def dW.twX (F:Nat) (ic:Int→Int→Int→Hp→OA) (iq:Sl→Hp→OA) (lG:Sl→Hp→OA) (aa:Int) (ac:Int) (aj:Sl) (H:Hp):OA:=(Hp.new H [(.int .i64 aa),(.int .i64 ac),(.sl aj)]).bind fun H4=>(Hp.ldI H4 .i64 H.length 0).bind fun n5=>(ic n5 0 48 H4).bind fun r6=>((r6.1).asB).bind fun b7=>(bif b7 then ((Hp.ldI r6.2 .i64 H.length 1).bind fun n8=>(ic n8 0 48 r6.2).bind fun r9=>((r9.1).asB).bind fun b10=>(bif b10 then ((Hp.ldSl r9.2 H.length 2).bind fun s11=>(iq s11 r9.2).bind fun r12=>((r12.1).asI .i64).bind fun n13=>(if Cons r9.2 r12.2 then ((Hp.ldI r12.2 .i64 H.length 0).bind fun n14=>(Hp.ldI r12.2 .i64 H.length 1).bind fun n15=>(bif (n13 == (IntKind.i64.wrap (n14 * n15))) then ((Hp.ldSl r12.2 H.length 2).bind fun s16=>(lG s16 r12.2).bind fun r17=>((r17.1).asB).bind fun b18=>some ((.bool (!b18)),r17.2)) else (some ((.bool false),r12.2)))) else none)) else (some ((.bool false),r9.2)))) else (some ((.bool false),r6.2)))
def dW.tw (F:Nat) (aa:Int) (ac:Int) (aj:Sl) (H:Hp):OA:=dW.twX F (dp.tw F) (dw.tw F) (eh.tw F) aa ac aj H
def dW.code:Go.Code:=(Try.f61.body).getD .skip
def dW.lh (F:Nat) (ic:Int→Int→Int→Hp→OA) (iq:Sl→Hp→OA) (lG:Sl→Hp→OA) (p:Nat) (ks:List Nat) (n:Nat) (tm:Tm) (H:Hp):OA:=none
def dW.pn:Nat→List Nat:=fun i=>(([(1,[2,6,22])]:List (Nat×List Nat)).lookup i).getD []
def dW.tb:Nat→List (List Nat):=fun i=>(([(1,[[],[0],[0,1],[0,1,2],[0,1,2,3],[0,1,2,3,4],[0,1,2,3,4,5],[0,1,2,3,4,5,6],[0,1,2,3,4,5,6,7],[0,1,2,3,4,5,6,7,8],[0,1,2,3,4,5,6,7,8,9],[0,1,2,3,4,5,6,7,8,9,10],[0,1,2,3,4,5,6,7,8],[0,1,2,3,4,5,6,7,8,12],[0,1,2,3,4,5,6,7,8],[0,1,2,3,4,5,6,7,8,14],[0,1,2,3,4,5,6,7,8,12,13,14,15],[0,1,2,3,4,5,6,7,8,9,10,11,12,13,14,15,16],[0,1,2,3,4,5,6,7,8,9,10,11,12,13,14,15,16,17],[0,1,2,3,4,5,6,7,8,9,10,11,12,13,14,15,16,17,18],[0,1,2,3,4,5,6,7,8,9,10,11,12,13,14,15,16,17,18,19],[0,1,2,3,4,5,6,7,8,9,10,11,12,13,14,15,16,17,18,19,20],[0,1,2,3,4,5,6,7,8,9,10,11,12,13,14,15,16,17,18,19,20,21],[0,1,2,3,4,5,6,7,8,9,10,11,12,13,14,15,16,17,18,19,20,21,22],[0,1,2,3,4,5,6,7,8,9,10,11,12,13,14,15,16,17,18,19,20,21,22,23],[0,1,2,3,4,5,6,7,8,9,10,11,12,13,14,15,16,17,18,19,20,21,22,23,24]])]:List (Nat×List (List Nat))).lookup i).getD []
def dW.mk (g:Int→Int→Sl→Hp→OA) (args:List AV) (H:Hp):OA:=match args with
 | [(.agg [(.int .i64 aa),(.int .i64 ac),(.sl aj)])]=>g aa ac aj H
 | _=>none
def dW.cs (F:Nat) (ic:Int→Int→Int→Hp→OA) (iq:Sl→Hp→OA) (lG:Sl→Hp→OA):List (FuncId×(List AV→Hp→OA)):=[(106,dp.mk ic),(73,dw.mk iq),(81,eh.mk lG)]
theorem dW.loops (F:Nat) (ic:Int→Int→Int→Hp→OA) (iq:Sl→Hp→OA) (lG:Sl→Hp→OA):LoopsOk tabs (mkOrc (dW.cs F ic iq lG)) dW.pn (dW.lh F ic iq lG) F [] 1 dW.code (fun tm H=>aresults tabs.ty H tm Try.f61.results.toList fun v=>some (v,H)) (fun _ _ _=>none) (fun tm H=>aresults tabs.ty H tm Try.f61.results.toList fun v=>some (v,H)):=by
 exact loops_none (by kernel_rfl)
theorem dW.eqX (F:Nat) (ic:Int→Int→Int→Hp→OA) (iq:Sl→Hp→OA) (lG:Sl→Hp→OA) (aa:Int) (ac:Int) (aj:Sl) (H:Hp):aCode tabs (mkOrc (dW.cs F ic iq lG)) dW.pn (dW.lh F ic iq lG) F [] 1 dW.code (argTm [(.agg [(.int .i64 aa),(.int .i64 ac),(.sl aj)])]) H (fun tm H=>aresults tabs.ty H tm Try.f61.results.toList fun v=>some (v,H)) (fun _ _ _=>none) (fun tm H=>aresults tabs.ty H tm Try.f61.results.toList fun v=>some (v,H)) = dW.twX F ic iq lG aa ac aj H:=by kernel_rfl
theorem dW.cs_ok (F:Nat):∀ p ∈ dW.cs F (dp.tw F) (dw.tw F) (eh.tw F),∀ args H v H',p.2 args H = some (v,H')→Go.AE.T Try.prog p.1 args H v H':=by
 intro p hp
 simp only [dW.cs,List.mem_cons,List.not_mem_nil,or_false] at hp
 rcases hp with rfl | rfl | rfl
 ·exact fun args H v H' h=>dp.mk_T h
 ·exact fun args H v H' h=>dw.mk_T h
 ·exact fun args H v H' h=>eh.mk_T h
theorem dW.ok:codeOk dW.pn Try.f61.ntmps dW.tb dW.code = true:=by kernel_rfl
theorem dW.T {F:Nat} {aa:Int} {ac:Int} {aj:Sl} {H:Hp} {v:AV} {H':Hp} (h:dW.tw F aa ac aj H = some (v,H')):Go.AE.T Try.prog 61 [(.agg [(.int .i64 aa),(.int .i64 ac),(.sl aj)])] H v H':=
 Go.AE.T.of (Y:=tabs) (C:=mkOrc (dW.cs F (dp.tw F) (dw.tw F) (eh.tw F))) (PN:=dW.pn) (LH:=dW.lh F (dp.tw F) (dw.tw F) (eh.tw F)) (F:=F) (TB:=dW.tb) (fn:=Try.f61) (code:=dW.code) mixed tabs_ok (mkOrc_ok (dW.cs_ok F)) Try.func61 (by kernel_rfl) (by kernel_rfl) dW.ok (Nat.le_of_ble_eq_true (by kernel_rfl)) (dW.loops F (dp.tw F) (dw.tw F) (eh.tw F)) (Eq.trans (dW.eqX F (dp.tw F) (dw.tw F) (eh.tw F) aa ac aj H) h)
theorem dW.mk_T {F:Nat} {args:List AV} {H:Hp} {v:AV} {H':Hp} (h:dW.mk (dW.tw F) args H = some (v,H')):Go.AE.T Try.prog 61 args H v H':=by
 unfold dW.mk at h
 split at h
 ·exact dW.T h
 ·cases h
def ei.twX (F:Nat) (aa:Int) (ag:Int) (H:Hp):OA:=(Hp.new H [.int .i64 0,.int .i64 0,.sl ⟨none,0,.ex 0⟩]).bind fun H3=>(Hp.mk H3 [.int .i64 0] 8 (IntKind.i64.wrap (aa * ag)) (IntKind.i64.wrap (aa * ag))).bind fun m4=>(Hp.st m4.2 H.length 0 (.int .i64 aa)).bind fun H5=>(Hp.st H5 H.length (0 + 1) (.int .i64 ag)).bind fun H6=>(Hp.st H6 H.length (0 + 1 + 1) (.sl m4.1)).bind fun H7=>(Hp.ldI H7 .i64 H.length 0).bind fun n8=>(Hp.ldI H7 .i64 H.length (0 + 1)).bind fun n9=>(Hp.ldSl H7 H.length (0 + 2)).bind fun s10=>some ((.agg [(.int .i64 n8),(.int .i64 n9),(.sl s10)]),H7)
def ei.tw (F:Nat) (aa:Int) (ag:Int) (H:Hp):OA:=ei.twX F aa ag H
def ei.code:Go.Code:=(Try.f94.body).getD .skip
def ei.lh (F:Nat) (p:Nat) (ks:List Nat) (n:Nat) (tm:Tm) (H:Hp):OA:=none
def ei.pn:Nat→List Nat:=fun i=>(([]:List (Nat×List Nat)).lookup i).getD []
def ei.tb:Nat→List (List Nat):=fun i=>(([]:List (Nat×List (List Nat))).lookup i).getD []
def ei.mk (g:Int→Int→Hp→OA) (args:List AV) (H:Hp):OA:=match args with
 | [(.int .i64 aa),(.int .i64 ag)]=>g aa ag H
 | _=>none
def ei.cs (F:Nat):List (FuncId×(List AV→Hp→OA)):=[]
theorem ei.loops (F:Nat):LoopsOk tabs (mkOrc (ei.cs F)) ei.pn (ei.lh F) F [] 1 ei.code (fun tm H=>aresults tabs.ty H tm Try.f94.results.toList fun v=>some (v,H)) (fun _ _ _=>none) (fun tm H=>aresults tabs.ty H tm Try.f94.results.toList fun v=>some (v,H)):=by
 exact loops_none (by kernel_rfl)
theorem ei.eqX (F:Nat) (aa:Int) (ag:Int) (H:Hp):aCode tabs (mkOrc (ei.cs F)) ei.pn (ei.lh F) F [] 1 ei.code (argTm [(.int .i64 aa),(.int .i64 ag)]) H (fun tm H=>aresults tabs.ty H tm Try.f94.results.toList fun v=>some (v,H)) (fun _ _ _=>none) (fun tm H=>aresults tabs.ty H tm Try.f94.results.toList fun v=>some (v,H)) = ei.twX F aa ag H:=by kernel_rfl
theorem ei.cs_ok (F:Nat):∀ p ∈ ei.cs F,∀ args H v H',p.2 args H = some (v,H')→Go.AE.T Try.prog p.1 args H v H':=by
 intro p hp
 exact absurd (show p ∈ [] from hp) List.not_mem_nil
theorem ei.ok:codeOk ei.pn Try.f94.ntmps ei.tb ei.code = true:=by kernel_rfl
theorem ei.T {F:Nat} {aa:Int} {ag:Int} {H:Hp} {v:AV} {H':Hp} (h:ei.tw F aa ag H = some (v,H')):Go.AE.T Try.prog 94 [(.int .i64 aa),(.int .i64 ag)] H v H':=
 Go.AE.T.of (Y:=tabs) (C:=mkOrc (ei.cs F)) (PN:=ei.pn) (LH:=ei.lh F) (F:=F) (TB:=ei.tb) (fn:=Try.f94) (code:=ei.code) mixed tabs_ok (mkOrc_ok (ei.cs_ok F)) Try.func94 (by kernel_rfl) (by kernel_rfl) ei.ok (Nat.le_of_ble_eq_true (by kernel_rfl)) (ei.loops F) (Eq.trans (ei.eqX F aa ag H) h)
theorem ei.mk_T {F:Nat} {args:List AV} {H:Hp} {v:AV} {H':Hp} (h:ei.mk (ei.tw F) args H = some (v,H')):Go.AE.T Try.prog 94 args H v H':=by
 unfold ei.mk at h
 split at h
 ·exact ei.T h
 ·cases h
def aO.twX (F:Nat) (aa:Int) (ac:Int) (aj:Sl) (af:Int) (bi:Int) (H:Hp):OA:=(Hp.new H [(.int .i64 aa),(.int .i64 ac),(.sl aj)]).bind fun H6=>(Hp.ldSl H6 H.length 2).bind fun s7=>(Hp.ldI H6 .i64 H.length 1).bind fun n8=>(Sl.idx s7 (IntKind.i64.wrap ((IntKind.i64.wrap (af * n8)) + bi)) 1).bind fun p9=>some ((.ptr p9.1 p9.2),H6)
def aO.tw (F:Nat) (aa:Int) (ac:Int) (aj:Sl) (af:Int) (bi:Int) (H:Hp):OA:=aO.twX F aa ac aj af bi H
def aO.code:Go.Code:=(Try.f95.body).getD .skip
def aO.lh (F:Nat) (p:Nat) (ks:List Nat) (n:Nat) (tm:Tm) (H:Hp):OA:=none
def aO.pn:Nat→List Nat:=fun i=>(([]:List (Nat×List Nat)).lookup i).getD []
def aO.tb:Nat→List (List Nat):=fun i=>(([]:List (Nat×List (List Nat))).lookup i).getD []
def aO.mk (g:Int→Int→Sl→Int→Int→Hp→OA) (args:List AV) (H:Hp):OA:=match args with
 | [(.agg [(.int .i64 aa),(.int .i64 ac),(.sl aj)]),(.int .i64 af),(.int .i64 bi)]=>g aa ac aj af bi H
 | _=>none
def aO.cs (F:Nat):List (FuncId×(List AV→Hp→OA)):=[]
theorem aO.loops (F:Nat):LoopsOk tabs (mkOrc (aO.cs F)) aO.pn (aO.lh F) F [] 1 aO.code (fun tm H=>aresults tabs.ty H tm Try.f95.results.toList fun v=>some (v,H)) (fun _ _ _=>none) (fun tm H=>aresults tabs.ty H tm Try.f95.results.toList fun v=>some (v,H)):=by
 exact loops_none (by kernel_rfl)
theorem aO.eqX (F:Nat) (aa:Int) (ac:Int) (aj:Sl) (af:Int) (bi:Int) (H:Hp):aCode tabs (mkOrc (aO.cs F)) aO.pn (aO.lh F) F [] 1 aO.code (argTm [(.agg [(.int .i64 aa),(.int .i64 ac),(.sl aj)]),(.int .i64 af),(.int .i64 bi)]) H (fun tm H=>aresults tabs.ty H tm Try.f95.results.toList fun v=>some (v,H)) (fun _ _ _=>none) (fun tm H=>aresults tabs.ty H tm Try.f95.results.toList fun v=>some (v,H)) = aO.twX F aa ac aj af bi H:=by kernel_rfl
theorem aO.cs_ok (F:Nat):∀ p ∈ aO.cs F,∀ args H v H',p.2 args H = some (v,H')→Go.AE.T Try.prog p.1 args H v H':=by
 intro p hp
 exact absurd (show p ∈ [] from hp) List.not_mem_nil
theorem aO.ok:codeOk aO.pn Try.f95.ntmps aO.tb aO.code = true:=by kernel_rfl
theorem aO.T {F:Nat} {aa:Int} {ac:Int} {aj:Sl} {af:Int} {bi:Int} {H:Hp} {v:AV} {H':Hp} (h:aO.tw F aa ac aj af bi H = some (v,H')):Go.AE.T Try.prog 95 [(.agg [(.int .i64 aa),(.int .i64 ac),(.sl aj)]),(.int .i64 af),(.int .i64 bi)] H v H':=
 Go.AE.T.of (Y:=tabs) (C:=mkOrc (aO.cs F)) (PN:=aO.pn) (LH:=aO.lh F) (F:=F) (TB:=aO.tb) (fn:=Try.f95) (code:=aO.code) mixed tabs_ok (mkOrc_ok (aO.cs_ok F)) Try.func95 (by kernel_rfl) (by kernel_rfl) aO.ok (Nat.le_of_ble_eq_true (by kernel_rfl)) (aO.loops F) (Eq.trans (aO.eqX F aa ac aj af bi H) h)
theorem aO.mk_T {F:Nat} {args:List AV} {H:Hp} {v:AV} {H':Hp} (h:aO.mk (aO.tw F) args H = some (v,H')):Go.AE.T Try.prog 95 args H v H':=by
 unfold aO.mk at h
 split at h
 ·exact aO.T h
 ·cases h
def bP.l29 (F:Nat) (iY:Int→Int→Hp→OA) (ah:Int→Int→Sl→Int→Int→Hp→OA) :Nat→Nat→Nat→Nat→Nat→Int→Int→Hp→OA
 | 0,_,_,_,_,_,_,_=>none
 | fa + 1,ck,gd,fH,gu,jN,iZ,H22=>(bif (decide (iZ < jN)) then ((Hp.ldI H22 .i64 fH gu).bind fun n38=>(Hp.ldI H22 .i64 fH (gu + 1)).bind fun n39=>(Hp.ldSl H22 fH (gu + 2)).bind fun s40=>(ah n38 n39 s40 iZ iZ H22).bind fun r41=>((r41.1).asP).bind fun p42=>(Hp.st r41.2 p42.1 p42.2 (.int .i64 1)).bind fun H43=>bP.l29 F iY ah fa ck gd fH gu jN (IntKind.i64.wrap (iZ + 1)) H43) else ((Hp.ldI H22 .i64 fH gu).bind fun n44=>(Hp.ldI H22 .i64 fH (gu + 1)).bind fun n45=>(Hp.ldSl H22 fH (gu + 2)).bind fun s46=>(Hp.st H22 ck gd (.int .i64 n44)).bind fun H47=>(Hp.st H47 ck (gd + 1) (.int .i64 n45)).bind fun H48=>(Hp.st H48 ck (gd + 1 + 1) (.sl s46)).bind fun H49=>(Hp.ldI H49 .i64 ck gd).bind fun n50=>(Hp.ldI H49 .i64 ck (gd + 1)).bind fun n51=>(Hp.ldSl H49 ck (gd + 2)).bind fun s52=>some ((.agg [(.int .i64 n50),(.int .i64 n51),(.sl s52)]),H49)))
termination_by structural n=>n
def bP.twX (F:Nat) (iY:Int→Int→Hp→OA) (ah:Int→Int→Sl→Int→Int→Hp→OA) (aa:Int) (H:Hp):OA:=(Hp.new H [.int .i64 0,.int .i64 0,.sl ⟨none,0,.ex 0⟩]).bind fun H2=>(iY aa aa H2).bind fun r3=>((r3.1).asAgg 3).bind fun l4=>(l4[0]?).bind fun v5=>((v5).asI .i64).bind fun n6=>(l4[1]?).bind fun v7=>((v7).asI .i64).bind fun n8=>(l4[2]?).bind fun v9=>((v9).asSl).bind fun s10=>(Hp.new r3.2 [.int .i64 0,.int .i64 0,.sl ⟨none,0,.ex 0⟩]).bind fun H11=>(Hp.st H11 r3.2.length 0 (.int .i64 n6)).bind fun H12=>(Hp.st H12 r3.2.length (0 + 1) (.int .i64 n8)).bind fun H13=>(Hp.st H13 r3.2.length (0 + 1 + 1) (.sl s10)).bind fun H14=>bP.l29 F iY ah F H.length 0 r3.2.length 0 aa 0 H14
def bP.tw (F:Nat) (aa:Int) (H:Hp):OA:=bP.twX F (ei.tw F) (aO.tw F) aa H
def bP.code:Go.Code:=(Try.f110.body).getD .skip
def bP.lh29 (F:Nat) (iY:Int→Int→Hp→OA) (ah:Int→Int→Sl→Int→Int→Hp→OA) (ks:List Nat) (n:Nat) (tm:Tm) (H:Hp):OA:=match ks,tm 2,tm 3,tm 8,tm 9 with
 | [],(.ptr ck gd),(.ptr fH gu),(.int .i64 jN),(.int .i64 iZ)=>bP.l29 F iY ah n ck gd fH gu jN iZ H
 | _,_,_,_,_=>none
theorem bP.lh29_inv {F:Nat} {iY:Int→Int→Hp→OA} {ah:Int→Int→Sl→Int→Int→Hp→OA} {ks:List Nat} {n:Nat} {tm:Tm} {H:Hp} {r:AV×Hp} (h:bP.lh29 F iY ah ks n tm H = some r):∃ ck:Nat,∃ gd:Nat,∃ fH:Nat,∃ gu:Nat,∃ jN:Int,∃ iZ:Int,ks = []∧tm 2 = (.ptr ck gd)∧tm 3 = (.ptr fH gu)∧tm 8 = (.int .i64 jN)∧tm 9 = (.int .i64 iZ)∧bP.l29 F iY ah n ck gd fH gu jN iZ H = some r:=by
 unfold bP.lh29 at h
 split at h
 ·exact ⟨_,_,_,_,_,_,rfl,by assumption,by assumption,by assumption,by assumption,h⟩
 ·cases h
def bP.lh (F:Nat) (iY:Int→Int→Hp→OA) (ah:Int→Int→Sl→Int→Int→Hp→OA) (p:Nat) (ks:List Nat) (n:Nat) (tm:Tm) (H:Hp):OA:=bif p.beq 29 then bP.lh29 F iY ah ks n tm H else (none)
def bP.pn:Nat→List Nat:=fun i=>(([]:List (Nat×List Nat)).lookup i).getD []
def bP.tb:Nat→List (List Nat):=fun i=>(([]:List (Nat×List (List Nat))).lookup i).getD []
def bP.mk (g:Int→Hp→OA) (args:List AV) (H:Hp):OA:=match args with
 | [(.int .i64 aa)]=>g aa H
 | _=>none
def bP.cs (F:Nat) (iY:Int→Int→Hp→OA) (ah:Int→Int→Sl→Int→Int→Hp→OA):List (FuncId×(List AV→Hp→OA)):=[(94,ei.mk iY),(95,aO.mk ah)]
theorem bP.loops (F:Nat) (iY:Int→Int→Hp→OA) (ah:Int→Int→Sl→Int→Int→Hp→OA):LoopsOk tabs (mkOrc (bP.cs F iY ah)) bP.pn (bP.lh F iY ah) F [] 1 bP.code (fun tm H=>aresults tabs.ty H tm Try.f110.results.toList fun v=>some (v,H)) (fun _ _ _=>none) (fun tm H=>aresults tabs.ty H tm Try.f110.results.toList fun v=>some (v,H)):=by
 refine LoopsOk.seq ?_ ?_
 ·exact loops_none (by kernel_rfl)
 ·refine LoopsOk.seq ?_ ?_
  ·exact loops_none (by kernel_rfl)
  ·refine LoopsOk.seq ?_ ?_
   ·refine LoopsOk.seq ?_ ?_
    ·exact loops_none (by kernel_rfl)
    ·refine LoopsOk.block ?_
     refine LoopsOk.loop (fun tm H=>?_) (fun k29 tm H r h0=>?_) (fun k29=>?_)
     ·refine none_of fun r h0=>?_
      obtain ⟨ck,gd,fH,gu,jN,iZ,hks,e2,e3,e8,e9,h⟩:=bP.lh29_inv (show bP.lh29 F iY ah [] 0 tm H = some r from h0)
      cases h
     ·obtain ⟨ck,gd,fH,gu,jN,iZ,hks,e2,e3,e8,e9,h⟩:=bP.lh29_inv (show bP.lh29 F iY ah [] (k29 + 1) tm H = some r from h0)
      have q0:(Tm.put tm 2 (.ptr ck gd)) = tm:=by exact Tm.put_same e2
      have q1:(Tm.put (Tm.put tm 2 (.ptr ck gd)) 3 (.ptr fH gu)) = tm:=by rw [q0]; exact Tm.put_same e3
      have q2:(Tm.put (Tm.put (Tm.put tm 2 (.ptr ck gd)) 3 (.ptr fH gu)) 8 (.int .i64 jN)) = tm:=by rw [q1]; exact Tm.put_same e8
      have q3:(Tm.put (Tm.put (Tm.put (Tm.put tm 2 (.ptr ck gd)) 3 (.ptr fH gu)) 8 (.int .i64 jN)) 9 (.int .i64 iZ)) = tm:=by rw [q2]; exact Tm.put_same e9
      rw [← q3]
      exact Eq.trans (by kernel_rfl) h
     ·exact loops_none (by kernel_rfl)
   ·exact loops_none (by kernel_rfl)
theorem bP.eqX (F:Nat) (iY:Int→Int→Hp→OA) (ah:Int→Int→Sl→Int→Int→Hp→OA) (aa:Int) (H:Hp):aCode tabs (mkOrc (bP.cs F iY ah)) bP.pn (bP.lh F iY ah) F [] 1 bP.code (argTm [(.int .i64 aa)]) H (fun tm H=>aresults tabs.ty H tm Try.f110.results.toList fun v=>some (v,H)) (fun _ _ _=>none) (fun tm H=>aresults tabs.ty H tm Try.f110.results.toList fun v=>some (v,H)) = bP.twX F iY ah aa H:=by kernel_rfl
theorem bP.cs_ok (F:Nat):∀ p ∈ bP.cs F (ei.tw F) (aO.tw F),∀ args H v H',p.2 args H = some (v,H')→Go.AE.T Try.prog p.1 args H v H':=by
 intro p hp
 simp only [bP.cs,List.mem_cons,List.not_mem_nil,or_false] at hp
 rcases hp with rfl | rfl
 ·exact fun args H v H' h=>ei.mk_T h
 ·exact fun args H v H' h=>aO.mk_T h
theorem bP.ok:codeOk bP.pn Try.f110.ntmps bP.tb bP.code = true:=by kernel_rfl
theorem bP.T {F:Nat} {aa:Int} {H:Hp} {v:AV} {H':Hp} (h:bP.tw F aa H = some (v,H')):Go.AE.T Try.prog 110 [(.int .i64 aa)] H v H':=
 Go.AE.T.of (Y:=tabs) (C:=mkOrc (bP.cs F (ei.tw F) (aO.tw F))) (PN:=bP.pn) (LH:=bP.lh F (ei.tw F) (aO.tw F)) (F:=F) (TB:=bP.tb) (fn:=Try.f110) (code:=bP.code) mixed tabs_ok (mkOrc_ok (bP.cs_ok F)) Try.func110 (by kernel_rfl) (by kernel_rfl) bP.ok (Nat.le_of_ble_eq_true (by kernel_rfl)) (bP.loops F (ei.tw F) (aO.tw F)) (Eq.trans (bP.eqX F (ei.tw F) (aO.tw F) aa H) h)
theorem bP.mk_T {F:Nat} {args:List AV} {H:Hp} {v:AV} {H':Hp} (h:bP.mk (bP.tw F) args H = some (v,H')):Go.AE.T Try.prog 110 args H v H':=by
 unfold bP.mk at h
 split at h
 ·exact bP.T h
 ·cases h
def ev.twX (F:Nat) (aa:Sl) (H:Hp):OA:=(bif (aa.a.isNone) then (some ((.sl (⟨none,0,.ex 0⟩:Sl)),H)) else ((Hp.new H []).bind fun H2=>(Sl.row H2 aa 1).bind fun xs4=>(Hp.app H2 1 8 (⟨some (H.length,0),0,.ex 0⟩:Sl) aa.n xs4).bind fun a3=>some ((.sl a3.1),a3.2)))
def ev.tw (F:Nat) (aa:Sl) (H:Hp):OA:=ev.twX F aa H
def ev.code:Go.Code:=(Try.f149.body).getD .skip
def ev.lh (F:Nat) (p:Nat) (ks:List Nat) (n:Nat) (tm:Tm) (H:Hp):OA:=none
def ev.pn:Nat→List Nat:=fun i=>(([]:List (Nat×List Nat)).lookup i).getD []
def ev.tb:Nat→List (List Nat):=fun i=>(([]:List (Nat×List (List Nat))).lookup i).getD []
def ev.mk (g:Sl→Hp→OA) (args:List AV) (H:Hp):OA:=match args with
 | [(.sl aa)]=>g aa H
 | _=>none
def ev.cs (F:Nat):List (FuncId×(List AV→Hp→OA)):=[]
theorem ev.loops (F:Nat):LoopsOk tabs (mkOrc (ev.cs F)) ev.pn (ev.lh F) F [] 1 ev.code (fun tm H=>aresults tabs.ty H tm Try.f149.results.toList fun v=>some (v,H)) (fun _ _ _=>none) (fun tm H=>aresults tabs.ty H tm Try.f149.results.toList fun v=>some (v,H)):=by
 exact loops_none (by kernel_rfl)
theorem ev.eqX (F:Nat) (aa:Sl) (H:Hp):aCode tabs (mkOrc (ev.cs F)) ev.pn (ev.lh F) F [] 1 ev.code (argTm [(.sl aa)]) H (fun tm H=>aresults tabs.ty H tm Try.f149.results.toList fun v=>some (v,H)) (fun _ _ _=>none) (fun tm H=>aresults tabs.ty H tm Try.f149.results.toList fun v=>some (v,H)) = ev.twX F aa H:=by kernel_rfl
theorem ev.cs_ok (F:Nat):∀ p ∈ ev.cs F,∀ args H v H',p.2 args H = some (v,H')→Go.AE.T Try.prog p.1 args H v H':=by
 intro p hp
 exact absurd (show p ∈ [] from hp) List.not_mem_nil
theorem ev.ok:codeOk ev.pn Try.f149.ntmps ev.tb ev.code = true:=by kernel_rfl
theorem ev.T {F:Nat} {aa:Sl} {H:Hp} {v:AV} {H':Hp} (h:ev.tw F aa H = some (v,H')):Go.AE.T Try.prog 149 [(.sl aa)] H v H':=
 Go.AE.T.of (Y:=tabs) (C:=mkOrc (ev.cs F)) (PN:=ev.pn) (LH:=ev.lh F) (F:=F) (TB:=ev.tb) (fn:=Try.f149) (code:=ev.code) mixed tabs_ok (mkOrc_ok (ev.cs_ok F)) Try.func149 (by kernel_rfl) (by kernel_rfl) ev.ok (Nat.le_of_ble_eq_true (by kernel_rfl)) (ev.loops F) (Eq.trans (ev.eqX F aa H) h)
theorem ev.mk_T {F:Nat} {args:List AV} {H:Hp} {v:AV} {H':Hp} (h:ev.mk (ev.tw F) args H = some (v,H')):Go.AE.T Try.prog 149 args H v H':=by
 unfold ev.mk at h
 split at h
 ·exact ev.T h
 ·cases h
def dX.twX (F:Nat) (lH:Sl→Hp→OA) (aa:Int) (ac:Int) (aj:Sl) (H:Hp):OA:=(Hp.new H [(.int .i64 aa),(.int .i64 ac),(.sl aj)]).bind fun H4=>(Hp.new H4 [.int .i64 0,.int .i64 0,.sl ⟨none,0,.ex 0⟩]).bind fun H5=>(Hp.ldSl H5 H.length 2).bind fun s6=>(lH s6 H5).bind fun r7=>((r7.1).asSl).bind fun s8=>(Hp.st r7.2 H.length 2 (.sl s8)).bind fun H9=>(Hp.ldI H9 .i64 H.length 0).bind fun n10=>(Hp.ldI H9 .i64 H.length (0 + 1)).bind fun n11=>(Hp.ldSl H9 H.length (0 + 2)).bind fun s12=>(Hp.st H9 H4.length 0 (.int .i64 n10)).bind fun H13=>(Hp.st H13 H4.length (0 + 1) (.int .i64 n11)).bind fun H14=>(Hp.st H14 H4.length (0 + 1 + 1) (.sl s12)).bind fun H15=>(Hp.ldI H15 .i64 H4.length 0).bind fun n16=>(Hp.ldI H15 .i64 H4.length (0 + 1)).bind fun n17=>(Hp.ldSl H15 H4.length (0 + 2)).bind fun s18=>some ((.agg [(.int .i64 n16),(.int .i64 n17),(.sl s18)]),H15)
def dX.tw (F:Nat) (aa:Int) (ac:Int) (aj:Sl) (H:Hp):OA:=dX.twX F (ev.tw F) aa ac aj H
def dX.code:Go.Code:=(Try.f132.body).getD .skip
def dX.lh (F:Nat) (lH:Sl→Hp→OA) (p:Nat) (ks:List Nat) (n:Nat) (tm:Tm) (H:Hp):OA:=none
def dX.pn:Nat→List Nat:=fun i=>(([]:List (Nat×List Nat)).lookup i).getD []
def dX.tb:Nat→List (List Nat):=fun i=>(([]:List (Nat×List (List Nat))).lookup i).getD []
def dX.mk (g:Int→Int→Sl→Hp→OA) (args:List AV) (H:Hp):OA:=match args with
 | [(.agg [(.int .i64 aa),(.int .i64 ac),(.sl aj)])]=>g aa ac aj H
 | _=>none
def dX.cs (F:Nat) (lH:Sl→Hp→OA):List (FuncId×(List AV→Hp→OA)):=[(149,ev.mk lH)]
theorem dX.loops (F:Nat) (lH:Sl→Hp→OA):LoopsOk tabs (mkOrc (dX.cs F lH)) dX.pn (dX.lh F lH) F [] 1 dX.code (fun tm H=>aresults tabs.ty H tm Try.f132.results.toList fun v=>some (v,H)) (fun _ _ _=>none) (fun tm H=>aresults tabs.ty H tm Try.f132.results.toList fun v=>some (v,H)):=by
 exact loops_none (by kernel_rfl)
theorem dX.eqX (F:Nat) (lH:Sl→Hp→OA) (aa:Int) (ac:Int) (aj:Sl) (H:Hp):aCode tabs (mkOrc (dX.cs F lH)) dX.pn (dX.lh F lH) F [] 1 dX.code (argTm [(.agg [(.int .i64 aa),(.int .i64 ac),(.sl aj)])]) H (fun tm H=>aresults tabs.ty H tm Try.f132.results.toList fun v=>some (v,H)) (fun _ _ _=>none) (fun tm H=>aresults tabs.ty H tm Try.f132.results.toList fun v=>some (v,H)) = dX.twX F lH aa ac aj H:=by kernel_rfl
theorem dX.cs_ok (F:Nat):∀ p ∈ dX.cs F (ev.tw F),∀ args H v H',p.2 args H = some (v,H')→Go.AE.T Try.prog p.1 args H v H':=by
 intro p hp
 simp only [dX.cs,List.mem_cons,List.not_mem_nil,or_false] at hp
 subst hp
 exact fun args H v H' h=>ev.mk_T h
theorem dX.ok:codeOk dX.pn Try.f132.ntmps dX.tb dX.code = true:=by kernel_rfl
theorem dX.T {F:Nat} {aa:Int} {ac:Int} {aj:Sl} {H:Hp} {v:AV} {H':Hp} (h:dX.tw F aa ac aj H = some (v,H')):Go.AE.T Try.prog 132 [(.agg [(.int .i64 aa),(.int .i64 ac),(.sl aj)])] H v H':=
 Go.AE.T.of (Y:=tabs) (C:=mkOrc (dX.cs F (ev.tw F))) (PN:=dX.pn) (LH:=dX.lh F (ev.tw F)) (F:=F) (TB:=dX.tb) (fn:=Try.f132) (code:=dX.code) mixed tabs_ok (mkOrc_ok (dX.cs_ok F)) Try.func132 (by kernel_rfl) (by kernel_rfl) dX.ok (Nat.le_of_ble_eq_true (by kernel_rfl)) (dX.loops F (ev.tw F)) (Eq.trans (dX.eqX F (ev.tw F) aa ac aj H) h)
theorem dX.mk_T {F:Nat} {args:List AV} {H:Hp} {v:AV} {H':Hp} (h:dX.mk (dX.tw F) args H = some (v,H')):Go.AE.T Try.prog 132 args H v H':=by
 unfold dX.mk at h
 split at h
 ·exact dX.T h
 ·cases h
def eT.twX (F:Nat) (kR:Int→Hp→OA) (lI:Int→Int→Sl→Hp→OA) (aa:Int) (ac:Int) (aj:Sl) (H:Hp):OA:=(Hp.new H [(.int .i64 aa),(.int .i64 ac),(.sl aj)]).bind fun H4=>(Hp.ldI H4 .i64 H.length 0).bind fun n5=>(kR n5 H4).bind fun r6=>((r6.1).asAgg 3).bind fun l7=>(l7[0]?).bind fun v8=>((v8).asI .i64).bind fun n9=>(l7[1]?).bind fun v10=>((v10).asI .i64).bind fun n11=>(l7[2]?).bind fun v12=>((v12).asSl).bind fun s13=>(if Cons H4 r6.2 then ((Hp.ldI r6.2 .i64 H.length 0).bind fun n14=>(kR n14 r6.2).bind fun r15=>((r15.1).asAgg 3).bind fun l16=>(l16[0]?).bind fun v17=>((v17).asI .i64).bind fun n18=>(l16[1]?).bind fun v19=>((v19).asI .i64).bind fun n20=>(l16[2]?).bind fun v21=>((v21).asSl).bind fun s22=>(if Cons r6.2 r15.2 then ((Hp.ldI r15.2 .i64 H.length 0).bind fun n23=>(Hp.ldI r15.2 .i64 H.length (0 + 1)).bind fun n24=>(Hp.ldSl r15.2 H.length (0 + 2)).bind fun s25=>(lI n23 n24 s25 r15.2).bind fun r26=>((r26.1).asAgg 3).bind fun l27=>(l27[0]?).bind fun v28=>((v28).asI .i64).bind fun n29=>(l27[1]?).bind fun v30=>((v30).asI .i64).bind fun n31=>(l27[2]?).bind fun v32=>((v32).asSl).bind fun s33=>(if Cons r15.2 r26.2 then ((Hp.ldI r26.2 .i64 H.length 1).bind fun n34=>(kR n34 r26.2).bind fun r35=>((r35.1).asAgg 3).bind fun l36=>(l36[0]?).bind fun v37=>((v37).asI .i64).bind fun n38=>(l36[1]?).bind fun v39=>((v39).asI .i64).bind fun n40=>(l36[2]?).bind fun v41=>((v41).asSl).bind fun s42=>(if Cons r26.2 r35.2 then ((Hp.ldI r35.2 .i64 H.length 1).bind fun n43=>(kR n43 r35.2).bind fun r44=>((r44.1).asAgg 3).bind fun l45=>(l45[0]?).bind fun v46=>((v46).asI .i64).bind fun n47=>(l45[1]?).bind fun v48=>((v48).asI .i64).bind fun n49=>(l45[2]?).bind fun v50=>((v50).asSl).bind fun s51=>(Hp.new r44.2 [(.int .i64 n9),(.int .i64 n11),(.sl s13),(.int .i64 n18),(.int .i64 n20),(.sl s22),(.int .i64 n29),(.int .i64 n31),(.sl s33),(.int .i64 n38),(.int .i64 n40),(.sl s42),(.int .i64 n47),(.int .i64 n49),(.sl s51),(.bool false)]).bind fun H52=>some ((.ptr r44.2.length 0),H52)) else none)) else none)) else none)) else none)
def eT.tw (F:Nat) (aa:Int) (ac:Int) (aj:Sl) (H:Hp):OA:=eT.twX F (bP.tw F) (dX.tw F) aa ac aj H
def eT.code:Go.Code:=(Try.f108.body).getD .skip
def eT.lh (F:Nat) (kR:Int→Hp→OA) (lI:Int→Int→Sl→Hp→OA) (p:Nat) (ks:List Nat) (n:Nat) (tm:Tm) (H:Hp):OA:=none
def eT.pn:Nat→List Nat:=fun i=>(([(1,[13])]:List (Nat×List Nat)).lookup i).getD []
def eT.tb:Nat→List (List Nat):=fun i=>(([(1,[[],[0],[0,1],[],[3],[0,1,2,3,4],[],[0,1,2,3,4,5,6],[],[8],[0,1,2,3,4,5,6,7,8,9],[],[11],[0,1,2,3,4,5,6,7,8,9,10,11,12],[0,1,2,3,4,5,6,7,8,9,10,11,12,13],[0,1,2,3,4,5,6,7,8,9,10,11,12,13,14],[0,1,2,3,4,5,6,7,8,9,10,11,12,13,14,15],[0,1,2,3,4,5,6,7,8,9,10,11,12,13,14,15,16]])]:List (Nat×List (List Nat))).lookup i).getD []
def eT.mk (g:Int→Int→Sl→Hp→OA) (args:List AV) (H:Hp):OA:=match args with
 | [(.agg [(.int .i64 aa),(.int .i64 ac),(.sl aj)])]=>g aa ac aj H
 | _=>none
def eT.cs (F:Nat) (kR:Int→Hp→OA) (lI:Int→Int→Sl→Hp→OA):List (FuncId×(List AV→Hp→OA)):=[(110,bP.mk kR),(132,dX.mk lI)]
theorem eT.loops (F:Nat) (kR:Int→Hp→OA) (lI:Int→Int→Sl→Hp→OA):LoopsOk tabs (mkOrc (eT.cs F kR lI)) eT.pn (eT.lh F kR lI) F [] 1 eT.code (fun tm H=>aresults tabs.ty H tm Try.f108.results.toList fun v=>some (v,H)) (fun _ _ _=>none) (fun tm H=>aresults tabs.ty H tm Try.f108.results.toList fun v=>some (v,H)):=by
 exact loops_none (by kernel_rfl)
theorem eT.eqX (F:Nat) (kR:Int→Hp→OA) (lI:Int→Int→Sl→Hp→OA) (aa:Int) (ac:Int) (aj:Sl) (H:Hp):aCode tabs (mkOrc (eT.cs F kR lI)) eT.pn (eT.lh F kR lI) F [] 1 eT.code (argTm [(.agg [(.int .i64 aa),(.int .i64 ac),(.sl aj)])]) H (fun tm H=>aresults tabs.ty H tm Try.f108.results.toList fun v=>some (v,H)) (fun _ _ _=>none) (fun tm H=>aresults tabs.ty H tm Try.f108.results.toList fun v=>some (v,H)) = eT.twX F kR lI aa ac aj H:=by kernel_rfl
theorem eT.cs_ok (F:Nat):∀ p ∈ eT.cs F (bP.tw F) (dX.tw F),∀ args H v H',p.2 args H = some (v,H')→Go.AE.T Try.prog p.1 args H v H':=by
 intro p hp
 simp only [eT.cs,List.mem_cons,List.not_mem_nil,or_false] at hp
 rcases hp with rfl | rfl
 ·exact fun args H v H' h=>bP.mk_T h
 ·exact fun args H v H' h=>dX.mk_T h
theorem eT.ok:codeOk eT.pn Try.f108.ntmps eT.tb eT.code = true:=by kernel_rfl
theorem eT.T {F:Nat} {aa:Int} {ac:Int} {aj:Sl} {H:Hp} {v:AV} {H':Hp} (h:eT.tw F aa ac aj H = some (v,H')):Go.AE.T Try.prog 108 [(.agg [(.int .i64 aa),(.int .i64 ac),(.sl aj)])] H v H':=
 Go.AE.T.of (Y:=tabs) (C:=mkOrc (eT.cs F (bP.tw F) (dX.tw F))) (PN:=eT.pn) (LH:=eT.lh F (bP.tw F) (dX.tw F)) (F:=F) (TB:=eT.tb) (fn:=Try.f108) (code:=eT.code) mixed tabs_ok (mkOrc_ok (eT.cs_ok F)) Try.func108 (by kernel_rfl) (by kernel_rfl) eT.ok (Nat.le_of_ble_eq_true (by kernel_rfl)) (eT.loops F (bP.tw F) (dX.tw F)) (Eq.trans (eT.eqX F (bP.tw F) (dX.tw F) aa ac aj H) h)
theorem eT.mk_T {F:Nat} {args:List AV} {H:Hp} {v:AV} {H':Hp} (h:eT.mk (eT.tw F) args H = some (v,H')):Go.AE.T Try.prog 108 args H v H':=by
 unfold eT.mk at h
 split at h
 ·exact eT.T h
 ·cases h
def cm.twX (F:Nat) (aa:Int) (H:Hp):OA:=(bif (decide (aa < 0)) then (some ((.int .i64 (IntKind.i64.wrap (0 - aa))),H)) else (some ((.int .i64 aa),H)))
def cm.tw (F:Nat) (aa:Int) (H:Hp):OA:=cm.twX F aa H
def cm.code:Go.Code:=(Try.f102.body).getD .skip
def cm.lh (F:Nat) (p:Nat) (ks:List Nat) (n:Nat) (tm:Tm) (H:Hp):OA:=none
def cm.pn:Nat→List Nat:=fun i=>(([]:List (Nat×List Nat)).lookup i).getD []
def cm.tb:Nat→List (List Nat):=fun i=>(([]:List (Nat×List (List Nat))).lookup i).getD []
def cm.mk (g:Int→Hp→OA) (args:List AV) (H:Hp):OA:=match args with
 | [(.int .i64 aa)]=>g aa H
 | _=>none
def cm.cs (F:Nat):List (FuncId×(List AV→Hp→OA)):=[]
theorem cm.loops (F:Nat):LoopsOk tabs (mkOrc (cm.cs F)) cm.pn (cm.lh F) F [] 1 cm.code (fun tm H=>aresults tabs.ty H tm Try.f102.results.toList fun v=>some (v,H)) (fun _ _ _=>none) (fun tm H=>aresults tabs.ty H tm Try.f102.results.toList fun v=>some (v,H)):=by
 exact loops_none (by kernel_rfl)
theorem cm.eqX (F:Nat) (aa:Int) (H:Hp):aCode tabs (mkOrc (cm.cs F)) cm.pn (cm.lh F) F [] 1 cm.code (argTm [(.int .i64 aa)]) H (fun tm H=>aresults tabs.ty H tm Try.f102.results.toList fun v=>some (v,H)) (fun _ _ _=>none) (fun tm H=>aresults tabs.ty H tm Try.f102.results.toList fun v=>some (v,H)) = cm.twX F aa H:=by kernel_rfl
theorem cm.cs_ok (F:Nat):∀ p ∈ cm.cs F,∀ args H v H',p.2 args H = some (v,H')→Go.AE.T Try.prog p.1 args H v H':=by
 intro p hp
 exact absurd (show p ∈ [] from hp) List.not_mem_nil
theorem cm.ok:codeOk cm.pn Try.f102.ntmps cm.tb cm.code = true:=by kernel_rfl
theorem cm.T {F:Nat} {aa:Int} {H:Hp} {v:AV} {H':Hp} (h:cm.tw F aa H = some (v,H')):Go.AE.T Try.prog 102 [(.int .i64 aa)] H v H':=
 Go.AE.T.of (Y:=tabs) (C:=mkOrc (cm.cs F)) (PN:=cm.pn) (LH:=cm.lh F) (F:=F) (TB:=cm.tb) (fn:=Try.f102) (code:=cm.code) mixed tabs_ok (mkOrc_ok (cm.cs_ok F)) Try.func102 (by kernel_rfl) (by kernel_rfl) cm.ok (Nat.le_of_ble_eq_true (by kernel_rfl)) (cm.loops F) (Eq.trans (cm.eqX F aa H) h)
theorem cm.mk_T {F:Nat} {args:List AV} {H:Hp} {v:AV} {H':Hp} (h:cm.mk (cm.tw F) args H = some (v,H')):Go.AE.T Try.prog 102 args H v H':=by
 unfold cm.mk at h
 split at h
 ·exact cm.T h
 ·cases h
def aI.j5 (F:Nat) (ah:Int→Int→Sl→Int→Int→Hp→OA) (du:Int→Hp→OA) (oZ:Int) (o_:Int) (pa:Bool) (H134:Hp):OA:=some ((.tup [(.int .i64 oZ),(.int .i64 o_),(.bool pa)]),H134)
def aI.j7 (F:Nat) (ah:Int→Int→Sl→Int→Int→Hp→OA) (du:Int→Hp→OA) (C29_:Int→Int→Int→Bool→Nat→Nat→Int→Hp→OA) (pb:Int) (pc:Int) (pd:Int) (pe:Bool) (rv:Nat) (At:Nat) (pf:Int) (H205:Hp):OA:=C29_ pb pc pd pe rv At (IntKind.i64.wrap (pf + 1)) H205
def aI.j8 (F:Nat) (ah:Int→Int→Sl→Int→Int→Hp→OA) (du:Int→Hp→OA) (C29_:Int→Int→Int→Bool→Nat→Nat→Int→Hp→OA) (pg:Int) (ph:Int) (pi:Int) (pj:Bool) (rx:Nat) (Au:Nat) (pl:Int) (H192:Hp):OA:=aI.j7 F ah du C29_ pg ph pi pj rx Au pl H192
def aI.j9 (F:Nat) (ah:Int→Int→Sl→Int→Int→Hp→OA) (du:Int→Hp→OA) (C469_:Int→Int→Int→Bool→Nat→Nat→Int→Int→Hp→OA) (pm:Int) (po:Int) (pp:Int) (pq:Bool) (ry:Nat) (Av:Nat) (pr:Int) (ps:Int) (H237:Hp):OA:=C469_ pm po pp pq ry Av pr (IntKind.i64.wrap (ps + 1)) H237
def aI.l469 (F:Nat) (ah:Int→Int→Sl→Int→Int→Hp→OA) (du:Int→Hp→OA) (C29_:Int→Int→Int→Bool→Nat→Nat→Int→Hp→OA):Nat→Int→Int→Int→Bool→Nat→Nat→Int→Int→Hp→OA
 | 0,_,_,_,_,_,_,_,_,_=>none
 | mC + 1,gC,gU,hG,hQ,gV,i_,gw,gD,H147=>(Hp.ldI H147 .i64 gV (i_ + 1)).bind fun n206=>(bif (decide (gD < n206)) then ((Hp.ldI H147 .i64 gV i_).bind fun n207=>(Hp.ldI H147 .i64 gV (i_ + 1)).bind fun n208=>(Hp.ldSl H147 gV (i_ + 2)).bind fun s209=>(ah n207 n208 s209 gw gD H147).bind fun r210=>((r210.1).asP).bind fun p211=>(Hp.ldI r210.2 .i64 p211.1 p211.2).bind fun n212=>(du n212 r210.2).bind fun r213=>((r213.1).asI .i64).bind fun n214=>(bif (n214 != 0) then ((bif (!hQ) then (aI.l469 F ah du C29_ mC gC gw gD true gV i_ gw (IntKind.i64.wrap (gD + 1)) r213.2) else ((Hp.ldI r213.2 .i64 gV i_).bind fun n215=>(Hp.ldI r213.2 .i64 gV (i_ + 1)).bind fun n216=>(Hp.ldSl r213.2 gV (i_ + 2)).bind fun s217=>(ah n215 n216 s217 gU hG r213.2).bind fun r218=>((r218.1).asP).bind fun p219=>(Hp.ldI r218.2 .i64 p219.1 p219.2).bind fun n220=>(du n220 r218.2).bind fun r221=>((r221.1).asI .i64).bind fun n222=>(bif (decide (n214 < n222)) then (aI.j9 F ah du (aI.l469 F ah du C29_ mC) gC gw gD true gV i_ gw gD r221.2) else (aI.j9 F ah du (aI.l469 F ah du C29_ mC) gC gU hG hQ gV i_ gw gD r221.2))))) else (aI.l469 F ah du C29_ mC gC gU hG hQ gV i_ gw (IntKind.i64.wrap (gD + 1)) r213.2))) else (aI.j8 F ah du C29_ gC gU hG hQ gV i_ gw H147))
termination_by structural n=>n
def aI.l29 (F:Nat) (ah:Int→Int→Sl→Int→Int→Hp→OA) (du:Int→Hp→OA) :Nat→Int→Int→Int→Bool→Nat→Nat→Int→Hp→OA
 | 0,_,_,_,_,_,_,_,_=>none
 | fa + 1,da,fe,fJ,jy,kC,lJ,kj,H20=>(Hp.ldI H20 .i64 kC lJ).bind fun n135=>(bif (decide (kj < n135)) then (aI.l469 F ah du (aI.l29 F ah du fa) F da fe fJ jy kC lJ kj da H20) else (aI.j5 F ah du fe fJ jy H20))
termination_by structural n=>n
def aI.twX (F:Nat) (ah:Int→Int→Sl→Int→Int→Hp→OA) (du:Int→Hp→OA) (aa:Nat) (ac:Nat) (ae:Int) (H:Hp):OA:=(Hp.ldI H .i64 aa (ac + 6)).bind fun n4=>(Hp.ldI H .i64 aa ((ac + 6) + 1)).bind fun n5=>(Hp.ldSl H aa ((ac + 6) + 2)).bind fun s6=>(Hp.new H [.int .i64 0,.int .i64 0,.sl ⟨none,0,.ex 0⟩]).bind fun H7=>(Hp.st H7 H.length 0 (.int .i64 n4)).bind fun H8=>(Hp.st H8 H.length (0 + 1) (.int .i64 n5)).bind fun H9=>(Hp.st H9 H.length (0 + 1 + 1) (.sl s6)).bind fun H10=>aI.l29 F ah du F ae 0 0 false H.length 0 ae H10
def aI.tw (F:Nat) (aa:Nat) (ac:Nat) (ae:Int) (H:Hp):OA:=aI.twX F (aO.tw F) (cm.tw F) aa ac ae H
def aI.code:Go.Code:=(Try.f150.body).getD .skip
def aI.lh29 (F:Nat) (ah:Int→Int→Sl→Int→Int→Hp→OA) (du:Int→Hp→OA) (ks:List Nat) (n:Nat) (tm:Tm) (H:Hp):OA:=match ks,tm 1,tm 4,tm 5,tm 6,tm 7,tm 8 with
 | [],(.int .i64 da),(.int .i64 fe),(.int .i64 fJ),(.bool jy),(.ptr kC lJ),(.int .i64 kj)=>aI.l29 F ah du n da fe fJ jy kC lJ kj H
 | _,_,_,_,_,_,_=>none
theorem aI.lh29_inv {F:Nat} {ah:Int→Int→Sl→Int→Int→Hp→OA} {du:Int→Hp→OA} {ks:List Nat} {n:Nat} {tm:Tm} {H:Hp} {r:AV×Hp} (h:aI.lh29 F ah du ks n tm H = some r):∃ da:Int,∃ fe:Int,∃ fJ:Int,∃ jy:Bool,∃ kC:Nat,∃ lJ:Nat,∃ kj:Int,ks = []∧tm 1 = (.int .i64 da)∧tm 4 = (.int .i64 fe)∧tm 5 = (.int .i64 fJ)∧tm 6 = (.bool jy)∧tm 7 = (.ptr kC lJ)∧tm 8 = (.int .i64 kj)∧aI.l29 F ah du n da fe fJ jy kC lJ kj H = some r:=by
 unfold aI.lh29 at h
 split at h
 ·exact ⟨_,_,_,_,_,_,_,rfl,by assumption,by assumption,by assumption,by assumption,by assumption,by assumption,h⟩
 ·cases h
def aI.lh469 (F:Nat) (ah:Int→Int→Sl→Int→Int→Hp→OA) (du:Int→Hp→OA) (ks:List Nat) (n:Nat) (tm:Tm) (H:Hp):OA:=match ks,tm 1,tm 4,tm 5,tm 6,tm 7,tm 8,tm 9 with
 | [fa],(.int .i64 gC),(.int .i64 gU),(.int .i64 hG),(.bool hQ),(.ptr gV i_),(.int .i64 gw),(.int .i64 gD)=>aI.l469 F ah du (aI.l29 F ah du fa) n gC gU hG hQ gV i_ gw gD H
 | _,_,_,_,_,_,_,_=>none
theorem aI.lh469_inv {F:Nat} {ah:Int→Int→Sl→Int→Int→Hp→OA} {du:Int→Hp→OA} {ks:List Nat} {n:Nat} {tm:Tm} {H:Hp} {r:AV×Hp} (h:aI.lh469 F ah du ks n tm H = some r):∃ fa:Nat,∃ gC:Int,∃ gU:Int,∃ hG:Int,∃ hQ:Bool,∃ gV:Nat,∃ i_:Nat,∃ gw:Int,∃ gD:Int,ks = [fa]∧tm 1 = (.int .i64 gC)∧tm 4 = (.int .i64 gU)∧tm 5 = (.int .i64 hG)∧tm 6 = (.bool hQ)∧tm 7 = (.ptr gV i_)∧tm 8 = (.int .i64 gw)∧tm 9 = (.int .i64 gD)∧aI.l469 F ah du (aI.l29 F ah du fa) n gC gU hG hQ gV i_ gw gD H = some r:=by
 unfold aI.lh469 at h
 split at h
 ·exact ⟨_,_,_,_,_,_,_,_,_,rfl,by assumption,by assumption,by assumption,by assumption,by assumption,by assumption,by assumption,h⟩
 ·cases h
def aI.lh (F:Nat) (ah:Int→Int→Sl→Int→Int→Hp→OA) (du:Int→Hp→OA) (p:Nat) (ks:List Nat) (n:Nat) (tm:Tm) (H:Hp):OA:=bif p.beq 469 then aI.lh469 F ah du ks n tm H else (bif p.beq 29 then aI.lh29 F ah du ks n tm H else (none))
def aI.pn:Nat→List Nat:=fun i=>(([]:List (Nat×List Nat)).lookup i).getD []
def aI.tb:Nat→List (List Nat):=fun i=>(([]:List (Nat×List (List Nat))).lookup i).getD []
def aI.mk (g:Nat→Nat→Int→Hp→OA) (args:List AV) (H:Hp):OA:=match args with
 | [(.ptr aa ac),(.int .i64 ae)]=>g aa ac ae H
 | _=>none
def aI.cs (F:Nat) (ah:Int→Int→Sl→Int→Int→Hp→OA) (du:Int→Hp→OA):List (FuncId×(List AV→Hp→OA)):=[(95,aO.mk ah),(102,cm.mk du)]
theorem aI.loops (F:Nat) (ah:Int→Int→Sl→Int→Int→Hp→OA) (du:Int→Hp→OA):LoopsOk tabs (mkOrc (aI.cs F ah du)) aI.pn (aI.lh F ah du) F [] 1 aI.code (fun tm H=>aresults tabs.ty H tm Try.f150.results.toList fun v=>some (v,H)) (fun _ _ _=>none) (fun tm H=>aresults tabs.ty H tm Try.f150.results.toList fun v=>some (v,H)):=by
 refine LoopsOk.seq ?_ ?_
 ·exact loops_none (by kernel_rfl)
 ·refine LoopsOk.seq ?_ ?_
  ·exact loops_none (by kernel_rfl)
  ·refine LoopsOk.seq ?_ ?_
   ·refine LoopsOk.seq ?_ ?_
    ·exact loops_none (by kernel_rfl)
    ·refine LoopsOk.block ?_
     refine LoopsOk.loop (fun tm H=>?_) (fun k29 tm H r h0=>?_) (fun k29=>?_)
     ·refine none_of fun r h0=>?_
      obtain ⟨da,fe,fJ,jy,kC,lJ,kj,hks,e1,e4,e5,e6,e7,e8,h⟩:=aI.lh29_inv (show aI.lh29 F ah du [] 0 tm H = some r from h0)
      cases h
     ·obtain ⟨da,fe,fJ,jy,kC,lJ,kj,hks,e1,e4,e5,e6,e7,e8,h⟩:=aI.lh29_inv (show aI.lh29 F ah du [] (k29 + 1) tm H = some r from h0)
      have q0:(Tm.put tm 1 (.int .i64 da)) = tm:=by exact Tm.put_same e1
      have q1:(Tm.put (Tm.put tm 1 (.int .i64 da)) 4 (.int .i64 fe)) = tm:=by rw [q0]; exact Tm.put_same e4
      have q2:(Tm.put (Tm.put (Tm.put tm 1 (.int .i64 da)) 4 (.int .i64 fe)) 5 (.int .i64 fJ)) = tm:=by rw [q1]; exact Tm.put_same e5
      have q3:(Tm.put (Tm.put (Tm.put (Tm.put tm 1 (.int .i64 da)) 4 (.int .i64 fe)) 5 (.int .i64 fJ)) 6 (.bool jy)) = tm:=by rw [q2]; exact Tm.put_same e6
      have q4:(Tm.put (Tm.put (Tm.put (Tm.put (Tm.put tm 1 (.int .i64 da)) 4 (.int .i64 fe)) 5 (.int .i64 fJ)) 6 (.bool jy)) 7 (.ptr kC lJ)) = tm:=by rw [q3]; exact Tm.put_same e7
      have q5:(Tm.put (Tm.put (Tm.put (Tm.put (Tm.put (Tm.put tm 1 (.int .i64 da)) 4 (.int .i64 fe)) 5 (.int .i64 fJ)) 6 (.bool jy)) 7 (.ptr kC lJ)) 8 (.int .i64 kj)) = tm:=by rw [q4]; exact Tm.put_same e8
      rw [← q5]
      exact Eq.trans (by kernel_rfl) h
     ·refine LoopsOk.seq ?_ ?_
      ·exact loops_none (by kernel_rfl)
      ·refine LoopsOk.seq ?_ ?_
       ·refine LoopsOk.block ?_
        refine LoopsOk.seq ?_ ?_
        ·exact loops_none (by kernel_rfl)
        ·refine LoopsOk.block ?_
         refine LoopsOk.loop (fun tm H=>?_) (fun k469 tm H r h0=>?_) (fun k469=>?_)
         ·refine none_of fun r h0=>?_
          obtain ⟨fa,gC,gU,hG,hQ,gV,i_,gw,gD,hks,e1,e4,e5,e6,e7,e8,e9,h⟩:=aI.lh469_inv (show aI.lh469 F ah du [k29] 0 tm H = some r from h0)
          cases h
         ·obtain ⟨fa,gC,gU,hG,hQ,gV,i_,gw,gD,hks,e1,e4,e5,e6,e7,e8,e9,h⟩:=aI.lh469_inv (show aI.lh469 F ah du [k29] (k469 + 1) tm H = some r from h0)
          obtain rfl:fa = k29:=by simpa [eq_comm] using hks
          have q0:(Tm.put tm 1 (.int .i64 gC)) = tm:=by exact Tm.put_same e1
          have q1:(Tm.put (Tm.put tm 1 (.int .i64 gC)) 4 (.int .i64 gU)) = tm:=by rw [q0]; exact Tm.put_same e4
          have q2:(Tm.put (Tm.put (Tm.put tm 1 (.int .i64 gC)) 4 (.int .i64 gU)) 5 (.int .i64 hG)) = tm:=by rw [q1]; exact Tm.put_same e5
          have q3:(Tm.put (Tm.put (Tm.put (Tm.put tm 1 (.int .i64 gC)) 4 (.int .i64 gU)) 5 (.int .i64 hG)) 6 (.bool hQ)) = tm:=by rw [q2]; exact Tm.put_same e6
          have q4:(Tm.put (Tm.put (Tm.put (Tm.put (Tm.put tm 1 (.int .i64 gC)) 4 (.int .i64 gU)) 5 (.int .i64 hG)) 6 (.bool hQ)) 7 (.ptr gV i_)) = tm:=by rw [q3]; exact Tm.put_same e7
          have q5:(Tm.put (Tm.put (Tm.put (Tm.put (Tm.put (Tm.put tm 1 (.int .i64 gC)) 4 (.int .i64 gU)) 5 (.int .i64 hG)) 6 (.bool hQ)) 7 (.ptr gV i_)) 8 (.int .i64 gw)) = tm:=by rw [q4]; exact Tm.put_same e8
          have q6:(Tm.put (Tm.put (Tm.put (Tm.put (Tm.put (Tm.put (Tm.put tm 1 (.int .i64 gC)) 4 (.int .i64 gU)) 5 (.int .i64 hG)) 6 (.bool hQ)) 7 (.ptr gV i_)) 8 (.int .i64 gw)) 9 (.int .i64 gD)) = tm:=by rw [q5]; exact Tm.put_same e9
          rw [← q6]
          exact Eq.trans (by kernel_rfl) h
         ·exact loops_none (by kernel_rfl)
       ·exact loops_none (by kernel_rfl)
   ·exact loops_none (by kernel_rfl)
theorem aI.eqX (F:Nat) (ah:Int→Int→Sl→Int→Int→Hp→OA) (du:Int→Hp→OA) (aa:Nat) (ac:Nat) (ae:Int) (H:Hp):aCode tabs (mkOrc (aI.cs F ah du)) aI.pn (aI.lh F ah du) F [] 1 aI.code (argTm [(.ptr aa ac),(.int .i64 ae)]) H (fun tm H=>aresults tabs.ty H tm Try.f150.results.toList fun v=>some (v,H)) (fun _ _ _=>none) (fun tm H=>aresults tabs.ty H tm Try.f150.results.toList fun v=>some (v,H)) = aI.twX F ah du aa ac ae H:=by kernel_rfl
theorem aI.cs_ok (F:Nat):∀ p ∈ aI.cs F (aO.tw F) (cm.tw F),∀ args H v H',p.2 args H = some (v,H')→Go.AE.T Try.prog p.1 args H v H':=by
 intro p hp
 simp only [aI.cs,List.mem_cons,List.not_mem_nil,or_false] at hp
 rcases hp with rfl | rfl
 ·exact fun args H v H' h=>aO.mk_T h
 ·exact fun args H v H' h=>cm.mk_T h
theorem aI.ok:codeOk aI.pn Try.f150.ntmps aI.tb aI.code = true:=by kernel_rfl
theorem aI.T {F:Nat} {aa:Nat} {ac:Nat} {ae:Int} {H:Hp} {v:AV} {H':Hp} (h:aI.tw F aa ac ae H = some (v,H')):Go.AE.T Try.prog 150 [(.ptr aa ac),(.int .i64 ae)] H v H':=
 Go.AE.T.of (Y:=tabs) (C:=mkOrc (aI.cs F (aO.tw F) (cm.tw F))) (PN:=aI.pn) (LH:=aI.lh F (aO.tw F) (cm.tw F)) (F:=F) (TB:=aI.tb) (fn:=Try.f150) (code:=aI.code) mixed tabs_ok (mkOrc_ok (aI.cs_ok F)) Try.func150 (by kernel_rfl) (by kernel_rfl) aI.ok (Nat.le_of_ble_eq_true (by kernel_rfl)) (aI.loops F (aO.tw F) (cm.tw F)) (Eq.trans (aI.eqX F (aO.tw F) (cm.tw F) aa ac ae H) h)
theorem aI.mk_T {F:Nat} {args:List AV} {H:Hp} {v:AV} {H':Hp} (h:aI.mk (aI.tw F) args H = some (v,H')):Go.AE.T Try.prog 150 args H v H':=by
 unfold aI.mk at h
 split at h
 ·exact aI.T h
 ·cases h
def bT.l7 (F:Nat) (ah:Int→Int→Sl→Int→Int→Hp→OA) :Nat→Int→Int→Nat→Nat→Int→Int→Hp→OA
 | 0,_,_,_,_,_,_,_=>none
 | kI + 1,fu,fB,cP,gg,gc,fv,H17=>(bif (decide (fv < gc)) then ((Hp.ldI H17 .i64 cP gg).bind fun n32=>(Hp.ldI H17 .i64 cP (gg + 1)).bind fun n33=>(Hp.ldSl H17 cP (gg + 2)).bind fun s34=>(ah n32 n33 s34 fu fv H17).bind fun r35=>((r35.1).asP).bind fun p36=>(if Cons H17 r35.2 then ((Hp.ldI r35.2 .i64 cP gg).bind fun n37=>(Hp.ldI r35.2 .i64 cP (gg + 1)).bind fun n38=>(Hp.ldSl r35.2 cP (gg + 2)).bind fun s39=>(ah n37 n38 s39 fB fv r35.2).bind fun r40=>((r40.1).asP).bind fun p41=>(Hp.ldI r40.2 .i64 p41.1 p41.2).bind fun n42=>(Hp.ldI r40.2 .i64 p36.1 p36.2).bind fun n43=>(Hp.st r40.2 p36.1 p36.2 (.int .i64 n42)).bind fun H44=>(Hp.st H44 p41.1 p41.2 (.int .i64 n43)).bind fun H45=>bT.l7 F ah kI fu fB cP gg gc (IntKind.i64.wrap (fv + 1)) H45) else none)) else (some ((.tup []),H17)))
termination_by structural n=>n
def bT.twX (F:Nat) (ah:Int→Int→Sl→Int→Int→Hp→OA) (aa:Int) (ac:Int) (aj:Sl) (af:Int) (bi:Int) (H:Hp):OA:=(Hp.new H [(.int .i64 aa),(.int .i64 ac),(.sl aj)]).bind fun H6=>(Hp.ldI H6 .i64 H.length 1).bind fun n7=>bT.l7 F ah F af bi H.length 0 n7 0 H6
def bT.tw (F:Nat) (aa:Int) (ac:Int) (aj:Sl) (af:Int) (bi:Int) (H:Hp):OA:=bT.twX F (aO.tw F) aa ac aj af bi H
def bT.code:Go.Code:=(Try.f151.body).getD .skip
def bT.lh7 (F:Nat) (ah:Int→Int→Sl→Int→Int→Hp→OA) (ks:List Nat) (n:Nat) (tm:Tm) (H:Hp):OA:=match ks,tm 1,tm 2,tm 3,tm 10,tm 11 with
 | [],(.int .i64 fu),(.int .i64 fB),(.ptr cP gg),(.int .i64 gc),(.int .i64 fv)=>bT.l7 F ah n fu fB cP gg gc fv H
 | _,_,_,_,_,_=>none
theorem bT.lh7_inv {F:Nat} {ah:Int→Int→Sl→Int→Int→Hp→OA} {ks:List Nat} {n:Nat} {tm:Tm} {H:Hp} {r:AV×Hp} (h:bT.lh7 F ah ks n tm H = some r):∃ fu:Int,∃ fB:Int,∃ cP:Nat,∃ gg:Nat,∃ gc:Int,∃ fv:Int,ks = []∧tm 1 = (.int .i64 fu)∧tm 2 = (.int .i64 fB)∧tm 3 = (.ptr cP gg)∧tm 10 = (.int .i64 gc)∧tm 11 = (.int .i64 fv)∧bT.l7 F ah n fu fB cP gg gc fv H = some r:=by
 unfold bT.lh7 at h
 split at h
 ·exact ⟨_,_,_,_,_,_,rfl,by assumption,by assumption,by assumption,by assumption,by assumption,h⟩
 ·cases h
def bT.lh (F:Nat) (ah:Int→Int→Sl→Int→Int→Hp→OA) (p:Nat) (ks:List Nat) (n:Nat) (tm:Tm) (H:Hp):OA:=bif p.beq 7 then bT.lh7 F ah ks n tm H else (none)
def bT.pn:Nat→List Nat:=fun i=>(([(4,[7]),(5,[9,11])]:List (Nat×List Nat)).lookup i).getD []
def bT.tb:Nat→List (List Nat):=fun i=>(([(4,[[],[],[],[0,1,2],[],[],[],[0,1,2,3,4,5,6],[0,1,2,3,4,5,6,7],[0,1,2,3,4,5,6,7,8]]),(5,[[],[],[],[2],[2,3],[],[5],[5,6],[0,2,3,4,5,6,7],[0,2,3,4,5,6,7,8],[0,1,2,3,4,5,6,7,8,9],[0,1,2,3,4,5,6,7,8,9,10]])]:List (Nat×List (List Nat))).lookup i).getD []
def bT.mk (g:Int→Int→Sl→Int→Int→Hp→OA) (args:List AV) (H:Hp):OA:=match args with
 | [(.agg [(.int .i64 aa),(.int .i64 ac),(.sl aj)]),(.int .i64 af),(.int .i64 bi)]=>g aa ac aj af bi H
 | _=>none
def bT.cs (F:Nat) (ah:Int→Int→Sl→Int→Int→Hp→OA):List (FuncId×(List AV→Hp→OA)):=[(95,aO.mk ah)]
theorem bT.loops (F:Nat) (ah:Int→Int→Sl→Int→Int→Hp→OA):LoopsOk tabs (mkOrc (bT.cs F ah)) bT.pn (bT.lh F ah) F [] 1 bT.code (fun tm H=>aresults tabs.ty H tm Try.f151.results.toList fun v=>some (v,H)) (fun _ _ _=>none) (fun tm H=>aresults tabs.ty H tm Try.f151.results.toList fun v=>some (v,H)):=by
 refine LoopsOk.seq ?_ ?_
 ·exact loops_none (by kernel_rfl)
 ·refine LoopsOk.seq ?_ ?_
  ·exact loops_none (by kernel_rfl)
  ·refine LoopsOk.block ?_
   refine LoopsOk.loop (fun tm H=>?_) (fun k7 tm H r h0=>?_) (fun k7=>?_)
   ·refine none_of fun r h0=>?_
    obtain ⟨fu,fB,cP,gg,gc,fv,hks,e1,e2,e3,e10,e11,h⟩:=bT.lh7_inv (show bT.lh7 F ah [] 0 tm H = some r from h0)
    cases h
   ·obtain ⟨fu,fB,cP,gg,gc,fv,hks,e1,e2,e3,e10,e11,h⟩:=bT.lh7_inv (show bT.lh7 F ah [] (k7 + 1) tm H = some r from h0)
    have q0:(Tm.put tm 1 (.int .i64 fu)) = tm:=by exact Tm.put_same e1
    have q1:(Tm.put (Tm.put tm 1 (.int .i64 fu)) 2 (.int .i64 fB)) = tm:=by rw [q0]; exact Tm.put_same e2
    have q2:(Tm.put (Tm.put (Tm.put tm 1 (.int .i64 fu)) 2 (.int .i64 fB)) 3 (.ptr cP gg)) = tm:=by rw [q1]; exact Tm.put_same e3
    have q3:(Tm.put (Tm.put (Tm.put (Tm.put tm 1 (.int .i64 fu)) 2 (.int .i64 fB)) 3 (.ptr cP gg)) 10 (.int .i64 gc)) = tm:=by rw [q2]; exact Tm.put_same e10
    have q4:(Tm.put (Tm.put (Tm.put (Tm.put (Tm.put tm 1 (.int .i64 fu)) 2 (.int .i64 fB)) 3 (.ptr cP gg)) 10 (.int .i64 gc)) 11 (.int .i64 fv)) = tm:=by rw [q3]; exact Tm.put_same e11
    rw [← q4]
    exact Eq.trans (by kernel_rfl) h
   ·exact loops_none (by kernel_rfl)
theorem bT.eqX (F:Nat) (ah:Int→Int→Sl→Int→Int→Hp→OA) (aa:Int) (ac:Int) (aj:Sl) (af:Int) (bi:Int) (H:Hp):aCode tabs (mkOrc (bT.cs F ah)) bT.pn (bT.lh F ah) F [] 1 bT.code (argTm [(.agg [(.int .i64 aa),(.int .i64 ac),(.sl aj)]),(.int .i64 af),(.int .i64 bi)]) H (fun tm H=>aresults tabs.ty H tm Try.f151.results.toList fun v=>some (v,H)) (fun _ _ _=>none) (fun tm H=>aresults tabs.ty H tm Try.f151.results.toList fun v=>some (v,H)) = bT.twX F ah aa ac aj af bi H:=by kernel_rfl
theorem bT.cs_ok (F:Nat):∀ p ∈ bT.cs F (aO.tw F),∀ args H v H',p.2 args H = some (v,H')→Go.AE.T Try.prog p.1 args H v H':=by
 intro p hp
 simp only [bT.cs,List.mem_cons,List.not_mem_nil,or_false] at hp
 subst hp
 exact fun args H v H' h=>aO.mk_T h
theorem bT.ok:codeOk bT.pn Try.f151.ntmps bT.tb bT.code = true:=by kernel_rfl
theorem bT.T {F:Nat} {aa:Int} {ac:Int} {aj:Sl} {af:Int} {bi:Int} {H:Hp} {v:AV} {H':Hp} (h:bT.tw F aa ac aj af bi H = some (v,H')):Go.AE.T Try.prog 151 [(.agg [(.int .i64 aa),(.int .i64 ac),(.sl aj)]),(.int .i64 af),(.int .i64 bi)] H v H':=
 Go.AE.T.of (Y:=tabs) (C:=mkOrc (bT.cs F (aO.tw F))) (PN:=bT.pn) (LH:=bT.lh F (aO.tw F)) (F:=F) (TB:=bT.tb) (fn:=Try.f151) (code:=bT.code) mixed tabs_ok (mkOrc_ok (bT.cs_ok F)) Try.func151 (by kernel_rfl) (by kernel_rfl) bT.ok (Nat.le_of_ble_eq_true (by kernel_rfl)) (bT.loops F (aO.tw F)) (Eq.trans (bT.eqX F (aO.tw F) aa ac aj af bi H) h)
theorem bT.mk_T {F:Nat} {args:List AV} {H:Hp} {v:AV} {H':Hp} (h:bT.mk (bT.tw F) args H = some (v,H')):Go.AE.T Try.prog 151 args H v H':=by
 unfold bT.mk at h
 split at h
 ·exact bT.T h
 ·cases h
def bU.l7 (F:Nat) (ah:Int→Int→Sl→Int→Int→Hp→OA) :Nat→Int→Int→Nat→Nat→Int→Int→Hp→OA
 | 0,_,_,_,_,_,_,_=>none
 | kI + 1,fu,fB,cP,gg,gc,fv,H17=>(bif (decide (fv < gc)) then ((Hp.ldI H17 .i64 cP gg).bind fun n32=>(Hp.ldI H17 .i64 cP (gg + 1)).bind fun n33=>(Hp.ldSl H17 cP (gg + 2)).bind fun s34=>(ah n32 n33 s34 fv fu H17).bind fun r35=>((r35.1).asP).bind fun p36=>(if Cons H17 r35.2 then ((Hp.ldI r35.2 .i64 cP gg).bind fun n37=>(Hp.ldI r35.2 .i64 cP (gg + 1)).bind fun n38=>(Hp.ldSl r35.2 cP (gg + 2)).bind fun s39=>(ah n37 n38 s39 fv fB r35.2).bind fun r40=>((r40.1).asP).bind fun p41=>(Hp.ldI r40.2 .i64 p41.1 p41.2).bind fun n42=>(Hp.ldI r40.2 .i64 p36.1 p36.2).bind fun n43=>(Hp.st r40.2 p36.1 p36.2 (.int .i64 n42)).bind fun H44=>(Hp.st H44 p41.1 p41.2 (.int .i64 n43)).bind fun H45=>bU.l7 F ah kI fu fB cP gg gc (IntKind.i64.wrap (fv + 1)) H45) else none)) else (some ((.tup []),H17)))
termination_by structural n=>n
def bU.twX (F:Nat) (ah:Int→Int→Sl→Int→Int→Hp→OA) (aa:Int) (ac:Int) (aj:Sl) (af:Int) (bi:Int) (H:Hp):OA:=(Hp.new H [(.int .i64 aa),(.int .i64 ac),(.sl aj)]).bind fun H6=>(Hp.ldI H6 .i64 H.length 0).bind fun n7=>bU.l7 F ah F af bi H.length 0 n7 0 H6
def bU.tw (F:Nat) (aa:Int) (ac:Int) (aj:Sl) (af:Int) (bi:Int) (H:Hp):OA:=bU.twX F (aO.tw F) aa ac aj af bi H
def bU.code:Go.Code:=(Try.f152.body).getD .skip
def bU.lh7 (F:Nat) (ah:Int→Int→Sl→Int→Int→Hp→OA) (ks:List Nat) (n:Nat) (tm:Tm) (H:Hp):OA:=match ks,tm 1,tm 2,tm 3,tm 10,tm 11 with
 | [],(.int .i64 fu),(.int .i64 fB),(.ptr cP gg),(.int .i64 gc),(.int .i64 fv)=>bU.l7 F ah n fu fB cP gg gc fv H
 | _,_,_,_,_,_=>none
theorem bU.lh7_inv {F:Nat} {ah:Int→Int→Sl→Int→Int→Hp→OA} {ks:List Nat} {n:Nat} {tm:Tm} {H:Hp} {r:AV×Hp} (h:bU.lh7 F ah ks n tm H = some r):∃ fu:Int,∃ fB:Int,∃ cP:Nat,∃ gg:Nat,∃ gc:Int,∃ fv:Int,ks = []∧tm 1 = (.int .i64 fu)∧tm 2 = (.int .i64 fB)∧tm 3 = (.ptr cP gg)∧tm 10 = (.int .i64 gc)∧tm 11 = (.int .i64 fv)∧bU.l7 F ah n fu fB cP gg gc fv H = some r:=by
 unfold bU.lh7 at h
 split at h
 ·exact ⟨_,_,_,_,_,_,rfl,by assumption,by assumption,by assumption,by assumption,by assumption,h⟩
 ·cases h
def bU.lh (F:Nat) (ah:Int→Int→Sl→Int→Int→Hp→OA) (p:Nat) (ks:List Nat) (n:Nat) (tm:Tm) (H:Hp):OA:=bif p.beq 7 then bU.lh7 F ah ks n tm H else (none)
def bU.pn:Nat→List Nat:=fun i=>(([(4,[7]),(5,[9,11])]:List (Nat×List Nat)).lookup i).getD []
def bU.tb:Nat→List (List Nat):=fun i=>(([(4,[[],[],[],[0,1,2],[],[],[],[0,1,2,3,4,5,6],[0,1,2,3,4,5,6,7],[0,1,2,3,4,5,6,7,8]]),(5,[[],[],[],[2],[2,3],[],[5],[5,6],[0,2,3,4,5,6,7],[0,2,3,4,5,6,7,8],[0,1,2,3,4,5,6,7,8,9],[0,1,2,3,4,5,6,7,8,9,10]])]:List (Nat×List (List Nat))).lookup i).getD []
def bU.mk (g:Int→Int→Sl→Int→Int→Hp→OA) (args:List AV) (H:Hp):OA:=match args with
 | [(.agg [(.int .i64 aa),(.int .i64 ac),(.sl aj)]),(.int .i64 af),(.int .i64 bi)]=>g aa ac aj af bi H
 | _=>none
def bU.cs (F:Nat) (ah:Int→Int→Sl→Int→Int→Hp→OA):List (FuncId×(List AV→Hp→OA)):=[(95,aO.mk ah)]
theorem bU.loops (F:Nat) (ah:Int→Int→Sl→Int→Int→Hp→OA):LoopsOk tabs (mkOrc (bU.cs F ah)) bU.pn (bU.lh F ah) F [] 1 bU.code (fun tm H=>aresults tabs.ty H tm Try.f152.results.toList fun v=>some (v,H)) (fun _ _ _=>none) (fun tm H=>aresults tabs.ty H tm Try.f152.results.toList fun v=>some (v,H)):=by
 refine LoopsOk.seq ?_ ?_
 ·exact loops_none (by kernel_rfl)
 ·refine LoopsOk.seq ?_ ?_
  ·exact loops_none (by kernel_rfl)
  ·refine LoopsOk.block ?_
   refine LoopsOk.loop (fun tm H=>?_) (fun k7 tm H r h0=>?_) (fun k7=>?_)
   ·refine none_of fun r h0=>?_
    obtain ⟨fu,fB,cP,gg,gc,fv,hks,e1,e2,e3,e10,e11,h⟩:=bU.lh7_inv (show bU.lh7 F ah [] 0 tm H = some r from h0)
    cases h
   ·obtain ⟨fu,fB,cP,gg,gc,fv,hks,e1,e2,e3,e10,e11,h⟩:=bU.lh7_inv (show bU.lh7 F ah [] (k7 + 1) tm H = some r from h0)
    have q0:(Tm.put tm 1 (.int .i64 fu)) = tm:=by exact Tm.put_same e1
    have q1:(Tm.put (Tm.put tm 1 (.int .i64 fu)) 2 (.int .i64 fB)) = tm:=by rw [q0]; exact Tm.put_same e2
    have q2:(Tm.put (Tm.put (Tm.put tm 1 (.int .i64 fu)) 2 (.int .i64 fB)) 3 (.ptr cP gg)) = tm:=by rw [q1]; exact Tm.put_same e3
    have q3:(Tm.put (Tm.put (Tm.put (Tm.put tm 1 (.int .i64 fu)) 2 (.int .i64 fB)) 3 (.ptr cP gg)) 10 (.int .i64 gc)) = tm:=by rw [q2]; exact Tm.put_same e10
    have q4:(Tm.put (Tm.put (Tm.put (Tm.put (Tm.put tm 1 (.int .i64 fu)) 2 (.int .i64 fB)) 3 (.ptr cP gg)) 10 (.int .i64 gc)) 11 (.int .i64 fv)) = tm:=by rw [q3]; exact Tm.put_same e11
    rw [← q4]
    exact Eq.trans (by kernel_rfl) h
   ·exact loops_none (by kernel_rfl)
theorem bU.eqX (F:Nat) (ah:Int→Int→Sl→Int→Int→Hp→OA) (aa:Int) (ac:Int) (aj:Sl) (af:Int) (bi:Int) (H:Hp):aCode tabs (mkOrc (bU.cs F ah)) bU.pn (bU.lh F ah) F [] 1 bU.code (argTm [(.agg [(.int .i64 aa),(.int .i64 ac),(.sl aj)]),(.int .i64 af),(.int .i64 bi)]) H (fun tm H=>aresults tabs.ty H tm Try.f152.results.toList fun v=>some (v,H)) (fun _ _ _=>none) (fun tm H=>aresults tabs.ty H tm Try.f152.results.toList fun v=>some (v,H)) = bU.twX F ah aa ac aj af bi H:=by kernel_rfl
theorem bU.cs_ok (F:Nat):∀ p ∈ bU.cs F (aO.tw F),∀ args H v H',p.2 args H = some (v,H')→Go.AE.T Try.prog p.1 args H v H':=by
 intro p hp
 simp only [bU.cs,List.mem_cons,List.not_mem_nil,or_false] at hp
 subst hp
 exact fun args H v H' h=>aO.mk_T h
theorem bU.ok:codeOk bU.pn Try.f152.ntmps bU.tb bU.code = true:=by kernel_rfl
theorem bU.T {F:Nat} {aa:Int} {ac:Int} {aj:Sl} {af:Int} {bi:Int} {H:Hp} {v:AV} {H':Hp} (h:bU.tw F aa ac aj af bi H = some (v,H')):Go.AE.T Try.prog 152 [(.agg [(.int .i64 aa),(.int .i64 ac),(.sl aj)]),(.int .i64 af),(.int .i64 bi)] H v H':=
 Go.AE.T.of (Y:=tabs) (C:=mkOrc (bU.cs F (aO.tw F))) (PN:=bU.pn) (LH:=bU.lh F (aO.tw F)) (F:=F) (TB:=bU.tb) (fn:=Try.f152) (code:=bU.code) mixed tabs_ok (mkOrc_ok (bU.cs_ok F)) Try.func152 (by kernel_rfl) (by kernel_rfl) bU.ok (Nat.le_of_ble_eq_true (by kernel_rfl)) (bU.loops F (aO.tw F)) (Eq.trans (bU.eqX F (aO.tw F) aa ac aj af bi H) h)
theorem bU.mk_T {F:Nat} {args:List AV} {H:Hp} {v:AV} {H':Hp} (h:bU.mk (bU.tw F) args H = some (v,H')):Go.AE.T Try.prog 152 args H v H':=by
 unfold bU.mk at h
 split at h
 ·exact bU.T h
 ·cases h
def cC.twX (F:Nat) (aa:Int) (ac:Int) (aj:Sl) (af:Int) (H:Hp):OA:=(Hp.new H [(.int .i64 aa),(.int .i64 ac),(.sl aj)]).bind fun H5=>(Hp.ldSl H5 H.length 2).bind fun s6=>(Hp.ldI H5 .i64 H.length 1).bind fun n7=>(Hp.ldI H5 .i64 H.length 1).bind fun n8=>(Sl.cut s6 1 (IntKind.i64.wrap (af * n7)) (IntKind.i64.wrap ((IntKind.i64.wrap (af + 1)) * n8))).bind fun s9=>some ((.sl s9),H5)
def cC.tw (F:Nat) (aa:Int) (ac:Int) (aj:Sl) (af:Int) (H:Hp):OA:=cC.twX F aa ac aj af H
def cC.code:Go.Code:=(Try.f120.body).getD .skip
def cC.lh (F:Nat) (p:Nat) (ks:List Nat) (n:Nat) (tm:Tm) (H:Hp):OA:=none
def cC.pn:Nat→List Nat:=fun i=>(([]:List (Nat×List Nat)).lookup i).getD []
def cC.tb:Nat→List (List Nat):=fun i=>(([]:List (Nat×List (List Nat))).lookup i).getD []
def cC.mk (g:Int→Int→Sl→Int→Hp→OA) (args:List AV) (H:Hp):OA:=match args with
 | [(.agg [(.int .i64 aa),(.int .i64 ac),(.sl aj)]),(.int .i64 af)]=>g aa ac aj af H
 | _=>none
def cC.cs (F:Nat):List (FuncId×(List AV→Hp→OA)):=[]
theorem cC.loops (F:Nat):LoopsOk tabs (mkOrc (cC.cs F)) cC.pn (cC.lh F) F [] 1 cC.code (fun tm H=>aresults tabs.ty H tm Try.f120.results.toList fun v=>some (v,H)) (fun _ _ _=>none) (fun tm H=>aresults tabs.ty H tm Try.f120.results.toList fun v=>some (v,H)):=by
 exact loops_none (by kernel_rfl)
theorem cC.eqX (F:Nat) (aa:Int) (ac:Int) (aj:Sl) (af:Int) (H:Hp):aCode tabs (mkOrc (cC.cs F)) cC.pn (cC.lh F) F [] 1 cC.code (argTm [(.agg [(.int .i64 aa),(.int .i64 ac),(.sl aj)]),(.int .i64 af)]) H (fun tm H=>aresults tabs.ty H tm Try.f120.results.toList fun v=>some (v,H)) (fun _ _ _=>none) (fun tm H=>aresults tabs.ty H tm Try.f120.results.toList fun v=>some (v,H)) = cC.twX F aa ac aj af H:=by kernel_rfl
theorem cC.cs_ok (F:Nat):∀ p ∈ cC.cs F,∀ args H v H',p.2 args H = some (v,H')→Go.AE.T Try.prog p.1 args H v H':=by
 intro p hp
 exact absurd (show p ∈ [] from hp) List.not_mem_nil
theorem cC.ok:codeOk cC.pn Try.f120.ntmps cC.tb cC.code = true:=by kernel_rfl
theorem cC.T {F:Nat} {aa:Int} {ac:Int} {aj:Sl} {af:Int} {H:Hp} {v:AV} {H':Hp} (h:cC.tw F aa ac aj af H = some (v,H')):Go.AE.T Try.prog 120 [(.agg [(.int .i64 aa),(.int .i64 ac),(.sl aj)]),(.int .i64 af)] H v H':=
 Go.AE.T.of (Y:=tabs) (C:=mkOrc (cC.cs F)) (PN:=cC.pn) (LH:=cC.lh F) (F:=F) (TB:=cC.tb) (fn:=Try.f120) (code:=cC.code) mixed tabs_ok (mkOrc_ok (cC.cs_ok F)) Try.func120 (by kernel_rfl) (by kernel_rfl) cC.ok (Nat.le_of_ble_eq_true (by kernel_rfl)) (cC.loops F) (Eq.trans (cC.eqX F aa ac aj af H) h)
theorem cC.mk_T {F:Nat} {args:List AV} {H:Hp} {v:AV} {H':Hp} (h:cC.mk (cC.tw F) args H = some (v,H')):Go.AE.T Try.prog 120 args H v H':=by
 unfold cC.mk at h
 split at h
 ·exact cC.T h
 ·cases h
def aW.l32747 (F:Nat) (eV:Nat→Nat→Int→Hp→OA) (eP:Int→Int→Sl→Int→Int→Hp→OA) (eQ:Int→Int→Sl→Int→Int→Hp→OA) (ah:Int→Int→Sl→Int→Int→Hp→OA) (bQ:Int→Int→Sl→Int→Hp→OA) :Nat→Nat→Nat→Int→Int→Int→Hp→OA
 | 0,_,_,_,_,_,_=>none
 | Aw + 1,kk,kl,ja,jO,jb,H159=>(bif (decide (jb < jO)) then ((Hp.ldI H159 .i64 kk (kl + 3)).bind fun n172=>(Hp.ldI H159 .i64 kk ((kl + 3) + 1)).bind fun n173=>(Hp.ldSl H159 kk ((kl + 3) + 2)).bind fun s174=>(ah n172 n173 s174 jb ja H159).bind fun r175=>((r175.1).asP).bind fun p176=>(if Cons H159 r175.2 then ((Hp.ldI r175.2 .i64 kk (kl + 3)).bind fun n177=>(Hp.ldI r175.2 .i64 kk ((kl + 3) + 1)).bind fun n178=>(Hp.ldSl r175.2 kk ((kl + 3) + 2)).bind fun s179=>(ah n177 n178 s179 jb ja r175.2).bind fun r180=>((r180.1).asP).bind fun p181=>(Hp.ldI r180.2 .i64 p181.1 p181.2).bind fun n182=>(Hp.st r180.2 p176.1 p176.2 (.int .i64 (IntKind.i64.wrap (0 - n182)))).bind fun H183=>aW.l32747 F eV eP eQ ah bQ Aw kk kl ja jO (IntKind.i64.wrap (jb + 1)) H183) else none)) else (some ((.bool true),H159)))
termination_by structural n=>n
def aW.j3 (F:Nat) (eV:Nat→Nat→Int→Hp→OA) (eP:Int→Int→Sl→Int→Int→Hp→OA) (eQ:Int→Int→Sl→Int→Int→Hp→OA) (ah:Int→Int→Sl→Int→Int→Hp→OA) (bQ:Int→Int→Sl→Int→Hp→OA) (wq:Nat) (wr:Nat) (pt:Int) (H142:Hp):OA:=(Hp.ldI H142 .i64 wq (wr + 3)).bind fun n143=>aW.l32747 F eV eP eQ ah bQ F wq wr pt n143 0 H142
def aW.j4 (F:Nat) (eV:Nat→Nat→Int→Hp→OA) (eP:Int→Int→Sl→Int→Int→Hp→OA) (eQ:Int→Int→Sl→Int→Int→Hp→OA) (ah:Int→Int→Sl→Int→Int→Hp→OA) (bQ:Int→Int→Sl→Int→Hp→OA) (C32745_:Nat→Nat→Int→Sl→Int→Int→Hp→OA) (Ax:Nat) (Ay:Nat) (Az:Int) (AA:Sl) (AB:Int) (AC:Int) (H242:Hp):OA:=C32745_ Ax Ay Az AA AB (IntKind.i64.wrap (AC + 1)) H242
def aW.j5 (F:Nat) (eV:Nat→Nat→Int→Hp→OA) (eP:Int→Int→Sl→Int→Int→Hp→OA) (eQ:Int→Int→Sl→Int→Int→Hp→OA) (ah:Int→Int→Sl→Int→Int→Hp→OA) (bQ:Int→Int→Sl→Int→Hp→OA) (C32745_:Nat→Nat→Int→Sl→Int→Int→Hp→OA) (AD:Nat) (AF:Nat) (AG:Int) (AH:Sl) (AI:Int) (AJ:Int) (H224:Hp):OA:=aW.j4 F eV eP eQ ah bQ C32745_ AD AF AG AH AI AJ H224
def aW.l2095707 (F:Nat) (eV:Nat→Nat→Int→Hp→OA) (eP:Int→Int→Sl→Int→Int→Hp→OA) (eQ:Int→Int→Sl→Int→Int→Hp→OA) (ah:Int→Int→Sl→Int→Int→Hp→OA) (bQ:Int→Int→Sl→Int→Hp→OA) (C32745_:Nat→Nat→Int→Sl→Int→Int→Hp→OA):Nat→Nat→Nat→Int→Sl→Int→Int→Sl→Int→Int→Hp→OA
 | 0,_,_,_,_,_,_,_,_,_,_=>none
 | AK + 1,kp,kq,kD,kS,la,ln,kE,lK,lp,H202=>(bif (decide (lp < lK)) then ((Sl.idx kE lp 1).bind fun p243=>(Hp.ldI H202 .i64 p243.1 p243.2).bind fun n244=>(Sl.idx kE lp 1).bind fun p245=>(Hp.st H202 p245.1 p245.2 (.int .i64 (IntKind.i64.wrap (0 - n244)))).bind fun H246=>aW.l2095707 F eV eP eQ ah bQ C32745_ AK kp kq kD kS la ln kE lK (IntKind.i64.wrap (lp + 1)) H246) else (aW.j5 F eV eP eQ ah bQ C32745_ kp kq kD kS la ln H202))
termination_by structural n=>n
def aW.l32745 (F:Nat) (eV:Nat→Nat→Int→Hp→OA) (eP:Int→Int→Sl→Int→Int→Hp→OA) (eQ:Int→Int→Sl→Int→Int→Hp→OA) (ah:Int→Int→Sl→Int→Int→Hp→OA) (bQ:Int→Int→Sl→Int→Hp→OA) :Nat→Nat→Nat→Int→Sl→Int→Int→Hp→OA
 | 0,_,_,_,_,_,_,_=>none
 | mD + 1,gE,gF,fK,lq,lL,lM,H65=>(bif (decide (lM < lL)) then ((Sl.idx lq lM 1).bind fun p184=>(Hp.ldSl H65 p184.1 p184.2).bind fun s185=>aW.l2095707 F eV eP eQ ah bQ (aW.l32745 F eV eP eQ ah bQ mD) F gE gF fK lq lL lM s185 (s185.n:Int) 0 H65) else (aW.j3 F eV eP eQ ah bQ gE gF fK H65))
termination_by structural n=>n
def aW.twX (F:Nat) (eV:Nat→Nat→Int→Hp→OA) (eP:Int→Int→Sl→Int→Int→Hp→OA) (eQ:Int→Int→Sl→Int→Int→Hp→OA) (ah:Int→Int→Sl→Int→Int→Hp→OA) (bQ:Int→Int→Sl→Int→Hp→OA) (aa:Nat) (ac:Nat) (ae:Int) (H:Hp):OA:=(eV aa ac ae H).bind fun r4=>((r4.1).asTup 3).bind fun l5=>(l5[0]?).bind fun v6=>((v6).asI .i64).bind fun n7=>(l5[1]?).bind fun v8=>((v8).asI .i64).bind fun n9=>(l5[2]?).bind fun v10=>((v10).asB).bind fun b11=>(bif (!b11) then (some ((.bool false),r4.2)) else ((Hp.ldI r4.2 .i64 aa (ac + 6)).bind fun n12=>(Hp.ldI r4.2 .i64 aa ((ac + 6) + 1)).bind fun n13=>(Hp.ldSl r4.2 aa ((ac + 6) + 2)).bind fun s14=>(eP n12 n13 s14 n7 ae r4.2).bind fun r15=>(Hp.ldI r15.2 .i64 aa ac).bind fun n16=>(Hp.ldI r15.2 .i64 aa (ac + 1)).bind fun n17=>(Hp.ldSl r15.2 aa (ac + 2)).bind fun s18=>(eP n16 n17 s18 n7 ae r15.2).bind fun r19=>(Hp.ldI r19.2 .i64 aa (ac + 3)).bind fun n20=>(Hp.ldI r19.2 .i64 aa ((ac + 3) + 1)).bind fun n21=>(Hp.ldSl r19.2 aa ((ac + 3) + 2)).bind fun s22=>(eQ n20 n21 s22 n7 ae r19.2).bind fun r23=>(Hp.ldI r23.2 .i64 aa (ac + 6)).bind fun n24=>(Hp.ldI r23.2 .i64 aa ((ac + 6) + 1)).bind fun n25=>(Hp.ldSl r23.2 aa ((ac + 6) + 2)).bind fun s26=>(eQ n24 n25 s26 n9 ae r23.2).bind fun r27=>(Hp.ldI r27.2 .i64 aa (ac + 9)).bind fun n28=>(Hp.ldI r27.2 .i64 aa ((ac + 9) + 1)).bind fun n29=>(Hp.ldSl r27.2 aa ((ac + 9) + 2)).bind fun s30=>(eQ n28 n29 s30 n9 ae r27.2).bind fun r31=>(Hp.ldI r31.2 .i64 aa (ac + 12)).bind fun n32=>(Hp.ldI r31.2 .i64 aa ((ac + 12) + 1)).bind fun n33=>(Hp.ldSl r31.2 aa ((ac + 12) + 2)).bind fun s34=>(eP n32 n33 s34 n9 ae r31.2).bind fun r35=>(Hp.ldI r35.2 .i64 aa (ac + 6)).bind fun n36=>(Hp.ldI r35.2 .i64 aa ((ac + 6) + 1)).bind fun n37=>(Hp.ldSl r35.2 aa ((ac + 6) + 2)).bind fun s38=>(ah n36 n37 s38 ae ae r35.2).bind fun r39=>((r39.1).asP).bind fun p40=>(Hp.ldI r39.2 .i64 p40.1 p40.2).bind fun n41=>(bif (decide (n41 < 0)) then ((Hp.ldI r39.2 .i64 aa (ac + 6)).bind fun n42=>(Hp.ldI r39.2 .i64 aa ((ac + 6) + 1)).bind fun n43=>(Hp.ldSl r39.2 aa ((ac + 6) + 2)).bind fun s44=>(bQ n42 n43 s44 ae r39.2).bind fun r45=>((r45.1).asSl).bind fun s46=>(if Cons r39.2 r45.2 then ((Hp.ldI r45.2 .i64 aa ac).bind fun n47=>(Hp.ldI r45.2 .i64 aa (ac + 1)).bind fun n48=>(Hp.ldSl r45.2 aa (ac + 2)).bind fun s49=>(bQ n47 n48 s49 ae r45.2).bind fun r50=>((r50.1).asSl).bind fun s51=>(Hp.new r50.2 [(.sl s46),(.sl s51)]).bind fun H52=>aW.l32745 F eV eP eQ ah bQ F aa ac ae (⟨some (r50.2.length,0),2,.ex 2⟩:Sl) ((⟨some (r50.2.length,0),2,.ex 2⟩:Sl).n:Int) 0 H52) else none)) else (some ((.bool true),r39.2)))))
def aW.tw (F:Nat) (aa:Nat) (ac:Nat) (ae:Int) (H:Hp):OA:=aW.twX F (aI.tw F) (bT.tw F) (bU.tw F) (aO.tw F) (cC.tw F) aa ac ae H
def aW.code:Go.Code:=(Try.f133.body).getD .skip
def aW.lh32745 (F:Nat) (eV:Nat→Nat→Int→Hp→OA) (eP:Int→Int→Sl→Int→Int→Hp→OA) (eQ:Int→Int→Sl→Int→Int→Hp→OA) (ah:Int→Int→Sl→Int→Int→Hp→OA) (bQ:Int→Int→Sl→Int→Hp→OA) (ks:List Nat) (n:Nat) (tm:Tm) (H:Hp):OA:=match ks,tm 0,tm 1,tm 94,tm 95,tm 96 with
 | [],(.ptr gE gF),(.int .i64 fK),(.sl lq),(.int .i64 lL),(.int .i64 lM)=>aW.l32745 F eV eP eQ ah bQ n gE gF fK lq lL lM H
 | _,_,_,_,_,_=>none
theorem aW.lh32745_inv {F:Nat} {eV:Nat→Nat→Int→Hp→OA} {eP:Int→Int→Sl→Int→Int→Hp→OA} {eQ:Int→Int→Sl→Int→Int→Hp→OA} {ah:Int→Int→Sl→Int→Int→Hp→OA} {bQ:Int→Int→Sl→Int→Hp→OA} {ks:List Nat} {n:Nat} {tm:Tm} {H:Hp} {r:AV×Hp} (h:aW.lh32745 F eV eP eQ ah bQ ks n tm H = some r):∃ gE:Nat,∃ gF:Nat,∃ fK:Int,∃ lq:Sl,∃ lL:Int,∃ lM:Int,ks = []∧tm 0 = (.ptr gE gF)∧tm 1 = (.int .i64 fK)∧tm 94 = (.sl lq)∧tm 95 = (.int .i64 lL)∧tm 96 = (.int .i64 lM)∧aW.l32745 F eV eP eQ ah bQ n gE gF fK lq lL lM H = some r:=by
 unfold aW.lh32745 at h
 split at h
 ·exact ⟨_,_,_,_,_,_,rfl,by assumption,by assumption,by assumption,by assumption,by assumption,h⟩
 ·cases h
def aW.lh32747 (F:Nat) (eV:Nat→Nat→Int→Hp→OA) (eP:Int→Int→Sl→Int→Int→Hp→OA) (eQ:Int→Int→Sl→Int→Int→Hp→OA) (ah:Int→Int→Sl→Int→Int→Hp→OA) (bQ:Int→Int→Sl→Int→Hp→OA) (ks:List Nat) (n:Nat) (tm:Tm) (H:Hp):OA:=match ks,tm 0,tm 1,tm 120,tm 121 with
 | [],(.ptr kk kl),(.int .i64 ja),(.int .i64 jO),(.int .i64 jb)=>aW.l32747 F eV eP eQ ah bQ n kk kl ja jO jb H
 | _,_,_,_,_=>none
theorem aW.lh32747_inv {F:Nat} {eV:Nat→Nat→Int→Hp→OA} {eP:Int→Int→Sl→Int→Int→Hp→OA} {eQ:Int→Int→Sl→Int→Int→Hp→OA} {ah:Int→Int→Sl→Int→Int→Hp→OA} {bQ:Int→Int→Sl→Int→Hp→OA} {ks:List Nat} {n:Nat} {tm:Tm} {H:Hp} {r:AV×Hp} (h:aW.lh32747 F eV eP eQ ah bQ ks n tm H = some r):∃ kk:Nat,∃ kl:Nat,∃ ja:Int,∃ jO:Int,∃ jb:Int,ks = []∧tm 0 = (.ptr kk kl)∧tm 1 = (.int .i64 ja)∧tm 120 = (.int .i64 jO)∧tm 121 = (.int .i64 jb)∧aW.l32747 F eV eP eQ ah bQ n kk kl ja jO jb H = some r:=by
 unfold aW.lh32747 at h
 split at h
 ·exact ⟨_,_,_,_,_,rfl,by assumption,by assumption,by assumption,by assumption,h⟩
 ·cases h
def aW.lh2095707 (F:Nat) (eV:Nat→Nat→Int→Hp→OA) (eP:Int→Int→Sl→Int→Int→Hp→OA) (eQ:Int→Int→Sl→Int→Int→Hp→OA) (ah:Int→Int→Sl→Int→Int→Hp→OA) (bQ:Int→Int→Sl→Int→Hp→OA) (ks:List Nat) (n:Nat) (tm:Tm) (H:Hp):OA:=match ks,tm 0,tm 1,tm 9,tm 94,tm 95,tm 96,tm 101,tm 102 with
 | [mD],(.ptr kp kq),(.int .i64 kD),(.sl kE),(.sl kS),(.int .i64 la),(.int .i64 ln),(.int .i64 lK),(.int .i64 lp)=>aW.l2095707 F eV eP eQ ah bQ (aW.l32745 F eV eP eQ ah bQ mD) n kp kq kD kS la ln kE lK lp H
 | _,_,_,_,_,_,_,_,_=>none
theorem aW.lh2095707_inv {F:Nat} {eV:Nat→Nat→Int→Hp→OA} {eP:Int→Int→Sl→Int→Int→Hp→OA} {eQ:Int→Int→Sl→Int→Int→Hp→OA} {ah:Int→Int→Sl→Int→Int→Hp→OA} {bQ:Int→Int→Sl→Int→Hp→OA} {ks:List Nat} {n:Nat} {tm:Tm} {H:Hp} {r:AV×Hp} (h:aW.lh2095707 F eV eP eQ ah bQ ks n tm H = some r):∃ mD:Nat,∃ kp:Nat,∃ kq:Nat,∃ kD:Int,∃ kE:Sl,∃ kS:Sl,∃ la:Int,∃ ln:Int,∃ lK:Int,∃ lp:Int,ks = [mD]∧tm 0 = (.ptr kp kq)∧tm 1 = (.int .i64 kD)∧tm 9 = (.sl kE)∧tm 94 = (.sl kS)∧tm 95 = (.int .i64 la)∧tm 96 = (.int .i64 ln)∧tm 101 = (.int .i64 lK)∧tm 102 = (.int .i64 lp)∧aW.l2095707 F eV eP eQ ah bQ (aW.l32745 F eV eP eQ ah bQ mD) n kp kq kD kS la ln kE lK lp H = some r:=by
 unfold aW.lh2095707 at h
 split at h
 ·exact ⟨_,_,_,_,_,_,_,_,_,_,rfl,by assumption,by assumption,by assumption,by assumption,by assumption,by assumption,by assumption,by assumption,h⟩
 ·cases h
def aW.lh (F:Nat) (eV:Nat→Nat→Int→Hp→OA) (eP:Int→Int→Sl→Int→Int→Hp→OA) (eQ:Int→Int→Sl→Int→Int→Hp→OA) (ah:Int→Int→Sl→Int→Int→Hp→OA) (bQ:Int→Int→Sl→Int→Hp→OA) (p:Nat) (ks:List Nat) (n:Nat) (tm:Tm) (H:Hp):OA:=bif p.beq 2095707 then aW.lh2095707 F eV eP eQ ah bQ ks n tm H else (bif p.beq 32747 then aW.lh32747 F eV eP eQ ah bQ ks n tm H else (bif p.beq 32745 then aW.lh32745 F eV eP eQ ah bQ ks n tm H else (none)))
def aW.pn:Nat→List Nat:=fun i=>(([(11,[13]),(23,[15,20])]:List (Nat×List Nat)).lookup i).getD []
def aW.tb:Nat→List (List Nat):=fun i=>(([(11,[[],[0],[0,1],[0,1,2],[0,1,2,3],[],[0,1,2,3,4,5],[],[7],[7,8],[7,8,9],[7,8,9,10],[],[0,1,2,3,4,5,6,7,8,9,10,11,12],[0,1,2,3,4,5,6,7,8,9,10,11,12,13],[0,1,2,3,4,5,6,7,8,9,10,11,12,13,14],[]]),(23,[[],[0],[0,1],[0,1,2],[0,1,2,3],[],[],[0,1,2,3,4,5,6],[],[8],[8,9],[8,9,10],[8,9,10,11],[],[],[0,1,2,3,4,5,6,7,8,9,10,11,12,13,14],[0,1,2,3,4,5,6,7,8,9,10,11,12,13,14,15],[0,1,2,3,4,5,6,7,8,9,10,11,12,13,14,15,16],[0,1,2,3,4,5,6,7,8,9,10,11,12,13,14,15,16,17],[0,1,2,3,4,5,6,7,8,9,10,11,12,13,14,15,16,17,18],[0,1,2,3,4,5,6,7,8,9,10,11,12,13,14,15,16,17,18,19]])]:List (Nat×List (List Nat))).lookup i).getD []
def aW.mk (g:Nat→Nat→Int→Hp→OA) (args:List AV) (H:Hp):OA:=match args with
 | [(.ptr aa ac),(.int .i64 ae)]=>g aa ac ae H
 | _=>none
def aW.cs (F:Nat) (eV:Nat→Nat→Int→Hp→OA) (eP:Int→Int→Sl→Int→Int→Hp→OA) (eQ:Int→Int→Sl→Int→Int→Hp→OA) (ah:Int→Int→Sl→Int→Int→Hp→OA) (bQ:Int→Int→Sl→Int→Hp→OA):List (FuncId×(List AV→Hp→OA)):=[(150,aI.mk eV),(151,bT.mk eP),(152,bU.mk eQ),(95,aO.mk ah),(120,cC.mk bQ)]
theorem aW.loops (F:Nat) (eV:Nat→Nat→Int→Hp→OA) (eP:Int→Int→Sl→Int→Int→Hp→OA) (eQ:Int→Int→Sl→Int→Int→Hp→OA) (ah:Int→Int→Sl→Int→Int→Hp→OA) (bQ:Int→Int→Sl→Int→Hp→OA):LoopsOk tabs (mkOrc (aW.cs F eV eP eQ ah bQ)) aW.pn (aW.lh F eV eP eQ ah bQ) F [] 1 aW.code (fun tm H=>aresults tabs.ty H tm Try.f133.results.toList fun v=>some (v,H)) (fun _ _ _=>none) (fun tm H=>aresults tabs.ty H tm Try.f133.results.toList fun v=>some (v,H)):=by
 refine LoopsOk.seq ?_ ?_
 ·exact loops_none (by kernel_rfl)
 ·refine LoopsOk.seq ?_ ?_
  ·exact loops_none (by kernel_rfl)
  ·refine LoopsOk.seq ?_ ?_
   ·exact loops_none (by kernel_rfl)
   ·refine LoopsOk.seq ?_ ?_
    ·exact loops_none (by kernel_rfl)
    ·refine LoopsOk.seq ?_ ?_
     ·exact loops_none (by kernel_rfl)
     ·refine LoopsOk.seq ?_ ?_
      ·exact loops_none (by kernel_rfl)
      ·refine LoopsOk.seq ?_ ?_
       ·exact loops_none (by kernel_rfl)
       ·refine LoopsOk.seq ?_ ?_
        ·exact loops_none (by kernel_rfl)
        ·refine LoopsOk.seq ?_ ?_
         ·exact loops_none (by kernel_rfl)
         ·refine LoopsOk.seq ?_ ?_
          ·refine LoopsOk.seq ?_ ?_
           ·exact loops_none (by kernel_rfl)
           ·refine LoopsOk.cond ?_ ?_
            ·refine LoopsOk.seq ?_ ?_
             ·refine LoopsOk.seq ?_ ?_
              ·exact loops_none (by kernel_rfl)
              ·refine LoopsOk.block ?_
               refine LoopsOk.loop (fun tm H=>?_) (fun k32745 tm H r h0=>?_) (fun k32745=>?_)
               ·refine none_of fun r h0=>?_
                obtain ⟨gE,gF,fK,lq,lL,lM,hks,e0,e1,e94,e95,e96,h⟩:=aW.lh32745_inv (show aW.lh32745 F eV eP eQ ah bQ [] 0 tm H = some r from h0)
                cases h
               ·obtain ⟨gE,gF,fK,lq,lL,lM,hks,e0,e1,e94,e95,e96,h⟩:=aW.lh32745_inv (show aW.lh32745 F eV eP eQ ah bQ [] (k32745 + 1) tm H = some r from h0)
                have q0:(Tm.put tm 0 (.ptr gE gF)) = tm:=by exact Tm.put_same e0
                have q1:(Tm.put (Tm.put tm 0 (.ptr gE gF)) 1 (.int .i64 fK)) = tm:=by rw [q0]; exact Tm.put_same e1
                have q2:(Tm.put (Tm.put (Tm.put tm 0 (.ptr gE gF)) 1 (.int .i64 fK)) 94 (.sl lq)) = tm:=by rw [q1]; exact Tm.put_same e94
                have q3:(Tm.put (Tm.put (Tm.put (Tm.put tm 0 (.ptr gE gF)) 1 (.int .i64 fK)) 94 (.sl lq)) 95 (.int .i64 lL)) = tm:=by rw [q2]; exact Tm.put_same e95
                have q4:(Tm.put (Tm.put (Tm.put (Tm.put (Tm.put tm 0 (.ptr gE gF)) 1 (.int .i64 fK)) 94 (.sl lq)) 95 (.int .i64 lL)) 96 (.int .i64 lM)) = tm:=by rw [q3]; exact Tm.put_same e96
                rw [← q4]
                exact Eq.trans (by kernel_rfl) h
               ·refine LoopsOk.seq ?_ ?_
                ·exact loops_none (by kernel_rfl)
                ·refine LoopsOk.seq ?_ ?_
                 ·exact loops_none (by kernel_rfl)
                 ·refine LoopsOk.seq ?_ ?_
                  ·refine LoopsOk.block ?_
                   refine LoopsOk.seq ?_ ?_
                   ·exact loops_none (by kernel_rfl)
                   ·refine LoopsOk.seq ?_ ?_
                    ·exact loops_none (by kernel_rfl)
                    ·refine LoopsOk.block ?_
                     refine LoopsOk.loop (fun tm H=>?_) (fun k2095707 tm H r h0=>?_) (fun k2095707=>?_)
                     ·refine none_of fun r h0=>?_
                      obtain ⟨mD,kp,kq,kD,kE,kS,la,ln,lK,lp,hks,e0,e1,e9,e94,e95,e96,e101,e102,h⟩:=aW.lh2095707_inv (show aW.lh2095707 F eV eP eQ ah bQ [k32745] 0 tm H = some r from h0)
                      cases h
                     ·obtain ⟨mD,kp,kq,kD,kE,kS,la,ln,lK,lp,hks,e0,e1,e9,e94,e95,e96,e101,e102,h⟩:=aW.lh2095707_inv (show aW.lh2095707 F eV eP eQ ah bQ [k32745] (k2095707 + 1) tm H = some r from h0)
                      obtain rfl:mD = k32745:=by simpa [eq_comm] using hks
                      have q0:(Tm.put tm 0 (.ptr kp kq)) = tm:=by exact Tm.put_same e0
                      have q1:(Tm.put (Tm.put tm 0 (.ptr kp kq)) 1 (.int .i64 kD)) = tm:=by rw [q0]; exact Tm.put_same e1
                      have q2:(Tm.put (Tm.put (Tm.put tm 0 (.ptr kp kq)) 1 (.int .i64 kD)) 9 (.sl kE)) = tm:=by rw [q1]; exact Tm.put_same e9
                      have q3:(Tm.put (Tm.put (Tm.put (Tm.put tm 0 (.ptr kp kq)) 1 (.int .i64 kD)) 9 (.sl kE)) 94 (.sl kS)) = tm:=by rw [q2]; exact Tm.put_same e94
                      have q4:(Tm.put (Tm.put (Tm.put (Tm.put (Tm.put tm 0 (.ptr kp kq)) 1 (.int .i64 kD)) 9 (.sl kE)) 94 (.sl kS)) 95 (.int .i64 la)) = tm:=by rw [q3]; exact Tm.put_same e95
                      have q5:(Tm.put (Tm.put (Tm.put (Tm.put (Tm.put (Tm.put tm 0 (.ptr kp kq)) 1 (.int .i64 kD)) 9 (.sl kE)) 94 (.sl kS)) 95 (.int .i64 la)) 96 (.int .i64 ln)) = tm:=by rw [q4]; exact Tm.put_same e96
                      have q6:(Tm.put (Tm.put (Tm.put (Tm.put (Tm.put (Tm.put (Tm.put tm 0 (.ptr kp kq)) 1 (.int .i64 kD)) 9 (.sl kE)) 94 (.sl kS)) 95 (.int .i64 la)) 96 (.int .i64 ln)) 101 (.int .i64 lK)) = tm:=by rw [q5]; exact Tm.put_same e101
                      have q7:(Tm.put (Tm.put (Tm.put (Tm.put (Tm.put (Tm.put (Tm.put (Tm.put tm 0 (.ptr kp kq)) 1 (.int .i64 kD)) 9 (.sl kE)) 94 (.sl kS)) 95 (.int .i64 la)) 96 (.int .i64 ln)) 101 (.int .i64 lK)) 102 (.int .i64 lp)) = tm:=by rw [q6]; exact Tm.put_same e102
                      rw [← q7]
                      exact Eq.trans (by kernel_rfl) h
                     ·exact loops_none (by kernel_rfl)
                  ·exact loops_none (by kernel_rfl)
             ·refine LoopsOk.seq ?_ ?_
              ·exact loops_none (by kernel_rfl)
              ·refine LoopsOk.block ?_
               refine LoopsOk.loop (fun tm H=>?_) (fun k32747 tm H r h0=>?_) (fun k32747=>?_)
               ·refine none_of fun r h0=>?_
                obtain ⟨kk,kl,ja,jO,jb,hks,e0,e1,e120,e121,h⟩:=aW.lh32747_inv (show aW.lh32747 F eV eP eQ ah bQ [] 0 tm H = some r from h0)
                cases h
               ·obtain ⟨kk,kl,ja,jO,jb,hks,e0,e1,e120,e121,h⟩:=aW.lh32747_inv (show aW.lh32747 F eV eP eQ ah bQ [] (k32747 + 1) tm H = some r from h0)
                have q0:(Tm.put tm 0 (.ptr kk kl)) = tm:=by exact Tm.put_same e0
                have q1:(Tm.put (Tm.put tm 0 (.ptr kk kl)) 1 (.int .i64 ja)) = tm:=by rw [q0]; exact Tm.put_same e1
                have q2:(Tm.put (Tm.put (Tm.put tm 0 (.ptr kk kl)) 1 (.int .i64 ja)) 120 (.int .i64 jO)) = tm:=by rw [q1]; exact Tm.put_same e120
                have q3:(Tm.put (Tm.put (Tm.put (Tm.put tm 0 (.ptr kk kl)) 1 (.int .i64 ja)) 120 (.int .i64 jO)) 121 (.int .i64 jb)) = tm:=by rw [q2]; exact Tm.put_same e121
                rw [← q3]
                exact Eq.trans (by kernel_rfl) h
               ·exact loops_none (by kernel_rfl)
            ·exact loops_none (by kernel_rfl)
          ·exact loops_none (by kernel_rfl)
theorem aW.eqX (F:Nat) (eV:Nat→Nat→Int→Hp→OA) (eP:Int→Int→Sl→Int→Int→Hp→OA) (eQ:Int→Int→Sl→Int→Int→Hp→OA) (ah:Int→Int→Sl→Int→Int→Hp→OA) (bQ:Int→Int→Sl→Int→Hp→OA) (aa:Nat) (ac:Nat) (ae:Int) (H:Hp):aCode tabs (mkOrc (aW.cs F eV eP eQ ah bQ)) aW.pn (aW.lh F eV eP eQ ah bQ) F [] 1 aW.code (argTm [(.ptr aa ac),(.int .i64 ae)]) H (fun tm H=>aresults tabs.ty H tm Try.f133.results.toList fun v=>some (v,H)) (fun _ _ _=>none) (fun tm H=>aresults tabs.ty H tm Try.f133.results.toList fun v=>some (v,H)) = aW.twX F eV eP eQ ah bQ aa ac ae H:=by kernel_rfl
theorem aW.cs_ok (F:Nat):∀ p ∈ aW.cs F (aI.tw F) (bT.tw F) (bU.tw F) (aO.tw F) (cC.tw F),∀ args H v H',p.2 args H = some (v,H')→Go.AE.T Try.prog p.1 args H v H':=by
 intro p hp
 simp only [aW.cs,List.mem_cons,List.not_mem_nil,or_false] at hp
 rcases hp with rfl | rfl | rfl | rfl | rfl
 ·exact fun args H v H' h=>aI.mk_T h
 ·exact fun args H v H' h=>bT.mk_T h
 ·exact fun args H v H' h=>bU.mk_T h
 ·exact fun args H v H' h=>aO.mk_T h
 ·exact fun args H v H' h=>cC.mk_T h
theorem aW.ok:codeOk aW.pn Try.f133.ntmps aW.tb aW.code = true:=by kernel_rfl
theorem aW.T {F:Nat} {aa:Nat} {ac:Nat} {ae:Int} {H:Hp} {v:AV} {H':Hp} (h:aW.tw F aa ac ae H = some (v,H')):Go.AE.T Try.prog 133 [(.ptr aa ac),(.int .i64 ae)] H v H':=
 Go.AE.T.of (Y:=tabs) (C:=mkOrc (aW.cs F (aI.tw F) (bT.tw F) (bU.tw F) (aO.tw F) (cC.tw F))) (PN:=aW.pn) (LH:=aW.lh F (aI.tw F) (bT.tw F) (bU.tw F) (aO.tw F) (cC.tw F)) (F:=F) (TB:=aW.tb) (fn:=Try.f133) (code:=aW.code) mixed tabs_ok (mkOrc_ok (aW.cs_ok F)) Try.func133 (by kernel_rfl) (by kernel_rfl) aW.ok (Nat.le_of_ble_eq_true (by kernel_rfl)) (aW.loops F (aI.tw F) (bT.tw F) (bU.tw F) (aO.tw F) (cC.tw F)) (Eq.trans (aW.eqX F (aI.tw F) (bT.tw F) (bU.tw F) (aO.tw F) (cC.tw F) aa ac ae H) h)
theorem aW.mk_T {F:Nat} {args:List AV} {H:Hp} {v:AV} {H':Hp} (h:aW.mk (aW.tw F) args H = some (v,H')):Go.AE.T Try.prog 133 args H v H':=by
 unfold aW.mk at h
 split at h
 ·exact aW.T h
 ·cases h
def dC.twX (F:Nat) (aa:Int) (ag:Int) (H:Hp):OA:=(if ag = 0 then none else ((if ag = 0 then none else ((bif (decide ((Int.tmod aa ag) < 0)) then (some ((.int .i64 (IntKind.i64.wrap ((IntKind.i64.wrap (Int.tdiv aa ag)) - 1))),H)) else (some ((.int .i64 (IntKind.i64.wrap (Int.tdiv aa ag))),H)))))))
def dC.tw (F:Nat) (aa:Int) (ag:Int) (H:Hp):OA:=dC.twX F aa ag H
def dC.code:Go.Code:=(Try.f153.body).getD .skip
def dC.lh (F:Nat) (p:Nat) (ks:List Nat) (n:Nat) (tm:Tm) (H:Hp):OA:=none
def dC.pn:Nat→List Nat:=fun i=>(([]:List (Nat×List Nat)).lookup i).getD []
def dC.tb:Nat→List (List Nat):=fun i=>(([]:List (Nat×List (List Nat))).lookup i).getD []
def dC.mk (g:Int→Int→Hp→OA) (args:List AV) (H:Hp):OA:=match args with
 | [(.int .i64 aa),(.int .i64 ag)]=>g aa ag H
 | _=>none
def dC.cs (F:Nat):List (FuncId×(List AV→Hp→OA)):=[]
theorem dC.loops (F:Nat):LoopsOk tabs (mkOrc (dC.cs F)) dC.pn (dC.lh F) F [] 1 dC.code (fun tm H=>aresults tabs.ty H tm Try.f153.results.toList fun v=>some (v,H)) (fun _ _ _=>none) (fun tm H=>aresults tabs.ty H tm Try.f153.results.toList fun v=>some (v,H)):=by
 exact loops_none (by kernel_rfl)
theorem dC.eqX (F:Nat) (aa:Int) (ag:Int) (H:Hp):aCode tabs (mkOrc (dC.cs F)) dC.pn (dC.lh F) F [] 1 dC.code (argTm [(.int .i64 aa),(.int .i64 ag)]) H (fun tm H=>aresults tabs.ty H tm Try.f153.results.toList fun v=>some (v,H)) (fun _ _ _=>none) (fun tm H=>aresults tabs.ty H tm Try.f153.results.toList fun v=>some (v,H)) = dC.twX F aa ag H:=by kernel_rfl
theorem dC.cs_ok (F:Nat):∀ p ∈ dC.cs F,∀ args H v H',p.2 args H = some (v,H')→Go.AE.T Try.prog p.1 args H v H':=by
 intro p hp
 exact absurd (show p ∈ [] from hp) List.not_mem_nil
theorem dC.ok:codeOk dC.pn Try.f153.ntmps dC.tb dC.code = true:=by kernel_rfl
theorem dC.T {F:Nat} {aa:Int} {ag:Int} {H:Hp} {v:AV} {H':Hp} (h:dC.tw F aa ag H = some (v,H')):Go.AE.T Try.prog 153 [(.int .i64 aa),(.int .i64 ag)] H v H':=
 Go.AE.T.of (Y:=tabs) (C:=mkOrc (dC.cs F)) (PN:=dC.pn) (LH:=dC.lh F) (F:=F) (TB:=dC.tb) (fn:=Try.f153) (code:=dC.code) mixed tabs_ok (mkOrc_ok (dC.cs_ok F)) Try.func153 (by kernel_rfl) (by kernel_rfl) dC.ok (Nat.le_of_ble_eq_true (by kernel_rfl)) (dC.loops F) (Eq.trans (dC.eqX F aa ag H) h)
theorem dC.mk_T {F:Nat} {args:List AV} {H:Hp} {v:AV} {H':Hp} (h:dC.mk (dC.tw F) args H = some (v,H')):Go.AE.T Try.prog 153 args H v H':=by
 unfold dC.mk at h
 split at h
 ·exact dC.T h
 ·cases h
def dG.twX (F:Nat) (du:Int→Hp→OA) (aa:Int) (ag:Int) (cO:Int) (H:Hp):OA:=(bif (aa != 0) then ((du ag H).bind fun r4=>((r4.1).asI .i64).bind fun n5=>(du aa r4.2).bind fun r6=>((r6.1).asI .i64).bind fun n7=>(if n7 = 0 then none else ((bif (decide (n5 > (IntKind.i64.wrap (Int.tdiv cO n7)))) then (some ((.tup [(.int .i64 0),(.bool false)]),r6.2)) else (some ((.tup [(.int .i64 (IntKind.i64.wrap (aa * ag))),(.bool true)]),r6.2)))))) else (some ((.tup [(.int .i64 (IntKind.i64.wrap (aa * ag))),(.bool true)]),H)))
def dG.tw (F:Nat) (aa:Int) (ag:Int) (cO:Int) (H:Hp):OA:=dG.twX F (cm.tw F) aa ag cO H
def dG.code:Go.Code:=(Try.f138.body).getD .skip
def dG.lh (F:Nat) (du:Int→Hp→OA) (p:Nat) (ks:List Nat) (n:Nat) (tm:Tm) (H:Hp):OA:=none
def dG.pn:Nat→List Nat:=fun i=>(([]:List (Nat×List Nat)).lookup i).getD []
def dG.tb:Nat→List (List Nat):=fun i=>(([]:List (Nat×List (List Nat))).lookup i).getD []
def dG.mk (g:Int→Int→Int→Hp→OA) (args:List AV) (H:Hp):OA:=match args with
 | [(.int .i64 aa),(.int .i64 ag),(.int .i64 cO)]=>g aa ag cO H
 | _=>none
def dG.cs (F:Nat) (du:Int→Hp→OA):List (FuncId×(List AV→Hp→OA)):=[(102,cm.mk du)]
theorem dG.loops (F:Nat) (du:Int→Hp→OA):LoopsOk tabs (mkOrc (dG.cs F du)) dG.pn (dG.lh F du) F [] 1 dG.code (fun tm H=>aresults tabs.ty H tm Try.f138.results.toList fun v=>some (v,H)) (fun _ _ _=>none) (fun tm H=>aresults tabs.ty H tm Try.f138.results.toList fun v=>some (v,H)):=by
 exact loops_none (by kernel_rfl)
theorem dG.eqX (F:Nat) (du:Int→Hp→OA) (aa:Int) (ag:Int) (cO:Int) (H:Hp):aCode tabs (mkOrc (dG.cs F du)) dG.pn (dG.lh F du) F [] 1 dG.code (argTm [(.int .i64 aa),(.int .i64 ag),(.int .i64 cO)]) H (fun tm H=>aresults tabs.ty H tm Try.f138.results.toList fun v=>some (v,H)) (fun _ _ _=>none) (fun tm H=>aresults tabs.ty H tm Try.f138.results.toList fun v=>some (v,H)) = dG.twX F du aa ag cO H:=by kernel_rfl
theorem dG.cs_ok (F:Nat):∀ p ∈ dG.cs F (cm.tw F),∀ args H v H',p.2 args H = some (v,H')→Go.AE.T Try.prog p.1 args H v H':=by
 intro p hp
 simp only [dG.cs,List.mem_cons,List.not_mem_nil,or_false] at hp
 subst hp
 exact fun args H v H' h=>cm.mk_T h
theorem dG.ok:codeOk dG.pn Try.f138.ntmps dG.tb dG.code = true:=by kernel_rfl
theorem dG.T {F:Nat} {aa:Int} {ag:Int} {cO:Int} {H:Hp} {v:AV} {H':Hp} (h:dG.tw F aa ag cO H = some (v,H')):Go.AE.T Try.prog 138 [(.int .i64 aa),(.int .i64 ag),(.int .i64 cO)] H v H':=
 Go.AE.T.of (Y:=tabs) (C:=mkOrc (dG.cs F (cm.tw F))) (PN:=dG.pn) (LH:=dG.lh F (cm.tw F)) (F:=F) (TB:=dG.tb) (fn:=Try.f138) (code:=dG.code) mixed tabs_ok (mkOrc_ok (dG.cs_ok F)) Try.func138 (by kernel_rfl) (by kernel_rfl) dG.ok (Nat.le_of_ble_eq_true (by kernel_rfl)) (dG.loops F (cm.tw F)) (Eq.trans (dG.eqX F (cm.tw F) aa ag cO H) h)
theorem dG.mk_T {F:Nat} {args:List AV} {H:Hp} {v:AV} {H':Hp} (h:dG.mk (dG.tw F) args H = some (v,H')):Go.AE.T Try.prog 138 args H v H':=by
 unfold dG.mk at h
 split at h
 ·exact dG.T h
 ·cases h
def dv.twX (F:Nat) (lN:Int→Int→Int→Hp→OA) (du:Int→Hp→OA) (aa:Nat) (ac:Nat) (ae:Nat) (af:Nat) (bi:Int) (jz:Int) (H:Hp):OA:=(lN bi jz 2000000000000 H).bind fun r7=>((r7.1).asTup 2).bind fun l8=>(l8[0]?).bind fun v9=>((v9).asI .i64).bind fun n10=>(l8[1]?).bind fun v11=>((v11).asB).bind fun b12=>(Hp.ldI r7.2 .i64 ae af).bind fun n13=>(Hp.st r7.2 ae af (.int .i64 (IntKind.i64.wrap (n13 + n10)))).bind fun H14=>(bif (!b12) then ((Hp.st H14 aa (ac + 15) (.bool true)).bind fun H15=>(Hp.st H15 ae af (.int .i64 0)).bind fun H16=>some ((.tup []),H16)) else ((Hp.ldI H14 .i64 ae af).bind fun n17=>(du n17 H14).bind fun r18=>((r18.1).asI .i64).bind fun n19=>(bif (decide (n19 > 1000000000000)) then ((Hp.st r18.2 aa (ac + 15) (.bool true)).bind fun H20=>(Hp.st H20 ae af (.int .i64 0)).bind fun H21=>some ((.tup []),H21)) else (some ((.tup []),r18.2)))))
def dv.tw (F:Nat) (aa:Nat) (ac:Nat) (ae:Nat) (af:Nat) (bi:Int) (jz:Int) (H:Hp):OA:=dv.twX F (dG.tw F) (cm.tw F) aa ac ae af bi jz H
def dv.code:Go.Code:=(Try.f163.body).getD .skip
def dv.lh (F:Nat) (lN:Int→Int→Int→Hp→OA) (du:Int→Hp→OA) (p:Nat) (ks:List Nat) (n:Nat) (tm:Tm) (H:Hp):OA:=none
def dv.pn:Nat→List Nat:=fun i=>(([]:List (Nat×List Nat)).lookup i).getD []
def dv.tb:Nat→List (List Nat):=fun i=>(([]:List (Nat×List (List Nat))).lookup i).getD []
def dv.mk (g:Nat→Nat→Nat→Nat→Int→Int→Hp→OA) (args:List AV) (H:Hp):OA:=match args with
 | [(.ptr aa ac),(.ptr ae af),(.int .i64 bi),(.int .i64 jz)]=>g aa ac ae af bi jz H
 | _=>none
def dv.cs (F:Nat) (lN:Int→Int→Int→Hp→OA) (du:Int→Hp→OA):List (FuncId×(List AV→Hp→OA)):=[(138,dG.mk lN),(102,cm.mk du)]
theorem dv.loops (F:Nat) (lN:Int→Int→Int→Hp→OA) (du:Int→Hp→OA):LoopsOk tabs (mkOrc (dv.cs F lN du)) dv.pn (dv.lh F lN du) F [] 1 dv.code (fun tm H=>aresults tabs.ty H tm Try.f163.results.toList fun v=>some (v,H)) (fun _ _ _=>none) (fun tm H=>aresults tabs.ty H tm Try.f163.results.toList fun v=>some (v,H)):=by
 exact loops_none (by kernel_rfl)
theorem dv.eqX (F:Nat) (lN:Int→Int→Int→Hp→OA) (du:Int→Hp→OA) (aa:Nat) (ac:Nat) (ae:Nat) (af:Nat) (bi:Int) (jz:Int) (H:Hp):aCode tabs (mkOrc (dv.cs F lN du)) dv.pn (dv.lh F lN du) F [] 1 dv.code (argTm [(.ptr aa ac),(.ptr ae af),(.int .i64 bi),(.int .i64 jz)]) H (fun tm H=>aresults tabs.ty H tm Try.f163.results.toList fun v=>some (v,H)) (fun _ _ _=>none) (fun tm H=>aresults tabs.ty H tm Try.f163.results.toList fun v=>some (v,H)) = dv.twX F lN du aa ac ae af bi jz H:=by kernel_rfl
theorem dv.cs_ok (F:Nat):∀ p ∈ dv.cs F (dG.tw F) (cm.tw F),∀ args H v H',p.2 args H = some (v,H')→Go.AE.T Try.prog p.1 args H v H':=by
 intro p hp
 simp only [dv.cs,List.mem_cons,List.not_mem_nil,or_false] at hp
 rcases hp with rfl | rfl
 ·exact fun args H v H' h=>dG.mk_T h
 ·exact fun args H v H' h=>cm.mk_T h
theorem dv.ok:codeOk dv.pn Try.f163.ntmps dv.tb dv.code = true:=by kernel_rfl
theorem dv.T {F:Nat} {aa:Nat} {ac:Nat} {ae:Nat} {af:Nat} {bi:Int} {jz:Int} {H:Hp} {v:AV} {H':Hp} (h:dv.tw F aa ac ae af bi jz H = some (v,H')):Go.AE.T Try.prog 163 [(.ptr aa ac),(.ptr ae af),(.int .i64 bi),(.int .i64 jz)] H v H':=
 Go.AE.T.of (Y:=tabs) (C:=mkOrc (dv.cs F (dG.tw F) (cm.tw F))) (PN:=dv.pn) (LH:=dv.lh F (dG.tw F) (cm.tw F)) (F:=F) (TB:=dv.tb) (fn:=Try.f163) (code:=dv.code) mixed tabs_ok (mkOrc_ok (dv.cs_ok F)) Try.func163 (by kernel_rfl) (by kernel_rfl) dv.ok (Nat.le_of_ble_eq_true (by kernel_rfl)) (dv.loops F (dG.tw F) (cm.tw F)) (Eq.trans (dv.eqX F (dG.tw F) (cm.tw F) aa ac ae af bi jz H) h)
theorem dv.mk_T {F:Nat} {args:List AV} {H:Hp} {v:AV} {H':Hp} (h:dv.mk (dv.tw F) args H = some (v,H')):Go.AE.T Try.prog 163 args H v H':=by
 unfold dv.mk at h
 split at h
 ·exact dv.T h
 ·cases h
def bJ.l7 (F:Nat) (ah:Int→Int→Sl→Int→Int→Hp→OA) (fw:Nat→Nat→Nat→Nat→Int→Int→Hp→OA) :Nat→Nat→Nat→Int→Int→Int→Nat→Nat→Int→Int→Hp→OA
 | 0,_,_,_,_,_,_,_,_,_,_=>none
 | kI + 1,cU,eY,ck,dY,dx,cS,gh,fC,fd,H23=>(bif (decide (fd < fC)) then ((Hp.ldI H23 .i64 cS gh).bind fun n36=>(Hp.ldI H23 .i64 cS (gh + 1)).bind fun n37=>(Hp.ldSl H23 cS (gh + 2)).bind fun s38=>(ah n36 n37 s38 ck fd H23).bind fun r39=>((r39.1).asP).bind fun p40=>(if Cons H23 r39.2 then ((Hp.ldI r39.2 .i64 cS gh).bind fun n41=>(Hp.ldI r39.2 .i64 cS (gh + 1)).bind fun n42=>(Hp.ldSl r39.2 cS (gh + 2)).bind fun s43=>(ah n41 n42 s43 dY fd r39.2).bind fun r44=>((r44.1).asP).bind fun p45=>(Hp.ldI r44.2 .i64 p45.1 p45.2).bind fun n46=>(fw cU eY p40.1 p40.2 n46 dx r44.2).bind fun r47=>bJ.l7 F ah fw kI cU eY ck dY dx cS gh fC (IntKind.i64.wrap (fd + 1)) r47.2) else none)) else (some ((.tup []),H23)))
termination_by structural n=>n
def bJ.twX (F:Nat) (ah:Int→Int→Sl→Int→Int→Hp→OA) (fw:Nat→Nat→Nat→Nat→Int→Int→Hp→OA) (aa:Nat) (ac:Nat) (ae:Int) (af:Int) (bu:Sl) (cQ:Int) (cR:Int) (cz:Int) (H:Hp):OA:=(Hp.new H [(.int .i64 ae),(.int .i64 af),(.sl bu)]).bind fun H9=>(Hp.ldI H9 .i64 H.length 1).bind fun n10=>bJ.l7 F ah fw F aa ac cQ cR cz H.length 0 n10 0 H9
def bJ.tw (F:Nat) (aa:Nat) (ac:Nat) (ae:Int) (af:Int) (bu:Sl) (cQ:Int) (cR:Int) (cz:Int) (H:Hp):OA:=bJ.twX F (aO.tw F) (dv.tw F) aa ac ae af bu cQ cR cz H
def bJ.code:Go.Code:=(Try.f157.body).getD .skip
def bJ.lh7 (F:Nat) (ah:Int→Int→Sl→Int→Int→Hp→OA) (fw:Nat→Nat→Nat→Nat→Int→Int→Hp→OA) (ks:List Nat) (n:Nat) (tm:Tm) (H:Hp):OA:=match ks,tm 0,tm 2,tm 3,tm 4,tm 6,tm 12,tm 13 with
 | [],(.ptr cU eY),(.int .i64 ck),(.int .i64 dY),(.int .i64 dx),(.ptr cS gh),(.int .i64 fC),(.int .i64 fd)=>bJ.l7 F ah fw n cU eY ck dY dx cS gh fC fd H
 | _,_,_,_,_,_,_,_=>none
theorem bJ.lh7_inv {F:Nat} {ah:Int→Int→Sl→Int→Int→Hp→OA} {fw:Nat→Nat→Nat→Nat→Int→Int→Hp→OA} {ks:List Nat} {n:Nat} {tm:Tm} {H:Hp} {r:AV×Hp} (h:bJ.lh7 F ah fw ks n tm H = some r):∃ cU:Nat,∃ eY:Nat,∃ ck:Int,∃ dY:Int,∃ dx:Int,∃ cS:Nat,∃ gh:Nat,∃ fC:Int,∃ fd:Int,ks = []∧tm 0 = (.ptr cU eY)∧tm 2 = (.int .i64 ck)∧tm 3 = (.int .i64 dY)∧tm 4 = (.int .i64 dx)∧tm 6 = (.ptr cS gh)∧tm 12 = (.int .i64 fC)∧tm 13 = (.int .i64 fd)∧bJ.l7 F ah fw n cU eY ck dY dx cS gh fC fd H = some r:=by
 unfold bJ.lh7 at h
 split at h
 ·exact ⟨_,_,_,_,_,_,_,_,_,rfl,by assumption,by assumption,by assumption,by assumption,by assumption,by assumption,by assumption,h⟩
 ·cases h
def bJ.lh (F:Nat) (ah:Int→Int→Sl→Int→Int→Hp→OA) (fw:Nat→Nat→Nat→Nat→Int→Int→Hp→OA) (p:Nat) (ks:List Nat) (n:Nat) (tm:Tm) (H:Hp):OA:=bif p.beq 7 then bJ.lh7 F ah fw ks n tm H else (none)
def bJ.pn:Nat→List Nat:=fun i=>(([(4,[8,12])]:List (Nat×List Nat)).lookup i).getD []
def bJ.tb:Nat→List (List Nat):=fun i=>(([(4,[[],[],[],[],[1,2,3],[],[],[],[1,2,3,4,5,6,7],[1,2,3,4,5,6,7,8],[1,2,3,4,5,6,7,8,9],[],[0,1,2,3,4,5,6,7,8,9,10,11]])]:List (Nat×List (List Nat))).lookup i).getD []
def bJ.mk (g:Nat→Nat→Int→Int→Sl→Int→Int→Int→Hp→OA) (args:List AV) (H:Hp):OA:=match args with
 | [(.ptr aa ac),(.agg [(.int .i64 ae),(.int .i64 af),(.sl bu)]),(.int .i64 cQ),(.int .i64 cR),(.int .i64 cz)]=>g aa ac ae af bu cQ cR cz H
 | _=>none
def bJ.cs (F:Nat) (ah:Int→Int→Sl→Int→Int→Hp→OA) (fw:Nat→Nat→Nat→Nat→Int→Int→Hp→OA):List (FuncId×(List AV→Hp→OA)):=[(95,aO.mk ah),(163,dv.mk fw)]
theorem bJ.loops (F:Nat) (ah:Int→Int→Sl→Int→Int→Hp→OA) (fw:Nat→Nat→Nat→Nat→Int→Int→Hp→OA):LoopsOk tabs (mkOrc (bJ.cs F ah fw)) bJ.pn (bJ.lh F ah fw) F [] 1 bJ.code (fun tm H=>aresults tabs.ty H tm Try.f157.results.toList fun v=>some (v,H)) (fun _ _ _=>none) (fun tm H=>aresults tabs.ty H tm Try.f157.results.toList fun v=>some (v,H)):=by
 refine LoopsOk.seq ?_ ?_
 ·exact loops_none (by kernel_rfl)
 ·refine LoopsOk.seq ?_ ?_
  ·exact loops_none (by kernel_rfl)
  ·refine LoopsOk.block ?_
   refine LoopsOk.loop (fun tm H=>?_) (fun k7 tm H r h0=>?_) (fun k7=>?_)
   ·refine none_of fun r h0=>?_
    obtain ⟨cU,eY,ck,dY,dx,cS,gh,fC,fd,hks,e0,e2,e3,e4,e6,e12,e13,h⟩:=bJ.lh7_inv (show bJ.lh7 F ah fw [] 0 tm H = some r from h0)
    cases h
   ·obtain ⟨cU,eY,ck,dY,dx,cS,gh,fC,fd,hks,e0,e2,e3,e4,e6,e12,e13,h⟩:=bJ.lh7_inv (show bJ.lh7 F ah fw [] (k7 + 1) tm H = some r from h0)
    have q0:(Tm.put tm 0 (.ptr cU eY)) = tm:=by exact Tm.put_same e0
    have q1:(Tm.put (Tm.put tm 0 (.ptr cU eY)) 2 (.int .i64 ck)) = tm:=by rw [q0]; exact Tm.put_same e2
    have q2:(Tm.put (Tm.put (Tm.put tm 0 (.ptr cU eY)) 2 (.int .i64 ck)) 3 (.int .i64 dY)) = tm:=by rw [q1]; exact Tm.put_same e3
    have q3:(Tm.put (Tm.put (Tm.put (Tm.put tm 0 (.ptr cU eY)) 2 (.int .i64 ck)) 3 (.int .i64 dY)) 4 (.int .i64 dx)) = tm:=by rw [q2]; exact Tm.put_same e4
    have q4:(Tm.put (Tm.put (Tm.put (Tm.put (Tm.put tm 0 (.ptr cU eY)) 2 (.int .i64 ck)) 3 (.int .i64 dY)) 4 (.int .i64 dx)) 6 (.ptr cS gh)) = tm:=by rw [q3]; exact Tm.put_same e6
    have q5:(Tm.put (Tm.put (Tm.put (Tm.put (Tm.put (Tm.put tm 0 (.ptr cU eY)) 2 (.int .i64 ck)) 3 (.int .i64 dY)) 4 (.int .i64 dx)) 6 (.ptr cS gh)) 12 (.int .i64 fC)) = tm:=by rw [q4]; exact Tm.put_same e12
    have q6:(Tm.put (Tm.put (Tm.put (Tm.put (Tm.put (Tm.put (Tm.put tm 0 (.ptr cU eY)) 2 (.int .i64 ck)) 3 (.int .i64 dY)) 4 (.int .i64 dx)) 6 (.ptr cS gh)) 12 (.int .i64 fC)) 13 (.int .i64 fd)) = tm:=by rw [q5]; exact Tm.put_same e13
    rw [← q6]
    exact Eq.trans (by kernel_rfl) h
   ·exact loops_none (by kernel_rfl)
theorem bJ.eqX (F:Nat) (ah:Int→Int→Sl→Int→Int→Hp→OA) (fw:Nat→Nat→Nat→Nat→Int→Int→Hp→OA) (aa:Nat) (ac:Nat) (ae:Int) (af:Int) (bu:Sl) (cQ:Int) (cR:Int) (cz:Int) (H:Hp):aCode tabs (mkOrc (bJ.cs F ah fw)) bJ.pn (bJ.lh F ah fw) F [] 1 bJ.code (argTm [(.ptr aa ac),(.agg [(.int .i64 ae),(.int .i64 af),(.sl bu)]),(.int .i64 cQ),(.int .i64 cR),(.int .i64 cz)]) H (fun tm H=>aresults tabs.ty H tm Try.f157.results.toList fun v=>some (v,H)) (fun _ _ _=>none) (fun tm H=>aresults tabs.ty H tm Try.f157.results.toList fun v=>some (v,H)) = bJ.twX F ah fw aa ac ae af bu cQ cR cz H:=by kernel_rfl
theorem bJ.cs_ok (F:Nat):∀ p ∈ bJ.cs F (aO.tw F) (dv.tw F),∀ args H v H',p.2 args H = some (v,H')→Go.AE.T Try.prog p.1 args H v H':=by
 intro p hp
 simp only [bJ.cs,List.mem_cons,List.not_mem_nil,or_false] at hp
 rcases hp with rfl | rfl
 ·exact fun args H v H' h=>aO.mk_T h
 ·exact fun args H v H' h=>dv.mk_T h
theorem bJ.ok:codeOk bJ.pn Try.f157.ntmps bJ.tb bJ.code = true:=by kernel_rfl
theorem bJ.T {F:Nat} {aa:Nat} {ac:Nat} {ae:Int} {af:Int} {bu:Sl} {cQ:Int} {cR:Int} {cz:Int} {H:Hp} {v:AV} {H':Hp} (h:bJ.tw F aa ac ae af bu cQ cR cz H = some (v,H')):Go.AE.T Try.prog 157 [(.ptr aa ac),(.agg [(.int .i64 ae),(.int .i64 af),(.sl bu)]),(.int .i64 cQ),(.int .i64 cR),(.int .i64 cz)] H v H':=
 Go.AE.T.of (Y:=tabs) (C:=mkOrc (bJ.cs F (aO.tw F) (dv.tw F))) (PN:=bJ.pn) (LH:=bJ.lh F (aO.tw F) (dv.tw F)) (F:=F) (TB:=bJ.tb) (fn:=Try.f157) (code:=bJ.code) mixed tabs_ok (mkOrc_ok (bJ.cs_ok F)) Try.func157 (by kernel_rfl) (by kernel_rfl) bJ.ok (Nat.le_of_ble_eq_true (by kernel_rfl)) (bJ.loops F (aO.tw F) (dv.tw F)) (Eq.trans (bJ.eqX F (aO.tw F) (dv.tw F) aa ac ae af bu cQ cR cz H) h)
theorem bJ.mk_T {F:Nat} {args:List AV} {H:Hp} {v:AV} {H':Hp} (h:bJ.mk (bJ.tw F) args H = some (v,H')):Go.AE.T Try.prog 157 args H v H':=by
 unfold bJ.mk at h
 split at h
 ·exact bJ.T h
 ·cases h
def bK.l7 (F:Nat) (ah:Int→Int→Sl→Int→Int→Hp→OA) (fw:Nat→Nat→Nat→Nat→Int→Int→Hp→OA) :Nat→Nat→Nat→Int→Int→Int→Nat→Nat→Int→Int→Hp→OA
 | 0,_,_,_,_,_,_,_,_,_,_=>none
 | kI + 1,cU,eY,ck,dY,dx,cS,gh,fC,fd,H23=>(bif (decide (fd < fC)) then ((Hp.ldI H23 .i64 cS gh).bind fun n36=>(Hp.ldI H23 .i64 cS (gh + 1)).bind fun n37=>(Hp.ldSl H23 cS (gh + 2)).bind fun s38=>(ah n36 n37 s38 fd ck H23).bind fun r39=>((r39.1).asP).bind fun p40=>(if Cons H23 r39.2 then ((Hp.ldI r39.2 .i64 cS gh).bind fun n41=>(Hp.ldI r39.2 .i64 cS (gh + 1)).bind fun n42=>(Hp.ldSl r39.2 cS (gh + 2)).bind fun s43=>(ah n41 n42 s43 fd dY r39.2).bind fun r44=>((r44.1).asP).bind fun p45=>(Hp.ldI r44.2 .i64 p45.1 p45.2).bind fun n46=>(fw cU eY p40.1 p40.2 n46 dx r44.2).bind fun r47=>bK.l7 F ah fw kI cU eY ck dY dx cS gh fC (IntKind.i64.wrap (fd + 1)) r47.2) else none)) else (some ((.tup []),H23)))
termination_by structural n=>n
def bK.twX (F:Nat) (ah:Int→Int→Sl→Int→Int→Hp→OA) (fw:Nat→Nat→Nat→Nat→Int→Int→Hp→OA) (aa:Nat) (ac:Nat) (ae:Int) (af:Int) (bu:Sl) (cQ:Int) (cR:Int) (cz:Int) (H:Hp):OA:=(Hp.new H [(.int .i64 ae),(.int .i64 af),(.sl bu)]).bind fun H9=>(Hp.ldI H9 .i64 H.length 0).bind fun n10=>bK.l7 F ah fw F aa ac cQ cR cz H.length 0 n10 0 H9
def bK.tw (F:Nat) (aa:Nat) (ac:Nat) (ae:Int) (af:Int) (bu:Sl) (cQ:Int) (cR:Int) (cz:Int) (H:Hp):OA:=bK.twX F (aO.tw F) (dv.tw F) aa ac ae af bu cQ cR cz H
def bK.code:Go.Code:=(Try.f158.body).getD .skip
def bK.lh7 (F:Nat) (ah:Int→Int→Sl→Int→Int→Hp→OA) (fw:Nat→Nat→Nat→Nat→Int→Int→Hp→OA) (ks:List Nat) (n:Nat) (tm:Tm) (H:Hp):OA:=match ks,tm 0,tm 2,tm 3,tm 4,tm 6,tm 12,tm 13 with
 | [],(.ptr cU eY),(.int .i64 ck),(.int .i64 dY),(.int .i64 dx),(.ptr cS gh),(.int .i64 fC),(.int .i64 fd)=>bK.l7 F ah fw n cU eY ck dY dx cS gh fC fd H
 | _,_,_,_,_,_,_,_=>none
theorem bK.lh7_inv {F:Nat} {ah:Int→Int→Sl→Int→Int→Hp→OA} {fw:Nat→Nat→Nat→Nat→Int→Int→Hp→OA} {ks:List Nat} {n:Nat} {tm:Tm} {H:Hp} {r:AV×Hp} (h:bK.lh7 F ah fw ks n tm H = some r):∃ cU:Nat,∃ eY:Nat,∃ ck:Int,∃ dY:Int,∃ dx:Int,∃ cS:Nat,∃ gh:Nat,∃ fC:Int,∃ fd:Int,ks = []∧tm 0 = (.ptr cU eY)∧tm 2 = (.int .i64 ck)∧tm 3 = (.int .i64 dY)∧tm 4 = (.int .i64 dx)∧tm 6 = (.ptr cS gh)∧tm 12 = (.int .i64 fC)∧tm 13 = (.int .i64 fd)∧bK.l7 F ah fw n cU eY ck dY dx cS gh fC fd H = some r:=by
 unfold bK.lh7 at h
 split at h
 ·exact ⟨_,_,_,_,_,_,_,_,_,rfl,by assumption,by assumption,by assumption,by assumption,by assumption,by assumption,by assumption,h⟩
 ·cases h
def bK.lh (F:Nat) (ah:Int→Int→Sl→Int→Int→Hp→OA) (fw:Nat→Nat→Nat→Nat→Int→Int→Hp→OA) (p:Nat) (ks:List Nat) (n:Nat) (tm:Tm) (H:Hp):OA:=bif p.beq 7 then bK.lh7 F ah fw ks n tm H else (none)
def bK.pn:Nat→List Nat:=fun i=>(([(4,[8,12])]:List (Nat×List Nat)).lookup i).getD []
def bK.tb:Nat→List (List Nat):=fun i=>(([(4,[[],[],[],[],[1,2,3],[],[],[],[1,2,3,4,5,6,7],[1,2,3,4,5,6,7,8],[1,2,3,4,5,6,7,8,9],[],[0,1,2,3,4,5,6,7,8,9,10,11]])]:List (Nat×List (List Nat))).lookup i).getD []
def bK.mk (g:Nat→Nat→Int→Int→Sl→Int→Int→Int→Hp→OA) (args:List AV) (H:Hp):OA:=match args with
 | [(.ptr aa ac),(.agg [(.int .i64 ae),(.int .i64 af),(.sl bu)]),(.int .i64 cQ),(.int .i64 cR),(.int .i64 cz)]=>g aa ac ae af bu cQ cR cz H
 | _=>none
def bK.cs (F:Nat) (ah:Int→Int→Sl→Int→Int→Hp→OA) (fw:Nat→Nat→Nat→Nat→Int→Int→Hp→OA):List (FuncId×(List AV→Hp→OA)):=[(95,aO.mk ah),(163,dv.mk fw)]
theorem bK.loops (F:Nat) (ah:Int→Int→Sl→Int→Int→Hp→OA) (fw:Nat→Nat→Nat→Nat→Int→Int→Hp→OA):LoopsOk tabs (mkOrc (bK.cs F ah fw)) bK.pn (bK.lh F ah fw) F [] 1 bK.code (fun tm H=>aresults tabs.ty H tm Try.f158.results.toList fun v=>some (v,H)) (fun _ _ _=>none) (fun tm H=>aresults tabs.ty H tm Try.f158.results.toList fun v=>some (v,H)):=by
 refine LoopsOk.seq ?_ ?_
 ·exact loops_none (by kernel_rfl)
 ·refine LoopsOk.seq ?_ ?_
  ·exact loops_none (by kernel_rfl)
  ·refine LoopsOk.block ?_
   refine LoopsOk.loop (fun tm H=>?_) (fun k7 tm H r h0=>?_) (fun k7=>?_)
   ·refine none_of fun r h0=>?_
    obtain ⟨cU,eY,ck,dY,dx,cS,gh,fC,fd,hks,e0,e2,e3,e4,e6,e12,e13,h⟩:=bK.lh7_inv (show bK.lh7 F ah fw [] 0 tm H = some r from h0)
    cases h
   ·obtain ⟨cU,eY,ck,dY,dx,cS,gh,fC,fd,hks,e0,e2,e3,e4,e6,e12,e13,h⟩:=bK.lh7_inv (show bK.lh7 F ah fw [] (k7 + 1) tm H = some r from h0)
    have q0:(Tm.put tm 0 (.ptr cU eY)) = tm:=by exact Tm.put_same e0
    have q1:(Tm.put (Tm.put tm 0 (.ptr cU eY)) 2 (.int .i64 ck)) = tm:=by rw [q0]; exact Tm.put_same e2
    have q2:(Tm.put (Tm.put (Tm.put tm 0 (.ptr cU eY)) 2 (.int .i64 ck)) 3 (.int .i64 dY)) = tm:=by rw [q1]; exact Tm.put_same e3
    have q3:(Tm.put (Tm.put (Tm.put (Tm.put tm 0 (.ptr cU eY)) 2 (.int .i64 ck)) 3 (.int .i64 dY)) 4 (.int .i64 dx)) = tm:=by rw [q2]; exact Tm.put_same e4
    have q4:(Tm.put (Tm.put (Tm.put (Tm.put (Tm.put tm 0 (.ptr cU eY)) 2 (.int .i64 ck)) 3 (.int .i64 dY)) 4 (.int .i64 dx)) 6 (.ptr cS gh)) = tm:=by rw [q3]; exact Tm.put_same e6
    have q5:(Tm.put (Tm.put (Tm.put (Tm.put (Tm.put (Tm.put tm 0 (.ptr cU eY)) 2 (.int .i64 ck)) 3 (.int .i64 dY)) 4 (.int .i64 dx)) 6 (.ptr cS gh)) 12 (.int .i64 fC)) = tm:=by rw [q4]; exact Tm.put_same e12
    have q6:(Tm.put (Tm.put (Tm.put (Tm.put (Tm.put (Tm.put (Tm.put tm 0 (.ptr cU eY)) 2 (.int .i64 ck)) 3 (.int .i64 dY)) 4 (.int .i64 dx)) 6 (.ptr cS gh)) 12 (.int .i64 fC)) 13 (.int .i64 fd)) = tm:=by rw [q5]; exact Tm.put_same e13
    rw [← q6]
    exact Eq.trans (by kernel_rfl) h
   ·exact loops_none (by kernel_rfl)
theorem bK.eqX (F:Nat) (ah:Int→Int→Sl→Int→Int→Hp→OA) (fw:Nat→Nat→Nat→Nat→Int→Int→Hp→OA) (aa:Nat) (ac:Nat) (ae:Int) (af:Int) (bu:Sl) (cQ:Int) (cR:Int) (cz:Int) (H:Hp):aCode tabs (mkOrc (bK.cs F ah fw)) bK.pn (bK.lh F ah fw) F [] 1 bK.code (argTm [(.ptr aa ac),(.agg [(.int .i64 ae),(.int .i64 af),(.sl bu)]),(.int .i64 cQ),(.int .i64 cR),(.int .i64 cz)]) H (fun tm H=>aresults tabs.ty H tm Try.f158.results.toList fun v=>some (v,H)) (fun _ _ _=>none) (fun tm H=>aresults tabs.ty H tm Try.f158.results.toList fun v=>some (v,H)) = bK.twX F ah fw aa ac ae af bu cQ cR cz H:=by kernel_rfl
theorem bK.cs_ok (F:Nat):∀ p ∈ bK.cs F (aO.tw F) (dv.tw F),∀ args H v H',p.2 args H = some (v,H')→Go.AE.T Try.prog p.1 args H v H':=by
 intro p hp
 simp only [bK.cs,List.mem_cons,List.not_mem_nil,or_false] at hp
 rcases hp with rfl | rfl
 ·exact fun args H v H' h=>aO.mk_T h
 ·exact fun args H v H' h=>dv.mk_T h
theorem bK.ok:codeOk bK.pn Try.f158.ntmps bK.tb bK.code = true:=by kernel_rfl
theorem bK.T {F:Nat} {aa:Nat} {ac:Nat} {ae:Int} {af:Int} {bu:Sl} {cQ:Int} {cR:Int} {cz:Int} {H:Hp} {v:AV} {H':Hp} (h:bK.tw F aa ac ae af bu cQ cR cz H = some (v,H')):Go.AE.T Try.prog 158 [(.ptr aa ac),(.agg [(.int .i64 ae),(.int .i64 af),(.sl bu)]),(.int .i64 cQ),(.int .i64 cR),(.int .i64 cz)] H v H':=
 Go.AE.T.of (Y:=tabs) (C:=mkOrc (bK.cs F (aO.tw F) (dv.tw F))) (PN:=bK.pn) (LH:=bK.lh F (aO.tw F) (dv.tw F)) (F:=F) (TB:=bK.tb) (fn:=Try.f158) (code:=bK.code) mixed tabs_ok (mkOrc_ok (bK.cs_ok F)) Try.func158 (by kernel_rfl) (by kernel_rfl) bK.ok (Nat.le_of_ble_eq_true (by kernel_rfl)) (bK.loops F (aO.tw F) (dv.tw F)) (Eq.trans (bK.eqX F (aO.tw F) (dv.tw F) aa ac ae af bu cQ cR cz H) h)
theorem bK.mk_T {F:Nat} {args:List AV} {H:Hp} {v:AV} {H':Hp} (h:bK.mk (bK.tw F) args H = some (v,H')):Go.AE.T Try.prog 158 args H v H':=by
 unfold bK.mk at h
 split at h
 ·exact bK.T h
 ·cases h
def cZ.twX (F:Nat) (ie:Nat→Nat→Int→Int→Sl→Int→Int→Int→Hp→OA) (ig:Nat→Nat→Int→Int→Sl→Int→Int→Int→Hp→OA) (aa:Nat) (ac:Nat) (ae:Int) (bG:Int) (cA:Int) (H:Hp):OA:=(Hp.ldI H .i64 aa (ac + 6)).bind fun n6=>(Hp.ldI H .i64 aa ((ac + 6) + 1)).bind fun n7=>(Hp.ldSl H aa ((ac + 6) + 2)).bind fun s8=>(ie aa ac n6 n7 s8 ae bG cA H).bind fun r9=>(Hp.ldI r9.2 .i64 aa ac).bind fun n10=>(Hp.ldI r9.2 .i64 aa (ac + 1)).bind fun n11=>(Hp.ldSl r9.2 aa (ac + 2)).bind fun s12=>(ie aa ac n10 n11 s12 ae bG cA r9.2).bind fun r13=>(Hp.ldI r13.2 .i64 aa (ac + 3)).bind fun n14=>(Hp.ldI r13.2 .i64 aa ((ac + 3) + 1)).bind fun n15=>(Hp.ldSl r13.2 aa ((ac + 3) + 2)).bind fun s16=>(ig aa ac n14 n15 s16 bG ae (IntKind.i64.wrap (0 - cA)) r13.2).bind fun r17=>some ((.tup []),r17.2)
def cZ.tw (F:Nat) (aa:Nat) (ac:Nat) (ae:Int) (bG:Int) (cA:Int) (H:Hp):OA:=cZ.twX F (bJ.tw F) (bK.tw F) aa ac ae bG cA H
def cZ.code:Go.Code:=(Try.f137.body).getD .skip
def cZ.lh (F:Nat) (ie:Nat→Nat→Int→Int→Sl→Int→Int→Int→Hp→OA) (ig:Nat→Nat→Int→Int→Sl→Int→Int→Int→Hp→OA) (p:Nat) (ks:List Nat) (n:Nat) (tm:Tm) (H:Hp):OA:=none
def cZ.pn:Nat→List Nat:=fun i=>(([]:List (Nat×List Nat)).lookup i).getD []
def cZ.tb:Nat→List (List Nat):=fun i=>(([]:List (Nat×List (List Nat))).lookup i).getD []
def cZ.mk (g:Nat→Nat→Int→Int→Int→Hp→OA) (args:List AV) (H:Hp):OA:=match args with
 | [(.ptr aa ac),(.int .i64 ae),(.int .i64 bG),(.int .i64 cA)]=>g aa ac ae bG cA H
 | _=>none
end
end Go.Proofs.Ytnkgeongfneafaa.AE
