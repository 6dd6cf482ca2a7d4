import Derived.Test.YtnkgeongfneafaaTab1
set_option linter.unusedVariables false
set_option linter.unusedSimpArgs false
namespace Go.Proofs.Ytnkgeongfneafaa.AE
open Go Go.AE Go.Proofs
set_option linter.unusedVariables false
set_option maxHeartbeats 4000000
set_option maxRecDepth 100000
noncomputable def eb.twX (F : Nat) (aa : Sl) (ak : Int) (H : Hp) : OA := (bif (decide ((IntKind.i64.wrap (ak - (aa.n : Int))) < 0)) then (some ((.int .i64 (-1)), H)) else (some ((.int .i64 (IntKind.i64.wrap (ak - (aa.n : Int)))), H)))
noncomputable def eb.tw (F : Nat) (aa : Sl) (ak : Int) (H : Hp) : OA := eb.twX F aa ak H
noncomputable def eb.code : Go.Code := (Try.f71.body).getD .skip
noncomputable def eb.lh (F : Nat) (p : Nat) (ks : List Nat) (n : Nat) (tm : Tm) (H : Hp) : OA := none
def eb.pn : Nat → List Nat := fun i => (([] : List (Nat × List Nat)).lookup i).getD []
def eb.tb : Nat → List (List Nat) := fun i => (([] : List (Nat × List (List Nat))).lookup i).getD []
noncomputable def eb.mk (g : Sl → Int → Hp → OA) (args : List AV) (H : Hp) : OA := match args with
 | [(.sl aa), (.int .i64 ak)] => g aa ak H
 | _ => none
noncomputable def eb.cs (F : Nat) : List (FuncId × (List AV → Hp → OA)) := []
theorem eb.loops (F : Nat) : LoopsOk tabs (mkOrc (eb.cs F)) eb.pn (eb.lh F) F [] 1 eb.code (fun tm H => aresults tabs.ty H tm Try.f71.results.toList fun v => some (v, H)) (fun _ _ _ => none) (fun tm H => aresults tabs.ty H tm Try.f71.results.toList fun v => some (v, H)) := by
 exact loops_none (by kernel_rfl)
theorem eb.eqX (F : Nat) (aa : Sl) (ak : Int) (H : Hp) : aCode tabs (mkOrc (eb.cs F)) eb.pn (eb.lh F) F [] 1 eb.code (argTm [(.sl aa), (.int .i64 ak)]) H (fun tm H => aresults tabs.ty H tm Try.f71.results.toList fun v => some (v, H)) (fun _ _ _ => none) (fun tm H => aresults tabs.ty H tm Try.f71.results.toList fun v => some (v, H)) = eb.twX F aa ak H := by kernel_rfl
theorem eb.cs_ok (F : Nat) : ∀ p ∈ eb.cs F, ∀ args H v H', p.2 args H = some (v, H') → Go.AE.T Try.prog p.1 args H v H' := by
 intro p hp
 exact absurd (show p ∈ [] from hp) List.not_mem_nil
theorem eb.ok : codeOk eb.pn Try.f71.ntmps eb.tb eb.code = true := by kernel_rfl
theorem eb.T {F : Nat} {aa : Sl} {ak : Int} {H : Hp} {v : AV} {H' : Hp} (h : eb.tw F aa ak H = some (v, H')) : Go.AE.T Try.prog 71 [(.sl aa), (.int .i64 ak)] H v H' :=
 Go.AE.T.of (Y := tabs) (C := mkOrc (eb.cs F)) (PN := eb.pn) (LH := eb.lh F) (F := F) (TB := eb.tb) (fn := Try.f71) (code := eb.code) mixed tabs_ok (mkOrc_ok (eb.cs_ok F)) Try.func71 (by kernel_rfl) (by kernel_rfl) eb.ok (Nat.le_of_ble_eq_true (by kernel_rfl)) (eb.loops F) (Eq.trans (eb.eqX F aa ak H) h)
theorem eb.mk_T {F : Nat} {args : List AV} {H : Hp} {v : AV} {H' : Hp} (h : eb.mk (eb.tw F) args H = some (v, H')) : Go.AE.T Try.prog 71 args H v H' := by
 unfold eb.mk at h
 split at h
 ·exact eb.T h
 ·cases h
noncomputable def dE.twX (F : Nat) (kI : Sl → Int → Hp → OA) (aa : Int) (ac : Int) (ai : Sl) (ag : Int) (H : Hp) : OA := (Hp.new H [(.int .i64 aa), (.int .i64 ac), (.sl ai)]).bind fun H5 => (Hp.ldSl H5 H.length 2).bind fun s6 => (kI s6 ag H5).bind fun r7 => ((r7.1).asI .i64).bind fun n8 => (bif (decide (n8 < 0)) then (some ((.int .i64 (-1)), r7.2)) else (some ((.int .i64 n8), r7.2)))
noncomputable def dE.tw (F : Nat) (aa : Int) (ac : Int) (ai : Sl) (ag : Int) (H : Hp) : OA := dE.twX F (eb.tw F) aa ac ai ag H
noncomputable def dE.code : Go.Code := (Try.f23.body).getD .skip
noncomputable def dE.lh (F : Nat) (kI : Sl → Int → Hp → OA) (p : Nat) (ks : List Nat) (n : Nat) (tm : Tm) (H : Hp) : OA := none
def dE.pn : Nat → List Nat := fun i => (([] : List (Nat × List Nat)).lookup i).getD []
def dE.tb : Nat → List (List Nat) := fun i => (([] : List (Nat × List (List Nat))).lookup i).getD []
noncomputable def dE.mk (g : Int → Int → Sl → Int → Hp → OA) (args : List AV) (H : Hp) : OA := match args with
 | [(.agg [(.int .i64 aa), (.int .i64 ac), (.sl ai)]), (.int .i64 ag)] => g aa ac ai ag H
 | _ => none
noncomputable def dE.cs (F : Nat) (kI : Sl → Int → Hp → OA) : List (FuncId × (List AV → Hp → OA)) := [(71, eb.mk kI)]
theorem dE.loops (F : Nat) (kI : Sl → Int → Hp → OA) : LoopsOk tabs (mkOrc (dE.cs F kI)) dE.pn (dE.lh F kI) F [] 1 dE.code (fun tm H => aresults tabs.ty H tm Try.f23.results.toList fun v => some (v, H)) (fun _ _ _ => none) (fun tm H => aresults tabs.ty H tm Try.f23.results.toList fun v => some (v, H)) := by
 exact loops_none (by kernel_rfl)
theorem dE.eqX (F : Nat) (kI : Sl → Int → Hp → OA) (aa : Int) (ac : Int) (ai : Sl) (ag : Int) (H : Hp) : aCode tabs (mkOrc (dE.cs F kI)) dE.pn (dE.lh F kI) F [] 1 dE.code (argTm [(.agg [(.int .i64 aa), (.int .i64 ac), (.sl ai)]), (.int .i64 ag)]) H (fun tm H => aresults tabs.ty H tm Try.f23.results.toList fun v => some (v, H)) (fun _ _ _ => none) (fun tm H => aresults tabs.ty H tm Try.f23.results.toList fun v => some (v, H)) = dE.twX F kI aa ac ai ag H := by kernel_rfl
theorem dE.cs_ok (F : Nat) : ∀ p ∈ dE.cs F (eb.tw F), ∀ args H v H', p.2 args H = some (v, H') → Go.AE.T Try.prog p.1 args H v H' := by
 intro p hp
 simp only [dE.cs, List.mem_cons, List.not_mem_nil, or_false] at hp
 subst hp
 exact fun args H v H' h => eb.mk_T h
theorem dE.ok : codeOk dE.pn Try.f23.ntmps dE.tb dE.code = true := by kernel_rfl
theorem dE.T {F : Nat} {aa : Int} {ac : Int} {ai : Sl} {ag : Int} {H : Hp} {v : AV} {H' : Hp} (h : dE.tw F aa ac ai ag H = some (v, H')) : Go.AE.T Try.prog 23 [(.agg [(.int .i64 aa), (.int .i64 ac), (.sl ai)]), (.int .i64 ag)] H v H' :=
 Go.AE.T.of (Y := tabs) (C := mkOrc (dE.cs F (eb.tw F))) (PN := dE.pn) (LH := dE.lh F (eb.tw F)) (F := F) (TB := dE.tb) (fn := Try.f23) (code := dE.code) mixed tabs_ok (mkOrc_ok (dE.cs_ok F)) Try.func23 (by kernel_rfl) (by kernel_rfl) dE.ok (Nat.le_of_ble_eq_true (by kernel_rfl)) (dE.loops F (eb.tw F)) (Eq.trans (dE.eqX F (eb.tw F) aa ac ai ag H) h)
theorem dE.mk_T {F : Nat} {args : List AV} {H : Hp} {v : AV} {H' : Hp} (h : dE.mk (dE.tw F) args H = some (v, H')) : Go.AE.T Try.prog 23 args H v H' := by
 unfold dE.mk at h
 split at h
 ·exact dE.T h
 ·cases h
noncomputable def co.l29 (F : Nat)  : Nat → Sl → Sl → Int → Hp → OA
 | 0, _, _, _, _ => none
 | eK + 1, eE, kA, ia, H7 => (bif (decide (ia < (eE.n : Int))) then ((Sl.idx eE ia 1).bind fun p12 => (Hp.ldI H7 .i64 p12.1 p12.2).bind fun n13 => (Sl.idx kA ia 1).bind fun p14 => (Hp.st H7 p14.1 p14.2 (.int .i64 n13)).bind fun H15 => co.l29 F eK eE kA (IntKind.i64.wrap (ia + 1)) H15) else (some ((.sl kA), H7)))
termination_by structural n => n
noncomputable def co.twX (F : Nat) (aa : Sl) (H : Hp) : OA := (Hp.mk H [.int .i64 0] 8 (aa.n : Int) (aa.n : Int)).bind fun m2 => co.l29 F F aa m2.1 0 m2.2
noncomputable def co.tw (F : Nat) (aa : Sl) (H : Hp) : OA := co.twX F aa H
noncomputable def co.code : Go.Code := (Try.f72.body).getD .skip
noncomputable def co.lh29 (F : Nat) (ks : List Nat) (n : Nat) (tm : Tm) (H : Hp) : OA := match ks, tm 0, tm 3, tm 4 with
 | [], (.sl eE), (.sl kA), (.int .i64 ia) => co.l29 F n eE kA ia H
 | _, _, _, _ => none
theorem co.lh29_inv {F : Nat} {ks : List Nat} {n : Nat} {tm : Tm} {H : Hp} {r : AV × Hp} (h : co.lh29 F ks n tm H = some r) : ∃ eE : Sl, ∃ kA : Sl, ∃ ia : Int, ks = [] ∧ tm 0 = (.sl eE) ∧ tm 3 = (.sl kA) ∧ tm 4 = (.int .i64 ia) ∧ co.l29 F n eE kA ia H = some r := by
 unfold co.lh29 at h
 split at h
 ·exact ⟨_, _, _, rfl, by assumption, by assumption, by assumption, h⟩
 ·cases h
noncomputable def co.lh (F : Nat) (p : Nat) (ks : List Nat) (n : Nat) (tm : Tm) (H : Hp) : OA := bif p.beq 29 then co.lh29 F ks n tm H else (none)
def co.pn : Nat → List Nat := fun i => (([] : List (Nat × List Nat)).lookup i).getD []
def co.tb : Nat → List (List Nat) := fun i => (([] : List (Nat × List (List Nat))).lookup i).getD []
noncomputable def co.mk (g : Sl → Hp → OA) (args : List AV) (H : Hp) : OA := match args with
 | [(.sl aa)] => g aa H
 | _ => none
noncomputable def co.cs (F : Nat) : List (FuncId × (List AV → Hp → OA)) := []
theorem co.loops (F : Nat) : LoopsOk tabs (mkOrc (co.cs F)) co.pn (co.lh F) F [] 1 co.code (fun tm H => aresults tabs.ty H tm Try.f72.results.toList fun v => some (v, H)) (fun _ _ _ => none) (fun tm H => aresults tabs.ty H tm Try.f72.results.toList fun v => some (v, H)) := by
 refine LoopsOk.seq ?_ ?_
 ·exact loops_none (by kernel_rfl)
 ·refine LoopsOk.seq ?_ ?_
  ·exact loops_none (by kernel_rfl)
  ·refine LoopsOk.seq ?_ ?_
   ·refine LoopsOk.seq ?_ ?_
    ·exact loops_none (by kernel_rfl)
    ·refine LoopsOk.block ?_
     refine LoopsOk.loop (fun tm H => ?_) (fun k29 tm H r h0 => ?_) (fun k29 => ?_)
     ·refine none_of fun r h0 => ?_
      obtain ⟨eE, kA, ia, hks, e0, e3, e4, h⟩ := co.lh29_inv (show co.lh29 F [] 0 tm H = some r from h0)
      cases h
     ·obtain ⟨eE, kA, ia, hks, e0, e3, e4, h⟩ := co.lh29_inv (show co.lh29 F [] (k29 + 1) tm H = some r from h0)
      have q0 : (Tm.put tm 0 (.sl eE)) = tm := by exact Tm.put_same e0
      have q1 : (Tm.put (Tm.put tm 0 (.sl eE)) 3 (.sl kA)) = tm := by rw [q0]; exact Tm.put_same e3
      have q2 : (Tm.put (Tm.put (Tm.put tm 0 (.sl eE)) 3 (.sl kA)) 4 (.int .i64 ia)) = tm := by rw [q1]; exact Tm.put_same e4
      rw [← q2]
      exact Eq.trans (by kernel_rfl) h
     ·exact loops_none (by kernel_rfl)
   ·exact loops_none (by kernel_rfl)
theorem co.eqX (F : Nat) (aa : Sl) (H : Hp) : aCode tabs (mkOrc (co.cs F)) co.pn (co.lh F) F [] 1 co.code (argTm [(.sl aa)]) H (fun tm H => aresults tabs.ty H tm Try.f72.results.toList fun v => some (v, H)) (fun _ _ _ => none) (fun tm H => aresults tabs.ty H tm Try.f72.results.toList fun v => some (v, H)) = co.twX F aa H := by kernel_rfl
theorem co.cs_ok (F : Nat) : ∀ p ∈ co.cs F, ∀ args H v H', p.2 args H = some (v, H') → Go.AE.T Try.prog p.1 args H v H' := by
 intro p hp
 exact absurd (show p ∈ [] from hp) List.not_mem_nil
theorem co.ok : codeOk co.pn Try.f72.ntmps co.tb co.code = true := by kernel_rfl
theorem co.T {F : Nat} {aa : Sl} {H : Hp} {v : AV} {H' : Hp} (h : co.tw F aa H = some (v, H')) : Go.AE.T Try.prog 72 [(.sl aa)] H v H' :=
 Go.AE.T.of (Y := tabs) (C := mkOrc (co.cs F)) (PN := co.pn) (LH := co.lh F) (F := F) (TB := co.tb) (fn := Try.f72) (code := co.code) mixed tabs_ok (mkOrc_ok (co.cs_ok F)) Try.func72 (by kernel_rfl) (by kernel_rfl) co.ok (Nat.le_of_ble_eq_true (by kernel_rfl)) (co.loops F) (Eq.trans (co.eqX F aa H) h)
theorem co.mk_T {F : Nat} {args : List AV} {H : Hp} {v : AV} {H' : Hp} (h : co.mk (co.tw F) args H = some (v, H')) : Go.AE.T Try.prog 72 args H v H' := by
 unfold co.mk at h
 split at h
 ·exact co.T h
 ·cases h
noncomputable def dz.twX (F : Nat) (kJ : Sl → Hp → OA) (aa : Int) (ac : Int) (ai : Sl) (H : Hp) : OA := (Hp.new H [(.int .i64 aa), (.int .i64 ac), (.sl ai)]).bind fun H4 => (Hp.new H4 [.int .i64 0, .int .i64 0, .sl ⟨none, 0, .ex 0⟩]).bind fun H5 => (Hp.new H5 [.int .i64 0, .int .i64 0, .sl ⟨none, 0, .ex 0⟩]).bind fun H6 => (Hp.ldI H6 .i64 H.length 0).bind fun n7 => (Hp.st H6 H5.length 0 (.int .i64 n7)).bind fun H8 => (Hp.ldI H8 .i64 H.length 1).bind fun n9 => (Hp.st H8 H5.length 1 (.int .i64 n9)).bind fun H10 => (Hp.ldSl H10 H.length 2).bind fun s11 => (kJ s11 H10).bind fun r12 => ((r12.1).asSl).bind fun s13 => (Hp.st r12.2 H5.length 2 (.sl s13)).bind fun H14 => (Hp.ldI H14 .i64 H5.length 0).bind fun n15 => (Hp.ldI H14 .i64 H5.length (0 + 1)).bind fun n16 => (Hp.ldSl H14 H5.length (0 + 2)).bind fun s17 => (Hp.st H14 H4.length 0 (.int .i64 n15)).bind fun H18 => (Hp.st H18 H4.length (0 + 1) (.int .i64 n16)).bind fun H19 => (Hp.st H19 H4.length (0 + 1 + 1) (.sl s17)).bind fun H20 => (Hp.ldI H20 .i64 H4.length 0).bind fun n21 => (Hp.ldI H20 .i64 H4.length (0 + 1)).bind fun n22 => (Hp.ldSl H20 H4.length (0 + 2)).bind fun s23 => some ((.agg [(.int .i64 n21), (.int .i64 n22), (.sl s23)]), H20)
noncomputable def dz.tw (F : Nat) (aa : Int) (ac : Int) (ai : Sl) (H : Hp) : OA := dz.twX F (co.tw F) aa ac ai H
noncomputable def dz.code : Go.Code := (Try.f25.body).getD .skip
noncomputable def dz.lh (F : Nat) (kJ : Sl → Hp → OA) (p : Nat) (ks : List Nat) (n : Nat) (tm : Tm) (H : Hp) : OA := none
def dz.pn : Nat → List Nat := fun i => (([] : List (Nat × List Nat)).lookup i).getD []
def dz.tb : Nat → List (List Nat) := fun i => (([] : List (Nat × List (List Nat))).lookup i).getD []
noncomputable def dz.mk (g : Int → Int → Sl → Hp → OA) (args : List AV) (H : Hp) : OA := match args with
 | [(.agg [(.int .i64 aa), (.int .i64 ac), (.sl ai)])] => g aa ac ai H
 | _ => none
noncomputable def dz.cs (F : Nat) (kJ : Sl → Hp → OA) : List (FuncId × (List AV → Hp → OA)) := [(72, co.mk kJ)]
theorem dz.loops (F : Nat) (kJ : Sl → Hp → OA) : LoopsOk tabs (mkOrc (dz.cs F kJ)) dz.pn (dz.lh F kJ) F [] 1 dz.code (fun tm H => aresults tabs.ty H tm Try.f25.results.toList fun v => some (v, H)) (fun _ _ _ => none) (fun tm H => aresults tabs.ty H tm Try.f25.results.toList fun v => some (v, H)) := by
 exact loops_none (by kernel_rfl)
theorem dz.eqX (F : Nat) (kJ : Sl → Hp → OA) (aa : Int) (ac : Int) (ai : Sl) (H : Hp) : aCode tabs (mkOrc (dz.cs F kJ)) dz.pn (dz.lh F kJ) F [] 1 dz.code (argTm [(.agg [(.int .i64 aa), (.int .i64 ac), (.sl ai)])]) H (fun tm H => aresults tabs.ty H tm Try.f25.results.toList fun v => some (v, H)) (fun _ _ _ => none) (fun tm H => aresults tabs.ty H tm Try.f25.results.toList fun v => some (v, H)) = dz.twX F kJ aa ac ai H := by kernel_rfl
theorem dz.cs_ok (F : Nat) : ∀ p ∈ dz.cs F (co.tw F), ∀ args H v H', p.2 args H = some (v, H') → Go.AE.T Try.prog p.1 args H v H' := by
 intro p hp
 simp only [dz.cs, List.mem_cons, List.not_mem_nil, or_false] at hp
 subst hp
 exact fun args H v H' h => co.mk_T h
theorem dz.ok : codeOk dz.pn Try.f25.ntmps dz.tb dz.code = true := by kernel_rfl
theorem dz.T {F : Nat} {aa : Int} {ac : Int} {ai : Sl} {H : Hp} {v : AV} {H' : Hp} (h : dz.tw F aa ac ai H = some (v, H')) : Go.AE.T Try.prog 25 [(.agg [(.int .i64 aa), (.int .i64 ac), (.sl ai)])] H v H' :=
 Go.AE.T.of (Y := tabs) (C := mkOrc (dz.cs F (co.tw F))) (PN := dz.pn) (LH := dz.lh F (co.tw F)) (F := F) (TB := dz.tb) (fn := Try.f25) (code := dz.code) mixed tabs_ok (mkOrc_ok (dz.cs_ok F)) Try.func25 (by kernel_rfl) (by kernel_rfl) dz.ok (Nat.le_of_ble_eq_true (by kernel_rfl)) (dz.loops F (co.tw F)) (Eq.trans (dz.eqX F (co.tw F) aa ac ai H) h)
theorem dz.mk_T {F : Nat} {args : List AV} {H : Hp} {v : AV} {H' : Hp} (h : dz.mk (dz.tw F) args H = some (v, H')) : Go.AE.T Try.prog 25 args H v H' := by
 unfold dz.mk at h
 split at h
 ·exact dz.T h
 ·cases h
noncomputable def dA.twX (F : Nat) (aa : Int) (ak : Int) (cH : Int) (H : Hp) : OA := (bif (decide (aa ≥ ak)) then (some ((.bool (decide (aa ≤ cH))), H)) else (some ((.bool false), H)))
noncomputable def dA.tw (F : Nat) (aa : Int) (ak : Int) (cH : Int) (H : Hp) : OA := dA.twX F aa ak cH H
noncomputable def dA.code : Go.Code := (Try.f68.body).getD .skip
noncomputable def dA.lh (F : Nat) (p : Nat) (ks : List Nat) (n : Nat) (tm : Tm) (H : Hp) : OA := none
def dA.pn : Nat → List Nat := fun i => (([] : List (Nat × List Nat)).lookup i).getD []
def dA.tb : Nat → List (List Nat) := fun i => (([] : List (Nat × List (List Nat))).lookup i).getD []
noncomputable def dA.mk (g : Int → Int → Int → Hp → OA) (args : List AV) (H : Hp) : OA := match args with
 | [(.int .i64 aa), (.int .i64 ak), (.int .i64 cH)] => g aa ak cH H
 | _ => none
noncomputable def dA.cs (F : Nat) : List (FuncId × (List AV → Hp → OA)) := []
theorem dA.loops (F : Nat) : LoopsOk tabs (mkOrc (dA.cs F)) dA.pn (dA.lh F) F [] 1 dA.code (fun tm H => aresults tabs.ty H tm Try.f68.results.toList fun v => some (v, H)) (fun _ _ _ => none) (fun tm H => aresults tabs.ty H tm Try.f68.results.toList fun v => some (v, H)) := by
 exact loops_none (by kernel_rfl)
theorem dA.eqX (F : Nat) (aa : Int) (ak : Int) (cH : Int) (H : Hp) : aCode tabs (mkOrc (dA.cs F)) dA.pn (dA.lh F) F [] 1 dA.code (argTm [(.int .i64 aa), (.int .i64 ak), (.int .i64 cH)]) H (fun tm H => aresults tabs.ty H tm Try.f68.results.toList fun v => some (v, H)) (fun _ _ _ => none) (fun tm H => aresults tabs.ty H tm Try.f68.results.toList fun v => some (v, H)) = dA.twX F aa ak cH H := by kernel_rfl
theorem dA.cs_ok (F : Nat) : ∀ p ∈ dA.cs F, ∀ args H v H', p.2 args H = some (v, H') → Go.AE.T Try.prog p.1 args H v H' := by
 intro p hp
 exact absurd (show p ∈ [] from hp) List.not_mem_nil
theorem dA.ok : codeOk dA.pn Try.f68.ntmps dA.tb dA.code = true := by kernel_rfl
theorem dA.T {F : Nat} {aa : Int} {ak : Int} {cH : Int} {H : Hp} {v : AV} {H' : Hp} (h : dA.tw F aa ak cH H = some (v, H')) : Go.AE.T Try.prog 68 [(.int .i64 aa), (.int .i64 ak), (.int .i64 cH)] H v H' :=
 Go.AE.T.of (Y := tabs) (C := mkOrc (dA.cs F)) (PN := dA.pn) (LH := dA.lh F) (F := F) (TB := dA.tb) (fn := Try.f68) (code := dA.code) mixed tabs_ok (mkOrc_ok (dA.cs_ok F)) Try.func68 (by kernel_rfl) (by kernel_rfl) dA.ok (Nat.le_of_ble_eq_true (by kernel_rfl)) (dA.loops F) (Eq.trans (dA.eqX F aa ak cH H) h)
theorem dA.mk_T {F : Nat} {args : List AV} {H : Hp} {v : AV} {H' : Hp} (h : dA.mk (dA.tw F) args H = some (v, H')) : Go.AE.T Try.prog 68 args H v H' := by
 unfold dA.mk at h
 split at h
 ·exact dA.T h
 ·cases h
noncomputable def cl.l29 (F : Nat) (gO : Int → Int → Int → Hp → OA)  : Nat → Nat → Nat → Int → Hp → OA
 | 0, _, _, _, _ => none
 | eK + 1, jO, kB, iV, H22 => (Hp.ldSl H22 jO (kB + 2)).bind fun s29 => (bif (decide (iV < (s29.n : Int))) then ((Hp.ldSl H22 jO (kB + 2)).bind fun s30 => (Sl.idx s30 iV 1).bind fun p31 => (Hp.ldI H22 .i64 p31.1 p31.2).bind fun n32 => (gO n32 (-1000000000000) 1000000000000 H22).bind fun r33 => ((r33.1).asB).bind fun b34 => (bif (!b34) then (some ((.bool false), r33.2)) else (cl.l29 F gO eK jO kB (IntKind.i64.wrap (iV + 1)) r33.2))) else (some ((.bool true), H22)))
termination_by structural n => n
noncomputable def cl.twX (F : Nat) (gO : Int → Int → Int → Hp → OA) (aa : Int) (ac : Int) (ai : Sl) (H : Hp) : OA := (Hp.new H [(.int .i64 aa), (.int .i64 ac), (.sl ai)]).bind fun H4 => (Hp.ldI H4 .i64 H.length 0).bind fun n5 => (gO n5 0 48 H4).bind fun r6 => ((r6.1).asB).bind fun b7 => (bif (!b7) then (some ((.bool false), r6.2)) else ((Hp.ldI r6.2 .i64 H.length 1).bind fun n8 => (gO n8 0 48 r6.2).bind fun r9 => ((r9.1).asB).bind fun b10 => (bif (!b10) then (some ((.bool false), r9.2)) else ((Hp.ldSl r9.2 H.length 2).bind fun s11 => (Hp.ldI r9.2 .i64 H.length 0).bind fun n12 => (Hp.ldI r9.2 .i64 H.length 1).bind fun n13 => (bif ((s11.n : Int) != (IntKind.i64.wrap (n12 * n13))) then (some ((.bool false), r9.2)) else (cl.l29 F gO F H.length 0 0 r9.2))))))
noncomputable def cl.tw (F : Nat) (aa : Int) (ac : Int) (ai : Sl) (H : Hp) : OA := cl.twX F (dA.tw F) aa ac ai H
noncomputable def cl.code : Go.Code := (Try.f19.body).getD .skip
noncomputable def cl.lh29 (F : Nat) (gO : Int → Int → Int → Hp → OA) (ks : List Nat) (n : Nat) (tm : Tm) (H : Hp) : OA := match ks, tm 1, tm 3 with
 | [], (.ptr jO kB), (.int .i64 iV) => cl.l29 F gO n jO kB iV H
 | _, _, _ => none
theorem cl.lh29_inv {F : Nat} {gO : Int → Int → Int → Hp → OA} {ks : List Nat} {n : Nat} {tm : Tm} {H : Hp} {r : AV × Hp} (h : cl.lh29 F gO ks n tm H = some r) : ∃ jO : Nat, ∃ kB : Nat, ∃ iV : Int, ks = [] ∧ tm 1 = (.ptr jO kB) ∧ tm 3 = (.int .i64 iV) ∧ cl.l29 F gO n jO kB iV H = some r := by
 unfold cl.lh29 at h
 split at h
 ·exact ⟨_, _, _, rfl, by assumption, by assumption, h⟩
 ·cases h
noncomputable def cl.lh (F : Nat) (gO : Int → Int → Int → Hp → OA) (p : Nat) (ks : List Nat) (n : Nat) (tm : Tm) (H : Hp) : OA := bif p.beq 29 then cl.lh29 F gO ks n tm H else (none)
def cl.pn : Nat → List Nat := fun i => (([] : List (Nat × List Nat)).lookup i).getD []
def cl.tb : Nat → List (List Nat) := fun i => (([] : List (Nat × List (List Nat))).lookup i).getD []
noncomputable def cl.mk (g : Int → Int → Sl → Hp → OA) (args : List AV) (H : Hp) : OA := match args with
 | [(.agg [(.int .i64 aa), (.int .i64 ac), (.sl ai)])] => g aa ac ai H
 | _ => none
noncomputable def cl.cs (F : Nat) (gO : Int → Int → Int → Hp → OA) : List (FuncId × (List AV → Hp → OA)) := [(68, dA.mk gO)]
theorem cl.loops (F : Nat) (gO : Int → Int → Int → Hp → OA) : LoopsOk tabs (mkOrc (cl.cs F gO)) cl.pn (cl.lh F gO) F [] 1 cl.code (fun tm H => aresults tabs.ty H tm Try.f19.results.toList fun v => some (v, H)) (fun _ _ _ => none) (fun tm H => aresults tabs.ty H tm Try.f19.results.toList fun v => some (v, H)) := by
 refine LoopsOk.seq ?_ ?_
 ·exact loops_none (by kernel_rfl)
 ·refine LoopsOk.seq ?_ ?_
  ·exact loops_none (by kernel_rfl)
  ·refine LoopsOk.seq ?_ ?_
   ·refine LoopsOk.seq ?_ ?_
    ·exact loops_none (by kernel_rfl)
    ·refine LoopsOk.block ?_
     refine LoopsOk.loop (fun tm H => ?_) (fun k29 tm H r h0 => ?_) (fun k29 => ?_)
     ·refine none_of fun r h0 => ?_
      obtain ⟨jO, kB, iV, hks, e1, e3, h⟩ := cl.lh29_inv (show cl.lh29 F gO [] 0 tm H = some r from h0)
      cases h
     ·obtain ⟨jO, kB, iV, hks, e1, e3, h⟩ := cl.lh29_inv (show cl.lh29 F gO [] (k29 + 1) tm H = some r from h0)
      have q0 : (Tm.put tm 1 (.ptr jO kB)) = tm := by exact Tm.put_same e1
      have q1 : (Tm.put (Tm.put tm 1 (.ptr jO kB)) 3 (.int .i64 iV)) = tm := by rw [q0]; exact Tm.put_same e3
      rw [← q1]
      exact Eq.trans (by kernel_rfl) h
     ·exact loops_none (by kernel_rfl)
   ·exact loops_none (by kernel_rfl)
theorem cl.eqX (F : Nat) (gO : Int → Int → Int → Hp → OA) (aa : Int) (ac : Int) (ai : Sl) (H : Hp) : aCode tabs (mkOrc (cl.cs F gO)) cl.pn (cl.lh F gO) F [] 1 cl.code (argTm [(.agg [(.int .i64 aa), (.int .i64 ac), (.sl ai)])]) H (fun tm H => aresults tabs.ty H tm Try.f19.results.toList fun v => some (v, H)) (fun _ _ _ => none) (fun tm H => aresults tabs.ty H tm Try.f19.results.toList fun v => some (v, H)) = cl.twX F gO aa ac ai H := by kernel_rfl
theorem cl.cs_ok (F : Nat) : ∀ p ∈ cl.cs F (dA.tw F), ∀ args H v H', p.2 args H = some (v, H') → Go.AE.T Try.prog p.1 args H v H' := by
 intro p hp
 simp only [cl.cs, List.mem_cons, List.not_mem_nil, or_false] at hp
 subst hp
 exact fun args H v H' h => dA.mk_T h
theorem cl.ok : codeOk cl.pn Try.f19.ntmps cl.tb cl.code = true := by kernel_rfl
theorem cl.T {F : Nat} {aa : Int} {ac : Int} {ai : Sl} {H : Hp} {v : AV} {H' : Hp} (h : cl.tw F aa ac ai H = some (v, H')) : Go.AE.T Try.prog 19 [(.agg [(.int .i64 aa), (.int .i64 ac), (.sl ai)])] H v H' :=
 Go.AE.T.of (Y := tabs) (C := mkOrc (cl.cs F (dA.tw F))) (PN := cl.pn) (LH := cl.lh F (dA.tw F)) (F := F) (TB := cl.tb) (fn := Try.f19) (code := cl.code) mixed tabs_ok (mkOrc_ok (cl.cs_ok F)) Try.func19 (by kernel_rfl) (by kernel_rfl) cl.ok (Nat.le_of_ble_eq_true (by kernel_rfl)) (cl.loops F (dA.tw F)) (Eq.trans (cl.eqX F (dA.tw F) aa ac ai H) h)
theorem cl.mk_T {F : Nat} {args : List AV} {H : Hp} {v : AV} {H' : Hp} (h : cl.mk (cl.tw F) args H = some (v, H')) : Go.AE.T Try.prog 19 args H v H' := by
 unfold cl.mk at h
 split at h
 ·exact cl.T h
 ·cases h
noncomputable def dR.twX (F : Nat) (aa : Int) (ak : Int) (H : Hp) : OA := (Hp.new H [.int .i64 0, .int .i64 0, .sl ⟨none, 0, .ex 0⟩]).bind fun H3 => (Hp.mk H3 [.int .i64 0] 8 (IntKind.i64.wrap (aa * ak)) (IntKind.i64.wrap (aa * ak))).bind fun m4 => (Hp.st m4.2 H.length 0 (.int .i64 aa)).bind fun H5 => (Hp.st H5 H.length (0 + 1) (.int .i64 ak)).bind fun H6 => (Hp.st H6 H.length (0 + 1 + 1) (.sl m4.1)).bind fun H7 => (Hp.ldI H7 .i64 H.length 0).bind fun n8 => (Hp.ldI H7 .i64 H.length (0 + 1)).bind fun n9 => (Hp.ldSl H7 H.length (0 + 2)).bind fun s10 => some ((.agg [(.int .i64 n8), (.int .i64 n9), (.sl s10)]), H7)
noncomputable def dR.tw (F : Nat) (aa : Int) (ak : Int) (H : Hp) : OA := dR.twX F aa ak H
noncomputable def dR.code : Go.Code := (Try.f80.body).getD .skip
noncomputable def dR.lh (F : Nat) (p : Nat) (ks : List Nat) (n : Nat) (tm : Tm) (H : Hp) : OA := none
def dR.pn : Nat → List Nat := fun i => (([] : List (Nat × List Nat)).lookup i).getD []
def dR.tb : Nat → List (List Nat) := fun i => (([] : List (Nat × List (List Nat))).lookup i).getD []
noncomputable def dR.mk (g : Int → Int → Hp → OA) (args : List AV) (H : Hp) : OA := match args with
 | [(.int .i64 aa), (.int .i64 ak)] => g aa ak H
 | _ => none
noncomputable def dR.cs (F : Nat) : List (FuncId × (List AV → Hp → OA)) := []
theorem dR.loops (F : Nat) : LoopsOk tabs (mkOrc (dR.cs F)) dR.pn (dR.lh F) F [] 1 dR.code (fun tm H => aresults tabs.ty H tm Try.f80.results.toList fun v => some (v, H)) (fun _ _ _ => none) (fun tm H => aresults tabs.ty H tm Try.f80.results.toList fun v => some (v, H)) := by
 exact loops_none (by kernel_rfl)
theorem dR.eqX (F : Nat) (aa : Int) (ak : Int) (H : Hp) : aCode tabs (mkOrc (dR.cs F)) dR.pn (dR.lh F) F [] 1 dR.code (argTm [(.int .i64 aa), (.int .i64 ak)]) H (fun tm H => aresults tabs.ty H tm Try.f80.results.toList fun v => some (v, H)) (fun _ _ _ => none) (fun tm H => aresults tabs.ty H tm Try.f80.results.toList fun v => some (v, H)) = dR.twX F aa ak H := by kernel_rfl
theorem dR.cs_ok (F : Nat) : ∀ p ∈ dR.cs F, ∀ args H v H', p.2 args H = some (v, H') → Go.AE.T Try.prog p.1 args H v H' := by
 intro p hp
 exact absurd (show p ∈ [] from hp) List.not_mem_nil
theorem dR.ok : codeOk dR.pn Try.f80.ntmps dR.tb dR.code = true := by kernel_rfl
theorem dR.T {F : Nat} {aa : Int} {ak : Int} {H : Hp} {v : AV} {H' : Hp} (h : dR.tw F aa ak H = some (v, H')) : Go.AE.T Try.prog 80 [(.int .i64 aa), (.int .i64 ak)] H v H' :=
 Go.AE.T.of (Y := tabs) (C := mkOrc (dR.cs F)) (PN := dR.pn) (LH := dR.lh F) (F := F) (TB := dR.tb) (fn := Try.f80) (code := dR.code) mixed tabs_ok (mkOrc_ok (dR.cs_ok F)) Try.func80 (by kernel_rfl) (by kernel_rfl) dR.ok (Nat.le_of_ble_eq_true (by kernel_rfl)) (dR.loops F) (Eq.trans (dR.eqX F aa ak H) h)
theorem dR.mk_T {F : Nat} {args : List AV} {H : Hp} {v : AV} {H' : Hp} (h : dR.mk (dR.tw F) args H = some (v, H')) : Go.AE.T Try.prog 80 args H v H' := by
 unfold dR.mk at h
 split at h
 ·exact dR.T h
 ·cases h
noncomputable def bL.l29 (F : Nat) (ib : Int → Int → Hp → OA)  : Nat → Int → Nat → Nat → Nat → Nat → Int → Hp → OA
 | 0, _, _, _, _, _, _, _ => none
 | eK + 1, hB, cf, fK, fk, fW, ic, H21 => (bif (decide (ic < hB)) then ((Hp.ldSl H21 fk (fW + 2)).bind fun s34 => (Sl.idx s34 (IntKind.i64.wrap ((IntKind.i64.wrap (ic * hB)) + ic)) 1).bind fun p35 => (Hp.st H21 p35.1 p35.2 (.int .i64 1)).bind fun H36 => bL.l29 F ib eK hB cf fK fk fW (IntKind.i64.wrap (ic + 1)) H36) else ((Hp.ldI H21 .i64 fk fW).bind fun n37 => (Hp.ldI H21 .i64 fk (fW + 1)).bind fun n38 => (Hp.ldSl H21 fk (fW + 2)).bind fun s39 => (Hp.st H21 cf fK (.int .i64 n37)).bind fun H40 => (Hp.st H40 cf (fK + 1) (.int .i64 n38)).bind fun H41 => (Hp.st H41 cf (fK + 1 + 1) (.sl s39)).bind fun H42 => (Hp.ldI H42 .i64 cf fK).bind fun n43 => (Hp.ldI H42 .i64 cf (fK + 1)).bind fun n44 => (Hp.ldSl H42 cf (fK + 2)).bind fun s45 => some ((.agg [(.int .i64 n43), (.int .i64 n44), (.sl s45)]), H42)))
termination_by structural n => n
noncomputable def bL.twX (F : Nat) (ib : Int → Int → Hp → OA) (aa : Int) (H : Hp) : OA := (Hp.new H [.int .i64 0, .int .i64 0, .sl ⟨none, 0, .ex 0⟩]).bind fun H2 => (ib aa aa H2).bind fun r3 => ((r3.1).asAgg 3).bind fun l4 => (l4[0]?).bind fun v5 => ((v5).asI .i64).bind fun n6 => (l4[1]?).bind fun v7 => ((v7).asI .i64).bind fun n8 => (l4[2]?).bind fun v9 => ((v9).asSl).bind fun s10 => (Hp.new r3.2 [.int .i64 0, .int .i64 0, .sl ⟨none, 0, .ex 0⟩]).bind fun H11 => (Hp.st H11 r3.2.length 0 (.int .i64 n6)).bind fun H12 => (Hp.st H12 r3.2.length (0 + 1) (.int .i64 n8)).bind fun H13 => (Hp.st H13 r3.2.length (0 + 1 + 1) (.sl s10)).bind fun H14 => bL.l29 F ib F aa H.length 0 r3.2.length 0 0 H14
noncomputable def bL.tw (F : Nat) (aa : Int) (H : Hp) : OA := bL.twX F (dR.tw F) aa H
noncomputable def bL.code : Go.Code := (Try.f115.body).getD .skip
noncomputable def bL.lh29 (F : Nat) (ib : Int → Int → Hp → OA) (ks : List Nat) (n : Nat) (tm : Tm) (H : Hp) : OA := match ks, tm 0, tm 2, tm 3, tm 4 with
 | [], (.int .i64 hB), (.ptr cf fK), (.ptr fk fW), (.int .i64 ic) => bL.l29 F ib n hB cf fK fk fW ic H
 | _, _, _, _, _ => none
theorem bL.lh29_inv {F : Nat} {ib : Int → Int → Hp → OA} {ks : List Nat} {n : Nat} {tm : Tm} {H : Hp} {r : AV × Hp} (h : bL.lh29 F ib ks n tm H = some r) : ∃ hB : Int, ∃ cf : Nat, ∃ fK : Nat, ∃ fk : Nat, ∃ fW : Nat, ∃ ic : Int, ks = [] ∧ tm 0 = (.int .i64 hB) ∧ tm 2 = (.ptr cf fK) ∧ tm 3 = (.ptr fk fW) ∧ tm 4 = (.int .i64 ic) ∧ bL.l29 F ib n hB cf fK fk fW ic H = some r := by
 unfold bL.lh29 at h
 split at h
 ·exact ⟨_, _, _, _, _, _, rfl, by assumption, by assumption, by assumption, by assumption, h⟩
 ·cases h
noncomputable def bL.lh (F : Nat) (ib : Int → Int → Hp → OA) (p : Nat) (ks : List Nat) (n : Nat) (tm : Tm) (H : Hp) : OA := bif p.beq 29 then bL.lh29 F ib ks n tm H else (none)
def bL.pn : Nat → List Nat := fun i => (([] : List (Nat × List Nat)).lookup i).getD []
def bL.tb : Nat → List (List Nat) := fun i => (([] : List (Nat × List (List Nat))).lookup i).getD []
noncomputable def bL.mk (g : Int → Hp → OA) (args : List AV) (H : Hp) : OA := match args with
 | [(.int .i64 aa)] => g aa H
 | _ => none
noncomputable def bL.cs (F : Nat) (ib : Int → Int → Hp → OA) : List (FuncId × (List AV → Hp → OA)) := [(80, dR.mk ib)]
theorem bL.loops (F : Nat) (ib : Int → Int → Hp → OA) : LoopsOk tabs (mkOrc (bL.cs F ib)) bL.pn (bL.lh F ib) F [] 1 bL.code (fun tm H => aresults tabs.ty H tm Try.f115.results.toList fun v => some (v, H)) (fun _ _ _ => none) (fun tm H => aresults tabs.ty H tm Try.f115.results.toList fun v => some (v, H)) := by
 refine LoopsOk.seq ?_ ?_
 ·exact loops_none (by kernel_rfl)
 ·refine LoopsOk.seq ?_ ?_
  ·exact loops_none (by kernel_rfl)
  ·refine LoopsOk.seq ?_ ?_
   ·refine LoopsOk.seq ?_ ?_
    ·exact loops_none (by kernel_rfl)
    ·refine LoopsOk.block ?_
     refine LoopsOk.loop (fun tm H => ?_) (fun k29 tm H r h0 => ?_) (fun k29 => ?_)
     ·refine none_of fun r h0 => ?_
      obtain ⟨hB, cf, fK, fk, fW, ic, hks, e0, e2, e3, e4, h⟩ := bL.lh29_inv (show bL.lh29 F ib [] 0 tm H = some r from h0)
      cases h
     ·obtain ⟨hB, cf, fK, fk, fW, ic, hks, e0, e2, e3, e4, h⟩ := bL.lh29_inv (show bL.lh29 F ib [] (k29 + 1) tm H = some r from h0)
      have q0 : (Tm.put tm 0 (.int .i64 hB)) = tm := by exact Tm.put_same e0
      have q1 : (Tm.put (Tm.put tm 0 (.int .i64 hB)) 2 (.ptr cf fK)) = tm := by rw [q0]; exact Tm.put_same e2
      have q2 : (Tm.put (Tm.put (Tm.put tm 0 (.int .i64 hB)) 2 (.ptr cf fK)) 3 (.ptr fk fW)) = tm := by rw [q1]; exact Tm.put_same e3
      have q3 : (Tm.put (Tm.put (Tm.put (Tm.put tm 0 (.int .i64 hB)) 2 (.ptr cf fK)) 3 (.ptr fk fW)) 4 (.int .i64 ic)) = tm := by rw [q2]; exact Tm.put_same e4
      rw [← q3]
      exact Eq.trans (by kernel_rfl) h
     ·exact loops_none (by kernel_rfl)
   ·exact loops_none (by kernel_rfl)
theorem bL.eqX (F : Nat) (ib : Int → Int → Hp → OA) (aa : Int) (H : Hp) : aCode tabs (mkOrc (bL.cs F ib)) bL.pn (bL.lh F ib) F [] 1 bL.code (argTm [(.int .i64 aa)]) H (fun tm H => aresults tabs.ty H tm Try.f115.results.toList fun v => some (v, H)) (fun _ _ _ => none) (fun tm H => aresults tabs.ty H tm Try.f115.results.toList fun v => some (v, H)) = bL.twX F ib aa H := by kernel_rfl
theorem bL.cs_ok (F : Nat) : ∀ p ∈ bL.cs F (dR.tw F), ∀ args H v H', p.2 args H = some (v, H') → Go.AE.T Try.prog p.1 args H v H' := by
 intro p hp
 simp only [bL.cs, List.mem_cons, List.not_mem_nil, or_false] at hp
 subst hp
 exact fun args H v H' h => dR.mk_T h
theorem bL.ok : codeOk bL.pn Try.f115.ntmps bL.tb bL.code = true := by kernel_rfl
theorem bL.T {F : Nat} {aa : Int} {H : Hp} {v : AV} {H' : Hp} (h : bL.tw F aa H = some (v, H')) : Go.AE.T Try.prog 115 [(.int .i64 aa)] H v H' :=
 Go.AE.T.of (Y := tabs) (C := mkOrc (bL.cs F (dR.tw F))) (PN := bL.pn) (LH := bL.lh F (dR.tw F)) (F := F) (TB := bL.tb) (fn := Try.f115) (code := bL.code) mixed tabs_ok (mkOrc_ok (bL.cs_ok F)) Try.func115 (by kernel_rfl) (by kernel_rfl) bL.ok (Nat.le_of_ble_eq_true (by kernel_rfl)) (bL.loops F (dR.tw F)) (Eq.trans (bL.eqX F (dR.tw F) aa H) h)
theorem bL.mk_T {F : Nat} {args : List AV} {H : Hp} {v : AV} {H' : Hp} (h : bL.mk (bL.tw F) args H = some (v, H')) : Go.AE.T Try.prog 115 args H v H' := by
 unfold bL.mk at h
 split at h
 ·exact bL.T h
 ·cases h
noncomputable def aC.twX (F : Nat) (aa : Int) (ac : Int) (ai : Sl) (ag : Int) (bh : Int) (H : Hp) : OA := (Hp.new H [(.int .i64 aa), (.int .i64 ac), (.sl ai)]).bind fun H6 => (Hp.ldSl H6 H.length 2).bind fun s7 => (Hp.ldI H6 .i64 H.length 1).bind fun n8 => (Sl.idx s7 (IntKind.i64.wrap ((IntKind.i64.wrap (ag * n8)) + bh)) 1).bind fun p9 => (Hp.ldI H6 .i64 p9.1 p9.2).bind fun n10 => some ((.int .i64 n10), H6)
noncomputable def aC.tw (F : Nat) (aa : Int) (ac : Int) (ai : Sl) (ag : Int) (bh : Int) (H : Hp) : OA := aC.twX F aa ac ai ag bh H
noncomputable def aC.code : Go.Code := (Try.f79.body).getD .skip
noncomputable def aC.lh (F : Nat) (p : Nat) (ks : List Nat) (n : Nat) (tm : Tm) (H : Hp) : OA := none
def aC.pn : Nat → List Nat := fun i => (([] : List (Nat × List Nat)).lookup i).getD []
def aC.tb : Nat → List (List Nat) := fun i => (([] : List (Nat × List (List Nat))).lookup i).getD []
noncomputable def aC.mk (g : Int → Int → Sl → Int → Int → Hp → OA) (args : List AV) (H : Hp) : OA := match args with
 | [(.agg [(.int .i64 aa), (.int .i64 ac), (.sl ai)]), (.int .i64 ag), (.int .i64 bh)] => g aa ac ai ag bh H
 | _ => none
noncomputable def aC.cs (F : Nat) : List (FuncId × (List AV → Hp → OA)) := []
theorem aC.loops (F : Nat) : LoopsOk tabs (mkOrc (aC.cs F)) aC.pn (aC.lh F) F [] 1 aC.code (fun tm H => aresults tabs.ty H tm Try.f79.results.toList fun v => some (v, H)) (fun _ _ _ => none) (fun tm H => aresults tabs.ty H tm Try.f79.results.toList fun v => some (v, H)) := by
 exact loops_none (by kernel_rfl)
theorem aC.eqX (F : Nat) (aa : Int) (ac : Int) (ai : Sl) (ag : Int) (bh : Int) (H : Hp) : aCode tabs (mkOrc (aC.cs F)) aC.pn (aC.lh F) F [] 1 aC.code (argTm [(.agg [(.int .i64 aa), (.int .i64 ac), (.sl ai)]), (.int .i64 ag), (.int .i64 bh)]) H (fun tm H => aresults tabs.ty H tm Try.f79.results.toList fun v => some (v, H)) (fun _ _ _ => none) (fun tm H => aresults tabs.ty H tm Try.f79.results.toList fun v => some (v, H)) = aC.twX F aa ac ai ag bh H := by kernel_rfl
theorem aC.cs_ok (F : Nat) : ∀ p ∈ aC.cs F, ∀ args H v H', p.2 args H = some (v, H') → Go.AE.T Try.prog p.1 args H v H' := by
 intro p hp
 exact absurd (show p ∈ [] from hp) List.not_mem_nil
theorem aC.ok : codeOk aC.pn Try.f79.ntmps aC.tb aC.code = true := by kernel_rfl
theorem aC.T {F : Nat} {aa : Int} {ac : Int} {ai : Sl} {ag : Int} {bh : Int} {H : Hp} {v : AV} {H' : Hp} (h : aC.tw F aa ac ai ag bh H = some (v, H')) : Go.AE.T Try.prog 79 [(.agg [(.int .i64 aa), (.int .i64 ac), (.sl ai)]), (.int .i64 ag), (.int .i64 bh)] H v H' :=
 Go.AE.T.of (Y := tabs) (C := mkOrc (aC.cs F)) (PN := aC.pn) (LH := aC.lh F) (F := F) (TB := aC.tb) (fn := Try.f79) (code := aC.code) mixed tabs_ok (mkOrc_ok (aC.cs_ok F)) Try.func79 (by kernel_rfl) (by kernel_rfl) aC.ok (Nat.le_of_ble_eq_true (by kernel_rfl)) (aC.loops F) (Eq.trans (aC.eqX F aa ac ai ag bh H) h)
theorem aC.mk_T {F : Nat} {args : List AV} {H : Hp} {v : AV} {H' : Hp} (h : aC.mk (aC.tw F) args H = some (v, H')) : Go.AE.T Try.prog 79 args H v H' := by
 unfold aC.mk at h
 split at h
 ·exact aC.T h
 ·cases h
noncomputable def cj.twX (F : Nat) (aa : Int) (H : Hp) : OA := some ((.int .i64 (if (IntKind.i64.wrap (0 - aa)) > aa then (IntKind.i64.wrap (0 - aa)) else aa)), H)
noncomputable def cj.tw (F : Nat) (aa : Int) (H : Hp) : OA := cj.twX F aa H
noncomputable def cj.code : Go.Code := (Try.f114.body).getD .skip
noncomputable def cj.lh (F : Nat) (p : Nat) (ks : List Nat) (n : Nat) (tm : Tm) (H : Hp) : OA := none
def cj.pn : Nat → List Nat := fun i => (([] : List (Nat × List Nat)).lookup i).getD []
def cj.tb : Nat → List (List Nat) := fun i => (([] : List (Nat × List (List Nat))).lookup i).getD []
noncomputable def cj.mk (g : Int → Hp → OA) (args : List AV) (H : Hp) : OA := match args with
 | [(.int .i64 aa)] => g aa H
 | _ => none
noncomputable def cj.cs (F : Nat) : List (FuncId × (List AV → Hp → OA)) := []
theorem cj.loops (F : Nat) : LoopsOk tabs (mkOrc (cj.cs F)) cj.pn (cj.lh F) F [] 1 cj.code (fun tm H => aresults tabs.ty H tm Try.f114.results.toList fun v => some (v, H)) (fun _ _ _ => none) (fun tm H => aresults tabs.ty H tm Try.f114.results.toList fun v => some (v, H)) := by
 exact loops_none (by kernel_rfl)
theorem cj.eqX (F : Nat) (aa : Int) (H : Hp) : aCode tabs (mkOrc (cj.cs F)) cj.pn (cj.lh F) F [] 1 cj.code (argTm [(.int .i64 aa)]) H (fun tm H => aresults tabs.ty H tm Try.f114.results.toList fun v => some (v, H)) (fun _ _ _ => none) (fun tm H => aresults tabs.ty H tm Try.f114.results.toList fun v => some (v, H)) = cj.twX F aa H := by kernel_rfl
theorem cj.cs_ok (F : Nat) : ∀ p ∈ cj.cs F, ∀ args H v H', p.2 args H = some (v, H') → Go.AE.T Try.prog p.1 args H v H' := by
 intro p hp
 exact absurd (show p ∈ [] from hp) List.not_mem_nil
theorem cj.ok : codeOk cj.pn Try.f114.ntmps cj.tb cj.code = true := by kernel_rfl
theorem cj.T {F : Nat} {aa : Int} {H : Hp} {v : AV} {H' : Hp} (h : cj.tw F aa H = some (v, H')) : Go.AE.T Try.prog 114 [(.int .i64 aa)] H v H' :=
 Go.AE.T.of (Y := tabs) (C := mkOrc (cj.cs F)) (PN := cj.pn) (LH := cj.lh F) (F := F) (TB := cj.tb) (fn := Try.f114) (code := cj.code) mixed tabs_ok (mkOrc_ok (cj.cs_ok F)) Try.func114 (by kernel_rfl) (by kernel_rfl) cj.ok (Nat.le_of_ble_eq_true (by kernel_rfl)) (cj.loops F) (Eq.trans (cj.eqX F aa H) h)
theorem cj.mk_T {F : Nat} {args : List AV} {H : Hp} {v : AV} {H' : Hp} (h : cj.mk (cj.tw F) args H = some (v, H')) : Go.AE.T Try.prog 114 args H v H' := by
 unfold cj.mk at h
 split at h
 ·exact cj.T h
 ·cases h
noncomputable def bH.l7 (F : Nat) (ah : Int → Int → Sl → Int → Int → Hp → OA)  : Nat → Int → Int → Nat → Nat → Int → Hp → OA
 | 0, _, _, _, _, _, _ => none
 | ke + 1, eL, eT, es, cI, et, H15 => (Hp.ldI H15 .i64 es (cI + 1)).bind fun n35 => (bif (decide (et < n35)) then ((Hp.ldI H15 .i64 es cI).bind fun n36 => (Hp.ldI H15 .i64 es (cI + 1)).bind fun n37 => (Hp.ldSl H15 es (cI + 2)).bind fun s38 => (ah n36 n37 s38 eL et H15).bind fun r39 => ((r39.1).asI .i64).bind fun n40 => (Hp.ldSl r39.2 es (cI + 2)).bind fun s41 => (Hp.ldI r39.2 .i64 es (cI + 1)).bind fun n42 => (Hp.ldI r39.2 .i64 es cI).bind fun n43 => (Hp.ldI r39.2 .i64 es (cI + 1)).bind fun n44 => (Hp.ldSl r39.2 es (cI + 2)).bind fun s45 => (ah n43 n44 s45 eT et r39.2).bind fun r46 => ((r46.1).asI .i64).bind fun n47 => (if Cons r39.2 r46.2 then ((Sl.idx s41 (IntKind.i64.wrap ((IntKind.i64.wrap (eL * n42)) + et)) 1).bind fun p48 => (Hp.st r46.2 p48.1 p48.2 (.int .i64 n47)).bind fun H49 => (Hp.ldSl H49 es (cI + 2)).bind fun s50 => (Hp.ldI H49 .i64 es (cI + 1)).bind fun n51 => (Sl.idx s50 (IntKind.i64.wrap ((IntKind.i64.wrap (eT * n51)) + et)) 1).bind fun p52 => (Hp.st H49 p52.1 p52.2 (.int .i64 n40)).bind fun H53 => bH.l7 F ah ke eL eT es cI (IntKind.i64.wrap (et + 1)) H53) else none)) else (some ((.tup []), H15)))
termination_by structural n => n
noncomputable def bH.twX (F : Nat) (ah : Int → Int → Sl → Int → Int → Hp → OA) (aa : Int) (ac : Int) (ai : Sl) (ag : Int) (bh : Int) (H : Hp) : OA := (Hp.new H [(.int .i64 aa), (.int .i64 ac), (.sl ai)]).bind fun H6 => bH.l7 F ah F ag bh H.length 0 0 H6
noncomputable def bH.tw (F : Nat) (aa : Int) (ac : Int) (ai : Sl) (ag : Int) (bh : Int) (H : Hp) : OA := bH.twX F (aC.tw F) aa ac ai ag bh H
noncomputable def bH.code : Go.Code := (Try.f145.body).getD .skip
noncomputable def bH.lh7 (F : Nat) (ah : Int → Int → Sl → Int → Int → Hp → OA) (ks : List Nat) (n : Nat) (tm : Tm) (H : Hp) : OA := match ks, tm 1, tm 2, tm 3, tm 6 with
 | [], (.int .i64 eL), (.int .i64 eT), (.ptr es cI), (.int .i64 et) => bH.l7 F ah n eL eT es cI et H
 | _, _, _, _, _ => none
theorem bH.lh7_inv {F : Nat} {ah : Int → Int → Sl → Int → Int → Hp → OA} {ks : List Nat} {n : Nat} {tm : Tm} {H : Hp} {r : AV × Hp} (h : bH.lh7 F ah ks n tm H = some r) : ∃ eL : Int, ∃ eT : Int, ∃ es : Nat, ∃ cI : Nat, ∃ et : Int, ks = [] ∧ tm 1 = (.int .i64 eL) ∧ tm 2 = (.int .i64 eT) ∧ tm 3 = (.ptr es cI) ∧ tm 6 = (.int .i64 et) ∧ bH.l7 F ah n eL eT es cI et H = some r := by
 unfold bH.lh7 at h
 split at h
 ·exact ⟨_, _, _, _, _, rfl, by assumption, by assumption, by assumption, by assumption, h⟩
 ·cases h
noncomputable def bH.lh (F : Nat) (ah : Int → Int → Sl → Int → Int → Hp → OA) (p : Nat) (ks : List Nat) (n : Nat) (tm : Tm) (H : Hp) : OA := bif p.beq 7 then bH.lh7 F ah ks n tm H else (none)
def bH.pn : Nat → List Nat := fun i => (([(5, [13])] : List (Nat × List Nat)).lookup i).getD []
def bH.tb : Nat → List (List Nat) := fun i => (([(5, [[], [0], [], [], [3], [2, 3, 4], [], [2, 3, 4, 5, 6], [], [], [], [8, 9, 10], [0, 1, 2, 3, 4, 5, 6, 7, 8, 9, 10, 11], [0, 1, 2, 3, 4, 5, 6, 7, 8, 9, 10, 11, 12]])] : List (Nat × List (List Nat))).lookup i).getD []
noncomputable def bH.mk (g : Int → Int → Sl → Int → Int → Hp → OA) (args : List AV) (H : Hp) : OA := match args with
 | [(.agg [(.int .i64 aa), (.int .i64 ac), (.sl ai)]), (.int .i64 ag), (.int .i64 bh)] => g aa ac ai ag bh H
 | _ => none
noncomputable def bH.cs (F : Nat) (ah : Int → Int → Sl → Int → Int → Hp → OA) : List (FuncId × (List AV → Hp → OA)) := [(79, aC.mk ah)]
theorem bH.loops (F : Nat) (ah : Int → Int → Sl → Int → Int → Hp → OA) : LoopsOk tabs (mkOrc (bH.cs F ah)) bH.pn (bH.lh F ah) F [] 1 bH.code (fun tm H => aresults tabs.ty H tm Try.f145.results.toList fun v => some (v, H)) (fun _ _ _ => none) (fun tm H => aresults tabs.ty H tm Try.f145.results.toList fun v => some (v, H)) := by
 refine LoopsOk.seq ?_ ?_
 ·exact loops_none (by kernel_rfl)
 ·refine LoopsOk.seq ?_ ?_
  ·exact loops_none (by kernel_rfl)
  ·refine LoopsOk.block ?_
   refine LoopsOk.loop (fun tm H => ?_) (fun k7 tm H r h0 => ?_) (fun k7 => ?_)
   ·refine none_of fun r h0 => ?_
    obtain ⟨eL, eT, es, cI, et, hks, e1, e2, e3, e6, h⟩ := bH.lh7_inv (show bH.lh7 F ah [] 0 tm H = some r from h0)
    cases h
   ·obtain ⟨eL, eT, es, cI, et, hks, e1, e2, e3, e6, h⟩ := bH.lh7_inv (show bH.lh7 F ah [] (k7 + 1) tm H = some r from h0)
    have q0 : (Tm.put tm 1 (.int .i64 eL)) = tm := by exact Tm.put_same e1
    have q1 : (Tm.put (Tm.put tm 1 (.int .i64 eL)) 2 (.int .i64 eT)) = tm := by rw [q0]; exact Tm.put_same e2
    have q2 : (Tm.put (Tm.put (Tm.put tm 1 (.int .i64 eL)) 2 (.int .i64 eT)) 3 (.ptr es cI)) = tm := by rw [q1]; exact Tm.put_same e3
    have q3 : (Tm.put (Tm.put (Tm.put (Tm.put tm 1 (.int .i64 eL)) 2 (.int .i64 eT)) 3 (.ptr es cI)) 6 (.int .i64 et)) = tm := by rw [q2]; exact Tm.put_same e6
    rw [← q3]
    exact Eq.trans (by kernel_rfl) h
   ·exact loops_none (by kernel_rfl)
theorem bH.eqX (F : Nat) (ah : Int → Int → Sl → Int → Int → Hp → OA) (aa : Int) (ac : Int) (ai : Sl) (ag : Int) (bh : Int) (H : Hp) : aCode tabs (mkOrc (bH.cs F ah)) bH.pn (bH.lh F ah) F [] 1 bH.code (argTm [(.agg [(.int .i64 aa), (.int .i64 ac), (.sl ai)]), (.int .i64 ag), (.int .i64 bh)]) H (fun tm H => aresults tabs.ty H tm Try.f145.results.toList fun v => some (v, H)) (fun _ _ _ => none) (fun tm H => aresults tabs.ty H tm Try.f145.results.toList fun v => some (v, H)) = bH.twX F ah aa ac ai ag bh H := by kernel_rfl
theorem bH.cs_ok (F : Nat) : ∀ p ∈ bH.cs F (aC.tw F), ∀ args H v H', p.2 args H = some (v, H') → Go.AE.T Try.prog p.1 args H v H' := by
 intro p hp
 simp only [bH.cs, List.mem_cons, List.not_mem_nil, or_false] at hp
 subst hp
 exact fun args H v H' h => aC.mk_T h
theorem bH.ok : codeOk bH.pn Try.f145.ntmps bH.tb bH.code = true := by kernel_rfl
theorem bH.T {F : Nat} {aa : Int} {ac : Int} {ai : Sl} {ag : Int} {bh : Int} {H : Hp} {v : AV} {H' : Hp} (h : bH.tw F aa ac ai ag bh H = some (v, H')) : Go.AE.T Try.prog 145 [(.agg [(.int .i64 aa), (.int .i64 ac), (.sl ai)]), (.int .i64 ag), (.int .i64 bh)] H v H' :=
 Go.AE.T.of (Y := tabs) (C := mkOrc (bH.cs F (aC.tw F))) (PN := bH.pn) (LH := bH.lh F (aC.tw F)) (F := F) (TB := bH.tb) (fn := Try.f145) (code := bH.code) mixed tabs_ok (mkOrc_ok (bH.cs_ok F)) Try.func145 (by kernel_rfl) (by kernel_rfl) bH.ok (Nat.le_of_ble_eq_true (by kernel_rfl)) (bH.loops F (aC.tw F)) (Eq.trans (bH.eqX F (aC.tw F) aa ac ai ag bh H) h)
theorem bH.mk_T {F : Nat} {args : List AV} {H : Hp} {v : AV} {H' : Hp} (h : bH.mk (bH.tw F) args H = some (v, H')) : Go.AE.T Try.prog 145 args H v H' := by
 unfold bH.mk at h
 split at h
 ·exact bH.T h
 ·cases h
noncomputable def bI.l7 (F : Nat) (ah : Int → Int → Sl → Int → Int → Hp → OA)  : Nat → Int → Int → Nat → Nat → Int → Hp → OA
 | 0, _, _, _, _, _, _ => none
 | ke + 1, eL, eT, es, cI, et, H15 => (Hp.ldI H15 .i64 es cI).bind fun n35 => (bif (decide (et < n35)) then ((Hp.ldI H15 .i64 es cI).bind fun n36 => (Hp.ldI H15 .i64 es (cI + 1)).bind fun n37 => (Hp.ldSl H15 es (cI + 2)).bind fun s38 => (ah n36 n37 s38 et eL H15).bind fun r39 => ((r39.1).asI .i64).bind fun n40 => (Hp.ldSl r39.2 es (cI + 2)).bind fun s41 => (Hp.ldI r39.2 .i64 es (cI + 1)).bind fun n42 => (Hp.ldI r39.2 .i64 es cI).bind fun n43 => (Hp.ldI r39.2 .i64 es (cI + 1)).bind fun n44 => (Hp.ldSl r39.2 es (cI + 2)).bind fun s45 => (ah n43 n44 s45 et eT r39.2).bind fun r46 => ((r46.1).asI .i64).bind fun n47 => (if Cons r39.2 r46.2 then ((Sl.idx s41 (IntKind.i64.wrap ((IntKind.i64.wrap (et * n42)) + eL)) 1).bind fun p48 => (Hp.st r46.2 p48.1 p48.2 (.int .i64 n47)).bind fun H49 => (Hp.ldSl H49 es (cI + 2)).bind fun s50 => (Hp.ldI H49 .i64 es (cI + 1)).bind fun n51 => (Sl.idx s50 (IntKind.i64.wrap ((IntKind.i64.wrap (et * n51)) + eT)) 1).bind fun p52 => (Hp.st H49 p52.1 p52.2 (.int .i64 n40)).bind fun H53 => bI.l7 F ah ke eL eT es cI (IntKind.i64.wrap (et + 1)) H53) else none)) else (some ((.tup []), H15)))
termination_by structural n => n
noncomputable def bI.twX (F : Nat) (ah : Int → Int → Sl → Int → Int → Hp → OA) (aa : Int) (ac : Int) (ai : Sl) (ag : Int) (bh : Int) (H : Hp) : OA := (Hp.new H [(.int .i64 aa), (.int .i64 ac), (.sl ai)]).bind fun H6 => bI.l7 F ah F ag bh H.length 0 0 H6
noncomputable def bI.tw (F : Nat) (aa : Int) (ac : Int) (ai : Sl) (ag : Int) (bh : Int) (H : Hp) : OA := bI.twX F (aC.tw F) aa ac ai ag bh H
noncomputable def bI.code : Go.Code := (Try.f159.body).getD .skip
noncomputable def bI.lh7 (F : Nat) (ah : Int → Int → Sl → Int → Int → Hp → OA) (ks : List Nat) (n : Nat) (tm : Tm) (H : Hp) : OA := match ks, tm 1, tm 2, tm 3, tm 6 with
 | [], (.int .i64 eL), (.int .i64 eT), (.ptr es cI), (.int .i64 et) => bI.l7 F ah n eL eT es cI et H
 | _, _, _, _, _ => none
theorem bI.lh7_inv {F : Nat} {ah : Int → Int → Sl → Int → Int → Hp → OA} {ks : List Nat} {n : Nat} {tm : Tm} {H : Hp} {r : AV × Hp} (h : bI.lh7 F ah ks n tm H = some r) : ∃ eL : Int, ∃ eT : Int, ∃ es : Nat, ∃ cI : Nat, ∃ et : Int, ks = [] ∧ tm 1 = (.int .i64 eL) ∧ tm 2 = (.int .i64 eT) ∧ tm 3 = (.ptr es cI) ∧ tm 6 = (.int .i64 et) ∧ bI.l7 F ah n eL eT es cI et H = some r := by
 unfold bI.lh7 at h
 split at h
 ·exact ⟨_, _, _, _, _, rfl, by assumption, by assumption, by assumption, by assumption, h⟩
 ·cases h
noncomputable def bI.lh (F : Nat) (ah : Int → Int → Sl → Int → Int → Hp → OA) (p : Nat) (ks : List Nat) (n : Nat) (tm : Tm) (H : Hp) : OA := bif p.beq 7 then bI.lh7 F ah ks n tm H else (none)
def bI.pn : Nat → List Nat := fun i => (([(5, [13])] : List (Nat × List Nat)).lookup i).getD []
def bI.tb : Nat → List (List Nat) := fun i => (([(5, [[], [0], [], [], [3], [2, 3, 4], [], [2, 3, 4, 5, 6], [], [], [], [8, 9, 10], [0, 1, 2, 3, 4, 5, 6, 7, 8, 9, 10, 11], [0, 1, 2, 3, 4, 5, 6, 7, 8, 9, 10, 11, 12]])] : List (Nat × List (List Nat))).lookup i).getD []
noncomputable def bI.mk (g : Int → Int → Sl → Int → Int → Hp → OA) (args : List AV) (H : Hp) : OA := match args with
 | [(.agg [(.int .i64 aa), (.int .i64 ac), (.sl ai)]), (.int .i64 ag), (.int .i64 bh)] => g aa ac ai ag bh H
 | _ => none
noncomputable def bI.cs (F : Nat) (ah : Int → Int → Sl → Int → Int → Hp → OA) : List (FuncId × (List AV → Hp → OA)) := [(79, aC.mk ah)]
theorem bI.loops (F : Nat) (ah : Int → Int → Sl → Int → Int → Hp → OA) : LoopsOk tabs (mkOrc (bI.cs F ah)) bI.pn (bI.lh F ah) F [] 1 bI.code (fun tm H => aresults tabs.ty H tm Try.f159.results.toList fun v => some (v, H)) (fun _ _ _ => none) (fun tm H => aresults tabs.ty H tm Try.f159.results.toList fun v => some (v, H)) := by
 refine LoopsOk.seq ?_ ?_
 ·exact loops_none (by kernel_rfl)
 ·refine LoopsOk.seq ?_ ?_
  ·exact loops_none (by kernel_rfl)
  ·refine LoopsOk.block ?_
   refine LoopsOk.loop (fun tm H => ?_) (fun k7 tm H r h0 => ?_) (fun k7 => ?_)
   ·refine none_of fun r h0 => ?_
    obtain ⟨eL, eT, es, cI, et, hks, e1, e2, e3, e6, h⟩ := bI.lh7_inv (show bI.lh7 F ah [] 0 tm H = some r from h0)
    cases h
   ·obtain ⟨eL, eT, es, cI, et, hks, e1, e2, e3, e6, h⟩ := bI.lh7_inv (show bI.lh7 F ah [] (k7 + 1) tm H = some r from h0)
    have q0 : (Tm.put tm 1 (.int .i64 eL)) = tm := by exact Tm.put_same e1
    have q1 : (Tm.put (Tm.put tm 1 (.int .i64 eL)) 2 (.int .i64 eT)) = tm := by rw [q0]; exact Tm.put_same e2
    have q2 : (Tm.put (Tm.put (Tm.put tm 1 (.int .i64 eL)) 2 (.int .i64 eT)) 3 (.ptr es cI)) = tm := by rw [q1]; exact Tm.put_same e3
    have q3 : (Tm.put (Tm.put (Tm.put (Tm.put tm 1 (.int .i64 eL)) 2 (.int .i64 eT)) 3 (.ptr es cI)) 6 (.int .i64 et)) = tm := by rw [q2]; exact Tm.put_same e6
    rw [← q3]
    exact Eq.trans (by kernel_rfl) h
   ·exact loops_none (by kernel_rfl)
theorem bI.eqX (F : Nat) (ah : Int → Int → Sl → Int → Int → Hp → OA) (aa : Int) (ac : Int) (ai : Sl) (ag : Int) (bh : Int) (H : Hp) : aCode tabs (mkOrc (bI.cs F ah)) bI.pn (bI.lh F ah) F [] 1 bI.code (argTm [(.agg [(.int .i64 aa), (.int .i64 ac), (.sl ai)]), (.int .i64 ag), (.int .i64 bh)]) H (fun tm H => aresults tabs.ty H tm Try.f159.results.toList fun v => some (v, H)) (fun _ _ _ => none) (fun tm H => aresults tabs.ty H tm Try.f159.results.toList fun v => some (v, H)) = bI.twX F ah aa ac ai ag bh H := by kernel_rfl
theorem bI.cs_ok (F : Nat) : ∀ p ∈ bI.cs F (aC.tw F), ∀ args H v H', p.2 args H = some (v, H') → Go.AE.T Try.prog p.1 args H v H' := by
 intro p hp
 simp only [bI.cs, List.mem_cons, List.not_mem_nil, or_false] at hp
 subst hp
 exact fun args H v H' h => aC.mk_T h
theorem bI.ok : codeOk bI.pn Try.f159.ntmps bI.tb bI.code = true := by kernel_rfl
theorem bI.T {F : Nat} {aa : Int} {ac : Int} {ai : Sl} {ag : Int} {bh : Int} {H : Hp} {v : AV} {H' : Hp} (h : bI.tw F aa ac ai ag bh H = some (v, H')) : Go.AE.T Try.prog 159 [(.agg [(.int .i64 aa), (.int .i64 ac), (.sl ai)]), (.int .i64 ag), (.int .i64 bh)] H v H' :=
 Go.AE.T.of (Y := tabs) (C := mkOrc (bI.cs F (aC.tw F))) (PN := bI.pn) (LH := bI.lh F (aC.tw F)) (F := F) (TB := bI.tb) (fn := Try.f159) (code := bI.code) mixed tabs_ok (mkOrc_ok (bI.cs_ok F)) Try.func159 (by kernel_rfl) (by kernel_rfl) bI.ok (Nat.le_of_ble_eq_true (by kernel_rfl)) (bI.loops F (aC.tw F)) (Eq.trans (bI.eqX F (aC.tw F) aa ac ai ag bh H) h)
theorem bI.mk_T {F : Nat} {args : List AV} {H : Hp} {v : AV} {H' : Hp} (h : bI.mk (bI.tw F) args H = some (v, H')) : Go.AE.T Try.prog 159 args H v H' := by
 unfold bI.mk at h
 split at h
 ·exact bI.T h
 ·cases h
noncomputable def ar.l65515 (F : Nat) (ah : Int → Int → Sl → Int → Int → Hp → OA) (cg : Int → Hp → OA) (dg : Int → Int → Sl → Int → Int → Hp → OA) (dh : Int → Int → Sl → Int → Int → Hp → OA)  : Nat → Nat → Nat → Int → Int → Hp → OA
 | 0, _, _, _, _, _ => none
 | yj + 1, ie, ig, gI, gE, H187 => (Hp.ldI H187 .i64 ie ((ig + 3) + 1)).bind fun n207 => (bif (decide (gE < n207)) then ((Hp.ldSl H187 ie ((ig + 3) + 2)).bind fun s208 => (Hp.ldI H187 .i64 ie ((ig + 3) + 1)).bind fun n209 => (Hp.ldI H187 .i64 ie (ig + 3)).bind fun n210 => (Hp.ldI H187 .i64 ie ((ig + 3) + 1)).bind fun n211 => (Hp.ldSl H187 ie ((ig + 3) + 2)).bind fun s212 => (ah n210 n211 s212 gI gE H187).bind fun r213 => ((r213.1).asI .i64).bind fun n214 => (if Cons H187 r213.2 then ((Sl.idx s208 (IntKind.i64.wrap ((IntKind.i64.wrap (gI * n209)) + gE)) 1).bind fun p215 => (Hp.st r213.2 p215.1 p215.2 (.int .i64 (IntKind.i64.wrap (0 - n214)))).bind fun H216 => (Hp.ldSl H216 ie ((ig + 6) + 2)).bind fun s217 => (Hp.ldI H216 .i64 ie ((ig + 6) + 1)).bind fun n218 => (Hp.ldI H216 .i64 ie (ig + 6)).bind fun n219 => (Hp.ldI H216 .i64 ie ((ig + 6) + 1)).bind fun n220 => (Hp.ldSl H216 ie ((ig + 6) + 2)).bind fun s221 => (ah n219 n220 s221 gE gI H216).bind fun r222 => ((r222.1).asI .i64).bind fun n223 => (if Cons H216 r222.2 then ((Sl.idx s217 (IntKind.i64.wrap ((IntKind.i64.wrap (gE * n218)) + gI)) 1).bind fun p224 => (Hp.st r222.2 p224.1 p224.2 (.int .i64 (IntKind.i64.wrap (0 - n223)))).bind fun H225 => ar.l65515 F ah cg dg dh yj ie ig gI (IntKind.i64.wrap (gE + 1)) H225) else none)) else none)) else (some ((.bool true), H187)))
termination_by structural n => n
noncomputable def ar.j5 (F : Nat) (ah : Int → Int → Sl → Int → Int → Hp → OA) (cg : Int → Hp → OA) (dg : Int → Int → Sl → Int → Int → Hp → OA) (dh : Int → Int → Sl → Int → Int → Hp → OA) (yk : Nat) (ym : Nat) (nC : Int) (H173 : Hp) : OA := ar.l65515 F ah cg dg dh F yk ym nC 0 H173
noncomputable def ar.l65513 (F : Nat) (ah : Int → Int → Sl → Int → Int → Hp → OA) (cg : Int → Hp → OA) (dg : Int → Int → Sl → Int → Int → Hp → OA) (dh : Int → Int → Sl → Int → Int → Hp → OA)  : Nat → Nat → Nat → Int → Int → Hp → OA
 | 0, _, _, _, _, _ => none
 | yn + 1, jE, jF, hD, ii, H150 => (Hp.ldI H150 .i64 jE (jF + 1)).bind fun n226 => (bif (decide (ii < n226)) then ((Hp.ldSl H150 jE (jF + 2)).bind fun s227 => (Hp.ldI H150 .i64 jE (jF + 1)).bind fun n228 => (Hp.ldI H150 .i64 jE jF).bind fun n229 => (Hp.ldI H150 .i64 jE (jF + 1)).bind fun n230 => (Hp.ldSl H150 jE (jF + 2)).bind fun s231 => (ah n229 n230 s231 hD ii H150).bind fun r232 => ((r232.1).asI .i64).bind fun n233 => (if Cons H150 r232.2 then ((Sl.idx s227 (IntKind.i64.wrap ((IntKind.i64.wrap (hD * n228)) + ii)) 1).bind fun p234 => (Hp.st r232.2 p234.1 p234.2 (.int .i64 (IntKind.i64.wrap (0 - n233)))).bind fun H235 => ar.l65513 F ah cg dg dh yn jE jF hD (IntKind.i64.wrap (ii + 1)) H235) else none)) else (ar.j5 F ah cg dg dh jE jF hD H150))
termination_by structural n => n
noncomputable def ar.j6 (F : Nat) (ah : Int → Int → Sl → Int → Int → Hp → OA) (cg : Int → Hp → OA) (dg : Int → Int → Sl → Int → Int → Hp → OA) (dh : Int → Int → Sl → Int → Int → Hp → OA) (ij : Nat) (ik : Nat) (il : Int) (kC : Int) (lC : Int) (H109 : Hp) : OA := (bif (decide (kC < 0)) then (some ((.bool false), H109)) else ((Hp.ldI H109 .i64 ij ik).bind fun n110 => (Hp.ldI H109 .i64 ij (ik + 1)).bind fun n111 => (Hp.ldSl H109 ij (ik + 2)).bind fun s112 => (dg n110 n111 s112 kC il H109).bind fun r113 => (Hp.ldI r113.2 .i64 ij (ik + 3)).bind fun n114 => (Hp.ldI r113.2 .i64 ij ((ik + 3) + 1)).bind fun n115 => (Hp.ldSl r113.2 ij ((ik + 3) + 2)).bind fun s116 => (dg n114 n115 s116 kC il r113.2).bind fun r117 => (Hp.ldI r117.2 .i64 ij (ik + 6)).bind fun n118 => (Hp.ldI r117.2 .i64 ij ((ik + 6) + 1)).bind fun n119 => (Hp.ldSl r117.2 ij ((ik + 6) + 2)).bind fun s120 => (dh n118 n119 s120 kC il r117.2).bind fun r121 => (Hp.ldI r121.2 .i64 ij ik).bind fun n122 => (Hp.ldI r121.2 .i64 ij (ik + 1)).bind fun n123 => (Hp.ldSl r121.2 ij (ik + 2)).bind fun s124 => (dh n122 n123 s124 lC il r121.2).bind fun r125 => (Hp.ldI r125.2 .i64 ij (ik + 9)).bind fun n126 => (Hp.ldI r125.2 .i64 ij ((ik + 9) + 1)).bind fun n127 => (Hp.ldSl r125.2 ij ((ik + 9) + 2)).bind fun s128 => (dh n126 n127 s128 lC il r125.2).bind fun r129 => (Hp.ldI r129.2 .i64 ij (ik + 12)).bind fun n130 => (Hp.ldI r129.2 .i64 ij ((ik + 12) + 1)).bind fun n131 => (Hp.ldSl r129.2 ij ((ik + 12) + 2)).bind fun s132 => (dg n130 n131 s132 lC il r129.2).bind fun r133 => (Hp.ldI r133.2 .i64 ij ik).bind fun n134 => (Hp.ldI r133.2 .i64 ij (ik + 1)).bind fun n135 => (Hp.ldSl r133.2 ij (ik + 2)).bind fun s136 => (ah n134 n135 s136 il il r133.2).bind fun r137 => ((r137.1).asI .i64).bind fun n138 => (bif (decide (n138 < 0)) then (ar.l65513 F ah cg dg dh F ij ik il 0 r137.2) else (some ((.bool true), r137.2)))))
noncomputable def ar.j8 (F : Nat) (ah : Int → Int → Sl → Int → Int → Hp → OA) (cg : Int → Hp → OA) (dg : Int → Int → Sl → Int → Int → Hp → OA) (dh : Int → Int → Sl → Int → Int → Hp → OA) (C29_ : Nat → Nat → Int → Int → Int → Int → Hp → OA) (yo : Nat) (yp : Nat) (nD : Int) (nE : Int) (nF : Int) (nG : Int) (H296 : Hp) : OA := C29_ yo yp nD nE nF (IntKind.i64.wrap (nG + 1)) H296
noncomputable def ar.j9 (F : Nat) (ah : Int → Int → Sl → Int → Int → Hp → OA) (cg : Int → Hp → OA) (dg : Int → Int → Sl → Int → Int → Hp → OA) (dh : Int → Int → Sl → Int → Int → Hp → OA) (C29_ : Nat → Nat → Int → Int → Int → Int → Hp → OA) (yq : Nat) (yr : Nat) (nH : Int) (nI : Int) (nJ : Int) (nK : Int) (H285 : Hp) : OA := ar.j8 F ah cg dg dh C29_ yq yr nH nI nJ nK H285
noncomputable def ar.j10 (F : Nat) (ah : Int → Int → Sl → Int → Int → Hp → OA) (cg : Int → Hp → OA) (dg : Int → Int → Sl → Int → Int → Hp → OA) (dh : Int → Int → Sl → Int → Int → Hp → OA) (C469_ : Nat → Nat → Int → Int → Int → Int → Int → Hp → OA) (ys : Nat) (yt : Nat) (nL : Int) (nM : Int) (nN : Int) (nO : Int) (nP : Int) (H324 : Hp) : OA := C469_ ys yt nL nM nN nO (IntKind.i64.wrap (nP + 1)) H324
noncomputable def ar.l469 (F : Nat) (ah : Int → Int → Sl → Int → Int → Hp → OA) (cg : Int → Hp → OA) (dg : Int → Int → Sl → Int → Int → Hp → OA) (dh : Int → Int → Sl → Int → Int → Hp → OA) (C29_ : Nat → Nat → Int → Int → Int → Int → Hp → OA) : Nat → Nat → Nat → Int → Int → Int → Int → Int → Hp → OA
 | 0, _, _, _, _, _, _, _, _ => none
 | lJ + 1, gJ, gK, gr, gv, gP, fZ, gd, H246 => (Hp.ldI H246 .i64 gJ (gK + 1)).bind fun n297 => (bif (decide (gd < n297)) then ((Hp.ldI H246 .i64 gJ gK).bind fun n298 => (Hp.ldI H246 .i64 gJ (gK + 1)).bind fun n299 => (Hp.ldSl H246 gJ (gK + 2)).bind fun s300 => (ah n298 n299 s300 fZ gd H246).bind fun r301 => ((r301.1).asI .i64).bind fun n302 => (cg n302 r301.2).bind fun r303 => ((r303.1).asI .i64).bind fun n304 => (bif (decide (n304 > 0)) then ((bif (decide (gv < 0)) then (ar.l469 F ah cg dg dh C29_ lJ gJ gK gr fZ gd fZ (IntKind.i64.wrap (gd + 1)) r303.2) else ((Hp.ldI r303.2 .i64 gJ gK).bind fun n305 => (Hp.ldI r303.2 .i64 gJ (gK + 1)).bind fun n306 => (Hp.ldSl r303.2 gJ (gK + 2)).bind fun s307 => (ah n305 n306 s307 gv gP r303.2).bind fun r308 => ((r308.1).asI .i64).bind fun n309 => (cg n309 r308.2).bind fun r310 => ((r310.1).asI .i64).bind fun n311 => (bif (decide (n304 < n311)) then (ar.j10 F ah cg dg dh (ar.l469 F ah cg dg dh C29_ lJ) gJ gK gr fZ gd fZ gd r310.2) else (ar.j10 F ah cg dg dh (ar.l469 F ah cg dg dh C29_ lJ) gJ gK gr gv gP fZ gd r310.2))))) else (ar.l469 F ah cg dg dh C29_ lJ gJ gK gr gv gP fZ (IntKind.i64.wrap (gd + 1)) r303.2))) else (ar.j9 F ah cg dg dh C29_ gJ gK gr gv gP fZ H246))
termination_by structural n => n
noncomputable def ar.l29 (F : Nat) (ah : Int → Int → Sl → Int → Int → Hp → OA) (cg : Int → Hp → OA) (dg : Int → Int → Sl → Int → Int → Hp → OA) (dh : Int → Int → Sl → Int → Int → Hp → OA)  : Nat → Nat → Nat → Int → Int → Int → Int → Hp → OA
 | 0, _, _, _, _, _, _, _ => none
 | eK + 1, dt, eU, dC, ed, jn, jG, H11 => (Hp.ldI H11 .i64 dt eU).bind fun n236 => (bif (decide (jG < n236)) then (ar.l469 F ah cg dg dh (ar.l29 F ah cg dg dh eK) F dt eU dC ed jn jG dC H11) else (ar.j6 F ah cg dg dh dt eU dC ed jn H11))
termination_by structural n => n
noncomputable def ar.twX (F : Nat) (ah : Int → Int → Sl → Int → Int → Hp → OA) (cg : Int → Hp → OA) (dg : Int → Int → Sl → Int → Int → Hp → OA) (dh : Int → Int → Sl → Int → Int → Hp → OA) (aa : Nat) (ac : Nat) (ae : Int) (H : Hp) : OA := ar.l29 F ah cg dg dh F aa ac ae (-1) (-1) ae H
noncomputable def ar.tw (F : Nat) (aa : Nat) (ac : Nat) (ae : Int) (H : Hp) : OA := ar.twX F (aC.tw F) (cj.tw F) (bH.tw F) (bI.tw F) aa ac ae H
noncomputable def ar.code : Go.Code := (Try.f139.body).getD .skip
noncomputable def ar.lh29 (F : Nat) (ah : Int → Int → Sl → Int → Int → Hp → OA) (cg : Int → Hp → OA) (dg : Int → Int → Sl → Int → Int → Hp → OA) (dh : Int → Int → Sl → Int → Int → Hp → OA) (ks : List Nat) (n : Nat) (tm : Tm) (H : Hp) : OA := match ks, tm 0, tm 1, tm 5, tm 6, tm 7 with
 | [], (.ptr dt eU), (.int .i64 dC), (.int .i64 ed), (.int .i64 jn), (.int .i64 jG) => ar.l29 F ah cg dg dh n dt eU dC ed jn jG H
 | _, _, _, _, _, _ => none
theorem ar.lh29_inv {F : Nat} {ah : Int → Int → Sl → Int → Int → Hp → OA} {cg : Int → Hp → OA} {dg : Int → Int → Sl → Int → Int → Hp → OA} {dh : Int → Int → Sl → Int → Int → Hp → OA} {ks : List Nat} {n : Nat} {tm : Tm} {H : Hp} {r : AV × Hp} (h : ar.lh29 F ah cg dg dh ks n tm H = some r) : ∃ dt : Nat, ∃ eU : Nat, ∃ dC : Int, ∃ ed : Int, ∃ jn : Int, ∃ jG : Int, ks = [] ∧ tm 0 = (.ptr dt eU) ∧ tm 1 = (.int .i64 dC) ∧ tm 5 = (.int .i64 ed) ∧ tm 6 = (.int .i64 jn) ∧ tm 7 = (.int .i64 jG) ∧ ar.l29 F ah cg dg dh n dt eU dC ed jn jG H = some r := by
 unfold ar.lh29 at h
 split at h
 ·exact ⟨_, _, _, _, _, _, rfl, by assumption, by assumption, by assumption, by assumption, by assumption, h⟩
 ·cases h
noncomputable def ar.lh65513 (F : Nat) (ah : Int → Int → Sl → Int → Int → Hp → OA) (cg : Int → Hp → OA) (dg : Int → Int → Sl → Int → Int → Hp → OA) (dh : Int → Int → Sl → Int → Int → Hp → OA) (ks : List Nat) (n : Nat) (tm : Tm) (H : Hp) : OA := match ks, tm 0, tm 1, tm 10 with
 | [], (.ptr jE jF), (.int .i64 hD), (.int .i64 ii) => ar.l65513 F ah cg dg dh n jE jF hD ii H
 | _, _, _, _ => none
theorem ar.lh65513_inv {F : Nat} {ah : Int → Int → Sl → Int → Int → Hp → OA} {cg : Int → Hp → OA} {dg : Int → Int → Sl → Int → Int → Hp → OA} {dh : Int → Int → Sl → Int → Int → Hp → OA} {ks : List Nat} {n : Nat} {tm : Tm} {H : Hp} {r : AV × Hp} (h : ar.lh65513 F ah cg dg dh ks n tm H = some r) : ∃ jE : Nat, ∃ jF : Nat, ∃ hD : Int, ∃ ii : Int, ks = [] ∧ tm 0 = (.ptr jE jF) ∧ tm 1 = (.int .i64 hD) ∧ tm 10 = (.int .i64 ii) ∧ ar.l65513 F ah cg dg dh n jE jF hD ii H = some r := by
 unfold ar.lh65513 at h
 split at h
 ·exact ⟨_, _, _, _, rfl, by assumption, by assumption, by assumption, h⟩
 ·cases h
noncomputable def ar.lh65515 (F : Nat) (ah : Int → Int → Sl → Int → Int → Hp → OA) (cg : Int → Hp → OA) (dg : Int → Int → Sl → Int → Int → Hp → OA) (dh : Int → Int → Sl → Int → Int → Hp → OA) (ks : List Nat) (n : Nat) (tm : Tm) (H : Hp) : OA := match ks, tm 0, tm 1, tm 11 with
 | [], (.ptr ie ig), (.int .i64 gI), (.int .i64 gE) => ar.l65515 F ah cg dg dh n ie ig gI gE H
 | _, _, _, _ => none
theorem ar.lh65515_inv {F : Nat} {ah : Int → Int → Sl → Int → Int → Hp → OA} {cg : Int → Hp → OA} {dg : Int → Int → Sl → Int → Int → Hp → OA} {dh : Int → Int → Sl → Int → Int → Hp → OA} {ks : List Nat} {n : Nat} {tm : Tm} {H : Hp} {r : AV × Hp} (h : ar.lh65515 F ah cg dg dh ks n tm H = some r) : ∃ ie : Nat, ∃ ig : Nat, ∃ gI : Int, ∃ gE : Int, ks = [] ∧ tm 0 = (.ptr ie ig) ∧ tm 1 = (.int .i64 gI) ∧ tm 11 = (.int .i64 gE) ∧ ar.l65515 F ah cg dg dh n ie ig gI gE H = some r := by
 unfold ar.lh65515 at h
 split at h
 ·exact ⟨_, _, _, _, rfl, by assumption, by assumption, by assumption, h⟩
 ·cases h
noncomputable def ar.lh469 (F : Nat) (ah : Int → Int → Sl → Int → Int → Hp → OA) (cg : Int → Hp → OA) (dg : Int → Int → Sl → Int → Int → Hp → OA) (dh : Int → Int → Sl → Int → Int → Hp → OA) (ks : List Nat) (n : Nat) (tm : Tm) (H : Hp) : OA := match ks, tm 0, tm 1, tm 5, tm 6, tm 7, tm 8 with
 | [eK], (.ptr gJ gK), (.int .i64 gr), (.int .i64 gv), (.int .i64 gP), (.int .i64 fZ), (.int .i64 gd) => ar.l469 F ah cg dg dh (ar.l29 F ah cg dg dh eK) n gJ gK gr gv gP fZ gd H
 | _, _, _, _, _, _, _ => none
theorem ar.lh469_inv {F : Nat} {ah : Int → Int → Sl → Int → Int → Hp → OA} {cg : Int → Hp → OA} {dg : Int → Int → Sl → Int → Int → Hp → OA} {dh : Int → Int → Sl → Int → Int → Hp → OA} {ks : List Nat} {n : Nat} {tm : Tm} {H : Hp} {r : AV × Hp} (h : ar.lh469 F ah cg dg dh ks n tm H = some r) : ∃ eK : Nat, ∃ gJ : Nat, ∃ gK : Nat, ∃ gr : Int, ∃ gv : Int, ∃ gP : Int, ∃ fZ : Int, ∃ gd : Int, ks = [eK] ∧ tm 0 = (.ptr gJ gK) ∧ tm 1 = (.int .i64 gr) ∧ tm 5 = (.int .i64 gv) ∧ tm 6 = (.int .i64 gP) ∧ tm 7 = (.int .i64 fZ) ∧ tm 8 = (.int .i64 gd) ∧ ar.l469 F ah cg dg dh (ar.l29 F ah cg dg dh eK) n gJ gK gr gv gP fZ gd H = some r := by
 unfold ar.lh469 at h
 split at h
 ·exact ⟨_, _, _, _, _, _, _, _, rfl, by assumption, by assumption, by assumption, by assumption, by assumption, by assumption, h⟩
 ·cases h
noncomputable def ar.lh (F : Nat) (ah : Int → Int → Sl → Int → Int → Hp → OA) (cg : Int → Hp → OA) (dg : Int → Int → Sl → Int → Int → Hp → OA) (dh : Int → Int → Sl → Int → Int → Hp → OA) (p : Nat) (ks : List Nat) (n : Nat) (tm : Tm) (H : Hp) : OA := bif p.beq 469 then ar.lh469 F ah cg dg dh ks n tm H else (bif p.beq 65515 then ar.lh65515 F ah cg dg dh ks n tm H else (bif p.beq 65513 then ar.lh65513 F ah cg dg dh ks n tm H else (bif p.beq 29 then ar.lh29 F ah cg dg dh ks n tm H else (none))))
def ar.pn : Nat → List Nat := fun i => (([(23, [23]), (27, [23]), (28, [23])] : List (Nat × List Nat)).lookup i).getD []
def ar.tb : Nat → List (List Nat) := fun i => (([(23, [[], [0], [0, 1], [0, 1, 2], [0, 1, 2, 3], [], [], [6], [6, 7], [6, 7, 8], [6, 7, 8, 9], [5, 6, 7, 8, 9, 10], [], [5, 6, 7, 8, 9, 10, 11, 12], [], [14], [14, 15], [14, 15, 16], [], [], [14, 15, 16, 17, 18, 19], [14, 15, 16, 17, 18, 19, 20], [0, 1, 2, 3, 4, 5, 6, 7, 8, 9, 10, 11, 12, 13, 14, 15, 16, 17, 18, 19, 20, 21], [0, 1, 2, 3, 4, 5, 6, 7, 8, 9, 10, 11, 12, 13, 14, 15, 16, 17, 18, 19, 20, 21, 22]]), (27, [[], [0], [0, 1], [0, 1, 2], [0, 1, 2, 3], [], [], [6], [6, 7], [6, 7, 8], [6, 7, 8, 9], [5, 6, 7, 8, 9, 10], [], [5, 6, 7, 8, 9, 10, 11, 12], [], [14], [14, 15], [14, 15, 16], [], [], [14, 15, 16, 17, 18, 19], [14, 15, 16, 17, 18, 19, 20], [0, 1, 2, 3, 4, 5, 6, 7, 8, 9, 10, 11, 12, 13, 14, 15, 16, 17, 18, 19, 20, 21], [0, 1, 2, 3, 4, 5, 6, 7, 8, 9, 10, 11, 12, 13, 14, 15, 16, 17, 18, 19, 20, 21, 22]]), (28, [[], [0], [0, 1], [0, 1, 2], [0, 1, 2, 3], [], [], [6], [6, 7], [6, 7, 8], [6, 7, 8, 9], [5, 6, 7, 8, 9, 10], [], [5, 6, 7, 8, 9, 10, 11, 12], [], [14], [14, 15], [14, 15, 16], [], [], [14, 15, 16, 17, 18, 19], [14, 15, 16, 17, 18, 19, 20], [0, 1, 2, 3, 4, 5, 6, 7, 8, 9, 10, 11, 12, 13, 14, 15, 16, 17, 18, 19, 20, 21], [0, 1, 2, 3, 4, 5, 6, 7, 8, 9, 10, 11, 12, 13, 14, 15, 16, 17, 18, 19, 20, 21, 22]])] : List (Nat × List (List Nat))).lookup i).getD []
noncomputable def ar.mk (g : Nat → Nat → Int → Hp → OA) (args : List AV) (H : Hp) : OA := match args with
 | [(.ptr aa ac), (.int .i64 ae)] => g aa ac ae H
 | _ => none
noncomputable def ar.cs (F : Nat) (ah : Int → Int → Sl → Int → Int → Hp → OA) (cg : Int → Hp → OA) (dg : Int → Int → Sl → Int → Int → Hp → OA) (dh : Int → Int → Sl → Int → Int → Hp → OA) : List (FuncId × (List AV → Hp → OA)) := [(79, aC.mk ah), (114, cj.mk cg), (145, bH.mk dg), (159, bI.mk dh)]
theorem ar.loops (F : Nat) (ah : Int → Int → Sl → Int → Int → Hp → OA) (cg : Int → Hp → OA) (dg : Int → Int → Sl → Int → Int → Hp → OA) (dh : Int → Int → Sl → Int → Int → Hp → OA) : LoopsOk tabs (mkOrc (ar.cs F ah cg dg dh)) ar.pn (ar.lh F ah cg dg dh) F [] 1 ar.code (fun tm H => aresults tabs.ty H tm Try.f139.results.toList fun v => some (v, H)) (fun _ _ _ => none) (fun tm H => aresults tabs.ty H tm Try.f139.results.toList fun v => some (v, H)) := by
 refine LoopsOk.seq ?_ ?_
 ·exact loops_none (by kernel_rfl)
 ·refine LoopsOk.seq ?_ ?_
  ·exact loops_none (by kernel_rfl)
  ·refine LoopsOk.seq ?_ ?_
   ·refine LoopsOk.seq ?_ ?_
    ·exact loops_none (by kernel_rfl)
    ·refine LoopsOk.block ?_
     refine LoopsOk.loop (fun tm H => ?_) (fun k29 tm H r h0 => ?_) (fun k29 => ?_)
     ·refine none_of fun r h0 => ?_
      obtain ⟨dt, eU, dC, ed, jn, jG, hks, e0, e1, e5, e6, e7, h⟩ := ar.lh29_inv (show ar.lh29 F ah cg dg dh [] 0 tm H = some r from h0)
      cases h
     ·obtain ⟨dt, eU, dC, ed, jn, jG, hks, e0, e1, e5, e6, e7, h⟩ := ar.lh29_inv (show ar.lh29 F ah cg dg dh [] (k29 + 1) tm H = some r from h0)
      have q0 : (Tm.put tm 0 (.ptr dt eU)) = tm := by exact Tm.put_same e0
      have q1 : (Tm.put (Tm.put tm 0 (.ptr dt eU)) 1 (.int .i64 dC)) = tm := by rw [q0]; exact Tm.put_same e1
      have q2 : (Tm.put (Tm.put (Tm.put tm 0 (.ptr dt eU)) 1 (.int .i64 dC)) 5 (.int .i64 ed)) = tm := by rw [q1]; exact Tm.put_same e5
      have q3 : (Tm.put (Tm.put (Tm.put (Tm.put tm 0 (.ptr dt eU)) 1 (.int .i64 dC)) 5 (.int .i64 ed)) 6 (.int .i64 jn)) = tm := by rw [q2]; exact Tm.put_same e6
      have q4 : (Tm.put (Tm.put (Tm.put (Tm.put (Tm.put tm 0 (.ptr dt eU)) 1 (.int .i64 dC)) 5 (.int .i64 ed)) 6 (.int .i64 jn)) 7 (.int .i64 jG)) = tm := by rw [q3]; exact Tm.put_same e7
      rw [← q4]
      exact Eq.trans (by kernel_rfl) h
     ·refine LoopsOk.seq ?_ ?_
      ·exact loops_none (by kernel_rfl)
      ·refine LoopsOk.seq ?_ ?_
       ·refine LoopsOk.block ?_
        refine LoopsOk.seq ?_ ?_
        ·exact loops_none (by kernel_rfl)
        ·refine LoopsOk.block ?_
         refine LoopsOk.loop (fun tm H => ?_) (fun k469 tm H r h0 => ?_) (fun k469 => ?_)
         ·refine none_of fun r h0 => ?_
          obtain ⟨eK, gJ, gK, gr, gv, gP, fZ, gd, hks, e0, e1, e5, e6, e7, e8, h⟩ := ar.lh469_inv (show ar.lh469 F ah cg dg dh [k29] 0 tm H = some r from h0)
          cases h
         ·obtain ⟨eK, gJ, gK, gr, gv, gP, fZ, gd, hks, e0, e1, e5, e6, e7, e8, h⟩ := ar.lh469_inv (show ar.lh469 F ah cg dg dh [k29] (k469 + 1) tm H = some r from h0)
          obtain rfl : eK = k29 := by simpa [eq_comm] using hks
          have q0 : (Tm.put tm 0 (.ptr gJ gK)) = tm := by exact Tm.put_same e0
          have q1 : (Tm.put (Tm.put tm 0 (.ptr gJ gK)) 1 (.int .i64 gr)) = tm := by rw [q0]; exact Tm.put_same e1
          have q2 : (Tm.put (Tm.put (Tm.put tm 0 (.ptr gJ gK)) 1 (.int .i64 gr)) 5 (.int .i64 gv)) = tm := by rw [q1]; exact Tm.put_same e5
          have q3 : (Tm.put (Tm.put (Tm.put (Tm.put tm 0 (.ptr gJ gK)) 1 (.int .i64 gr)) 5 (.int .i64 gv)) 6 (.int .i64 gP)) = tm := by rw [q2]; exact Tm.put_same e6
          have q4 : (Tm.put (Tm.put (Tm.put (Tm.put (Tm.put tm 0 (.ptr gJ gK)) 1 (.int .i64 gr)) 5 (.int .i64 gv)) 6 (.int .i64 gP)) 7 (.int .i64 fZ)) = tm := by rw [q3]; exact Tm.put_same e7
          have q5 : (Tm.put (Tm.put (Tm.put (Tm.put (Tm.put (Tm.put tm 0 (.ptr gJ gK)) 1 (.int .i64 gr)) 5 (.int .i64 gv)) 6 (.int .i64 gP)) 7 (.int .i64 fZ)) 8 (.int .i64 gd)) = tm := by rw [q4]; exact Tm.put_same e8
          rw [← q5]
          exact Eq.trans (by kernel_rfl) h
         ·exact loops_none (by kernel_rfl)
       ·exact loops_none (by kernel_rfl)
   ·refine LoopsOk.seq ?_ ?_
    ·exact loops_none (by kernel_rfl)
    ·refine LoopsOk.seq ?_ ?_
     ·exact loops_none (by kernel_rfl)
     ·refine LoopsOk.seq ?_ ?_
      ·exact loops_none (by kernel_rfl)
      ·refine LoopsOk.seq ?_ ?_
       ·exact loops_none (by kernel_rfl)
       ·refine LoopsOk.seq ?_ ?_
        ·exact loops_none (by kernel_rfl)
        ·refine LoopsOk.seq ?_ ?_
         ·exact loops_none (by kernel_rfl)
         ·refine LoopsOk.seq ?_ ?_
          ·exact loops_none (by kernel_rfl)
          ·refine LoopsOk.seq ?_ ?_
           ·refine LoopsOk.seq ?_ ?_
            ·exact loops_none (by kernel_rfl)
            ·refine LoopsOk.cond ?_ ?_
             ·refine LoopsOk.seq ?_ ?_
              ·refine LoopsOk.seq ?_ ?_
               ·exact loops_none (by kernel_rfl)
               ·refine LoopsOk.block ?_
                refine LoopsOk.loop (fun tm H => ?_) (fun k65513 tm H r h0 => ?_) (fun k65513 => ?_)
                ·refine none_of fun r h0 => ?_
                 obtain ⟨jE, jF, hD, ii, hks, e0, e1, e10, h⟩ := ar.lh65513_inv (show ar.lh65513 F ah cg dg dh [] 0 tm H = some r from h0)
                 cases h
                ·obtain ⟨jE, jF, hD, ii, hks, e0, e1, e10, h⟩ := ar.lh65513_inv (show ar.lh65513 F ah cg dg dh [] (k65513 + 1) tm H = some r from h0)
                 have q0 : (Tm.put tm 0 (.ptr jE jF)) = tm := by exact Tm.put_same e0
                 have q1 : (Tm.put (Tm.put tm 0 (.ptr jE jF)) 1 (.int .i64 hD)) = tm := by rw [q0]; exact Tm.put_same e1
                 have q2 : (Tm.put (Tm.put (Tm.put tm 0 (.ptr jE jF)) 1 (.int .i64 hD)) 10 (.int .i64 ii)) = tm := by rw [q1]; exact Tm.put_same e10
                 rw [← q2]
                 exact Eq.trans (by kernel_rfl) h
                ·exact loops_none (by kernel_rfl)
              ·refine LoopsOk.seq ?_ ?_
               ·exact loops_none (by kernel_rfl)
               ·refine LoopsOk.block ?_
                refine LoopsOk.loop (fun tm H => ?_) (fun k65515 tm H r h0 => ?_) (fun k65515 => ?_)
                ·refine none_of fun r h0 => ?_
                 obtain ⟨ie, ig, gI, gE, hks, e0, e1, e11, h⟩ := ar.lh65515_inv (show ar.lh65515 F ah cg dg dh [] 0 tm H = some r from h0)
                 cases h
                ·obtain ⟨ie, ig, gI, gE, hks, e0, e1, e11, h⟩ := ar.lh65515_inv (show ar.lh65515 F ah cg dg dh [] (k65515 + 1) tm H = some r from h0)
                 have q0 : (Tm.put tm 0 (.ptr ie ig)) = tm := by exact Tm.put_same e0
                 have q1 : (Tm.put (Tm.put tm 0 (.ptr ie ig)) 1 (.int .i64 gI)) = tm := by rw [q0]; exact Tm.put_same e1
                 have q2 : (Tm.put (Tm.put (Tm.put tm 0 (.ptr ie ig)) 1 (.int .i64 gI)) 11 (.int .i64 gE)) = tm := by rw [q1]; exact Tm.put_same e11
                 rw [← q2]
                 exact Eq.trans (by kernel_rfl) h
                ·exact loops_none (by kernel_rfl)
             ·exact loops_none (by kernel_rfl)
           ·exact loops_none (by kernel_rfl)
theorem ar.eqX (F : Nat) (ah : Int → Int → Sl → Int → Int → Hp → OA) (cg : Int → Hp → OA) (dg : Int → Int → Sl → Int → Int → Hp → OA) (dh : Int → Int → Sl → Int → Int → Hp → OA) (aa : Nat) (ac : Nat) (ae : Int) (H : Hp) : aCode tabs (mkOrc (ar.cs F ah cg dg dh)) ar.pn (ar.lh F ah cg dg dh) F [] 1 ar.code (argTm [(.ptr aa ac), (.int .i64 ae)]) H (fun tm H => aresults tabs.ty H tm Try.f139.results.toList fun v => some (v, H)) (fun _ _ _ => none) (fun tm H => aresults tabs.ty H tm Try.f139.results.toList fun v => some (v, H)) = ar.twX F ah cg dg dh aa ac ae H := by kernel_rfl
theorem ar.cs_ok (F : Nat) : ∀ p ∈ ar.cs F (aC.tw F) (cj.tw F) (bH.tw F) (bI.tw F), ∀ args H v H', p.2 args H = some (v, H') → Go.AE.T Try.prog p.1 args H v H' := by
 intro p hp
 simp only [ar.cs, List.mem_cons, List.not_mem_nil, or_false] at hp
 rcases hp with rfl | rfl | rfl | rfl
 ·exact fun args H v H' h => aC.mk_T h
 ·exact fun args H v H' h => cj.mk_T h
 ·exact fun args H v H' h => bH.mk_T h
 ·exact fun args H v H' h => bI.mk_T h
theorem ar.ok : codeOk ar.pn Try.f139.ntmps ar.tb ar.code = true := by kernel_rfl
theorem ar.T {F : Nat} {aa : Nat} {ac : Nat} {ae : Int} {H : Hp} {v : AV} {H' : Hp} (h : ar.tw F aa ac ae H = some (v, H')) : Go.AE.T Try.prog 139 [(.ptr aa ac), (.int .i64 ae)] H v H' :=
 Go.AE.T.of (Y := tabs) (C := mkOrc (ar.cs F (aC.tw F) (cj.tw F) (bH.tw F) (bI.tw F))) (PN := ar.pn) (LH := ar.lh F (aC.tw F) (cj.tw F) (bH.tw F) (bI.tw F)) (F := F) (TB := ar.tb) (fn := Try.f139) (code := ar.code) mixed tabs_ok (mkOrc_ok (ar.cs_ok F)) Try.func139 (by kernel_rfl) (by kernel_rfl) ar.ok (Nat.le_of_ble_eq_true (by kernel_rfl)) (ar.loops F (aC.tw F) (cj.tw F) (bH.tw F) (bI.tw F)) (Eq.trans (ar.eqX F (aC.tw F) (cj.tw F) (bH.tw F) (bI.tw F) aa ac ae H) h)
theorem ar.mk_T {F : Nat} {args : List AV} {H : Hp} {v : AV} {H' : Hp} (h : ar.mk (ar.tw F) args H = some (v, H')) : Go.AE.T Try.prog 139 args H v H' := by
 unfold ar.mk at h
 split at h
 ·exact ar.T h
 ·cases h
noncomputable def du.twX (F : Nat) (aa : Int) (ak : Int) (H : Hp) : OA := (if ak = 0 then none else ((if ak = 0 then none else ((bif (decide ((Int.tmod aa ak) < 0)) then (some ((.int .i64 (IntKind.i64.wrap ((IntKind.i64.wrap (Int.tdiv aa ak)) - 1))), H)) else (some ((.int .i64 (IntKind.i64.wrap (Int.tdiv aa ak))), H)))))))
noncomputable def du.tw (F : Nat) (aa : Int) (ak : Int) (H : Hp) : OA := du.twX F aa ak H
noncomputable def du.code : Go.Code := (Try.f141.body).getD .skip
noncomputable def du.lh (F : Nat) (p : Nat) (ks : List Nat) (n : Nat) (tm : Tm) (H : Hp) : OA := none
def du.pn : Nat → List Nat := fun i => (([] : List (Nat × List Nat)).lookup i).getD []
def du.tb : Nat → List (List Nat) := fun i => (([] : List (Nat × List (List Nat))).lookup i).getD []
noncomputable def du.mk (g : Int → Int → Hp → OA) (args : List AV) (H : Hp) : OA := match args with
 | [(.int .i64 aa), (.int .i64 ak)] => g aa ak H
 | _ => none
noncomputable def du.cs (F : Nat) : List (FuncId × (List AV → Hp → OA)) := []
theorem du.loops (F : Nat) : LoopsOk tabs (mkOrc (du.cs F)) du.pn (du.lh F) F [] 1 du.code (fun tm H => aresults tabs.ty H tm Try.f141.results.toList fun v => some (v, H)) (fun _ _ _ => none) (fun tm H => aresults tabs.ty H tm Try.f141.results.toList fun v => some (v, H)) := by
 exact loops_none (by kernel_rfl)
theorem du.eqX (F : Nat) (aa : Int) (ak : Int) (H : Hp) : aCode tabs (mkOrc (du.cs F)) du.pn (du.lh F) F [] 1 du.code (argTm [(.int .i64 aa), (.int .i64 ak)]) H (fun tm H => aresults tabs.ty H tm Try.f141.results.toList fun v => some (v, H)) (fun _ _ _ => none) (fun tm H => aresults tabs.ty H tm Try.f141.results.toList fun v => some (v, H)) = du.twX F aa ak H := by kernel_rfl
theorem du.cs_ok (F : Nat) : ∀ p ∈ du.cs F, ∀ args H v H', p.2 args H = some (v, H') → Go.AE.T Try.prog p.1 args H v H' := by
 intro p hp
 exact absurd (show p ∈ [] from hp) List.not_mem_nil
theorem du.ok : codeOk du.pn Try.f141.ntmps du.tb du.code = true := by kernel_rfl
theorem du.T {F : Nat} {aa : Int} {ak : Int} {H : Hp} {v : AV} {H' : Hp} (h : du.tw F aa ak H = some (v, H')) : Go.AE.T Try.prog 141 [(.int .i64 aa), (.int .i64 ak)] H v H' :=
 Go.AE.T.of (Y := tabs) (C := mkOrc (du.cs F)) (PN := du.pn) (LH := du.lh F) (F := F) (TB := du.tb) (fn := Try.f141) (code := du.code) mixed tabs_ok (mkOrc_ok (du.cs_ok F)) Try.func141 (by kernel_rfl) (by kernel_rfl) du.ok (Nat.le_of_ble_eq_true (by kernel_rfl)) (du.loops F) (Eq.trans (du.eqX F aa ak H) h)
theorem du.mk_T {F : Nat} {args : List AV} {H : Hp} {v : AV} {H' : Hp} (h : du.mk (du.tw F) args H = some (v, H')) : Go.AE.T Try.prog 141 args H v H' := by
 unfold du.mk at h
 split at h
 ·exact du.T h
 ·cases h
noncomputable def dF.twX (F : Nat) (cg : Int → Hp → OA) (aa : Int) (ak : Int) (cH : Int) (H : Hp) : OA := (bif (aa != 0) then ((cg ak H).bind fun r4 => ((r4.1).asI .i64).bind fun n5 => (cg aa r4.2).bind fun r6 => ((r6.1).asI .i64).bind fun n7 => (if n7 = 0 then none else ((bif (decide (n5 > (IntKind.i64.wrap (Int.tdiv cH n7)))) then (some ((.tup [(.int .i64 0), (.bool false)]), r6.2)) else (some ((.tup [(.int .i64 (IntKind.i64.wrap (aa * ak))), (.bool true)]), r6.2)))))) else (some ((.tup [(.int .i64 (IntKind.i64.wrap (aa * ak))), (.bool true)]), H)))
noncomputable def dF.tw (F : Nat) (aa : Int) (ak : Int) (cH : Int) (H : Hp) : OA := dF.twX F (cj.tw F) aa ak cH H
noncomputable def dF.code : Go.Code := (Try.f113.body).getD .skip
noncomputable def dF.lh (F : Nat) (cg : Int → Hp → OA) (p : Nat) (ks : List Nat) (n : Nat) (tm : Tm) (H : Hp) : OA := none
def dF.pn : Nat → List Nat := fun i => (([] : List (Nat × List Nat)).lookup i).getD []
def dF.tb : Nat → List (List Nat) := fun i => (([] : List (Nat × List (List Nat))).lookup i).getD []
noncomputable def dF.mk (g : Int → Int → Int → Hp → OA) (args : List AV) (H : Hp) : OA := match args with
 | [(.int .i64 aa), (.int .i64 ak), (.int .i64 cH)] => g aa ak cH H
 | _ => none
noncomputable def dF.cs (F : Nat) (cg : Int → Hp → OA) : List (FuncId × (List AV → Hp → OA)) := [(114, cj.mk cg)]
theorem dF.loops (F : Nat) (cg : Int → Hp → OA) : LoopsOk tabs (mkOrc (dF.cs F cg)) dF.pn (dF.lh F cg) F [] 1 dF.code (fun tm H => aresults tabs.ty H tm Try.f113.results.toList fun v => some (v, H)) (fun _ _ _ => none) (fun tm H => aresults tabs.ty H tm Try.f113.results.toList fun v => some (v, H)) := by
 exact loops_none (by kernel_rfl)
theorem dF.eqX (F : Nat) (cg : Int → Hp → OA) (aa : Int) (ak : Int) (cH : Int) (H : Hp) : aCode tabs (mkOrc (dF.cs F cg)) dF.pn (dF.lh F cg) F [] 1 dF.code (argTm [(.int .i64 aa), (.int .i64 ak), (.int .i64 cH)]) H (fun tm H => aresults tabs.ty H tm Try.f113.results.toList fun v => some (v, H)) (fun _ _ _ => none) (fun tm H => aresults tabs.ty H tm Try.f113.results.toList fun v => some (v, H)) = dF.twX F cg aa ak cH H := by kernel_rfl
theorem dF.cs_ok (F : Nat) : ∀ p ∈ dF.cs F (cj.tw F), ∀ args H v H', p.2 args H = some (v, H') → Go.AE.T Try.prog p.1 args H v H' := by
 intro p hp
 simp only [dF.cs, List.mem_cons, List.not_mem_nil, or_false] at hp
 subst hp
 exact fun args H v H' h => cj.mk_T h
theorem dF.ok : codeOk dF.pn Try.f113.ntmps dF.tb dF.code = true := by kernel_rfl
theorem dF.T {F : Nat} {aa : Int} {ak : Int} {cH : Int} {H : Hp} {v : AV} {H' : Hp} (h : dF.tw F aa ak cH H = some (v, H')) : Go.AE.T Try.prog 113 [(.int .i64 aa), (.int .i64 ak), (.int .i64 cH)] H v H' :=
 Go.AE.T.of (Y := tabs) (C := mkOrc (dF.cs F (cj.tw F))) (PN := dF.pn) (LH := dF.lh F (cj.tw F)) (F := F) (TB := dF.tb) (fn := Try.f113) (code := dF.code) mixed tabs_ok (mkOrc_ok (dF.cs_ok F)) Try.func113 (by kernel_rfl) (by kernel_rfl) dF.ok (Nat.le_of_ble_eq_true (by kernel_rfl)) (dF.loops F (cj.tw F)) (Eq.trans (dF.eqX F (cj.tw F) aa ak cH H) h)
theorem dF.mk_T {F : Nat} {args : List AV} {H : Hp} {v : AV} {H' : Hp} (h : dF.mk (dF.tw F) args H = some (v, H')) : Go.AE.T Try.prog 113 args H v H' := by
 unfold dF.mk at h
 split at h
 ·exact dF.T h
 ·cases h
noncomputable def dc.twX (F : Nat) (kK : Int → Int → Int → Hp → OA) (aa : Int) (ak : Int) (cH : Int) (H : Hp) : OA := (kK ak cH 2000000000000 H).bind fun r4 => ((r4.1).asTup 2).bind fun l5 => (l5[0]?).bind fun v6 => ((v6).asI .i64).bind fun n7 => (l5[1]?).bind fun v8 => ((v8).asB).bind fun b9 => (bif (!b9) then (some ((.int .i64 3000000000000), r4.2)) else (some ((.int .i64 (IntKind.i64.wrap (aa - n7))), r4.2)))
noncomputable def dc.tw (F : Nat) (aa : Int) (ak : Int) (cH : Int) (H : Hp) : OA := dc.twX F (dF.tw F) aa ak cH H
noncomputable def dc.code : Go.Code := (Try.f165.body).getD .skip
noncomputable def dc.lh (F : Nat) (kK : Int → Int → Int → Hp → OA) (p : Nat) (ks : List Nat) (n : Nat) (tm : Tm) (H : Hp) : OA := none
def dc.pn : Nat → List Nat := fun i => (([] : List (Nat × List Nat)).lookup i).getD []
def dc.tb : Nat → List (List Nat) := fun i => (([] : List (Nat × List (List Nat))).lookup i).getD []
noncomputable def dc.mk (g : Int → Int → Int → Hp → OA) (args : List AV) (H : Hp) : OA := match args with
 | [(.int .i64 aa), (.int .i64 ak), (.int .i64 cH)] => g aa ak cH H
 | _ => none
noncomputable def dc.cs (F : Nat) (kK : Int → Int → Int → Hp → OA) : List (FuncId × (List AV → Hp → OA)) := [(113, dF.mk kK)]
theorem dc.loops (F : Nat) (kK : Int → Int → Int → Hp → OA) : LoopsOk tabs (mkOrc (dc.cs F kK)) dc.pn (dc.lh F kK) F [] 1 dc.code (fun tm H => aresults tabs.ty H tm Try.f165.results.toList fun v => some (v, H)) (fun _ _ _ => none) (fun tm H => aresults tabs.ty H tm Try.f165.results.toList fun v => some (v, H)) := by
 exact loops_none (by kernel_rfl)
theorem dc.eqX (F : Nat) (kK : Int → Int → Int → Hp → OA) (aa : Int) (ak : Int) (cH : Int) (H : Hp) : aCode tabs (mkOrc (dc.cs F kK)) dc.pn (dc.lh F kK) F [] 1 dc.code (argTm [(.int .i64 aa), (.int .i64 ak), (.int .i64 cH)]) H (fun tm H => aresults tabs.ty H tm Try.f165.results.toList fun v => some (v, H)) (fun _ _ _ => none) (fun tm H => aresults tabs.ty H tm Try.f165.results.toList fun v => some (v, H)) = dc.twX F kK aa ak cH H := by kernel_rfl
theorem dc.cs_ok (F : Nat) : ∀ p ∈ dc.cs F (dF.tw F), ∀ args H v H', p.2 args H = some (v, H') → Go.AE.T Try.prog p.1 args H v H' := by
 intro p hp
 simp only [dc.cs, List.mem_cons, List.not_mem_nil, or_false] at hp
 subst hp
 exact fun args H v H' h => dF.mk_T h
theorem dc.ok : codeOk dc.pn Try.f165.ntmps dc.tb dc.code = true := by kernel_rfl
theorem dc.T {F : Nat} {aa : Int} {ak : Int} {cH : Int} {H : Hp} {v : AV} {H' : Hp} (h : dc.tw F aa ak cH H = some (v, H')) : Go.AE.T Try.prog 165 [(.int .i64 aa), (.int .i64 ak), (.int .i64 cH)] H v H' :=
 Go.AE.T.of (Y := tabs) (C := mkOrc (dc.cs F (dF.tw F))) (PN := dc.pn) (LH := dc.lh F (dF.tw F)) (F := F) (TB := dc.tb) (fn := Try.f165) (code := dc.code) mixed tabs_ok (mkOrc_ok (dc.cs_ok F)) Try.func165 (by kernel_rfl) (by kernel_rfl) dc.ok (Nat.le_of_ble_eq_true (by kernel_rfl)) (dc.loops F (dF.tw F)) (Eq.trans (dc.eqX F (dF.tw F) aa ak cH H) h)
theorem dc.mk_T {F : Nat} {args : List AV} {H : Hp} {v : AV} {H' : Hp} (h : dc.mk (dc.tw F) args H = some (v, H')) : Go.AE.T Try.prog 165 args H v H' := by
 unfold dc.mk at h
 split at h
 ·exact dc.T h
 ·cases h
noncomputable def dd.twX (F : Nat) (cg : Int → Hp → OA) (aa : Nat) (ac : Nat) (ae : Int) (ag : Int) (bu : Sl) (cJ : Int) (cK : Int) (cp : Int) (H : Hp) : OA := (Hp.new H [(.int .i64 ae), (.int .i64 ag), (.sl bu)]).bind fun H9 => (cg cp H9).bind fun r10 => ((r10.1).asI .i64).bind fun n11 => (bif (decide (n11 > 1000000000000)) then ((Hp.st r10.2 aa (ac + 15) (.bool true)).bind fun H12 => some ((.tup []), H12)) else ((Hp.ldSl r10.2 H.length 2).bind fun s13 => (Hp.ldI r10.2 .i64 H.length 1).bind fun n14 => (Sl.idx s13 (IntKind.i64.wrap ((IntKind.i64.wrap (cJ * n14)) + cK)) 1).bind fun p15 => (Hp.st r10.2 p15.1 p15.2 (.int .i64 cp)).bind fun H16 => some ((.tup []), H16)))
noncomputable def dd.tw (F : Nat) (aa : Nat) (ac : Nat) (ae : Int) (ag : Int) (bu : Sl) (cJ : Int) (cK : Int) (cp : Int) (H : Hp) : OA := dd.twX F (cj.tw F) aa ac ae ag bu cJ cK cp H
noncomputable def dd.code : Go.Code := (Try.f164.body).getD .skip
noncomputable def dd.lh (F : Nat) (cg : Int → Hp → OA) (p : Nat) (ks : List Nat) (n : Nat) (tm : Tm) (H : Hp) : OA := none
def dd.pn : Nat → List Nat := fun i => (([] : List (Nat × List Nat)).lookup i).getD []
def dd.tb : Nat → List (List Nat) := fun i => (([] : List (Nat × List (List Nat))).lookup i).getD []
noncomputable def dd.mk (g : Nat → Nat → Int → Int → Sl → Int → Int → Int → Hp → OA) (args : List AV) (H : Hp) : OA := match args with
 | [(.ptr aa ac), (.agg [(.int .i64 ae), (.int .i64 ag), (.sl bu)]), (.int .i64 cJ), (.int .i64 cK), (.int .i64 cp)] => g aa ac ae ag bu cJ cK cp H
 | _ => none
noncomputable def dd.cs (F : Nat) (cg : Int → Hp → OA) : List (FuncId × (List AV → Hp → OA)) := [(114, cj.mk cg)]
theorem dd.loops (F : Nat) (cg : Int → Hp → OA) : LoopsOk tabs (mkOrc (dd.cs F cg)) dd.pn (dd.lh F cg) F [] 1 dd.code (fun tm H => aresults tabs.ty H tm Try.f164.results.toList fun v => some (v, H)) (fun _ _ _ => none) (fun tm H => aresults tabs.ty H tm Try.f164.results.toList fun v => some (v, H)) := by
 exact loops_none (by kernel_rfl)
theorem dd.eqX (F : Nat) (cg : Int → Hp → OA) (aa : Nat) (ac : Nat) (ae : Int) (ag : Int) (bu : Sl) (cJ : Int) (cK : Int) (cp : Int) (H : Hp) : aCode tabs (mkOrc (dd.cs F cg)) dd.pn (dd.lh F cg) F [] 1 dd.code (argTm [(.ptr aa ac), (.agg [(.int .i64 ae), (.int .i64 ag), (.sl bu)]), (.int .i64 cJ), (.int .i64 cK), (.int .i64 cp)]) H (fun tm H => aresults tabs.ty H tm Try.f164.results.toList fun v => some (v, H)) (fun _ _ _ => none) (fun tm H => aresults tabs.ty H tm Try.f164.results.toList fun v => some (v, H)) = dd.twX F cg aa ac ae ag bu cJ cK cp H := by kernel_rfl
theorem dd.cs_ok (F : Nat) : ∀ p ∈ dd.cs F (cj.tw F), ∀ args H v H', p.2 args H = some (v, H') → Go.AE.T Try.prog p.1 args H v H' := by
 intro p hp
 simp only [dd.cs, List.mem_cons, List.not_mem_nil, or_false] at hp
 subst hp
 exact fun args H v H' h => cj.mk_T h
theorem dd.ok : codeOk dd.pn Try.f164.ntmps dd.tb dd.code = true := by kernel_rfl
theorem dd.T {F : Nat} {aa : Nat} {ac : Nat} {ae : Int} {ag : Int} {bu : Sl} {cJ : Int} {cK : Int} {cp : Int} {H : Hp} {v : AV} {H' : Hp} (h : dd.tw F aa ac ae ag bu cJ cK cp H = some (v, H')) : Go.AE.T Try.prog 164 [(.ptr aa ac), (.agg [(.int .i64 ae), (.int .i64 ag), (.sl bu)]), (.int .i64 cJ), (.int .i64 cK), (.int .i64 cp)] H v H' :=
 Go.AE.T.of (Y := tabs) (C := mkOrc (dd.cs F (cj.tw F))) (PN := dd.pn) (LH := dd.lh F (cj.tw F)) (F := F) (TB := dd.tb) (fn := Try.f164) (code := dd.code) mixed tabs_ok (mkOrc_ok (dd.cs_ok F)) Try.func164 (by kernel_rfl) (by kernel_rfl) dd.ok (Nat.le_of_ble_eq_true (by kernel_rfl)) (dd.loops F (cj.tw F)) (Eq.trans (dd.eqX F (cj.tw F) aa ac ae ag bu cJ cK cp H) h)
theorem dd.mk_T {F : Nat} {args : List AV} {H : Hp} {v : AV} {H' : Hp} (h : dd.mk (dd.tw F) args H = some (v, H')) : Go.AE.T Try.prog 164 args H v H' := by
 unfold dd.mk at h
 split at h
 ·exact dd.T h
 ·cases h
noncomputable def bD.l7 (F : Nat) (ah : Int → Int → Sl → Int → Int → Hp → OA) (eV : Int → Int → Int → Hp → OA) (eW : Nat → Nat → Int → Int → Sl → Int → Int → Int → Hp → OA)  : Nat → Nat → Nat → Int → Int → Int → Nat → Nat → Int → Hp → OA
 | 0, _, _, _, _, _, _, _, _, _ => none
 | ke + 1, fR, cM, eF, dS, fo, eB, cL, eG, H21 => (Hp.ldI H21 .i64 eB (cL + 1)).bind fun n40 => (bif (decide (eG < n40)) then ((Hp.ldB H21 fR (cM + 15)).bind fun b41 => (bif (!b41) then ((Hp.ldI H21 .i64 eB cL).bind fun n42 => (Hp.ldI H21 .i64 eB (cL + 1)).bind fun n43 => (Hp.ldSl H21 eB (cL + 2)).bind fun s44 => (Hp.ldI H21 .i64 eB cL).bind fun n45 => (Hp.ldI H21 .i64 eB (cL + 1)).bind fun n46 => (Hp.ldSl H21 eB (cL + 2)).bind fun s47 => (ah n45 n46 s47 eF eG H21).bind fun r48 => ((r48.1).asI .i64).bind fun n49 => (if Cons H21 r48.2 then ((Hp.ldI r48.2 .i64 eB cL).bind fun n50 => (Hp.ldI r48.2 .i64 eB (cL + 1)).bind fun n51 => (Hp.ldSl r48.2 eB (cL + 2)).bind fun s52 => (ah n50 n51 s52 dS eG r48.2).bind fun r53 => ((r53.1).asI .i64).bind fun n54 => (if Cons r48.2 r53.2 then ((eV n49 fo n54 r53.2).bind fun r55 => ((r55.1).asI .i64).bind fun n56 => (if Cons r53.2 r55.2 then ((eW fR cM n42 n43 s44 eF eG n56 r55.2).bind fun r57 => bD.l7 F ah eV eW ke fR cM eF dS fo eB cL (IntKind.i64.wrap (eG + 1)) r57.2) else none)) else none)) else none)) else (some ((.tup []), H21)))) else (some ((.tup []), H21)))
termination_by structural n => n
noncomputable def bD.twX (F : Nat) (ah : Int → Int → Sl → Int → Int → Hp → OA) (eV : Int → Int → Int → Hp → OA) (eW : Nat → Nat → Int → Int → Sl → Int → Int → Int → Hp → OA) (aa : Nat) (ac : Nat) (ae : Int) (ag : Int) (bu : Sl) (cJ : Int) (cK : Int) (cp : Int) (H : Hp) : OA := (Hp.new H [(.int .i64 ae), (.int .i64 ag), (.sl bu)]).bind fun H9 => bD.l7 F ah eV eW F aa ac cJ cK cp H.length 0 0 H9
noncomputable def bD.tw (F : Nat) (aa : Nat) (ac : Nat) (ae : Int) (ag : Int) (bu : Sl) (cJ : Int) (cK : Int) (cp : Int) (H : Hp) : OA := bD.twX F (aC.tw F) (dc.tw F) (dd.tw F) aa ac ae ag bu cJ cK cp H
noncomputable def bD.code : Go.Code := (Try.f160.body).getD .skip
noncomputable def bD.lh7 (F : Nat) (ah : Int → Int → Sl → Int → Int → Hp → OA) (eV : Int → Int → Int → Hp → OA) (eW : Nat → Nat → Int → Int → Sl → Int → Int → Int → Hp → OA) (ks : List Nat) (n : Nat) (tm : Tm) (H : Hp) : OA := match ks, tm 0, tm 2, tm 3, tm 4, tm 6, tm 10 with
 | [], (.ptr fR cM), (.int .i64 eF), (.int .i64 dS), (.int .i64 fo), (.ptr eB cL), (.int .i64 eG) => bD.l7 F ah eV eW n fR cM eF dS fo eB cL eG H
 | _, _, _, _, _, _, _ => none
theorem bD.lh7_inv {F : Nat} {ah : Int → Int → Sl → Int → Int → Hp → OA} {eV : Int → Int → Int → Hp → OA} {eW : Nat → Nat → Int → Int → Sl → Int → Int → Int → Hp → OA} {ks : List Nat} {n : Nat} {tm : Tm} {H : Hp} {r : AV × Hp} (h : bD.lh7 F ah eV eW ks n tm H = some r) : ∃ fR : Nat, ∃ cM : Nat, ∃ eF : Int, ∃ dS : Int, ∃ fo : Int, ∃ eB : Nat, ∃ cL : Nat, ∃ eG : Int, ks = [] ∧ tm 0 = (.ptr fR cM) ∧ tm 2 = (.int .i64 eF) ∧ tm 3 = (.int .i64 dS) ∧ tm 4 = (.int .i64 fo) ∧ tm 6 = (.ptr eB cL) ∧ tm 10 = (.int .i64 eG) ∧ bD.l7 F ah eV eW n fR cM eF dS fo eB cL eG H = some r := by
 unfold bD.lh7 at h
 split at h
 ·exact ⟨_, _, _, _, _, _, _, _, rfl, by assumption, by assumption, by assumption, by assumption, by assumption, by assumption, h⟩
 ·cases h
noncomputable def bD.lh (F : Nat) (ah : Int → Int → Sl → Int → Int → Hp → OA) (eV : Int → Int → Int → Hp → OA) (eW : Nat → Nat → Int → Int → Sl → Int → Int → Int → Hp → OA) (p : Nat) (ks : List Nat) (n : Nat) (tm : Tm) (H : Hp) : OA := bif p.beq 7 then bD.lh7 F ah eV eW ks n tm H else (none)
def bD.pn : Nat → List Nat := fun i => (([(4, [14])] : List (Nat × List Nat)).lookup i).getD []
def bD.tb : Nat → List (List Nat) := fun i => (([(4, [[], [], [], [], [], [], [], [4, 5, 6], [], [], [], [], [4, 5, 6, 7, 9, 10, 11], [4, 5, 6, 7, 8, 9, 10, 11, 12], [0, 1, 2, 3, 4, 5, 6, 7, 8, 9, 10, 11, 12, 13]])] : List (Nat × List (List Nat))).lookup i).getD []
noncomputable def bD.mk (g : Nat → Nat → Int → Int → Sl → Int → Int → Int → Hp → OA) (args : List AV) (H : Hp) : OA := match args with
 | [(.ptr aa ac), (.agg [(.int .i64 ae), (.int .i64 ag), (.sl bu)]), (.int .i64 cJ), (.int .i64 cK), (.int .i64 cp)] => g aa ac ae ag bu cJ cK cp H
 | _ => none
noncomputable def bD.cs (F : Nat) (ah : Int → Int → Sl → Int → Int → Hp → OA) (eV : Int → Int → Int → Hp → OA) (eW : Nat → Nat → Int → Int → Sl → Int → Int → Int → Hp → OA) : List (FuncId × (List AV → Hp → OA)) := [(79, aC.mk ah), (165, dc.mk eV), (164, dd.mk eW)]
theorem bD.loops (F : Nat) (ah : Int → Int → Sl → Int → Int → Hp → OA) (eV : Int → Int → Int → Hp → OA) (eW : Nat → Nat → Int → Int → Sl → Int → Int → Int → Hp → OA) : LoopsOk tabs (mkOrc (bD.cs F ah eV eW)) bD.pn (bD.lh F ah eV eW) F [] 1 bD.code (fun tm H => aresults tabs.ty H tm Try.f160.results.toList fun v => some (v, H)) (fun _ _ _ => none) (fun tm H => aresults tabs.ty H tm Try.f160.results.toList fun v => some (v, H)) := by
 refine LoopsOk.seq ?_ ?_
 ·exact loops_none (by kernel_rfl)
 ·refine LoopsOk.seq ?_ ?_
  ·exact loops_none (by kernel_rfl)
  ·refine LoopsOk.block ?_
   refine LoopsOk.loop (fun tm H => ?_) (fun k7 tm H r h0 => ?_) (fun k7 => ?_)
   ·refine none_of fun r h0 => ?_
    obtain ⟨fR, cM, eF, dS, fo, eB, cL, eG, hks, e0, e2, e3, e4, e6, e10, h⟩ := bD.lh7_inv (show bD.lh7 F ah eV eW [] 0 tm H = some r from h0)
    cases h
   ·obtain ⟨fR, cM, eF, dS, fo, eB, cL, eG, hks, e0, e2, e3, e4, e6, e10, h⟩ := bD.lh7_inv (show bD.lh7 F ah eV eW [] (k7 + 1) tm H = some r from h0)
    have q0 : (Tm.put tm 0 (.ptr fR cM)) = tm := by exact Tm.put_same e0
    have q1 : (Tm.put (Tm.put tm 0 (.ptr fR cM)) 2 (.int .i64 eF)) = tm := by rw [q0]; exact Tm.put_same e2
    have q2 : (Tm.put (Tm.put (Tm.put tm 0 (.ptr fR cM)) 2 (.int .i64 eF)) 3 (.int .i64 dS)) = tm := by rw [q1]; exact Tm.put_same e3
    have q3 : (Tm.put (Tm.put (Tm.put (Tm.put tm 0 (.ptr fR cM)) 2 (.int .i64 eF)) 3 (.int .i64 dS)) 4 (.int .i64 fo)) = tm := by rw [q2]; exact Tm.put_same e4
    have q4 : (Tm.put (Tm.put (Tm.put (Tm.put (Tm.put tm 0 (.ptr fR cM)) 2 (.int .i64 eF)) 3 (.int .i64 dS)) 4 (.int .i64 fo)) 6 (.ptr eB cL)) = tm := by rw [q3]; exact Tm.put_same e6
    have q5 : (Tm.put (Tm.put (Tm.put (Tm.put (Tm.put (Tm.put tm 0 (.ptr fR cM)) 2 (.int .i64 eF)) 3 (.int .i64 dS)) 4 (.int .i64 fo)) 6 (.ptr eB cL)) 10 (.int .i64 eG)) = tm := by rw [q4]; exact Tm.put_same e10
    rw [← q5]
    exact Eq.trans (by kernel_rfl) h
   ·exact loops_none (by kernel_rfl)
theorem bD.eqX (F : Nat) (ah : Int → Int → Sl → Int → Int → Hp → OA) (eV : Int → Int → Int → Hp → OA) (eW : Nat → Nat → Int → Int → Sl → Int → Int → Int → Hp → OA) (aa : Nat) (ac : Nat) (ae : Int) (ag : Int) (bu : Sl) (cJ : Int) (cK : Int) (cp : Int) (H : Hp) : aCode tabs (mkOrc (bD.cs F ah eV eW)) bD.pn (bD.lh F ah eV eW) F [] 1 bD.code (argTm [(.ptr aa ac), (.agg [(.int .i64 ae), (.int .i64 ag), (.sl bu)]), (.int .i64 cJ), (.int .i64 cK), (.int .i64 cp)]) H (fun tm H => aresults tabs.ty H tm Try.f160.results.toList fun v => some (v, H)) (fun _ _ _ => none) (fun tm H => aresults tabs.ty H tm Try.f160.results.toList fun v => some (v, H)) = bD.twX F ah eV eW aa ac ae ag bu cJ cK cp H := by kernel_rfl
theorem bD.cs_ok (F : Nat) : ∀ p ∈ bD.cs F (aC.tw F) (dc.tw F) (dd.tw F), ∀ args H v H', p.2 args H = some (v, H') → Go.AE.T Try.prog p.1 args H v H' := by
 intro p hp
 simp only [bD.cs, List.mem_cons, List.not_mem_nil, or_false] at hp
 rcases hp with rfl | rfl | rfl
 ·exact fun args H v H' h => aC.mk_T h
 ·exact fun args H v H' h => dc.mk_T h
 ·exact fun args H v H' h => dd.mk_T h
theorem bD.ok : codeOk bD.pn Try.f160.ntmps bD.tb bD.code = true := by kernel_rfl
theorem bD.T {F : Nat} {aa : Nat} {ac : Nat} {ae : Int} {ag : Int} {bu : Sl} {cJ : Int} {cK : Int} {cp : Int} {H : Hp} {v : AV} {H' : Hp} (h : bD.tw F aa ac ae ag bu cJ cK cp H = some (v, H')) : Go.AE.T Try.prog 160 [(.ptr aa ac), (.agg [(.int .i64 ae), (.int .i64 ag), (.sl bu)]), (.int .i64 cJ), (.int .i64 cK), (.int .i64 cp)] H v H' :=
 Go.AE.T.of (Y := tabs) (C := mkOrc (bD.cs F (aC.tw F) (dc.tw F) (dd.tw F))) (PN := bD.pn) (LH := bD.lh F (aC.tw F) (dc.tw F) (dd.tw F)) (F := F) (TB := bD.tb) (fn := Try.f160) (code := bD.code) mixed tabs_ok (mkOrc_ok (bD.cs_ok F)) Try.func160 (by kernel_rfl) (by kernel_rfl) bD.ok (Nat.le_of_ble_eq_true (by kernel_rfl)) (bD.loops F (aC.tw F) (dc.tw F) (dd.tw F)) (Eq.trans (bD.eqX F (aC.tw F) (dc.tw F) (dd.tw F) aa ac ae ag bu cJ cK cp H) h)
theorem bD.mk_T {F : Nat} {args : List AV} {H : Hp} {v : AV} {H' : Hp} (h : bD.mk (bD.tw F) args H = some (v, H')) : Go.AE.T Try.prog 160 args H v H' := by
 unfold bD.mk at h
 split at h
 ·exact bD.T h
 ·cases h
noncomputable def bE.l7 (F : Nat) (ah : Int → Int → Sl → Int → Int → Hp → OA) (eV : Int → Int → Int → Hp → OA) (eW : Nat → Nat → Int → Int → Sl → Int → Int → Int → Hp → OA)  : Nat → Nat → Nat → Int → Int → Int → Nat → Nat → Int → Hp → OA
 | 0, _, _, _, _, _, _, _, _, _ => none
 | ke + 1, fR, cM, eF, dS, fo, eB, cL, eG, H21 => (Hp.ldI H21 .i64 eB cL).bind fun n40 => (bif (decide (eG < n40)) then ((Hp.ldB H21 fR (cM + 15)).bind fun b41 => (bif (!b41) then ((Hp.ldI H21 .i64 eB cL).bind fun n42 => (Hp.ldI H21 .i64 eB (cL + 1)).bind fun n43 => (Hp.ldSl H21 eB (cL + 2)).bind fun s44 => (Hp.ldI H21 .i64 eB cL).bind fun n45 => (Hp.ldI H21 .i64 eB (cL + 1)).bind fun n46 => (Hp.ldSl H21 eB (cL + 2)).bind fun s47 => (ah n45 n46 s47 eG eF H21).bind fun r48 => ((r48.1).asI .i64).bind fun n49 => (if Cons H21 r48.2 then ((Hp.ldI r48.2 .i64 eB cL).bind fun n50 => (Hp.ldI r48.2 .i64 eB (cL + 1)).bind fun n51 => (Hp.ldSl r48.2 eB (cL + 2)).bind fun s52 => (ah n50 n51 s52 eG dS r48.2).bind fun r53 => ((r53.1).asI .i64).bind fun n54 => (if Cons r48.2 r53.2 then ((eV n49 fo n54 r53.2).bind fun r55 => ((r55.1).asI .i64).bind fun n56 => (if Cons r53.2 r55.2 then ((eW fR cM n42 n43 s44 eG eF n56 r55.2).bind fun r57 => bE.l7 F ah eV eW ke fR cM eF dS fo eB cL (IntKind.i64.wrap (eG + 1)) r57.2) else none)) else none)) else none)) else (some ((.tup []), H21)))) else (some ((.tup []), H21)))
termination_by structural n => n
noncomputable def bE.twX (F : Nat) (ah : Int → Int → Sl → Int → Int → Hp → OA) (eV : Int → Int → Int → Hp → OA) (eW : Nat → Nat → Int → Int → Sl → Int → Int → Int → Hp → OA) (aa : Nat) (ac : Nat) (ae : Int) (ag : Int) (bu : Sl) (cJ : Int) (cK : Int) (cp : Int) (H : Hp) : OA := (Hp.new H [(.int .i64 ae), (.int .i64 ag), (.sl bu)]).bind fun H9 => bE.l7 F ah eV eW F aa ac cJ cK cp H.length 0 0 H9
noncomputable def bE.tw (F : Nat) (aa : Nat) (ac : Nat) (ae : Int) (ag : Int) (bu : Sl) (cJ : Int) (cK : Int) (cp : Int) (H : Hp) : OA := bE.twX F (aC.tw F) (dc.tw F) (dd.tw F) aa ac ae ag bu cJ cK cp H
noncomputable def bE.code : Go.Code := (Try.f161.body).getD .skip
noncomputable def bE.lh7 (F : Nat) (ah : Int → Int → Sl → Int → Int → Hp → OA) (eV : Int → Int → Int → Hp → OA) (eW : Nat → Nat → Int → Int → Sl → Int → Int → Int → Hp → OA) (ks : List Nat) (n : Nat) (tm : Tm) (H : Hp) : OA := match ks, tm 0, tm 2, tm 3, tm 4, tm 6, tm 10 with
 | [], (.ptr fR cM), (.int .i64 eF), (.int .i64 dS), (.int .i64 fo), (.ptr eB cL), (.int .i64 eG) => bE.l7 F ah eV eW n fR cM eF dS fo eB cL eG H
 | _, _, _, _, _, _, _ => none
theorem bE.lh7_inv {F : Nat} {ah : Int → Int → Sl → Int → Int → Hp → OA} {eV : Int → Int → Int → Hp → OA} {eW : Nat → Nat → Int → Int → Sl → Int → Int → Int → Hp → OA} {ks : List Nat} {n : Nat} {tm : Tm} {H : Hp} {r : AV × Hp} (h : bE.lh7 F ah eV eW ks n tm H = some r) : ∃ fR : Nat, ∃ cM : Nat, ∃ eF : Int, ∃ dS : Int, ∃ fo : Int, ∃ eB : Nat, ∃ cL : Nat, ∃ eG : Int, ks = [] ∧ tm 0 = (.ptr fR cM) ∧ tm 2 = (.int .i64 eF) ∧ tm 3 = (.int .i64 dS) ∧ tm 4 = (.int .i64 fo) ∧ tm 6 = (.ptr eB cL) ∧ tm 10 = (.int .i64 eG) ∧ bE.l7 F ah eV eW n fR cM eF dS fo eB cL eG H = some r := by
 unfold bE.lh7 at h
 split at h
 ·exact ⟨_, _, _, _, _, _, _, _, rfl, by assumption, by assumption, by assumption, by assumption, by assumption, by assumption, h⟩
 ·cases h
noncomputable def bE.lh (F : Nat) (ah : Int → Int → Sl → Int → Int → Hp → OA) (eV : Int → Int → Int → Hp → OA) (eW : Nat → Nat → Int → Int → Sl → Int → Int → Int → Hp → OA) (p : Nat) (ks : List Nat) (n : Nat) (tm : Tm) (H : Hp) : OA := bif p.beq 7 then bE.lh7 F ah eV eW ks n tm H else (none)
def bE.pn : Nat → List Nat := fun i => (([(4, [14])] : List (Nat × List Nat)).lookup i).getD []
def bE.tb : Nat → List (List Nat) := fun i => (([(4, [[], [], [], [], [], [], [], [4, 5, 6], [], [], [], [], [4, 5, 6, 7, 9, 10, 11], [4, 5, 6, 7, 8, 9, 10, 11, 12], [0, 1, 2, 3, 4, 5, 6, 7, 8, 9, 10, 11, 12, 13]])] : List (Nat × List (List Nat))).lookup i).getD []
noncomputable def bE.mk (g : Nat → Nat → Int → Int → Sl → Int → Int → Int → Hp → OA) (args : List AV) (H : Hp) : OA := match args with
 | [(.ptr aa ac), (.agg [(.int .i64 ae), (.int .i64 ag), (.sl bu)]), (.int .i64 cJ), (.int .i64 cK), (.int .i64 cp)] => g aa ac ae ag bu cJ cK cp H
 | _ => none
noncomputable def bE.cs (F : Nat) (ah : Int → Int → Sl → Int → Int → Hp → OA) (eV : Int → Int → Int → Hp → OA) (eW : Nat → Nat → Int → Int → Sl → Int → Int → Int → Hp → OA) : List (FuncId × (List AV → Hp → OA)) := [(79, aC.mk ah), (165, dc.mk eV), (164, dd.mk eW)]
theorem bE.loops (F : Nat) (ah : Int → Int → Sl → Int → Int → Hp → OA) (eV : Int → Int → Int → Hp → OA) (eW : Nat → Nat → Int → Int → Sl → Int → Int → Int → Hp → OA) : LoopsOk tabs (mkOrc (bE.cs F ah eV eW)) bE.pn (bE.lh F ah eV eW) F [] 1 bE.code (fun tm H => aresults tabs.ty H tm Try.f161.results.toList fun v => some (v, H)) (fun _ _ _ => none) (fun tm H => aresults tabs.ty H tm Try.f161.results.toList fun v => some (v, H)) := by
 refine LoopsOk.seq ?_ ?_
 ·exact loops_none (by kernel_rfl)
 ·refine LoopsOk.seq ?_ ?_
  ·exact loops_none (by kernel_rfl)
  ·refine LoopsOk.block ?_
   refine LoopsOk.loop (fun tm H => ?_) (fun k7 tm H r h0 => ?_) (fun k7 => ?_)
   ·refine none_of fun r h0 => ?_
    obtain ⟨fR, cM, eF, dS, fo, eB, cL, eG, hks, e0, e2, e3, e4, e6, e10, h⟩ := bE.lh7_inv (show bE.lh7 F ah eV eW [] 0 tm H = some r from h0)
    cases h
   ·obtain ⟨fR, cM, eF, dS, fo, eB, cL, eG, hks, e0, e2, e3, e4, e6, e10, h⟩ := bE.lh7_inv (show bE.lh7 F ah eV eW [] (k7 + 1) tm H = some r from h0)
    have q0 : (Tm.put tm 0 (.ptr fR cM)) = tm := by exact Tm.put_same e0
    have q1 : (Tm.put (Tm.put tm 0 (.ptr fR cM)) 2 (.int .i64 eF)) = tm := by rw [q0]; exact Tm.put_same e2
    have q2 : (Tm.put (Tm.put (Tm.put tm 0 (.ptr fR cM)) 2 (.int .i64 eF)) 3 (.int .i64 dS)) = tm := by rw [q1]; exact Tm.put_same e3
    have q3 : (Tm.put (Tm.put (Tm.put (Tm.put tm 0 (.ptr fR cM)) 2 (.int .i64 eF)) 3 (.int .i64 dS)) 4 (.int .i64 fo)) = tm := by rw [q2]; exact Tm.put_same e4
    have q4 : (Tm.put (Tm.put (Tm.put (Tm.put (Tm.put tm 0 (.ptr fR cM)) 2 (.int .i64 eF)) 3 (.int .i64 dS)) 4 (.int .i64 fo)) 6 (.ptr eB cL)) = tm := by rw [q3]; exact Tm.put_same e6
    have q5 : (Tm.put (Tm.put (Tm.put (Tm.put (Tm.put (Tm.put tm 0 (.ptr fR cM)) 2 (.int .i64 eF)) 3 (.int .i64 dS)) 4 (.int .i64 fo)) 6 (.ptr eB cL)) 10 (.int .i64 eG)) = tm := by rw [q4]; exact Tm.put_same e10
    rw [← q5]
    exact Eq.trans (by kernel_rfl) h
   ·exact loops_none (by kernel_rfl)
theorem bE.eqX (F : Nat) (ah : Int → Int → Sl → Int → Int → Hp → OA) (eV : Int → Int → Int → Hp → OA) (eW : Nat → Nat → Int → Int → Sl → Int → Int → Int → Hp → OA) (aa : Nat) (ac : Nat) (ae : Int) (ag : Int) (bu : Sl) (cJ : Int) (cK : Int) (cp : Int) (H : Hp) : aCode tabs (mkOrc (bE.cs F ah eV eW)) bE.pn (bE.lh F ah eV eW) F [] 1 bE.code (argTm [(.ptr aa ac), (.agg [(.int .i64 ae), (.int .i64 ag), (.sl bu)]), (.int .i64 cJ), (.int .i64 cK), (.int .i64 cp)]) H (fun tm H => aresults tabs.ty H tm Try.f161.results.toList fun v => some (v, H)) (fun _ _ _ => none) (fun tm H => aresults tabs.ty H tm Try.f161.results.toList fun v => some (v, H)) = bE.twX F ah eV eW aa ac ae ag bu cJ cK cp H := by kernel_rfl
theorem bE.cs_ok (F : Nat) : ∀ p ∈ bE.cs F (aC.tw F) (dc.tw F) (dd.tw F), ∀ args H v H', p.2 args H = some (v, H') → Go.AE.T Try.prog p.1 args H v H' := by
 intro p hp
 simp only [bE.cs, List.mem_cons, List.not_mem_nil, or_false] at hp
 rcases hp with rfl | rfl | rfl
 ·exact fun args H v H' h => aC.mk_T h
 ·exact fun args H v H' h => dc.mk_T h
 ·exact fun args H v H' h => dd.mk_T h
theorem bE.ok : codeOk bE.pn Try.f161.ntmps bE.tb bE.code = true := by kernel_rfl
theorem bE.T {F : Nat} {aa : Nat} {ac : Nat} {ae : Int} {ag : Int} {bu : Sl} {cJ : Int} {cK : Int} {cp : Int} {H : Hp} {v : AV} {H' : Hp} (h : bE.tw F aa ac ae ag bu cJ cK cp H = some (v, H')) : Go.AE.T Try.prog 161 [(.ptr aa ac), (.agg [(.int .i64 ae), (.int .i64 ag), (.sl bu)]), (.int .i64 cJ), (.int .i64 cK), (.int .i64 cp)] H v H' :=
 Go.AE.T.of (Y := tabs) (C := mkOrc (bE.cs F (aC.tw F) (dc.tw F) (dd.tw F))) (PN := bE.pn) (LH := bE.lh F (aC.tw F) (dc.tw F) (dd.tw F)) (F := F) (TB := bE.tb) (fn := Try.f161) (code := bE.code) mixed tabs_ok (mkOrc_ok (bE.cs_ok F)) Try.func161 (by kernel_rfl) (by kernel_rfl) bE.ok (Nat.le_of_ble_eq_true (by kernel_rfl)) (bE.loops F (aC.tw F) (dc.tw F) (dd.tw F)) (Eq.trans (bE.eqX F (aC.tw F) (dc.tw F) (dd.tw F) aa ac ae ag bu cJ cK cp H) h)
theorem bE.mk_T {F : Nat} {args : List AV} {H : Hp} {v : AV} {H' : Hp} (h : bE.mk (bE.tw F) args H = some (v, H')) : Go.AE.T Try.prog 161 args H v H' := by
 unfold bE.mk at h
 split at h
 ·exact bE.T h
 ·cases h
noncomputable def dq.twX (F : Nat) (gQ : Nat → Nat → Int → Int → Sl → Int → Int → Int → Hp → OA) (gR : Nat → Nat → Int → Int → Sl → Int → Int → Int → Hp → OA) (aa : Nat) (ac : Nat) (ae : Int) (bC : Int) (cq : Int) (H : Hp) : OA := (bif (cq != 0) then ((Hp.ldI H .i64 aa ac).bind fun n6 => (Hp.ldI H .i64 aa (ac + 1)).bind fun n7 => (Hp.ldSl H aa (ac + 2)).bind fun s8 => (gQ aa ac n6 n7 s8 ae bC cq H).bind fun r9 => (Hp.ldI r9.2 .i64 aa (ac + 3)).bind fun n10 => (Hp.ldI r9.2 .i64 aa ((ac + 3) + 1)).bind fun n11 => (Hp.ldSl r9.2 aa ((ac + 3) + 2)).bind fun s12 => (gQ aa ac n10 n11 s12 ae bC cq r9.2).bind fun r13 => (Hp.ldI r13.2 .i64 aa (ac + 6)).bind fun n14 => (Hp.ldI r13.2 .i64 aa ((ac + 6) + 1)).bind fun n15 => (Hp.ldSl r13.2 aa ((ac + 6) + 2)).bind fun s16 => (gR aa ac n14 n15 s16 bC ae (IntKind.i64.wrap (0 - cq)) r13.2).bind fun r17 => some ((.tup []), r17.2)) else (some ((.tup []), H)))
noncomputable def dq.tw (F : Nat) (aa : Nat) (ac : Nat) (ae : Int) (bC : Int) (cq : Int) (H : Hp) : OA := dq.twX F (bD.tw F) (bE.tw F) aa ac ae bC cq H
noncomputable def dq.code : Go.Code := (Try.f140.body).getD .skip
noncomputable def dq.lh (F : Nat) (gQ : Nat → Nat → Int → Int → Sl → Int → Int → Int → Hp → OA) (gR : Nat → Nat → Int → Int → Sl → Int → Int → Int → Hp → OA) (p : Nat) (ks : List Nat) (n : Nat) (tm : Tm) (H : Hp) : OA := none
def dq.pn : Nat → List Nat := fun i => (([] : List (Nat × List Nat)).lookup i).getD []
def dq.tb : Nat → List (List Nat) := fun i => (([] : List (Nat × List (List Nat))).lookup i).getD []
noncomputable def dq.mk (g : Nat → Nat → Int → Int → Int → Hp → OA) (args : List AV) (H : Hp) : OA := match args with
 | [(.ptr aa ac), (.int .i64 ae), (.int .i64 bC), (.int .i64 cq)] => g aa ac ae bC cq H
 | _ => none
noncomputable def dq.cs (F : Nat) (gQ : Nat → Nat → Int → Int → Sl → Int → Int → Int → Hp → OA) (gR : Nat → Nat → Int → Int → Sl → Int → Int → Int → Hp → OA) : List (FuncId × (List AV → Hp → OA)) := [(160, bD.mk gQ), (161, bE.mk gR)]
theorem dq.loops (F : Nat) (gQ : Nat → Nat → Int → Int → Sl → Int → Int → Int → Hp → OA) (gR : Nat → Nat → Int → Int → Sl → Int → Int → Int → Hp → OA) : LoopsOk tabs (mkOrc (dq.cs F gQ gR)) dq.pn (dq.lh F gQ gR) F [] 1 dq.code (fun tm H => aresults tabs.ty H tm Try.f140.results.toList fun v => some (v, H)) (fun _ _ _ => none) (fun tm H => aresults tabs.ty H tm Try.f140.results.toList fun v => some (v, H)) := by
 exact loops_none (by kernel_rfl)
theorem dq.eqX (F : Nat) (gQ : Nat → Nat → Int → Int → Sl → Int → Int → Int → Hp → OA) (gR : Nat → Nat → Int → Int → Sl → Int → Int → Int → Hp → OA) (aa : Nat) (ac : Nat) (ae : Int) (bC : Int) (cq : Int) (H : Hp) : aCode tabs (mkOrc (dq.cs F gQ gR)) dq.pn (dq.lh F gQ gR) F [] 1 dq.code (argTm [(.ptr aa ac), (.int .i64 ae), (.int .i64 bC), (.int .i64 cq)]) H (fun tm H => aresults tabs.ty H tm Try.f140.results.toList fun v => some (v, H)) (fun _ _ _ => none) (fun tm H => aresults tabs.ty H tm Try.f140.results.toList fun v => some (v, H)) = dq.twX F gQ gR aa ac ae bC cq H := by kernel_rfl
theorem dq.cs_ok (F : Nat) : ∀ p ∈ dq.cs F (bD.tw F) (bE.tw F), ∀ args H v H', p.2 args H = some (v, H') → Go.AE.T Try.prog p.1 args H v H' := by
 intro p hp
 simp only [dq.cs, List.mem_cons, List.not_mem_nil, or_false] at hp
 rcases hp with rfl | rfl
 ·exact fun args H v H' h => bD.mk_T h
 ·exact fun args H v H' h => bE.mk_T h
theorem dq.ok : codeOk dq.pn Try.f140.ntmps dq.tb dq.code = true := by kernel_rfl
theorem dq.T {F : Nat} {aa : Nat} {ac : Nat} {ae : Int} {bC : Int} {cq : Int} {H : Hp} {v : AV} {H' : Hp} (h : dq.tw F aa ac ae bC cq H = some (v, H')) : Go.AE.T Try.prog 140 [(.ptr aa ac), (.int .i64 ae), (.int .i64 bC), (.int .i64 cq)] H v H' :=
 Go.AE.T.of (Y := tabs) (C := mkOrc (dq.cs F (bD.tw F) (bE.tw F))) (PN := dq.pn) (LH := dq.lh F (bD.tw F) (bE.tw F)) (F := F) (TB := dq.tb) (fn := Try.f140) (code := dq.code) mixed tabs_ok (mkOrc_ok (dq.cs_ok F)) Try.func140 (by kernel_rfl) (by kernel_rfl) dq.ok (Nat.le_of_ble_eq_true (by kernel_rfl)) (dq.loops F (bD.tw F) (bE.tw F)) (Eq.trans (dq.eqX F (bD.tw F) (bE.tw F) aa ac ae bC cq H) h)
theorem dq.mk_T {F : Nat} {args : List AV} {H : Hp} {v : AV} {H' : Hp} (h : dq.mk (dq.tw F) args H = some (v, H')) : Go.AE.T Try.prog 140 args H v H' := by
 unfold dq.mk at h
 split at h
 ·exact dq.T h
 ·cases h
noncomputable def dv.twX (F : Nat) (gR : Nat → Nat → Int → Int → Sl → Int → Int → Int → Hp → OA) (gQ : Nat → Nat → Int → Int → Sl → Int → Int → Int → Hp → OA) (aa : Nat) (ac : Nat) (ae : Int) (bC : Int) (cq : Int) (H : Hp) : OA := (bif (cq != 0) then ((Hp.ldI H .i64 aa ac).bind fun n6 => (Hp.ldI H .i64 aa (ac + 1)).bind fun n7 => (Hp.ldSl H aa (ac + 2)).bind fun s8 => (gR aa ac n6 n7 s8 ae bC cq H).bind fun r9 => (Hp.ldI r9.2 .i64 aa (ac + 9)).bind fun n10 => (Hp.ldI r9.2 .i64 aa ((ac + 9) + 1)).bind fun n11 => (Hp.ldSl r9.2 aa ((ac + 9) + 2)).bind fun s12 => (gR aa ac n10 n11 s12 ae bC cq r9.2).bind fun r13 => (Hp.ldI r13.2 .i64 aa (ac + 12)).bind fun n14 => (Hp.ldI r13.2 .i64 aa ((ac + 12) + 1)).bind fun n15 => (Hp.ldSl r13.2 aa ((ac + 12) + 2)).bind fun s16 => (gQ aa ac n14 n15 s16 bC ae (IntKind.i64.wrap (0 - cq)) r13.2).bind fun r17 => some ((.tup []), r17.2)) else (some ((.tup []), H)))
noncomputable def dv.tw (F : Nat) (aa : Nat) (ac : Nat) (ae : Int) (bC : Int) (cq : Int) (H : Hp) : OA := dv.twX F (bE.tw F) (bD.tw F) aa ac ae bC cq H
noncomputable def dv.code : Go.Code := (Try.f142.body).getD .skip
noncomputable def dv.lh (F : Nat) (gR : Nat → Nat → Int → Int → Sl → Int → Int → Int → Hp → OA) (gQ : Nat → Nat → Int → Int → Sl → Int → Int → Int → Hp → OA) (p : Nat) (ks : List Nat) (n : Nat) (tm : Tm) (H : Hp) : OA := none
def dv.pn : Nat → List Nat := fun i => (([] : List (Nat × List Nat)).lookup i).getD []
def dv.tb : Nat → List (List Nat) := fun i => (([] : List (Nat × List (List Nat))).lookup i).getD []
noncomputable def dv.mk (g : Nat → Nat → Int → Int → Int → Hp → OA) (args : List AV) (H : Hp) : OA := match args with
 | [(.ptr aa ac), (.int .i64 ae), (.int .i64 bC), (.int .i64 cq)] => g aa ac ae bC cq H
 | _ => none
noncomputable def dv.cs (F : Nat) (gR : Nat → Nat → Int → Int → Sl → Int → Int → Int → Hp → OA) (gQ : Nat → Nat → Int → Int → Sl → Int → Int → Int → Hp → OA) : List (FuncId × (List AV → Hp → OA)) := [(161, bE.mk gR), (160, bD.mk gQ)]
theorem dv.loops (F : Nat) (gR : Nat → Nat → Int → Int → Sl → Int → Int → Int → Hp → OA) (gQ : Nat → Nat → Int → Int → Sl → Int → Int → Int → Hp → OA) : LoopsOk tabs (mkOrc (dv.cs F gR gQ)) dv.pn (dv.lh F gR gQ) F [] 1 dv.code (fun tm H => aresults tabs.ty H tm Try.f142.results.toList fun v => some (v, H)) (fun _ _ _ => none) (fun tm H => aresults tabs.ty H tm Try.f142.results.toList fun v => some (v, H)) := by
 exact loops_none (by kernel_rfl)
theorem dv.eqX (F : Nat) (gR : Nat → Nat → Int → Int → Sl → Int → Int → Int → Hp → OA) (gQ : Nat → Nat → Int → Int → Sl → Int → Int → Int → Hp → OA) (aa : Nat) (ac : Nat) (ae : Int) (bC : Int) (cq : Int) (H : Hp) : aCode tabs (mkOrc (dv.cs F gR gQ)) dv.pn (dv.lh F gR gQ) F [] 1 dv.code (argTm [(.ptr aa ac), (.int .i64 ae), (.int .i64 bC), (.int .i64 cq)]) H (fun tm H => aresults tabs.ty H tm Try.f142.results.toList fun v => some (v, H)) (fun _ _ _ => none) (fun tm H => aresults tabs.ty H tm Try.f142.results.toList fun v => some (v, H)) = dv.twX F gR gQ aa ac ae bC cq H := by kernel_rfl
theorem dv.cs_ok (F : Nat) : ∀ p ∈ dv.cs F (bE.tw F) (bD.tw F), ∀ args H v H', p.2 args H = some (v, H') → Go.AE.T Try.prog p.1 args H v H' := by
 intro p hp
 simp only [dv.cs, List.mem_cons, List.not_mem_nil, or_false] at hp
 rcases hp with rfl | rfl
 ·exact fun args H v H' h => bE.mk_T h
 ·exact fun args H v H' h => bD.mk_T h
theorem dv.ok : codeOk dv.pn Try.f142.ntmps dv.tb dv.code = true := by kernel_rfl
theorem dv.T {F : Nat} {aa : Nat} {ac : Nat} {ae : Int} {bC : Int} {cq : Int} {H : Hp} {v : AV} {H' : Hp} (h : dv.tw F aa ac ae bC cq H = some (v, H')) : Go.AE.T Try.prog 142 [(.ptr aa ac), (.int .i64 ae), (.int .i64 bC), (.int .i64 cq)] H v H' :=
 Go.AE.T.of (Y := tabs) (C := mkOrc (dv.cs F (bE.tw F) (bD.tw F))) (PN := dv.pn) (LH := dv.lh F (bE.tw F) (bD.tw F)) (F := F) (TB := dv.tb) (fn := Try.f142) (code := dv.code) mixed tabs_ok (mkOrc_ok (dv.cs_ok F)) Try.func142 (by kernel_rfl) (by kernel_rfl) dv.ok (Nat.le_of_ble_eq_true (by kernel_rfl)) (dv.loops F (bE.tw F) (bD.tw F)) (Eq.trans (dv.eqX F (bE.tw F) (bD.tw F) aa ac ae bC cq H) h)
theorem dv.mk_T {F : Nat} {args : List AV} {H : Hp} {v : AV} {H' : Hp} (h : dv.mk (dv.tw F) args H = some (v, H')) : Go.AE.T Try.prog 142 args H v H' := by
 unfold dv.mk at h
 split at h
 ·exact dv.T h
 ·cases h
noncomputable def bi.l29 (F : Nat) (ah : Int → Int → Sl → Int → Int → Hp → OA)  : Nat → Nat → Nat → Int → Int → Hp → OA
 | 0, _, _, _, _, _ => none
 | eK + 1, kf, kg, jo, iW, H30 => (Hp.ldI H30 .i64 kf (kg + 1)).bind fun n37 => (bif (decide (iW < n37)) then ((Hp.ldI H30 .i64 kf kg).bind fun n38 => (Hp.ldI H30 .i64 kf (kg + 1)).bind fun n39 => (Hp.ldSl H30 kf (kg + 2)).bind fun s40 => (ah n38 n39 s40 jo iW H30).bind fun r41 => ((r41.1).asI .i64).bind fun n42 => (bif (n42 != 0) then (some ((.bool false), r41.2)) else (bi.l29 F ah eK kf kg jo (IntKind.i64.wrap (iW + 1)) r41.2))) else (some ((.bool true), H30)))
termination_by structural n => n
noncomputable def bi.j1 (F : Nat) (ah : Int → Int → Sl → Int → Int → Hp → OA) (yu : Nat) (yw : Nat) (mC : Int) (H22 : Hp) : OA := bi.l29 F ah F yu yw mC (IntKind.i64.wrap (mC + 1)) H22
noncomputable def bi.l13 (F : Nat) (ah : Int → Int → Sl → Int → Int → Hp → OA)  : Nat → Nat → Nat → Int → Int → Hp → OA
 | 0, _, _, _, _, _ => none
 | iX + 1, dt, eU, dC, ed, H9 => (Hp.ldI H9 .i64 dt eU).bind fun n43 => (bif (decide (ed < n43)) then ((Hp.ldI H9 .i64 dt eU).bind fun n44 => (Hp.ldI H9 .i64 dt (eU + 1)).bind fun n45 => (Hp.ldSl H9 dt (eU + 2)).bind fun s46 => (ah n44 n45 s46 ed dC H9).bind fun r47 => ((r47.1).asI .i64).bind fun n48 => (bif (n48 != 0) then (some ((.bool false), r47.2)) else (bi.l13 F ah iX dt eU dC (IntKind.i64.wrap (ed + 1)) r47.2))) else (bi.j1 F ah dt eU dC H9))
termination_by structural n => n
noncomputable def bi.twX (F : Nat) (ah : Int → Int → Sl → Int → Int → Hp → OA) (aa : Nat) (ac : Nat) (ae : Int) (H : Hp) : OA := bi.l13 F ah F aa ac ae (IntKind.i64.wrap (ae + 1)) H
noncomputable def bi.tw (F : Nat) (aa : Nat) (ac : Nat) (ae : Int) (H : Hp) : OA := bi.twX F (aC.tw F) aa ac ae H
noncomputable def bi.code : Go.Code := (Try.f143.body).getD .skip
noncomputable def bi.lh13 (F : Nat) (ah : Int → Int → Sl → Int → Int → Hp → OA) (ks : List Nat) (n : Nat) (tm : Tm) (H : Hp) : OA := match ks, tm 0, tm 1, tm 5 with
 | [], (.ptr dt eU), (.int .i64 dC), (.int .i64 ed) => bi.l13 F ah n dt eU dC ed H
 | _, _, _, _ => none
theorem bi.lh13_inv {F : Nat} {ah : Int → Int → Sl → Int → Int → Hp → OA} {ks : List Nat} {n : Nat} {tm : Tm} {H : Hp} {r : AV × Hp} (h : bi.lh13 F ah ks n tm H = some r) : ∃ dt : Nat, ∃ eU : Nat, ∃ dC : Int, ∃ ed : Int, ks = [] ∧ tm 0 = (.ptr dt eU) ∧ tm 1 = (.int .i64 dC) ∧ tm 5 = (.int .i64 ed) ∧ bi.l13 F ah n dt eU dC ed H = some r := by
 unfold bi.lh13 at h
 split at h
 ·exact ⟨_, _, _, _, rfl, by assumption, by assumption, by assumption, h⟩
 ·cases h
noncomputable def bi.lh29 (F : Nat) (ah : Int → Int → Sl → Int → Int → Hp → OA) (ks : List Nat) (n : Nat) (tm : Tm) (H : Hp) : OA := match ks, tm 0, tm 1, tm 6 with
 | [], (.ptr kf kg), (.int .i64 jo), (.int .i64 iW) => bi.l29 F ah n kf kg jo iW H
 | _, _, _, _ => none
theorem bi.lh29_inv {F : Nat} {ah : Int → Int → Sl → Int → Int → Hp → OA} {ks : List Nat} {n : Nat} {tm : Tm} {H : Hp} {r : AV × Hp} (h : bi.lh29 F ah ks n tm H = some r) : ∃ kf : Nat, ∃ kg : Nat, ∃ jo : Int, ∃ iW : Int, ks = [] ∧ tm 0 = (.ptr kf kg) ∧ tm 1 = (.int .i64 jo) ∧ tm 6 = (.int .i64 iW) ∧ bi.l29 F ah n kf kg jo iW H = some r := by
 unfold bi.lh29 at h
 split at h
 ·exact ⟨_, _, _, _, rfl, by assumption, by assumption, by assumption, h⟩
 ·cases h
noncomputable def bi.lh (F : Nat) (ah : Int → Int → Sl → Int → Int → Hp → OA) (p : Nat) (ks : List Nat) (n : Nat) (tm : Tm) (H : Hp) : OA := bif p.beq 29 then bi.lh29 F ah ks n tm H else (bif p.beq 13 then bi.lh13 F ah ks n tm H else (none))
def bi.pn : Nat → List Nat := fun i => (([] : List (Nat × List Nat)).lookup i).getD []
def bi.tb : Nat → List (List Nat) := fun i => (([] : List (Nat × List (List Nat))).lookup i).getD []
noncomputable def bi.mk (g : Nat → Nat → Int → Hp → OA) (args : List AV) (H : Hp) : OA := match args with
 | [(.ptr aa ac), (.int .i64 ae)] => g aa ac ae H
 | _ => none
noncomputable def bi.cs (F : Nat) (ah : Int → Int → Sl → Int → Int → Hp → OA) : List (FuncId × (List AV → Hp → OA)) := [(79, aC.mk ah)]
theorem bi.loops (F : Nat) (ah : Int → Int → Sl → Int → Int → Hp → OA) : LoopsOk tabs (mkOrc (bi.cs F ah)) bi.pn (bi.lh F ah) F [] 1 bi.code (fun tm H => aresults tabs.ty H tm Try.f143.results.toList fun v => some (v, H)) (fun _ _ _ => none) (fun tm H => aresults tabs.ty H tm Try.f143.results.toList fun v => some (v, H)) := by
 refine LoopsOk.seq ?_ ?_
 ·exact loops_none (by kernel_rfl)
 ·refine LoopsOk.seq ?_ ?_
  ·refine LoopsOk.seq ?_ ?_
   ·exact loops_none (by kernel_rfl)
   ·refine LoopsOk.block ?_
    refine LoopsOk.loop (fun tm H => ?_) (fun k13 tm H r h0 => ?_) (fun k13 => ?_)
    ·refine none_of fun r h0 => ?_
     obtain ⟨dt, eU, dC, ed, hks, e0, e1, e5, h⟩ := bi.lh13_inv (show bi.lh13 F ah [] 0 tm H = some r from h0)
     cases h
    ·obtain ⟨dt, eU, dC, ed, hks, e0, e1, e5, h⟩ := bi.lh13_inv (show bi.lh13 F ah [] (k13 + 1) tm H = some r from h0)
     have q0 : (Tm.put tm 0 (.ptr dt eU)) = tm := by exact Tm.put_same e0
     have q1 : (Tm.put (Tm.put tm 0 (.ptr dt eU)) 1 (.int .i64 dC)) = tm := by rw [q0]; exact Tm.put_same e1
     have q2 : (Tm.put (Tm.put (Tm.put tm 0 (.ptr dt eU)) 1 (.int .i64 dC)) 5 (.int .i64 ed)) = tm := by rw [q1]; exact Tm.put_same e5
     rw [← q2]
     exact Eq.trans (by kernel_rfl) h
    ·exact loops_none (by kernel_rfl)
  ·refine LoopsOk.seq ?_ ?_
   ·refine LoopsOk.seq ?_ ?_
    ·exact loops_none (by kernel_rfl)
    ·refine LoopsOk.block ?_
     refine LoopsOk.loop (fun tm H => ?_) (fun k29 tm H r h0 => ?_) (fun k29 => ?_)
     ·refine none_of fun r h0 => ?_
      obtain ⟨kf, kg, jo, iW, hks, e0, e1, e6, h⟩ := bi.lh29_inv (show bi.lh29 F ah [] 0 tm H = some r from h0)
      cases h
     ·obtain ⟨kf, kg, jo, iW, hks, e0, e1, e6, h⟩ := bi.lh29_inv (show bi.lh29 F ah [] (k29 + 1) tm H = some r from h0)
      have q0 : (Tm.put tm 0 (.ptr kf kg)) = tm := by exact Tm.put_same e0
      have q1 : (Tm.put (Tm.put tm 0 (.ptr kf kg)) 1 (.int .i64 jo)) = tm := by rw [q0]; exact Tm.put_same e1
      have q2 : (Tm.put (Tm.put (Tm.put tm 0 (.ptr kf kg)) 1 (.int .i64 jo)) 6 (.int .i64 iW)) = tm := by rw [q1]; exact Tm.put_same e6
      rw [← q2]
      exact Eq.trans (by kernel_rfl) h
     ·exact loops_none (by kernel_rfl)
   ·exact loops_none (by kernel_rfl)
theorem bi.eqX (F : Nat) (ah : Int → Int → Sl → Int → Int → Hp → OA) (aa : Nat) (ac : Nat) (ae : Int) (H : Hp) : aCode tabs (mkOrc (bi.cs F ah)) bi.pn (bi.lh F ah) F [] 1 bi.code (argTm [(.ptr aa ac), (.int .i64 ae)]) H (fun tm H => aresults tabs.ty H tm Try.f143.results.toList fun v => some (v, H)) (fun _ _ _ => none) (fun tm H => aresults tabs.ty H tm Try.f143.results.toList fun v => some (v, H)) = bi.twX F ah aa ac ae H := by kernel_rfl
theorem bi.cs_ok (F : Nat) : ∀ p ∈ bi.cs F (aC.tw F), ∀ args H v H', p.2 args H = some (v, H') → Go.AE.T Try.prog p.1 args H v H' := by
 intro p hp
 simp only [bi.cs, List.mem_cons, List.not_mem_nil, or_false] at hp
 subst hp
 exact fun args H v H' h => aC.mk_T h
theorem bi.ok : codeOk bi.pn Try.f143.ntmps bi.tb bi.code = true := by kernel_rfl
theorem bi.T {F : Nat} {aa : Nat} {ac : Nat} {ae : Int} {H : Hp} {v : AV} {H' : Hp} (h : bi.tw F aa ac ae H = some (v, H')) : Go.AE.T Try.prog 143 [(.ptr aa ac), (.int .i64 ae)] H v H' :=
 Go.AE.T.of (Y := tabs) (C := mkOrc (bi.cs F (aC.tw F))) (PN := bi.pn) (LH := bi.lh F (aC.tw F)) (F := F) (TB := bi.tb) (fn := Try.f143) (code := bi.code) mixed tabs_ok (mkOrc_ok (bi.cs_ok F)) Try.func143 (by kernel_rfl) (by kernel_rfl) bi.ok (Nat.le_of_ble_eq_true (by kernel_rfl)) (bi.loops F (aC.tw F)) (Eq.trans (bi.eqX F (aC.tw F) aa ac ae H) h)
theorem bi.mk_T {F : Nat} {args : List AV} {H : Hp} {v : AV} {H' : Hp} (h : bi.mk (bi.tw F) args H = some (v, H')) : Go.AE.T Try.prog 143 args H v H' := by
 unfold bi.mk at h
 split at h
 ·exact bi.T h
 ·cases h
noncomputable def aU.j3 (F : Nat) (ah : Int → Int → Sl → Int → Int → Hp → OA) (C13_ : Nat → Nat → Int → Int → Hp → OA) (yx : Nat) (yy : Nat) (nQ : Int) (nR : Int) (H96 : Hp) : OA := C13_ yx yy nQ (IntKind.i64.wrap (nR + 1)) H96
noncomputable def aU.j4 (F : Nat) (ah : Int → Int → Sl → Int → Int → Hp → OA) (C13_ : Nat → Nat → Int → Int → Hp → OA) (yz : Nat) (yA : Nat) (nS : Int) (mD : Int) (H87 : Hp) : OA := aU.j3 F ah C13_ yz yA nS mD H87
noncomputable def aU.l213 (F : Nat) (ah : Int → Int → Sl → Int → Int → Hp → OA) (C13_ : Nat → Nat → Int → Int → Hp → OA) : Nat → Nat → Nat → Int → Int → Int → Hp → OA
 | 0, _, _, _, _, _, _ => none
 | yB + 1, iY, iZ, gS, hE, i_, H67 => (Hp.ldI H67 .i64 iY (iZ + 1)).bind fun n97 => (bif (decide (i_ < n97)) then ((Hp.ldI H67 .i64 iY iZ).bind fun n98 => (Hp.ldI H67 .i64 iY (iZ + 1)).bind fun n99 => (Hp.ldSl H67 iY (iZ + 2)).bind fun s100 => (ah n98 n99 s100 hE i_ H67).bind fun r101 => ((r101.1).asI .i64).bind fun n102 => (if Cons H67 r101.2 then ((Hp.ldI r101.2 .i64 iY iZ).bind fun n103 => (Hp.ldI r101.2 .i64 iY (iZ + 1)).bind fun n104 => (Hp.ldSl r101.2 iY (iZ + 2)).bind fun s105 => (ah n103 n104 s105 gS gS r101.2).bind fun r106 => ((r106.1).asI .i64).bind fun n107 => (if n107 = 0 then none else ((bif ((Int.tmod n102 n107) != 0) then (some ((.int .i64 hE), r106.2)) else (aU.l213 F ah C13_ yB iY iZ gS hE (IntKind.i64.wrap (i_ + 1)) r106.2))))) else none)) else (aU.j4 F ah C13_ iY iZ gS hE H67))
termination_by structural n => n
noncomputable def aU.l13 (F : Nat) (ah : Int → Int → Sl → Int → Int → Hp → OA)  : Nat → Nat → Nat → Int → Int → Hp → OA
 | 0, _, _, _, _, _ => none
 | iX + 1, dt, eU, dC, ed, H9 => (Hp.ldI H9 .i64 dt eU).bind fun n59 => (bif (decide (ed < n59)) then (aU.l213 F ah (aU.l13 F ah iX) F dt eU dC ed (IntKind.i64.wrap (dC + 1)) H9) else (some ((.int .i64 (-1)), H9)))
termination_by structural n => n
noncomputable def aU.twX (F : Nat) (ah : Int → Int → Sl → Int → Int → Hp → OA) (aa : Nat) (ac : Nat) (ae : Int) (H : Hp) : OA := aU.l13 F ah F aa ac ae (IntKind.i64.wrap (ae + 1)) H
noncomputable def aU.tw (F : Nat) (aa : Nat) (ac : Nat) (ae : Int) (H : Hp) : OA := aU.twX F (aC.tw F) aa ac ae H
noncomputable def aU.code : Go.Code := (Try.f144.body).getD .skip
noncomputable def aU.lh13 (F : Nat) (ah : Int → Int → Sl → Int → Int → Hp → OA) (ks : List Nat) (n : Nat) (tm : Tm) (H : Hp) : OA := match ks, tm 0, tm 1, tm 5 with
 | [], (.ptr dt eU), (.int .i64 dC), (.int .i64 ed) => aU.l13 F ah n dt eU dC ed H
 | _, _, _, _ => none
theorem aU.lh13_inv {F : Nat} {ah : Int → Int → Sl → Int → Int → Hp → OA} {ks : List Nat} {n : Nat} {tm : Tm} {H : Hp} {r : AV × Hp} (h : aU.lh13 F ah ks n tm H = some r) : ∃ dt : Nat, ∃ eU : Nat, ∃ dC : Int, ∃ ed : Int, ks = [] ∧ tm 0 = (.ptr dt eU) ∧ tm 1 = (.int .i64 dC) ∧ tm 5 = (.int .i64 ed) ∧ aU.l13 F ah n dt eU dC ed H = some r := by
 unfold aU.lh13 at h
 split at h
 ·exact ⟨_, _, _, _, rfl, by assumption, by assumption, by assumption, h⟩
 ·cases h
noncomputable def aU.lh213 (F : Nat) (ah : Int → Int → Sl → Int → Int → Hp → OA) (ks : List Nat) (n : Nat) (tm : Tm) (H : Hp) : OA := match ks, tm 0, tm 1, tm 5, tm 6 with
 | [iX], (.ptr iY iZ), (.int .i64 gS), (.int .i64 hE), (.int .i64 i_) => aU.l213 F ah (aU.l13 F ah iX) n iY iZ gS hE i_ H
 | _, _, _, _, _ => none
theorem aU.lh213_inv {F : Nat} {ah : Int → Int → Sl → Int → Int → Hp → OA} {ks : List Nat} {n : Nat} {tm : Tm} {H : Hp} {r : AV × Hp} (h : aU.lh213 F ah ks n tm H = some r) : ∃ iX : Nat, ∃ iY : Nat, ∃ iZ : Nat, ∃ gS : Int, ∃ hE : Int, ∃ i_ : Int, ks = [iX] ∧ tm 0 = (.ptr iY iZ) ∧ tm 1 = (.int .i64 gS) ∧ tm 5 = (.int .i64 hE) ∧ tm 6 = (.int .i64 i_) ∧ aU.l213 F ah (aU.l13 F ah iX) n iY iZ gS hE i_ H = some r := by
 unfold aU.lh213 at h
 split at h
 ·exact ⟨_, _, _, _, _, _, rfl, by assumption, by assumption, by assumption, by assumption, h⟩
 ·cases h
noncomputable def aU.lh (F : Nat) (ah : Int → Int → Sl → Int → Int → Hp → OA) (p : Nat) (ks : List Nat) (n : Nat) (tm : Tm) (H : Hp) : OA := bif p.beq 213 then aU.lh213 F ah ks n tm H else (bif p.beq 13 then aU.lh13 F ah ks n tm H else (none))
def aU.pn : Nat → List Nat := fun i => (([(7, [13])] : List (Nat × List Nat)).lookup i).getD []
def aU.tb : Nat → List (List Nat) := fun i => (([(7, [[], [0], [0, 1], [0, 1, 2], [], [], [0, 1, 2, 3, 4, 5], [], [7], [7, 8], [7, 8, 9], [], [], [0, 1, 2, 3, 4, 5, 6, 7, 8, 9, 10, 11, 12], [0, 1, 2, 3, 4, 5, 6, 7, 8, 9, 10, 11, 12, 13], [0, 1, 2, 3, 4, 5, 6, 7, 8, 9, 10, 11, 12, 13, 14]])] : List (Nat × List (List Nat))).lookup i).getD []
noncomputable def aU.mk (g : Nat → Nat → Int → Hp → OA) (args : List AV) (H : Hp) : OA := match args with
 | [(.ptr aa ac), (.int .i64 ae)] => g aa ac ae H
 | _ => none
noncomputable def aU.cs (F : Nat) (ah : Int → Int → Sl → Int → Int → Hp → OA) : List (FuncId × (List AV → Hp → OA)) := [(79, aC.mk ah)]
theorem aU.loops (F : Nat) (ah : Int → Int → Sl → Int → Int → Hp → OA) : LoopsOk tabs (mkOrc (aU.cs F ah)) aU.pn (aU.lh F ah) F [] 1 aU.code (fun tm H => aresults tabs.ty H tm Try.f144.results.toList fun v => some (v, H)) (fun _ _ _ => none) (fun tm H => aresults tabs.ty H tm Try.f144.results.toList fun v => some (v, H)) := by
 refine LoopsOk.seq ?_ ?_
 ·exact loops_none (by kernel_rfl)
 ·refine LoopsOk.seq ?_ ?_
  ·refine LoopsOk.seq ?_ ?_
   ·exact loops_none (by kernel_rfl)
   ·refine LoopsOk.block ?_
    refine LoopsOk.loop (fun tm H => ?_) (fun k13 tm H r h0 => ?_) (fun k13 => ?_)
    ·refine none_of fun r h0 => ?_
     obtain ⟨dt, eU, dC, ed, hks, e0, e1, e5, h⟩ := aU.lh13_inv (show aU.lh13 F ah [] 0 tm H = some r from h0)
     cases h
    ·obtain ⟨dt, eU, dC, ed, hks, e0, e1, e5, h⟩ := aU.lh13_inv (show aU.lh13 F ah [] (k13 + 1) tm H = some r from h0)
     have q0 : (Tm.put tm 0 (.ptr dt eU)) = tm := by exact Tm.put_same e0
     have q1 : (Tm.put (Tm.put tm 0 (.ptr dt eU)) 1 (.int .i64 dC)) = tm := by rw [q0]; exact Tm.put_same e1
     have q2 : (Tm.put (Tm.put (Tm.put tm 0 (.ptr dt eU)) 1 (.int .i64 dC)) 5 (.int .i64 ed)) = tm := by rw [q1]; exact Tm.put_same e5
     rw [← q2]
     exact Eq.trans (by kernel_rfl) h
    ·refine LoopsOk.seq ?_ ?_
     ·exact loops_none (by kernel_rfl)
     ·refine LoopsOk.seq ?_ ?_
      ·refine LoopsOk.block ?_
       refine LoopsOk.seq ?_ ?_
       ·exact loops_none (by kernel_rfl)
       ·refine LoopsOk.block ?_
        refine LoopsOk.loop (fun tm H => ?_) (fun k213 tm H r h0 => ?_) (fun k213 => ?_)
        ·refine none_of fun r h0 => ?_
         obtain ⟨iX, iY, iZ, gS, hE, i_, hks, e0, e1, e5, e6, h⟩ := aU.lh213_inv (show aU.lh213 F ah [k13] 0 tm H = some r from h0)
         cases h
        ·obtain ⟨iX, iY, iZ, gS, hE, i_, hks, e0, e1, e5, e6, h⟩ := aU.lh213_inv (show aU.lh213 F ah [k13] (k213 + 1) tm H = some r from h0)
         obtain rfl : iX = k13 := by simpa [eq_comm] using hks
         have q0 : (Tm.put tm 0 (.ptr iY iZ)) = tm := by exact Tm.put_same e0
         have q1 : (Tm.put (Tm.put tm 0 (.ptr iY iZ)) 1 (.int .i64 gS)) = tm := by rw [q0]; exact Tm.put_same e1
         have q2 : (Tm.put (Tm.put (Tm.put tm 0 (.ptr iY iZ)) 1 (.int .i64 gS)) 5 (.int .i64 hE)) = tm := by rw [q1]; exact Tm.put_same e5
         have q3 : (Tm.put (Tm.put (Tm.put (Tm.put tm 0 (.ptr iY iZ)) 1 (.int .i64 gS)) 5 (.int .i64 hE)) 6 (.int .i64 i_)) = tm := by rw [q2]; exact Tm.put_same e6
         rw [← q3]
         exact Eq.trans (by kernel_rfl) h
        ·exact loops_none (by kernel_rfl)
      ·exact loops_none (by kernel_rfl)
  ·exact loops_none (by kernel_rfl)
theorem aU.eqX (F : Nat) (ah : Int → Int → Sl → Int → Int → Hp → OA) (aa : Nat) (ac : Nat) (ae : Int) (H : Hp) : aCode tabs (mkOrc (aU.cs F ah)) aU.pn (aU.lh F ah) F [] 1 aU.code (argTm [(.ptr aa ac), (.int .i64 ae)]) H (fun tm H => aresults tabs.ty H tm Try.f144.results.toList fun v => some (v, H)) (fun _ _ _ => none) (fun tm H => aresults tabs.ty H tm Try.f144.results.toList fun v => some (v, H)) = aU.twX F ah aa ac ae H := by kernel_rfl
theorem aU.cs_ok (F : Nat) : ∀ p ∈ aU.cs F (aC.tw F), ∀ args H v H', p.2 args H = some (v, H') → Go.AE.T Try.prog p.1 args H v H' := by
 intro p hp
 simp only [aU.cs, List.mem_cons, List.not_mem_nil, or_false] at hp
 subst hp
 exact fun args H v H' h => aC.mk_T h
theorem aU.ok : codeOk aU.pn Try.f144.ntmps aU.tb aU.code = true := by kernel_rfl
theorem aU.T {F : Nat} {aa : Nat} {ac : Nat} {ae : Int} {H : Hp} {v : AV} {H' : Hp} (h : aU.tw F aa ac ae H = some (v, H')) : Go.AE.T Try.prog 144 [(.ptr aa ac), (.int .i64 ae)] H v H' :=
 Go.AE.T.of (Y := tabs) (C := mkOrc (aU.cs F (aC.tw F))) (PN := aU.pn) (LH := aU.lh F (aC.tw F)) (F := F) (TB := aU.tb) (fn := Try.f144) (code := aU.code) mixed tabs_ok (mkOrc_ok (aU.cs_ok F)) Try.func144 (by kernel_rfl) (by kernel_rfl) aU.ok (Nat.le_of_ble_eq_true (by kernel_rfl)) (aU.loops F (aC.tw F)) (Eq.trans (aU.eqX F (aC.tw F) aa ac ae H) h)
theorem aU.mk_T {F : Nat} {args : List AV} {H : Hp} {v : AV} {H' : Hp} (h : aU.mk (aU.tw F) args H = some (v, H')) : Go.AE.T Try.prog 144 args H v H' := by
 unfold aU.mk at h
 split at h
 ·exact aU.T h
 ·cases h
noncomputable def aP.j1 (F : Nat) (fE : Nat → Nat → Int → Hp → OA) (ah : Int → Int → Sl → Int → Int → Hp → OA) (fA : Int → Int → Hp → OA) (fB : Nat → Nat → Int → Int → Int → Hp → OA) (fF : Nat → Nat → Int → Int → Int → Hp → OA) (fG : Nat → Nat → Int → Hp → OA) (fH : Nat → Nat → Int → Hp → OA) (nT : Nat) (nU : Nat) (lD : Int) (H73 : Hp) : OA := (Hp.ldB H73 nT (nU + 15)).bind fun b74 => (bif b74 then (some ((.tup [(.bool false), (.bool false)]), H73)) else ((fG nT nU lD H73).bind fun r75 => ((r75.1).asB).bind fun b76 => (bif (!b76) then (some ((.tup [(.bool false), (.bool false)]), r75.2)) else ((fH nT nU lD r75.2).bind fun r77 => ((r77.1).asI .i64).bind fun n78 => (bif (decide (n78 < 0)) then (some ((.tup [(.bool true), (.bool false)]), r77.2)) else ((fB nT nU lD n78 (-1) r77.2).bind fun r79 => some ((.tup [(.bool false), (.bool false)]), r79.2)))))))
noncomputable def aP.l61 (F : Nat) (fE : Nat → Nat → Int → Hp → OA) (ah : Int → Int → Sl → Int → Int → Hp → OA) (fA : Int → Int → Hp → OA) (fB : Nat → Nat → Int → Int → Int → Hp → OA) (fF : Nat → Nat → Int → Int → Int → Hp → OA) (fG : Nat → Nat → Int → Hp → OA) (fH : Nat → Nat → Int → Hp → OA)  : Nat → Nat → Nat → Int → Int → Hp → OA
 | 0, _, _, _, _, _ => none
 | qf + 1, im, io, gj, ip, H47 => (Hp.ldI H47 .i64 im (io + 1)).bind fun n80 => (bif (decide (ip < n80)) then ((Hp.ldB H47 im (io + 15)).bind fun b81 => (bif (!b81) then ((Hp.ldI H47 .i64 im io).bind fun n82 => (Hp.ldI H47 .i64 im (io + 1)).bind fun n83 => (Hp.ldSl H47 im (io + 2)).bind fun s84 => (ah n82 n83 s84 gj ip H47).bind fun r85 => ((r85.1).asI .i64).bind fun n86 => (if Cons H47 r85.2 then ((Hp.ldI r85.2 .i64 im io).bind fun n87 => (Hp.ldI r85.2 .i64 im (io + 1)).bind fun n88 => (Hp.ldSl r85.2 im (io + 2)).bind fun s89 => (ah n87 n88 s89 gj gj r85.2).bind fun r90 => ((r90.1).asI .i64).bind fun n91 => (fA n86 n91 r90.2).bind fun r92 => ((r92.1).asI .i64).bind fun n93 => (fF im io ip gj n93 r92.2).bind fun r94 => aP.l61 F fE ah fA fB fF fG fH qf im io gj (IntKind.i64.wrap (ip + 1)) r94.2) else none)) else (aP.j1 F fE ah fA fB fF fG fH im io gj H47))) else (aP.j1 F fE ah fA fB fF fG fH im io gj H47))
termination_by structural n => n
noncomputable def aP.j2 (F : Nat) (fE : Nat → Nat → Int → Hp → OA) (ah : Int → Int → Sl → Int → Int → Hp → OA) (fA : Int → Int → Hp → OA) (fB : Nat → Nat → Int → Int → Int → Hp → OA) (fF : Nat → Nat → Int → Int → Int → Hp → OA) (fG : Nat → Nat → Int → Hp → OA) (fH : Nat → Nat → Int → Hp → OA) (yC : Nat) (yD : Nat) (mE : Int) (H37 : Hp) : OA := aP.l61 F fE ah fA fB fF fG fH F yC yD mE (IntKind.i64.wrap (mE + 1)) H37
noncomputable def aP.l29 (F : Nat) (fE : Nat → Nat → Int → Hp → OA) (ah : Int → Int → Sl → Int → Int → Hp → OA) (fA : Int → Int → Hp → OA) (fB : Nat → Nat → Int → Int → Int → Hp → OA) (fF : Nat → Nat → Int → Int → Int → Hp → OA) (fG : Nat → Nat → Int → Hp → OA) (fH : Nat → Nat → Int → Hp → OA)  : Nat → Nat → Nat → Int → Int → Hp → OA
 | 0, _, _, _, _, _ => none
 | eK + 1, fL, iq, gk, iu, H13 => (Hp.ldI H13 .i64 fL iq).bind fun n95 => (bif (decide (iu < n95)) then ((Hp.ldB H13 fL (iq + 15)).bind fun b96 => (bif (!b96) then ((Hp.ldI H13 .i64 fL iq).bind fun n97 => (Hp.ldI H13 .i64 fL (iq + 1)).bind fun n98 => (Hp.ldSl H13 fL (iq + 2)).bind fun s99 => (ah n97 n98 s99 iu gk H13).bind fun r100 => ((r100.1).asI .i64).bind fun n101 => (if Cons H13 r100.2 then ((Hp.ldI r100.2 .i64 fL iq).bind fun n102 => (Hp.ldI r100.2 .i64 fL (iq + 1)).bind fun n103 => (Hp.ldSl r100.2 fL (iq + 2)).bind fun s104 => (ah n102 n103 s104 gk gk r100.2).bind fun r105 => ((r105.1).asI .i64).bind fun n106 => (fA n101 n106 r105.2).bind fun r107 => ((r107.1).asI .i64).bind fun n108 => (fB fL iq iu gk n108 r107.2).bind fun r109 => aP.l29 F fE ah fA fB fF fG fH eK fL iq gk (IntKind.i64.wrap (iu + 1)) r109.2) else none)) else (aP.j2 F fE ah fA fB fF fG fH fL iq gk H13))) else (aP.j2 F fE ah fA fB fF fG fH fL iq gk H13))
termination_by structural n => n
noncomputable def aP.twX (F : Nat) (fE : Nat → Nat → Int → Hp → OA) (ah : Int → Int → Sl → Int → Int → Hp → OA) (fA : Int → Int → Hp → OA) (fB : Nat → Nat → Int → Int → Int → Hp → OA) (fF : Nat → Nat → Int → Int → Int → Hp → OA) (fG : Nat → Nat → Int → Hp → OA) (fH : Nat → Nat → Int → Hp → OA) (aa : Nat) (ac : Nat) (ae : Int) (H : Hp) : OA := (fE aa ac ae H).bind fun r4 => ((r4.1).asB).bind fun b5 => (bif (!b5) then (some ((.tup [(.bool true), (.bool true)]), r4.2)) else (aP.l29 F fE ah fA fB fF fG fH F aa ac ae (IntKind.i64.wrap (ae + 1)) r4.2))
noncomputable def aP.tw (F : Nat) (aa : Nat) (ac : Nat) (ae : Int) (H : Hp) : OA := aP.twX F (ar.tw F) (aC.tw F) (du.tw F) (dq.tw F) (dv.tw F) (bi.tw F) (aU.tw F) aa ac ae H
noncomputable def aP.code : Go.Code := (Try.f116.body).getD .skip
noncomputable def aP.lh29 (F : Nat) (fE : Nat → Nat → Int → Hp → OA) (ah : Int → Int → Sl → Int → Int → Hp → OA) (fA : Int → Int → Hp → OA) (fB : Nat → Nat → Int → Int → Int → Hp → OA) (fF : Nat → Nat → Int → Int → Int → Hp → OA) (fG : Nat → Nat → Int → Hp → OA) (fH : Nat → Nat → Int → Hp → OA) (ks : List Nat) (n : Nat) (tm : Tm) (H : Hp) : OA := match ks, tm 0, tm 1, tm 6 with
 | [], (.ptr fL iq), (.int .i64 gk), (.int .i64 iu) => aP.l29 F fE ah fA fB fF fG fH n fL iq gk iu H
 | _, _, _, _ => none
theorem aP.lh29_inv {F : Nat} {fE : Nat → Nat → Int → Hp → OA} {ah : Int → Int → Sl → Int → Int → Hp → OA} {fA : Int → Int → Hp → OA} {fB : Nat → Nat → Int → Int → Int → Hp → OA} {fF : Nat → Nat → Int → Int → Int → Hp → OA} {fG : Nat → Nat → Int → Hp → OA} {fH : Nat → Nat → Int → Hp → OA} {ks : List Nat} {n : Nat} {tm : Tm} {H : Hp} {r : AV × Hp} (h : aP.lh29 F fE ah fA fB fF fG fH ks n tm H = some r) : ∃ fL : Nat, ∃ iq : Nat, ∃ gk : Int, ∃ iu : Int, ks = [] ∧ tm 0 = (.ptr fL iq) ∧ tm 1 = (.int .i64 gk) ∧ tm 6 = (.int .i64 iu) ∧ aP.l29 F fE ah fA fB fF fG fH n fL iq gk iu H = some r := by
 unfold aP.lh29 at h
 split at h
 ·exact ⟨_, _, _, _, rfl, by assumption, by assumption, by assumption, h⟩
 ·cases h
noncomputable def aP.lh61 (F : Nat) (fE : Nat → Nat → Int → Hp → OA) (ah : Int → Int → Sl → Int → Int → Hp → OA) (fA : Int → Int → Hp → OA) (fB : Nat → Nat → Int → Int → Int → Hp → OA) (fF : Nat → Nat → Int → Int → Int → Hp → OA) (fG : Nat → Nat → Int → Hp → OA) (fH : Nat → Nat → Int → Hp → OA) (ks : List Nat) (n : Nat) (tm : Tm) (H : Hp) : OA := match ks, tm 0, tm 1, tm 7 with
 | [], (.ptr im io), (.int .i64 gj), (.int .i64 ip) => aP.l61 F fE ah fA fB fF fG fH n im io gj ip H
 | _, _, _, _ => none
theorem aP.lh61_inv {F : Nat} {fE : Nat → Nat → Int → Hp → OA} {ah : Int → Int → Sl → Int → Int → Hp → OA} {fA : Int → Int → Hp → OA} {fB : Nat → Nat → Int → Int → Int → Hp → OA} {fF : Nat → Nat → Int → Int → Int → Hp → OA} {fG : Nat → Nat → Int → Hp → OA} {fH : Nat → Nat → Int → Hp → OA} {ks : List Nat} {n : Nat} {tm : Tm} {H : Hp} {r : AV × Hp} (h : aP.lh61 F fE ah fA fB fF fG fH ks n tm H = some r) : ∃ im : Nat, ∃ io : Nat, ∃ gj : Int, ∃ ip : Int, ks = [] ∧ tm 0 = (.ptr im io) ∧ tm 1 = (.int .i64 gj) ∧ tm 7 = (.int .i64 ip) ∧ aP.l61 F fE ah fA fB fF fG fH n im io gj ip H = some r := by
 unfold aP.lh61 at h
 split at h
 ·exact ⟨_, _, _, _, rfl, by assumption, by assumption, by assumption, h⟩
 ·cases h
noncomputable def aP.lh (F : Nat) (fE : Nat → Nat → Int → Hp → OA) (ah : Int → Int → Sl → Int → Int → Hp → OA) (fA : Int → Int → Hp → OA) (fB : Nat → Nat → Int → Int → Int → Hp → OA) (fF : Nat → Nat → Int → Int → Int → Hp → OA) (fG : Nat → Nat → Int → Hp → OA) (fH : Nat → Nat → Int → Hp → OA) (p : Nat) (ks : List Nat) (n : Nat) (tm : Tm) (H : Hp) : OA := bif p.beq 61 then aP.lh61 F fE ah fA fB fF fG fH ks n tm H else (bif p.beq 29 then aP.lh29 F fE ah fA fB fF fG fH ks n tm H else (none))
def aP.pn : Nat → List Nat := fun i => (([(6, [16, 17, 18]), (10, [16, 17, 18])] : List (Nat × List Nat)).lookup i).getD []
def aP.tb : Nat → List (List Nat) := fun i => (([(6, [[], [], [], [], [3], [3, 4], [3, 4, 5], [], [], [3, 4, 5, 6, 7, 8], [], [10], [10, 11], [10, 11, 12], [], [], [3, 4, 5, 6, 7, 8, 9, 10, 11, 12, 13, 14, 15], [3, 4, 5, 6, 7, 8, 9, 10, 11, 12, 13, 14, 15, 16], [0, 1, 2, 3, 4, 5, 6, 7, 8, 9, 10, 11, 12, 13, 14, 15, 16, 17]]), (10, [[], [], [], [], [3], [3, 4], [3, 4, 5], [], [], [3, 4, 5, 6, 7, 8], [], [10], [10, 11], [10, 11, 12], [], [], [3, 4, 5, 6, 7, 8, 9, 10, 11, 12, 13, 14, 15], [3, 4, 5, 6, 7, 8, 9, 10, 11, 12, 13, 14, 15, 16], [0, 1, 2, 3, 4, 5, 6, 7, 8, 9, 10, 11, 12, 13, 14, 15, 16, 17]])] : List (Nat × List (List Nat))).lookup i).getD []
noncomputable def aP.mk (g : Nat → Nat → Int → Hp → OA) (args : List AV) (H : Hp) : OA := match args with
 | [(.ptr aa ac), (.int .i64 ae)] => g aa ac ae H
 | _ => none
noncomputable def aP.cs (F : Nat) (fE : Nat → Nat → Int → Hp → OA) (ah : Int → Int → Sl → Int → Int → Hp → OA) (fA : Int → Int → Hp → OA) (fB : Nat → Nat → Int → Int → Int → Hp → OA) (fF : Nat → Nat → Int → Int → Int → Hp → OA) (fG : Nat → Nat → Int → Hp → OA) (fH : Nat → Nat → Int → Hp → OA) : List (FuncId × (List AV → Hp → OA)) := [(139, ar.mk fE), (79, aC.mk ah), (141, du.mk fA), (140, dq.mk fB), (142, dv.mk fF), (143, bi.mk fG), (144, aU.mk fH)]
theorem aP.loops (F : Nat) (fE : Nat → Nat → Int → Hp → OA) (ah : Int → Int → Sl → Int → Int → Hp → OA) (fA : Int → Int → Hp → OA) (fB : Nat → Nat → Int → Int → Int → Hp → OA) (fF : Nat → Nat → Int → Int → Int → Hp → OA) (fG : Nat → Nat → Int → Hp → OA) (fH : Nat → Nat → Int → Hp → OA) : LoopsOk tabs (mkOrc (aP.cs F fE ah fA fB fF fG fH)) aP.pn (aP.lh F fE ah fA fB fF fG fH) F [] 1 aP.code (fun tm H => aresults tabs.ty H tm Try.f116.results.toList fun v => some (v, H)) (fun _ _ _ => none) (fun tm H => aresults tabs.ty H tm Try.f116.results.toList fun v => some (v, H)) := by
 refine LoopsOk.seq ?_ ?_
 ·exact loops_none (by kernel_rfl)
 ·refine LoopsOk.seq ?_ ?_
  ·exact loops_none (by kernel_rfl)
  ·refine LoopsOk.seq ?_ ?_
   ·refine LoopsOk.seq ?_ ?_
    ·exact loops_none (by kernel_rfl)
    ·refine LoopsOk.block ?_
     refine LoopsOk.loop (fun tm H => ?_) (fun k29 tm H r h0 => ?_) (fun k29 => ?_)
     ·refine none_of fun r h0 => ?_
      obtain ⟨fL, iq, gk, iu, hks, e0, e1, e6, h⟩ := aP.lh29_inv (show aP.lh29 F fE ah fA fB fF fG fH [] 0 tm H = some r from h0)
      cases h
     ·obtain ⟨fL, iq, gk, iu, hks, e0, e1, e6, h⟩ := aP.lh29_inv (show aP.lh29 F fE ah fA fB fF fG fH [] (k29 + 1) tm H = some r from h0)
      have q0 : (Tm.put tm 0 (.ptr fL iq)) = tm := by exact Tm.put_same e0
      have q1 : (Tm.put (Tm.put tm 0 (.ptr fL iq)) 1 (.int .i64 gk)) = tm := by rw [q0]; exact Tm.put_same e1
      have q2 : (Tm.put (Tm.put (Tm.put tm 0 (.ptr fL iq)) 1 (.int .i64 gk)) 6 (.int .i64 iu)) = tm := by rw [q1]; exact Tm.put_same e6
      rw [← q2]
      exact Eq.trans (by kernel_rfl) h
     ·exact loops_none (by kernel_rfl)
   ·refine LoopsOk.seq ?_ ?_
    ·refine LoopsOk.seq ?_ ?_
     ·exact loops_none (by kernel_rfl)
     ·refine LoopsOk.block ?_
      refine LoopsOk.loop (fun tm H => ?_) (fun k61 tm H r h0 => ?_) (fun k61 => ?_)
      ·refine none_of fun r h0 => ?_
       obtain ⟨im, io, gj, ip, hks, e0, e1, e7, h⟩ := aP.lh61_inv (show aP.lh61 F fE ah fA fB fF fG fH [] 0 tm H = some r from h0)
       cases h
      ·obtain ⟨im, io, gj, ip, hks, e0, e1, e7, h⟩ := aP.lh61_inv (show aP.lh61 F fE ah fA fB fF fG fH [] (k61 + 1) tm H = some r from h0)
       have q0 : (Tm.put tm 0 (.ptr im io)) = tm := by exact Tm.put_same e0
       have q1 : (Tm.put (Tm.put tm 0 (.ptr im io)) 1 (.int .i64 gj)) = tm := by rw [q0]; exact Tm.put_same e1
       have q2 : (Tm.put (Tm.put (Tm.put tm 0 (.ptr im io)) 1 (.int .i64 gj)) 7 (.int .i64 ip)) = tm := by rw [q1]; exact Tm.put_same e7
       rw [← q2]
       exact Eq.trans (by kernel_rfl) h
      ·exact loops_none (by kernel_rfl)
    ·exact loops_none (by kernel_rfl)
theorem aP.eqX (F : Nat) (fE : Nat → Nat → Int → Hp → OA) (ah : Int → Int → Sl → Int → Int → Hp → OA) (fA : Int → Int → Hp → OA) (fB : Nat → Nat → Int → Int → Int → Hp → OA) (fF : Nat → Nat → Int → Int → Int → Hp → OA) (fG : Nat → Nat → Int → Hp → OA) (fH : Nat → Nat → Int → Hp → OA) (aa : Nat) (ac : Nat) (ae : Int) (H : Hp) : aCode tabs (mkOrc (aP.cs F fE ah fA fB fF fG fH)) aP.pn (aP.lh F fE ah fA fB fF fG fH) F [] 1 aP.code (argTm [(.ptr aa ac), (.int .i64 ae)]) H (fun tm H => aresults tabs.ty H tm Try.f116.results.toList fun v => some (v, H)) (fun _ _ _ => none) (fun tm H => aresults tabs.ty H tm Try.f116.results.toList fun v => some (v, H)) = aP.twX F fE ah fA fB fF fG fH aa ac ae H := by kernel_rfl
theorem aP.cs_ok (F : Nat) : ∀ p ∈ aP.cs F (ar.tw F) (aC.tw F) (du.tw F) (dq.tw F) (dv.tw F) (bi.tw F) (aU.tw F), ∀ args H v H', p.2 args H = some (v, H') → Go.AE.T Try.prog p.1 args H v H' := by
 intro p hp
 simp only [aP.cs, List.mem_cons, List.not_mem_nil, or_false] at hp
 rcases hp with rfl | rfl | rfl | rfl | rfl | rfl | rfl
 ·exact fun args H v H' h => ar.mk_T h
 ·exact fun args H v H' h => aC.mk_T h
 ·exact fun args H v H' h => du.mk_T h
 ·exact fun args H v H' h => dq.mk_T h
 ·exact fun args H v H' h => dv.mk_T h
 ·exact fun args H v H' h => bi.mk_T h
 ·exact fun args H v H' h => aU.mk_T h
theorem aP.ok : codeOk aP.pn Try.f116.ntmps aP.tb aP.code = true := by kernel_rfl
theorem aP.T {F : Nat} {aa : Nat} {ac : Nat} {ae : Int} {H : Hp} {v : AV} {H' : Hp} (h : aP.tw F aa ac ae H = some (v, H')) : Go.AE.T Try.prog 116 [(.ptr aa ac), (.int .i64 ae)] H v H' :=
 Go.AE.T.of (Y := tabs) (C := mkOrc (aP.cs F (ar.tw F) (aC.tw F) (du.tw F) (dq.tw F) (dv.tw F) (bi.tw F) (aU.tw F))) (PN := aP.pn) (LH := aP.lh F (ar.tw F) (aC.tw F) (du.tw F) (dq.tw F) (dv.tw F) (bi.tw F) (aU.tw F)) (F := F) (TB := aP.tb) (fn := Try.f116) (code := aP.code) mixed tabs_ok (mkOrc_ok (aP.cs_ok F)) Try.func116 (by kernel_rfl) (by kernel_rfl) aP.ok (Nat.le_of_ble_eq_true (by kernel_rfl)) (aP.loops F (ar.tw F) (aC.tw F) (du.tw F) (dq.tw F) (dv.tw F) (bi.tw F) (aU.tw F)) (Eq.trans (aP.eqX F (ar.tw F) (aC.tw F) (du.tw F) (dq.tw F) (dv.tw F) (bi.tw F) (aU.tw F) aa ac ae H) h)
theorem aP.mk_T {F : Nat} {args : List AV} {H : Hp} {v : AV} {H' : Hp} (h : aP.mk (aP.tw F) args H = some (v, H')) : Go.AE.T Try.prog 116 args H v H' := by
 unfold aP.mk at h
 split at h
 ·exact aP.T h
 ·cases h
noncomputable def aQ.j3 (F : Nat) (fd : Int → Hp → OA) (fC : Nat → Nat → Int → Hp → OA) (C29_ : Nat → Nat → Nat → Nat → Int → Hp → OA) (qg : Nat) (yE : Nat) (qh : Nat) (yF : Nat) (nV : Int) (H161 : Hp) : OA := C29_ qg yE qh yF (IntKind.i64.wrap (nV + 1)) H161
noncomputable def aQ.j4 (F : Nat) (fd : Int → Hp → OA) (fC : Nat → Nat → Int → Hp → OA) (C29_ : Nat → Nat → Nat → Nat → Int → Hp → OA) (qi : Nat) (yG : Nat) (na : Nat) (qj : Nat) (mF : Int) (nW : Bool) (H146 : Hp) : OA := (bif nW then (some ((.ptr na qj), H146)) else ((Hp.ldB H146 na (qj + 15)).bind fun b147 => (bif b147 then (some ((.ptr na qj), H146)) else (aQ.j3 F fd fC C29_ qi yG na qj mF H146))))
noncomputable def aQ.l938 (F : Nat) (fd : Int → Hp → OA) (fC : Nat → Nat → Int → Hp → OA) (C29_ : Nat → Nat → Nat → Nat → Int → Hp → OA) : Nat → Nat → Nat → Nat → Nat → Int → Bool → Bool → Hp → OA
 | 0, _, _, _, _, _, _, _, _ => none
 | yH + 1, iJ, jX, iK, jY, gT, jP, jH, H126 => (bif (!jP) then ((Hp.ldB H126 iK (jY + 15)).bind fun b162 => (bif (!b162) then ((fC iK jY gT H126).bind fun r163 => ((r163.1).asTup 2).bind fun l164 => (l164[0]?).bind fun v165 => ((v165).asB).bind fun b166 => (l164[1]?).bind fun v167 => ((v167).asB).bind fun b168 => aQ.l938 F fd fC C29_ yH iJ jX iK jY gT b166 b168 r163.2) else (aQ.j4 F fd fC C29_ iJ jX iK jY gT jH H126))) else (aQ.j4 F fd fC C29_ iJ jX iK jY gT jH H126))
termination_by structural n => n
noncomputable def aQ.l29 (F : Nat) (fd : Int → Hp → OA) (fC : Nat → Nat → Int → Hp → OA)  : Nat → Nat → Nat → Nat → Nat → Int → Hp → OA
 | 0, _, _, _, _, _, _ => none
 | eK + 1, jp, kn, jZ, kL, jI, H56 => (Hp.ldI H56 .i64 jp kn).bind fun n113 => (Hp.ldI H56 .i64 jp (kn + 1)).bind fun n114 => (bif (decide (jI < (if n114 < n113 then n114 else n113))) then (aQ.l938 F fd fC (aQ.l29 F fd fC eK) F jp kn jZ kL jI false false H56) else (some ((.ptr jZ kL), H56)))
termination_by structural n => n
noncomputable def aQ.twX (F : Nat) (fd : Int → Hp → OA) (fC : Nat → Nat → Int → Hp → OA) (aa : Int) (ac : Int) (ai : Sl) (H : Hp) : OA := (Hp.new H [(.int .i64 aa), (.int .i64 ac), (.sl ai)]).bind fun H4 => (Hp.ldI H4 .i64 H.length 0).bind fun n5 => (Hp.ldI H4 .i64 H.length 1).bind fun n6 => (Hp.new H4 []).bind fun H7 => (Hp.ldSl H7 H.length 2).bind fun s8 => (Sl.row H7 s8 1).bind fun xs10 => (Hp.app H7 1 8 (⟨some (H4.length, 0), 0, .ex 0⟩ : Sl) s8.n xs10).bind fun a9 => (if Cons H7 a9.2 then ((Hp.ldI a9.2 .i64 H.length 0).bind fun n11 => (fd n11 a9.2).bind fun r12 => ((r12.1).asAgg 3).bind fun l13 => (l13[0]?).bind fun v14 => ((v14).asI .i64).bind fun n15 => (l13[1]?).bind fun v16 => ((v16).asI .i64).bind fun n17 => (l13[2]?).bind fun v18 => ((v18).asSl).bind fun s19 => (if Cons a9.2 r12.2 then ((Hp.ldI r12.2 .i64 H.length 0).bind fun n20 => (fd n20 r12.2).bind fun r21 => ((r21.1).asAgg 3).bind fun l22 => (l22[0]?).bind fun v23 => ((v23).asI .i64).bind fun n24 => (l22[1]?).bind fun v25 => ((v25).asI .i64).bind fun n26 => (l22[2]?).bind fun v27 => ((v27).asSl).bind fun s28 => (if Cons r12.2 r21.2 then ((Hp.ldI r21.2 .i64 H.length 1).bind fun n29 => (fd n29 r21.2).bind fun r30 => ((r30.1).asAgg 3).bind fun l31 => (l31[0]?).bind fun v32 => ((v32).asI .i64).bind fun n33 => (l31[1]?).bind fun v34 => ((v34).asI .i64).bind fun n35 => (l31[2]?).bind fun v36 => ((v36).asSl).bind fun s37 => (if Cons r21.2 r30.2 then ((Hp.ldI r30.2 .i64 H.length 1).bind fun n38 => (fd n38 r30.2).bind fun r39 => ((r39.1).asAgg 3).bind fun l40 => (l40[0]?).bind fun v41 => ((v41).asI .i64).bind fun n42 => (l40[1]?).bind fun v43 => ((v43).asI .i64).bind fun n44 => (l40[2]?).bind fun v45 => ((v45).asSl).bind fun s46 => (if Cons r30.2 r39.2 then ((Hp.new r39.2 [(.int .i64 n5), (.int .i64 n6), (.sl a9.1), (.int .i64 n15), (.int .i64 n17), (.sl s19), (.int .i64 n24), (.int .i64 n26), (.sl s28), (.int .i64 n33), (.int .i64 n35), (.sl s37), (.int .i64 n42), (.int .i64 n44), (.sl s46), (.bool false)]).bind fun H47 => aQ.l29 F fd fC F H.length 0 r39.2.length 0 0 H47) else none)) else none)) else none)) else none)) else none)
noncomputable def aQ.tw (F : Nat) (aa : Int) (ac : Int) (ai : Sl) (H : Hp) : OA := aQ.twX F (bL.tw F) (aP.tw F) aa ac ai H
noncomputable def aQ.code : Go.Code := (Try.f75.body).getD .skip
noncomputable def aQ.lh29 (F : Nat) (fd : Int → Hp → OA) (fC : Nat → Nat → Int → Hp → OA) (ks : List Nat) (n : Nat) (tm : Tm) (H : Hp) : OA := match ks, tm 1, tm 2, tm 3, tm 4 with
 | [], (.ptr jp kn), .nilp, (.ptr jZ kL), (.int .i64 jI) => aQ.l29 F fd fC n jp kn jZ kL jI H
 | _, _, _, _, _ => none
theorem aQ.lh29_inv {F : Nat} {fd : Int → Hp → OA} {fC : Nat → Nat → Int → Hp → OA} {ks : List Nat} {n : Nat} {tm : Tm} {H : Hp} {r : AV × Hp} (h : aQ.lh29 F fd fC ks n tm H = some r) : ∃ jp : Nat, ∃ kn : Nat, ∃ jZ : Nat, ∃ kL : Nat, ∃ jI : Int, ks = [] ∧ tm 1 = (.ptr jp kn) ∧ tm 2 = .nilp ∧ tm 3 = (.ptr jZ kL) ∧ tm 4 = (.int .i64 jI) ∧ aQ.l29 F fd fC n jp kn jZ kL jI H = some r := by
 unfold aQ.lh29 at h
 split at h
 ·exact ⟨_, _, _, _, _, rfl, by assumption, by assumption, by assumption, by assumption, h⟩
 ·cases h
noncomputable def aQ.lh938 (F : Nat) (fd : Int → Hp → OA) (fC : Nat → Nat → Int → Hp → OA) (ks : List Nat) (n : Nat) (tm : Tm) (H : Hp) : OA := match ks, tm 1, tm 2, tm 3, tm 4, tm 5, tm 6 with
 | [eK], (.ptr iJ jX), .nilp, (.ptr iK jY), (.int .i64 gT), (.bool jP), (.bool jH) => aQ.l938 F fd fC (aQ.l29 F fd fC eK) n iJ jX iK jY gT jP jH H
 | _, _, _, _, _, _, _ => none
theorem aQ.lh938_inv {F : Nat} {fd : Int → Hp → OA} {fC : Nat → Nat → Int → Hp → OA} {ks : List Nat} {n : Nat} {tm : Tm} {H : Hp} {r : AV × Hp} (h : aQ.lh938 F fd fC ks n tm H = some r) : ∃ eK : Nat, ∃ iJ : Nat, ∃ jX : Nat, ∃ iK : Nat, ∃ jY : Nat, ∃ gT : Int, ∃ jP : Bool, ∃ jH : Bool, ks = [eK] ∧ tm 1 = (.ptr iJ jX) ∧ tm 2 = .nilp ∧ tm 3 = (.ptr iK jY) ∧ tm 4 = (.int .i64 gT) ∧ tm 5 = (.bool jP) ∧ tm 6 = (.bool jH) ∧ aQ.l938 F fd fC (aQ.l29 F fd fC eK) n iJ jX iK jY gT jP jH H = some r := by
 unfold aQ.lh938 at h
 split at h
 ·exact ⟨_, _, _, _, _, _, _, _, rfl, by assumption, by assumption, by assumption, by assumption, by assumption, by assumption, h⟩
 ·cases h
noncomputable def aQ.lh (F : Nat) (fd : Int → Hp → OA) (fC : Nat → Nat → Int → Hp → OA) (p : Nat) (ks : List Nat) (n : Nat) (tm : Tm) (H : Hp) : OA := bif p.beq 938 then aQ.lh938 F fd fC ks n tm H else (bif p.beq 29 then aQ.lh29 F fd fC ks n tm H else (none))
def aQ.pn : Nat → List Nat := fun i => (([(1, [])] : List (Nat × List Nat)).lookup i).getD []
def aQ.tb : Nat → List (List Nat) := fun i => (([(1, [[], [0], [], [2], [], [], [5], [4, 5, 6], [0, 1, 2, 3, 4, 5, 6, 7], [], [9], [4, 5, 6, 7, 9, 10], [], [12], [4, 5, 6, 7, 9, 10, 11, 12, 13], [], [15], [4, 5, 6, 7, 9, 10, 11, 12, 13, 14, 15, 16], [], [18], [4, 5, 6, 7, 9, 10, 11, 12, 13, 14, 15, 16, 17, 18, 19], [0, 1, 2, 3, 4, 5, 6, 7, 8, 9, 10, 11, 12, 13, 14, 15, 16, 17, 18, 19, 20], [0, 1, 2, 3, 4, 5, 6, 7, 8, 9, 10, 11, 12, 13, 14, 15, 16, 17, 18, 19, 20, 21], [0, 1, 2, 3, 4, 5, 6, 7, 8, 9, 10, 11, 12, 13, 14, 15, 16, 17, 18, 19, 20, 21, 22]])] : List (Nat × List (List Nat))).lookup i).getD []
noncomputable def aQ.mk (g : Int → Int → Sl → Hp → OA) (args : List AV) (H : Hp) : OA := match args with
 | [(.agg [(.int .i64 aa), (.int .i64 ac), (.sl ai)])] => g aa ac ai H
 | _ => none
noncomputable def aQ.cs (F : Nat) (fd : Int → Hp → OA) (fC : Nat → Nat → Int → Hp → OA) : List (FuncId × (List AV → Hp → OA)) := [(115, bL.mk fd), (116, aP.mk fC)]
theorem aQ.loops (F : Nat) (fd : Int → Hp → OA) (fC : Nat → Nat → Int → Hp → OA) : LoopsOk tabs (mkOrc (aQ.cs F fd fC)) aQ.pn (aQ.lh F fd fC) F [] 1 aQ.code (fun tm H => aresults tabs.ty H tm Try.f75.results.toList fun v => some (v, H)) (fun _ _ _ => none) (fun tm H => aresults tabs.ty H tm Try.f75.results.toList fun v => some (v, H)) := by
 refine LoopsOk.seq ?_ ?_
 ·exact loops_none (by kernel_rfl)
 ·refine LoopsOk.seq ?_ ?_
  ·exact loops_none (by kernel_rfl)
  ·refine LoopsOk.seq ?_ ?_
   ·refine LoopsOk.seq ?_ ?_
    ·exact loops_none (by kernel_rfl)
    ·refine LoopsOk.block ?_
     refine LoopsOk.loop (fun tm H => ?_) (fun k29 tm H r h0 => ?_) (fun k29 => ?_)
     ·refine none_of fun r h0 => ?_
      obtain ⟨jp, kn, jZ, kL, jI, hks, e1, e2, e3, e4, h⟩ := aQ.lh29_inv (show aQ.lh29 F fd fC [] 0 tm H = some r from h0)
      cases h
     ·obtain ⟨jp, kn, jZ, kL, jI, hks, e1, e2, e3, e4, h⟩ := aQ.lh29_inv (show aQ.lh29 F fd fC [] (k29 + 1) tm H = some r from h0)
      have q0 : (Tm.put tm 1 (.ptr jp kn)) = tm := by exact Tm.put_same e1
      have q1 : (Tm.put (Tm.put tm 1 (.ptr jp kn)) 2 .nilp) = tm := by rw [q0]; exact Tm.put_same e2
      have q2 : (Tm.put (Tm.put (Tm.put tm 1 (.ptr jp kn)) 2 .nilp) 3 (.ptr jZ kL)) = tm := by rw [q1]; exact Tm.put_same e3
      have q3 : (Tm.put (Tm.put (Tm.put (Tm.put tm 1 (.ptr jp kn)) 2 .nilp) 3 (.ptr jZ kL)) 4 (.int .i64 jI)) = tm := by rw [q2]; exact Tm.put_same e4
      rw [← q3]
      exact Eq.trans (by kernel_rfl) h
     ·refine LoopsOk.seq ?_ ?_
      ·exact loops_none (by kernel_rfl)
      ·refine LoopsOk.seq ?_ ?_
       ·refine LoopsOk.block ?_
        refine LoopsOk.seq ?_ ?_
        ·exact loops_none (by kernel_rfl)
        ·refine LoopsOk.seq ?_ ?_
         ·refine LoopsOk.block ?_
          refine LoopsOk.loop (fun tm H => ?_) (fun k938 tm H r h0 => ?_) (fun k938 => ?_)
          ·refine none_of fun r h0 => ?_
           obtain ⟨eK, iJ, jX, iK, jY, gT, jP, jH, hks, e1, e2, e3, e4, e5, e6, h⟩ := aQ.lh938_inv (show aQ.lh938 F fd fC [k29] 0 tm H = some r from h0)
           cases h
          ·obtain ⟨eK, iJ, jX, iK, jY, gT, jP, jH, hks, e1, e2, e3, e4, e5, e6, h⟩ := aQ.lh938_inv (show aQ.lh938 F fd fC [k29] (k938 + 1) tm H = some r from h0)
           obtain rfl : eK = k29 := by simpa [eq_comm] using hks
           have q0 : (Tm.put tm 1 (.ptr iJ jX)) = tm := by exact Tm.put_same e1
           have q1 : (Tm.put (Tm.put tm 1 (.ptr iJ jX)) 2 .nilp) = tm := by rw [q0]; exact Tm.put_same e2
           have q2 : (Tm.put (Tm.put (Tm.put tm 1 (.ptr iJ jX)) 2 .nilp) 3 (.ptr iK jY)) = tm := by rw [q1]; exact Tm.put_same e3
           have q3 : (Tm.put (Tm.put (Tm.put (Tm.put tm 1 (.ptr iJ jX)) 2 .nilp) 3 (.ptr iK jY)) 4 (.int .i64 gT)) = tm := by rw [q2]; exact Tm.put_same e4
           have q4 : (Tm.put (Tm.put (Tm.put (Tm.put (Tm.put tm 1 (.ptr iJ jX)) 2 .nilp) 3 (.ptr iK jY)) 4 (.int .i64 gT)) 5 (.bool jP)) = tm := by rw [q3]; exact Tm.put_same e5
           have q5 : (Tm.put (Tm.put (Tm.put (Tm.put (Tm.put (Tm.put tm 1 (.ptr iJ jX)) 2 .nilp) 3 (.ptr iK jY)) 4 (.int .i64 gT)) 5 (.bool jP)) 6 (.bool jH)) = tm := by rw [q4]; exact Tm.put_same e6
           rw [← q5]
           exact Eq.trans (by kernel_rfl) h
          ·exact loops_none (by kernel_rfl)
         ·exact loops_none (by kernel_rfl)
       ·exact loops_none (by kernel_rfl)
   ·exact loops_none (by kernel_rfl)
theorem aQ.eqX (F : Nat) (fd : Int → Hp → OA) (fC : Nat → Nat → Int → Hp → OA) (aa : Int) (ac : Int) (ai : Sl) (H : Hp) : aCode tabs (mkOrc (aQ.cs F fd fC)) aQ.pn (aQ.lh F fd fC) F [] 1 aQ.code (argTm [(.agg [(.int .i64 aa), (.int .i64 ac), (.sl ai)])]) H (fun tm H => aresults tabs.ty H tm Try.f75.results.toList fun v => some (v, H)) (fun _ _ _ => none) (fun tm H => aresults tabs.ty H tm Try.f75.results.toList fun v => some (v, H)) = aQ.twX F fd fC aa ac ai H := by kernel_rfl
theorem aQ.cs_ok (F : Nat) : ∀ p ∈ aQ.cs F (bL.tw F) (aP.tw F), ∀ args H v H', p.2 args H = some (v, H') → Go.AE.T Try.prog p.1 args H v H' := by
 intro p hp
 simp only [aQ.cs, List.mem_cons, List.not_mem_nil, or_false] at hp
 rcases hp with rfl | rfl
 ·exact fun args H v H' h => bL.mk_T h
 ·exact fun args H v H' h => aP.mk_T h
theorem aQ.ok : codeOk aQ.pn Try.f75.ntmps aQ.tb aQ.code = true := by kernel_rfl
theorem aQ.T {F : Nat} {aa : Int} {ac : Int} {ai : Sl} {H : Hp} {v : AV} {H' : Hp} (h : aQ.tw F aa ac ai H = some (v, H')) : Go.AE.T Try.prog 75 [(.agg [(.int .i64 aa), (.int .i64 ac), (.sl ai)])] H v H' :=
 Go.AE.T.of (Y := tabs) (C := mkOrc (aQ.cs F (bL.tw F) (aP.tw F))) (PN := aQ.pn) (LH := aQ.lh F (bL.tw F) (aP.tw F)) (F := F) (TB := aQ.tb) (fn := Try.f75) (code := aQ.code) mixed tabs_ok (mkOrc_ok (aQ.cs_ok F)) Try.func75 (by kernel_rfl) (by kernel_rfl) aQ.ok (Nat.le_of_ble_eq_true (by kernel_rfl)) (aQ.loops F (bL.tw F) (aP.tw F)) (Eq.trans (aQ.eqX F (bL.tw F) (aP.tw F) aa ac ai H) h)
theorem aQ.mk_T {F : Nat} {args : List AV} {H : Hp} {v : AV} {H' : Hp} (h : aQ.mk (aQ.tw F) args H = some (v, H')) : Go.AE.T Try.prog 75 args H v H' := by
 unfold aQ.mk at h
 split at h
 ·exact aQ.T h
 ·cases h
noncomputable def bm.j2 (F : Nat) (gl : Int → Int → Sl → Hp → OA) (ah : Int → Int → Sl → Int → Int → Hp → OA) (qk : Nat) (yI : Nat) (yJ : Sl) (H61 : Hp) : OA := (Hp.ldB H61 qk (yI + 15)).bind fun b62 => some ((.tup [(.sl yJ), (.bool (!b62))]), H61)
noncomputable def bm.j3 (F : Nat) (gl : Int → Int → Sl → Hp → OA) (ah : Int → Int → Sl → Int → Int → Hp → OA) (C61_ : Nat → Nat → Nat → Nat → Sl → Int → Hp → OA) (ql : Nat) (yK : Nat) (qm : Nat) (yL : Nat) (mD : Sl) (nX : Int) (H88 : Hp) : OA := C61_ ql yK qm yL mD (IntKind.i64.wrap (nX + 1)) H88
noncomputable def bm.l61 (F : Nat) (gl : Int → Int → Sl → Hp → OA) (ah : Int → Int → Sl → Int → Int → Hp → OA)  : Nat → Nat → Nat → Nat → Nat → Sl → Int → Hp → OA
 | 0, _, _, _, _, _, _, _ => none
 | qf + 1, ja, kh, dl, jJ, gm, eM, H22 => (Hp.ldI H22 .i64 ja kh).bind fun n63 => (Hp.ldI H22 .i64 ja (kh + 1)).bind fun n64 => (bif (decide (eM < (if n64 < n63 then n64 else n63))) then ((Hp.ldB H22 dl (jJ + 15)).bind fun b65 => (bif (!b65) then ((Hp.ldI H22 .i64 dl jJ).bind fun n66 => (Hp.ldI H22 .i64 dl (jJ + 1)).bind fun n67 => (Hp.ldSl H22 dl (jJ + 2)).bind fun s68 => (ah n66 n67 s68 eM eM H22).bind fun r69 => ((r69.1).asI .i64).bind fun n70 => (bif (n70 != 0) then ((Hp.new r69.2 [(.int .i64 n70)]).bind fun H71 => (Sl.row H71 (⟨some (r69.2.length, 0), 1, .ex 1⟩ : Sl) 1).bind fun xs73 => (Hp.app H71 1 8 gm (⟨some (r69.2.length, 0), 1, .ex 1⟩ : Sl).n xs73).bind fun a72 => bm.j3 F gl ah (bm.l61 F gl ah qf) ja kh dl jJ a72.1 eM a72.2) else (bm.j3 F gl ah (bm.l61 F gl ah qf) ja kh dl jJ gm eM r69.2))) else (bm.j2 F gl ah dl jJ gm H22))) else (bm.j2 F gl ah dl jJ gm H22))
termination_by structural n => n
noncomputable def bm.twX (F : Nat) (gl : Int → Int → Sl → Hp → OA) (ah : Int → Int → Sl → Int → Int → Hp → OA) (aa : Int) (ac : Int) (ai : Sl) (H : Hp) : OA := (Hp.new H [(.int .i64 aa), (.int .i64 ac), (.sl ai)]).bind fun H4 => (Hp.ldI H4 .i64 H.length 0).bind fun n5 => (Hp.ldI H4 .i64 H.length (0 + 1)).bind fun n6 => (Hp.ldSl H4 H.length (0 + 2)).bind fun s7 => (gl n5 n6 s7 H4).bind fun r8 => ((r8.1).asP).bind fun p9 => (Hp.new r8.2 []).bind fun H10 => bm.l61 F gl ah F H.length 0 p9.1 p9.2 (⟨some (r8.2.length, 0), 0, .ex 0⟩ : Sl) 0 H10
noncomputable def bm.tw (F : Nat) (aa : Int) (ac : Int) (ai : Sl) (H : Hp) : OA := bm.twX F (aQ.tw F) (aC.tw F) aa ac ai H
noncomputable def bm.code : Go.Code := (Try.f74.body).getD .skip
noncomputable def bm.lh61 (F : Nat) (gl : Int → Int → Sl → Hp → OA) (ah : Int → Int → Sl → Int → Int → Hp → OA) (ks : List Nat) (n : Nat) (tm : Tm) (H : Hp) : OA := match ks, tm 1, tm 4, tm 5, tm 6 with
 | [], (.ptr ja kh), (.ptr dl jJ), (.sl gm), (.int .i64 eM) => bm.l61 F gl ah n ja kh dl jJ gm eM H
 | _, _, _, _, _ => none
theorem bm.lh61_inv {F : Nat} {gl : Int → Int → Sl → Hp → OA} {ah : Int → Int → Sl → Int → Int → Hp → OA} {ks : List Nat} {n : Nat} {tm : Tm} {H : Hp} {r : AV × Hp} (h : bm.lh61 F gl ah ks n tm H = some r) : ∃ ja : Nat, ∃ kh : Nat, ∃ dl : Nat, ∃ jJ : Nat, ∃ gm : Sl, ∃ eM : Int, ks = [] ∧ tm 1 = (.ptr ja kh) ∧ tm 4 = (.ptr dl jJ) ∧ tm 5 = (.sl gm) ∧ tm 6 = (.int .i64 eM) ∧ bm.l61 F gl ah n ja kh dl jJ gm eM H = some r := by
 unfold bm.lh61 at h
 split at h
 ·exact ⟨_, _, _, _, _, _, rfl, by assumption, by assumption, by assumption, by assumption, h⟩
 ·cases h
noncomputable def bm.lh (F : Nat) (gl : Int → Int → Sl → Hp → OA) (ah : Int → Int → Sl → Int → Int → Hp → OA) (p : Nat) (ks : List Nat) (n : Nat) (tm : Tm) (H : Hp) : OA := bif p.beq 61 then bm.lh61 F gl ah ks n tm H else (none)
def bm.pn : Nat → List Nat := fun i => (([(9, [])] : List (Nat × List Nat)).lookup i).getD []
def bm.tb : Nat → List (List Nat) := fun i => (([(9, [[], [], [1], [1, 2], [1, 2, 3], [1, 2, 3, 4], [0], [0, 1, 2, 3, 4, 5, 6]])] : List (Nat × List (List Nat))).lookup i).getD []
noncomputable def bm.mk (g : Int → Int → Sl → Hp → OA) (args : List AV) (H : Hp) : OA := match args with
 | [(.agg [(.int .i64 aa), (.int .i64 ac), (.sl ai)])] => g aa ac ai H
 | _ => none
noncomputable def bm.cs (F : Nat) (gl : Int → Int → Sl → Hp → OA) (ah : Int → Int → Sl → Int → Int → Hp → OA) : List (FuncId × (List AV → Hp → OA)) := [(75, aQ.mk gl), (79, aC.mk ah)]
theorem bm.loops (F : Nat) (gl : Int → Int → Sl → Hp → OA) (ah : Int → Int → Sl → Int → Int → Hp → OA) : LoopsOk tabs (mkOrc (bm.cs F gl ah)) bm.pn (bm.lh F gl ah) F [] 1 bm.code (fun tm H => aresults tabs.ty H tm Try.f74.results.toList fun v => some (v, H)) (fun _ _ _ => none) (fun tm H => aresults tabs.ty H tm Try.f74.results.toList fun v => some (v, H)) := by
 refine LoopsOk.seq ?_ ?_
 ·exact loops_none (by kernel_rfl)
 ·refine LoopsOk.seq ?_ ?_
  ·exact loops_none (by kernel_rfl)
  ·refine LoopsOk.seq ?_ ?_
   ·exact loops_none (by kernel_rfl)
   ·refine LoopsOk.seq ?_ ?_
    ·refine LoopsOk.seq ?_ ?_
     ·exact loops_none (by kernel_rfl)
     ·refine LoopsOk.block ?_
      refine LoopsOk.loop (fun tm H => ?_) (fun k61 tm H r h0 => ?_) (fun k61 => ?_)
      ·refine none_of fun r h0 => ?_
       obtain ⟨ja, kh, dl, jJ, gm, eM, hks, e1, e4, e5, e6, h⟩ := bm.lh61_inv (show bm.lh61 F gl ah [] 0 tm H = some r from h0)
       cases h
      ·obtain ⟨ja, kh, dl, jJ, gm, eM, hks, e1, e4, e5, e6, h⟩ := bm.lh61_inv (show bm.lh61 F gl ah [] (k61 + 1) tm H = some r from h0)
       have q0 : (Tm.put tm 1 (.ptr ja kh)) = tm := by exact Tm.put_same e1
       have q1 : (Tm.put (Tm.put tm 1 (.ptr ja kh)) 4 (.ptr dl jJ)) = tm := by rw [q0]; exact Tm.put_same e4
       have q2 : (Tm.put (Tm.put (Tm.put tm 1 (.ptr ja kh)) 4 (.ptr dl jJ)) 5 (.sl gm)) = tm := by rw [q1]; exact Tm.put_same e5
       have q3 : (Tm.put (Tm.put (Tm.put (Tm.put tm 1 (.ptr ja kh)) 4 (.ptr dl jJ)) 5 (.sl gm)) 6 (.int .i64 eM)) = tm := by rw [q2]; exact Tm.put_same e6
       rw [← q3]
       exact Eq.trans (by kernel_rfl) h
      ·exact loops_none (by kernel_rfl)
    ·exact loops_none (by kernel_rfl)
theorem bm.eqX (F : Nat) (gl : Int → Int → Sl → Hp → OA) (ah : Int → Int → Sl → Int → Int → Hp → OA) (aa : Int) (ac : Int) (ai : Sl) (H : Hp) : aCode tabs (mkOrc (bm.cs F gl ah)) bm.pn (bm.lh F gl ah) F [] 1 bm.code (argTm [(.agg [(.int .i64 aa), (.int .i64 ac), (.sl ai)])]) H (fun tm H => aresults tabs.ty H tm Try.f74.results.toList fun v => some (v, H)) (fun _ _ _ => none) (fun tm H => aresults tabs.ty H tm Try.f74.results.toList fun v => some (v, H)) = bm.twX F gl ah aa ac ai H := by kernel_rfl
theorem bm.cs_ok (F : Nat) : ∀ p ∈ bm.cs F (aQ.tw F) (aC.tw F), ∀ args H v H', p.2 args H = some (v, H') → Go.AE.T Try.prog p.1 args H v H' := by
 intro p hp
 simp only [bm.cs, List.mem_cons, List.not_mem_nil, or_false] at hp
 rcases hp with rfl | rfl
 ·exact fun args H v H' h => aQ.mk_T h
 ·exact fun args H v H' h => aC.mk_T h
theorem bm.ok : codeOk bm.pn Try.f74.ntmps bm.tb bm.code = true := by kernel_rfl
theorem bm.T {F : Nat} {aa : Int} {ac : Int} {ai : Sl} {H : Hp} {v : AV} {H' : Hp} (h : bm.tw F aa ac ai H = some (v, H')) : Go.AE.T Try.prog 74 [(.agg [(.int .i64 aa), (.int .i64 ac), (.sl ai)])] H v H' :=
 Go.AE.T.of (Y := tabs) (C := mkOrc (bm.cs F (aQ.tw F) (aC.tw F))) (PN := bm.pn) (LH := bm.lh F (aQ.tw F) (aC.tw F)) (F := F) (TB := bm.tb) (fn := Try.f74) (code := bm.code) mixed tabs_ok (mkOrc_ok (bm.cs_ok F)) Try.func74 (by kernel_rfl) (by kernel_rfl) bm.ok (Nat.le_of_ble_eq_true (by kernel_rfl)) (bm.loops F (aQ.tw F) (aC.tw F)) (Eq.trans (bm.eqX F (aQ.tw F) (aC.tw F) aa ac ai H) h)
theorem bm.mk_T {F : Nat} {args : List AV} {H : Hp} {v : AV} {H' : Hp} (h : bm.mk (bm.tw F) args H = some (v, H')) : Go.AE.T Try.prog 74 args H v H' := by
 unfold bm.mk at h
 split at h
 ·exact bm.T h
 ·cases h
noncomputable def dG.twX (F : Nat) (kM : Int → Int → Sl → Hp → OA) (kN : Int → Int → Sl → Hp → OA) (aa : Int) (ac : Int) (ai : Sl) (H : Hp) : OA := (Hp.new H [(.int .i64 aa), (.int .i64 ac), (.sl ai)]).bind fun H4 => (Hp.ldI H4 .i64 H.length 0).bind fun n5 => (Hp.ldI H4 .i64 H.length (0 + 1)).bind fun n6 => (Hp.ldSl H4 H.length (0 + 2)).bind fun s7 => (kM n5 n6 s7 H4).bind fun r8 => ((r8.1).asB).bind fun b9 => (bif (!b9) then ((Hp.new r8.2 []).bind fun H10 => some ((.tup [(.sl (⟨some (r8.2.length, 0), 0, .ex 0⟩ : Sl)), (.int .i64 1)]), H10)) else ((Hp.ldI r8.2 .i64 H.length 0).bind fun n11 => (Hp.ldI r8.2 .i64 H.length (0 + 1)).bind fun n12 => (Hp.ldSl r8.2 H.length (0 + 2)).bind fun s13 => (kN n11 n12 s13 r8.2).bind fun r14 => ((r14.1).asTup 2).bind fun l15 => (l15[0]?).bind fun v16 => ((v16).asSl).bind fun s17 => (l15[1]?).bind fun v18 => ((v18).asB).bind fun b19 => (bif (!b19) then ((Hp.new r14.2 []).bind fun H20 => some ((.tup [(.sl (⟨some (r14.2.length, 0), 0, .ex 0⟩ : Sl)), (.int .i64 3)]), H20)) else (some ((.tup [(.sl s17), (.int .i64 0)]), r14.2)))))
noncomputable def dG.tw (F : Nat) (aa : Int) (ac : Int) (ai : Sl) (H : Hp) : OA := dG.twX F (cl.tw F) (bm.tw F) aa ac ai H
noncomputable def dG.code : Go.Code := (Try.f28.body).getD .skip
noncomputable def dG.lh (F : Nat) (kM : Int → Int → Sl → Hp → OA) (kN : Int → Int → Sl → Hp → OA) (p : Nat) (ks : List Nat) (n : Nat) (tm : Tm) (H : Hp) : OA := none
def dG.pn : Nat → List Nat := fun i => (([] : List (Nat × List Nat)).lookup i).getD []
def dG.tb : Nat → List (List Nat) := fun i => (([] : List (Nat × List (List Nat))).lookup i).getD []
noncomputable def dG.mk (g : Int → Int → Sl → Hp → OA) (args : List AV) (H : Hp) : OA := match args with
 | [(.agg [(.int .i64 aa), (.int .i64 ac), (.sl ai)])] => g aa ac ai H
 | _ => none
noncomputable def dG.cs (F : Nat) (kM : Int → Int → Sl → Hp → OA) (kN : Int → Int → Sl → Hp → OA) : List (FuncId × (List AV → Hp → OA)) := [(19, cl.mk kM), (74, bm.mk kN)]
theorem dG.loops (F : Nat) (kM : Int → Int → Sl → Hp → OA) (kN : Int → Int → Sl → Hp → OA) : LoopsOk tabs (mkOrc (dG.cs F kM kN)) dG.pn (dG.lh F kM kN) F [] 1 dG.code (fun tm H => aresults tabs.ty H tm Try.f28.results.toList fun v => some (v, H)) (fun _ _ _ => none) (fun tm H => aresults tabs.ty H tm Try.f28.results.toList fun v => some (v, H)) := by
 exact loops_none (by kernel_rfl)
theorem dG.eqX (F : Nat) (kM : Int → Int → Sl → Hp → OA) (kN : Int → Int → Sl → Hp → OA) (aa : Int) (ac : Int) (ai : Sl) (H : Hp) : aCode tabs (mkOrc (dG.cs F kM kN)) dG.pn (dG.lh F kM kN) F [] 1 dG.code (argTm [(.agg [(.int .i64 aa), (.int .i64 ac), (.sl ai)])]) H (fun tm H => aresults tabs.ty H tm Try.f28.results.toList fun v => some (v, H)) (fun _ _ _ => none) (fun tm H => aresults tabs.ty H tm Try.f28.results.toList fun v => some (v, H)) = dG.twX F kM kN aa ac ai H := by kernel_rfl
theorem dG.cs_ok (F : Nat) : ∀ p ∈ dG.cs F (cl.tw F) (bm.tw F), ∀ args H v H', p.2 args H = some (v, H') → Go.AE.T Try.prog p.1 args H v H' := by
 intro p hp
 simp only [dG.cs, List.mem_cons, List.not_mem_nil, or_false] at hp
 rcases hp with rfl | rfl
 ·exact fun args H v H' h => cl.mk_T h
 ·exact fun args H v H' h => bm.mk_T h
theorem dG.ok : codeOk dG.pn Try.f28.ntmps dG.tb dG.code = true := by kernel_rfl
theorem dG.T {F : Nat} {aa : Int} {ac : Int} {ai : Sl} {H : Hp} {v : AV} {H' : Hp} (h : dG.tw F aa ac ai H = some (v, H')) : Go.AE.T Try.prog 28 [(.agg [(.int .i64 aa), (.int .i64 ac), (.sl ai)])] H v H' :=
 Go.AE.T.of (Y := tabs) (C := mkOrc (dG.cs F (cl.tw F) (bm.tw F))) (PN := dG.pn) (LH := dG.lh F (cl.tw F) (bm.tw F)) (F := F) (TB := dG.tb) (fn := Try.f28) (code := dG.code) mixed tabs_ok (mkOrc_ok (dG.cs_ok F)) Try.func28 (by kernel_rfl) (by kernel_rfl) dG.ok (Nat.le_of_ble_eq_true (by kernel_rfl)) (dG.loops F (cl.tw F) (bm.tw F)) (Eq.trans (dG.eqX F (cl.tw F) (bm.tw F) aa ac ai H) h)
theorem dG.mk_T {F : Nat} {args : List AV} {H : Hp} {v : AV} {H' : Hp} (h : dG.mk (dG.tw F) args H = some (v, H')) : Go.AE.T Try.prog 28 args H v H' := by
 unfold dG.mk at h
 split at h
 ·exact dG.T h
 ·cases h
noncomputable def dH.twX (F : Nat) (kO : Int → Int → Sl → Hp → OA) (aa : Int) (ac : Int) (ai : Sl) (H : Hp) : OA := (Hp.new H [(.int .i64 aa), (.int .i64 ac), (.sl ai)]).bind fun H4 => (Hp.ldI H4 .i64 H.length 0).bind fun n5 => (Hp.ldI H4 .i64 H.length (0 + 1)).bind fun n6 => (Hp.ldSl H4 H.length (0 + 2)).bind fun s7 => (kO n5 n6 s7 H4).bind fun r8 => ((r8.1).asTup 2).bind fun l9 => (l9[0]?).bind fun v10 => ((v10).asSl).bind fun s11 => (l9[1]?).bind fun v12 => ((v12).asI .i64).bind fun n13 => some ((.tup [(.int .i64 (s11.n : Int)), (.int .i64 n13)]), r8.2)
noncomputable def dH.tw (F : Nat) (aa : Int) (ac : Int) (ai : Sl) (H : Hp) : OA := dH.twX F (dG.tw F) aa ac ai H
noncomputable def dH.code : Go.Code := (Try.f24.body).getD .skip
noncomputable def dH.lh (F : Nat) (kO : Int → Int → Sl → Hp → OA) (p : Nat) (ks : List Nat) (n : Nat) (tm : Tm) (H : Hp) : OA := none
def dH.pn : Nat → List Nat := fun i => (([] : List (Nat × List Nat)).lookup i).getD []
def dH.tb : Nat → List (List Nat) := fun i => (([] : List (Nat × List (List Nat))).lookup i).getD []
noncomputable def dH.mk (g : Int → Int → Sl → Hp → OA) (args : List AV) (H : Hp) : OA := match args with
 | [(.agg [(.int .i64 aa), (.int .i64 ac), (.sl ai)])] => g aa ac ai H
 | _ => none
noncomputable def dH.cs (F : Nat) (kO : Int → Int → Sl → Hp → OA) : List (FuncId × (List AV → Hp → OA)) := [(28, dG.mk kO)]
theorem dH.loops (F : Nat) (kO : Int → Int → Sl → Hp → OA) : LoopsOk tabs (mkOrc (dH.cs F kO)) dH.pn (dH.lh F kO) F [] 1 dH.code (fun tm H => aresults tabs.ty H tm Try.f24.results.toList fun v => some (v, H)) (fun _ _ _ => none) (fun tm H => aresults tabs.ty H tm Try.f24.results.toList fun v => some (v, H)) := by
 exact loops_none (by kernel_rfl)
theorem dH.eqX (F : Nat) (kO : Int → Int → Sl → Hp → OA) (aa : Int) (ac : Int) (ai : Sl) (H : Hp) : aCode tabs (mkOrc (dH.cs F kO)) dH.pn (dH.lh F kO) F [] 1 dH.code (argTm [(.agg [(.int .i64 aa), (.int .i64 ac), (.sl ai)])]) H (fun tm H => aresults tabs.ty H tm Try.f24.results.toList fun v => some (v, H)) (fun _ _ _ => none) (fun tm H => aresults tabs.ty H tm Try.f24.results.toList fun v => some (v, H)) = dH.twX F kO aa ac ai H := by kernel_rfl
theorem dH.cs_ok (F : Nat) : ∀ p ∈ dH.cs F (dG.tw F), ∀ args H v H', p.2 args H = some (v, H') → Go.AE.T Try.prog p.1 args H v H' := by
 intro p hp
 simp only [dH.cs, List.mem_cons, List.not_mem_nil, or_false] at hp
 subst hp
 exact fun args H v H' h => dG.mk_T h
theorem dH.ok : codeOk dH.pn Try.f24.ntmps dH.tb dH.code = true := by kernel_rfl
theorem dH.T {F : Nat} {aa : Int} {ac : Int} {ai : Sl} {H : Hp} {v : AV} {H' : Hp} (h : dH.tw F aa ac ai H = some (v, H')) : Go.AE.T Try.prog 24 [(.agg [(.int .i64 aa), (.int .i64 ac), (.sl ai)])] H v H' :=
 Go.AE.T.of (Y := tabs) (C := mkOrc (dH.cs F (dG.tw F))) (PN := dH.pn) (LH := dH.lh F (dG.tw F)) (F := F) (TB := dH.tb) (fn := Try.f24) (code := dH.code) mixed tabs_ok (mkOrc_ok (dH.cs_ok F)) Try.func24 (by kernel_rfl) (by kernel_rfl) dH.ok (Nat.le_of_ble_eq_true (by kernel_rfl)) (dH.loops F (dG.tw F)) (Eq.trans (dH.eqX F (dG.tw F) aa ac ai H) h)
theorem dH.mk_T {F : Nat} {args : List AV} {H : Hp} {v : AV} {H' : Hp} (h : dH.mk (dH.tw F) args H = some (v, H')) : Go.AE.T Try.prog 24 args H v H' := by
 unfold dH.mk at h
 split at h
 ·exact dH.T h
 ·cases h
noncomputable def df.twX (F : Nat) (aa : Int) (ak : Int) (cH : Int) (H : Hp) : OA := (bif (decide (ak ≤ aa)) then (some ((.bool (decide (aa ≤ cH))), H)) else (some ((.bool false), H)))
noncomputable def df.tw (F : Nat) (aa : Int) (ak : Int) (cH : Int) (H : Hp) : OA := df.twX F aa ak cH H
noncomputable def df.code : Go.Code := (Try.f106.body).getD .skip
noncomputable def df.lh (F : Nat) (p : Nat) (ks : List Nat) (n : Nat) (tm : Tm) (H : Hp) : OA := none
def df.pn : Nat → List Nat := fun i => (([] : List (Nat × List Nat)).lookup i).getD []
def df.tb : Nat → List (List Nat) := fun i => (([] : List (Nat × List (List Nat))).lookup i).getD []
noncomputable def df.mk (g : Int → Int → Int → Hp → OA) (args : List AV) (H : Hp) : OA := match args with
 | [(.int .i64 aa), (.int .i64 ak), (.int .i64 cH)] => g aa ak cH H
 | _ => none
noncomputable def df.cs (F : Nat) : List (FuncId × (List AV → Hp → OA)) := []
theorem df.loops (F : Nat) : LoopsOk tabs (mkOrc (df.cs F)) df.pn (df.lh F) F [] 1 df.code (fun tm H => aresults tabs.ty H tm Try.f106.results.toList fun v => some (v, H)) (fun _ _ _ => none) (fun tm H => aresults tabs.ty H tm Try.f106.results.toList fun v => some (v, H)) := by
 exact loops_none (by kernel_rfl)
theorem df.eqX (F : Nat) (aa : Int) (ak : Int) (cH : Int) (H : Hp) : aCode tabs (mkOrc (df.cs F)) df.pn (df.lh F) F [] 1 df.code (argTm [(.int .i64 aa), (.int .i64 ak), (.int .i64 cH)]) H (fun tm H => aresults tabs.ty H tm Try.f106.results.toList fun v => some (v, H)) (fun _ _ _ => none) (fun tm H => aresults tabs.ty H tm Try.f106.results.toList fun v => some (v, H)) = df.twX F aa ak cH H := by kernel_rfl
theorem df.cs_ok (F : Nat) : ∀ p ∈ df.cs F, ∀ args H v H', p.2 args H = some (v, H') → Go.AE.T Try.prog p.1 args H v H' := by
 intro p hp
 exact absurd (show p ∈ [] from hp) List.not_mem_nil
theorem df.ok : codeOk df.pn Try.f106.ntmps df.tb df.code = true := by kernel_rfl
theorem df.T {F : Nat} {aa : Int} {ak : Int} {cH : Int} {H : Hp} {v : AV} {H' : Hp} (h : df.tw F aa ak cH H = some (v, H')) : Go.AE.T Try.prog 106 [(.int .i64 aa), (.int .i64 ak), (.int .i64 cH)] H v H' :=
 Go.AE.T.of (Y := tabs) (C := mkOrc (df.cs F)) (PN := df.pn) (LH := df.lh F) (F := F) (TB := df.tb) (fn := Try.f106) (code := df.code) mixed tabs_ok (mkOrc_ok (df.cs_ok F)) Try.func106 (by kernel_rfl) (by kernel_rfl) df.ok (Nat.le_of_ble_eq_true (by kernel_rfl)) (df.loops F) (Eq.trans (df.eqX F aa ak cH H) h)
theorem df.mk_T {F : Nat} {args : List AV} {H : Hp} {v : AV} {H' : Hp} (h : df.mk (df.tw F) args H = some (v, H')) : Go.AE.T Try.prog 106 args H v H' := by
 unfold df.mk at h
 split at h
 ·exact df.T h
 ·cases h
noncomputable def dk.twX (F : Nat) (aa : Sl) (H : Hp) : OA := some ((.int .i64 (aa.n : Int)), H)
noncomputable def dk.tw (F : Nat) (aa : Sl) (H : Hp) : OA := dk.twX F aa H
noncomputable def dk.code : Go.Code := (Try.f73.body).getD .skip
noncomputable def dk.lh (F : Nat) (p : Nat) (ks : List Nat) (n : Nat) (tm : Tm) (H : Hp) : OA := none
def dk.pn : Nat → List Nat := fun i => (([] : List (Nat × List Nat)).lookup i).getD []
def dk.tb : Nat → List (List Nat) := fun i => (([] : List (Nat × List (List Nat))).lookup i).getD []
noncomputable def dk.mk (g : Sl → Hp → OA) (args : List AV) (H : Hp) : OA := match args with
 | [(.sl aa)] => g aa H
 | _ => none
noncomputable def dk.cs (F : Nat) : List (FuncId × (List AV → Hp → OA)) := []
theorem dk.loops (F : Nat) : LoopsOk tabs (mkOrc (dk.cs F)) dk.pn (dk.lh F) F [] 1 dk.code (fun tm H => aresults tabs.ty H tm Try.f73.results.toList fun v => some (v, H)) (fun _ _ _ => none) (fun tm H => aresults tabs.ty H tm Try.f73.results.toList fun v => some (v, H)) := by
 exact loops_none (by kernel_rfl)
theorem dk.eqX (F : Nat) (aa : Sl) (H : Hp) : aCode tabs (mkOrc (dk.cs F)) dk.pn (dk.lh F) F [] 1 dk.code (argTm [(.sl aa)]) H (fun tm H => aresults tabs.ty H tm Try.f73.results.toList fun v => some (v, H)) (fun _ _ _ => none) (fun tm H => aresults tabs.ty H tm Try.f73.results.toList fun v => some (v, H)) = dk.twX F aa H := by kernel_rfl
theorem dk.cs_ok (F : Nat) : ∀ p ∈ dk.cs F, ∀ args H v H', p.2 args H = some (v, H') → Go.AE.T Try.prog p.1 args H v H' := by
 intro p hp
 exact absurd (show p ∈ [] from hp) List.not_mem_nil
theorem dk.ok : codeOk dk.pn Try.f73.ntmps dk.tb dk.code = true := by kernel_rfl
theorem dk.T {F : Nat} {aa : Sl} {H : Hp} {v : AV} {H' : Hp} (h : dk.tw F aa H = some (v, H')) : Go.AE.T Try.prog 73 [(.sl aa)] H v H' :=
 Go.AE.T.of (Y := tabs) (C := mkOrc (dk.cs F)) (PN := dk.pn) (LH := dk.lh F) (F := F) (TB := dk.tb) (fn := Try.f73) (code := dk.code) mixed tabs_ok (mkOrc_ok (dk.cs_ok F)) Try.func73 (by kernel_rfl) (by kernel_rfl) dk.ok (Nat.le_of_ble_eq_true (by kernel_rfl)) (dk.loops F) (Eq.trans (dk.eqX F aa H) h)
theorem dk.mk_T {F : Nat} {args : List AV} {H : Hp} {v : AV} {H' : Hp} (h : dk.mk (dk.tw F) args H = some (v, H')) : Go.AE.T Try.prog 73 args H v H' := by
 unfold dk.mk at h
 split at h
 ·exact dk.T h
 ·cases h
noncomputable def dI.twX (F : Nat) (gU : Int → Int → Int → Hp → OA) (aa : Int) (H : Hp) : OA := (gU aa (-1000000000000) 1000000000000 H).bind fun r2 => ((r2.1).asB).bind fun b3 => some ((.bool (!b3)), r2.2)
noncomputable def dI.tw (F : Nat) (aa : Int) (H : Hp) : OA := dI.twX F (df.tw F) aa H
noncomputable def dI.code : Go.Code := (Try.f107.body).getD .skip
noncomputable def dI.lh (F : Nat) (gU : Int → Int → Int → Hp → OA) (p : Nat) (ks : List Nat) (n : Nat) (tm : Tm) (H : Hp) : OA := none
def dI.pn : Nat → List Nat := fun i => (([] : List (Nat × List Nat)).lookup i).getD []
def dI.tb : Nat → List (List Nat) := fun i => (([] : List (Nat × List (List Nat))).lookup i).getD []
noncomputable def dI.mk (g : Int → Hp → OA) (args : List AV) (H : Hp) : OA := match args with
 | [(.int .i64 aa)] => g aa H
 | _ => none
noncomputable def dI.cs (F : Nat) (gU : Int → Int → Int → Hp → OA) : List (FuncId × (List AV → Hp → OA)) := [(106, df.mk gU)]
theorem dI.loops (F : Nat) (gU : Int → Int → Int → Hp → OA) : LoopsOk tabs (mkOrc (dI.cs F gU)) dI.pn (dI.lh F gU) F [] 1 dI.code (fun tm H => aresults tabs.ty H tm Try.f107.results.toList fun v => some (v, H)) (fun _ _ _ => none) (fun tm H => aresults tabs.ty H tm Try.f107.results.toList fun v => some (v, H)) := by
 exact loops_none (by kernel_rfl)
theorem dI.eqX (F : Nat) (gU : Int → Int → Int → Hp → OA) (aa : Int) (H : Hp) : aCode tabs (mkOrc (dI.cs F gU)) dI.pn (dI.lh F gU) F [] 1 dI.code (argTm [(.int .i64 aa)]) H (fun tm H => aresults tabs.ty H tm Try.f107.results.toList fun v => some (v, H)) (fun _ _ _ => none) (fun tm H => aresults tabs.ty H tm Try.f107.results.toList fun v => some (v, H)) = dI.twX F gU aa H := by kernel_rfl
theorem dI.cs_ok (F : Nat) : ∀ p ∈ dI.cs F (df.tw F), ∀ args H v H', p.2 args H = some (v, H') → Go.AE.T Try.prog p.1 args H v H' := by
 intro p hp
 simp only [dI.cs, List.mem_cons, List.not_mem_nil, or_false] at hp
 subst hp
 exact fun args H v H' h => df.mk_T h
theorem dI.ok : codeOk dI.pn Try.f107.ntmps dI.tb dI.code = true := by kernel_rfl
theorem dI.T {F : Nat} {aa : Int} {H : Hp} {v : AV} {H' : Hp} (h : dI.tw F aa H = some (v, H')) : Go.AE.T Try.prog 107 [(.int .i64 aa)] H v H' :=
 Go.AE.T.of (Y := tabs) (C := mkOrc (dI.cs F (df.tw F))) (PN := dI.pn) (LH := dI.lh F (df.tw F)) (F := F) (TB := dI.tb) (fn := Try.f107) (code := dI.code) mixed tabs_ok (mkOrc_ok (dI.cs_ok F)) Try.func107 (by kernel_rfl) (by kernel_rfl) dI.ok (Nat.le_of_ble_eq_true (by kernel_rfl)) (dI.loops F (df.tw F)) (Eq.trans (dI.eqX F (df.tw F) aa H) h)
theorem dI.mk_T {F : Nat} {args : List AV} {H : Hp} {v : AV} {H' : Hp} (h : dI.mk (dI.tw F) args H = some (v, H')) : Go.AE.T Try.prog 107 args H v H' := by
 unfold dI.mk at h
 split at h
 ·exact dI.T h
 ·cases h
noncomputable def ct.l13 (F : Nat) (iv : Int → Hp → OA)  : Nat → Sl → Int → Int → Hp → OA
 | 0, _, _, _, _ => none
 | iX + 1, gu, fI, eX, H6 => (bif (decide (eX < fI)) then ((Sl.idx gu eX 1).bind fun p11 => (Hp.ldI H6 .i64 p11.1 p11.2).bind fun n12 => (iv n12 H6).bind fun r13 => ((r13.1).asB).bind fun b14 => (bif b14 then (some ((.int .i64 eX), r13.2)) else (ct.l13 F iv iX gu fI (IntKind.i64.wrap (eX + 1)) r13.2))) else (some ((.int .i64 (-1)), H6)))
termination_by structural n => n
noncomputable def ct.twX (F : Nat) (iv : Int → Hp → OA) (aa : Sl) (H : Hp) : OA := ct.l13 F iv F aa (aa.n : Int) 0 H
noncomputable def ct.tw (F : Nat) (aa : Sl) (H : Hp) : OA := ct.twX F (dI.tw F) aa H
noncomputable def ct.code : Go.Code := (Try.f117.body).getD .skip
noncomputable def ct.lh13 (F : Nat) (iv : Int → Hp → OA) (ks : List Nat) (n : Nat) (tm : Tm) (H : Hp) : OA := match ks, tm 0, tm 1, tm 7, tm 8 with
 | [], (.sl gu), (.fn 107 []), (.int .i64 fI), (.int .i64 eX) => ct.l13 F iv n gu fI eX H
 | _, _, _, _, _ => none
theorem ct.lh13_inv {F : Nat} {iv : Int → Hp → OA} {ks : List Nat} {n : Nat} {tm : Tm} {H : Hp} {r : AV × Hp} (h : ct.lh13 F iv ks n tm H = some r) : ∃ gu : Sl, ∃ fI : Int, ∃ eX : Int, ks = [] ∧ tm 0 = (.sl gu) ∧ tm 1 = (.fn 107 []) ∧ tm 7 = (.int .i64 fI) ∧ tm 8 = (.int .i64 eX) ∧ ct.l13 F iv n gu fI eX H = some r := by
 unfold ct.lh13 at h
 split at h
 ·exact ⟨_, _, _, rfl, by assumption, by assumption, by assumption, by assumption, h⟩
 ·cases h
noncomputable def ct.lh (F : Nat) (iv : Int → Hp → OA) (p : Nat) (ks : List Nat) (n : Nat) (tm : Tm) (H : Hp) : OA := bif p.beq 13 then ct.lh13 F iv ks n tm H else (none)
def ct.pn : Nat → List Nat := fun i => (([] : List (Nat × List Nat)).lookup i).getD []
def ct.tb : Nat → List (List Nat) := fun i => (([] : List (Nat × List (List Nat))).lookup i).getD []
noncomputable def ct.mk (g : Sl → Hp → OA) (args : List AV) (H : Hp) : OA := match args with
 | [(.sl aa), (.fn 107 [])] => g aa H
 | _ => none
noncomputable def ct.cs (F : Nat) (iv : Int → Hp → OA) : List (FuncId × (List AV → Hp → OA)) := [(107, dI.mk iv)]
theorem ct.loops (F : Nat) (iv : Int → Hp → OA) : LoopsOk tabs (mkOrc (ct.cs F iv)) ct.pn (ct.lh F iv) F [] 1 ct.code (fun tm H => aresults tabs.ty H tm Try.f117.results.toList fun v => some (v, H)) (fun _ _ _ => none) (fun tm H => aresults tabs.ty H tm Try.f117.results.toList fun v => some (v, H)) := by
 refine LoopsOk.seq ?_ ?_
 ·exact loops_none (by kernel_rfl)
 ·refine LoopsOk.seq ?_ ?_
  ·refine LoopsOk.seq ?_ ?_
   ·exact loops_none (by kernel_rfl)
   ·refine LoopsOk.block ?_
    refine LoopsOk.loop (fun tm H => ?_) (fun k13 tm H r h0 => ?_) (fun k13 => ?_)
    ·refine none_of fun r h0 => ?_
     obtain ⟨gu, fI, eX, hks, e0, e1, e7, e8, h⟩ := ct.lh13_inv (show ct.lh13 F iv [] 0 tm H = some r from h0)
     cases h
    ·obtain ⟨gu, fI, eX, hks, e0, e1, e7, e8, h⟩ := ct.lh13_inv (show ct.lh13 F iv [] (k13 + 1) tm H = some r from h0)
     have q0 : (Tm.put tm 0 (.sl gu)) = tm := by exact Tm.put_same e0
     have q1 : (Tm.put (Tm.put tm 0 (.sl gu)) 1 (.fn 107 [])) = tm := by rw [q0]; exact Tm.put_same e1
     have q2 : (Tm.put (Tm.put (Tm.put tm 0 (.sl gu)) 1 (.fn 107 [])) 7 (.int .i64 fI)) = tm := by rw [q1]; exact Tm.put_same e7
     have q3 : (Tm.put (Tm.put (Tm.put (Tm.put tm 0 (.sl gu)) 1 (.fn 107 [])) 7 (.int .i64 fI)) 8 (.int .i64 eX)) = tm := by rw [q2]; exact Tm.put_same e8
     rw [← q3]
     exact Eq.trans (by kernel_rfl) h
    ·exact loops_none (by kernel_rfl)
  ·exact loops_none (by kernel_rfl)
theorem ct.eqX (F : Nat) (iv : Int → Hp → OA) (aa : Sl) (H : Hp) : aCode tabs (mkOrc (ct.cs F iv)) ct.pn (ct.lh F iv) F [] 1 ct.code (argTm [(.sl aa), (.fn 107 [])]) H (fun tm H => aresults tabs.ty H tm Try.f117.results.toList fun v => some (v, H)) (fun _ _ _ => none) (fun tm H => aresults tabs.ty H tm Try.f117.results.toList fun v => some (v, H)) = ct.twX F iv aa H := by kernel_rfl
theorem ct.cs_ok (F : Nat) : ∀ p ∈ ct.cs F (dI.tw F), ∀ args H v H', p.2 args H = some (v, H') → Go.AE.T Try.prog p.1 args H v H' := by
 intro p hp
 simp only [ct.cs, List.mem_cons, List.not_mem_nil, or_false] at hp
 subst hp
 exact fun args H v H' h => dI.mk_T h
theorem ct.ok : codeOk ct.pn Try.f117.ntmps ct.tb ct.code = true := by kernel_rfl
theorem ct.T {F : Nat} {aa : Sl} {H : Hp} {v : AV} {H' : Hp} (h : ct.tw F aa H = some (v, H')) : Go.AE.T Try.prog 117 [(.sl aa), (.fn 107 [])] H v H' :=
 Go.AE.T.of (Y := tabs) (C := mkOrc (ct.cs F (dI.tw F))) (PN := ct.pn) (LH := ct.lh F (dI.tw F)) (F := F) (TB := ct.tb) (fn := Try.f117) (code := ct.code) mixed tabs_ok (mkOrc_ok (ct.cs_ok F)) Try.func117 (by kernel_rfl) (by kernel_rfl) ct.ok (Nat.le_of_ble_eq_true (by kernel_rfl)) (ct.loops F (dI.tw F)) (Eq.trans (ct.eqX F (dI.tw F) aa H) h)
theorem ct.mk_T {F : Nat} {args : List AV} {H : Hp} {v : AV} {H' : Hp} (h : ct.mk (ct.tw F) args H = some (v, H')) : Go.AE.T Try.prog 117 args H v H' := by
 unfold ct.mk at h
 split at h
 ·exact ct.T h
 ·cases h
noncomputable def dT.twX (F : Nat) (kP : Sl → Hp → OA) (aa : Sl) (H : Hp) : OA := (kP aa H).bind fun r2 => ((r2.1).asI .i64).bind fun n3 => some ((.bool (decide (n3 ≥ 0))), r2.2)
noncomputable def dT.tw (F : Nat) (aa : Sl) (H : Hp) : OA := dT.twX F (ct.tw F) aa H
noncomputable def dT.code : Go.Code := (Try.f81.body).getD .skip
noncomputable def dT.lh (F : Nat) (kP : Sl → Hp → OA) (p : Nat) (ks : List Nat) (n : Nat) (tm : Tm) (H : Hp) : OA := none
def dT.pn : Nat → List Nat := fun i => (([] : List (Nat × List Nat)).lookup i).getD []
def dT.tb : Nat → List (List Nat) := fun i => (([] : List (Nat × List (List Nat))).lookup i).getD []
noncomputable def dT.mk (g : Sl → Hp → OA) (args : List AV) (H : Hp) : OA := match args with
 | [(.sl aa), (.fn 107 [])] => g aa H
 | _ => none
noncomputable def dT.cs (F : Nat) (kP : Sl → Hp → OA) : List (FuncId × (List AV → Hp → OA)) := [(117, ct.mk kP)]
theorem dT.loops (F : Nat) (kP : Sl → Hp → OA) : LoopsOk tabs (mkOrc (dT.cs F kP)) dT.pn (dT.lh F kP) F [] 1 dT.code (fun tm H => aresults tabs.ty H tm Try.f81.results.toList fun v => some (v, H)) (fun _ _ _ => none) (fun tm H => aresults tabs.ty H tm Try.f81.results.toList fun v => some (v, H)) := by
 exact loops_none (by kernel_rfl)
theorem dT.eqX (F : Nat) (kP : Sl → Hp → OA) (aa : Sl) (H : Hp) : aCode tabs (mkOrc (dT.cs F kP)) dT.pn (dT.lh F kP) F [] 1 dT.code (argTm [(.sl aa), (.fn 107 [])]) H (fun tm H => aresults tabs.ty H tm Try.f81.results.toList fun v => some (v, H)) (fun _ _ _ => none) (fun tm H => aresults tabs.ty H tm Try.f81.results.toList fun v => some (v, H)) = dT.twX F kP aa H := by kernel_rfl
theorem dT.cs_ok (F : Nat) : ∀ p ∈ dT.cs F (ct.tw F), ∀ args H v H', p.2 args H = some (v, H') → Go.AE.T Try.prog p.1 args H v H' := by
 intro p hp
 simp only [dT.cs, List.mem_cons, List.not_mem_nil, or_false] at hp
 subst hp
 exact fun args H v H' h => ct.mk_T h
theorem dT.ok : codeOk dT.pn Try.f81.ntmps dT.tb dT.code = true := by kernel_rfl
theorem dT.T {F : Nat} {aa : Sl} {H : Hp} {v : AV} {H' : Hp} (h : dT.tw F aa H = some (v, H')) : Go.AE.T Try.prog 81 [(.sl aa), (.fn 107 [])] H v H' :=
 Go.AE.T.of (Y := tabs) (C := mkOrc (dT.cs F (ct.tw F))) (PN := dT.pn) (LH := dT.lh F (ct.tw F)) (F := F) (TB := dT.tb) (fn := Try.f81) (code := dT.code) mixed tabs_ok (mkOrc_ok (dT.cs_ok F)) Try.func81 (by kernel_rfl) (by kernel_rfl) dT.ok (Nat.le_of_ble_eq_true (by kernel_rfl)) (dT.loops F (ct.tw F)) (Eq.trans (dT.eqX F (ct.tw F) aa H) h)
theorem dT.mk_T {F : Nat} {args : List AV} {H : Hp} {v : AV} {H' : Hp} (h : dT.mk (dT.tw F) args H = some (v, H')) : Go.AE.T Try.prog 81 args H v H' := by
 unfold dT.mk at h
 split at h
 ·exact dT.T h
 ·cases h
noncomputable def dJ.twX (F : Nat) (gU : Int → Int → Int → Hp → OA) (hG : Sl → Hp → OA) (kQ : Sl → Hp → OA) (aa : Int) (ac : Int) (ai : Sl) (H : Hp) : OA := (Hp.new H [(.int .i64 aa), (.int .i64 ac), (.sl ai)]).bind fun H4 => (Hp.ldI H4 .i64 H.length 0).bind fun n5 => (gU n5 0 48 H4).bind fun r6 => ((r6.1).asB).bind fun b7 => (bif b7 then ((Hp.ldI r6.2 .i64 H.length 1).bind fun n8 => (gU n8 0 48 r6.2).bind fun r9 => ((r9.1).asB).bind fun b10 => (bif b10 then ((Hp.ldSl r9.2 H.length 2).bind fun s11 => (hG s11 r9.2).bind fun r12 => ((r12.1).asI .i64).bind fun n13 => (if Cons r9.2 r12.2 then ((Hp.ldI r12.2 .i64 H.length 0).bind fun n14 => (Hp.ldI r12.2 .i64 H.length 1).bind fun n15 => (bif (n13 == (IntKind.i64.wrap (n14 * n15))) then ((Hp.ldSl r12.2 H.length 2).bind fun s16 => (kQ s16 r12.2).bind fun r17 => ((r17.1).asB).bind fun b18 => some ((.bool (!b18)), r17.2)) else (some ((.bool false), r12.2)))) else none)) else (some ((.bool false), r9.2)))) else (some ((.bool false), r6.2)))
noncomputable def dJ.tw (F : Nat) (aa : Int) (ac : Int) (ai : Sl) (H : Hp) : OA := dJ.twX F (df.tw F) (dk.tw F) (dT.tw F) aa ac ai H
noncomputable def dJ.code : Go.Code := (Try.f61.body).getD .skip
noncomputable def dJ.lh (F : Nat) (gU : Int → Int → Int → Hp → OA) (hG : Sl → Hp → OA) (kQ : Sl → Hp → OA) (p : Nat) (ks : List Nat) (n : Nat) (tm : Tm) (H : Hp) : OA := none
def dJ.pn : Nat → List Nat := fun i => (([(1, [2, 6, 22])] : List (Nat × List Nat)).lookup i).getD []
def dJ.tb : Nat → List (List Nat) := fun i => (([(1, [[], [0], [0, 1], [0, 1, 2], [0, 1, 2, 3], [0, 1, 2, 3, 4], [0, 1, 2, 3, 4, 5], [0, 1, 2, 3, 4, 5, 6], [0, 1, 2, 3, 4, 5, 6, 7], [0, 1, 2, 3, 4, 5, 6, 7, 8], [0, 1, 2, 3, 4, 5, 6, 7, 8, 9], [0, 1, 2, 3, 4, 5, 6, 7, 8, 9, 10], [0, 1, 2, 3, 4, 5, 6, 7, 8], [0, 1, 2, 3, 4, 5, 6, 7, 8, 12], [0, 1, 2, 3, 4, 5, 6, 7, 8], [0, 1, 2, 3, 4, 5, 6, 7, 8, 14], [0, 1, 2, 3, 4, 5, 6, 7, 8, 12, 13, 14, 15], [0, 1, 2, 3, 4, 5, 6, 7, 8, 9, 10, 11, 12, 13, 14, 15, 16], [0, 1, 2, 3, 4, 5, 6, 7, 8, 9, 10, 11, 12, 13, 14, 15, 16, 17], [0, 1, 2, 3, 4, 5, 6, 7, 8, 9, 10, 11, 12, 13, 14, 15, 16, 17, 18], [0, 1, 2, 3, 4, 5, 6, 7, 8, 9, 10, 11, 12, 13, 14, 15, 16, 17, 18, 19], [0, 1, 2, 3, 4, 5, 6, 7, 8, 9, 10, 11, 12, 13, 14, 15, 16, 17, 18, 19, 20], [0, 1, 2, 3, 4, 5, 6, 7, 8, 9, 10, 11, 12, 13, 14, 15, 16, 17, 18, 19, 20, 21], [0, 1, 2, 3, 4, 5, 6, 7, 8, 9, 10, 11, 12, 13, 14, 15, 16, 17, 18, 19, 20, 21, 22], [0, 1, 2, 3, 4, 5, 6, 7, 8, 9, 10, 11, 12, 13, 14, 15, 16, 17, 18, 19, 20, 21, 22, 23], [0, 1, 2, 3, 4, 5, 6, 7, 8, 9, 10, 11, 12, 13, 14, 15, 16, 17, 18, 19, 20, 21, 22, 23, 24]])] : List (Nat × List (List Nat))).lookup i).getD []
noncomputable def dJ.mk (g : Int → Int → Sl → Hp → OA) (args : List AV) (H : Hp) : OA := match args with
 | [(.agg [(.int .i64 aa), (.int .i64 ac), (.sl ai)])] => g aa ac ai H
 | _ => none
noncomputable def dJ.cs (F : Nat) (gU : Int → Int → Int → Hp → OA) (hG : Sl → Hp → OA) (kQ : Sl → Hp → OA) : List (FuncId × (List AV → Hp → OA)) := [(106, df.mk gU), (73, dk.mk hG), (81, dT.mk kQ)]
theorem dJ.loops (F : Nat) (gU : Int → Int → Int → Hp → OA) (hG : Sl → Hp → OA) (kQ : Sl → Hp → OA) : LoopsOk tabs (mkOrc (dJ.cs F gU hG kQ)) dJ.pn (dJ.lh F gU hG kQ) F [] 1 dJ.code (fun tm H => aresults tabs.ty H tm Try.f61.results.toList fun v => some (v, H)) (fun _ _ _ => none) (fun tm H => aresults tabs.ty H tm Try.f61.results.toList fun v => some (v, H)) := by
 exact loops_none (by kernel_rfl)
theorem dJ.eqX (F : Nat) (gU : Int → Int → Int → Hp → OA) (hG : Sl → Hp → OA) (kQ : Sl → Hp → OA) (aa : Int) (ac : Int) (ai : Sl) (H : Hp) : aCode tabs (mkOrc (dJ.cs F gU hG kQ)) dJ.pn (dJ.lh F gU hG kQ) F [] 1 dJ.code (argTm [(.agg [(.int .i64 aa), (.int .i64 ac), (.sl ai)])]) H (fun tm H => aresults tabs.ty H tm Try.f61.results.toList fun v => some (v, H)) (fun _ _ _ => none) (fun tm H => aresults tabs.ty H tm Try.f61.results.toList fun v => some (v, H)) = dJ.twX F gU hG kQ aa ac ai H := by kernel_rfl
theorem dJ.cs_ok (F : Nat) : ∀ p ∈ dJ.cs F (df.tw F) (dk.tw F) (dT.tw F), ∀ args H v H', p.2 args H = some (v, H') → Go.AE.T Try.prog p.1 args H v H' := by
 intro p hp
 simp only [dJ.cs, List.mem_cons, List.not_mem_nil, or_false] at hp
 rcases hp with rfl | rfl | rfl
 ·exact fun args H v H' h => df.mk_T h
 ·exact fun args H v H' h => dk.mk_T h
 ·exact fun args H v H' h => dT.mk_T h
theorem dJ.ok : codeOk dJ.pn Try.f61.ntmps dJ.tb dJ.code = true := by kernel_rfl
theorem dJ.T {F : Nat} {aa : Int} {ac : Int} {ai : Sl} {H : Hp} {v : AV} {H' : Hp} (h : dJ.tw F aa ac ai H = some (v, H')) : Go.AE.T Try.prog 61 [(.agg [(.int .i64 aa), (.int .i64 ac), (.sl ai)])] H v H' :=
 Go.AE.T.of (Y := tabs) (C := mkOrc (dJ.cs F (df.tw F) (dk.tw F) (dT.tw F))) (PN := dJ.pn) (LH := dJ.lh F (df.tw F) (dk.tw F) (dT.tw F)) (F := F) (TB := dJ.tb) (fn := Try.f61) (code := dJ.code) mixed tabs_ok (mkOrc_ok (dJ.cs_ok F)) Try.func61 (by kernel_rfl) (by kernel_rfl) dJ.ok (Nat.le_of_ble_eq_true (by kernel_rfl)) (dJ.loops F (df.tw F) (dk.tw F) (dT.tw F)) (Eq.trans (dJ.eqX F (df.tw F) (dk.tw F) (dT.tw F) aa ac ai H) h)
theorem dJ.mk_T {F : Nat} {args : List AV} {H : Hp} {v : AV} {H' : Hp} (h : dJ.mk (dJ.tw F) args H = some (v, H')) : Go.AE.T Try.prog 61 args H v H' := by
 unfold dJ.mk at h
 split at h
 ·exact dJ.T h
 ·cases h
noncomputable def dU.twX (F : Nat) (aa : Int) (ak : Int) (H : Hp) : OA := (Hp.new H [.int .i64 0, .int .i64 0, .sl ⟨none, 0, .ex 0⟩]).bind fun H3 => (Hp.mk H3 [.int .i64 0] 8 (IntKind.i64.wrap (aa * ak)) (IntKind.i64.wrap (aa * ak))).bind fun m4 => (Hp.st m4.2 H.length 0 (.int .i64 aa)).bind fun H5 => (Hp.st H5 H.length (0 + 1) (.int .i64 ak)).bind fun H6 => (Hp.st H6 H.length (0 + 1 + 1) (.sl m4.1)).bind fun H7 => (Hp.ldI H7 .i64 H.length 0).bind fun n8 => (Hp.ldI H7 .i64 H.length (0 + 1)).bind fun n9 => (Hp.ldSl H7 H.length (0 + 2)).bind fun s10 => some ((.agg [(.int .i64 n8), (.int .i64 n9), (.sl s10)]), H7)
noncomputable def dU.tw (F : Nat) (aa : Int) (ak : Int) (H : Hp) : OA := dU.twX F aa ak H
noncomputable def dU.code : Go.Code := (Try.f94.body).getD .skip
noncomputable def dU.lh (F : Nat) (p : Nat) (ks : List Nat) (n : Nat) (tm : Tm) (H : Hp) : OA := none
def dU.pn : Nat → List Nat := fun i => (([] : List (Nat × List Nat)).lookup i).getD []
def dU.tb : Nat → List (List Nat) := fun i => (([] : List (Nat × List (List Nat))).lookup i).getD []
noncomputable def dU.mk (g : Int → Int → Hp → OA) (args : List AV) (H : Hp) : OA := match args with
 | [(.int .i64 aa), (.int .i64 ak)] => g aa ak H
 | _ => none
noncomputable def dU.cs (F : Nat) : List (FuncId × (List AV → Hp → OA)) := []
theorem dU.loops (F : Nat) : LoopsOk tabs (mkOrc (dU.cs F)) dU.pn (dU.lh F) F [] 1 dU.code (fun tm H => aresults tabs.ty H tm Try.f94.results.toList fun v => some (v, H)) (fun _ _ _ => none) (fun tm H => aresults tabs.ty H tm Try.f94.results.toList fun v => some (v, H)) := by
 exact loops_none (by kernel_rfl)
theorem dU.eqX (F : Nat) (aa : Int) (ak : Int) (H : Hp) : aCode tabs (mkOrc (dU.cs F)) dU.pn (dU.lh F) F [] 1 dU.code (argTm [(.int .i64 aa), (.int .i64 ak)]) H (fun tm H => aresults tabs.ty H tm Try.f94.results.toList fun v => some (v, H)) (fun _ _ _ => none) (fun tm H => aresults tabs.ty H tm Try.f94.results.toList fun v => some (v, H)) = dU.twX F aa ak H := by kernel_rfl
theorem dU.cs_ok (F : Nat) : ∀ p ∈ dU.cs F, ∀ args H v H', p.2 args H = some (v, H') → Go.AE.T Try.prog p.1 args H v H' := by
 intro p hp
 exact absurd (show p ∈ [] from hp) List.not_mem_nil
theorem dU.ok : codeOk dU.pn Try.f94.ntmps dU.tb dU.code = true := by kernel_rfl
theorem dU.T {F : Nat} {aa : Int} {ak : Int} {H : Hp} {v : AV} {H' : Hp} (h : dU.tw F aa ak H = some (v, H')) : Go.AE.T Try.prog 94 [(.int .i64 aa), (.int .i64 ak)] H v H' :=
 Go.AE.T.of (Y := tabs) (C := mkOrc (dU.cs F)) (PN := dU.pn) (LH := dU.lh F) (F := F) (TB := dU.tb) (fn := Try.f94) (code := dU.code) mixed tabs_ok (mkOrc_ok (dU.cs_ok F)) Try.func94 (by kernel_rfl) (by kernel_rfl) dU.ok (Nat.le_of_ble_eq_true (by kernel_rfl)) (dU.loops F) (Eq.trans (dU.eqX F aa ak H) h)
theorem dU.mk_T {F : Nat} {args : List AV} {H : Hp} {v : AV} {H' : Hp} (h : dU.mk (dU.tw F) args H = some (v, H')) : Go.AE.T Try.prog 94 args H v H' := by
 unfold dU.mk at h
 split at h
 ·exact dU.T h
 ·cases h
noncomputable def aO.twX (F : Nat) (aa : Int) (ac : Int) (ai : Sl) (ag : Int) (bh : Int) (H : Hp) : OA := (Hp.new H [(.int .i64 aa), (.int .i64 ac), (.sl ai)]).bind fun H6 => (Hp.ldSl H6 H.length 2).bind fun s7 => (Hp.ldI H6 .i64 H.length 1).bind fun n8 => (Sl.idx s7 (IntKind.i64.wrap ((IntKind.i64.wrap (ag * n8)) + bh)) 1).bind fun p9 => some ((.ptr p9.1 p9.2), H6)
noncomputable def aO.tw (F : Nat) (aa : Int) (ac : Int) (ai : Sl) (ag : Int) (bh : Int) (H : Hp) : OA := aO.twX F aa ac ai ag bh H
noncomputable def aO.code : Go.Code := (Try.f95.body).getD .skip
noncomputable def aO.lh (F : Nat) (p : Nat) (ks : List Nat) (n : Nat) (tm : Tm) (H : Hp) : OA := none
def aO.pn : Nat → List Nat := fun i => (([] : List (Nat × List Nat)).lookup i).getD []
def aO.tb : Nat → List (List Nat) := fun i => (([] : List (Nat × List (List Nat))).lookup i).getD []
noncomputable def aO.mk (g : Int → Int → Sl → Int → Int → Hp → OA) (args : List AV) (H : Hp) : OA := match args with
 | [(.agg [(.int .i64 aa), (.int .i64 ac), (.sl ai)]), (.int .i64 ag), (.int .i64 bh)] => g aa ac ai ag bh H
 | _ => none
noncomputable def aO.cs (F : Nat) : List (FuncId × (List AV → Hp → OA)) := []
theorem aO.loops (F : Nat) : LoopsOk tabs (mkOrc (aO.cs F)) aO.pn (aO.lh F) F [] 1 aO.code (fun tm H => aresults tabs.ty H tm Try.f95.results.toList fun v => some (v, H)) (fun _ _ _ => none) (fun tm H => aresults tabs.ty H tm Try.f95.results.toList fun v => some (v, H)) := by
 exact loops_none (by kernel_rfl)
theorem aO.eqX (F : Nat) (aa : Int) (ac : Int) (ai : Sl) (ag : Int) (bh : Int) (H : Hp) : aCode tabs (mkOrc (aO.cs F)) aO.pn (aO.lh F) F [] 1 aO.code (argTm [(.agg [(.int .i64 aa), (.int .i64 ac), (.sl ai)]), (.int .i64 ag), (.int .i64 bh)]) H (fun tm H => aresults tabs.ty H tm Try.f95.results.toList fun v => some (v, H)) (fun _ _ _ => none) (fun tm H => aresults tabs.ty H tm Try.f95.results.toList fun v => some (v, H)) = aO.twX F aa ac ai ag bh H := by kernel_rfl
theorem aO.cs_ok (F : Nat) : ∀ p ∈ aO.cs F, ∀ args H v H', p.2 args H = some (v, H') → Go.AE.T Try.prog p.1 args H v H' := by
 intro p hp
 exact absurd (show p ∈ [] from hp) List.not_mem_nil
theorem aO.ok : codeOk aO.pn Try.f95.ntmps aO.tb aO.code = true := by kernel_rfl
theorem aO.T {F : Nat} {aa : Int} {ac : Int} {ai : Sl} {ag : Int} {bh : Int} {H : Hp} {v : AV} {H' : Hp} (h : aO.tw F aa ac ai ag bh H = some (v, H')) : Go.AE.T Try.prog 95 [(.agg [(.int .i64 aa), (.int .i64 ac), (.sl ai)]), (.int .i64 ag), (.int .i64 bh)] H v H' :=
 Go.AE.T.of (Y := tabs) (C := mkOrc (aO.cs F)) (PN := aO.pn) (LH := aO.lh F) (F := F) (TB := aO.tb) (fn := Try.f95) (code := aO.code) mixed tabs_ok (mkOrc_ok (aO.cs_ok F)) Try.func95 (by kernel_rfl) (by kernel_rfl) aO.ok (Nat.le_of_ble_eq_true (by kernel_rfl)) (aO.loops F) (Eq.trans (aO.eqX F aa ac ai ag bh H) h)
theorem aO.mk_T {F : Nat} {args : List AV} {H : Hp} {v : AV} {H' : Hp} (h : aO.mk (aO.tw F) args H = some (v, H')) : Go.AE.T Try.prog 95 args H v H' := by
 unfold aO.mk at h
 split at h
 ·exact aO.T h
 ·cases h
noncomputable def bM.l29 (F : Nat) (iw : Int → Int → Hp → OA) (af : Int → Int → Sl → Int → Int → Hp → OA)  : Nat → Nat → Nat → Nat → Nat → Int → Int → Hp → OA
 | 0, _, _, _, _, _, _, _ => none
 | eK + 1, cf, fK, fk, fW, jq, iy, H22 => (bif (decide (iy < jq)) then ((Hp.ldI H22 .i64 fk fW).bind fun n38 => (Hp.ldI H22 .i64 fk (fW + 1)).bind fun n39 => (Hp.ldSl H22 fk (fW + 2)).bind fun s40 => (af n38 n39 s40 iy iy H22).bind fun r41 => ((r41.1).asP).bind fun p42 => (Hp.st r41.2 p42.1 p42.2 (.int .i64 1)).bind fun H43 => bM.l29 F iw af eK cf fK fk fW jq (IntKind.i64.wrap (iy + 1)) H43) else ((Hp.ldI H22 .i64 fk fW).bind fun n44 => (Hp.ldI H22 .i64 fk (fW + 1)).bind fun n45 => (Hp.ldSl H22 fk (fW + 2)).bind fun s46 => (Hp.st H22 cf fK (.int .i64 n44)).bind fun H47 => (Hp.st H47 cf (fK + 1) (.int .i64 n45)).bind fun H48 => (Hp.st H48 cf (fK + 1 + 1) (.sl s46)).bind fun H49 => (Hp.ldI H49 .i64 cf fK).bind fun n50 => (Hp.ldI H49 .i64 cf (fK + 1)).bind fun n51 => (Hp.ldSl H49 cf (fK + 2)).bind fun s52 => some ((.agg [(.int .i64 n50), (.int .i64 n51), (.sl s52)]), H49)))
termination_by structural n => n
noncomputable def bM.twX (F : Nat) (iw : Int → Int → Hp → OA) (af : Int → Int → Sl → Int → Int → Hp → OA) (aa : Int) (H : Hp) : OA := (Hp.new H [.int .i64 0, .int .i64 0, .sl ⟨none, 0, .ex 0⟩]).bind fun H2 => (iw aa aa H2).bind fun r3 => ((r3.1).asAgg 3).bind fun l4 => (l4[0]?).bind fun v5 => ((v5).asI .i64).bind fun n6 => (l4[1]?).bind fun v7 => ((v7).asI .i64).bind fun n8 => (l4[2]?).bind fun v9 => ((v9).asSl).bind fun s10 => (Hp.new r3.2 [.int .i64 0, .int .i64 0, .sl ⟨none, 0, .ex 0⟩]).bind fun H11 => (Hp.st H11 r3.2.length 0 (.int .i64 n6)).bind fun H12 => (Hp.st H12 r3.2.length (0 + 1) (.int .i64 n8)).bind fun H13 => (Hp.st H13 r3.2.length (0 + 1 + 1) (.sl s10)).bind fun H14 => bM.l29 F iw af F H.length 0 r3.2.length 0 aa 0 H14
noncomputable def bM.tw (F : Nat) (aa : Int) (H : Hp) : OA := bM.twX F (dU.tw F) (aO.tw F) aa H
noncomputable def bM.code : Go.Code := (Try.f110.body).getD .skip
noncomputable def bM.lh29 (F : Nat) (iw : Int → Int → Hp → OA) (af : Int → Int → Sl → Int → Int → Hp → OA) (ks : List Nat) (n : Nat) (tm : Tm) (H : Hp) : OA := match ks, tm 2, tm 3, tm 8, tm 9 with
 | [], (.ptr cf fK), (.ptr fk fW), (.int .i64 jq), (.int .i64 iy) => bM.l29 F iw af n cf fK fk fW jq iy H
 | _, _, _, _, _ => none
theorem bM.lh29_inv {F : Nat} {iw : Int → Int → Hp → OA} {af : Int → Int → Sl → Int → Int → Hp → OA} {ks : List Nat} {n : Nat} {tm : Tm} {H : Hp} {r : AV × Hp} (h : bM.lh29 F iw af ks n tm H = some r) : ∃ cf : Nat, ∃ fK : Nat, ∃ fk : Nat, ∃ fW : Nat, ∃ jq : Int, ∃ iy : Int, ks = [] ∧ tm 2 = (.ptr cf fK) ∧ tm 3 = (.ptr fk fW) ∧ tm 8 = (.int .i64 jq) ∧ tm 9 = (.int .i64 iy) ∧ bM.l29 F iw af n cf fK fk fW jq iy H = some r := by
 unfold bM.lh29 at h
 split at h
 ·exact ⟨_, _, _, _, _, _, rfl, by assumption, by assumption, by assumption, by assumption, h⟩
 ·cases h
noncomputable def bM.lh (F : Nat) (iw : Int → Int → Hp → OA) (af : Int → Int → Sl → Int → Int → Hp → OA) (p : Nat) (ks : List Nat) (n : Nat) (tm : Tm) (H : Hp) : OA := bif p.beq 29 then bM.lh29 F iw af ks n tm H else (none)
def bM.pn : Nat → List Nat := fun i => (([] : List (Nat × List Nat)).lookup i).getD []
def bM.tb : Nat → List (List Nat) := fun i => (([] : List (Nat × List (List Nat))).lookup i).getD []
noncomputable def bM.mk (g : Int → Hp → OA) (args : List AV) (H : Hp) : OA := match args with
 | [(.int .i64 aa)] => g aa H
 | _ => none
noncomputable def bM.cs (F : Nat) (iw : Int → Int → Hp → OA) (af : Int → Int → Sl → Int → Int → Hp → OA) : List (FuncId × (List AV → Hp → OA)) := [(94, dU.mk iw), (95, aO.mk af)]
theorem bM.loops (F : Nat) (iw : Int → Int → Hp → OA) (af : Int → Int → Sl → Int → Int → Hp → OA) : LoopsOk tabs (mkOrc (bM.cs F iw af)) bM.pn (bM.lh F iw af) F [] 1 bM.code (fun tm H => aresults tabs.ty H tm Try.f110.results.toList fun v => some (v, H)) (fun _ _ _ => none) (fun tm H => aresults tabs.ty H tm Try.f110.results.toList fun v => some (v, H)) := by
 refine LoopsOk.seq ?_ ?_
 ·exact loops_none (by kernel_rfl)
 ·refine LoopsOk.seq ?_ ?_
  ·exact loops_none (by kernel_rfl)
  ·refine LoopsOk.seq ?_ ?_
   ·refine LoopsOk.seq ?_ ?_
    ·exact loops_none (by kernel_rfl)
    ·refine LoopsOk.block ?_
     refine LoopsOk.loop (fun tm H => ?_) (fun k29 tm H r h0 => ?_) (fun k29 => ?_)
     ·refine none_of fun r h0 => ?_
      obtain ⟨cf, fK, fk, fW, jq, iy, hks, e2, e3, e8, e9, h⟩ := bM.lh29_inv (show bM.lh29 F iw af [] 0 tm H = some r from h0)
      cases h
     ·obtain ⟨cf, fK, fk, fW, jq, iy, hks, e2, e3, e8, e9, h⟩ := bM.lh29_inv (show bM.lh29 F iw af [] (k29 + 1) tm H = some r from h0)
      have q0 : (Tm.put tm 2 (.ptr cf fK)) = tm := by exact Tm.put_same e2
      have q1 : (Tm.put (Tm.put tm 2 (.ptr cf fK)) 3 (.ptr fk fW)) = tm := by rw [q0]; exact Tm.put_same e3
      have q2 : (Tm.put (Tm.put (Tm.put tm 2 (.ptr cf fK)) 3 (.ptr fk fW)) 8 (.int .i64 jq)) = tm := by rw [q1]; exact Tm.put_same e8
      have q3 : (Tm.put (Tm.put (Tm.put (Tm.put tm 2 (.ptr cf fK)) 3 (.ptr fk fW)) 8 (.int .i64 jq)) 9 (.int .i64 iy)) = tm := by rw [q2]; exact Tm.put_same e9
      rw [← q3]
      exact Eq.trans (by kernel_rfl) h
     ·exact loops_none (by kernel_rfl)
   ·exact loops_none (by kernel_rfl)
theorem bM.eqX (F : Nat) (iw : Int → Int → Hp → OA) (af : Int → Int → Sl → Int → Int → Hp → OA) (aa : Int) (H : Hp) : aCode tabs (mkOrc (bM.cs F iw af)) bM.pn (bM.lh F iw af) F [] 1 bM.code (argTm [(.int .i64 aa)]) H (fun tm H => aresults tabs.ty H tm Try.f110.results.toList fun v => some (v, H)) (fun _ _ _ => none) (fun tm H => aresults tabs.ty H tm Try.f110.results.toList fun v => some (v, H)) = bM.twX F iw af aa H := by kernel_rfl
theorem bM.cs_ok (F : Nat) : ∀ p ∈ bM.cs F (dU.tw F) (aO.tw F), ∀ args H v H', p.2 args H = some (v, H') → Go.AE.T Try.prog p.1 args H v H' := by
 intro p hp
 simp only [bM.cs, List.mem_cons, List.not_mem_nil, or_false] at hp
 rcases hp with rfl | rfl
 ·exact fun args H v H' h => dU.mk_T h
 ·exact fun args H v H' h => aO.mk_T h
theorem bM.ok : codeOk bM.pn Try.f110.ntmps bM.tb bM.code = true := by kernel_rfl
theorem bM.T {F : Nat} {aa : Int} {H : Hp} {v : AV} {H' : Hp} (h : bM.tw F aa H = some (v, H')) : Go.AE.T Try.prog 110 [(.int .i64 aa)] H v H' :=
 Go.AE.T.of (Y := tabs) (C := mkOrc (bM.cs F (dU.tw F) (aO.tw F))) (PN := bM.pn) (LH := bM.lh F (dU.tw F) (aO.tw F)) (F := F) (TB := bM.tb) (fn := Try.f110) (code := bM.code) mixed tabs_ok (mkOrc_ok (bM.cs_ok F)) Try.func110 (by kernel_rfl) (by kernel_rfl) bM.ok (Nat.le_of_ble_eq_true (by kernel_rfl)) (bM.loops F (dU.tw F) (aO.tw F)) (Eq.trans (bM.eqX F (dU.tw F) (aO.tw F) aa H) h)
theorem bM.mk_T {F : Nat} {args : List AV} {H : Hp} {v : AV} {H' : Hp} (h : bM.mk (bM.tw F) args H = some (v, H')) : Go.AE.T Try.prog 110 args H v H' := by
 unfold bM.mk at h
 split at h
 ·exact bM.T h
 ·cases h
noncomputable def ec.twX (F : Nat) (aa : Sl) (H : Hp) : OA := (bif (aa.a.isNone) then (some ((.sl (⟨none, 0, .ex 0⟩ : Sl)), H)) else ((Hp.new H []).bind fun H2 => (Sl.row H2 aa 1).bind fun xs4 => (Hp.app H2 1 8 (⟨some (H.length, 0), 0, .ex 0⟩ : Sl) aa.n xs4).bind fun a3 => some ((.sl a3.1), a3.2)))
noncomputable def ec.tw (F : Nat) (aa : Sl) (H : Hp) : OA := ec.twX F aa H
noncomputable def ec.code : Go.Code := (Try.f149.body).getD .skip
noncomputable def ec.lh (F : Nat) (p : Nat) (ks : List Nat) (n : Nat) (tm : Tm) (H : Hp) : OA := none
def ec.pn : Nat → List Nat := fun i => (([] : List (Nat × List Nat)).lookup i).getD []
def ec.tb : Nat → List (List Nat) := fun i => (([] : List (Nat × List (List Nat))).lookup i).getD []
noncomputable def ec.mk (g : Sl → Hp → OA) (args : List AV) (H : Hp) : OA := match args with
 | [(.sl aa)] => g aa H
 | _ => none
noncomputable def ec.cs (F : Nat) : List (FuncId × (List AV → Hp → OA)) := []
theorem ec.loops (F : Nat) : LoopsOk tabs (mkOrc (ec.cs F)) ec.pn (ec.lh F) F [] 1 ec.code (fun tm H => aresults tabs.ty H tm Try.f149.results.toList fun v => some (v, H)) (fun _ _ _ => none) (fun tm H => aresults tabs.ty H tm Try.f149.results.toList fun v => some (v, H)) := by
 exact loops_none (by kernel_rfl)
theorem ec.eqX (F : Nat) (aa : Sl) (H : Hp) : aCode tabs (mkOrc (ec.cs F)) ec.pn (ec.lh F) F [] 1 ec.code (argTm [(.sl aa)]) H (fun tm H => aresults tabs.ty H tm Try.f149.results.toList fun v => some (v, H)) (fun _ _ _ => none) (fun tm H => aresults tabs.ty H tm Try.f149.results.toList fun v => some (v, H)) = ec.twX F aa H := by kernel_rfl
theorem ec.cs_ok (F : Nat) : ∀ p ∈ ec.cs F, ∀ args H v H', p.2 args H = some (v, H') → Go.AE.T Try.prog p.1 args H v H' := by
 intro p hp
 exact absurd (show p ∈ [] from hp) List.not_mem_nil
theorem ec.ok : codeOk ec.pn Try.f149.ntmps ec.tb ec.code = true := by kernel_rfl
theorem ec.T {F : Nat} {aa : Sl} {H : Hp} {v : AV} {H' : Hp} (h : ec.tw F aa H = some (v, H')) : Go.AE.T Try.prog 149 [(.sl aa)] H v H' :=
 Go.AE.T.of (Y := tabs) (C := mkOrc (ec.cs F)) (PN := ec.pn) (LH := ec.lh F) (F := F) (TB := ec.tb) (fn := Try.f149) (code := ec.code) mixed tabs_ok (mkOrc_ok (ec.cs_ok F)) Try.func149 (by kernel_rfl) (by kernel_rfl) ec.ok (Nat.le_of_ble_eq_true (by kernel_rfl)) (ec.loops F) (Eq.trans (ec.eqX F aa H) h)
theorem ec.mk_T {F : Nat} {args : List AV} {H : Hp} {v : AV} {H' : Hp} (h : ec.mk (ec.tw F) args H = some (v, H')) : Go.AE.T Try.prog 149 args H v H' := by
 unfold ec.mk at h
 split at h
 ·exact ec.T h
 ·cases h
noncomputable def dK.twX (F : Nat) (kR : Sl → Hp → OA) (aa : Int) (ac : Int) (ai : Sl) (H : Hp) : OA := (Hp.new H [(.int .i64 aa), (.int .i64 ac), (.sl ai)]).bind fun H4 => (Hp.new H4 [.int .i64 0, .int .i64 0, .sl ⟨none, 0, .ex 0⟩]).bind fun H5 => (Hp.ldSl H5 H.length 2).bind fun s6 => (kR s6 H5).bind fun r7 => ((r7.1).asSl).bind fun s8 => (Hp.st r7.2 H.length 2 (.sl s8)).bind fun H9 => (Hp.ldI H9 .i64 H.length 0).bind fun n10 => (Hp.ldI H9 .i64 H.length (0 + 1)).bind fun n11 => (Hp.ldSl H9 H.length (0 + 2)).bind fun s12 => (Hp.st H9 H4.length 0 (.int .i64 n10)).bind fun H13 => (Hp.st H13 H4.length (0 + 1) (.int .i64 n11)).bind fun H14 => (Hp.st H14 H4.length (0 + 1 + 1) (.sl s12)).bind fun H15 => (Hp.ldI H15 .i64 H4.length 0).bind fun n16 => (Hp.ldI H15 .i64 H4.length (0 + 1)).bind fun n17 => (Hp.ldSl H15 H4.length (0 + 2)).bind fun s18 => some ((.agg [(.int .i64 n16), (.int .i64 n17), (.sl s18)]), H15)
noncomputable def dK.tw (F : Nat) (aa : Int) (ac : Int) (ai : Sl) (H : Hp) : OA := dK.twX F (ec.tw F) aa ac ai H
noncomputable def dK.code : Go.Code := (Try.f132.body).getD .skip
noncomputable def dK.lh (F : Nat) (kR : Sl → Hp → OA) (p : Nat) (ks : List Nat) (n : Nat) (tm : Tm) (H : Hp) : OA := none
def dK.pn : Nat → List Nat := fun i => (([] : List (Nat × List Nat)).lookup i).getD []
def dK.tb : Nat → List (List Nat) := fun i => (([] : List (Nat × List (List Nat))).lookup i).getD []
noncomputable def dK.mk (g : Int → Int → Sl → Hp → OA) (args : List AV) (H : Hp) : OA := match args with
 | [(.agg [(.int .i64 aa), (.int .i64 ac), (.sl ai)])] => g aa ac ai H
 | _ => none
noncomputable def dK.cs (F : Nat) (kR : Sl → Hp → OA) : List (FuncId × (List AV → Hp → OA)) := [(149, ec.mk kR)]
theorem dK.loops (F : Nat) (kR : Sl → Hp → OA) : LoopsOk tabs (mkOrc (dK.cs F kR)) dK.pn (dK.lh F kR) F [] 1 dK.code (fun tm H => aresults tabs.ty H tm Try.f132.results.toList fun v => some (v, H)) (fun _ _ _ => none) (fun tm H => aresults tabs.ty H tm Try.f132.results.toList fun v => some (v, H)) := by
 exact loops_none (by kernel_rfl)
theorem dK.eqX (F : Nat) (kR : Sl → Hp → OA) (aa : Int) (ac : Int) (ai : Sl) (H : Hp) : aCode tabs (mkOrc (dK.cs F kR)) dK.pn (dK.lh F kR) F [] 1 dK.code (argTm [(.agg [(.int .i64 aa), (.int .i64 ac), (.sl ai)])]) H (fun tm H => aresults tabs.ty H tm Try.f132.results.toList fun v => some (v, H)) (fun _ _ _ => none) (fun tm H => aresults tabs.ty H tm Try.f132.results.toList fun v => some (v, H)) = dK.twX F kR aa ac ai H := by kernel_rfl
theorem dK.cs_ok (F : Nat) : ∀ p ∈ dK.cs F (ec.tw F), ∀ args H v H', p.2 args H = some (v, H') → Go.AE.T Try.prog p.1 args H v H' := by
 intro p hp
 simp only [dK.cs, List.mem_cons, List.not_mem_nil, or_false] at hp
 subst hp
 exact fun args H v H' h => ec.mk_T h
theorem dK.ok : codeOk dK.pn Try.f132.ntmps dK.tb dK.code = true := by kernel_rfl
theorem dK.T {F : Nat} {aa : Int} {ac : Int} {ai : Sl} {H : Hp} {v : AV} {H' : Hp} (h : dK.tw F aa ac ai H = some (v, H')) : Go.AE.T Try.prog 132 [(.agg [(.int .i64 aa), (.int .i64 ac), (.sl ai)])] H v H' :=
 Go.AE.T.of (Y := tabs) (C := mkOrc (dK.cs F (ec.tw F))) (PN := dK.pn) (LH := dK.lh F (ec.tw F)) (F := F) (TB := dK.tb) (fn := Try.f132) (code := dK.code) mixed tabs_ok (mkOrc_ok (dK.cs_ok F)) Try.func132 (by kernel_rfl) (by kernel_rfl) dK.ok (Nat.le_of_ble_eq_true (by kernel_rfl)) (dK.loops F (ec.tw F)) (Eq.trans (dK.eqX F (ec.tw F) aa ac ai H) h)
theorem dK.mk_T {F : Nat} {args : List AV} {H : Hp} {v : AV} {H' : Hp} (h : dK.mk (dK.tw F) args H = some (v, H')) : Go.AE.T Try.prog 132 args H v H' := by
 unfold dK.mk at h
 split at h
 ·exact dK.T h
 ·cases h
noncomputable def eu.twX (F : Nat) (ko : Int → Hp → OA) (kS : Int → Int → Sl → Hp → OA) (aa : Int) (ac : Int) (ai : Sl) (H : Hp) : OA := (Hp.new H [(.int .i64 aa), (.int .i64 ac), (.sl ai)]).bind fun H4 => (Hp.ldI H4 .i64 H.length 0).bind fun n5 => (ko n5 H4).bind fun r6 => ((r6.1).asAgg 3).bind fun l7 => (l7[0]?).bind fun v8 => ((v8).asI .i64).bind fun n9 => (l7[1]?).bind fun v10 => ((v10).asI .i64).bind fun n11 => (l7[2]?).bind fun v12 => ((v12).asSl).bind fun s13 => (if Cons H4 r6.2 then ((Hp.ldI r6.2 .i64 H.length 0).bind fun n14 => (ko n14 r6.2).bind fun r15 => ((r15.1).asAgg 3).bind fun l16 => (l16[0]?).bind fun v17 => ((v17).asI .i64).bind fun n18 => (l16[1]?).bind fun v19 => ((v19).asI .i64).bind fun n20 => (l16[2]?).bind fun v21 => ((v21).asSl).bind fun s22 => (if Cons r6.2 r15.2 then ((Hp.ldI r15.2 .i64 H.length 0).bind fun n23 => (Hp.ldI r15.2 .i64 H.length (0 + 1)).bind fun n24 => (Hp.ldSl r15.2 H.length (0 + 2)).bind fun s25 => (kS n23 n24 s25 r15.2).bind fun r26 => ((r26.1).asAgg 3).bind fun l27 => (l27[0]?).bind fun v28 => ((v28).asI .i64).bind fun n29 => (l27[1]?).bind fun v30 => ((v30).asI .i64).bind fun n31 => (l27[2]?).bind fun v32 => ((v32).asSl).bind fun s33 => (if Cons r15.2 r26.2 then ((Hp.ldI r26.2 .i64 H.length 1).bind fun n34 => (ko n34 r26.2).bind fun r35 => ((r35.1).asAgg 3).bind fun l36 => (l36[0]?).bind fun v37 => ((v37).asI .i64).bind fun n38 => (l36[1]?).bind fun v39 => ((v39).asI .i64).bind fun n40 => (l36[2]?).bind fun v41 => ((v41).asSl).bind fun s42 => (if Cons r26.2 r35.2 then ((Hp.ldI r35.2 .i64 H.length 1).bind fun n43 => (ko n43 r35.2).bind fun r44 => ((r44.1).asAgg 3).bind fun l45 => (l45[0]?).bind fun v46 => ((v46).asI .i64).bind fun n47 => (l45[1]?).bind fun v48 => ((v48).asI .i64).bind fun n49 => (l45[2]?).bind fun v50 => ((v50).asSl).bind fun s51 => (Hp.new r44.2 [(.int .i64 n9), (.int .i64 n11), (.sl s13), (.int .i64 n18), (.int .i64 n20), (.sl s22), (.int .i64 n29), (.int .i64 n31), (.sl s33), (.int .i64 n38), (.int .i64 n40), (.sl s42), (.int .i64 n47), (.int .i64 n49), (.sl s51), (.bool false)]).bind fun H52 => some ((.ptr r44.2.length 0), H52)) else none)) else none)) else none)) else none)
noncomputable def eu.tw (F : Nat) (aa : Int) (ac : Int) (ai : Sl) (H : Hp) : OA := eu.twX F (bM.tw F) (dK.tw F) aa ac ai H
noncomputable def eu.code : Go.Code := (Try.f108.body).getD .skip
noncomputable def eu.lh (F : Nat) (ko : Int → Hp → OA) (kS : Int → Int → Sl → Hp → OA) (p : Nat) (ks : List Nat) (n : Nat) (tm : Tm) (H : Hp) : OA := none
def eu.pn : Nat → List Nat := fun i => (([(1, [13])] : List (Nat × List Nat)).lookup i).getD []
def eu.tb : Nat → List (List Nat) := fun i => (([(1, [[], [0], [0, 1], [], [3], [0, 1, 2, 3, 4], [], [0, 1, 2, 3, 4, 5, 6], [], [8], [0, 1, 2, 3, 4, 5, 6, 7, 8, 9], [], [11], [0, 1, 2, 3, 4, 5, 6, 7, 8, 9, 10, 11, 12], [0, 1, 2, 3, 4, 5, 6, 7, 8, 9, 10, 11, 12, 13], [0, 1, 2, 3, 4, 5, 6, 7, 8, 9, 10, 11, 12, 13, 14], [0, 1, 2, 3, 4, 5, 6, 7, 8, 9, 10, 11, 12, 13, 14, 15], [0, 1, 2, 3, 4, 5, 6, 7, 8, 9, 10, 11, 12, 13, 14, 15, 16]])] : List (Nat × List (List Nat))).lookup i).getD []
noncomputable def eu.mk (g : Int → Int → Sl → Hp → OA) (args : List AV) (H : Hp) : OA := match args with
 | [(.agg [(.int .i64 aa), (.int .i64 ac), (.sl ai)])] => g aa ac ai H
 | _ => none
noncomputable def eu.cs (F : Nat) (ko : Int → Hp → OA) (kS : Int → Int → Sl → Hp → OA) : List (FuncId × (List AV → Hp → OA)) := [(110, bM.mk ko), (132, dK.mk kS)]
theorem eu.loops (F : Nat) (ko : Int → Hp → OA) (kS : Int → Int → Sl → Hp → OA) : LoopsOk tabs (mkOrc (eu.cs F ko kS)) eu.pn (eu.lh F ko kS) F [] 1 eu.code (fun tm H => aresults tabs.ty H tm Try.f108.results.toList fun v => some (v, H)) (fun _ _ _ => none) (fun tm H => aresults tabs.ty H tm Try.f108.results.toList fun v => some (v, H)) := by
 exact loops_none (by kernel_rfl)
theorem eu.eqX (F : Nat) (ko : Int → Hp → OA) (kS : Int → Int → Sl → Hp → OA) (aa : Int) (ac : Int) (ai : Sl) (H : Hp) : aCode tabs (mkOrc (eu.cs F ko kS)) eu.pn (eu.lh F ko kS) F [] 1 eu.code (argTm [(.agg [(.int .i64 aa), (.int .i64 ac), (.sl ai)])]) H (fun tm H => aresults tabs.ty H tm Try.f108.results.toList fun v => some (v, H)) (fun _ _ _ => none) (fun tm H => aresults tabs.ty H tm Try.f108.results.toList fun v => some (v, H)) = eu.twX F ko kS aa ac ai H := by kernel_rfl
theorem eu.cs_ok (F : Nat) : ∀ p ∈ eu.cs F (bM.tw F) (dK.tw F), ∀ args H v H', p.2 args H = some (v, H') → Go.AE.T Try.prog p.1 args H v H' := by
 intro p hp
 simp only [eu.cs, List.mem_cons, List.not_mem_nil, or_false] at hp
 rcases hp with rfl | rfl
 ·exact fun args H v H' h => bM.mk_T h
 ·exact fun args H v H' h => dK.mk_T h
theorem eu.ok : codeOk eu.pn Try.f108.ntmps eu.tb eu.code = true := by kernel_rfl
theorem eu.T {F : Nat} {aa : Int} {ac : Int} {ai : Sl} {H : Hp} {v : AV} {H' : Hp} (h : eu.tw F aa ac ai H = some (v, H')) : Go.AE.T Try.prog 108 [(.agg [(.int .i64 aa), (.int .i64 ac), (.sl ai)])] H v H' :=
 Go.AE.T.of (Y := tabs) (C := mkOrc (eu.cs F (bM.tw F) (dK.tw F))) (PN := eu.pn) (LH := eu.lh F (bM.tw F) (dK.tw F)) (F := F) (TB := eu.tb) (fn := Try.f108) (code := eu.code) mixed tabs_ok (mkOrc_ok (eu.cs_ok F)) Try.func108 (by kernel_rfl) (by kernel_rfl) eu.ok (Nat.le_of_ble_eq_true (by kernel_rfl)) (eu.loops F (bM.tw F) (dK.tw F)) (Eq.trans (eu.eqX F (bM.tw F) (dK.tw F) aa ac ai H) h)
theorem eu.mk_T {F : Nat} {args : List AV} {H : Hp} {v : AV} {H' : Hp} (h : eu.mk (eu.tw F) args H = some (v, H')) : Go.AE.T Try.prog 108 args H v H' := by
 unfold eu.mk at h
 split at h
 ·exact eu.T h
 ·cases h
noncomputable def ch.twX (F : Nat) (aa : Int) (H : Hp) : OA := (bif (decide (aa < 0)) then (some ((.int .i64 (IntKind.i64.wrap (0 - aa))), H)) else (some ((.int .i64 aa), H)))
noncomputable def ch.tw (F : Nat) (aa : Int) (H : Hp) : OA := ch.twX F aa H
noncomputable def ch.code : Go.Code := (Try.f102.body).getD .skip
noncomputable def ch.lh (F : Nat) (p : Nat) (ks : List Nat) (n : Nat) (tm : Tm) (H : Hp) : OA := none
def ch.pn : Nat → List Nat := fun i => (([] : List (Nat × List Nat)).lookup i).getD []
def ch.tb : Nat → List (List Nat) := fun i => (([] : List (Nat × List (List Nat))).lookup i).getD []
noncomputable def ch.mk (g : Int → Hp → OA) (args : List AV) (H : Hp) : OA := match args with
 | [(.int .i64 aa)] => g aa H
 | _ => none
noncomputable def ch.cs (F : Nat) : List (FuncId × (List AV → Hp → OA)) := []
theorem ch.loops (F : Nat) : LoopsOk tabs (mkOrc (ch.cs F)) ch.pn (ch.lh F) F [] 1 ch.code (fun tm H => aresults tabs.ty H tm Try.f102.results.toList fun v => some (v, H)) (fun _ _ _ => none) (fun tm H => aresults tabs.ty H tm Try.f102.results.toList fun v => some (v, H)) := by
 exact loops_none (by kernel_rfl)
theorem ch.eqX (F : Nat) (aa : Int) (H : Hp) : aCode tabs (mkOrc (ch.cs F)) ch.pn (ch.lh F) F [] 1 ch.code (argTm [(.int .i64 aa)]) H (fun tm H => aresults tabs.ty H tm Try.f102.results.toList fun v => some (v, H)) (fun _ _ _ => none) (fun tm H => aresults tabs.ty H tm Try.f102.results.toList fun v => some (v, H)) = ch.twX F aa H := by kernel_rfl
theorem ch.cs_ok (F : Nat) : ∀ p ∈ ch.cs F, ∀ args H v H', p.2 args H = some (v, H') → Go.AE.T Try.prog p.1 args H v H' := by
 intro p hp
 exact absurd (show p ∈ [] from hp) List.not_mem_nil
theorem ch.ok : codeOk ch.pn Try.f102.ntmps ch.tb ch.code = true := by kernel_rfl
theorem ch.T {F : Nat} {aa : Int} {H : Hp} {v : AV} {H' : Hp} (h : ch.tw F aa H = some (v, H')) : Go.AE.T Try.prog 102 [(.int .i64 aa)] H v H' :=
 Go.AE.T.of (Y := tabs) (C := mkOrc (ch.cs F)) (PN := ch.pn) (LH := ch.lh F) (F := F) (TB := ch.tb) (fn := Try.f102) (code := ch.code) mixed tabs_ok (mkOrc_ok (ch.cs_ok F)) Try.func102 (by kernel_rfl) (by kernel_rfl) ch.ok (Nat.le_of_ble_eq_true (by kernel_rfl)) (ch.loops F) (Eq.trans (ch.eqX F aa H) h)
theorem ch.mk_T {F : Nat} {args : List AV} {H : Hp} {v : AV} {H' : Hp} (h : ch.mk (ch.tw F) args H = some (v, H')) : Go.AE.T Try.prog 102 args H v H' := by
 unfold ch.mk at h
 split at h
 ·exact ch.T h
 ·cases h
noncomputable def aI.j5 (F : Nat) (af : Int → Int → Sl → Int → Int → Hp → OA) (di : Int → Hp → OA) (nY : Int) (nZ : Int) (n_ : Bool) (H134 : Hp) : OA := some ((.tup [(.int .i64 nY), (.int .i64 nZ), (.bool n_)]), H134)
noncomputable def aI.j7 (F : Nat) (af : Int → Int → Sl → Int → Int → Hp → OA) (di : Int → Hp → OA) (C29_ : Int → Int → Int → Bool → Nat → Nat → Int → Hp → OA) (oa : Int) (ob : Int) (oc : Int) (od : Bool) (qn : Nat) (yM : Nat) (oe : Int) (H205 : Hp) : OA := C29_ oa ob oc od qn yM (IntKind.i64.wrap (oe + 1)) H205
noncomputable def aI.j8 (F : Nat) (af : Int → Int → Sl → Int → Int → Hp → OA) (di : Int → Hp → OA) (C29_ : Int → Int → Int → Bool → Nat → Nat → Int → Hp → OA) (og : Int) (oh : Int) (oi : Int) (oj : Bool) (qo : Nat) (yN : Nat) (ol : Int) (H192 : Hp) : OA := aI.j7 F af di C29_ og oh oi oj qo yN ol H192
noncomputable def aI.j9 (F : Nat) (af : Int → Int → Sl → Int → Int → Hp → OA) (di : Int → Hp → OA) (C469_ : Int → Int → Int → Bool → Nat → Nat → Int → Int → Hp → OA) (om : Int) (oo : Int) (oq : Int) (ot : Bool) (qp : Nat) (yO : Nat) (ou : Int) (ov : Int) (H237 : Hp) : OA := C469_ om oo oq ot qp yO ou (IntKind.i64.wrap (ov + 1)) H237
noncomputable def aI.l469 (F : Nat) (af : Int → Int → Sl → Int → Int → Hp → OA) (di : Int → Hp → OA) (C29_ : Int → Int → Int → Bool → Nat → Nat → Int → Hp → OA) : Nat → Int → Int → Int → Bool → Nat → Nat → Int → Int → Hp → OA
 | 0, _, _, _, _, _, _, _, _, _ => none
 | lJ + 1, gf, gw, gF, gL, gx, iz, f_, gg, H147 => (Hp.ldI H147 .i64 gx (iz + 1)).bind fun n206 => (bif (decide (gg < n206)) then ((Hp.ldI H147 .i64 gx iz).bind fun n207 => (Hp.ldI H147 .i64 gx (iz + 1)).bind fun n208 => (Hp.ldSl H147 gx (iz + 2)).bind fun s209 => (af n207 n208 s209 f_ gg H147).bind fun r210 => ((r210.1).asP).bind fun p211 => (Hp.ldI r210.2 .i64 p211.1 p211.2).bind fun n212 => (di n212 r210.2).bind fun r213 => ((r213.1).asI .i64).bind fun n214 => (bif (n214 != 0) then ((bif (!gL) then (aI.l469 F af di C29_ lJ gf f_ gg true gx iz f_ (IntKind.i64.wrap (gg + 1)) r213.2) else ((Hp.ldI r213.2 .i64 gx iz).bind fun n215 => (Hp.ldI r213.2 .i64 gx (iz + 1)).bind fun n216 => (Hp.ldSl r213.2 gx (iz + 2)).bind fun s217 => (af n215 n216 s217 gw gF r213.2).bind fun r218 => ((r218.1).asP).bind fun p219 => (Hp.ldI r218.2 .i64 p219.1 p219.2).bind fun n220 => (di n220 r218.2).bind fun r221 => ((r221.1).asI .i64).bind fun n222 => (bif (decide (n214 < n222)) then (aI.j9 F af di (aI.l469 F af di C29_ lJ) gf f_ gg true gx iz f_ gg r221.2) else (aI.j9 F af di (aI.l469 F af di C29_ lJ) gf gw gF gL gx iz f_ gg r221.2))))) else (aI.l469 F af di C29_ lJ gf gw gF gL gx iz f_ (IntKind.i64.wrap (gg + 1)) r213.2))) else (aI.j8 F af di C29_ gf gw gF gL gx iz f_ H147))
termination_by structural n => n
noncomputable def aI.l29 (F : Nat) (af : Int → Int → Sl → Int → Int → Hp → OA) (di : Int → Hp → OA)  : Nat → Int → Int → Int → Bool → Nat → Nat → Int → Hp → OA
 | 0, _, _, _, _, _, _, _, _ => none
 | eK + 1, cR, eJ, fl, jb, j_, kT, jK, H20 => (Hp.ldI H20 .i64 j_ kT).bind fun n135 => (bif (decide (jK < n135)) then (aI.l469 F af di (aI.l29 F af di eK) F cR eJ fl jb j_ kT jK cR H20) else (aI.j5 F af di eJ fl jb H20))
termination_by structural n => n
noncomputable def aI.twX (F : Nat) (af : Int → Int → Sl → Int → Int → Hp → OA) (di : Int → Hp → OA) (aa : Nat) (ac : Nat) (ae : Int) (H : Hp) : OA := (Hp.ldI H .i64 aa (ac + 6)).bind fun n4 => (Hp.ldI H .i64 aa ((ac + 6) + 1)).bind fun n5 => (Hp.ldSl H aa ((ac + 6) + 2)).bind fun s6 => (Hp.new H [.int .i64 0, .int .i64 0, .sl ⟨none, 0, .ex 0⟩]).bind fun H7 => (Hp.st H7 H.length 0 (.int .i64 n4)).bind fun H8 => (Hp.st H8 H.length (0 + 1) (.int .i64 n5)).bind fun H9 => (Hp.st H9 H.length (0 + 1 + 1) (.sl s6)).bind fun H10 => aI.l29 F af di F ae 0 0 false H.length 0 ae H10
noncomputable def aI.tw (F : Nat) (aa : Nat) (ac : Nat) (ae : Int) (H : Hp) : OA := aI.twX F (aO.tw F) (ch.tw F) aa ac ae H
noncomputable def aI.code : Go.Code := (Try.f150.body).getD .skip
noncomputable def aI.lh29 (F : Nat) (af : Int → Int → Sl → Int → Int → Hp → OA) (di : Int → Hp → OA) (ks : List Nat) (n : Nat) (tm : Tm) (H : Hp) : OA := match ks, tm 1, tm 4, tm 5, tm 6, tm 7, tm 8 with
 | [], (.int .i64 cR), (.int .i64 eJ), (.int .i64 fl), (.bool jb), (.ptr j_ kT), (.int .i64 jK) => aI.l29 F af di n cR eJ fl jb j_ kT jK H
 | _, _, _, _, _, _, _ => none
theorem aI.lh29_inv {F : Nat} {af : Int → Int → Sl → Int → Int → Hp → OA} {di : Int → Hp → OA} {ks : List Nat} {n : Nat} {tm : Tm} {H : Hp} {r : AV × Hp} (h : aI.lh29 F af di ks n tm H = some r) : ∃ cR : Int, ∃ eJ : Int, ∃ fl : Int, ∃ jb : Bool, ∃ j_ : Nat, ∃ kT : Nat, ∃ jK : Int, ks = [] ∧ tm 1 = (.int .i64 cR) ∧ tm 4 = (.int .i64 eJ) ∧ tm 5 = (.int .i64 fl) ∧ tm 6 = (.bool jb) ∧ tm 7 = (.ptr j_ kT) ∧ tm 8 = (.int .i64 jK) ∧ aI.l29 F af di n cR eJ fl jb j_ kT jK H = some r := by
 unfold aI.lh29 at h
 split at h
 ·exact ⟨_, _, _, _, _, _, _, rfl, by assumption, by assumption, by assumption, by assumption, by assumption, by assumption, h⟩
 ·cases h
noncomputable def aI.lh469 (F : Nat) (af : Int → Int → Sl → Int → Int → Hp → OA) (di : Int → Hp → OA) (ks : List Nat) (n : Nat) (tm : Tm) (H : Hp) : OA := match ks, tm 1, tm 4, tm 5, tm 6, tm 7, tm 8, tm 9 with
 | [eK], (.int .i64 gf), (.int .i64 gw), (.int .i64 gF), (.bool gL), (.ptr gx iz), (.int .i64 f_), (.int .i64 gg) => aI.l469 F af di (aI.l29 F af di eK) n gf gw gF gL gx iz f_ gg H
 | _, _, _, _, _, _, _, _ => none
theorem aI.lh469_inv {F : Nat} {af : Int → Int → Sl → Int → Int → Hp → OA} {di : Int → Hp → OA} {ks : List Nat} {n : Nat} {tm : Tm} {H : Hp} {r : AV × Hp} (h : aI.lh469 F af di ks n tm H = some r) : ∃ eK : Nat, ∃ gf : Int, ∃ gw : Int, ∃ gF : Int, ∃ gL : Bool, ∃ gx : Nat, ∃ iz : Nat, ∃ f_ : Int, ∃ gg : Int, ks = [eK] ∧ tm 1 = (.int .i64 gf) ∧ tm 4 = (.int .i64 gw) ∧ tm 5 = (.int .i64 gF) ∧ tm 6 = (.bool gL) ∧ tm 7 = (.ptr gx iz) ∧ tm 8 = (.int .i64 f_) ∧ tm 9 = (.int .i64 gg) ∧ aI.l469 F af di (aI.l29 F af di eK) n gf gw gF gL gx iz f_ gg H = some r := by
 unfold aI.lh469 at h
 split at h
 ·exact ⟨_, _, _, _, _, _, _, _, _, rfl, by assumption, by assumption, by assumption, by assumption, by assumption, by assumption, by assumption, h⟩
 ·cases h
noncomputable def aI.lh (F : Nat) (af : Int → Int → Sl → Int → Int → Hp → OA) (di : Int → Hp → OA) (p : Nat) (ks : List Nat) (n : Nat) (tm : Tm) (H : Hp) : OA := bif p.beq 469 then aI.lh469 F af di ks n tm H else (bif p.beq 29 then aI.lh29 F af di ks n tm H else (none))
def aI.pn : Nat → List Nat := fun i => (([] : List (Nat × List Nat)).lookup i).getD []
def aI.tb : Nat → List (List Nat) := fun i => (([] : List (Nat × List (List Nat))).lookup i).getD []
noncomputable def aI.mk (g : Nat → Nat → Int → Hp → OA) (args : List AV) (H : Hp) : OA := match args with
 | [(.ptr aa ac), (.int .i64 ae)] => g aa ac ae H
 | _ => none
noncomputable def aI.cs (F : Nat) (af : Int → Int → Sl → Int → Int → Hp → OA) (di : Int → Hp → OA) : List (FuncId × (List AV → Hp → OA)) := [(95, aO.mk af), (102, ch.mk di)]
theorem aI.loops (F : Nat) (af : Int → Int → Sl → Int → Int → Hp → OA) (di : Int → Hp → OA) : LoopsOk tabs (mkOrc (aI.cs F af di)) aI.pn (aI.lh F af di) F [] 1 aI.code (fun tm H => aresults tabs.ty H tm Try.f150.results.toList fun v => some (v, H)) (fun _ _ _ => none) (fun tm H => aresults tabs.ty H tm Try.f150.results.toList fun v => some (v, H)) := by
 refine LoopsOk.seq ?_ ?_
 ·exact loops_none (by kernel_rfl)
 ·refine LoopsOk.seq ?_ ?_
  ·exact loops_none (by kernel_rfl)
  ·refine LoopsOk.seq ?_ ?_
   ·refine LoopsOk.seq ?_ ?_
    ·exact loops_none (by kernel_rfl)
    ·refine LoopsOk.block ?_
     refine LoopsOk.loop (fun tm H => ?_) (fun k29 tm H r h0 => ?_) (fun k29 => ?_)
     ·refine none_of fun r h0 => ?_
      obtain ⟨cR, eJ, fl, jb, j_, kT, jK, hks, e1, e4, e5, e6, e7, e8, h⟩ := aI.lh29_inv (show aI.lh29 F af di [] 0 tm H = some r from h0)
      cases h
     ·obtain ⟨cR, eJ, fl, jb, j_, kT, jK, hks, e1, e4, e5, e6, e7, e8, h⟩ := aI.lh29_inv (show aI.lh29 F af di [] (k29 + 1) tm H = some r from h0)
      have q0 : (Tm.put tm 1 (.int .i64 cR)) = tm := by exact Tm.put_same e1
      have q1 : (Tm.put (Tm.put tm 1 (.int .i64 cR)) 4 (.int .i64 eJ)) = tm := by rw [q0]; exact Tm.put_same e4
      have q2 : (Tm.put (Tm.put (Tm.put tm 1 (.int .i64 cR)) 4 (.int .i64 eJ)) 5 (.int .i64 fl)) = tm := by rw [q1]; exact Tm.put_same e5
      have q3 : (Tm.put (Tm.put (Tm.put (Tm.put tm 1 (.int .i64 cR)) 4 (.int .i64 eJ)) 5 (.int .i64 fl)) 6 (.bool jb)) = tm := by rw [q2]; exact Tm.put_same e6
      have q4 : (Tm.put (Tm.put (Tm.put (Tm.put (Tm.put tm 1 (.int .i64 cR)) 4 (.int .i64 eJ)) 5 (.int .i64 fl)) 6 (.bool jb)) 7 (.ptr j_ kT)) = tm := by rw [q3]; exact Tm.put_same e7
      have q5 : (Tm.put (Tm.put (Tm.put (Tm.put (Tm.put (Tm.put tm 1 (.int .i64 cR)) 4 (.int .i64 eJ)) 5 (.int .i64 fl)) 6 (.bool jb)) 7 (.ptr j_ kT)) 8 (.int .i64 jK)) = tm := by rw [q4]; exact Tm.put_same e8
      rw [← q5]
      exact Eq.trans (by kernel_rfl) h
     ·refine LoopsOk.seq ?_ ?_
      ·exact loops_none (by kernel_rfl)
      ·refine LoopsOk.seq ?_ ?_
       ·refine LoopsOk.block ?_
        refine LoopsOk.seq ?_ ?_
        ·exact loops_none (by kernel_rfl)
        ·refine LoopsOk.block ?_
         refine LoopsOk.loop (fun tm H => ?_) (fun k469 tm H r h0 => ?_) (fun k469 => ?_)
         ·refine none_of fun r h0 => ?_
          obtain ⟨eK, gf, gw, gF, gL, gx, iz, f_, gg, hks, e1, e4, e5, e6, e7, e8, e9, h⟩ := aI.lh469_inv (show aI.lh469 F af di [k29] 0 tm H = some r from h0)
          cases h
         ·obtain ⟨eK, gf, gw, gF, gL, gx, iz, f_, gg, hks, e1, e4, e5, e6, e7, e8, e9, h⟩ := aI.lh469_inv (show aI.lh469 F af di [k29] (k469 + 1) tm H = some r from h0)
          obtain rfl : eK = k29 := by simpa [eq_comm] using hks
          have q0 : (Tm.put tm 1 (.int .i64 gf)) = tm := by exact Tm.put_same e1
          have q1 : (Tm.put (Tm.put tm 1 (.int .i64 gf)) 4 (.int .i64 gw)) = tm := by rw [q0]; exact Tm.put_same e4
          have q2 : (Tm.put (Tm.put (Tm.put tm 1 (.int .i64 gf)) 4 (.int .i64 gw)) 5 (.int .i64 gF)) = tm := by rw [q1]; exact Tm.put_same e5
          have q3 : (Tm.put (Tm.put (Tm.put (Tm.put tm 1 (.int .i64 gf)) 4 (.int .i64 gw)) 5 (.int .i64 gF)) 6 (.bool gL)) = tm := by rw [q2]; exact Tm.put_same e6
          have q4 : (Tm.put (Tm.put (Tm.put (Tm.put (Tm.put tm 1 (.int .i64 gf)) 4 (.int .i64 gw)) 5 (.int .i64 gF)) 6 (.bool gL)) 7 (.ptr gx iz)) = tm := by rw [q3]; exact Tm.put_same e7
          have q5 : (Tm.put (Tm.put (Tm.put (Tm.put (Tm.put (Tm.put tm 1 (.int .i64 gf)) 4 (.int .i64 gw)) 5 (.int .i64 gF)) 6 (.bool gL)) 7 (.ptr gx iz)) 8 (.int .i64 f_)) = tm := by rw [q4]; exact Tm.put_same e8
          have q6 : (Tm.put (Tm.put (Tm.put (Tm.put (Tm.put (Tm.put (Tm.put tm 1 (.int .i64 gf)) 4 (.int .i64 gw)) 5 (.int .i64 gF)) 6 (.bool gL)) 7 (.ptr gx iz)) 8 (.int .i64 f_)) 9 (.int .i64 gg)) = tm := by rw [q5]; exact Tm.put_same e9
          rw [← q6]
          exact Eq.trans (by kernel_rfl) h
         ·exact loops_none (by kernel_rfl)
       ·exact loops_none (by kernel_rfl)
   ·exact loops_none (by kernel_rfl)
theorem aI.eqX (F : Nat) (af : Int → Int → Sl → Int → Int → Hp → OA) (di : Int → Hp → OA) (aa : Nat) (ac : Nat) (ae : Int) (H : Hp) : aCode tabs (mkOrc (aI.cs F af di)) aI.pn (aI.lh F af di) F [] 1 aI.code (argTm [(.ptr aa ac), (.int .i64 ae)]) H (fun tm H => aresults tabs.ty H tm Try.f150.results.toList fun v => some (v, H)) (fun _ _ _ => none) (fun tm H => aresults tabs.ty H tm Try.f150.results.toList fun v => some (v, H)) = aI.twX F af di aa ac ae H := by kernel_rfl
theorem aI.cs_ok (F : Nat) : ∀ p ∈ aI.cs F (aO.tw F) (ch.tw F), ∀ args H v H', p.2 args H = some (v, H') → Go.AE.T Try.prog p.1 args H v H' := by
 intro p hp
 simp only [aI.cs, List.mem_cons, List.not_mem_nil, or_false] at hp
 rcases hp with rfl | rfl
 ·exact fun args H v H' h => aO.mk_T h
 ·exact fun args H v H' h => ch.mk_T h
theorem aI.ok : codeOk aI.pn Try.f150.ntmps aI.tb aI.code = true := by kernel_rfl
theorem aI.T {F : Nat} {aa : Nat} {ac : Nat} {ae : Int} {H : Hp} {v : AV} {H' : Hp} (h : aI.tw F aa ac ae H = some (v, H')) : Go.AE.T Try.prog 150 [(.ptr aa ac), (.int .i64 ae)] H v H' :=
 Go.AE.T.of (Y := tabs) (C := mkOrc (aI.cs F (aO.tw F) (ch.tw F))) (PN := aI.pn) (LH := aI.lh F (aO.tw F) (ch.tw F)) (F := F) (TB := aI.tb) (fn := Try.f150) (code := aI.code) mixed tabs_ok (mkOrc_ok (aI.cs_ok F)) Try.func150 (by kernel_rfl) (by kernel_rfl) aI.ok (Nat.le_of_ble_eq_true (by kernel_rfl)) (aI.loops F (aO.tw F) (ch.tw F)) (Eq.trans (aI.eqX F (aO.tw F) (ch.tw F) aa ac ae H) h)
theorem aI.mk_T {F : Nat} {args : List AV} {H : Hp} {v : AV} {H' : Hp} (h : aI.mk (aI.tw F) args H = some (v, H')) : Go.AE.T Try.prog 150 args H v H' := by
 unfold aI.mk at h
 split at h
 ·exact aI.T h
 ·cases h
noncomputable def bO.l7 (F : Nat) (af : Int → Int → Sl → Int → Int → Hp → OA)  : Nat → Int → Int → Nat → Nat → Int → Int → Hp → OA
 | 0, _, _, _, _, _, _, _ => none
 | ke + 1, eY, fe, cI, fM, fJ, eZ, H17 => (bif (decide (eZ < fJ)) then ((Hp.ldI H17 .i64 cI fM).bind fun n32 => (Hp.ldI H17 .i64 cI (fM + 1)).bind fun n33 => (Hp.ldSl H17 cI (fM + 2)).bind fun s34 => (af n32 n33 s34 eY eZ H17).bind fun r35 => ((r35.1).asP).bind fun p36 => (if Cons H17 r35.2 then ((Hp.ldI r35.2 .i64 cI fM).bind fun n37 => (Hp.ldI r35.2 .i64 cI (fM + 1)).bind fun n38 => (Hp.ldSl r35.2 cI (fM + 2)).bind fun s39 => (af n37 n38 s39 fe eZ r35.2).bind fun r40 => ((r40.1).asP).bind fun p41 => (Hp.ldI r40.2 .i64 p41.1 p41.2).bind fun n42 => (Hp.ldI r40.2 .i64 p36.1 p36.2).bind fun n43 => (Hp.st r40.2 p36.1 p36.2 (.int .i64 n42)).bind fun H44 => (Hp.st H44 p41.1 p41.2 (.int .i64 n43)).bind fun H45 => bO.l7 F af ke eY fe cI fM fJ (IntKind.i64.wrap (eZ + 1)) H45) else none)) else (some ((.tup []), H17)))
termination_by structural n => n
noncomputable def bO.twX (F : Nat) (af : Int → Int → Sl → Int → Int → Hp → OA) (aa : Int) (ac : Int) (ai : Sl) (ag : Int) (bh : Int) (H : Hp) : OA := (Hp.new H [(.int .i64 aa), (.int .i64 ac), (.sl ai)]).bind fun H6 => (Hp.ldI H6 .i64 H.length 1).bind fun n7 => bO.l7 F af F ag bh H.length 0 n7 0 H6
noncomputable def bO.tw (F : Nat) (aa : Int) (ac : Int) (ai : Sl) (ag : Int) (bh : Int) (H : Hp) : OA := bO.twX F (aO.tw F) aa ac ai ag bh H
noncomputable def bO.code : Go.Code := (Try.f151.body).getD .skip
noncomputable def bO.lh7 (F : Nat) (af : Int → Int → Sl → Int → Int → Hp → OA) (ks : List Nat) (n : Nat) (tm : Tm) (H : Hp) : OA := match ks, tm 1, tm 2, tm 3, tm 10, tm 11 with
 | [], (.int .i64 eY), (.int .i64 fe), (.ptr cI fM), (.int .i64 fJ), (.int .i64 eZ) => bO.l7 F af n eY fe cI fM fJ eZ H
 | _, _, _, _, _, _ => none
theorem bO.lh7_inv {F : Nat} {af : Int → Int → Sl → Int → Int → Hp → OA} {ks : List Nat} {n : Nat} {tm : Tm} {H : Hp} {r : AV × Hp} (h : bO.lh7 F af ks n tm H = some r) : ∃ eY : Int, ∃ fe : Int, ∃ cI : Nat, ∃ fM : Nat, ∃ fJ : Int, ∃ eZ : Int, ks = [] ∧ tm 1 = (.int .i64 eY) ∧ tm 2 = (.int .i64 fe) ∧ tm 3 = (.ptr cI fM) ∧ tm 10 = (.int .i64 fJ) ∧ tm 11 = (.int .i64 eZ) ∧ bO.l7 F af n eY fe cI fM fJ eZ H = some r := by
 unfold bO.lh7 at h
 split at h
 ·exact ⟨_, _, _, _, _, _, rfl, by assumption, by assumption, by assumption, by assumption, by assumption, h⟩
 ·cases h
noncomputable def bO.lh (F : Nat) (af : Int → Int → Sl → Int → Int → Hp → OA) (p : Nat) (ks : List Nat) (n : Nat) (tm : Tm) (H : Hp) : OA := bif p.beq 7 then bO.lh7 F af ks n tm H else (none)
def bO.pn : Nat → List Nat := fun i => (([(4, [7]), (5, [9, 11])] : List (Nat × List Nat)).lookup i).getD []
def bO.tb : Nat → List (List Nat) := fun i => (([(4, [[], [], [], [0, 1, 2], [], [], [], [0, 1, 2, 3, 4, 5, 6], [0, 1, 2, 3, 4, 5, 6, 7], [0, 1, 2, 3, 4, 5, 6, 7, 8]]), (5, [[], [], [], [2], [2, 3], [], [5], [5, 6], [0, 2, 3, 4, 5, 6, 7], [0, 2, 3, 4, 5, 6, 7, 8], [0, 1, 2, 3, 4, 5, 6, 7, 8, 9], [0, 1, 2, 3, 4, 5, 6, 7, 8, 9, 10]])] : List (Nat × List (List Nat))).lookup i).getD []
noncomputable def bO.mk (g : Int → Int → Sl → Int → Int → Hp → OA) (args : List AV) (H : Hp) : OA := match args with
 | [(.agg [(.int .i64 aa), (.int .i64 ac), (.sl ai)]), (.int .i64 ag), (.int .i64 bh)] => g aa ac ai ag bh H
 | _ => none
noncomputable def bO.cs (F : Nat) (af : Int → Int → Sl → Int → Int → Hp → OA) : List (FuncId × (List AV → Hp → OA)) := [(95, aO.mk af)]
theorem bO.loops (F : Nat) (af : Int → Int → Sl → Int → Int → Hp → OA) : LoopsOk tabs (mkOrc (bO.cs F af)) bO.pn (bO.lh F af) F [] 1 bO.code (fun tm H => aresults tabs.ty H tm Try.f151.results.toList fun v => some (v, H)) (fun _ _ _ => none) (fun tm H => aresults tabs.ty H tm Try.f151.results.toList fun v => some (v, H)) := by
 refine LoopsOk.seq ?_ ?_
 ·exact loops_none (by kernel_rfl)
 ·refine LoopsOk.seq ?_ ?_
  ·exact loops_none (by kernel_rfl)
  ·refine LoopsOk.block ?_
   refine LoopsOk.loop (fun tm H => ?_) (fun k7 tm H r h0 => ?_) (fun k7 => ?_)
   ·refine none_of fun r h0 => ?_
    obtain ⟨eY, fe, cI, fM, fJ, eZ, hks, e1, e2, e3, e10, e11, h⟩ := bO.lh7_inv (show bO.lh7 F af [] 0 tm H = some r from h0)
    cases h
   ·obtain ⟨eY, fe, cI, fM, fJ, eZ, hks, e1, e2, e3, e10, e11, h⟩ := bO.lh7_inv (show bO.lh7 F af [] (k7 + 1) tm H = some r from h0)
    have q0 : (Tm.put tm 1 (.int .i64 eY)) = tm := by exact Tm.put_same e1
    have q1 : (Tm.put (Tm.put tm 1 (.int .i64 eY)) 2 (.int .i64 fe)) = tm := by rw [q0]; exact Tm.put_same e2
    have q2 : (Tm.put (Tm.put (Tm.put tm 1 (.int .i64 eY)) 2 (.int .i64 fe)) 3 (.ptr cI fM)) = tm := by rw [q1]; exact Tm.put_same e3
    have q3 : (Tm.put (Tm.put (Tm.put (Tm.put tm 1 (.int .i64 eY)) 2 (.int .i64 fe)) 3 (.ptr cI fM)) 10 (.int .i64 fJ)) = tm := by rw [q2]; exact Tm.put_same e10
    have q4 : (Tm.put (Tm.put (Tm.put (Tm.put (Tm.put tm 1 (.int .i64 eY)) 2 (.int .i64 fe)) 3 (.ptr cI fM)) 10 (.int .i64 fJ)) 11 (.int .i64 eZ)) = tm := by rw [q3]; exact Tm.put_same e11
    rw [← q4]
    exact Eq.trans (by kernel_rfl) h
   ·exact loops_none (by kernel_rfl)
theorem bO.eqX (F : Nat) (af : Int → Int → Sl → Int → Int → Hp → OA) (aa : Int) (ac : Int) (ai : Sl) (ag : Int) (bh : Int) (H : Hp) : aCode tabs (mkOrc (bO.cs F af)) bO.pn (bO.lh F af) F [] 1 bO.code (argTm [(.agg [(.int .i64 aa), (.int .i64 ac), (.sl ai)]), (.int .i64 ag), (.int .i64 bh)]) H (fun tm H => aresults tabs.ty H tm Try.f151.results.toList fun v => some (v, H)) (fun _ _ _ => none) (fun tm H => aresults tabs.ty H tm Try.f151.results.toList fun v => some (v, H)) = bO.twX F af aa ac ai ag bh H := by kernel_rfl
theorem bO.cs_ok (F : Nat) : ∀ p ∈ bO.cs F (aO.tw F), ∀ args H v H', p.2 args H = some (v, H') → Go.AE.T Try.prog p.1 args H v H' := by
 intro p hp
 simp only [bO.cs, List.mem_cons, List.not_mem_nil, or_false] at hp
 subst hp
 exact fun args H v H' h => aO.mk_T h
theorem bO.ok : codeOk bO.pn Try.f151.ntmps bO.tb bO.code = true := by kernel_rfl
theorem bO.T {F : Nat} {aa : Int} {ac : Int} {ai : Sl} {ag : Int} {bh : Int} {H : Hp} {v : AV} {H' : Hp} (h : bO.tw F aa ac ai ag bh H = some (v, H')) : Go.AE.T Try.prog 151 [(.agg [(.int .i64 aa), (.int .i64 ac), (.sl ai)]), (.int .i64 ag), (.int .i64 bh)] H v H' :=
 Go.AE.T.of (Y := tabs) (C := mkOrc (bO.cs F (aO.tw F))) (PN := bO.pn) (LH := bO.lh F (aO.tw F)) (F := F) (TB := bO.tb) (fn := Try.f151) (code := bO.code) mixed tabs_ok (mkOrc_ok (bO.cs_ok F)) Try.func151 (by kernel_rfl) (by kernel_rfl) bO.ok (Nat.le_of_ble_eq_true (by kernel_rfl)) (bO.loops F (aO.tw F)) (Eq.trans (bO.eqX F (aO.tw F) aa ac ai ag bh H) h)
theorem bO.mk_T {F : Nat} {args : List AV} {H : Hp} {v : AV} {H' : Hp} (h : bO.mk (bO.tw F) args H = some (v, H')) : Go.AE.T Try.prog 151 args H v H' := by
 unfold bO.mk at h
 split at h
 ·exact bO.T h
 ·cases h
noncomputable def bP.l7 (F : Nat) (af : Int → Int → Sl → Int → Int → Hp → OA)  : Nat → Int → Int → Nat → Nat → Int → Int → Hp → OA
 | 0, _, _, _, _, _, _, _ => none
 | ke + 1, eY, fe, cI, fM, fJ, eZ, H17 => (bif (decide (eZ < fJ)) then ((Hp.ldI H17 .i64 cI fM).bind fun n32 => (Hp.ldI H17 .i64 cI (fM + 1)).bind fun n33 => (Hp.ldSl H17 cI (fM + 2)).bind fun s34 => (af n32 n33 s34 eZ eY H17).bind fun r35 => ((r35.1).asP).bind fun p36 => (if Cons H17 r35.2 then ((Hp.ldI r35.2 .i64 cI fM).bind fun n37 => (Hp.ldI r35.2 .i64 cI (fM + 1)).bind fun n38 => (Hp.ldSl r35.2 cI (fM + 2)).bind fun s39 => (af n37 n38 s39 eZ fe r35.2).bind fun r40 => ((r40.1).asP).bind fun p41 => (Hp.ldI r40.2 .i64 p41.1 p41.2).bind fun n42 => (Hp.ldI r40.2 .i64 p36.1 p36.2).bind fun n43 => (Hp.st r40.2 p36.1 p36.2 (.int .i64 n42)).bind fun H44 => (Hp.st H44 p41.1 p41.2 (.int .i64 n43)).bind fun H45 => bP.l7 F af ke eY fe cI fM fJ (IntKind.i64.wrap (eZ + 1)) H45) else none)) else (some ((.tup []), H17)))
termination_by structural n => n
noncomputable def bP.twX (F : Nat) (af : Int → Int → Sl → Int → Int → Hp → OA) (aa : Int) (ac : Int) (ai : Sl) (ag : Int) (bh : Int) (H : Hp) : OA := (Hp.new H [(.int .i64 aa), (.int .i64 ac), (.sl ai)]).bind fun H6 => (Hp.ldI H6 .i64 H.length 0).bind fun n7 => bP.l7 F af F ag bh H.length 0 n7 0 H6
noncomputable def bP.tw (F : Nat) (aa : Int) (ac : Int) (ai : Sl) (ag : Int) (bh : Int) (H : Hp) : OA := bP.twX F (aO.tw F) aa ac ai ag bh H
noncomputable def bP.code : Go.Code := (Try.f152.body).getD .skip
noncomputable def bP.lh7 (F : Nat) (af : Int → Int → Sl → Int → Int → Hp → OA) (ks : List Nat) (n : Nat) (tm : Tm) (H : Hp) : OA := match ks, tm 1, tm 2, tm 3, tm 10, tm 11 with
 | [], (.int .i64 eY), (.int .i64 fe), (.ptr cI fM), (.int .i64 fJ), (.int .i64 eZ) => bP.l7 F af n eY fe cI fM fJ eZ H
 | _, _, _, _, _, _ => none
theorem bP.lh7_inv {F : Nat} {af : Int → Int → Sl → Int → Int → Hp → OA} {ks : List Nat} {n : Nat} {tm : Tm} {H : Hp} {r : AV × Hp} (h : bP.lh7 F af ks n tm H = some r) : ∃ eY : Int, ∃ fe : Int, ∃ cI : Nat, ∃ fM : Nat, ∃ fJ : Int, ∃ eZ : Int, ks = [] ∧ tm 1 = (.int .i64 eY) ∧ tm 2 = (.int .i64 fe) ∧ tm 3 = (.ptr cI fM) ∧ tm 10 = (.int .i64 fJ) ∧ tm 11 = (.int .i64 eZ) ∧ bP.l7 F af n eY fe cI fM fJ eZ H = some r := by
 unfold bP.lh7 at h
 split at h
 ·exact ⟨_, _, _, _, _, _, rfl, by assumption, by assumption, by assumption, by assumption, by assumption, h⟩
 ·cases h
noncomputable def bP.lh (F : Nat) (af : Int → Int → Sl → Int → Int → Hp → OA) (p : Nat) (ks : List Nat) (n : Nat) (tm : Tm) (H : Hp) : OA := bif p.beq 7 then bP.lh7 F af ks n tm H else (none)
def bP.pn : Nat → List Nat := fun i => (([(4, [7]), (5, [9, 11])] : List (Nat × List Nat)).lookup i).getD []
def bP.tb : Nat → List (List Nat) := fun i => (([(4, [[], [], [], [0, 1, 2], [], [], [], [0, 1, 2, 3, 4, 5, 6], [0, 1, 2, 3, 4, 5, 6, 7], [0, 1, 2, 3, 4, 5, 6, 7, 8]]), (5, [[], [], [], [2], [2, 3], [], [5], [5, 6], [0, 2, 3, 4, 5, 6, 7], [0, 2, 3, 4, 5, 6, 7, 8], [0, 1, 2, 3, 4, 5, 6, 7, 8, 9], [0, 1, 2, 3, 4, 5, 6, 7, 8, 9, 10]])] : List (Nat × List (List Nat))).lookup i).getD []
noncomputable def bP.mk (g : Int → Int → Sl → Int → Int → Hp → OA) (args : List AV) (H : Hp) : OA := match args with
 | [(.agg [(.int .i64 aa), (.int .i64 ac), (.sl ai)]), (.int .i64 ag), (.int .i64 bh)] => g aa ac ai ag bh H
 | _ => none
noncomputable def bP.cs (F : Nat) (af : Int → Int → Sl → Int → Int → Hp → OA) : List (FuncId × (List AV → Hp → OA)) := [(95, aO.mk af)]
theorem bP.loops (F : Nat) (af : Int → Int → Sl → Int → Int → Hp → OA) : LoopsOk tabs (mkOrc (bP.cs F af)) bP.pn (bP.lh F af) F [] 1 bP.code (fun tm H => aresults tabs.ty H tm Try.f152.results.toList fun v => some (v, H)) (fun _ _ _ => none) (fun tm H => aresults tabs.ty H tm Try.f152.results.toList fun v => some (v, H)) := by
 refine LoopsOk.seq ?_ ?_
 ·exact loops_none (by kernel_rfl)
 ·refine LoopsOk.seq ?_ ?_
  ·exact loops_none (by kernel_rfl)
  ·refine LoopsOk.block ?_
   refine LoopsOk.loop (fun tm H => ?_) (fun k7 tm H r h0 => ?_) (fun k7 => ?_)
   ·refine none_of fun r h0 => ?_
    obtain ⟨eY, fe, cI, fM, fJ, eZ, hks, e1, e2, e3, e10, e11, h⟩ := bP.lh7_inv (show bP.lh7 F af [] 0 tm H = some r from h0)
    cases h
   ·obtain ⟨eY, fe, cI, fM, fJ, eZ, hks, e1, e2, e3, e10, e11, h⟩ := bP.lh7_inv (show bP.lh7 F af [] (k7 + 1) tm H = some r from h0)
    have q0 : (Tm.put tm 1 (.int .i64 eY)) = tm := by exact Tm.put_same e1
    have q1 : (Tm.put (Tm.put tm 1 (.int .i64 eY)) 2 (.int .i64 fe)) = tm := by rw [q0]; exact Tm.put_same e2
    have q2 : (Tm.put (Tm.put (Tm.put tm 1 (.int .i64 eY)) 2 (.int .i64 fe)) 3 (.ptr cI fM)) = tm := by rw [q1]; exact Tm.put_same e3
    have q3 : (Tm.put (Tm.put (Tm.put (Tm.put tm 1 (.int .i64 eY)) 2 (.int .i64 fe)) 3 (.ptr cI fM)) 10 (.int .i64 fJ)) = tm := by rw [q2]; exact Tm.put_same e10
    have q4 : (Tm.put (Tm.put (Tm.put (Tm.put (Tm.put tm 1 (.int .i64 eY)) 2 (.int .i64 fe)) 3 (.ptr cI fM)) 10 (.int .i64 fJ)) 11 (.int .i64 eZ)) = tm := by rw [q3]; exact Tm.put_same e11
    rw [← q4]
    exact Eq.trans (by kernel_rfl) h
   ·exact loops_none (by kernel_rfl)
theorem bP.eqX (F : Nat) (af : Int → Int → Sl → Int → Int → Hp → OA) (aa : Int) (ac : Int) (ai : Sl) (ag : Int) (bh : Int) (H : Hp) : aCode tabs (mkOrc (bP.cs F af)) bP.pn (bP.lh F af) F [] 1 bP.code (argTm [(.agg [(.int .i64 aa), (.int .i64 ac), (.sl ai)]), (.int .i64 ag), (.int .i64 bh)]) H (fun tm H => aresults tabs.ty H tm Try.f152.results.toList fun v => some (v, H)) (fun _ _ _ => none) (fun tm H => aresults tabs.ty H tm Try.f152.results.toList fun v => some (v, H)) = bP.twX F af aa ac ai ag bh H := by kernel_rfl
theorem bP.cs_ok (F : Nat) : ∀ p ∈ bP.cs F (aO.tw F), ∀ args H v H', p.2 args H = some (v, H') → Go.AE.T Try.prog p.1 args H v H' := by
 intro p hp
 simp only [bP.cs, List.mem_cons, List.not_mem_nil, or_false] at hp
 subst hp
 exact fun args H v H' h => aO.mk_T h
theorem bP.ok : codeOk bP.pn Try.f152.ntmps bP.tb bP.code = true := by kernel_rfl
theorem bP.T {F : Nat} {aa : Int} {ac : Int} {ai : Sl} {ag : Int} {bh : Int} {H : Hp} {v : AV} {H' : Hp} (h : bP.tw F aa ac ai ag bh H = some (v, H')) : Go.AE.T Try.prog 152 [(.agg [(.int .i64 aa), (.int .i64 ac), (.sl ai)]), (.int .i64 ag), (.int .i64 bh)] H v H' :=
 Go.AE.T.of (Y := tabs) (C := mkOrc (bP.cs F (aO.tw F))) (PN := bP.pn) (LH := bP.lh F (aO.tw F)) (F := F) (TB := bP.tb) (fn := Try.f152) (code := bP.code) mixed tabs_ok (mkOrc_ok (bP.cs_ok F)) Try.func152 (by kernel_rfl) (by kernel_rfl) bP.ok (Nat.le_of_ble_eq_true (by kernel_rfl)) (bP.loops F (aO.tw F)) (Eq.trans (bP.eqX F (aO.tw F) aa ac ai ag bh H) h)
theorem bP.mk_T {F : Nat} {args : List AV} {H : Hp} {v : AV} {H' : Hp} (h : bP.mk (bP.tw F) args H = some (v, H')) : Go.AE.T Try.prog 152 args H v H' := by
 unfold bP.mk at h
 split at h
 ·exact bP.T h
 ·cases h
noncomputable def cu.twX (F : Nat) (aa : Int) (ac : Int) (ai : Sl) (ag : Int) (H : Hp) : OA := (Hp.new H [(.int .i64 aa), (.int .i64 ac), (.sl ai)]).bind fun H5 => (Hp.ldSl H5 H.length 2).bind fun s6 => (Hp.ldI H5 .i64 H.length 1).bind fun n7 => (Hp.ldI H5 .i64 H.length 1).bind fun n8 => (Sl.cut s6 1 (IntKind.i64.wrap (ag * n7)) (IntKind.i64.wrap ((IntKind.i64.wrap (ag + 1)) * n8))).bind fun s9 => some ((.sl s9), H5)
noncomputable def cu.tw (F : Nat) (aa : Int) (ac : Int) (ai : Sl) (ag : Int) (H : Hp) : OA := cu.twX F aa ac ai ag H
noncomputable def cu.code : Go.Code := (Try.f120.body).getD .skip
noncomputable def cu.lh (F : Nat) (p : Nat) (ks : List Nat) (n : Nat) (tm : Tm) (H : Hp) : OA := none
def cu.pn : Nat → List Nat := fun i => (([] : List (Nat × List Nat)).lookup i).getD []
def cu.tb : Nat → List (List Nat) := fun i => (([] : List (Nat × List (List Nat))).lookup i).getD []
noncomputable def cu.mk (g : Int → Int → Sl → Int → Hp → OA) (args : List AV) (H : Hp) : OA := match args with
 | [(.agg [(.int .i64 aa), (.int .i64 ac), (.sl ai)]), (.int .i64 ag)] => g aa ac ai ag H
 | _ => none
noncomputable def cu.cs (F : Nat) : List (FuncId × (List AV → Hp → OA)) := []
theorem cu.loops (F : Nat) : LoopsOk tabs (mkOrc (cu.cs F)) cu.pn (cu.lh F) F [] 1 cu.code (fun tm H => aresults tabs.ty H tm Try.f120.results.toList fun v => some (v, H)) (fun _ _ _ => none) (fun tm H => aresults tabs.ty H tm Try.f120.results.toList fun v => some (v, H)) := by
 exact loops_none (by kernel_rfl)
theorem cu.eqX (F : Nat) (aa : Int) (ac : Int) (ai : Sl) (ag : Int) (H : Hp) : aCode tabs (mkOrc (cu.cs F)) cu.pn (cu.lh F) F [] 1 cu.code (argTm [(.agg [(.int .i64 aa), (.int .i64 ac), (.sl ai)]), (.int .i64 ag)]) H (fun tm H => aresults tabs.ty H tm Try.f120.results.toList fun v => some (v, H)) (fun _ _ _ => none) (fun tm H => aresults tabs.ty H tm Try.f120.results.toList fun v => some (v, H)) = cu.twX F aa ac ai ag H := by kernel_rfl
theorem cu.cs_ok (F : Nat) : ∀ p ∈ cu.cs F, ∀ args H v H', p.2 args H = some (v, H') → Go.AE.T Try.prog p.1 args H v H' := by
 intro p hp
 exact absurd (show p ∈ [] from hp) List.not_mem_nil
theorem cu.ok : codeOk cu.pn Try.f120.ntmps cu.tb cu.code = true := by kernel_rfl
theorem cu.T {F : Nat} {aa : Int} {ac : Int} {ai : Sl} {ag : Int} {H : Hp} {v : AV} {H' : Hp} (h : cu.tw F aa ac ai ag H = some (v, H')) : Go.AE.T Try.prog 120 [(.agg [(.int .i64 aa), (.int .i64 ac), (.sl ai)]), (.int .i64 ag)] H v H' :=
 Go.AE.T.of (Y := tabs) (C := mkOrc (cu.cs F)) (PN := cu.pn) (LH := cu.lh F) (F := F) (TB := cu.tb) (fn := Try.f120) (code := cu.code) mixed tabs_ok (mkOrc_ok (cu.cs_ok F)) Try.func120 (by kernel_rfl) (by kernel_rfl) cu.ok (Nat.le_of_ble_eq_true (by kernel_rfl)) (cu.loops F) (Eq.trans (cu.eqX F aa ac ai ag H) h)
theorem cu.mk_T {F : Nat} {args : List AV} {H : Hp} {v : AV} {H' : Hp} (h : cu.mk (cu.tw F) args H = some (v, H')) : Go.AE.T Try.prog 120 args H v H' := by
 unfold cu.mk at h
 split at h
 ·exact cu.T h
 ·cases h
noncomputable def aW.l32747 (F : Nat) (eA : Nat → Nat → Int → Hp → OA) (en : Int → Int → Sl → Int → Int → Hp → OA) (eo : Int → Int → Sl → Int → Int → Hp → OA) (af : Int → Int → Sl → Int → Int → Hp → OA) (bN : Int → Int → Sl → Int → Hp → OA)  : Nat → Nat → Nat → Int → Int → Int → Hp → OA
 | 0, _, _, _, _, _, _ => none
 | yP + 1, jL, jM, iA, jr, iB, H159 => (bif (decide (iB < jr)) then ((Hp.ldI H159 .i64 jL (jM + 3)).bind fun n172 => (Hp.ldI H159 .i64 jL ((jM + 3) + 1)).bind fun n173 => (Hp.ldSl H159 jL ((jM + 3) + 2)).bind fun s174 => (af n172 n173 s174 iB iA H159).bind fun r175 => ((r175.1).asP).bind fun p176 => (if Cons H159 r175.2 then ((Hp.ldI r175.2 .i64 jL (jM + 3)).bind fun n177 => (Hp.ldI r175.2 .i64 jL ((jM + 3) + 1)).bind fun n178 => (Hp.ldSl r175.2 jL ((jM + 3) + 2)).bind fun s179 => (af n177 n178 s179 iB iA r175.2).bind fun r180 => ((r180.1).asP).bind fun p181 => (Hp.ldI r180.2 .i64 p181.1 p181.2).bind fun n182 => (Hp.st r180.2 p176.1 p176.2 (.int .i64 (IntKind.i64.wrap (0 - n182)))).bind fun H183 => aW.l32747 F eA en eo af bN yP jL jM iA jr (IntKind.i64.wrap (iB + 1)) H183) else none)) else (some ((.bool true), H159)))
termination_by structural n => n
noncomputable def aW.j3 (F : Nat) (eA : Nat → Nat → Int → Hp → OA) (en : Int → Int → Sl → Int → Int → Hp → OA) (eo : Int → Int → Sl → Int → Int → Hp → OA) (af : Int → Int → Sl → Int → Int → Hp → OA) (bN : Int → Int → Sl → Int → Hp → OA) (uW : Nat) (uX : Nat) (ox : Int) (H142 : Hp) : OA := (Hp.ldI H142 .i64 uW (uX + 3)).bind fun n143 => aW.l32747 F eA en eo af bN F uW uX ox n143 0 H142
noncomputable def aW.j4 (F : Nat) (eA : Nat → Nat → Int → Hp → OA) (en : Int → Int → Sl → Int → Int → Hp → OA) (eo : Int → Int → Sl → Int → Int → Hp → OA) (af : Int → Int → Sl → Int → Int → Hp → OA) (bN : Int → Int → Sl → Int → Hp → OA) (C32745_ : Nat → Nat → Int → Sl → Int → Int → Hp → OA) (yQ : Nat) (yR : Nat) (yS : Int) (yT : Sl) (yU : Int) (yV : Int) (H242 : Hp) : OA := C32745_ yQ yR yS yT yU (IntKind.i64.wrap (yV + 1)) H242
noncomputable def aW.j5 (F : Nat) (eA : Nat → Nat → Int → Hp → OA) (en : Int → Int → Sl → Int → Int → Hp → OA) (eo : Int → Int → Sl → Int → Int → Hp → OA) (af : Int → Int → Sl → Int → Int → Hp → OA) (bN : Int → Int → Sl → Int → Hp → OA) (C32745_ : Nat → Nat → Int → Sl → Int → Int → Hp → OA) (yW : Nat) (yX : Nat) (yY : Int) (yZ : Sl) (y_ : Int) (za : Int) (H224 : Hp) : OA := aW.j4 F eA en eo af bN C32745_ yW yX yY yZ y_ za H224
noncomputable def aW.l2095707 (F : Nat) (eA : Nat → Nat → Int → Hp → OA) (en : Int → Int → Sl → Int → Int → Hp → OA) (eo : Int → Int → Sl → Int → Int → Hp → OA) (af : Int → Int → Sl → Int → Int → Hp → OA) (bN : Int → Int → Sl → Int → Hp → OA) (C32745_ : Nat → Nat → Int → Sl → Int → Int → Hp → OA) : Nat → Nat → Nat → Int → Sl → Int → Int → Sl → Int → Int → Hp → OA
 | 0, _, _, _, _, _, _, _, _, _, _ => none
 | zb + 1, jQ, jR, ka, kp, kt, kD, kb, kU, kE, H202 => (bif (decide (kE < kU)) then ((Sl.idx kb kE 1).bind fun p243 => (Hp.ldI H202 .i64 p243.1 p243.2).bind fun n244 => (Sl.idx kb kE 1).bind fun p245 => (Hp.st H202 p245.1 p245.2 (.int .i64 (IntKind.i64.wrap (0 - n244)))).bind fun H246 => aW.l2095707 F eA en eo af bN C32745_ zb jQ jR ka kp kt kD kb kU (IntKind.i64.wrap (kE + 1)) H246) else (aW.j5 F eA en eo af bN C32745_ jQ jR ka kp kt kD H202))
termination_by structural n => n
noncomputable def aW.l32745 (F : Nat) (eA : Nat → Nat → Int → Hp → OA) (en : Int → Int → Sl → Int → Int → Hp → OA) (eo : Int → Int → Sl → Int → Int → Hp → OA) (af : Int → Int → Sl → Int → Int → Hp → OA) (bN : Int → Int → Sl → Int → Hp → OA)  : Nat → Nat → Nat → Int → Sl → Int → Int → Hp → OA
 | 0, _, _, _, _, _, _, _ => none
 | lK + 1, gh, gi, fm, kF, kV, kW, H65 => (bif (decide (kW < kV)) then ((Sl.idx kF kW 1).bind fun p184 => (Hp.ldSl H65 p184.1 p184.2).bind fun s185 => aW.l2095707 F eA en eo af bN (aW.l32745 F eA en eo af bN lK) F gh gi fm kF kV kW s185 (s185.n : Int) 0 H65) else (aW.j3 F eA en eo af bN gh gi fm H65))
termination_by structural n => n
noncomputable def aW.twX (F : Nat) (eA : Nat → Nat → Int → Hp → OA) (en : Int → Int → Sl → Int → Int → Hp → OA) (eo : Int → Int → Sl → Int → Int → Hp → OA) (af : Int → Int → Sl → Int → Int → Hp → OA) (bN : Int → Int → Sl → Int → Hp → OA) (aa : Nat) (ac : Nat) (ae : Int) (H : Hp) : OA := (eA aa ac ae H).bind fun r4 => ((r4.1).asTup 3).bind fun l5 => (l5[0]?).bind fun v6 => ((v6).asI .i64).bind fun n7 => (l5[1]?).bind fun v8 => ((v8).asI .i64).bind fun n9 => (l5[2]?).bind fun v10 => ((v10).asB).bind fun b11 => (bif (!b11) then (some ((.bool false), r4.2)) else ((Hp.ldI r4.2 .i64 aa (ac + 6)).bind fun n12 => (Hp.ldI r4.2 .i64 aa ((ac + 6) + 1)).bind fun n13 => (Hp.ldSl r4.2 aa ((ac + 6) + 2)).bind fun s14 => (en n12 n13 s14 n7 ae r4.2).bind fun r15 => (Hp.ldI r15.2 .i64 aa ac).bind fun n16 => (Hp.ldI r15.2 .i64 aa (ac + 1)).bind fun n17 => (Hp.ldSl r15.2 aa (ac + 2)).bind fun s18 => (en n16 n17 s18 n7 ae r15.2).bind fun r19 => (Hp.ldI r19.2 .i64 aa (ac + 3)).bind fun n20 => (Hp.ldI r19.2 .i64 aa ((ac + 3) + 1)).bind fun n21 => (Hp.ldSl r19.2 aa ((ac + 3) + 2)).bind fun s22 => (eo n20 n21 s22 n7 ae r19.2).bind fun r23 => (Hp.ldI r23.2 .i64 aa (ac + 6)).bind fun n24 => (Hp.ldI r23.2 .i64 aa ((ac + 6) + 1)).bind fun n25 => (Hp.ldSl r23.2 aa ((ac + 6) + 2)).bind fun s26 => (eo n24 n25 s26 n9 ae r23.2).bind fun r27 => (Hp.ldI r27.2 .i64 aa (ac + 9)).bind fun n28 => (Hp.ldI r27.2 .i64 aa ((ac + 9) + 1)).bind fun n29 => (Hp.ldSl r27.2 aa ((ac + 9) + 2)).bind fun s30 => (eo n28 n29 s30 n9 ae r27.2).bind fun r31 => (Hp.ldI r31.2 .i64 aa (ac + 12)).bind fun n32 => (Hp.ldI r31.2 .i64 aa ((ac + 12) + 1)).bind fun n33 => (Hp.ldSl r31.2 aa ((ac + 12) + 2)).bind fun s34 => (en n32 n33 s34 n9 ae r31.2).bind fun r35 => (Hp.ldI r35.2 .i64 aa (ac + 6)).bind fun n36 => (Hp.ldI r35.2 .i64 aa ((ac + 6) + 1)).bind fun n37 => (Hp.ldSl r35.2 aa ((ac + 6) + 2)).bind fun s38 => (af n36 n37 s38 ae ae r35.2).bind fun r39 => ((r39.1).asP).bind fun p40 => (Hp.ldI r39.2 .i64 p40.1 p40.2).bind fun n41 => (bif (decide (n41 < 0)) then ((Hp.ldI r39.2 .i64 aa (ac + 6)).bind fun n42 => (Hp.ldI r39.2 .i64 aa ((ac + 6) + 1)).bind fun n43 => (Hp.ldSl r39.2 aa ((ac + 6) + 2)).bind fun s44 => (bN n42 n43 s44 ae r39.2).bind fun r45 => ((r45.1).asSl).bind fun s46 => (if Cons r39.2 r45.2 then ((Hp.ldI r45.2 .i64 aa ac).bind fun n47 => (Hp.ldI r45.2 .i64 aa (ac + 1)).bind fun n48 => (Hp.ldSl r45.2 aa (ac + 2)).bind fun s49 => (bN n47 n48 s49 ae r45.2).bind fun r50 => ((r50.1).asSl).bind fun s51 => (Hp.new r50.2 [(.sl s46), (.sl s51)]).bind fun H52 => aW.l32745 F eA en eo af bN F aa ac ae (⟨some (r50.2.length, 0), 2, .ex 2⟩ : Sl) ((⟨some (r50.2.length, 0), 2, .ex 2⟩ : Sl).n : Int) 0 H52) else none)) else (some ((.bool true), r39.2)))))
noncomputable def aW.tw (F : Nat) (aa : Nat) (ac : Nat) (ae : Int) (H : Hp) : OA := aW.twX F (aI.tw F) (bO.tw F) (bP.tw F) (aO.tw F) (cu.tw F) aa ac ae H
noncomputable def aW.code : Go.Code := (Try.f133.body).getD .skip
noncomputable def aW.lh32745 (F : Nat) (eA : Nat → Nat → Int → Hp → OA) (en : Int → Int → Sl → Int → Int → Hp → OA) (eo : Int → Int → Sl → Int → Int → Hp → OA) (af : Int → Int → Sl → Int → Int → Hp → OA) (bN : Int → Int → Sl → Int → Hp → OA) (ks : List Nat) (n : Nat) (tm : Tm) (H : Hp) : OA := match ks, tm 0, tm 1, tm 94, tm 95, tm 96 with
 | [], (.ptr gh gi), (.int .i64 fm), (.sl kF), (.int .i64 kV), (.int .i64 kW) => aW.l32745 F eA en eo af bN n gh gi fm kF kV kW H
 | _, _, _, _, _, _ => none
theorem aW.lh32745_inv {F : Nat} {eA : Nat → Nat → Int → Hp → OA} {en : Int → Int → Sl → Int → Int → Hp → OA} {eo : Int → Int → Sl → Int → Int → Hp → OA} {af : Int → Int → Sl → Int → Int → Hp → OA} {bN : Int → Int → Sl → Int → Hp → OA} {ks : List Nat} {n : Nat} {tm : Tm} {H : Hp} {r : AV × Hp} (h : aW.lh32745 F eA en eo af bN ks n tm H = some r) : ∃ gh : Nat, ∃ gi : Nat, ∃ fm : Int, ∃ kF : Sl, ∃ kV : Int, ∃ kW : Int, ks = [] ∧ tm 0 = (.ptr gh gi) ∧ tm 1 = (.int .i64 fm) ∧ tm 94 = (.sl kF) ∧ tm 95 = (.int .i64 kV) ∧ tm 96 = (.int .i64 kW) ∧ aW.l32745 F eA en eo af bN n gh gi fm kF kV kW H = some r := by
 unfold aW.lh32745 at h
 split at h
 ·exact ⟨_, _, _, _, _, _, rfl, by assumption, by assumption, by assumption, by assumption, by assumption, h⟩
 ·cases h
noncomputable def aW.lh32747 (F : Nat) (eA : Nat → Nat → Int → Hp → OA) (en : Int → Int → Sl → Int → Int → Hp → OA) (eo : Int → Int → Sl → Int → Int → Hp → OA) (af : Int → Int → Sl → Int → Int → Hp → OA) (bN : Int → Int → Sl → Int → Hp → OA) (ks : List Nat) (n : Nat) (tm : Tm) (H : Hp) : OA := match ks, tm 0, tm 1, tm 120, tm 121 with
 | [], (.ptr jL jM), (.int .i64 iA), (.int .i64 jr), (.int .i64 iB) => aW.l32747 F eA en eo af bN n jL jM iA jr iB H
 | _, _, _, _, _ => none
theorem aW.lh32747_inv {F : Nat} {eA : Nat → Nat → Int → Hp → OA} {en : Int → Int → Sl → Int → Int → Hp → OA} {eo : Int → Int → Sl → Int → Int → Hp → OA} {af : Int → Int → Sl → Int → Int → Hp → OA} {bN : Int → Int → Sl → Int → Hp → OA} {ks : List Nat} {n : Nat} {tm : Tm} {H : Hp} {r : AV × Hp} (h : aW.lh32747 F eA en eo af bN ks n tm H = some r) : ∃ jL : Nat, ∃ jM : Nat, ∃ iA : Int, ∃ jr : Int, ∃ iB : Int, ks = [] ∧ tm 0 = (.ptr jL jM) ∧ tm 1 = (.int .i64 iA) ∧ tm 120 = (.int .i64 jr) ∧ tm 121 = (.int .i64 iB) ∧ aW.l32747 F eA en eo af bN n jL jM iA jr iB H = some r := by
 unfold aW.lh32747 at h
 split at h
 ·exact ⟨_, _, _, _, _, rfl, by assumption, by assumption, by assumption, by assumption, h⟩
 ·cases h
noncomputable def aW.lh2095707 (F : Nat) (eA : Nat → Nat → Int → Hp → OA) (en : Int → Int → Sl → Int → Int → Hp → OA) (eo : Int → Int → Sl → Int → Int → Hp → OA) (af : Int → Int → Sl → Int → Int → Hp → OA) (bN : Int → Int → Sl → Int → Hp → OA) (ks : List Nat) (n : Nat) (tm : Tm) (H : Hp) : OA := match ks, tm 0, tm 1, tm 9, tm 94, tm 95, tm 96, tm 101, tm 102 with
 | [lK], (.ptr jQ jR), (.int .i64 ka), (.sl kb), (.sl kp), (.int .i64 kt), (.int .i64 kD), (.int .i64 kU), (.int .i64 kE) => aW.l2095707 F eA en eo af bN (aW.l32745 F eA en eo af bN lK) n jQ jR ka kp kt kD kb kU kE H
 | _, _, _, _, _, _, _, _, _ => none
theorem aW.lh2095707_inv {F : Nat} {eA : Nat → Nat → Int → Hp → OA} {en : Int → Int → Sl → Int → Int → Hp → OA} {eo : Int → Int → Sl → Int → Int → Hp → OA} {af : Int → Int → Sl → Int → Int → Hp → OA} {bN : Int → Int → Sl → Int → Hp → OA} {ks : List Nat} {n : Nat} {tm : Tm} {H : Hp} {r : AV × Hp} (h : aW.lh2095707 F eA en eo af bN ks n tm H = some r) : ∃ lK : Nat, ∃ jQ : Nat, ∃ jR : Nat, ∃ ka : Int, ∃ kb : Sl, ∃ kp : Sl, ∃ kt : Int, ∃ kD : Int, ∃ kU : Int, ∃ kE : Int, ks = [lK] ∧ tm 0 = (.ptr jQ jR) ∧ tm 1 = (.int .i64 ka) ∧ tm 9 = (.sl kb) ∧ tm 94 = (.sl kp) ∧ tm 95 = (.int .i64 kt) ∧ tm 96 = (.int .i64 kD) ∧ tm 101 = (.int .i64 kU) ∧ tm 102 = (.int .i64 kE) ∧ aW.l2095707 F eA en eo af bN (aW.l32745 F eA en eo af bN lK) n jQ jR ka kp kt kD kb kU kE H = some r := by
 unfold aW.lh2095707 at h
 split at h
 ·exact ⟨_, _, _, _, _, _, _, _, _, _, rfl, by assumption, by assumption, by assumption, by assumption, by assumption, by assumption, by assumption, by assumption, h⟩
 ·cases h
noncomputable def aW.lh (F : Nat) (eA : Nat → Nat → Int → Hp → OA) (en : Int → Int → Sl → Int → Int → Hp → OA) (eo : Int → Int → Sl → Int → Int → Hp → OA) (af : Int → Int → Sl → Int → Int → Hp → OA) (bN : Int → Int → Sl → Int → Hp → OA) (p : Nat) (ks : List Nat) (n : Nat) (tm : Tm) (H : Hp) : OA := bif p.beq 2095707 then aW.lh2095707 F eA en eo af bN ks n tm H else (bif p.beq 32747 then aW.lh32747 F eA en eo af bN ks n tm H else (bif p.beq 32745 then aW.lh32745 F eA en eo af bN ks n tm H else (none)))
def aW.pn : Nat → List Nat := fun i => (([(11, [13]), (23, [15, 20])] : List (Nat × List Nat)).lookup i).getD []
def aW.tb : Nat → List (List Nat) := fun i => (([(11, [[], [0], [0, 1], [0, 1, 2], [0, 1, 2, 3], [], [0, 1, 2, 3, 4, 5], [], [7], [7, 8], [7, 8, 9], [7, 8, 9, 10], [], [0, 1, 2, 3, 4, 5, 6, 7, 8, 9, 10, 11, 12], [0, 1, 2, 3, 4, 5, 6, 7, 8, 9, 10, 11, 12, 13], [0, 1, 2, 3, 4, 5, 6, 7, 8, 9, 10, 11, 12, 13, 14], []]), (23, [[], [0], [0, 1], [0, 1, 2], [0, 1, 2, 3], [], [], [0, 1, 2, 3, 4, 5, 6], [], [8], [8, 9], [8, 9, 10], [8, 9, 10, 11], [], [], [0, 1, 2, 3, 4, 5, 6, 7, 8, 9, 10, 11, 12, 13, 14], [0, 1, 2, 3, 4, 5, 6, 7, 8, 9, 10, 11, 12, 13, 14, 15], [0, 1, 2, 3, 4, 5, 6, 7, 8, 9, 10, 11, 12, 13, 14, 15, 16], [0, 1, 2, 3, 4, 5, 6, 7, 8, 9, 10, 11, 12, 13, 14, 15, 16, 17], [0, 1, 2, 3, 4, 5, 6, 7, 8, 9, 10, 11, 12, 13, 14, 15, 16, 17, 18], [0, 1, 2, 3, 4, 5, 6, 7, 8, 9, 10, 11, 12, 13, 14, 15, 16, 17, 18, 19]])] : List (Nat × List (List Nat))).lookup i).getD []
noncomputable def aW.mk (g : Nat → Nat → Int → Hp → OA) (args : List AV) (H : Hp) : OA := match args with
 | [(.ptr aa ac), (.int .i64 ae)] => g aa ac ae H
 | _ => none
noncomputable def aW.cs (F : Nat) (eA : Nat → Nat → Int → Hp → OA) (en : Int → Int → Sl → Int → Int → Hp → OA) (eo : Int → Int → Sl → Int → Int → Hp → OA) (af : Int → Int → Sl → Int → Int → Hp → OA) (bN : Int → Int → Sl → Int → Hp → OA) : List (FuncId × (List AV → Hp → OA)) := [(150, aI.mk eA), (151, bO.mk en), (152, bP.mk eo), (95, aO.mk af), (120, cu.mk bN)]
theorem aW.loops (F : Nat) (eA : Nat → Nat → Int → Hp → OA) (en : Int → Int → Sl → Int → Int → Hp → OA) (eo : Int → Int → Sl → Int → Int → Hp → OA) (af : Int → Int → Sl → Int → Int → Hp → OA) (bN : Int → Int → Sl → Int → Hp → OA) : LoopsOk tabs (mkOrc (aW.cs F eA en eo af bN)) aW.pn (aW.lh F eA en eo af bN) F [] 1 aW.code (fun tm H => aresults tabs.ty H tm Try.f133.results.toList fun v => some (v, H)) (fun _ _ _ => none) (fun tm H => aresults tabs.ty H tm Try.f133.results.toList fun v => some (v, H)) := by
 refine LoopsOk.seq ?_ ?_
 ·exact loops_none (by kernel_rfl)
 ·refine LoopsOk.seq ?_ ?_
  ·exact loops_none (by kernel_rfl)
  ·refine LoopsOk.seq ?_ ?_
   ·exact loops_none (by kernel_rfl)
   ·refine LoopsOk.seq ?_ ?_
    ·exact loops_none (by kernel_rfl)
    ·refine LoopsOk.seq ?_ ?_
     ·exact loops_none (by kernel_rfl)
     ·refine LoopsOk.seq ?_ ?_
      ·exact loops_none (by kernel_rfl)
      ·refine LoopsOk.seq ?_ ?_
       ·exact loops_none (by kernel_rfl)
       ·refine LoopsOk.seq ?_ ?_
        ·exact loops_none (by kernel_rfl)
        ·refine LoopsOk.seq ?_ ?_
         ·exact loops_none (by kernel_rfl)
         ·refine LoopsOk.seq ?_ ?_
          ·refine LoopsOk.seq ?_ ?_
           ·exact loops_none (by kernel_rfl)
           ·refine LoopsOk.cond ?_ ?_
            ·refine LoopsOk.seq ?_ ?_
             ·refine LoopsOk.seq ?_ ?_
              ·exact loops_none (by kernel_rfl)
              ·refine LoopsOk.block ?_
               refine LoopsOk.loop (fun tm H => ?_) (fun k32745 tm H r h0 => ?_) (fun k32745 => ?_)
               ·refine none_of fun r h0 => ?_
                obtain ⟨gh, gi, fm, kF, kV, kW, hks, e0, e1, e94, e95, e96, h⟩ := aW.lh32745_inv (show aW.lh32745 F eA en eo af bN [] 0 tm H = some r from h0)
                cases h
               ·obtain ⟨gh, gi, fm, kF, kV, kW, hks, e0, e1, e94, e95, e96, h⟩ := aW.lh32745_inv (show aW.lh32745 F eA en eo af bN [] (k32745 + 1) tm H = some r from h0)
                have q0 : (Tm.put tm 0 (.ptr gh gi)) = tm := by exact Tm.put_same e0
                have q1 : (Tm.put (Tm.put tm 0 (.ptr gh gi)) 1 (.int .i64 fm)) = tm := by rw [q0]; exact Tm.put_same e1
                have q2 : (Tm.put (Tm.put (Tm.put tm 0 (.ptr gh gi)) 1 (.int .i64 fm)) 94 (.sl kF)) = tm := by rw [q1]; exact Tm.put_same e94
                have q3 : (Tm.put (Tm.put (Tm.put (Tm.put tm 0 (.ptr gh gi)) 1 (.int .i64 fm)) 94 (.sl kF)) 95 (.int .i64 kV)) = tm := by rw [q2]; exact Tm.put_same e95
                have q4 : (Tm.put (Tm.put (Tm.put (Tm.put (Tm.put tm 0 (.ptr gh gi)) 1 (.int .i64 fm)) 94 (.sl kF)) 95 (.int .i64 kV)) 96 (.int .i64 kW)) = tm := by rw [q3]; exact Tm.put_same e96
                rw [← q4]
                exact Eq.trans (by kernel_rfl) h
               ·refine LoopsOk.seq ?_ ?_
                ·exact loops_none (by kernel_rfl)
                ·refine LoopsOk.seq ?_ ?_
                 ·exact loops_none (by kernel_rfl)
                 ·refine LoopsOk.seq ?_ ?_
                  ·refine LoopsOk.block ?_
                   refine LoopsOk.seq ?_ ?_
                   ·exact loops_none (by kernel_rfl)
                   ·refine LoopsOk.seq ?_ ?_
                    ·exact loops_none (by kernel_rfl)
                    ·refine LoopsOk.block ?_
                     refine LoopsOk.loop (fun tm H => ?_) (fun k2095707 tm H r h0 => ?_) (fun k2095707 => ?_)
                     ·refine none_of fun r h0 => ?_
                      obtain ⟨lK, jQ, jR, ka, kb, kp, kt, kD, kU, kE, hks, e0, e1, e9, e94, e95, e96, e101, e102, h⟩ := aW.lh2095707_inv (show aW.lh2095707 F eA en eo af bN [k32745] 0 tm H = some r from h0)
                      cases h
                     ·obtain ⟨lK, jQ, jR, ka, kb, kp, kt, kD, kU, kE, hks, e0, e1, e9, e94, e95, e96, e101, e102, h⟩ := aW.lh2095707_inv (show aW.lh2095707 F eA en eo af bN [k32745] (k2095707 + 1) tm H = some r from h0)
                      obtain rfl : lK = k32745 := by simpa [eq_comm] using hks
                      have q0 : (Tm.put tm 0 (.ptr jQ jR)) = tm := by exact Tm.put_same e0
                      have q1 : (Tm.put (Tm.put tm 0 (.ptr jQ jR)) 1 (.int .i64 ka)) = tm := by rw [q0]; exact Tm.put_same e1
                      have q2 : (Tm.put (Tm.put (Tm.put tm 0 (.ptr jQ jR)) 1 (.int .i64 ka)) 9 (.sl kb)) = tm := by rw [q1]; exact Tm.put_same e9
                      have q3 : (Tm.put (Tm.put (Tm.put (Tm.put tm 0 (.ptr jQ jR)) 1 (.int .i64 ka)) 9 (.sl kb)) 94 (.sl kp)) = tm := by rw [q2]; exact Tm.put_same e94
                      have q4 : (Tm.put (Tm.put (Tm.put (Tm.put (Tm.put tm 0 (.ptr jQ jR)) 1 (.int .i64 ka)) 9 (.sl kb)) 94 (.sl kp)) 95 (.int .i64 kt)) = tm := by rw [q3]; exact Tm.put_same e95
                      have q5 : (Tm.put (Tm.put (Tm.put (Tm.put (Tm.put (Tm.put tm 0 (.ptr jQ jR)) 1 (.int .i64 ka)) 9 (.sl kb)) 94 (.sl kp)) 95 (.int .i64 kt)) 96 (.int .i64 kD)) = tm := by rw [q4]; exact Tm.put_same e96
                      have q6 : (Tm.put (Tm.put (Tm.put (Tm.put (Tm.put (Tm.put (Tm.put tm 0 (.ptr jQ jR)) 1 (.int .i64 ka)) 9 (.sl kb)) 94 (.sl kp)) 95 (.int .i64 kt)) 96 (.int .i64 kD)) 101 (.int .i64 kU)) = tm := by rw [q5]; exact Tm.put_same e101
                      have q7 : (Tm.put (Tm.put (Tm.put (Tm.put (Tm.put (Tm.put (Tm.put (Tm.put tm 0 (.ptr jQ jR)) 1 (.int .i64 ka)) 9 (.sl kb)) 94 (.sl kp)) 95 (.int .i64 kt)) 96 (.int .i64 kD)) 101 (.int .i64 kU)) 102 (.int .i64 kE)) = tm := by rw [q6]; exact Tm.put_same e102
                      rw [← q7]
                      exact Eq.trans (by kernel_rfl) h
                     ·exact loops_none (by kernel_rfl)
                  ·exact loops_none (by kernel_rfl)
             ·refine LoopsOk.seq ?_ ?_
              ·exact loops_none (by kernel_rfl)
              ·refine LoopsOk.block ?_
               refine LoopsOk.loop (fun tm H => ?_) (fun k32747 tm H r h0 => ?_) (fun k32747 => ?_)
               ·refine none_of fun r h0 => ?_
                obtain ⟨jL, jM, iA, jr, iB, hks, e0, e1, e120, e121, h⟩ := aW.lh32747_inv (show aW.lh32747 F eA en eo af bN [] 0 tm H = some r from h0)
                cases h
               ·obtain ⟨jL, jM, iA, jr, iB, hks, e0, e1, e120, e121, h⟩ := aW.lh32747_inv (show aW.lh32747 F eA en eo af bN [] (k32747 + 1) tm H = some r from h0)
                have q0 : (Tm.put tm 0 (.ptr jL jM)) = tm := by exact Tm.put_same e0
                have q1 : (Tm.put (Tm.put tm 0 (.ptr jL jM)) 1 (.int .i64 iA)) = tm := by rw [q0]; exact Tm.put_same e1
                have q2 : (Tm.put (Tm.put (Tm.put tm 0 (.ptr jL jM)) 1 (.int .i64 iA)) 120 (.int .i64 jr)) = tm := by rw [q1]; exact Tm.put_same e120
                have q3 : (Tm.put (Tm.put (Tm.put (Tm.put tm 0 (.ptr jL jM)) 1 (.int .i64 iA)) 120 (.int .i64 jr)) 121 (.int .i64 iB)) = tm := by rw [q2]; exact Tm.put_same e121
                rw [← q3]
                exact Eq.trans (by kernel_rfl) h
               ·exact loops_none (by kernel_rfl)
            ·exact loops_none (by kernel_rfl)
          ·exact loops_none (by kernel_rfl)
theorem aW.eqX (F : Nat) (eA : Nat → Nat → Int → Hp → OA) (en : Int → Int → Sl → Int → Int → Hp → OA) (eo : Int → Int → Sl → Int → Int → Hp → OA) (af : Int → Int → Sl → Int → Int → Hp → OA) (bN : Int → Int → Sl → Int → Hp → OA) (aa : Nat) (ac : Nat) (ae : Int) (H : Hp) : aCode tabs (mkOrc (aW.cs F eA en eo af bN)) aW.pn (aW.lh F eA en eo af bN) F [] 1 aW.code (argTm [(.ptr aa ac), (.int .i64 ae)]) H (fun tm H => aresults tabs.ty H tm Try.f133.results.toList fun v => some (v, H)) (fun _ _ _ => none) (fun tm H => aresults tabs.ty H tm Try.f133.results.toList fun v => some (v, H)) = aW.twX F eA en eo af bN aa ac ae H := by kernel_rfl
theorem aW.cs_ok (F : Nat) : ∀ p ∈ aW.cs F (aI.tw F) (bO.tw F) (bP.tw F) (aO.tw F) (cu.tw F), ∀ args H v H', p.2 args H = some (v, H') → Go.AE.T Try.prog p.1 args H v H' := by
 intro p hp
 simp only [aW.cs, List.mem_cons, List.not_mem_nil, or_false] at hp
 rcases hp with rfl | rfl | rfl | rfl | rfl
 ·exact fun args H v H' h => aI.mk_T h
 ·exact fun args H v H' h => bO.mk_T h
 ·exact fun args H v H' h => bP.mk_T h
 ·exact fun args H v H' h => aO.mk_T h
 ·exact fun args H v H' h => cu.mk_T h
theorem aW.ok : codeOk aW.pn Try.f133.ntmps aW.tb aW.code = true := by kernel_rfl
theorem aW.T {F : Nat} {aa : Nat} {ac : Nat} {ae : Int} {H : Hp} {v : AV} {H' : Hp} (h : aW.tw F aa ac ae H = some (v, H')) : Go.AE.T Try.prog 133 [(.ptr aa ac), (.int .i64 ae)] H v H' :=
 Go.AE.T.of (Y := tabs) (C := mkOrc (aW.cs F (aI.tw F) (bO.tw F) (bP.tw F) (aO.tw F) (cu.tw F))) (PN := aW.pn) (LH := aW.lh F (aI.tw F) (bO.tw F) (bP.tw F) (aO.tw F) (cu.tw F)) (F := F) (TB := aW.tb) (fn := Try.f133) (code := aW.code) mixed tabs_ok (mkOrc_ok (aW.cs_ok F)) Try.func133 (by kernel_rfl) (by kernel_rfl) aW.ok (Nat.le_of_ble_eq_true (by kernel_rfl)) (aW.loops F (aI.tw F) (bO.tw F) (bP.tw F) (aO.tw F) (cu.tw F)) (Eq.trans (aW.eqX F (aI.tw F) (bO.tw F) (bP.tw F) (aO.tw F) (cu.tw F) aa ac ae H) h)
theorem aW.mk_T {F : Nat} {args : List AV} {H : Hp} {v : AV} {H' : Hp} (h : aW.mk (aW.tw F) args H = some (v, H')) : Go.AE.T Try.prog 133 args H v H' := by
 unfold aW.mk at h
 split at h
 ·exact aW.T h
 ·cases h
noncomputable def dr.twX (F : Nat) (aa : Int) (ak : Int) (H : Hp) : OA := (if ak = 0 then none else ((if ak = 0 then none else ((bif (decide ((Int.tmod aa ak) < 0)) then (some ((.int .i64 (IntKind.i64.wrap ((IntKind.i64.wrap (Int.tdiv aa ak)) - 1))), H)) else (some ((.int .i64 (IntKind.i64.wrap (Int.tdiv aa ak))), H)))))))
noncomputable def dr.tw (F : Nat) (aa : Int) (ak : Int) (H : Hp) : OA := dr.twX F aa ak H
noncomputable def dr.code : Go.Code := (Try.f153.body).getD .skip
noncomputable def dr.lh (F : Nat) (p : Nat) (ks : List Nat) (n : Nat) (tm : Tm) (H : Hp) : OA := none
def dr.pn : Nat → List Nat := fun i => (([] : List (Nat × List Nat)).lookup i).getD []
def dr.tb : Nat → List (List Nat) := fun i => (([] : List (Nat × List (List Nat))).lookup i).getD []
noncomputable def dr.mk (g : Int → Int → Hp → OA) (args : List AV) (H : Hp) : OA := match args with
 | [(.int .i64 aa), (.int .i64 ak)] => g aa ak H
 | _ => none
noncomputable def dr.cs (F : Nat) : List (FuncId × (List AV → Hp → OA)) := []
theorem dr.loops (F : Nat) : LoopsOk tabs (mkOrc (dr.cs F)) dr.pn (dr.lh F) F [] 1 dr.code (fun tm H => aresults tabs.ty H tm Try.f153.results.toList fun v => some (v, H)) (fun _ _ _ => none) (fun tm H => aresults tabs.ty H tm Try.f153.results.toList fun v => some (v, H)) := by
 exact loops_none (by kernel_rfl)
theorem dr.eqX (F : Nat) (aa : Int) (ak : Int) (H : Hp) : aCode tabs (mkOrc (dr.cs F)) dr.pn (dr.lh F) F [] 1 dr.code (argTm [(.int .i64 aa), (.int .i64 ak)]) H (fun tm H => aresults tabs.ty H tm Try.f153.results.toList fun v => some (v, H)) (fun _ _ _ => none) (fun tm H => aresults tabs.ty H tm Try.f153.results.toList fun v => some (v, H)) = dr.twX F aa ak H := by kernel_rfl
theorem dr.cs_ok (F : Nat) : ∀ p ∈ dr.cs F, ∀ args H v H', p.2 args H = some (v, H') → Go.AE.T Try.prog p.1 args H v H' := by
 intro p hp
 exact absurd (show p ∈ [] from hp) List.not_mem_nil
theorem dr.ok : codeOk dr.pn Try.f153.ntmps dr.tb dr.code = true := by kernel_rfl
theorem dr.T {F : Nat} {aa : Int} {ak : Int} {H : Hp} {v : AV} {H' : Hp} (h : dr.tw F aa ak H = some (v, H')) : Go.AE.T Try.prog 153 [(.int .i64 aa), (.int .i64 ak)] H v H' :=
 Go.AE.T.of (Y := tabs) (C := mkOrc (dr.cs F)) (PN := dr.pn) (LH := dr.lh F) (F := F) (TB := dr.tb) (fn := Try.f153) (code := dr.code) mixed tabs_ok (mkOrc_ok (dr.cs_ok F)) Try.func153 (by kernel_rfl) (by kernel_rfl) dr.ok (Nat.le_of_ble_eq_true (by kernel_rfl)) (dr.loops F) (Eq.trans (dr.eqX F aa ak H) h)
theorem dr.mk_T {F : Nat} {args : List AV} {H : Hp} {v : AV} {H' : Hp} (h : dr.mk (dr.tw F) args H = some (v, H')) : Go.AE.T Try.prog 153 args H v H' := by
 unfold dr.mk at h
 split at h
 ·exact dr.T h
 ·cases h
noncomputable def dw.twX (F : Nat) (di : Int → Hp → OA) (aa : Int) (ak : Int) (cH : Int) (H : Hp) : OA := (bif (aa != 0) then ((di ak H).bind fun r4 => ((r4.1).asI .i64).bind fun n5 => (di aa r4.2).bind fun r6 => ((r6.1).asI .i64).bind fun n7 => (if n7 = 0 then none else ((bif (decide (n5 > (IntKind.i64.wrap (Int.tdiv cH n7)))) then (some ((.tup [(.int .i64 0), (.bool false)]), r6.2)) else (some ((.tup [(.int .i64 (IntKind.i64.wrap (aa * ak))), (.bool true)]), r6.2)))))) else (some ((.tup [(.int .i64 (IntKind.i64.wrap (aa * ak))), (.bool true)]), H)))
noncomputable def dw.tw (F : Nat) (aa : Int) (ak : Int) (cH : Int) (H : Hp) : OA := dw.twX F (ch.tw F) aa ak cH H
noncomputable def dw.code : Go.Code := (Try.f138.body).getD .skip
noncomputable def dw.lh (F : Nat) (di : Int → Hp → OA) (p : Nat) (ks : List Nat) (n : Nat) (tm : Tm) (H : Hp) : OA := none
def dw.pn : Nat → List Nat := fun i => (([] : List (Nat × List Nat)).lookup i).getD []
def dw.tb : Nat → List (List Nat) := fun i => (([] : List (Nat × List (List Nat))).lookup i).getD []
noncomputable def dw.mk (g : Int → Int → Int → Hp → OA) (args : List AV) (H : Hp) : OA := match args with
 | [(.int .i64 aa), (.int .i64 ak), (.int .i64 cH)] => g aa ak cH H
 | _ => none
noncomputable def dw.cs (F : Nat) (di : Int → Hp → OA) : List (FuncId × (List AV → Hp → OA)) := [(102, ch.mk di)]
theorem dw.loops (F : Nat) (di : Int → Hp → OA) : LoopsOk tabs (mkOrc (dw.cs F di)) dw.pn (dw.lh F di) F [] 1 dw.code (fun tm H => aresults tabs.ty H tm Try.f138.results.toList fun v => some (v, H)) (fun _ _ _ => none) (fun tm H => aresults tabs.ty H tm Try.f138.results.toList fun v => some (v, H)) := by
 exact loops_none (by kernel_rfl)
theorem dw.eqX (F : Nat) (di : Int → Hp → OA) (aa : Int) (ak : Int) (cH : Int) (H : Hp) : aCode tabs (mkOrc (dw.cs F di)) dw.pn (dw.lh F di) F [] 1 dw.code (argTm [(.int .i64 aa), (.int .i64 ak), (.int .i64 cH)]) H (fun tm H => aresults tabs.ty H tm Try.f138.results.toList fun v => some (v, H)) (fun _ _ _ => none) (fun tm H => aresults tabs.ty H tm Try.f138.results.toList fun v => some (v, H)) = dw.twX F di aa ak cH H := by kernel_rfl
theorem dw.cs_ok (F : Nat) : ∀ p ∈ dw.cs F (ch.tw F), ∀ args H v H', p.2 args H = some (v, H') → Go.AE.T Try.prog p.1 args H v H' := by
 intro p hp
 simp only [dw.cs, List.mem_cons, List.not_mem_nil, or_false] at hp
 subst hp
 exact fun args H v H' h => ch.mk_T h
theorem dw.ok : codeOk dw.pn Try.f138.ntmps dw.tb dw.code = true := by kernel_rfl
end Go.Proofs.Ytnkgeongfneafaa.AE
