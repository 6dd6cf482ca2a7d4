import Derived.Test.YtnkgeongfneafaaTab1
set_option linter.unusedVariables false
set_option linter.unusedSimpArgs false
namespace Go.Proofs.Ytnkgeongfneafaa.AE
open Go Go.AE Go.Proofs
set_option linter.unusedVariables false
set_option maxHeartbeats 4000000
set_option maxRecDepth 100000
noncomputable def ec.twX (F : Nat) (aa : Sl) (ag : Int) (H : Hp) : OA := (bif (decide ((IntKind.i64.wrap (ag - (aa.n : Int))) < 0)) then (some ((.int .i64 (-1)), H)) else (some ((.int .i64 (IntKind.i64.wrap (ag - (aa.n : Int)))), H)))
noncomputable def ec.tw (F : Nat) (aa : Sl) (ag : Int) (H : Hp) : OA := ec.twX F aa ag H
noncomputable def ec.code : Go.Code := (Try.f71.body).getD .skip
noncomputable def ec.lh (F : Nat) (p : Nat) (ks : List Nat) (n : Nat) (tm : Tm) (H : Hp) : OA := none
def ec.pn : Nat → List Nat := fun i => (([] : List (Nat × List Nat)).lookup i).getD []
def ec.tb : Nat → List (List Nat) := fun i => (([] : List (Nat × List (List Nat))).lookup i).getD []
noncomputable def ec.mk (g : Sl → Int → Hp → OA) (args : List AV) (H : Hp) : OA := match args with
 | [(.sl aa), (.int .i64 ag)] => g aa ag H
 | _ => none
noncomputable def ec.cs (F : Nat) : List (FuncId × (List AV → Hp → OA)) := []
theorem ec.loops (F : Nat) : LoopsOk tabs (mkOrc (ec.cs F)) ec.pn (ec.lh F) F [] 1 ec.code (fun tm H => aresults tabs.ty H tm Try.f71.results.toList fun v => some (v, H)) (fun _ _ _ => none) (fun tm H => aresults tabs.ty H tm Try.f71.results.toList fun v => some (v, H)) := by
 exact loops_none (by kernel_rfl)
theorem ec.eqX (F : Nat) (aa : Sl) (ag : Int) (H : Hp) : aCode tabs (mkOrc (ec.cs F)) ec.pn (ec.lh F) F [] 1 ec.code (argTm [(.sl aa), (.int .i64 ag)]) H (fun tm H => aresults tabs.ty H tm Try.f71.results.toList fun v => some (v, H)) (fun _ _ _ => none) (fun tm H => aresults tabs.ty H tm Try.f71.results.toList fun v => some (v, H)) = ec.twX F aa ag H := by kernel_rfl
theorem ec.cs_ok (F : Nat) : ∀ p ∈ ec.cs F, ∀ args H v H', p.2 args H = some (v, H') → Go.AE.T Try.prog p.1 args H v H' := by
 intro p hp
 exact absurd (show p ∈ [] from hp) List.not_mem_nil
theorem ec.ok : codeOk ec.pn Try.f71.ntmps ec.tb ec.code = true := by kernel_rfl
theorem ec.T {F : Nat} {aa : Sl} {ag : Int} {H : Hp} {v : AV} {H' : Hp} (h : ec.tw F aa ag H = some (v, H')) : Go.AE.T Try.prog 71 [(.sl aa), (.int .i64 ag)] H v H' :=
 Go.AE.T.of (Y := tabs) (C := mkOrc (ec.cs F)) (PN := ec.pn) (LH := ec.lh F) (F := F) (TB := ec.tb) (fn := Try.f71) (code := ec.code) mixed tabs_ok (mkOrc_ok (ec.cs_ok F)) Try.func71 (by kernel_rfl) (by kernel_rfl) ec.ok (Nat.le_of_ble_eq_true (by kernel_rfl)) (ec.loops F) (Eq.trans (ec.eqX F aa ag H) h)
theorem ec.mk_T {F : Nat} {args : List AV} {H : Hp} {v : AV} {H' : Hp} (h : ec.mk (ec.tw F) args H = some (v, H')) : Go.AE.T Try.prog 71 args H v H' := by
 unfold ec.mk at h
 split at h
 ·exact ec.T h
 ·cases h
noncomputable def dH.twX (F : Nat) (kT : Sl → Int → Hp → OA) (aa : Int) (ac : Int) (ak : Sl) (af : Int) (H : Hp) : OA := (Hp.new H [(.int .i64 aa), (.int .i64 ac), (.sl ak)]).bind fun H5 => (Hp.ldSl H5 H.length 2).bind fun s6 => (kT s6 af H5).bind fun r7 => ((r7.1).asI .i64).bind fun n8 => (bif (decide (n8 < 0)) then (some ((.int .i64 (-1)), r7.2)) else (some ((.int .i64 n8), r7.2)))
noncomputable def dH.tw (F : Nat) (aa : Int) (ac : Int) (ak : Sl) (af : Int) (H : Hp) : OA := dH.twX F (ec.tw F) aa ac ak af H
noncomputable def dH.code : Go.Code := (Try.f23.body).getD .skip
noncomputable def dH.lh (F : Nat) (kT : Sl → Int → Hp → OA) (p : Nat) (ks : List Nat) (n : Nat) (tm : Tm) (H : Hp) : OA := none
def dH.pn : Nat → List Nat := fun i => (([] : List (Nat × List Nat)).lookup i).getD []
def dH.tb : Nat → List (List Nat) := fun i => (([] : List (Nat × List (List Nat))).lookup i).getD []
noncomputable def dH.mk (g : Int → Int → Sl → Int → Hp → OA) (args : List AV) (H : Hp) : OA := match args with
 | [(.agg [(.int .i64 aa), (.int .i64 ac), (.sl ak)]), (.int .i64 af)] => g aa ac ak af H
 | _ => none
noncomputable def dH.cs (F : Nat) (kT : Sl → Int → Hp → OA) : List (FuncId × (List AV → Hp → OA)) := [(71, ec.mk kT)]
theorem dH.loops (F : Nat) (kT : Sl → Int → Hp → OA) : LoopsOk tabs (mkOrc (dH.cs F kT)) dH.pn (dH.lh F kT) F [] 1 dH.code (fun tm H => aresults tabs.ty H tm Try.f23.results.toList fun v => some (v, H)) (fun _ _ _ => none) (fun tm H => aresults tabs.ty H tm Try.f23.results.toList fun v => some (v, H)) := by
 exact loops_none (by kernel_rfl)
theorem dH.eqX (F : Nat) (kT : Sl → Int → Hp → OA) (aa : Int) (ac : Int) (ak : Sl) (af : Int) (H : Hp) : aCode tabs (mkOrc (dH.cs F kT)) dH.pn (dH.lh F kT) F [] 1 dH.code (argTm [(.agg [(.int .i64 aa), (.int .i64 ac), (.sl ak)]), (.int .i64 af)]) H (fun tm H => aresults tabs.ty H tm Try.f23.results.toList fun v => some (v, H)) (fun _ _ _ => none) (fun tm H => aresults tabs.ty H tm Try.f23.results.toList fun v => some (v, H)) = dH.twX F kT aa ac ak af H := by kernel_rfl
theorem dH.cs_ok (F : Nat) : ∀ p ∈ dH.cs F (ec.tw F), ∀ args H v H', p.2 args H = some (v, H') → Go.AE.T Try.prog p.1 args H v H' := by
 intro p hp
 simp only [dH.cs, List.mem_cons, List.not_mem_nil, or_false] at hp
 subst hp
 exact fun args H v H' h => ec.mk_T h
theorem dH.ok : codeOk dH.pn Try.f23.ntmps dH.tb dH.code = true := by kernel_rfl
theorem dH.T {F : Nat} {aa : Int} {ac : Int} {ak : Sl} {af : Int} {H : Hp} {v : AV} {H' : Hp} (h : dH.tw F aa ac ak af H = some (v, H')) : Go.AE.T Try.prog 23 [(.agg [(.int .i64 aa), (.int .i64 ac), (.sl ak)]), (.int .i64 af)] H v H' :=
 Go.AE.T.of (Y := tabs) (C := mkOrc (dH.cs F (ec.tw F))) (PN := dH.pn) (LH := dH.lh F (ec.tw F)) (F := F) (TB := dH.tb) (fn := Try.f23) (code := dH.code) mixed tabs_ok (mkOrc_ok (dH.cs_ok F)) Try.func23 (by kernel_rfl) (by kernel_rfl) dH.ok (Nat.le_of_ble_eq_true (by kernel_rfl)) (dH.loops F (ec.tw F)) (Eq.trans (dH.eqX F (ec.tw F) aa ac ak af H) h)
theorem dH.mk_T {F : Nat} {args : List AV} {H : Hp} {v : AV} {H' : Hp} (h : dH.mk (dH.tw F) args H = some (v, H')) : Go.AE.T Try.prog 23 args H v H' := by
 unfold dH.mk at h
 split at h
 ·exact dH.T h
 ·cases h
noncomputable def ct.l29 (F : Nat)  : Nat → Sl → Sl → Int → Hp → OA
 | 0, _, _, _, _ => none
 | eN + 1, cX, kI, ik, H7 => (bif (decide (ik < (cX.n : Int))) then ((Sl.idx cX ik 1).bind fun p12 => (Hp.ldI H7 .i64 p12.1 p12.2).bind fun n13 => (Sl.idx kI ik 1).bind fun p14 => (Hp.st H7 p14.1 p14.2 (.int .i64 n13)).bind fun H15 => ct.l29 F eN cX kI (IntKind.i64.wrap (ik + 1)) H15) else (some ((.sl kI), H7)))
termination_by structural n => n
noncomputable def ct.twX (F : Nat) (aa : Sl) (H : Hp) : OA := (Hp.mk H [.int .i64 0] 8 (aa.n : Int) (aa.n : Int)).bind fun m2 => ct.l29 F F aa m2.1 0 m2.2
noncomputable def ct.tw (F : Nat) (aa : Sl) (H : Hp) : OA := ct.twX F aa H
noncomputable def ct.code : Go.Code := (Try.f72.body).getD .skip
noncomputable def ct.lh29 (F : Nat) (ks : List Nat) (n : Nat) (tm : Tm) (H : Hp) : OA := match ks, tm 0, tm 3, tm 4 with
 | [], (.sl cX), (.sl kI), (.int .i64 ik) => ct.l29 F n cX kI ik H
 | _, _, _, _ => none
theorem ct.lh29_inv {F : Nat} {ks : List Nat} {n : Nat} {tm : Tm} {H : Hp} {r : AV × Hp} (h : ct.lh29 F ks n tm H = some r) : ∃ cX : Sl, ∃ kI : Sl, ∃ ik : Int, ks = [] ∧ tm 0 = (.sl cX) ∧ tm 3 = (.sl kI) ∧ tm 4 = (.int .i64 ik) ∧ ct.l29 F n cX kI ik H = some r := by
 unfold ct.lh29 at h
 split at h
 ·exact ⟨_, _, _, rfl, by assumption, by assumption, by assumption, h⟩
 ·cases h
noncomputable def ct.lh (F : Nat) (p : Nat) (ks : List Nat) (n : Nat) (tm : Tm) (H : Hp) : OA := bif p.beq 29 then ct.lh29 F ks n tm H else (none)
def ct.pn : Nat → List Nat := fun i => (([] : List (Nat × List Nat)).lookup i).getD []
def ct.tb : Nat → List (List Nat) := fun i => (([] : List (Nat × List (List Nat))).lookup i).getD []
noncomputable def ct.mk (g : Sl → Hp → OA) (args : List AV) (H : Hp) : OA := match args with
 | [(.sl aa)] => g aa H
 | _ => none
noncomputable def ct.cs (F : Nat) : List (FuncId × (List AV → Hp → OA)) := []
theorem ct.loops (F : Nat) : LoopsOk tabs (mkOrc (ct.cs F)) ct.pn (ct.lh F) F [] 1 ct.code (fun tm H => aresults tabs.ty H tm Try.f72.results.toList fun v => some (v, H)) (fun _ _ _ => none) (fun tm H => aresults tabs.ty H tm Try.f72.results.toList fun v => some (v, H)) := by
 refine LoopsOk.seq ?_ ?_
 ·exact loops_none (by kernel_rfl)
 ·refine LoopsOk.seq ?_ ?_
  ·exact loops_none (by kernel_rfl)
  ·refine LoopsOk.seq ?_ ?_
   ·refine LoopsOk.seq ?_ ?_
    ·exact loops_none (by kernel_rfl)
    ·refine LoopsOk.block ?_
     refine LoopsOk.loop (fun tm H => ?_) (fun k29 tm H r h0 => ?_) (fun k29 => ?_)
     ·refine none_of fun r h0 => ?_
      obtain ⟨cX, kI, ik, hks, e0, e3, e4, h⟩ := ct.lh29_inv (show ct.lh29 F [] 0 tm H = some r from h0)
      cases h
     ·obtain ⟨cX, kI, ik, hks, e0, e3, e4, h⟩ := ct.lh29_inv (show ct.lh29 F [] (k29 + 1) tm H = some r from h0)
      have q0 : (Tm.put tm 0 (.sl cX)) = tm := by exact Tm.put_same e0
      have q1 : (Tm.put (Tm.put tm 0 (.sl cX)) 3 (.sl kI)) = tm := by rw [q0]; exact Tm.put_same e3
      have q2 : (Tm.put (Tm.put (Tm.put tm 0 (.sl cX)) 3 (.sl kI)) 4 (.int .i64 ik)) = tm := by rw [q1]; exact Tm.put_same e4
      rw [← q2]
      exact Eq.trans (by kernel_rfl) h
     ·exact loops_none (by kernel_rfl)
   ·exact loops_none (by kernel_rfl)
theorem ct.eqX (F : Nat) (aa : Sl) (H : Hp) : aCode tabs (mkOrc (ct.cs F)) ct.pn (ct.lh F) F [] 1 ct.code (argTm [(.sl aa)]) H (fun tm H => aresults tabs.ty H tm Try.f72.results.toList fun v => some (v, H)) (fun _ _ _ => none) (fun tm H => aresults tabs.ty H tm Try.f72.results.toList fun v => some (v, H)) = ct.twX F aa H := by kernel_rfl
theorem ct.cs_ok (F : Nat) : ∀ p ∈ ct.cs F, ∀ args H v H', p.2 args H = some (v, H') → Go.AE.T Try.prog p.1 args H v H' := by
 intro p hp
 exact absurd (show p ∈ [] from hp) List.not_mem_nil
theorem ct.ok : codeOk ct.pn Try.f72.ntmps ct.tb ct.code = true := by kernel_rfl
theorem ct.T {F : Nat} {aa : Sl} {H : Hp} {v : AV} {H' : Hp} (h : ct.tw F aa H = some (v, H')) : Go.AE.T Try.prog 72 [(.sl aa)] H v H' :=
 Go.AE.T.of (Y := tabs) (C := mkOrc (ct.cs F)) (PN := ct.pn) (LH := ct.lh F) (F := F) (TB := ct.tb) (fn := Try.f72) (code := ct.code) mixed tabs_ok (mkOrc_ok (ct.cs_ok F)) Try.func72 (by kernel_rfl) (by kernel_rfl) ct.ok (Nat.le_of_ble_eq_true (by kernel_rfl)) (ct.loops F) (Eq.trans (ct.eqX F aa H) h)
theorem ct.mk_T {F : Nat} {args : List AV} {H : Hp} {v : AV} {H' : Hp} (h : ct.mk (ct.tw F) args H = some (v, H')) : Go.AE.T Try.prog 72 args H v H' := by
 unfold ct.mk at h
 split at h
 ·exact ct.T h
 ·cases h
noncomputable def du.twX (F : Nat) (kU : Sl → Hp → OA) (aa : Int) (ac : Int) (ak : Sl) (H : Hp) : OA := (Hp.new H [(.int .i64 aa), (.int .i64 ac), (.sl ak)]).bind fun H4 => (Hp.new H4 [.int .i64 0, .int .i64 0, .sl ⟨none, 0, .ex 0⟩]).bind fun H5 => (Hp.new H5 [.int .i64 0, .int .i64 0, .sl ⟨none, 0, .ex 0⟩]).bind fun H6 => (Hp.ldI H6 .i64 H.length 0).bind fun n7 => (Hp.st H6 H5.length 0 (.int .i64 n7)).bind fun H8 => (Hp.ldI H8 .i64 H.length 1).bind fun n9 => (Hp.st H8 H5.length 1 (.int .i64 n9)).bind fun H10 => (Hp.ldSl H10 H.length 2).bind fun s11 => (kU s11 H10).bind fun r12 => ((r12.1).asSl).bind fun s13 => (Hp.st r12.2 H5.length 2 (.sl s13)).bind fun H14 => (Hp.ldI H14 .i64 H5.length 0).bind fun n15 => (Hp.ldI H14 .i64 H5.length (0 + 1)).bind fun n16 => (Hp.ldSl H14 H5.length (0 + 2)).bind fun s17 => (Hp.st H14 H4.length 0 (.int .i64 n15)).bind fun H18 => (Hp.st H18 H4.length (0 + 1) (.int .i64 n16)).bind fun H19 => (Hp.st H19 H4.length (0 + 1 + 1) (.sl s17)).bind fun H20 => (Hp.ldI H20 .i64 H4.length 0).bind fun n21 => (Hp.ldI H20 .i64 H4.length (0 + 1)).bind fun n22 => (Hp.ldSl H20 H4.length (0 + 2)).bind fun s23 => some ((.agg [(.int .i64 n21), (.int .i64 n22), (.sl s23)]), H20)
noncomputable def du.tw (F : Nat) (aa : Int) (ac : Int) (ak : Sl) (H : Hp) : OA := du.twX F (ct.tw F) aa ac ak H
noncomputable def du.code : Go.Code := (Try.f25.body).getD .skip
noncomputable def du.lh (F : Nat) (kU : Sl → Hp → OA) (p : Nat) (ks : List Nat) (n : Nat) (tm : Tm) (H : Hp) : OA := none
def du.pn : Nat → List Nat := fun i => (([] : List (Nat × List Nat)).lookup i).getD []
def du.tb : Nat → List (List Nat) := fun i => (([] : List (Nat × List (List Nat))).lookup i).getD []
noncomputable def du.mk (g : Int → Int → Sl → Hp → OA) (args : List AV) (H : Hp) : OA := match args with
 | [(.agg [(.int .i64 aa), (.int .i64 ac), (.sl ak)])] => g aa ac ak H
 | _ => none
noncomputable def du.cs (F : Nat) (kU : Sl → Hp → OA) : List (FuncId × (List AV → Hp → OA)) := [(72, ct.mk kU)]
theorem du.loops (F : Nat) (kU : Sl → Hp → OA) : LoopsOk tabs (mkOrc (du.cs F kU)) du.pn (du.lh F kU) F [] 1 du.code (fun tm H => aresults tabs.ty H tm Try.f25.results.toList fun v => some (v, H)) (fun _ _ _ => none) (fun tm H => aresults tabs.ty H tm Try.f25.results.toList fun v => some (v, H)) := by
 exact loops_none (by kernel_rfl)
theorem du.eqX (F : Nat) (kU : Sl → Hp → OA) (aa : Int) (ac : Int) (ak : Sl) (H : Hp) : aCode tabs (mkOrc (du.cs F kU)) du.pn (du.lh F kU) F [] 1 du.code (argTm [(.agg [(.int .i64 aa), (.int .i64 ac), (.sl ak)])]) H (fun tm H => aresults tabs.ty H tm Try.f25.results.toList fun v => some (v, H)) (fun _ _ _ => none) (fun tm H => aresults tabs.ty H tm Try.f25.results.toList fun v => some (v, H)) = du.twX F kU aa ac ak H := by kernel_rfl
theorem du.cs_ok (F : Nat) : ∀ p ∈ du.cs F (ct.tw F), ∀ args H v H', p.2 args H = some (v, H') → Go.AE.T Try.prog p.1 args H v H' := by
 intro p hp
 simp only [du.cs, List.mem_cons, List.not_mem_nil, or_false] at hp
 subst hp
 exact fun args H v H' h => ct.mk_T h
theorem du.ok : codeOk du.pn Try.f25.ntmps du.tb du.code = true := by kernel_rfl
theorem du.T {F : Nat} {aa : Int} {ac : Int} {ak : Sl} {H : Hp} {v : AV} {H' : Hp} (h : du.tw F aa ac ak H = some (v, H')) : Go.AE.T Try.prog 25 [(.agg [(.int .i64 aa), (.int .i64 ac), (.sl ak)])] H v H' :=
 Go.AE.T.of (Y := tabs) (C := mkOrc (du.cs F (ct.tw F))) (PN := du.pn) (LH := du.lh F (ct.tw F)) (F := F) (TB := du.tb) (fn := Try.f25) (code := du.code) mixed tabs_ok (mkOrc_ok (du.cs_ok F)) Try.func25 (by kernel_rfl) (by kernel_rfl) du.ok (Nat.le_of_ble_eq_true (by kernel_rfl)) (du.loops F (ct.tw F)) (Eq.trans (du.eqX F (ct.tw F) aa ac ak H) h)
theorem du.mk_T {F : Nat} {args : List AV} {H : Hp} {v : AV} {H' : Hp} (h : du.mk (du.tw F) args H = some (v, H')) : Go.AE.T Try.prog 25 args H v H' := by
 unfold du.mk at h
 split at h
 ·exact du.T h
 ·cases h
noncomputable def dC.twX (F : Nat) (aa : Int) (ag : Int) (cJ : Int) (H : Hp) : OA := (bif (decide (aa ≥ ag)) then (some ((.bool (decide (aa ≤ cJ))), H)) else (some ((.bool false), H)))
noncomputable def dC.tw (F : Nat) (aa : Int) (ag : Int) (cJ : Int) (H : Hp) : OA := dC.twX F aa ag cJ H
noncomputable def dC.code : Go.Code := (Try.f68.body).getD .skip
noncomputable def dC.lh (F : Nat) (p : Nat) (ks : List Nat) (n : Nat) (tm : Tm) (H : Hp) : OA := none
def dC.pn : Nat → List Nat := fun i => (([] : List (Nat × List Nat)).lookup i).getD []
def dC.tb : Nat → List (List Nat) := fun i => (([] : List (Nat × List (List Nat))).lookup i).getD []
noncomputable def dC.mk (g : Int → Int → Int → Hp → OA) (args : List AV) (H : Hp) : OA := match args with
 | [(.int .i64 aa), (.int .i64 ag), (.int .i64 cJ)] => g aa ag cJ H
 | _ => none
noncomputable def dC.cs (F : Nat) : List (FuncId × (List AV → Hp → OA)) := []
theorem dC.loops (F : Nat) : LoopsOk tabs (mkOrc (dC.cs F)) dC.pn (dC.lh F) F [] 1 dC.code (fun tm H => aresults tabs.ty H tm Try.f68.results.toList fun v => some (v, H)) (fun _ _ _ => none) (fun tm H => aresults tabs.ty H tm Try.f68.results.toList fun v => some (v, H)) := by
 exact loops_none (by kernel_rfl)
theorem dC.eqX (F : Nat) (aa : Int) (ag : Int) (cJ : Int) (H : Hp) : aCode tabs (mkOrc (dC.cs F)) dC.pn (dC.lh F) F [] 1 dC.code (argTm [(.int .i64 aa), (.int .i64 ag), (.int .i64 cJ)]) H (fun tm H => aresults tabs.ty H tm Try.f68.results.toList fun v => some (v, H)) (fun _ _ _ => none) (fun tm H => aresults tabs.ty H tm Try.f68.results.toList fun v => some (v, H)) = dC.twX F aa ag cJ H := by kernel_rfl
theorem dC.cs_ok (F : Nat) : ∀ p ∈ dC.cs F, ∀ args H v H', p.2 args H = some (v, H') → Go.AE.T Try.prog p.1 args H v H' := by
 intro p hp
 exact absurd (show p ∈ [] from hp) List.not_mem_nil
theorem dC.ok : codeOk dC.pn Try.f68.ntmps dC.tb dC.code = true := by kernel_rfl
theorem dC.T {F : Nat} {aa : Int} {ag : Int} {cJ : Int} {H : Hp} {v : AV} {H' : Hp} (h : dC.tw F aa ag cJ H = some (v, H')) : Go.AE.T Try.prog 68 [(.int .i64 aa), (.int .i64 ag), (.int .i64 cJ)] H v H' :=
 Go.AE.T.of (Y := tabs) (C := mkOrc (dC.cs F)) (PN := dC.pn) (LH := dC.lh F) (F := F) (TB := dC.tb) (fn := Try.f68) (code := dC.code) mixed tabs_ok (mkOrc_ok (dC.cs_ok F)) Try.func68 (by kernel_rfl) (by kernel_rfl) dC.ok (Nat.le_of_ble_eq_true (by kernel_rfl)) (dC.loops F) (Eq.trans (dC.eqX F aa ag cJ H) h)
theorem dC.mk_T {F : Nat} {args : List AV} {H : Hp} {v : AV} {H' : Hp} (h : dC.mk (dC.tw F) args H = some (v, H')) : Go.AE.T Try.prog 68 args H v H' := by
 unfold dC.mk at h
 split at h
 ·exact dC.T h
 ·cases h
noncomputable def co.l29 (F : Nat) (gX : Int → Int → Int → Hp → OA)  : Nat → Nat → Nat → Int → Hp → OA
 | 0, _, _, _, _ => none
 | eN + 1, jU, kJ, ja, H22 => (Hp.ldSl H22 jU (kJ + 2)).bind fun s29 => (bif (decide (ja < (s29.n : Int))) then ((Hp.ldSl H22 jU (kJ + 2)).bind fun s30 => (Sl.idx s30 ja 1).bind fun p31 => (Hp.ldI H22 .i64 p31.1 p31.2).bind fun n32 => (gX n32 (-1000000000000) 1000000000000 H22).bind fun r33 => ((r33.1).asB).bind fun b34 => (bif (!b34) then (some ((.bool false), r33.2)) else (co.l29 F gX eN jU kJ (IntKind.i64.wrap (ja + 1)) r33.2))) else (some ((.bool true), H22)))
termination_by structural n => n
noncomputable def co.twX (F : Nat) (gX : Int → Int → Int → Hp → OA) (aa : Int) (ac : Int) (ak : Sl) (H : Hp) : OA := (Hp.new H [(.int .i64 aa), (.int .i64 ac), (.sl ak)]).bind fun H4 => (Hp.ldI H4 .i64 H.length 0).bind fun n5 => (gX n5 0 48 H4).bind fun r6 => ((r6.1).asB).bind fun b7 => (bif (!b7) then (some ((.bool false), r6.2)) else ((Hp.ldI r6.2 .i64 H.length 1).bind fun n8 => (gX n8 0 48 r6.2).bind fun r9 => ((r9.1).asB).bind fun b10 => (bif (!b10) then (some ((.bool false), r9.2)) else ((Hp.ldSl r9.2 H.length 2).bind fun s11 => (Hp.ldI r9.2 .i64 H.length 0).bind fun n12 => (Hp.ldI r9.2 .i64 H.length 1).bind fun n13 => (bif ((s11.n : Int) != (IntKind.i64.wrap (n12 * n13))) then (some ((.bool false), r9.2)) else (co.l29 F gX F H.length 0 0 r9.2))))))
noncomputable def co.tw (F : Nat) (aa : Int) (ac : Int) (ak : Sl) (H : Hp) : OA := co.twX F (dC.tw F) aa ac ak H
noncomputable def co.code : Go.Code := (Try.f19.body).getD .skip
noncomputable def co.lh29 (F : Nat) (gX : Int → Int → Int → Hp → OA) (ks : List Nat) (n : Nat) (tm : Tm) (H : Hp) : OA := match ks, tm 1, tm 3 with
 | [], (.ptr jU kJ), (.int .i64 ja) => co.l29 F gX n jU kJ ja H
 | _, _, _ => none
theorem co.lh29_inv {F : Nat} {gX : Int → Int → Int → Hp → OA} {ks : List Nat} {n : Nat} {tm : Tm} {H : Hp} {r : AV × Hp} (h : co.lh29 F gX ks n tm H = some r) : ∃ jU : Nat, ∃ kJ : Nat, ∃ ja : Int, ks = [] ∧ tm 1 = (.ptr jU kJ) ∧ tm 3 = (.int .i64 ja) ∧ co.l29 F gX n jU kJ ja H = some r := by
 unfold co.lh29 at h
 split at h
 ·exact ⟨_, _, _, rfl, by assumption, by assumption, h⟩
 ·cases h
noncomputable def co.lh (F : Nat) (gX : Int → Int → Int → Hp → OA) (p : Nat) (ks : List Nat) (n : Nat) (tm : Tm) (H : Hp) : OA := bif p.beq 29 then co.lh29 F gX ks n tm H else (none)
def co.pn : Nat → List Nat := fun i => (([] : List (Nat × List Nat)).lookup i).getD []
def co.tb : Nat → List (List Nat) := fun i => (([] : List (Nat × List (List Nat))).lookup i).getD []
noncomputable def co.mk (g : Int → Int → Sl → Hp → OA) (args : List AV) (H : Hp) : OA := match args with
 | [(.agg [(.int .i64 aa), (.int .i64 ac), (.sl ak)])] => g aa ac ak H
 | _ => none
noncomputable def co.cs (F : Nat) (gX : Int → Int → Int → Hp → OA) : List (FuncId × (List AV → Hp → OA)) := [(68, dC.mk gX)]
theorem co.loops (F : Nat) (gX : Int → Int → Int → Hp → OA) : LoopsOk tabs (mkOrc (co.cs F gX)) co.pn (co.lh F gX) F [] 1 co.code (fun tm H => aresults tabs.ty H tm Try.f19.results.toList fun v => some (v, H)) (fun _ _ _ => none) (fun tm H => aresults tabs.ty H tm Try.f19.results.toList fun v => some (v, H)) := by
 refine LoopsOk.seq ?_ ?_
 ·exact loops_none (by kernel_rfl)
 ·refine LoopsOk.seq ?_ ?_
  ·exact loops_none (by kernel_rfl)
  ·refine LoopsOk.seq ?_ ?_
   ·refine LoopsOk.seq ?_ ?_
    ·exact loops_none (by kernel_rfl)
    ·refine LoopsOk.block ?_
     refine LoopsOk.loop (fun tm H => ?_) (fun k29 tm H r h0 => ?_) (fun k29 => ?_)
     ·refine none_of fun r h0 => ?_
      obtain ⟨jU, kJ, ja, hks, e1, e3, h⟩ := co.lh29_inv (show co.lh29 F gX [] 0 tm H = some r from h0)
      cases h
     ·obtain ⟨jU, kJ, ja, hks, e1, e3, h⟩ := co.lh29_inv (show co.lh29 F gX [] (k29 + 1) tm H = some r from h0)
      have q0 : (Tm.put tm 1 (.ptr jU kJ)) = tm := by exact Tm.put_same e1
      have q1 : (Tm.put (Tm.put tm 1 (.ptr jU kJ)) 3 (.int .i64 ja)) = tm := by rw [q0]; exact Tm.put_same e3
      rw [← q1]
      exact Eq.trans (by kernel_rfl) h
     ·exact loops_none (by kernel_rfl)
   ·exact loops_none (by kernel_rfl)
theorem co.eqX (F : Nat) (gX : Int → Int → Int → Hp → OA) (aa : Int) (ac : Int) (ak : Sl) (H : Hp) : aCode tabs (mkOrc (co.cs F gX)) co.pn (co.lh F gX) F [] 1 co.code (argTm [(.agg [(.int .i64 aa), (.int .i64 ac), (.sl ak)])]) H (fun tm H => aresults tabs.ty H tm Try.f19.results.toList fun v => some (v, H)) (fun _ _ _ => none) (fun tm H => aresults tabs.ty H tm Try.f19.results.toList fun v => some (v, H)) = co.twX F gX aa ac ak H := by kernel_rfl
theorem co.cs_ok (F : Nat) : ∀ p ∈ co.cs F (dC.tw F), ∀ args H v H', p.2 args H = some (v, H') → Go.AE.T Try.prog p.1 args H v H' := by
 intro p hp
 simp only [co.cs, List.mem_cons, List.not_mem_nil, or_false] at hp
 subst hp
 exact fun args H v H' h => dC.mk_T h
theorem co.ok : codeOk co.pn Try.f19.ntmps co.tb co.code = true := by kernel_rfl
theorem co.T {F : Nat} {aa : Int} {ac : Int} {ak : Sl} {H : Hp} {v : AV} {H' : Hp} (h : co.tw F aa ac ak H = some (v, H')) : Go.AE.T Try.prog 19 [(.agg [(.int .i64 aa), (.int .i64 ac), (.sl ak)])] H v H' :=
 Go.AE.T.of (Y := tabs) (C := mkOrc (co.cs F (dC.tw F))) (PN := co.pn) (LH := co.lh F (dC.tw F)) (F := F) (TB := co.tb) (fn := Try.f19) (code := co.code) mixed tabs_ok (mkOrc_ok (co.cs_ok F)) Try.func19 (by kernel_rfl) (by kernel_rfl) co.ok (Nat.le_of_ble_eq_true (by kernel_rfl)) (co.loops F (dC.tw F)) (Eq.trans (co.eqX F (dC.tw F) aa ac ak H) h)
theorem co.mk_T {F : Nat} {args : List AV} {H : Hp} {v : AV} {H' : Hp} (h : co.mk (co.tw F) args H = some (v, H')) : Go.AE.T Try.prog 19 args H v H' := by
 unfold co.mk at h
 split at h
 ·exact co.T h
 ·cases h
noncomputable def dS.twX (F : Nat) (aa : Int) (ag : Int) (H : Hp) : OA := (Hp.new H [.int .i64 0, .int .i64 0, .sl ⟨none, 0, .ex 0⟩]).bind fun H3 => (Hp.mk H3 [.int .i64 0] 8 (IntKind.i64.wrap (aa * ag)) (IntKind.i64.wrap (aa * ag))).bind fun m4 => (Hp.st m4.2 H.length 0 (.int .i64 aa)).bind fun H5 => (Hp.st H5 H.length (0 + 1) (.int .i64 ag)).bind fun H6 => (Hp.st H6 H.length (0 + 1 + 1) (.sl m4.1)).bind fun H7 => (Hp.ldI H7 .i64 H.length 0).bind fun n8 => (Hp.ldI H7 .i64 H.length (0 + 1)).bind fun n9 => (Hp.ldSl H7 H.length (0 + 2)).bind fun s10 => some ((.agg [(.int .i64 n8), (.int .i64 n9), (.sl s10)]), H7)
noncomputable def dS.tw (F : Nat) (aa : Int) (ag : Int) (H : Hp) : OA := dS.twX F aa ag H
noncomputable def dS.code : Go.Code := (Try.f80.body).getD .skip
noncomputable def dS.lh (F : Nat) (p : Nat) (ks : List Nat) (n : Nat) (tm : Tm) (H : Hp) : OA := none
def dS.pn : Nat → List Nat := fun i => (([] : List (Nat × List Nat)).lookup i).getD []
def dS.tb : Nat → List (List Nat) := fun i => (([] : List (Nat × List (List Nat))).lookup i).getD []
noncomputable def dS.mk (g : Int → Int → Hp → OA) (args : List AV) (H : Hp) : OA := match args with
 | [(.int .i64 aa), (.int .i64 ag)] => g aa ag H
 | _ => none
noncomputable def dS.cs (F : Nat) : List (FuncId × (List AV → Hp → OA)) := []
theorem dS.loops (F : Nat) : LoopsOk tabs (mkOrc (dS.cs F)) dS.pn (dS.lh F) F [] 1 dS.code (fun tm H => aresults tabs.ty H tm Try.f80.results.toList fun v => some (v, H)) (fun _ _ _ => none) (fun tm H => aresults tabs.ty H tm Try.f80.results.toList fun v => some (v, H)) := by
 exact loops_none (by kernel_rfl)
theorem dS.eqX (F : Nat) (aa : Int) (ag : Int) (H : Hp) : aCode tabs (mkOrc (dS.cs F)) dS.pn (dS.lh F) F [] 1 dS.code (argTm [(.int .i64 aa), (.int .i64 ag)]) H (fun tm H => aresults tabs.ty H tm Try.f80.results.toList fun v => some (v, H)) (fun _ _ _ => none) (fun tm H => aresults tabs.ty H tm Try.f80.results.toList fun v => some (v, H)) = dS.twX F aa ag H := by kernel_rfl
theorem dS.cs_ok (F : Nat) : ∀ p ∈ dS.cs F, ∀ args H v H', p.2 args H = some (v, H') → Go.AE.T Try.prog p.1 args H v H' := by
 intro p hp
 exact absurd (show p ∈ [] from hp) List.not_mem_nil
theorem dS.ok : codeOk dS.pn Try.f80.ntmps dS.tb dS.code = true := by kernel_rfl
theorem dS.T {F : Nat} {aa : Int} {ag : Int} {H : Hp} {v : AV} {H' : Hp} (h : dS.tw F aa ag H = some (v, H')) : Go.AE.T Try.prog 80 [(.int .i64 aa), (.int .i64 ag)] H v H' :=
 Go.AE.T.of (Y := tabs) (C := mkOrc (dS.cs F)) (PN := dS.pn) (LH := dS.lh F) (F := F) (TB := dS.tb) (fn := Try.f80) (code := dS.code) mixed tabs_ok (mkOrc_ok (dS.cs_ok F)) Try.func80 (by kernel_rfl) (by kernel_rfl) dS.ok (Nat.le_of_ble_eq_true (by kernel_rfl)) (dS.loops F) (Eq.trans (dS.eqX F aa ag H) h)
theorem dS.mk_T {F : Nat} {args : List AV} {H : Hp} {v : AV} {H' : Hp} (h : dS.mk (dS.tw F) args H = some (v, H')) : Go.AE.T Try.prog 80 args H v H' := by
 unfold dS.mk at h
 split at h
 ·exact dS.T h
 ·cases h
noncomputable def bM.l29 (F : Nat) (il : Int → Int → Hp → OA)  : Nat → Int → Nat → Nat → Nat → Nat → Int → Hp → OA
 | 0, _, _, _, _, _, _, _ => none
 | eN + 1, hQ, ch, fQ, fo, gb, im, H21 => (bif (decide (im < hQ)) then ((Hp.ldSl H21 fo (gb + 2)).bind fun s34 => (Sl.idx s34 (IntKind.i64.wrap ((IntKind.i64.wrap (im * hQ)) + im)) 1).bind fun p35 => (Hp.st H21 p35.1 p35.2 (.int .i64 1)).bind fun H36 => bM.l29 F il eN hQ ch fQ fo gb (IntKind.i64.wrap (im + 1)) H36) else ((Hp.ldI H21 .i64 fo gb).bind fun n37 => (Hp.ldI H21 .i64 fo (gb + 1)).bind fun n38 => (Hp.ldSl H21 fo (gb + 2)).bind fun s39 => (Hp.st H21 ch fQ (.int .i64 n37)).bind fun H40 => (Hp.st H40 ch (fQ + 1) (.int .i64 n38)).bind fun H41 => (Hp.st H41 ch (fQ + 1 + 1) (.sl s39)).bind fun H42 => (Hp.ldI H42 .i64 ch fQ).bind fun n43 => (Hp.ldI H42 .i64 ch (fQ + 1)).bind fun n44 => (Hp.ldSl H42 ch (fQ + 2)).bind fun s45 => some ((.agg [(.int .i64 n43), (.int .i64 n44), (.sl s45)]), H42)))
termination_by structural n => n
noncomputable def bM.twX (F : Nat) (il : Int → Int → Hp → OA) (aa : Int) (H : Hp) : OA := (Hp.new H [.int .i64 0, .int .i64 0, .sl ⟨none, 0, .ex 0⟩]).bind fun H2 => (il aa aa H2).bind fun r3 => ((r3.1).asAgg 3).bind fun l4 => (l4[0]?).bind fun v5 => ((v5).asI .i64).bind fun n6 => (l4[1]?).bind fun v7 => ((v7).asI .i64).bind fun n8 => (l4[2]?).bind fun v9 => ((v9).asSl).bind fun s10 => (Hp.new r3.2 [.int .i64 0, .int .i64 0, .sl ⟨none, 0, .ex 0⟩]).bind fun H11 => (Hp.st H11 r3.2.length 0 (.int .i64 n6)).bind fun H12 => (Hp.st H12 r3.2.length (0 + 1) (.int .i64 n8)).bind fun H13 => (Hp.st H13 r3.2.length (0 + 1 + 1) (.sl s10)).bind fun H14 => bM.l29 F il F aa H.length 0 r3.2.length 0 0 H14
noncomputable def bM.tw (F : Nat) (aa : Int) (H : Hp) : OA := bM.twX F (dS.tw F) aa H
noncomputable def bM.code : Go.Code := (Try.f115.body).getD .skip
noncomputable def bM.lh29 (F : Nat) (il : Int → Int → Hp → OA) (ks : List Nat) (n : Nat) (tm : Tm) (H : Hp) : OA := match ks, tm 0, tm 2, tm 3, tm 4 with
 | [], (.int .i64 hQ), (.ptr ch fQ), (.ptr fo gb), (.int .i64 im) => bM.l29 F il n hQ ch fQ fo gb im H
 | _, _, _, _, _ => none
theorem bM.lh29_inv {F : Nat} {il : Int → Int → Hp → OA} {ks : List Nat} {n : Nat} {tm : Tm} {H : Hp} {r : AV × Hp} (h : bM.lh29 F il ks n tm H = some r) : ∃ hQ : Int, ∃ ch : Nat, ∃ fQ : Nat, ∃ fo : Nat, ∃ gb : Nat, ∃ im : Int, ks = [] ∧ tm 0 = (.int .i64 hQ) ∧ tm 2 = (.ptr ch fQ) ∧ tm 3 = (.ptr fo gb) ∧ tm 4 = (.int .i64 im) ∧ bM.l29 F il n hQ ch fQ fo gb im H = some r := by
 unfold bM.lh29 at h
 split at h
 ·exact ⟨_, _, _, _, _, _, rfl, by assumption, by assumption, by assumption, by assumption, h⟩
 ·cases h
noncomputable def bM.lh (F : Nat) (il : Int → Int → Hp → OA) (p : Nat) (ks : List Nat) (n : Nat) (tm : Tm) (H : Hp) : OA := bif p.beq 29 then bM.lh29 F il ks n tm H else (none)
def bM.pn : Nat → List Nat := fun i => (([] : List (Nat × List Nat)).lookup i).getD []
def bM.tb : Nat → List (List Nat) := fun i => (([] : List (Nat × List (List Nat))).lookup i).getD []
noncomputable def bM.mk (g : Int → Hp → OA) (args : List AV) (H : Hp) : OA := match args with
 | [(.int .i64 aa)] => g aa H
 | _ => none
noncomputable def bM.cs (F : Nat) (il : Int → Int → Hp → OA) : List (FuncId × (List AV → Hp → OA)) := [(80, dS.mk il)]
theorem bM.loops (F : Nat) (il : Int → Int → Hp → OA) : LoopsOk tabs (mkOrc (bM.cs F il)) bM.pn (bM.lh F il) F [] 1 bM.code (fun tm H => aresults tabs.ty H tm Try.f115.results.toList fun v => some (v, H)) (fun _ _ _ => none) (fun tm H => aresults tabs.ty H tm Try.f115.results.toList fun v => some (v, H)) := by
 refine LoopsOk.seq ?_ ?_
 ·exact loops_none (by kernel_rfl)
 ·refine LoopsOk.seq ?_ ?_
  ·exact loops_none (by kernel_rfl)
  ·refine LoopsOk.seq ?_ ?_
   ·refine LoopsOk.seq ?_ ?_
    ·exact loops_none (by kernel_rfl)
    ·refine LoopsOk.block ?_
     refine LoopsOk.loop (fun tm H => ?_) (fun k29 tm H r h0 => ?_) (fun k29 => ?_)
     ·refine none_of fun r h0 => ?_
      obtain ⟨hQ, ch, fQ, fo, gb, im, hks, e0, e2, e3, e4, h⟩ := bM.lh29_inv (show bM.lh29 F il [] 0 tm H = some r from h0)
      cases h
     ·obtain ⟨hQ, ch, fQ, fo, gb, im, hks, e0, e2, e3, e4, h⟩ := bM.lh29_inv (show bM.lh29 F il [] (k29 + 1) tm H = some r from h0)
      have q0 : (Tm.put tm 0 (.int .i64 hQ)) = tm := by exact Tm.put_same e0
      have q1 : (Tm.put (Tm.put tm 0 (.int .i64 hQ)) 2 (.ptr ch fQ)) = tm := by rw [q0]; exact Tm.put_same e2
      have q2 : (Tm.put (Tm.put (Tm.put tm 0 (.int .i64 hQ)) 2 (.ptr ch fQ)) 3 (.ptr fo gb)) = tm := by rw [q1]; exact Tm.put_same e3
      have q3 : (Tm.put (Tm.put (Tm.put (Tm.put tm 0 (.int .i64 hQ)) 2 (.ptr ch fQ)) 3 (.ptr fo gb)) 4 (.int .i64 im)) = tm := by rw [q2]; exact Tm.put_same e4
      rw [← q3]
      exact Eq.trans (by kernel_rfl) h
     ·exact loops_none (by kernel_rfl)
   ·exact loops_none (by kernel_rfl)
theorem bM.eqX (F : Nat) (il : Int → Int → Hp → OA) (aa : Int) (H : Hp) : aCode tabs (mkOrc (bM.cs F il)) bM.pn (bM.lh F il) F [] 1 bM.code (argTm [(.int .i64 aa)]) H (fun tm H => aresults tabs.ty H tm Try.f115.results.toList fun v => some (v, H)) (fun _ _ _ => none) (fun tm H => aresults tabs.ty H tm Try.f115.results.toList fun v => some (v, H)) = bM.twX F il aa H := by kernel_rfl
theorem bM.cs_ok (F : Nat) : ∀ p ∈ bM.cs F (dS.tw F), ∀ args H v H', p.2 args H = some (v, H') → Go.AE.T Try.prog p.1 args H v H' := by
 intro p hp
 simp only [bM.cs, List.mem_cons, List.not_mem_nil, or_false] at hp
 subst hp
 exact fun args H v H' h => dS.mk_T h
theorem bM.ok : codeOk bM.pn Try.f115.ntmps bM.tb bM.code = true := by kernel_rfl
theorem bM.T {F : Nat} {aa : Int} {H : Hp} {v : AV} {H' : Hp} (h : bM.tw F aa H = some (v, H')) : Go.AE.T Try.prog 115 [(.int .i64 aa)] H v H' :=
 Go.AE.T.of (Y := tabs) (C := mkOrc (bM.cs F (dS.tw F))) (PN := bM.pn) (LH := bM.lh F (dS.tw F)) (F := F) (TB := bM.tb) (fn := Try.f115) (code := bM.code) mixed tabs_ok (mkOrc_ok (bM.cs_ok F)) Try.func115 (by kernel_rfl) (by kernel_rfl) bM.ok (Nat.le_of_ble_eq_true (by kernel_rfl)) (bM.loops F (dS.tw F)) (Eq.trans (bM.eqX F (dS.tw F) aa H) h)
theorem bM.mk_T {F : Nat} {args : List AV} {H : Hp} {v : AV} {H' : Hp} (h : bM.mk (bM.tw F) args H = some (v, H')) : Go.AE.T Try.prog 115 args H v H' := by
 unfold bM.mk at h
 split at h
 ·exact bM.T h
 ·cases h
noncomputable def aC.twX (F : Nat) (aa : Int) (ac : Int) (ak : Sl) (af : Int) (bh : Int) (H : Hp) : OA := (Hp.new H [(.int .i64 aa), (.int .i64 ac), (.sl ak)]).bind fun H6 => (Hp.ldSl H6 H.length 2).bind fun s7 => (Hp.ldI H6 .i64 H.length 1).bind fun n8 => (Sl.idx s7 (IntKind.i64.wrap ((IntKind.i64.wrap (af * n8)) + bh)) 1).bind fun p9 => (Hp.ldI H6 .i64 p9.1 p9.2).bind fun n10 => some ((.int .i64 n10), H6)
noncomputable def aC.tw (F : Nat) (aa : Int) (ac : Int) (ak : Sl) (af : Int) (bh : Int) (H : Hp) : OA := aC.twX F aa ac ak af bh H
noncomputable def aC.code : Go.Code := (Try.f79.body).getD .skip
noncomputable def aC.lh (F : Nat) (p : Nat) (ks : List Nat) (n : Nat) (tm : Tm) (H : Hp) : OA := none
def aC.pn : Nat → List Nat := fun i => (([] : List (Nat × List Nat)).lookup i).getD []
def aC.tb : Nat → List (List Nat) := fun i => (([] : List (Nat × List (List Nat))).lookup i).getD []
noncomputable def aC.mk (g : Int → Int → Sl → Int → Int → Hp → OA) (args : List AV) (H : Hp) : OA := match args with
 | [(.agg [(.int .i64 aa), (.int .i64 ac), (.sl ak)]), (.int .i64 af), (.int .i64 bh)] => g aa ac ak af bh H
 | _ => none
noncomputable def aC.cs (F : Nat) : List (FuncId × (List AV → Hp → OA)) := []
theorem aC.loops (F : Nat) : LoopsOk tabs (mkOrc (aC.cs F)) aC.pn (aC.lh F) F [] 1 aC.code (fun tm H => aresults tabs.ty H tm Try.f79.results.toList fun v => some (v, H)) (fun _ _ _ => none) (fun tm H => aresults tabs.ty H tm Try.f79.results.toList fun v => some (v, H)) := by
 exact loops_none (by kernel_rfl)
theorem aC.eqX (F : Nat) (aa : Int) (ac : Int) (ak : Sl) (af : Int) (bh : Int) (H : Hp) : aCode tabs (mkOrc (aC.cs F)) aC.pn (aC.lh F) F [] 1 aC.code (argTm [(.agg [(.int .i64 aa), (.int .i64 ac), (.sl ak)]), (.int .i64 af), (.int .i64 bh)]) H (fun tm H => aresults tabs.ty H tm Try.f79.results.toList fun v => some (v, H)) (fun _ _ _ => none) (fun tm H => aresults tabs.ty H tm Try.f79.results.toList fun v => some (v, H)) = aC.twX F aa ac ak af bh H := by kernel_rfl
theorem aC.cs_ok (F : Nat) : ∀ p ∈ aC.cs F, ∀ args H v H', p.2 args H = some (v, H') → Go.AE.T Try.prog p.1 args H v H' := by
 intro p hp
 exact absurd (show p ∈ [] from hp) List.not_mem_nil
theorem aC.ok : codeOk aC.pn Try.f79.ntmps aC.tb aC.code = true := by kernel_rfl
theorem aC.T {F : Nat} {aa : Int} {ac : Int} {ak : Sl} {af : Int} {bh : Int} {H : Hp} {v : AV} {H' : Hp} (h : aC.tw F aa ac ak af bh H = some (v, H')) : Go.AE.T Try.prog 79 [(.agg [(.int .i64 aa), (.int .i64 ac), (.sl ak)]), (.int .i64 af), (.int .i64 bh)] H v H' :=
 Go.AE.T.of (Y := tabs) (C := mkOrc (aC.cs F)) (PN := aC.pn) (LH := aC.lh F) (F := F) (TB := aC.tb) (fn := Try.f79) (code := aC.code) mixed tabs_ok (mkOrc_ok (aC.cs_ok F)) Try.func79 (by kernel_rfl) (by kernel_rfl) aC.ok (Nat.le_of_ble_eq_true (by kernel_rfl)) (aC.loops F) (Eq.trans (aC.eqX F aa ac ak af bh H) h)
theorem aC.mk_T {F : Nat} {args : List AV} {H : Hp} {v : AV} {H' : Hp} (h : aC.mk (aC.tw F) args H = some (v, H')) : Go.AE.T Try.prog 79 args H v H' := by
 unfold aC.mk at h
 split at h
 ·exact aC.T h
 ·cases h
noncomputable def cl.twX (F : Nat) (aa : Int) (H : Hp) : OA := some ((.int .i64 (if (IntKind.i64.wrap (0 - aa)) > aa then (IntKind.i64.wrap (0 - aa)) else aa)), H)
noncomputable def cl.tw (F : Nat) (aa : Int) (H : Hp) : OA := cl.twX F aa H
noncomputable def cl.code : Go.Code := (Try.f114.body).getD .skip
noncomputable def cl.lh (F : Nat) (p : Nat) (ks : List Nat) (n : Nat) (tm : Tm) (H : Hp) : OA := none
def cl.pn : Nat → List Nat := fun i => (([] : List (Nat × List Nat)).lookup i).getD []
def cl.tb : Nat → List (List Nat) := fun i => (([] : List (Nat × List (List Nat))).lookup i).getD []
noncomputable def cl.mk (g : Int → Hp → OA) (args : List AV) (H : Hp) : OA := match args with
 | [(.int .i64 aa)] => g aa H
 | _ => none
noncomputable def cl.cs (F : Nat) : List (FuncId × (List AV → Hp → OA)) := []
theorem cl.loops (F : Nat) : LoopsOk tabs (mkOrc (cl.cs F)) cl.pn (cl.lh F) F [] 1 cl.code (fun tm H => aresults tabs.ty H tm Try.f114.results.toList fun v => some (v, H)) (fun _ _ _ => none) (fun tm H => aresults tabs.ty H tm Try.f114.results.toList fun v => some (v, H)) := by
 exact loops_none (by kernel_rfl)
theorem cl.eqX (F : Nat) (aa : Int) (H : Hp) : aCode tabs (mkOrc (cl.cs F)) cl.pn (cl.lh F) F [] 1 cl.code (argTm [(.int .i64 aa)]) H (fun tm H => aresults tabs.ty H tm Try.f114.results.toList fun v => some (v, H)) (fun _ _ _ => none) (fun tm H => aresults tabs.ty H tm Try.f114.results.toList fun v => some (v, H)) = cl.twX F aa H := by kernel_rfl
theorem cl.cs_ok (F : Nat) : ∀ p ∈ cl.cs F, ∀ args H v H', p.2 args H = some (v, H') → Go.AE.T Try.prog p.1 args H v H' := by
 intro p hp
 exact absurd (show p ∈ [] from hp) List.not_mem_nil
theorem cl.ok : codeOk cl.pn Try.f114.ntmps cl.tb cl.code = true := by kernel_rfl
theorem cl.T {F : Nat} {aa : Int} {H : Hp} {v : AV} {H' : Hp} (h : cl.tw F aa H = some (v, H')) : Go.AE.T Try.prog 114 [(.int .i64 aa)] H v H' :=
 Go.AE.T.of (Y := tabs) (C := mkOrc (cl.cs F)) (PN := cl.pn) (LH := cl.lh F) (F := F) (TB := cl.tb) (fn := Try.f114) (code := cl.code) mixed tabs_ok (mkOrc_ok (cl.cs_ok F)) Try.func114 (by kernel_rfl) (by kernel_rfl) cl.ok (Nat.le_of_ble_eq_true (by kernel_rfl)) (cl.loops F) (Eq.trans (cl.eqX F aa H) h)
theorem cl.mk_T {F : Nat} {args : List AV} {H : Hp} {v : AV} {H' : Hp} (h : cl.mk (cl.tw F) args H = some (v, H')) : Go.AE.T Try.prog 114 args H v H' := by
 unfold cl.mk at h
 split at h
 ·exact cl.T h
 ·cases h
noncomputable def bH.l7 (F : Nat) (ai : Int → Int → Sl → Int → Int → Hp → OA)  : Nat → Int → Int → Nat → Nat → Int → Hp → OA
 | 0, _, _, _, _, _, _ => none
 | kk + 1, eO, eW, eA, cK, eB, H15 => (Hp.ldI H15 .i64 eA (cK + 1)).bind fun n35 => (bif (decide (eB < n35)) then ((Hp.ldI H15 .i64 eA cK).bind fun n36 => (Hp.ldI H15 .i64 eA (cK + 1)).bind fun n37 => (Hp.ldSl H15 eA (cK + 2)).bind fun s38 => (ai n36 n37 s38 eO eB H15).bind fun r39 => ((r39.1).asI .i64).bind fun n40 => (Hp.ldSl r39.2 eA (cK + 2)).bind fun s41 => (Hp.ldI r39.2 .i64 eA (cK + 1)).bind fun n42 => (Hp.ldI r39.2 .i64 eA cK).bind fun n43 => (Hp.ldI r39.2 .i64 eA (cK + 1)).bind fun n44 => (Hp.ldSl r39.2 eA (cK + 2)).bind fun s45 => (ai n43 n44 s45 eW eB r39.2).bind fun r46 => ((r46.1).asI .i64).bind fun n47 => (if Cons r39.2 r46.2 then ((Sl.idx s41 (IntKind.i64.wrap ((IntKind.i64.wrap (eO * n42)) + eB)) 1).bind fun p48 => (Hp.st r46.2 p48.1 p48.2 (.int .i64 n47)).bind fun H49 => (Hp.ldSl H49 eA (cK + 2)).bind fun s50 => (Hp.ldI H49 .i64 eA (cK + 1)).bind fun n51 => (Sl.idx s50 (IntKind.i64.wrap ((IntKind.i64.wrap (eW * n51)) + eB)) 1).bind fun p52 => (Hp.st H49 p52.1 p52.2 (.int .i64 n40)).bind fun H53 => bH.l7 F ai kk eO eW eA cK (IntKind.i64.wrap (eB + 1)) H53) else none)) else (some ((.tup []), H15)))
termination_by structural n => n
noncomputable def bH.twX (F : Nat) (ai : Int → Int → Sl → Int → Int → Hp → OA) (aa : Int) (ac : Int) (ak : Sl) (af : Int) (bh : Int) (H : Hp) : OA := (Hp.new H [(.int .i64 aa), (.int .i64 ac), (.sl ak)]).bind fun H6 => bH.l7 F ai F af bh H.length 0 0 H6
noncomputable def bH.tw (F : Nat) (aa : Int) (ac : Int) (ak : Sl) (af : Int) (bh : Int) (H : Hp) : OA := bH.twX F (aC.tw F) aa ac ak af bh H
noncomputable def bH.code : Go.Code := (Try.f145.body).getD .skip
noncomputable def bH.lh7 (F : Nat) (ai : Int → Int → Sl → Int → Int → Hp → OA) (ks : List Nat) (n : Nat) (tm : Tm) (H : Hp) : OA := match ks, tm 1, tm 2, tm 3, tm 6 with
 | [], (.int .i64 eO), (.int .i64 eW), (.ptr eA cK), (.int .i64 eB) => bH.l7 F ai n eO eW eA cK eB H
 | _, _, _, _, _ => none
theorem bH.lh7_inv {F : Nat} {ai : Int → Int → Sl → Int → Int → Hp → OA} {ks : List Nat} {n : Nat} {tm : Tm} {H : Hp} {r : AV × Hp} (h : bH.lh7 F ai ks n tm H = some r) : ∃ eO : Int, ∃ eW : Int, ∃ eA : Nat, ∃ cK : Nat, ∃ eB : Int, ks = [] ∧ tm 1 = (.int .i64 eO) ∧ tm 2 = (.int .i64 eW) ∧ tm 3 = (.ptr eA cK) ∧ tm 6 = (.int .i64 eB) ∧ bH.l7 F ai n eO eW eA cK eB H = some r := by
 unfold bH.lh7 at h
 split at h
 ·exact ⟨_, _, _, _, _, rfl, by assumption, by assumption, by assumption, by assumption, h⟩
 ·cases h
noncomputable def bH.lh (F : Nat) (ai : Int → Int → Sl → Int → Int → Hp → OA) (p : Nat) (ks : List Nat) (n : Nat) (tm : Tm) (H : Hp) : OA := bif p.beq 7 then bH.lh7 F ai ks n tm H else (none)
def bH.pn : Nat → List Nat := fun i => (([(5, [13])] : List (Nat × List Nat)).lookup i).getD []
def bH.tb : Nat → List (List Nat) := fun i => (([(5, [[], [0], [], [], [3], [2, 3, 4], [], [2, 3, 4, 5, 6], [], [], [], [8, 9, 10], [0, 1, 2, 3, 4, 5, 6, 7, 8, 9, 10, 11], [0, 1, 2, 3, 4, 5, 6, 7, 8, 9, 10, 11, 12]])] : List (Nat × List (List Nat))).lookup i).getD []
noncomputable def bH.mk (g : Int → Int → Sl → Int → Int → Hp → OA) (args : List AV) (H : Hp) : OA := match args with
 | [(.agg [(.int .i64 aa), (.int .i64 ac), (.sl ak)]), (.int .i64 af), (.int .i64 bh)] => g aa ac ak af bh H
 | _ => none
noncomputable def bH.cs (F : Nat) (ai : Int → Int → Sl → Int → Int → Hp → OA) : List (FuncId × (List AV → Hp → OA)) := [(79, aC.mk ai)]
theorem bH.loops (F : Nat) (ai : Int → Int → Sl → Int → Int → Hp → OA) : LoopsOk tabs (mkOrc (bH.cs F ai)) bH.pn (bH.lh F ai) F [] 1 bH.code (fun tm H => aresults tabs.ty H tm Try.f145.results.toList fun v => some (v, H)) (fun _ _ _ => none) (fun tm H => aresults tabs.ty H tm Try.f145.results.toList fun v => some (v, H)) := by
 refine LoopsOk.seq ?_ ?_
 ·exact loops_none (by kernel_rfl)
 ·refine LoopsOk.seq ?_ ?_
  ·exact loops_none (by kernel_rfl)
  ·refine LoopsOk.block ?_
   refine LoopsOk.loop (fun tm H => ?_) (fun k7 tm H r h0 => ?_) (fun k7 => ?_)
   ·refine none_of fun r h0 => ?_
    obtain ⟨eO, eW, eA, cK, eB, hks, e1, e2, e3, e6, h⟩ := bH.lh7_inv (show bH.lh7 F ai [] 0 tm H = some r from h0)
    cases h
   ·obtain ⟨eO, eW, eA, cK, eB, hks, e1, e2, e3, e6, h⟩ := bH.lh7_inv (show bH.lh7 F ai [] (k7 + 1) tm H = some r from h0)
    have q0 : (Tm.put tm 1 (.int .i64 eO)) = tm := by exact Tm.put_same e1
    have q1 : (Tm.put (Tm.put tm 1 (.int .i64 eO)) 2 (.int .i64 eW)) = tm := by rw [q0]; exact Tm.put_same e2
    have q2 : (Tm.put (Tm.put (Tm.put tm 1 (.int .i64 eO)) 2 (.int .i64 eW)) 3 (.ptr eA cK)) = tm := by rw [q1]; exact Tm.put_same e3
    have q3 : (Tm.put (Tm.put (Tm.put (Tm.put tm 1 (.int .i64 eO)) 2 (.int .i64 eW)) 3 (.ptr eA cK)) 6 (.int .i64 eB)) = tm := by rw [q2]; exact Tm.put_same e6
    rw [← q3]
    exact Eq.trans (by kernel_rfl) h
   ·exact loops_none (by kernel_rfl)
theorem bH.eqX (F : Nat) (ai : Int → Int → Sl → Int → Int → Hp → OA) (aa : Int) (ac : Int) (ak : Sl) (af : Int) (bh : Int) (H : Hp) : aCode tabs (mkOrc (bH.cs F ai)) bH.pn (bH.lh F ai) F [] 1 bH.code (argTm [(.agg [(.int .i64 aa), (.int .i64 ac), (.sl ak)]), (.int .i64 af), (.int .i64 bh)]) H (fun tm H => aresults tabs.ty H tm Try.f145.results.toList fun v => some (v, H)) (fun _ _ _ => none) (fun tm H => aresults tabs.ty H tm Try.f145.results.toList fun v => some (v, H)) = bH.twX F ai aa ac ak af bh H := by kernel_rfl
theorem bH.cs_ok (F : Nat) : ∀ p ∈ bH.cs F (aC.tw F), ∀ args H v H', p.2 args H = some (v, H') → Go.AE.T Try.prog p.1 args H v H' := by
 intro p hp
 simp only [bH.cs, List.mem_cons, List.not_mem_nil, or_false] at hp
 subst hp
 exact fun args H v H' h => aC.mk_T h
theorem bH.ok : codeOk bH.pn Try.f145.ntmps bH.tb bH.code = true := by kernel_rfl
theorem bH.T {F : Nat} {aa : Int} {ac : Int} {ak : Sl} {af : Int} {bh : Int} {H : Hp} {v : AV} {H' : Hp} (h : bH.tw F aa ac ak af bh H = some (v, H')) : Go.AE.T Try.prog 145 [(.agg [(.int .i64 aa), (.int .i64 ac), (.sl ak)]), (.int .i64 af), (.int .i64 bh)] H v H' :=
 Go.AE.T.of (Y := tabs) (C := mkOrc (bH.cs F (aC.tw F))) (PN := bH.pn) (LH := bH.lh F (aC.tw F)) (F := F) (TB := bH.tb) (fn := Try.f145) (code := bH.code) mixed tabs_ok (mkOrc_ok (bH.cs_ok F)) Try.func145 (by kernel_rfl) (by kernel_rfl) bH.ok (Nat.le_of_ble_eq_true (by kernel_rfl)) (bH.loops F (aC.tw F)) (Eq.trans (bH.eqX F (aC.tw F) aa ac ak af bh H) h)
theorem bH.mk_T {F : Nat} {args : List AV} {H : Hp} {v : AV} {H' : Hp} (h : bH.mk (bH.tw F) args H = some (v, H')) : Go.AE.T Try.prog 145 args H v H' := by
 unfold bH.mk at h
 split at h
 ·exact bH.T h
 ·cases h
noncomputable def bI.l7 (F : Nat) (ai : Int → Int → Sl → Int → Int → Hp → OA)  : Nat → Int → Int → Nat → Nat → Int → Hp → OA
 | 0, _, _, _, _, _, _ => none
 | kk + 1, eO, eW, eA, cK, eB, H15 => (Hp.ldI H15 .i64 eA cK).bind fun n35 => (bif (decide (eB < n35)) then ((Hp.ldI H15 .i64 eA cK).bind fun n36 => (Hp.ldI H15 .i64 eA (cK + 1)).bind fun n37 => (Hp.ldSl H15 eA (cK + 2)).bind fun s38 => (ai n36 n37 s38 eB eO H15).bind fun r39 => ((r39.1).asI .i64).bind fun n40 => (Hp.ldSl r39.2 eA (cK + 2)).bind fun s41 => (Hp.ldI r39.2 .i64 eA (cK + 1)).bind fun n42 => (Hp.ldI r39.2 .i64 eA cK).bind fun n43 => (Hp.ldI r39.2 .i64 eA (cK + 1)).bind fun n44 => (Hp.ldSl r39.2 eA (cK + 2)).bind fun s45 => (ai n43 n44 s45 eB eW r39.2).bind fun r46 => ((r46.1).asI .i64).bind fun n47 => (if Cons r39.2 r46.2 then ((Sl.idx s41 (IntKind.i64.wrap ((IntKind.i64.wrap (eB * n42)) + eO)) 1).bind fun p48 => (Hp.st r46.2 p48.1 p48.2 (.int .i64 n47)).bind fun H49 => (Hp.ldSl H49 eA (cK + 2)).bind fun s50 => (Hp.ldI H49 .i64 eA (cK + 1)).bind fun n51 => (Sl.idx s50 (IntKind.i64.wrap ((IntKind.i64.wrap (eB * n51)) + eW)) 1).bind fun p52 => (Hp.st H49 p52.1 p52.2 (.int .i64 n40)).bind fun H53 => bI.l7 F ai kk eO eW eA cK (IntKind.i64.wrap (eB + 1)) H53) else none)) else (some ((.tup []), H15)))
termination_by structural n => n
noncomputable def bI.twX (F : Nat) (ai : Int → Int → Sl → Int → Int → Hp → OA) (aa : Int) (ac : Int) (ak : Sl) (af : Int) (bh : Int) (H : Hp) : OA := (Hp.new H [(.int .i64 aa), (.int .i64 ac), (.sl ak)]).bind fun H6 => bI.l7 F ai F af bh H.length 0 0 H6
noncomputable def bI.tw (F : Nat) (aa : Int) (ac : Int) (ak : Sl) (af : Int) (bh : Int) (H : Hp) : OA := bI.twX F (aC.tw F) aa ac ak af bh H
noncomputable def bI.code : Go.Code := (Try.f159.body).getD .skip
noncomputable def bI.lh7 (F : Nat) (ai : Int → Int → Sl → Int → Int → Hp → OA) (ks : List Nat) (n : Nat) (tm : Tm) (H : Hp) : OA := match ks, tm 1, tm 2, tm 3, tm 6 with
 | [], (.int .i64 eO), (.int .i64 eW), (.ptr eA cK), (.int .i64 eB) => bI.l7 F ai n eO eW eA cK eB H
 | _, _, _, _, _ => none
theorem bI.lh7_inv {F : Nat} {ai : Int → Int → Sl → Int → Int → Hp → OA} {ks : List Nat} {n : Nat} {tm : Tm} {H : Hp} {r : AV × Hp} (h : bI.lh7 F ai ks n tm H = some r) : ∃ eO : Int, ∃ eW : Int, ∃ eA : Nat, ∃ cK : Nat, ∃ eB : Int, ks = [] ∧ tm 1 = (.int .i64 eO) ∧ tm 2 = (.int .i64 eW) ∧ tm 3 = (.ptr eA cK) ∧ tm 6 = (.int .i64 eB) ∧ bI.l7 F ai n eO eW eA cK eB H = some r := by
 unfold bI.lh7 at h
 split at h
 ·exact ⟨_, _, _, _, _, rfl, by assumption, by assumption, by assumption, by assumption, h⟩
 ·cases h
noncomputable def bI.lh (F : Nat) (ai : Int → Int → Sl → Int → Int → Hp → OA) (p : Nat) (ks : List Nat) (n : Nat) (tm : Tm) (H : Hp) : OA := bif p.beq 7 then bI.lh7 F ai ks n tm H else (none)
def bI.pn : Nat → List Nat := fun i => (([(5, [13])] : List (Nat × List Nat)).lookup i).getD []
def bI.tb : Nat → List (List Nat) := fun i => (([(5, [[], [0], [], [], [3], [2, 3, 4], [], [2, 3, 4, 5, 6], [], [], [], [8, 9, 10], [0, 1, 2, 3, 4, 5, 6, 7, 8, 9, 10, 11], [0, 1, 2, 3, 4, 5, 6, 7, 8, 9, 10, 11, 12]])] : List (Nat × List (List Nat))).lookup i).getD []
noncomputable def bI.mk (g : Int → Int → Sl → Int → Int → Hp → OA) (args : List AV) (H : Hp) : OA := match args with
 | [(.agg [(.int .i64 aa), (.int .i64 ac), (.sl ak)]), (.int .i64 af), (.int .i64 bh)] => g aa ac ak af bh H
 | _ => none
noncomputable def bI.cs (F : Nat) (ai : Int → Int → Sl → Int → Int → Hp → OA) : List (FuncId × (List AV → Hp → OA)) := [(79, aC.mk ai)]
theorem bI.loops (F : Nat) (ai : Int → Int → Sl → Int → Int → Hp → OA) : LoopsOk tabs (mkOrc (bI.cs F ai)) bI.pn (bI.lh F ai) F [] 1 bI.code (fun tm H => aresults tabs.ty H tm Try.f159.results.toList fun v => some (v, H)) (fun _ _ _ => none) (fun tm H => aresults tabs.ty H tm Try.f159.results.toList fun v => some (v, H)) := by
 refine LoopsOk.seq ?_ ?_
 ·exact loops_none (by kernel_rfl)
 ·refine LoopsOk.seq ?_ ?_
  ·exact loops_none (by kernel_rfl)
  ·refine LoopsOk.block ?_
   refine LoopsOk.loop (fun tm H => ?_) (fun k7 tm H r h0 => ?_) (fun k7 => ?_)
   ·refine none_of fun r h0 => ?_
    obtain ⟨eO, eW, eA, cK, eB, hks, e1, e2, e3, e6, h⟩ := bI.lh7_inv (show bI.lh7 F ai [] 0 tm H = some r from h0)
    cases h
   ·obtain ⟨eO, eW, eA, cK, eB, hks, e1, e2, e3, e6, h⟩ := bI.lh7_inv (show bI.lh7 F ai [] (k7 + 1) tm H = some r from h0)
    have q0 : (Tm.put tm 1 (.int .i64 eO)) = tm := by exact Tm.put_same e1
    have q1 : (Tm.put (Tm.put tm 1 (.int .i64 eO)) 2 (.int .i64 eW)) = tm := by rw [q0]; exact Tm.put_same e2
    have q2 : (Tm.put (Tm.put (Tm.put tm 1 (.int .i64 eO)) 2 (.int .i64 eW)) 3 (.ptr eA cK)) = tm := by rw [q1]; exact Tm.put_same e3
    have q3 : (Tm.put (Tm.put (Tm.put (Tm.put tm 1 (.int .i64 eO)) 2 (.int .i64 eW)) 3 (.ptr eA cK)) 6 (.int .i64 eB)) = tm := by rw [q2]; exact Tm.put_same e6
    rw [← q3]
    exact Eq.trans (by kernel_rfl) h
   ·exact loops_none (by kernel_rfl)
theorem bI.eqX (F : Nat) (ai : Int → Int → Sl → Int → Int → Hp → OA) (aa : Int) (ac : Int) (ak : Sl) (af : Int) (bh : Int) (H : Hp) : aCode tabs (mkOrc (bI.cs F ai)) bI.pn (bI.lh F ai) F [] 1 bI.code (argTm [(.agg [(.int .i64 aa), (.int .i64 ac), (.sl ak)]), (.int .i64 af), (.int .i64 bh)]) H (fun tm H => aresults tabs.ty H tm Try.f159.results.toList fun v => some (v, H)) (fun _ _ _ => none) (fun tm H => aresults tabs.ty H tm Try.f159.results.toList fun v => some (v, H)) = bI.twX F ai aa ac ak af bh H := by kernel_rfl
theorem bI.cs_ok (F : Nat) : ∀ p ∈ bI.cs F (aC.tw F), ∀ args H v H', p.2 args H = some (v, H') → Go.AE.T Try.prog p.1 args H v H' := by
 intro p hp
 simp only [bI.cs, List.mem_cons, List.not_mem_nil, or_false] at hp
 subst hp
 exact fun args H v H' h => aC.mk_T h
theorem bI.ok : codeOk bI.pn Try.f159.ntmps bI.tb bI.code = true := by kernel_rfl
theorem bI.T {F : Nat} {aa : Int} {ac : Int} {ak : Sl} {af : Int} {bh : Int} {H : Hp} {v : AV} {H' : Hp} (h : bI.tw F aa ac ak af bh H = some (v, H')) : Go.AE.T Try.prog 159 [(.agg [(.int .i64 aa), (.int .i64 ac), (.sl ak)]), (.int .i64 af), (.int .i64 bh)] H v H' :=
 Go.AE.T.of (Y := tabs) (C := mkOrc (bI.cs F (aC.tw F))) (PN := bI.pn) (LH := bI.lh F (aC.tw F)) (F := F) (TB := bI.tb) (fn := Try.f159) (code := bI.code) mixed tabs_ok (mkOrc_ok (bI.cs_ok F)) Try.func159 (by kernel_rfl) (by kernel_rfl) bI.ok (Nat.le_of_ble_eq_true (by kernel_rfl)) (bI.loops F (aC.tw F)) (Eq.trans (bI.eqX F (aC.tw F) aa ac ak af bh H) h)
theorem bI.mk_T {F : Nat} {args : List AV} {H : Hp} {v : AV} {H' : Hp} (h : bI.mk (bI.tw F) args H = some (v, H')) : Go.AE.T Try.prog 159 args H v H' := by
 unfold bI.mk at h
 split at h
 ·exact bI.T h
 ·cases h
noncomputable def ar.l65515 (F : Nat) (ai : Int → Int → Sl → Int → Int → Hp → OA) (ci : Int → Hp → OA) (dk : Int → Int → Sl → Int → Int → Hp → OA) (dl : Int → Int → Sl → Int → Int → Hp → OA)  : Nat → Nat → Nat → Int → Int → Hp → OA
 | 0, _, _, _, _, _ => none
 | yA + 1, io, ip, gP, gL, H187 => (Hp.ldI H187 .i64 io ((ip + 3) + 1)).bind fun n207 => (bif (decide (gL < n207)) then ((Hp.ldSl H187 io ((ip + 3) + 2)).bind fun s208 => (Hp.ldI H187 .i64 io ((ip + 3) + 1)).bind fun n209 => (Hp.ldI H187 .i64 io (ip + 3)).bind fun n210 => (Hp.ldI H187 .i64 io ((ip + 3) + 1)).bind fun n211 => (Hp.ldSl H187 io ((ip + 3) + 2)).bind fun s212 => (ai n210 n211 s212 gP gL H187).bind fun r213 => ((r213.1).asI .i64).bind fun n214 => (if Cons H187 r213.2 then ((Sl.idx s208 (IntKind.i64.wrap ((IntKind.i64.wrap (gP * n209)) + gL)) 1).bind fun p215 => (Hp.st r213.2 p215.1 p215.2 (.int .i64 (IntKind.i64.wrap (0 - n214)))).bind fun H216 => (Hp.ldSl H216 io ((ip + 6) + 2)).bind fun s217 => (Hp.ldI H216 .i64 io ((ip + 6) + 1)).bind fun n218 => (Hp.ldI H216 .i64 io (ip + 6)).bind fun n219 => (Hp.ldI H216 .i64 io ((ip + 6) + 1)).bind fun n220 => (Hp.ldSl H216 io ((ip + 6) + 2)).bind fun s221 => (ai n219 n220 s221 gL gP H216).bind fun r222 => ((r222.1).asI .i64).bind fun n223 => (if Cons H216 r222.2 then ((Sl.idx s217 (IntKind.i64.wrap ((IntKind.i64.wrap (gL * n218)) + gP)) 1).bind fun p224 => (Hp.st r222.2 p224.1 p224.2 (.int .i64 (IntKind.i64.wrap (0 - n223)))).bind fun H225 => ar.l65515 F ai ci dk dl yA io ip gP (IntKind.i64.wrap (gL + 1)) H225) else none)) else none)) else (some ((.bool true), H187)))
termination_by structural n => n
noncomputable def ar.j5 (F : Nat) (ai : Int → Int → Sl → Int → Int → Hp → OA) (ci : Int → Hp → OA) (dk : Int → Int → Sl → Int → Int → Hp → OA) (dl : Int → Int → Sl → Int → Int → Hp → OA) (yB : Nat) (yC : Nat) (nH : Int) (H173 : Hp) : OA := ar.l65515 F ai ci dk dl F yB yC nH 0 H173
noncomputable def ar.l65513 (F : Nat) (ai : Int → Int → Sl → Int → Int → Hp → OA) (ci : Int → Hp → OA) (dk : Int → Int → Sl → Int → Int → Hp → OA) (dl : Int → Int → Sl → Int → Int → Hp → OA)  : Nat → Nat → Nat → Int → Int → Hp → OA
 | 0, _, _, _, _, _ => none
 | yD + 1, jK, jL, hT, iq, H150 => (Hp.ldI H150 .i64 jK (jL + 1)).bind fun n226 => (bif (decide (iq < n226)) then ((Hp.ldSl H150 jK (jL + 2)).bind fun s227 => (Hp.ldI H150 .i64 jK (jL + 1)).bind fun n228 => (Hp.ldI H150 .i64 jK jL).bind fun n229 => (Hp.ldI H150 .i64 jK (jL + 1)).bind fun n230 => (Hp.ldSl H150 jK (jL + 2)).bind fun s231 => (ai n229 n230 s231 hT iq H150).bind fun r232 => ((r232.1).asI .i64).bind fun n233 => (if Cons H150 r232.2 then ((Sl.idx s227 (IntKind.i64.wrap ((IntKind.i64.wrap (hT * n228)) + iq)) 1).bind fun p234 => (Hp.st r232.2 p234.1 p234.2 (.int .i64 (IntKind.i64.wrap (0 - n233)))).bind fun H235 => ar.l65513 F ai ci dk dl yD jK jL hT (IntKind.i64.wrap (iq + 1)) H235) else none)) else (ar.j5 F ai ci dk dl jK jL hT H150))
termination_by structural n => n
noncomputable def ar.j6 (F : Nat) (ai : Int → Int → Sl → Int → Int → Hp → OA) (ci : Int → Hp → OA) (dk : Int → Int → Sl → Int → Int → Hp → OA) (dl : Int → Int → Sl → Int → Int → Hp → OA) (iu : Nat) (iv : Nat) (iw : Int) (kK : Int) (lJ : Int) (H109 : Hp) : OA := (bif (decide (kK < 0)) then (some ((.bool false), H109)) else ((Hp.ldI H109 .i64 iu iv).bind fun n110 => (Hp.ldI H109 .i64 iu (iv + 1)).bind fun n111 => (Hp.ldSl H109 iu (iv + 2)).bind fun s112 => (dk n110 n111 s112 kK iw H109).bind fun r113 => (Hp.ldI r113.2 .i64 iu (iv + 3)).bind fun n114 => (Hp.ldI r113.2 .i64 iu ((iv + 3) + 1)).bind fun n115 => (Hp.ldSl r113.2 iu ((iv + 3) + 2)).bind fun s116 => (dk n114 n115 s116 kK iw r113.2).bind fun r117 => (Hp.ldI r117.2 .i64 iu (iv + 6)).bind fun n118 => (Hp.ldI r117.2 .i64 iu ((iv + 6) + 1)).bind fun n119 => (Hp.ldSl r117.2 iu ((iv + 6) + 2)).bind fun s120 => (dl n118 n119 s120 kK iw r117.2).bind fun r121 => (Hp.ldI r121.2 .i64 iu iv).bind fun n122 => (Hp.ldI r121.2 .i64 iu (iv + 1)).bind fun n123 => (Hp.ldSl r121.2 iu (iv + 2)).bind fun s124 => (dl n122 n123 s124 lJ iw r121.2).bind fun r125 => (Hp.ldI r125.2 .i64 iu (iv + 9)).bind fun n126 => (Hp.ldI r125.2 .i64 iu ((iv + 9) + 1)).bind fun n127 => (Hp.ldSl r125.2 iu ((iv + 9) + 2)).bind fun s128 => (dl n126 n127 s128 lJ iw r125.2).bind fun r129 => (Hp.ldI r129.2 .i64 iu (iv + 12)).bind fun n130 => (Hp.ldI r129.2 .i64 iu ((iv + 12) + 1)).bind fun n131 => (Hp.ldSl r129.2 iu ((iv + 12) + 2)).bind fun s132 => (dk n130 n131 s132 lJ iw r129.2).bind fun r133 => (Hp.ldI r133.2 .i64 iu iv).bind fun n134 => (Hp.ldI r133.2 .i64 iu (iv + 1)).bind fun n135 => (Hp.ldSl r133.2 iu (iv + 2)).bind fun s136 => (ai n134 n135 s136 iw iw r133.2).bind fun r137 => ((r137.1).asI .i64).bind fun n138 => (bif (decide (n138 < 0)) then (ar.l65513 F ai ci dk dl F iu iv iw 0 r137.2) else (some ((.bool true), r137.2)))))
noncomputable def ar.j8 (F : Nat) (ai : Int → Int → Sl → Int → Int → Hp → OA) (ci : Int → Hp → OA) (dk : Int → Int → Sl → Int → Int → Hp → OA) (dl : Int → Int → Sl → Int → Int → Hp → OA) (C29_ : Nat → Nat → Int → Int → Int → Int → Hp → OA) (yE : Nat) (yF : Nat) (nI : Int) (nJ : Int) (nK : Int) (nL : Int) (H296 : Hp) : OA := C29_ yE yF nI nJ nK (IntKind.i64.wrap (nL + 1)) H296
noncomputable def ar.j9 (F : Nat) (ai : Int → Int → Sl → Int → Int → Hp → OA) (ci : Int → Hp → OA) (dk : Int → Int → Sl → Int → Int → Hp → OA) (dl : Int → Int → Sl → Int → Int → Hp → OA) (C29_ : Nat → Nat → Int → Int → Int → Int → Hp → OA) (yG : Nat) (yH : Nat) (nM : Int) (nN : Int) (nO : Int) (nP : Int) (H285 : Hp) : OA := ar.j8 F ai ci dk dl C29_ yG yH nM nN nO nP H285
noncomputable def ar.j10 (F : Nat) (ai : Int → Int → Sl → Int → Int → Hp → OA) (ci : Int → Hp → OA) (dk : Int → Int → Sl → Int → Int → Hp → OA) (dl : Int → Int → Sl → Int → Int → Hp → OA) (C469_ : Nat → Nat → Int → Int → Int → Int → Int → Hp → OA) (yI : Nat) (yJ : Nat) (nQ : Int) (nR : Int) (nS : Int) (nT : Int) (nU : Int) (H324 : Hp) : OA := C469_ yI yJ nQ nR nS nT (IntKind.i64.wrap (nU + 1)) H324
noncomputable def ar.l469 (F : Nat) (ai : Int → Int → Sl → Int → Int → Hp → OA) (ci : Int → Hp → OA) (dk : Int → Int → Sl → Int → Int → Hp → OA) (dl : Int → Int → Sl → Int → Int → Hp → OA) (C29_ : Nat → Nat → Int → Int → Int → Int → Hp → OA) : Nat → Nat → Nat → Int → Int → Int → Int → Int → Hp → OA
 | 0, _, _, _, _, _, _, _, _ => none
 | lQ + 1, gQ, gR, gA, gC, gY, gc, gi, H246 => (Hp.ldI H246 .i64 gQ (gR + 1)).bind fun n297 => (bif (decide (gi < n297)) then ((Hp.ldI H246 .i64 gQ gR).bind fun n298 => (Hp.ldI H246 .i64 gQ (gR + 1)).bind fun n299 => (Hp.ldSl H246 gQ (gR + 2)).bind fun s300 => (ai n298 n299 s300 gc gi H246).bind fun r301 => ((r301.1).asI .i64).bind fun n302 => (ci n302 r301.2).bind fun r303 => ((r303.1).asI .i64).bind fun n304 => (bif (decide (n304 > 0)) then ((bif (decide (gC < 0)) then (ar.l469 F ai ci dk dl C29_ lQ gQ gR gA gc gi gc (IntKind.i64.wrap (gi + 1)) r303.2) else ((Hp.ldI r303.2 .i64 gQ gR).bind fun n305 => (Hp.ldI r303.2 .i64 gQ (gR + 1)).bind fun n306 => (Hp.ldSl r303.2 gQ (gR + 2)).bind fun s307 => (ai n305 n306 s307 gC gY r303.2).bind fun r308 => ((r308.1).asI .i64).bind fun n309 => (ci n309 r308.2).bind fun r310 => ((r310.1).asI .i64).bind fun n311 => (bif (decide (n304 < n311)) then (ar.j10 F ai ci dk dl (ar.l469 F ai ci dk dl C29_ lQ) gQ gR gA gc gi gc gi r310.2) else (ar.j10 F ai ci dk dl (ar.l469 F ai ci dk dl C29_ lQ) gQ gR gA gC gY gc gi r310.2))))) else (ar.l469 F ai ci dk dl C29_ lQ gQ gR gA gC gY gc (IntKind.i64.wrap (gi + 1)) r303.2))) else (ar.j9 F ai ci dk dl C29_ gQ gR gA gC gY gc H246))
termination_by structural n => n
noncomputable def ar.l29 (F : Nat) (ai : Int → Int → Sl → Int → Int → Hp → OA) (ci : Int → Hp → OA) (dk : Int → Int → Sl → Int → Int → Hp → OA) (dl : Int → Int → Sl → Int → Int → Hp → OA)  : Nat → Nat → Nat → Int → Int → Int → Int → Hp → OA
 | 0, _, _, _, _, _, _, _ => none
 | eN + 1, dw, eX, dE, ef, js, jM, H11 => (Hp.ldI H11 .i64 dw eX).bind fun n236 => (bif (decide (jM < n236)) then (ar.l469 F ai ci dk dl (ar.l29 F ai ci dk dl eN) F dw eX dE ef js jM dE H11) else (ar.j6 F ai ci dk dl dw eX dE ef js H11))
termination_by structural n => n
noncomputable def ar.twX (F : Nat) (ai : Int → Int → Sl → Int → Int → Hp → OA) (ci : Int → Hp → OA) (dk : Int → Int → Sl → Int → Int → Hp → OA) (dl : Int → Int → Sl → Int → Int → Hp → OA) (aa : Nat) (ac : Nat) (ae : Int) (H : Hp) : OA := ar.l29 F ai ci dk dl F aa ac ae (-1) (-1) ae H
noncomputable def ar.tw (F : Nat) (aa : Nat) (ac : Nat) (ae : Int) (H : Hp) : OA := ar.twX F (aC.tw F) (cl.tw F) (bH.tw F) (bI.tw F) aa ac ae H
noncomputable def ar.code : Go.Code := (Try.f139.body).getD .skip
noncomputable def ar.lh29 (F : Nat) (ai : Int → Int → Sl → Int → Int → Hp → OA) (ci : Int → Hp → OA) (dk : Int → Int → Sl → Int → Int → Hp → OA) (dl : Int → Int → Sl → Int → Int → Hp → OA) (ks : List Nat) (n : Nat) (tm : Tm) (H : Hp) : OA := match ks, tm 0, tm 1, tm 5, tm 6, tm 7 with
 | [], (.ptr dw eX), (.int .i64 dE), (.int .i64 ef), (.int .i64 js), (.int .i64 jM) => ar.l29 F ai ci dk dl n dw eX dE ef js jM H
 | _, _, _, _, _, _ => none
theorem ar.lh29_inv {F : Nat} {ai : Int → Int → Sl → Int → Int → Hp → OA} {ci : Int → Hp → OA} {dk : Int → Int → Sl → Int → Int → Hp → OA} {dl : Int → Int → Sl → Int → Int → Hp → OA} {ks : List Nat} {n : Nat} {tm : Tm} {H : Hp} {r : AV × Hp} (h : ar.lh29 F ai ci dk dl ks n tm H = some r) : ∃ dw : Nat, ∃ eX : Nat, ∃ dE : Int, ∃ ef : Int, ∃ js : Int, ∃ jM : Int, ks = [] ∧ tm 0 = (.ptr dw eX) ∧ tm 1 = (.int .i64 dE) ∧ tm 5 = (.int .i64 ef) ∧ tm 6 = (.int .i64 js) ∧ tm 7 = (.int .i64 jM) ∧ ar.l29 F ai ci dk dl n dw eX dE ef js jM H = some r := by
 unfold ar.lh29 at h
 split at h
 ·exact ⟨_, _, _, _, _, _, rfl, by assumption, by assumption, by assumption, by assumption, by assumption, h⟩
 ·cases h
noncomputable def ar.lh65513 (F : Nat) (ai : Int → Int → Sl → Int → Int → Hp → OA) (ci : Int → Hp → OA) (dk : Int → Int → Sl → Int → Int → Hp → OA) (dl : Int → Int → Sl → Int → Int → Hp → OA) (ks : List Nat) (n : Nat) (tm : Tm) (H : Hp) : OA := match ks, tm 0, tm 1, tm 10 with
 | [], (.ptr jK jL), (.int .i64 hT), (.int .i64 iq) => ar.l65513 F ai ci dk dl n jK jL hT iq H
 | _, _, _, _ => none
theorem ar.lh65513_inv {F : Nat} {ai : Int → Int → Sl → Int → Int → Hp → OA} {ci : Int → Hp → OA} {dk : Int → Int → Sl → Int → Int → Hp → OA} {dl : Int → Int → Sl → Int → Int → Hp → OA} {ks : List Nat} {n : Nat} {tm : Tm} {H : Hp} {r : AV × Hp} (h : ar.lh65513 F ai ci dk dl ks n tm H = some r) : ∃ jK : Nat, ∃ jL : Nat, ∃ hT : Int, ∃ iq : Int, ks = [] ∧ tm 0 = (.ptr jK jL) ∧ tm 1 = (.int .i64 hT) ∧ tm 10 = (.int .i64 iq) ∧ ar.l65513 F ai ci dk dl n jK jL hT iq H = some r := by
 unfold ar.lh65513 at h
 split at h
 ·exact ⟨_, _, _, _, rfl, by assumption, by assumption, by assumption, h⟩
 ·cases h
noncomputable def ar.lh65515 (F : Nat) (ai : Int → Int → Sl → Int → Int → Hp → OA) (ci : Int → Hp → OA) (dk : Int → Int → Sl → Int → Int → Hp → OA) (dl : Int → Int → Sl → Int → Int → Hp → OA) (ks : List Nat) (n : Nat) (tm : Tm) (H : Hp) : OA := match ks, tm 0, tm 1, tm 11 with
 | [], (.ptr io ip), (.int .i64 gP), (.int .i64 gL) => ar.l65515 F ai ci dk dl n io ip gP gL H
 | _, _, _, _ => none
theorem ar.lh65515_inv {F : Nat} {ai : Int → Int → Sl → Int → Int → Hp → OA} {ci : Int → Hp → OA} {dk : Int → Int → Sl → Int → Int → Hp → OA} {dl : Int → Int → Sl → Int → Int → Hp → OA} {ks : List Nat} {n : Nat} {tm : Tm} {H : Hp} {r : AV × Hp} (h : ar.lh65515 F ai ci dk dl ks n tm H = some r) : ∃ io : Nat, ∃ ip : Nat, ∃ gP : Int, ∃ gL : Int, ks = [] ∧ tm 0 = (.ptr io ip) ∧ tm 1 = (.int .i64 gP) ∧ tm 11 = (.int .i64 gL) ∧ ar.l65515 F ai ci dk dl n io ip gP gL H = some r := by
 unfold ar.lh65515 at h
 split at h
 ·exact ⟨_, _, _, _, rfl, by assumption, by assumption, by assumption, h⟩
 ·cases h
noncomputable def ar.lh469 (F : Nat) (ai : Int → Int → Sl → Int → Int → Hp → OA) (ci : Int → Hp → OA) (dk : Int → Int → Sl → Int → Int → Hp → OA) (dl : Int → Int → Sl → Int → Int → Hp → OA) (ks : List Nat) (n : Nat) (tm : Tm) (H : Hp) : OA := match ks, tm 0, tm 1, tm 5, tm 6, tm 7, tm 8 with
 | [eN], (.ptr gQ gR), (.int .i64 gA), (.int .i64 gC), (.int .i64 gY), (.int .i64 gc), (.int .i64 gi) => ar.l469 F ai ci dk dl (ar.l29 F ai ci dk dl eN) n gQ gR gA gC gY gc gi H
 | _, _, _, _, _, _, _ => none
theorem ar.lh469_inv {F : Nat} {ai : Int → Int → Sl → Int → Int → Hp → OA} {ci : Int → Hp → OA} {dk : Int → Int → Sl → Int → Int → Hp → OA} {dl : Int → Int → Sl → Int → Int → Hp → OA} {ks : List Nat} {n : Nat} {tm : Tm} {H : Hp} {r : AV × Hp} (h : ar.lh469 F ai ci dk dl ks n tm H = some r) : ∃ eN : Nat, ∃ gQ : Nat, ∃ gR : Nat, ∃ gA : Int, ∃ gC : Int, ∃ gY : Int, ∃ gc : Int, ∃ gi : Int, ks = [eN] ∧ tm 0 = (.ptr gQ gR) ∧ tm 1 = (.int .i64 gA) ∧ tm 5 = (.int .i64 gC) ∧ tm 6 = (.int .i64 gY) ∧ tm 7 = (.int .i64 gc) ∧ tm 8 = (.int .i64 gi) ∧ ar.l469 F ai ci dk dl (ar.l29 F ai ci dk dl eN) n gQ gR gA gC gY gc gi H = some r := by
 unfold ar.lh469 at h
 split at h
 ·exact ⟨_, _, _, _, _, _, _, _, rfl, by assumption, by assumption, by assumption, by assumption, by assumption, by assumption, h⟩
 ·cases h
noncomputable def ar.lh (F : Nat) (ai : Int → Int → Sl → Int → Int → Hp → OA) (ci : Int → Hp → OA) (dk : Int → Int → Sl → Int → Int → Hp → OA) (dl : Int → Int → Sl → Int → Int → Hp → OA) (p : Nat) (ks : List Nat) (n : Nat) (tm : Tm) (H : Hp) : OA := bif p.beq 469 then ar.lh469 F ai ci dk dl ks n tm H else (bif p.beq 65515 then ar.lh65515 F ai ci dk dl ks n tm H else (bif p.beq 65513 then ar.lh65513 F ai ci dk dl ks n tm H else (bif p.beq 29 then ar.lh29 F ai ci dk dl ks n tm H else (none))))
def ar.pn : Nat → List Nat := fun i => (([(23, [23]), (27, [23]), (28, [23])] : List (Nat × List Nat)).lookup i).getD []
def ar.tb : Nat → List (List Nat) := fun i => (([(23, [[], [0], [0, 1], [0, 1, 2], [0, 1, 2, 3], [], [], [6], [6, 7], [6, 7, 8], [6, 7, 8, 9], [5, 6, 7, 8, 9, 10], [], [5, 6, 7, 8, 9, 10, 11, 12], [], [14], [14, 15], [14, 15, 16], [], [], [14, 15, 16, 17, 18, 19], [14, 15, 16, 17, 18, 19, 20], [0, 1, 2, 3, 4, 5, 6, 7, 8, 9, 10, 11, 12, 13, 14, 15, 16, 17, 18, 19, 20, 21], [0, 1, 2, 3, 4, 5, 6, 7, 8, 9, 10, 11, 12, 13, 14, 15, 16, 17, 18, 19, 20, 21, 22]]), (27, [[], [0], [0, 1], [0, 1, 2], [0, 1, 2, 3], [], [], [6], [6, 7], [6, 7, 8], [6, 7, 8, 9], [5, 6, 7, 8, 9, 10], [], [5, 6, 7, 8, 9, 10, 11, 12], [], [14], [14, 15], [14, 15, 16], [], [], [14, 15, 16, 17, 18, 19], [14, 15, 16, 17, 18, 19, 20], [0, 1, 2, 3, 4, 5, 6, 7, 8, 9, 10, 11, 12, 13, 14, 15, 16, 17, 18, 19, 20, 21], [0, 1, 2, 3, 4, 5, 6, 7, 8, 9, 10, 11, 12, 13, 14, 15, 16, 17, 18, 19, 20, 21, 22]]), (28, [[], [0], [0, 1], [0, 1, 2], [0, 1, 2, 3], [], [], [6], [6, 7], [6, 7, 8], [6, 7, 8, 9], [5, 6, 7, 8, 9, 10], [], [5, 6, 7, 8, 9, 10, 11, 12], [], [14], [14, 15], [14, 15, 16], [], [], [14, 15, 16, 17, 18, 19], [14, 15, 16, 17, 18, 19, 20], [0, 1, 2, 3, 4, 5, 6, 7, 8, 9, 10, 11, 12, 13, 14, 15, 16, 17, 18, 19, 20, 21], [0, 1, 2, 3, 4, 5, 6, 7, 8, 9, 10, 11, 12, 13, 14, 15, 16, 17, 18, 19, 20, 21, 22]])] : List (Nat × List (List Nat))).lookup i).getD []
noncomputable def ar.mk (g : Nat → Nat → Int → Hp → OA) (args : List AV) (H : Hp) : OA := match args with
 | [(.ptr aa ac), (.int .i64 ae)] => g aa ac ae H
 | _ => none
noncomputable def ar.cs (F : Nat) (ai : Int → Int → Sl → Int → Int → Hp → OA) (ci : Int → Hp → OA) (dk : Int → Int → Sl → Int → Int → Hp → OA) (dl : Int → Int → Sl → Int → Int → Hp → OA) : List (FuncId × (List AV → Hp → OA)) := [(79, aC.mk ai), (114, cl.mk ci), (145, bH.mk dk), (159, bI.mk dl)]
theorem ar.loops (F : Nat) (ai : Int → Int → Sl → Int → Int → Hp → OA) (ci : Int → Hp → OA) (dk : Int → Int → Sl → Int → Int → Hp → OA) (dl : Int → Int → Sl → Int → Int → Hp → OA) : LoopsOk tabs (mkOrc (ar.cs F ai ci dk dl)) ar.pn (ar.lh F ai ci dk dl) F [] 1 ar.code (fun tm H => aresults tabs.ty H tm Try.f139.results.toList fun v => some (v, H)) (fun _ _ _ => none) (fun tm H => aresults tabs.ty H tm Try.f139.results.toList fun v => some (v, H)) := by
 refine LoopsOk.seq ?_ ?_
 ·exact loops_none (by kernel_rfl)
 ·refine LoopsOk.seq ?_ ?_
  ·exact loops_none (by kernel_rfl)
  ·refine LoopsOk.seq ?_ ?_
   ·refine LoopsOk.seq ?_ ?_
    ·exact loops_none (by kernel_rfl)
    ·refine LoopsOk.block ?_
     refine LoopsOk.loop (fun tm H => ?_) (fun k29 tm H r h0 => ?_) (fun k29 => ?_)
     ·refine none_of fun r h0 => ?_
      obtain ⟨dw, eX, dE, ef, js, jM, hks, e0, e1, e5, e6, e7, h⟩ := ar.lh29_inv (show ar.lh29 F ai ci dk dl [] 0 tm H = some r from h0)
      cases h
     ·obtain ⟨dw, eX, dE, ef, js, jM, hks, e0, e1, e5, e6, e7, h⟩ := ar.lh29_inv (show ar.lh29 F ai ci dk dl [] (k29 + 1) tm H = some r from h0)
      have q0 : (Tm.put tm 0 (.ptr dw eX)) = tm := by exact Tm.put_same e0
      have q1 : (Tm.put (Tm.put tm 0 (.ptr dw eX)) 1 (.int .i64 dE)) = tm := by rw [q0]; exact Tm.put_same e1
      have q2 : (Tm.put (Tm.put (Tm.put tm 0 (.ptr dw eX)) 1 (.int .i64 dE)) 5 (.int .i64 ef)) = tm := by rw [q1]; exact Tm.put_same e5
      have q3 : (Tm.put (Tm.put (Tm.put (Tm.put tm 0 (.ptr dw eX)) 1 (.int .i64 dE)) 5 (.int .i64 ef)) 6 (.int .i64 js)) = tm := by rw [q2]; exact Tm.put_same e6
      have q4 : (Tm.put (Tm.put (Tm.put (Tm.put (Tm.put tm 0 (.ptr dw eX)) 1 (.int .i64 dE)) 5 (.int .i64 ef)) 6 (.int .i64 js)) 7 (.int .i64 jM)) = tm := by rw [q3]; exact Tm.put_same e7
      rw [← q4]
      exact Eq.trans (by kernel_rfl) h
     ·refine LoopsOk.seq ?_ ?_
      ·exact loops_none (by kernel_rfl)
      ·refine LoopsOk.seq ?_ ?_
       ·refine LoopsOk.block ?_
        refine LoopsOk.seq ?_ ?_
        ·exact loops_none (by kernel_rfl)
        ·refine LoopsOk.block ?_
         refine LoopsOk.loop (fun tm H => ?_) (fun k469 tm H r h0 => ?_) (fun k469 => ?_)
         ·refine none_of fun r h0 => ?_
          obtain ⟨eN, gQ, gR, gA, gC, gY, gc, gi, hks, e0, e1, e5, e6, e7, e8, h⟩ := ar.lh469_inv (show ar.lh469 F ai ci dk dl [k29] 0 tm H = some r from h0)
          cases h
         ·obtain ⟨eN, gQ, gR, gA, gC, gY, gc, gi, hks, e0, e1, e5, e6, e7, e8, h⟩ := ar.lh469_inv (show ar.lh469 F ai ci dk dl [k29] (k469 + 1) tm H = some r from h0)
          obtain rfl : eN = k29 := by simpa [eq_comm] using hks
          have q0 : (Tm.put tm 0 (.ptr gQ gR)) = tm := by exact Tm.put_same e0
          have q1 : (Tm.put (Tm.put tm 0 (.ptr gQ gR)) 1 (.int .i64 gA)) = tm := by rw [q0]; exact Tm.put_same e1
          have q2 : (Tm.put (Tm.put (Tm.put tm 0 (.ptr gQ gR)) 1 (.int .i64 gA)) 5 (.int .i64 gC)) = tm := by rw [q1]; exact Tm.put_same e5
          have q3 : (Tm.put (Tm.put (Tm.put (Tm.put tm 0 (.ptr gQ gR)) 1 (.int .i64 gA)) 5 (.int .i64 gC)) 6 (.int .i64 gY)) = tm := by rw [q2]; exact Tm.put_same e6
          have q4 : (Tm.put (Tm.put (Tm.put (Tm.put (Tm.put tm 0 (.ptr gQ gR)) 1 (.int .i64 gA)) 5 (.int .i64 gC)) 6 (.int .i64 gY)) 7 (.int .i64 gc)) = tm := by rw [q3]; exact Tm.put_same e7
          have q5 : (Tm.put (Tm.put (Tm.put (Tm.put (Tm.put (Tm.put tm 0 (.ptr gQ gR)) 1 (.int .i64 gA)) 5 (.int .i64 gC)) 6 (.int .i64 gY)) 7 (.int .i64 gc)) 8 (.int .i64 gi)) = tm := by rw [q4]; exact Tm.put_same e8
          rw [← q5]
          exact Eq.trans (by kernel_rfl) h
         ·exact loops_none (by kernel_rfl)
       ·exact loops_none (by kernel_rfl)
   ·refine LoopsOk.seq ?_ ?_
    ·exact loops_none (by kernel_rfl)
    ·refine LoopsOk.seq ?_ ?_
     ·exact loops_none (by kernel_rfl)
     ·refine LoopsOk.seq ?_ ?_
      ·exact loops_none (by kernel_rfl)
      ·refine LoopsOk.seq ?_ ?_
       ·exact loops_none (by kernel_rfl)
       ·refine LoopsOk.seq ?_ ?_
        ·exact loops_none (by kernel_rfl)
        ·refine LoopsOk.seq ?_ ?_
         ·exact loops_none (by kernel_rfl)
         ·refine LoopsOk.seq ?_ ?_
          ·exact loops_none (by kernel_rfl)
          ·refine LoopsOk.seq ?_ ?_
           ·refine LoopsOk.seq ?_ ?_
            ·exact loops_none (by kernel_rfl)
            ·refine LoopsOk.cond ?_ ?_
             ·refine LoopsOk.seq ?_ ?_
              ·refine LoopsOk.seq ?_ ?_
               ·exact loops_none (by kernel_rfl)
               ·refine LoopsOk.block ?_
                refine LoopsOk.loop (fun tm H => ?_) (fun k65513 tm H r h0 => ?_) (fun k65513 => ?_)
                ·refine none_of fun r h0 => ?_
                 obtain ⟨jK, jL, hT, iq, hks, e0, e1, e10, h⟩ := ar.lh65513_inv (show ar.lh65513 F ai ci dk dl [] 0 tm H = some r from h0)
                 cases h
                ·obtain ⟨jK, jL, hT, iq, hks, e0, e1, e10, h⟩ := ar.lh65513_inv (show ar.lh65513 F ai ci dk dl [] (k65513 + 1) tm H = some r from h0)
                 have q0 : (Tm.put tm 0 (.ptr jK jL)) = tm := by exact Tm.put_same e0
                 have q1 : (Tm.put (Tm.put tm 0 (.ptr jK jL)) 1 (.int .i64 hT)) = tm := by rw [q0]; exact Tm.put_same e1
                 have q2 : (Tm.put (Tm.put (Tm.put tm 0 (.ptr jK jL)) 1 (.int .i64 hT)) 10 (.int .i64 iq)) = tm := by rw [q1]; exact Tm.put_same e10
                 rw [← q2]
                 exact Eq.trans (by kernel_rfl) h
                ·exact loops_none (by kernel_rfl)
              ·refine LoopsOk.seq ?_ ?_
               ·exact loops_none (by kernel_rfl)
               ·refine LoopsOk.block ?_
                refine LoopsOk.loop (fun tm H => ?_) (fun k65515 tm H r h0 => ?_) (fun k65515 => ?_)
                ·refine none_of fun r h0 => ?_
                 obtain ⟨io, ip, gP, gL, hks, e0, e1, e11, h⟩ := ar.lh65515_inv (show ar.lh65515 F ai ci dk dl [] 0 tm H = some r from h0)
                 cases h
                ·obtain ⟨io, ip, gP, gL, hks, e0, e1, e11, h⟩ := ar.lh65515_inv (show ar.lh65515 F ai ci dk dl [] (k65515 + 1) tm H = some r from h0)
                 have q0 : (Tm.put tm 0 (.ptr io ip)) = tm := by exact Tm.put_same e0
                 have q1 : (Tm.put (Tm.put tm 0 (.ptr io ip)) 1 (.int .i64 gP)) = tm := by rw [q0]; exact Tm.put_same e1
                 have q2 : (Tm.put (Tm.put (Tm.put tm 0 (.ptr io ip)) 1 (.int .i64 gP)) 11 (.int .i64 gL)) = tm := by rw [q1]; exact Tm.put_same e11
                 rw [← q2]
                 exact Eq.trans (by kernel_rfl) h
                ·exact loops_none (by kernel_rfl)
             ·exact loops_none (by kernel_rfl)
           ·exact loops_none (by kernel_rfl)
theorem ar.eqX (F : Nat) (ai : Int → Int → Sl → Int → Int → Hp → OA) (ci : Int → Hp → OA) (dk : Int → Int → Sl → Int → Int → Hp → OA) (dl : Int → Int → Sl → Int → Int → Hp → OA) (aa : Nat) (ac : Nat) (ae : Int) (H : Hp) : aCode tabs (mkOrc (ar.cs F ai ci dk dl)) ar.pn (ar.lh F ai ci dk dl) F [] 1 ar.code (argTm [(.ptr aa ac), (.int .i64 ae)]) H (fun tm H => aresults tabs.ty H tm Try.f139.results.toList fun v => some (v, H)) (fun _ _ _ => none) (fun tm H => aresults tabs.ty H tm Try.f139.results.toList fun v => some (v, H)) = ar.twX F ai ci dk dl aa ac ae H := by kernel_rfl
theorem ar.cs_ok (F : Nat) : ∀ p ∈ ar.cs F (aC.tw F) (cl.tw F) (bH.tw F) (bI.tw F), ∀ args H v H', p.2 args H = some (v, H') → Go.AE.T Try.prog p.1 args H v H' := by
 intro p hp
 simp only [ar.cs, List.mem_cons, List.not_mem_nil, or_false] at hp
 rcases hp with rfl | rfl | rfl | rfl
 ·exact fun args H v H' h => aC.mk_T h
 ·exact fun args H v H' h => cl.mk_T h
 ·exact fun args H v H' h => bH.mk_T h
 ·exact fun args H v H' h => bI.mk_T h
theorem ar.ok : codeOk ar.pn Try.f139.ntmps ar.tb ar.code = true := by kernel_rfl
theorem ar.T {F : Nat} {aa : Nat} {ac : Nat} {ae : Int} {H : Hp} {v : AV} {H' : Hp} (h : ar.tw F aa ac ae H = some (v, H')) : Go.AE.T Try.prog 139 [(.ptr aa ac), (.int .i64 ae)] H v H' :=
 Go.AE.T.of (Y := tabs) (C := mkOrc (ar.cs F (aC.tw F) (cl.tw F) (bH.tw F) (bI.tw F))) (PN := ar.pn) (LH := ar.lh F (aC.tw F) (cl.tw F) (bH.tw F) (bI.tw F)) (F := F) (TB := ar.tb) (fn := Try.f139) (code := ar.code) mixed tabs_ok (mkOrc_ok (ar.cs_ok F)) Try.func139 (by kernel_rfl) (by kernel_rfl) ar.ok (Nat.le_of_ble_eq_true (by kernel_rfl)) (ar.loops F (aC.tw F) (cl.tw F) (bH.tw F) (bI.tw F)) (Eq.trans (ar.eqX F (aC.tw F) (cl.tw F) (bH.tw F) (bI.tw F) aa ac ae H) h)
theorem ar.mk_T {F : Nat} {args : List AV} {H : Hp} {v : AV} {H' : Hp} (h : ar.mk (ar.tw F) args H = some (v, H')) : Go.AE.T Try.prog 139 args H v H' := by
 unfold ar.mk at h
 split at h
 ·exact ar.T h
 ·cases h
noncomputable def dx.twX (F : Nat) (aa : Int) (ag : Int) (H : Hp) : OA := (if ag = 0 then none else ((if ag = 0 then none else ((bif (decide ((Int.tmod aa ag) < 0)) then (some ((.int .i64 (IntKind.i64.wrap ((IntKind.i64.wrap (Int.tdiv aa ag)) - 1))), H)) else (some ((.int .i64 (IntKind.i64.wrap (Int.tdiv aa ag))), H)))))))
noncomputable def dx.tw (F : Nat) (aa : Int) (ag : Int) (H : Hp) : OA := dx.twX F aa ag H
noncomputable def dx.code : Go.Code := (Try.f141.body).getD .skip
noncomputable def dx.lh (F : Nat) (p : Nat) (ks : List Nat) (n : Nat) (tm : Tm) (H : Hp) : OA := none
def dx.pn : Nat → List Nat := fun i => (([] : List (Nat × List Nat)).lookup i).getD []
def dx.tb : Nat → List (List Nat) := fun i => (([] : List (Nat × List (List Nat))).lookup i).getD []
noncomputable def dx.mk (g : Int → Int → Hp → OA) (args : List AV) (H : Hp) : OA := match args with
 | [(.int .i64 aa), (.int .i64 ag)] => g aa ag H
 | _ => none
noncomputable def dx.cs (F : Nat) : List (FuncId × (List AV → Hp → OA)) := []
theorem dx.loops (F : Nat) : LoopsOk tabs (mkOrc (dx.cs F)) dx.pn (dx.lh F) F [] 1 dx.code (fun tm H => aresults tabs.ty H tm Try.f141.results.toList fun v => some (v, H)) (fun _ _ _ => none) (fun tm H => aresults tabs.ty H tm Try.f141.results.toList fun v => some (v, H)) := by
 exact loops_none (by kernel_rfl)
theorem dx.eqX (F : Nat) (aa : Int) (ag : Int) (H : Hp) : aCode tabs (mkOrc (dx.cs F)) dx.pn (dx.lh F) F [] 1 dx.code (argTm [(.int .i64 aa), (.int .i64 ag)]) H (fun tm H => aresults tabs.ty H tm Try.f141.results.toList fun v => some (v, H)) (fun _ _ _ => none) (fun tm H => aresults tabs.ty H tm Try.f141.results.toList fun v => some (v, H)) = dx.twX F aa ag H := by kernel_rfl
theorem dx.cs_ok (F : Nat) : ∀ p ∈ dx.cs F, ∀ args H v H', p.2 args H = some (v, H') → Go.AE.T Try.prog p.1 args H v H' := by
 intro p hp
 exact absurd (show p ∈ [] from hp) List.not_mem_nil
theorem dx.ok : codeOk dx.pn Try.f141.ntmps dx.tb dx.code = true := by kernel_rfl
theorem dx.T {F : Nat} {aa : Int} {ag : Int} {H : Hp} {v : AV} {H' : Hp} (h : dx.tw F aa ag H = some (v, H')) : Go.AE.T Try.prog 141 [(.int .i64 aa), (.int .i64 ag)] H v H' :=
 Go.AE.T.of (Y := tabs) (C := mkOrc (dx.cs F)) (PN := dx.pn) (LH := dx.lh F) (F := F) (TB := dx.tb) (fn := Try.f141) (code := dx.code) mixed tabs_ok (mkOrc_ok (dx.cs_ok F)) Try.func141 (by kernel_rfl) (by kernel_rfl) dx.ok (Nat.le_of_ble_eq_true (by kernel_rfl)) (dx.loops F) (Eq.trans (dx.eqX F aa ag H) h)
theorem dx.mk_T {F : Nat} {args : List AV} {H : Hp} {v : AV} {H' : Hp} (h : dx.mk (dx.tw F) args H = some (v, H')) : Go.AE.T Try.prog 141 args H v H' := by
 unfold dx.mk at h
 split at h
 ·exact dx.T h
 ·cases h
noncomputable def dI.twX (F : Nat) (ci : Int → Hp → OA) (aa : Int) (ag : Int) (cJ : Int) (H : Hp) : OA := (bif (aa != 0) then ((ci ag H).bind fun r4 => ((r4.1).asI .i64).bind fun n5 => (ci aa r4.2).bind fun r6 => ((r6.1).asI .i64).bind fun n7 => (if n7 = 0 then none else ((bif (decide (n5 > (IntKind.i64.wrap (Int.tdiv cJ n7)))) then (some ((.tup [(.int .i64 0), (.bool false)]), r6.2)) else (some ((.tup [(.int .i64 (IntKind.i64.wrap (aa * ag))), (.bool true)]), r6.2)))))) else (some ((.tup [(.int .i64 (IntKind.i64.wrap (aa * ag))), (.bool true)]), H)))
noncomputable def dI.tw (F : Nat) (aa : Int) (ag : Int) (cJ : Int) (H : Hp) : OA := dI.twX F (cl.tw F) aa ag cJ H
noncomputable def dI.code : Go.Code := (Try.f113.body).getD .skip
noncomputable def dI.lh (F : Nat) (ci : Int → Hp → OA) (p : Nat) (ks : List Nat) (n : Nat) (tm : Tm) (H : Hp) : OA := none
def dI.pn : Nat → List Nat := fun i => (([] : List (Nat × List Nat)).lookup i).getD []
def dI.tb : Nat → List (List Nat) := fun i => (([] : List (Nat × List (List Nat))).lookup i).getD []
noncomputable def dI.mk (g : Int → Int → Int → Hp → OA) (args : List AV) (H : Hp) : OA := match args with
 | [(.int .i64 aa), (.int .i64 ag), (.int .i64 cJ)] => g aa ag cJ H
 | _ => none
noncomputable def dI.cs (F : Nat) (ci : Int → Hp → OA) : List (FuncId × (List AV → Hp → OA)) := [(114, cl.mk ci)]
theorem dI.loops (F : Nat) (ci : Int → Hp → OA) : LoopsOk tabs (mkOrc (dI.cs F ci)) dI.pn (dI.lh F ci) F [] 1 dI.code (fun tm H => aresults tabs.ty H tm Try.f113.results.toList fun v => some (v, H)) (fun _ _ _ => none) (fun tm H => aresults tabs.ty H tm Try.f113.results.toList fun v => some (v, H)) := by
 exact loops_none (by kernel_rfl)
theorem dI.eqX (F : Nat) (ci : Int → Hp → OA) (aa : Int) (ag : Int) (cJ : Int) (H : Hp) : aCode tabs (mkOrc (dI.cs F ci)) dI.pn (dI.lh F ci) F [] 1 dI.code (argTm [(.int .i64 aa), (.int .i64 ag), (.int .i64 cJ)]) H (fun tm H => aresults tabs.ty H tm Try.f113.results.toList fun v => some (v, H)) (fun _ _ _ => none) (fun tm H => aresults tabs.ty H tm Try.f113.results.toList fun v => some (v, H)) = dI.twX F ci aa ag cJ H := by kernel_rfl
theorem dI.cs_ok (F : Nat) : ∀ p ∈ dI.cs F (cl.tw F), ∀ args H v H', p.2 args H = some (v, H') → Go.AE.T Try.prog p.1 args H v H' := by
 intro p hp
 simp only [dI.cs, List.mem_cons, List.not_mem_nil, or_false] at hp
 subst hp
 exact fun args H v H' h => cl.mk_T h
theorem dI.ok : codeOk dI.pn Try.f113.ntmps dI.tb dI.code = true := by kernel_rfl
theorem dI.T {F : Nat} {aa : Int} {ag : Int} {cJ : Int} {H : Hp} {v : AV} {H' : Hp} (h : dI.tw F aa ag cJ H = some (v, H')) : Go.AE.T Try.prog 113 [(.int .i64 aa), (.int .i64 ag), (.int .i64 cJ)] H v H' :=
 Go.AE.T.of (Y := tabs) (C := mkOrc (dI.cs F (cl.tw F))) (PN := dI.pn) (LH := dI.lh F (cl.tw F)) (F := F) (TB := dI.tb) (fn := Try.f113) (code := dI.code) mixed tabs_ok (mkOrc_ok (dI.cs_ok F)) Try.func113 (by kernel_rfl) (by kernel_rfl) dI.ok (Nat.le_of_ble_eq_true (by kernel_rfl)) (dI.loops F (cl.tw F)) (Eq.trans (dI.eqX F (cl.tw F) aa ag cJ H) h)
theorem dI.mk_T {F : Nat} {args : List AV} {H : Hp} {v : AV} {H' : Hp} (h : dI.mk (dI.tw F) args H = some (v, H')) : Go.AE.T Try.prog 113 args H v H' := by
 unfold dI.mk at h
 split at h
 ·exact dI.T h
 ·cases h
noncomputable def dg.twX (F : Nat) (kV : Int → Int → Int → Hp → OA) (aa : Int) (ag : Int) (cJ : Int) (H : Hp) : OA := (kV ag cJ 2000000000000 H).bind fun r4 => ((r4.1).asTup 2).bind fun l5 => (l5[0]?).bind fun v6 => ((v6).asI .i64).bind fun n7 => (l5[1]?).bind fun v8 => ((v8).asB).bind fun b9 => (bif (!b9) then (some ((.int .i64 3000000000000), r4.2)) else (some ((.int .i64 (IntKind.i64.wrap (aa - n7))), r4.2)))
noncomputable def dg.tw (F : Nat) (aa : Int) (ag : Int) (cJ : Int) (H : Hp) : OA := dg.twX F (dI.tw F) aa ag cJ H
noncomputable def dg.code : Go.Code := (Try.f165.body).getD .skip
noncomputable def dg.lh (F : Nat) (kV : Int → Int → Int → Hp → OA) (p : Nat) (ks : List Nat) (n : Nat) (tm : Tm) (H : Hp) : OA := none
def dg.pn : Nat → List Nat := fun i => (([] : List (Nat × List Nat)).lookup i).getD []
def dg.tb : Nat → List (List Nat) := fun i => (([] : List (Nat × List (List Nat))).lookup i).getD []
noncomputable def dg.mk (g : Int → Int → Int → Hp → OA) (args : List AV) (H : Hp) : OA := match args with
 | [(.int .i64 aa), (.int .i64 ag), (.int .i64 cJ)] => g aa ag cJ H
 | _ => none
noncomputable def dg.cs (F : Nat) (kV : Int → Int → Int → Hp → OA) : List (FuncId × (List AV → Hp → OA)) := [(113, dI.mk kV)]
theorem dg.loops (F : Nat) (kV : Int → Int → Int → Hp → OA) : LoopsOk tabs (mkOrc (dg.cs F kV)) dg.pn (dg.lh F kV) F [] 1 dg.code (fun tm H => aresults tabs.ty H tm Try.f165.results.toList fun v => some (v, H)) (fun _ _ _ => none) (fun tm H => aresults tabs.ty H tm Try.f165.results.toList fun v => some (v, H)) := by
 exact loops_none (by kernel_rfl)
theorem dg.eqX (F : Nat) (kV : Int → Int → Int → Hp → OA) (aa : Int) (ag : Int) (cJ : Int) (H : Hp) : aCode tabs (mkOrc (dg.cs F kV)) dg.pn (dg.lh F kV) F [] 1 dg.code (argTm [(.int .i64 aa), (.int .i64 ag), (.int .i64 cJ)]) H (fun tm H => aresults tabs.ty H tm Try.f165.results.toList fun v => some (v, H)) (fun _ _ _ => none) (fun tm H => aresults tabs.ty H tm Try.f165.results.toList fun v => some (v, H)) = dg.twX F kV aa ag cJ H := by kernel_rfl
theorem dg.cs_ok (F : Nat) : ∀ p ∈ dg.cs F (dI.tw F), ∀ args H v H', p.2 args H = some (v, H') → Go.AE.T Try.prog p.1 args H v H' := by
 intro p hp
 simp only [dg.cs, List.mem_cons, List.not_mem_nil, or_false] at hp
 subst hp
 exact fun args H v H' h => dI.mk_T h
theorem dg.ok : codeOk dg.pn Try.f165.ntmps dg.tb dg.code = true := by kernel_rfl
theorem dg.T {F : Nat} {aa : Int} {ag : Int} {cJ : Int} {H : Hp} {v : AV} {H' : Hp} (h : dg.tw F aa ag cJ H = some (v, H')) : Go.AE.T Try.prog 165 [(.int .i64 aa), (.int .i64 ag), (.int .i64 cJ)] H v H' :=
 Go.AE.T.of (Y := tabs) (C := mkOrc (dg.cs F (dI.tw F))) (PN := dg.pn) (LH := dg.lh F (dI.tw F)) (F := F) (TB := dg.tb) (fn := Try.f165) (code := dg.code) mixed tabs_ok (mkOrc_ok (dg.cs_ok F)) Try.func165 (by kernel_rfl) (by kernel_rfl) dg.ok (Nat.le_of_ble_eq_true (by kernel_rfl)) (dg.loops F (dI.tw F)) (Eq.trans (dg.eqX F (dI.tw F) aa ag cJ H) h)
theorem dg.mk_T {F : Nat} {args : List AV} {H : Hp} {v : AV} {H' : Hp} (h : dg.mk (dg.tw F) args H = some (v, H')) : Go.AE.T Try.prog 165 args H v H' := by
 unfold dg.mk at h
 split at h
 ·exact dg.T h
 ·cases h
noncomputable def dh.twX (F : Nat) (ci : Int → Hp → OA) (aa : Nat) (ac : Nat) (ae : Int) (af : Int) (bu : Sl) (cL : Int) (cM : Int) (cu : Int) (H : Hp) : OA := (Hp.new H [(.int .i64 ae), (.int .i64 af), (.sl bu)]).bind fun H9 => (ci cu H9).bind fun r10 => ((r10.1).asI .i64).bind fun n11 => (bif (decide (n11 > 1000000000000)) then ((Hp.st r10.2 aa (ac + 15) (.bool true)).bind fun H12 => some ((.tup []), H12)) else ((Hp.ldSl r10.2 H.length 2).bind fun s13 => (Hp.ldI r10.2 .i64 H.length 1).bind fun n14 => (Sl.idx s13 (IntKind.i64.wrap ((IntKind.i64.wrap (cL * n14)) + cM)) 1).bind fun p15 => (Hp.st r10.2 p15.1 p15.2 (.int .i64 cu)).bind fun H16 => some ((.tup []), H16)))
noncomputable def dh.tw (F : Nat) (aa : Nat) (ac : Nat) (ae : Int) (af : Int) (bu : Sl) (cL : Int) (cM : Int) (cu : Int) (H : Hp) : OA := dh.twX F (cl.tw F) aa ac ae af bu cL cM cu H
noncomputable def dh.code : Go.Code := (Try.f164.body).getD .skip
noncomputable def dh.lh (F : Nat) (ci : Int → Hp → OA) (p : Nat) (ks : List Nat) (n : Nat) (tm : Tm) (H : Hp) : OA := none
def dh.pn : Nat → List Nat := fun i => (([] : List (Nat × List Nat)).lookup i).getD []
def dh.tb : Nat → List (List Nat) := fun i => (([] : List (Nat × List (List Nat))).lookup i).getD []
noncomputable def dh.mk (g : Nat → Nat → Int → Int → Sl → Int → Int → Int → Hp → OA) (args : List AV) (H : Hp) : OA := match args with
 | [(.ptr aa ac), (.agg [(.int .i64 ae), (.int .i64 af), (.sl bu)]), (.int .i64 cL), (.int .i64 cM), (.int .i64 cu)] => g aa ac ae af bu cL cM cu H
 | _ => none
noncomputable def dh.cs (F : Nat) (ci : Int → Hp → OA) : List (FuncId × (List AV → Hp → OA)) := [(114, cl.mk ci)]
theorem dh.loops (F : Nat) (ci : Int → Hp → OA) : LoopsOk tabs (mkOrc (dh.cs F ci)) dh.pn (dh.lh F ci) F [] 1 dh.code (fun tm H => aresults tabs.ty H tm Try.f164.results.toList fun v => some (v, H)) (fun _ _ _ => none) (fun tm H => aresults tabs.ty H tm Try.f164.results.toList fun v => some (v, H)) := by
 exact loops_none (by kernel_rfl)
theorem dh.eqX (F : Nat) (ci : Int → Hp → OA) (aa : Nat) (ac : Nat) (ae : Int) (af : Int) (bu : Sl) (cL : Int) (cM : Int) (cu : Int) (H : Hp) : aCode tabs (mkOrc (dh.cs F ci)) dh.pn (dh.lh F ci) F [] 1 dh.code (argTm [(.ptr aa ac), (.agg [(.int .i64 ae), (.int .i64 af), (.sl bu)]), (.int .i64 cL), (.int .i64 cM), (.int .i64 cu)]) H (fun tm H => aresults tabs.ty H tm Try.f164.results.toList fun v => some (v, H)) (fun _ _ _ => none) (fun tm H => aresults tabs.ty H tm Try.f164.results.toList fun v => some (v, H)) = dh.twX F ci aa ac ae af bu cL cM cu H := by kernel_rfl
theorem dh.cs_ok (F : Nat) : ∀ p ∈ dh.cs F (cl.tw F), ∀ args H v H', p.2 args H = some (v, H') → Go.AE.T Try.prog p.1 args H v H' := by
 intro p hp
 simp only [dh.cs, List.mem_cons, List.not_mem_nil, or_false] at hp
 subst hp
 exact fun args H v H' h => cl.mk_T h
theorem dh.ok : codeOk dh.pn Try.f164.ntmps dh.tb dh.code = true := by kernel_rfl
theorem dh.T {F : Nat} {aa : Nat} {ac : Nat} {ae : Int} {af : Int} {bu : Sl} {cL : Int} {cM : Int} {cu : Int} {H : Hp} {v : AV} {H' : Hp} (h : dh.tw F aa ac ae af bu cL cM cu H = some (v, H')) : Go.AE.T Try.prog 164 [(.ptr aa ac), (.agg [(.int .i64 ae), (.int .i64 af), (.sl bu)]), (.int .i64 cL), (.int .i64 cM), (.int .i64 cu)] H v H' :=
 Go.AE.T.of (Y := tabs) (C := mkOrc (dh.cs F (cl.tw F))) (PN := dh.pn) (LH := dh.lh F (cl.tw F)) (F := F) (TB := dh.tb) (fn := Try.f164) (code := dh.code) mixed tabs_ok (mkOrc_ok (dh.cs_ok F)) Try.func164 (by kernel_rfl) (by kernel_rfl) dh.ok (Nat.le_of_ble_eq_true (by kernel_rfl)) (dh.loops F (cl.tw F)) (Eq.trans (dh.eqX F (cl.tw F) aa ac ae af bu cL cM cu H) h)
theorem dh.mk_T {F : Nat} {args : List AV} {H : Hp} {v : AV} {H' : Hp} (h : dh.mk (dh.tw F) args H = some (v, H')) : Go.AE.T Try.prog 164 args H v H' := by
 unfold dh.mk at h
 split at h
 ·exact dh.T h
 ·cases h
noncomputable def bD.l7 (F : Nat) (ai : Int → Int → Sl → Int → Int → Hp → OA) (eY : Int → Int → Int → Hp → OA) (eZ : Nat → Nat → Int → Int → Sl → Int → Int → Int → Hp → OA)  : Nat → Nat → Nat → Int → Int → Int → Nat → Nat → Int → Hp → OA
 | 0, _, _, _, _, _, _, _, _, _ => none
 | kk + 1, fX, cO, eI, dT, fu, eF, cN, eJ, H21 => (Hp.ldI H21 .i64 eF (cN + 1)).bind fun n40 => (bif (decide (eJ < n40)) then ((Hp.ldB H21 fX (cO + 15)).bind fun b41 => (bif (!b41) then ((Hp.ldI H21 .i64 eF cN).bind fun n42 => (Hp.ldI H21 .i64 eF (cN + 1)).bind fun n43 => (Hp.ldSl H21 eF (cN + 2)).bind fun s44 => (Hp.ldI H21 .i64 eF cN).bind fun n45 => (Hp.ldI H21 .i64 eF (cN + 1)).bind fun n46 => (Hp.ldSl H21 eF (cN + 2)).bind fun s47 => (ai n45 n46 s47 eI eJ H21).bind fun r48 => ((r48.1).asI .i64).bind fun n49 => (if Cons H21 r48.2 then ((Hp.ldI r48.2 .i64 eF cN).bind fun n50 => (Hp.ldI r48.2 .i64 eF (cN + 1)).bind fun n51 => (Hp.ldSl r48.2 eF (cN + 2)).bind fun s52 => (ai n50 n51 s52 dT eJ r48.2).bind fun r53 => ((r53.1).asI .i64).bind fun n54 => (if Cons r48.2 r53.2 then ((eY n49 fu n54 r53.2).bind fun r55 => ((r55.1).asI .i64).bind fun n56 => (if Cons r53.2 r55.2 then ((eZ fX cO n42 n43 s44 eI eJ n56 r55.2).bind fun r57 => bD.l7 F ai eY eZ kk fX cO eI dT fu eF cN (IntKind.i64.wrap (eJ + 1)) r57.2) else none)) else none)) else none)) else (some ((.tup []), H21)))) else (some ((.tup []), H21)))
termination_by structural n => n
noncomputable def bD.twX (F : Nat) (ai : Int → Int → Sl → Int → Int → Hp → OA) (eY : Int → Int → Int → Hp → OA) (eZ : Nat → Nat → Int → Int → Sl → Int → Int → Int → Hp → OA) (aa : Nat) (ac : Nat) (ae : Int) (af : Int) (bu : Sl) (cL : Int) (cM : Int) (cu : Int) (H : Hp) : OA := (Hp.new H [(.int .i64 ae), (.int .i64 af), (.sl bu)]).bind fun H9 => bD.l7 F ai eY eZ F aa ac cL cM cu H.length 0 0 H9
noncomputable def bD.tw (F : Nat) (aa : Nat) (ac : Nat) (ae : Int) (af : Int) (bu : Sl) (cL : Int) (cM : Int) (cu : Int) (H : Hp) : OA := bD.twX F (aC.tw F) (dg.tw F) (dh.tw F) aa ac ae af bu cL cM cu H
noncomputable def bD.code : Go.Code := (Try.f160.body).getD .skip
noncomputable def bD.lh7 (F : Nat) (ai : Int → Int → Sl → Int → Int → Hp → OA) (eY : Int → Int → Int → Hp → OA) (eZ : Nat → Nat → Int → Int → Sl → Int → Int → Int → Hp → OA) (ks : List Nat) (n : Nat) (tm : Tm) (H : Hp) : OA := match ks, tm 0, tm 2, tm 3, tm 4, tm 6, tm 10 with
 | [], (.ptr fX cO), (.int .i64 eI), (.int .i64 dT), (.int .i64 fu), (.ptr eF cN), (.int .i64 eJ) => bD.l7 F ai eY eZ n fX cO eI dT fu eF cN eJ H
 | _, _, _, _, _, _, _ => none
theorem bD.lh7_inv {F : Nat} {ai : Int → Int → Sl → Int → Int → Hp → OA} {eY : Int → Int → Int → Hp → OA} {eZ : Nat → Nat → Int → Int → Sl → Int → Int → Int → Hp → OA} {ks : List Nat} {n : Nat} {tm : Tm} {H : Hp} {r : AV × Hp} (h : bD.lh7 F ai eY eZ ks n tm H = some r) : ∃ fX : Nat, ∃ cO : Nat, ∃ eI : Int, ∃ dT : Int, ∃ fu : Int, ∃ eF : Nat, ∃ cN : Nat, ∃ eJ : Int, ks = [] ∧ tm 0 = (.ptr fX cO) ∧ tm 2 = (.int .i64 eI) ∧ tm 3 = (.int .i64 dT) ∧ tm 4 = (.int .i64 fu) ∧ tm 6 = (.ptr eF cN) ∧ tm 10 = (.int .i64 eJ) ∧ bD.l7 F ai eY eZ n fX cO eI dT fu eF cN eJ H = some r := by
 unfold bD.lh7 at h
 split at h
 ·exact ⟨_, _, _, _, _, _, _, _, rfl, by assumption, by assumption, by assumption, by assumption, by assumption, by assumption, h⟩
 ·cases h
noncomputable def bD.lh (F : Nat) (ai : Int → Int → Sl → Int → Int → Hp → OA) (eY : Int → Int → Int → Hp → OA) (eZ : Nat → Nat → Int → Int → Sl → Int → Int → Int → Hp → OA) (p : Nat) (ks : List Nat) (n : Nat) (tm : Tm) (H : Hp) : OA := bif p.beq 7 then bD.lh7 F ai eY eZ ks n tm H else (none)
def bD.pn : Nat → List Nat := fun i => (([(4, [14])] : List (Nat × List Nat)).lookup i).getD []
def bD.tb : Nat → List (List Nat) := fun i => (([(4, [[], [], [], [], [], [], [], [4, 5, 6], [], [], [], [], [4, 5, 6, 7, 9, 10, 11], [4, 5, 6, 7, 8, 9, 10, 11, 12], [0, 1, 2, 3, 4, 5, 6, 7, 8, 9, 10, 11, 12, 13]])] : List (Nat × List (List Nat))).lookup i).getD []
noncomputable def bD.mk (g : Nat → Nat → Int → Int → Sl → Int → Int → Int → Hp → OA) (args : List AV) (H : Hp) : OA := match args with
 | [(.ptr aa ac), (.agg [(.int .i64 ae), (.int .i64 af), (.sl bu)]), (.int .i64 cL), (.int .i64 cM), (.int .i64 cu)] => g aa ac ae af bu cL cM cu H
 | _ => none
noncomputable def bD.cs (F : Nat) (ai : Int → Int → Sl → Int → Int → Hp → OA) (eY : Int → Int → Int → Hp → OA) (eZ : Nat → Nat → Int → Int → Sl → Int → Int → Int → Hp → OA) : List (FuncId × (List AV → Hp → OA)) := [(79, aC.mk ai), (165, dg.mk eY), (164, dh.mk eZ)]
theorem bD.loops (F : Nat) (ai : Int → Int → Sl → Int → Int → Hp → OA) (eY : Int → Int → Int → Hp → OA) (eZ : Nat → Nat → Int → Int → Sl → Int → Int → Int → Hp → OA) : LoopsOk tabs (mkOrc (bD.cs F ai eY eZ)) bD.pn (bD.lh F ai eY eZ) F [] 1 bD.code (fun tm H => aresults tabs.ty H tm Try.f160.results.toList fun v => some (v, H)) (fun _ _ _ => none) (fun tm H => aresults tabs.ty H tm Try.f160.results.toList fun v => some (v, H)) := by
 refine LoopsOk.seq ?_ ?_
 ·exact loops_none (by kernel_rfl)
 ·refine LoopsOk.seq ?_ ?_
  ·exact loops_none (by kernel_rfl)
  ·refine LoopsOk.block ?_
   refine LoopsOk.loop (fun tm H => ?_) (fun k7 tm H r h0 => ?_) (fun k7 => ?_)
   ·refine none_of fun r h0 => ?_
    obtain ⟨fX, cO, eI, dT, fu, eF, cN, eJ, hks, e0, e2, e3, e4, e6, e10, h⟩ := bD.lh7_inv (show bD.lh7 F ai eY eZ [] 0 tm H = some r from h0)
    cases h
   ·obtain ⟨fX, cO, eI, dT, fu, eF, cN, eJ, hks, e0, e2, e3, e4, e6, e10, h⟩ := bD.lh7_inv (show bD.lh7 F ai eY eZ [] (k7 + 1) tm H = some r from h0)
    have q0 : (Tm.put tm 0 (.ptr fX cO)) = tm := by exact Tm.put_same e0
    have q1 : (Tm.put (Tm.put tm 0 (.ptr fX cO)) 2 (.int .i64 eI)) = tm := by rw [q0]; exact Tm.put_same e2
    have q2 : (Tm.put (Tm.put (Tm.put tm 0 (.ptr fX cO)) 2 (.int .i64 eI)) 3 (.int .i64 dT)) = tm := by rw [q1]; exact Tm.put_same e3
    have q3 : (Tm.put (Tm.put (Tm.put (Tm.put tm 0 (.ptr fX cO)) 2 (.int .i64 eI)) 3 (.int .i64 dT)) 4 (.int .i64 fu)) = tm := by rw [q2]; exact Tm.put_same e4
    have q4 : (Tm.put (Tm.put (Tm.put (Tm.put (Tm.put tm 0 (.ptr fX cO)) 2 (.int .i64 eI)) 3 (.int .i64 dT)) 4 (.int .i64 fu)) 6 (.ptr eF cN)) = tm := by rw [q3]; exact Tm.put_same e6
    have q5 : (Tm.put (Tm.put (Tm.put (Tm.put (Tm.put (Tm.put tm 0 (.ptr fX cO)) 2 (.int .i64 eI)) 3 (.int .i64 dT)) 4 (.int .i64 fu)) 6 (.ptr eF cN)) 10 (.int .i64 eJ)) = tm := by rw [q4]; exact Tm.put_same e10
    rw [← q5]
    exact Eq.trans (by kernel_rfl) h
   ·exact loops_none (by kernel_rfl)
theorem bD.eqX (F : Nat) (ai : Int → Int → Sl → Int → Int → Hp → OA) (eY : Int → Int → Int → Hp → OA) (eZ : Nat → Nat → Int → Int → Sl → Int → Int → Int → Hp → OA) (aa : Nat) (ac : Nat) (ae : Int) (af : Int) (bu : Sl) (cL : Int) (cM : Int) (cu : Int) (H : Hp) : aCode tabs (mkOrc (bD.cs F ai eY eZ)) bD.pn (bD.lh F ai eY eZ) F [] 1 bD.code (argTm [(.ptr aa ac), (.agg [(.int .i64 ae), (.int .i64 af), (.sl bu)]), (.int .i64 cL), (.int .i64 cM), (.int .i64 cu)]) H (fun tm H => aresults tabs.ty H tm Try.f160.results.toList fun v => some (v, H)) (fun _ _ _ => none) (fun tm H => aresults tabs.ty H tm Try.f160.results.toList fun v => some (v, H)) = bD.twX F ai eY eZ aa ac ae af bu cL cM cu H := by kernel_rfl
theorem bD.cs_ok (F : Nat) : ∀ p ∈ bD.cs F (aC.tw F) (dg.tw F) (dh.tw F), ∀ args H v H', p.2 args H = some (v, H') → Go.AE.T Try.prog p.1 args H v H' := by
 intro p hp
 simp only [bD.cs, List.mem_cons, List.not_mem_nil, or_false] at hp
 rcases hp with rfl | rfl | rfl
 ·exact fun args H v H' h => aC.mk_T h
 ·exact fun args H v H' h => dg.mk_T h
 ·exact fun args H v H' h => dh.mk_T h
theorem bD.ok : codeOk bD.pn Try.f160.ntmps bD.tb bD.code = true := by kernel_rfl
theorem bD.T {F : Nat} {aa : Nat} {ac : Nat} {ae : Int} {af : Int} {bu : Sl} {cL : Int} {cM : Int} {cu : Int} {H : Hp} {v : AV} {H' : Hp} (h : bD.tw F aa ac ae af bu cL cM cu H = some (v, H')) : Go.AE.T Try.prog 160 [(.ptr aa ac), (.agg [(.int .i64 ae), (.int .i64 af), (.sl bu)]), (.int .i64 cL), (.int .i64 cM), (.int .i64 cu)] H v H' :=
 Go.AE.T.of (Y := tabs) (C := mkOrc (bD.cs F (aC.tw F) (dg.tw F) (dh.tw F))) (PN := bD.pn) (LH := bD.lh F (aC.tw F) (dg.tw F) (dh.tw F)) (F := F) (TB := bD.tb) (fn := Try.f160) (code := bD.code) mixed tabs_ok (mkOrc_ok (bD.cs_ok F)) Try.func160 (by kernel_rfl) (by kernel_rfl) bD.ok (Nat.le_of_ble_eq_true (by kernel_rfl)) (bD.loops F (aC.tw F) (dg.tw F) (dh.tw F)) (Eq.trans (bD.eqX F (aC.tw F) (dg.tw F) (dh.tw F) aa ac ae af bu cL cM cu H) h)
theorem bD.mk_T {F : Nat} {args : List AV} {H : Hp} {v : AV} {H' : Hp} (h : bD.mk (bD.tw F) args H = some (v, H')) : Go.AE.T Try.prog 160 args H v H' := by
 unfold bD.mk at h
 split at h
 ·exact bD.T h
 ·cases h
noncomputable def bE.l7 (F : Nat) (ai : Int → Int → Sl → Int → Int → Hp → OA) (eY : Int → Int → Int → Hp → OA) (eZ : Nat → Nat → Int → Int → Sl → Int → Int → Int → Hp → OA)  : Nat → Nat → Nat → Int → Int → Int → Nat → Nat → Int → Hp → OA
 | 0, _, _, _, _, _, _, _, _, _ => none
 | kk + 1, fX, cO, eI, dT, fu, eF, cN, eJ, H21 => (Hp.ldI H21 .i64 eF cN).bind fun n40 => (bif (decide (eJ < n40)) then ((Hp.ldB H21 fX (cO + 15)).bind fun b41 => (bif (!b41) then ((Hp.ldI H21 .i64 eF cN).bind fun n42 => (Hp.ldI H21 .i64 eF (cN + 1)).bind fun n43 => (Hp.ldSl H21 eF (cN + 2)).bind fun s44 => (Hp.ldI H21 .i64 eF cN).bind fun n45 => (Hp.ldI H21 .i64 eF (cN + 1)).bind fun n46 => (Hp.ldSl H21 eF (cN + 2)).bind fun s47 => (ai n45 n46 s47 eJ eI H21).bind fun r48 => ((r48.1).asI .i64).bind fun n49 => (if Cons H21 r48.2 then ((Hp.ldI r48.2 .i64 eF cN).bind fun n50 => (Hp.ldI r48.2 .i64 eF (cN + 1)).bind fun n51 => (Hp.ldSl r48.2 eF (cN + 2)).bind fun s52 => (ai n50 n51 s52 eJ dT r48.2).bind fun r53 => ((r53.1).asI .i64).bind fun n54 => (if Cons r48.2 r53.2 then ((eY n49 fu n54 r53.2).bind fun r55 => ((r55.1).asI .i64).bind fun n56 => (if Cons r53.2 r55.2 then ((eZ fX cO n42 n43 s44 eJ eI n56 r55.2).bind fun r57 => bE.l7 F ai eY eZ kk fX cO eI dT fu eF cN (IntKind.i64.wrap (eJ + 1)) r57.2) else none)) else none)) else none)) else (some ((.tup []), H21)))) else (some ((.tup []), H21)))
termination_by structural n => n
noncomputable def bE.twX (F : Nat) (ai : Int → Int → Sl → Int → Int → Hp → OA) (eY : Int → Int → Int → Hp → OA) (eZ : Nat → Nat → Int → Int → Sl → Int → Int → Int → Hp → OA) (aa : Nat) (ac : Nat) (ae : Int) (af : Int) (bu : Sl) (cL : Int) (cM : Int) (cu : Int) (H : Hp) : OA := (Hp.new H [(.int .i64 ae), (.int .i64 af), (.sl bu)]).bind fun H9 => bE.l7 F ai eY eZ F aa ac cL cM cu H.length 0 0 H9
noncomputable def bE.tw (F : Nat) (aa : Nat) (ac : Nat) (ae : Int) (af : Int) (bu : Sl) (cL : Int) (cM : Int) (cu : Int) (H : Hp) : OA := bE.twX F (aC.tw F) (dg.tw F) (dh.tw F) aa ac ae af bu cL cM cu H
noncomputable def bE.code : Go.Code := (Try.f161.body).getD .skip
noncomputable def bE.lh7 (F : Nat) (ai : Int → Int → Sl → Int → Int → Hp → OA) (eY : Int → Int → Int → Hp → OA) (eZ : Nat → Nat → Int → Int → Sl → Int → Int → Int → Hp → OA) (ks : List Nat) (n : Nat) (tm : Tm) (H : Hp) : OA := match ks, tm 0, tm 2, tm 3, tm 4, tm 6, tm 10 with
 | [], (.ptr fX cO), (.int .i64 eI), (.int .i64 dT), (.int .i64 fu), (.ptr eF cN), (.int .i64 eJ) => bE.l7 F ai eY eZ n fX cO eI dT fu eF cN eJ H
 | _, _, _, _, _, _, _ => none
theorem bE.lh7_inv {F : Nat} {ai : Int → Int → Sl → Int → Int → Hp → OA} {eY : Int → Int → Int → Hp → OA} {eZ : Nat → Nat → Int → Int → Sl → Int → Int → Int → Hp → OA} {ks : List Nat} {n : Nat} {tm : Tm} {H : Hp} {r : AV × Hp} (h : bE.lh7 F ai eY eZ ks n tm H = some r) : ∃ fX : Nat, ∃ cO : Nat, ∃ eI : Int, ∃ dT : Int, ∃ fu : Int, ∃ eF : Nat, ∃ cN : Nat, ∃ eJ : Int, ks = [] ∧ tm 0 = (.ptr fX cO) ∧ tm 2 = (.int .i64 eI) ∧ tm 3 = (.int .i64 dT) ∧ tm 4 = (.int .i64 fu) ∧ tm 6 = (.ptr eF cN) ∧ tm 10 = (.int .i64 eJ) ∧ bE.l7 F ai eY eZ n fX cO eI dT fu eF cN eJ H = some r := by
 unfold bE.lh7 at h
 split at h
 ·exact ⟨_, _, _, _, _, _, _, _, rfl, by assumption, by assumption, by assumption, by assumption, by assumption, by assumption, h⟩
 ·cases h
noncomputable def bE.lh (F : Nat) (ai : Int → Int → Sl → Int → Int → Hp → OA) (eY : Int → Int → Int → Hp → OA) (eZ : Nat → Nat → Int → Int → Sl → Int → Int → Int → Hp → OA) (p : Nat) (ks : List Nat) (n : Nat) (tm : Tm) (H : Hp) : OA := bif p.beq 7 then bE.lh7 F ai eY eZ ks n tm H else (none)
def bE.pn : Nat → List Nat := fun i => (([(4, [14])] : List (Nat × List Nat)).lookup i).getD []
def bE.tb : Nat → List (List Nat) := fun i => (([(4, [[], [], [], [], [], [], [], [4, 5, 6], [], [], [], [], [4, 5, 6, 7, 9, 10, 11], [4, 5, 6, 7, 8, 9, 10, 11, 12], [0, 1, 2, 3, 4, 5, 6, 7, 8, 9, 10, 11, 12, 13]])] : List (Nat × List (List Nat))).lookup i).getD []
noncomputable def bE.mk (g : Nat → Nat → Int → Int → Sl → Int → Int → Int → Hp → OA) (args : List AV) (H : Hp) : OA := match args with
 | [(.ptr aa ac), (.agg [(.int .i64 ae), (.int .i64 af), (.sl bu)]), (.int .i64 cL), (.int .i64 cM), (.int .i64 cu)] => g aa ac ae af bu cL cM cu H
 | _ => none
noncomputable def bE.cs (F : Nat) (ai : Int → Int → Sl → Int → Int → Hp → OA) (eY : Int → Int → Int → Hp → OA) (eZ : Nat → Nat → Int → Int → Sl → Int → Int → Int → Hp → OA) : List (FuncId × (List AV → Hp → OA)) := [(79, aC.mk ai), (165, dg.mk eY), (164, dh.mk eZ)]
theorem bE.loops (F : Nat) (ai : Int → Int → Sl → Int → Int → Hp → OA) (eY : Int → Int → Int → Hp → OA) (eZ : Nat → Nat → Int → Int → Sl → Int → Int → Int → Hp → OA) : LoopsOk tabs (mkOrc (bE.cs F ai eY eZ)) bE.pn (bE.lh F ai eY eZ) F [] 1 bE.code (fun tm H => aresults tabs.ty H tm Try.f161.results.toList fun v => some (v, H)) (fun _ _ _ => none) (fun tm H => aresults tabs.ty H tm Try.f161.results.toList fun v => some (v, H)) := by
 refine LoopsOk.seq ?_ ?_
 ·exact loops_none (by kernel_rfl)
 ·refine LoopsOk.seq ?_ ?_
  ·exact loops_none (by kernel_rfl)
  ·refine LoopsOk.block ?_
   refine LoopsOk.loop (fun tm H => ?_) (fun k7 tm H r h0 => ?_) (fun k7 => ?_)
   ·refine none_of fun r h0 => ?_
    obtain ⟨fX, cO, eI, dT, fu, eF, cN, eJ, hks, e0, e2, e3, e4, e6, e10, h⟩ := bE.lh7_inv (show bE.lh7 F ai eY eZ [] 0 tm H = some r from h0)
    cases h
   ·obtain ⟨fX, cO, eI, dT, fu, eF, cN, eJ, hks, e0, e2, e3, e4, e6, e10, h⟩ := bE.lh7_inv (show bE.lh7 F ai eY eZ [] (k7 + 1) tm H = some r from h0)
    have q0 : (Tm.put tm 0 (.ptr fX cO)) = tm := by exact Tm.put_same e0
    have q1 : (Tm.put (Tm.put tm 0 (.ptr fX cO)) 2 (.int .i64 eI)) = tm := by rw [q0]; exact Tm.put_same e2
    have q2 : (Tm.put (Tm.put (Tm.put tm 0 (.ptr fX cO)) 2 (.int .i64 eI)) 3 (.int .i64 dT)) = tm := by rw [q1]; exact Tm.put_same e3
    have q3 : (Tm.put (Tm.put (Tm.put (Tm.put tm 0 (.ptr fX cO)) 2 (.int .i64 eI)) 3 (.int .i64 dT)) 4 (.int .i64 fu)) = tm := by rw [q2]; exact Tm.put_same e4
    have q4 : (Tm.put (Tm.put (Tm.put (Tm.put (Tm.put tm 0 (.ptr fX cO)) 2 (.int .i64 eI)) 3 (.int .i64 dT)) 4 (.int .i64 fu)) 6 (.ptr eF cN)) = tm := by rw [q3]; exact Tm.put_same e6
    have q5 : (Tm.put (Tm.put (Tm.put (Tm.put (Tm.put (Tm.put tm 0 (.ptr fX cO)) 2 (.int .i64 eI)) 3 (.int .i64 dT)) 4 (.int .i64 fu)) 6 (.ptr eF cN)) 10 (.int .i64 eJ)) = tm := by rw [q4]; exact Tm.put_same e10
    rw [← q5]
    exact Eq.trans (by kernel_rfl) h
   ·exact loops_none (by kernel_rfl)
theorem bE.eqX (F : Nat) (ai : Int → Int → Sl → Int → Int → Hp → OA) (eY : Int → Int → Int → Hp → OA) (eZ : Nat → Nat → Int → Int → Sl → Int → Int → Int → Hp → OA) (aa : Nat) (ac : Nat) (ae : Int) (af : Int) (bu : Sl) (cL : Int) (cM : Int) (cu : Int) (H : Hp) : aCode tabs (mkOrc (bE.cs F ai eY eZ)) bE.pn (bE.lh F ai eY eZ) F [] 1 bE.code (argTm [(.ptr aa ac), (.agg [(.int .i64 ae), (.int .i64 af), (.sl bu)]), (.int .i64 cL), (.int .i64 cM), (.int .i64 cu)]) H (fun tm H => aresults tabs.ty H tm Try.f161.results.toList fun v => some (v, H)) (fun _ _ _ => none) (fun tm H => aresults tabs.ty H tm Try.f161.results.toList fun v => some (v, H)) = bE.twX F ai eY eZ aa ac ae af bu cL cM cu H := by kernel_rfl
theorem bE.cs_ok (F : Nat) : ∀ p ∈ bE.cs F (aC.tw F) (dg.tw F) (dh.tw F), ∀ args H v H', p.2 args H = some (v, H') → Go.AE.T Try.prog p.1 args H v H' := by
 intro p hp
 simp only [bE.cs, List.mem_cons, List.not_mem_nil, or_false] at hp
 rcases hp with rfl | rfl | rfl
 ·exact fun args H v H' h => aC.mk_T h
 ·exact fun args H v H' h => dg.mk_T h
 ·exact fun args H v H' h => dh.mk_T h
theorem bE.ok : codeOk bE.pn Try.f161.ntmps bE.tb bE.code = true := by kernel_rfl
theorem bE.T {F : Nat} {aa : Nat} {ac : Nat} {ae : Int} {af : Int} {bu : Sl} {cL : Int} {cM : Int} {cu : Int} {H : Hp} {v : AV} {H' : Hp} (h : bE.tw F aa ac ae af bu cL cM cu H = some (v, H')) : Go.AE.T Try.prog 161 [(.ptr aa ac), (.agg [(.int .i64 ae), (.int .i64 af), (.sl bu)]), (.int .i64 cL), (.int .i64 cM), (.int .i64 cu)] H v H' :=
 Go.AE.T.of (Y := tabs) (C := mkOrc (bE.cs F (aC.tw F) (dg.tw F) (dh.tw F))) (PN := bE.pn) (LH := bE.lh F (aC.tw F) (dg.tw F) (dh.tw F)) (F := F) (TB := bE.tb) (fn := Try.f161) (code := bE.code) mixed tabs_ok (mkOrc_ok (bE.cs_ok F)) Try.func161 (by kernel_rfl) (by kernel_rfl) bE.ok (Nat.le_of_ble_eq_true (by kernel_rfl)) (bE.loops F (aC.tw F) (dg.tw F) (dh.tw F)) (Eq.trans (bE.eqX F (aC.tw F) (dg.tw F) (dh.tw F) aa ac ae af bu cL cM cu H) h)
theorem bE.mk_T {F : Nat} {args : List AV} {H : Hp} {v : AV} {H' : Hp} (h : bE.mk (bE.tw F) args H = some (v, H')) : Go.AE.T Try.prog 161 args H v H' := by
 unfold bE.mk at h
 split at h
 ·exact bE.T h
 ·cases h
noncomputable def dt.twX (F : Nat) (gZ : Nat → Nat → Int → Int → Sl → Int → Int → Int → Hp → OA) (g_ : Nat → Nat → Int → Int → Sl → Int → Int → Int → Hp → OA) (aa : Nat) (ac : Nat) (ae : Int) (bC : Int) (cv : Int) (H : Hp) : OA := (bif (cv != 0) then ((Hp.ldI H .i64 aa ac).bind fun n6 => (Hp.ldI H .i64 aa (ac + 1)).bind fun n7 => (Hp.ldSl H aa (ac + 2)).bind fun s8 => (gZ aa ac n6 n7 s8 ae bC cv H).bind fun r9 => (Hp.ldI r9.2 .i64 aa (ac + 3)).bind fun n10 => (Hp.ldI r9.2 .i64 aa ((ac + 3) + 1)).bind fun n11 => (Hp.ldSl r9.2 aa ((ac + 3) + 2)).bind fun s12 => (gZ aa ac n10 n11 s12 ae bC cv r9.2).bind fun r13 => (Hp.ldI r13.2 .i64 aa (ac + 6)).bind fun n14 => (Hp.ldI r13.2 .i64 aa ((ac + 6) + 1)).bind fun n15 => (Hp.ldSl r13.2 aa ((ac + 6) + 2)).bind fun s16 => (g_ aa ac n14 n15 s16 bC ae (IntKind.i64.wrap (0 - cv)) r13.2).bind fun r17 => some ((.tup []), r17.2)) else (some ((.tup []), H)))
noncomputable def dt.tw (F : Nat) (aa : Nat) (ac : Nat) (ae : Int) (bC : Int) (cv : Int) (H : Hp) : OA := dt.twX F (bD.tw F) (bE.tw F) aa ac ae bC cv H
noncomputable def dt.code : Go.Code := (Try.f140.body).getD .skip
noncomputable def dt.lh (F : Nat) (gZ : Nat → Nat → Int → Int → Sl → Int → Int → Int → Hp → OA) (g_ : Nat → Nat → Int → Int → Sl → Int → Int → Int → Hp → OA) (p : Nat) (ks : List Nat) (n : Nat) (tm : Tm) (H : Hp) : OA := none
def dt.pn : Nat → List Nat := fun i => (([] : List (Nat × List Nat)).lookup i).getD []
def dt.tb : Nat → List (List Nat) := fun i => (([] : List (Nat × List (List Nat))).lookup i).getD []
noncomputable def dt.mk (g : Nat → Nat → Int → Int → Int → Hp → OA) (args : List AV) (H : Hp) : OA := match args with
 | [(.ptr aa ac), (.int .i64 ae), (.int .i64 bC), (.int .i64 cv)] => g aa ac ae bC cv H
 | _ => none
noncomputable def dt.cs (F : Nat) (gZ : Nat → Nat → Int → Int → Sl → Int → Int → Int → Hp → OA) (g_ : Nat → Nat → Int → Int → Sl → Int → Int → Int → Hp → OA) : List (FuncId × (List AV → Hp → OA)) := [(160, bD.mk gZ), (161, bE.mk g_)]
theorem dt.loops (F : Nat) (gZ : Nat → Nat → Int → Int → Sl → Int → Int → Int → Hp → OA) (g_ : Nat → Nat → Int → Int → Sl → Int → Int → Int → Hp → OA) : LoopsOk tabs (mkOrc (dt.cs F gZ g_)) dt.pn (dt.lh F gZ g_) F [] 1 dt.code (fun tm H => aresults tabs.ty H tm Try.f140.results.toList fun v => some (v, H)) (fun _ _ _ => none) (fun tm H => aresults tabs.ty H tm Try.f140.results.toList fun v => some (v, H)) := by
 exact loops_none (by kernel_rfl)
theorem dt.eqX (F : Nat) (gZ : Nat → Nat → Int → Int → Sl → Int → Int → Int → Hp → OA) (g_ : Nat → Nat → Int → Int → Sl → Int → Int → Int → Hp → OA) (aa : Nat) (ac : Nat) (ae : Int) (bC : Int) (cv : Int) (H : Hp) : aCode tabs (mkOrc (dt.cs F gZ g_)) dt.pn (dt.lh F gZ g_) F [] 1 dt.code (argTm [(.ptr aa ac), (.int .i64 ae), (.int .i64 bC), (.int .i64 cv)]) H (fun tm H => aresults tabs.ty H tm Try.f140.results.toList fun v => some (v, H)) (fun _ _ _ => none) (fun tm H => aresults tabs.ty H tm Try.f140.results.toList fun v => some (v, H)) = dt.twX F gZ g_ aa ac ae bC cv H := by kernel_rfl
theorem dt.cs_ok (F : Nat) : ∀ p ∈ dt.cs F (bD.tw F) (bE.tw F), ∀ args H v H', p.2 args H = some (v, H') → Go.AE.T Try.prog p.1 args H v H' := by
 intro p hp
 simp only [dt.cs, List.mem_cons, List.not_mem_nil, or_false] at hp
 rcases hp with rfl | rfl
 ·exact fun args H v H' h => bD.mk_T h
 ·exact fun args H v H' h => bE.mk_T h
theorem dt.ok : codeOk dt.pn Try.f140.ntmps dt.tb dt.code = true := by kernel_rfl
theorem dt.T {F : Nat} {aa : Nat} {ac : Nat} {ae : Int} {bC : Int} {cv : Int} {H : Hp} {v : AV} {H' : Hp} (h : dt.tw F aa ac ae bC cv H = some (v, H')) : Go.AE.T Try.prog 140 [(.ptr aa ac), (.int .i64 ae), (.int .i64 bC), (.int .i64 cv)] H v H' :=
 Go.AE.T.of (Y := tabs) (C := mkOrc (dt.cs F (bD.tw F) (bE.tw F))) (PN := dt.pn) (LH := dt.lh F (bD.tw F) (bE.tw F)) (F := F) (TB := dt.tb) (fn := Try.f140) (code := dt.code) mixed tabs_ok (mkOrc_ok (dt.cs_ok F)) Try.func140 (by kernel_rfl) (by kernel_rfl) dt.ok (Nat.le_of_ble_eq_true (by kernel_rfl)) (dt.loops F (bD.tw F) (bE.tw F)) (Eq.trans (dt.eqX F (bD.tw F) (bE.tw F) aa ac ae bC cv H) h)
theorem dt.mk_T {F : Nat} {args : List AV} {H : Hp} {v : AV} {H' : Hp} (h : dt.mk (dt.tw F) args H = some (v, H')) : Go.AE.T Try.prog 140 args H v H' := by
 unfold dt.mk at h
 split at h
 ·exact dt.T h
 ·cases h
noncomputable def dy.twX (F : Nat) (g_ : Nat → Nat → Int → Int → Sl → Int → Int → Int → Hp → OA) (gZ : Nat → Nat → Int → Int → Sl → Int → Int → Int → Hp → OA) (aa : Nat) (ac : Nat) (ae : Int) (bC : Int) (cv : Int) (H : Hp) : OA := (bif (cv != 0) then ((Hp.ldI H .i64 aa ac).bind fun n6 => (Hp.ldI H .i64 aa (ac + 1)).bind fun n7 => (Hp.ldSl H aa (ac + 2)).bind fun s8 => (g_ aa ac n6 n7 s8 ae bC cv H).bind fun r9 => (Hp.ldI r9.2 .i64 aa (ac + 9)).bind fun n10 => (Hp.ldI r9.2 .i64 aa ((ac + 9) + 1)).bind fun n11 => (Hp.ldSl r9.2 aa ((ac + 9) + 2)).bind fun s12 => (g_ aa ac n10 n11 s12 ae bC cv r9.2).bind fun r13 => (Hp.ldI r13.2 .i64 aa (ac + 12)).bind fun n14 => (Hp.ldI r13.2 .i64 aa ((ac + 12) + 1)).bind fun n15 => (Hp.ldSl r13.2 aa ((ac + 12) + 2)).bind fun s16 => (gZ aa ac n14 n15 s16 bC ae (IntKind.i64.wrap (0 - cv)) r13.2).bind fun r17 => some ((.tup []), r17.2)) else (some ((.tup []), H)))
noncomputable def dy.tw (F : Nat) (aa : Nat) (ac : Nat) (ae : Int) (bC : Int) (cv : Int) (H : Hp) : OA := dy.twX F (bE.tw F) (bD.tw F) aa ac ae bC cv H
noncomputable def dy.code : Go.Code := (Try.f142.body).getD .skip
noncomputable def dy.lh (F : Nat) (g_ : Nat → Nat → Int → Int → Sl → Int → Int → Int → Hp → OA) (gZ : Nat → Nat → Int → Int → Sl → Int → Int → Int → Hp → OA) (p : Nat) (ks : List Nat) (n : Nat) (tm : Tm) (H : Hp) : OA := none
def dy.pn : Nat → List Nat := fun i => (([] : List (Nat × List Nat)).lookup i).getD []
def dy.tb : Nat → List (List Nat) := fun i => (([] : List (Nat × List (List Nat))).lookup i).getD []
noncomputable def dy.mk (g : Nat → Nat → Int → Int → Int → Hp → OA) (args : List AV) (H : Hp) : OA := match args with
 | [(.ptr aa ac), (.int .i64 ae), (.int .i64 bC), (.int .i64 cv)] => g aa ac ae bC cv H
 | _ => none
noncomputable def dy.cs (F : Nat) (g_ : Nat → Nat → Int → Int → Sl → Int → Int → Int → Hp → OA) (gZ : Nat → Nat → Int → Int → Sl → Int → Int → Int → Hp → OA) : List (FuncId × (List AV → Hp → OA)) := [(161, bE.mk g_), (160, bD.mk gZ)]
theorem dy.loops (F : Nat) (g_ : Nat → Nat → Int → Int → Sl → Int → Int → Int → Hp → OA) (gZ : Nat → Nat → Int → Int → Sl → Int → Int → Int → Hp → OA) : LoopsOk tabs (mkOrc (dy.cs F g_ gZ)) dy.pn (dy.lh F g_ gZ) F [] 1 dy.code (fun tm H => aresults tabs.ty H tm Try.f142.results.toList fun v => some (v, H)) (fun _ _ _ => none) (fun tm H => aresults tabs.ty H tm Try.f142.results.toList fun v => some (v, H)) := by
 exact loops_none (by kernel_rfl)
theorem dy.eqX (F : Nat) (g_ : Nat → Nat → Int → Int → Sl → Int → Int → Int → Hp → OA) (gZ : Nat → Nat → Int → Int → Sl → Int → Int → Int → Hp → OA) (aa : Nat) (ac : Nat) (ae : Int) (bC : Int) (cv : Int) (H : Hp) : aCode tabs (mkOrc (dy.cs F g_ gZ)) dy.pn (dy.lh F g_ gZ) F [] 1 dy.code (argTm [(.ptr aa ac), (.int .i64 ae), (.int .i64 bC), (.int .i64 cv)]) H (fun tm H => aresults tabs.ty H tm Try.f142.results.toList fun v => some (v, H)) (fun _ _ _ => none) (fun tm H => aresults tabs.ty H tm Try.f142.results.toList fun v => some (v, H)) = dy.twX F g_ gZ aa ac ae bC cv H := by kernel_rfl
theorem dy.cs_ok (F : Nat) : ∀ p ∈ dy.cs F (bE.tw F) (bD.tw F), ∀ args H v H', p.2 args H = some (v, H') → Go.AE.T Try.prog p.1 args H v H' := by
 intro p hp
 simp only [dy.cs, List.mem_cons, List.not_mem_nil, or_false] at hp
 rcases hp with rfl | rfl
 ·exact fun args H v H' h => bE.mk_T h
 ·exact fun args H v H' h => bD.mk_T h
theorem dy.ok : codeOk dy.pn Try.f142.ntmps dy.tb dy.code = true := by kernel_rfl
theorem dy.T {F : Nat} {aa : Nat} {ac : Nat} {ae : Int} {bC : Int} {cv : Int} {H : Hp} {v : AV} {H' : Hp} (h : dy.tw F aa ac ae bC cv H = some (v, H')) : Go.AE.T Try.prog 142 [(.ptr aa ac), (.int .i64 ae), (.int .i64 bC), (.int .i64 cv)] H v H' :=
 Go.AE.T.of (Y := tabs) (C := mkOrc (dy.cs F (bE.tw F) (bD.tw F))) (PN := dy.pn) (LH := dy.lh F (bE.tw F) (bD.tw F)) (F := F) (TB := dy.tb) (fn := Try.f142) (code := dy.code) mixed tabs_ok (mkOrc_ok (dy.cs_ok F)) Try.func142 (by kernel_rfl) (by kernel_rfl) dy.ok (Nat.le_of_ble_eq_true (by kernel_rfl)) (dy.loops F (bE.tw F) (bD.tw F)) (Eq.trans (dy.eqX F (bE.tw F) (bD.tw F) aa ac ae bC cv H) h)
theorem dy.mk_T {F : Nat} {args : List AV} {H : Hp} {v : AV} {H' : Hp} (h : dy.mk (dy.tw F) args H = some (v, H')) : Go.AE.T Try.prog 142 args H v H' := by
 unfold dy.mk at h
 split at h
 ·exact dy.T h
 ·cases h
noncomputable def bi.l29 (F : Nat) (ai : Int → Int → Sl → Int → Int → Hp → OA)  : Nat → Nat → Nat → Int → Int → Hp → OA
 | 0, _, _, _, _, _ => none
 | eN + 1, kl, km, jt, jb, H30 => (Hp.ldI H30 .i64 kl (km + 1)).bind fun n37 => (bif (decide (jb < n37)) then ((Hp.ldI H30 .i64 kl km).bind fun n38 => (Hp.ldI H30 .i64 kl (km + 1)).bind fun n39 => (Hp.ldSl H30 kl (km + 2)).bind fun s40 => (ai n38 n39 s40 jt jb H30).bind fun r41 => ((r41.1).asI .i64).bind fun n42 => (bif (n42 != 0) then (some ((.bool false), r41.2)) else (bi.l29 F ai eN kl km jt (IntKind.i64.wrap (jb + 1)) r41.2))) else (some ((.bool true), H30)))
termination_by structural n => n
noncomputable def bi.j1 (F : Nat) (ai : Int → Int → Sl → Int → Int → Hp → OA) (yK : Nat) (yL : Nat) (mH : Int) (H22 : Hp) : OA := bi.l29 F ai F yK yL mH (IntKind.i64.wrap (mH + 1)) H22
noncomputable def bi.l13 (F : Nat) (ai : Int → Int → Sl → Int → Int → Hp → OA)  : Nat → Nat → Nat → Int → Int → Hp → OA
 | 0, _, _, _, _, _ => none
 | hB + 1, dw, eX, dE, ef, H9 => (Hp.ldI H9 .i64 dw eX).bind fun n43 => (bif (decide (ef < n43)) then ((Hp.ldI H9 .i64 dw eX).bind fun n44 => (Hp.ldI H9 .i64 dw (eX + 1)).bind fun n45 => (Hp.ldSl H9 dw (eX + 2)).bind fun s46 => (ai n44 n45 s46 ef dE H9).bind fun r47 => ((r47.1).asI .i64).bind fun n48 => (bif (n48 != 0) then (some ((.bool false), r47.2)) else (bi.l13 F ai hB dw eX dE (IntKind.i64.wrap (ef + 1)) r47.2))) else (bi.j1 F ai dw eX dE H9))
termination_by structural n => n
noncomputable def bi.twX (F : Nat) (ai : Int → Int → Sl → Int → Int → Hp → OA) (aa : Nat) (ac : Nat) (ae : Int) (H : Hp) : OA := bi.l13 F ai F aa ac ae (IntKind.i64.wrap (ae + 1)) H
noncomputable def bi.tw (F : Nat) (aa : Nat) (ac : Nat) (ae : Int) (H : Hp) : OA := bi.twX F (aC.tw F) aa ac ae H
noncomputable def bi.code : Go.Code := (Try.f143.body).getD .skip
noncomputable def bi.lh13 (F : Nat) (ai : Int → Int → Sl → Int → Int → Hp → OA) (ks : List Nat) (n : Nat) (tm : Tm) (H : Hp) : OA := match ks, tm 0, tm 1, tm 5 with
 | [], (.ptr dw eX), (.int .i64 dE), (.int .i64 ef) => bi.l13 F ai n dw eX dE ef H
 | _, _, _, _ => none
theorem bi.lh13_inv {F : Nat} {ai : Int → Int → Sl → Int → Int → Hp → OA} {ks : List Nat} {n : Nat} {tm : Tm} {H : Hp} {r : AV × Hp} (h : bi.lh13 F ai ks n tm H = some r) : ∃ dw : Nat, ∃ eX : Nat, ∃ dE : Int, ∃ ef : Int, ks = [] ∧ tm 0 = (.ptr dw eX) ∧ tm 1 = (.int .i64 dE) ∧ tm 5 = (.int .i64 ef) ∧ bi.l13 F ai n dw eX dE ef H = some r := by
 unfold bi.lh13 at h
 split at h
 ·exact ⟨_, _, _, _, rfl, by assumption, by assumption, by assumption, h⟩
 ·cases h
noncomputable def bi.lh29 (F : Nat) (ai : Int → Int → Sl → Int → Int → Hp → OA) (ks : List Nat) (n : Nat) (tm : Tm) (H : Hp) : OA := match ks, tm 0, tm 1, tm 6 with
 | [], (.ptr kl km), (.int .i64 jt), (.int .i64 jb) => bi.l29 F ai n kl km jt jb H
 | _, _, _, _ => none
theorem bi.lh29_inv {F : Nat} {ai : Int → Int → Sl → Int → Int → Hp → OA} {ks : List Nat} {n : Nat} {tm : Tm} {H : Hp} {r : AV × Hp} (h : bi.lh29 F ai ks n tm H = some r) : ∃ kl : Nat, ∃ km : Nat, ∃ jt : Int, ∃ jb : Int, ks = [] ∧ tm 0 = (.ptr kl km) ∧ tm 1 = (.int .i64 jt) ∧ tm 6 = (.int .i64 jb) ∧ bi.l29 F ai n kl km jt jb H = some r := by
 unfold bi.lh29 at h
 split at h
 ·exact ⟨_, _, _, _, rfl, by assumption, by assumption, by assumption, h⟩
 ·cases h
noncomputable def bi.lh (F : Nat) (ai : Int → Int → Sl → Int → Int → Hp → OA) (p : Nat) (ks : List Nat) (n : Nat) (tm : Tm) (H : Hp) : OA := bif p.beq 29 then bi.lh29 F ai ks n tm H else (bif p.beq 13 then bi.lh13 F ai ks n tm H else (none))
def bi.pn : Nat → List Nat := fun i => (([] : List (Nat × List Nat)).lookup i).getD []
def bi.tb : Nat → List (List Nat) := fun i => (([] : List (Nat × List (List Nat))).lookup i).getD []
noncomputable def bi.mk (g : Nat → Nat → Int → Hp → OA) (args : List AV) (H : Hp) : OA := match args with
 | [(.ptr aa ac), (.int .i64 ae)] => g aa ac ae H
 | _ => none
noncomputable def bi.cs (F : Nat) (ai : Int → Int → Sl → Int → Int → Hp → OA) : List (FuncId × (List AV → Hp → OA)) := [(79, aC.mk ai)]
theorem bi.loops (F : Nat) (ai : Int → Int → Sl → Int → Int → Hp → OA) : LoopsOk tabs (mkOrc (bi.cs F ai)) bi.pn (bi.lh F ai) F [] 1 bi.code (fun tm H => aresults tabs.ty H tm Try.f143.results.toList fun v => some (v, H)) (fun _ _ _ => none) (fun tm H => aresults tabs.ty H tm Try.f143.results.toList fun v => some (v, H)) := by
 refine LoopsOk.seq ?_ ?_
 ·exact loops_none (by kernel_rfl)
 ·refine LoopsOk.seq ?_ ?_
  ·refine LoopsOk.seq ?_ ?_
   ·exact loops_none (by kernel_rfl)
   ·refine LoopsOk.block ?_
    refine LoopsOk.loop (fun tm H => ?_) (fun k13 tm H r h0 => ?_) (fun k13 => ?_)
    ·refine none_of fun r h0 => ?_
     obtain ⟨dw, eX, dE, ef, hks, e0, e1, e5, h⟩ := bi.lh13_inv (show bi.lh13 F ai [] 0 tm H = some r from h0)
     cases h
    ·obtain ⟨dw, eX, dE, ef, hks, e0, e1, e5, h⟩ := bi.lh13_inv (show bi.lh13 F ai [] (k13 + 1) tm H = some r from h0)
     have q0 : (Tm.put tm 0 (.ptr dw eX)) = tm := by exact Tm.put_same e0
     have q1 : (Tm.put (Tm.put tm 0 (.ptr dw eX)) 1 (.int .i64 dE)) = tm := by rw [q0]; exact Tm.put_same e1
     have q2 : (Tm.put (Tm.put (Tm.put tm 0 (.ptr dw eX)) 1 (.int .i64 dE)) 5 (.int .i64 ef)) = tm := by rw [q1]; exact Tm.put_same e5
     rw [← q2]
     exact Eq.trans (by kernel_rfl) h
    ·exact loops_none (by kernel_rfl)
  ·refine LoopsOk.seq ?_ ?_
   ·refine LoopsOk.seq ?_ ?_
    ·exact loops_none (by kernel_rfl)
    ·refine LoopsOk.block ?_
     refine LoopsOk.loop (fun tm H => ?_) (fun k29 tm H r h0 => ?_) (fun k29 => ?_)
     ·refine none_of fun r h0 => ?_
      obtain ⟨kl, km, jt, jb, hks, e0, e1, e6, h⟩ := bi.lh29_inv (show bi.lh29 F ai [] 0 tm H = some r from h0)
      cases h
     ·obtain ⟨kl, km, jt, jb, hks, e0, e1, e6, h⟩ := bi.lh29_inv (show bi.lh29 F ai [] (k29 + 1) tm H = some r from h0)
      have q0 : (Tm.put tm 0 (.ptr kl km)) = tm := by exact Tm.put_same e0
      have q1 : (Tm.put (Tm.put tm 0 (.ptr kl km)) 1 (.int .i64 jt)) = tm := by rw [q0]; exact Tm.put_same e1
      have q2 : (Tm.put (Tm.put (Tm.put tm 0 (.ptr kl km)) 1 (.int .i64 jt)) 6 (.int .i64 jb)) = tm := by rw [q1]; exact Tm.put_same e6
      rw [← q2]
      exact Eq.trans (by kernel_rfl) h
     ·exact loops_none (by kernel_rfl)
   ·exact loops_none (by kernel_rfl)
theorem bi.eqX (F : Nat) (ai : Int → Int → Sl → Int → Int → Hp → OA) (aa : Nat) (ac : Nat) (ae : Int) (H : Hp) : aCode tabs (mkOrc (bi.cs F ai)) bi.pn (bi.lh F ai) F [] 1 bi.code (argTm [(.ptr aa ac), (.int .i64 ae)]) H (fun tm H => aresults tabs.ty H tm Try.f143.results.toList fun v => some (v, H)) (fun _ _ _ => none) (fun tm H => aresults tabs.ty H tm Try.f143.results.toList fun v => some (v, H)) = bi.twX F ai aa ac ae H := by kernel_rfl
theorem bi.cs_ok (F : Nat) : ∀ p ∈ bi.cs F (aC.tw F), ∀ args H v H', p.2 args H = some (v, H') → Go.AE.T Try.prog p.1 args H v H' := by
 intro p hp
 simp only [bi.cs, List.mem_cons, List.not_mem_nil, or_false] at hp
 subst hp
 exact fun args H v H' h => aC.mk_T h
theorem bi.ok : codeOk bi.pn Try.f143.ntmps bi.tb bi.code = true := by kernel_rfl
theorem bi.T {F : Nat} {aa : Nat} {ac : Nat} {ae : Int} {H : Hp} {v : AV} {H' : Hp} (h : bi.tw F aa ac ae H = some (v, H')) : Go.AE.T Try.prog 143 [(.ptr aa ac), (.int .i64 ae)] H v H' :=
 Go.AE.T.of (Y := tabs) (C := mkOrc (bi.cs F (aC.tw F))) (PN := bi.pn) (LH := bi.lh F (aC.tw F)) (F := F) (TB := bi.tb) (fn := Try.f143) (code := bi.code) mixed tabs_ok (mkOrc_ok (bi.cs_ok F)) Try.func143 (by kernel_rfl) (by kernel_rfl) bi.ok (Nat.le_of_ble_eq_true (by kernel_rfl)) (bi.loops F (aC.tw F)) (Eq.trans (bi.eqX F (aC.tw F) aa ac ae H) h)
theorem bi.mk_T {F : Nat} {args : List AV} {H : Hp} {v : AV} {H' : Hp} (h : bi.mk (bi.tw F) args H = some (v, H')) : Go.AE.T Try.prog 143 args H v H' := by
 unfold bi.mk at h
 split at h
 ·exact bi.T h
 ·cases h
noncomputable def aU.j3 (F : Nat) (ai : Int → Int → Sl → Int → Int → Hp → OA) (C13_ : Nat → Nat → Int → Int → Hp → OA) (yM : Nat) (yN : Nat) (nV : Int) (nW : Int) (H96 : Hp) : OA := C13_ yM yN nV (IntKind.i64.wrap (nW + 1)) H96
noncomputable def aU.j4 (F : Nat) (ai : Int → Int → Sl → Int → Int → Hp → OA) (C13_ : Nat → Nat → Int → Int → Hp → OA) (yO : Nat) (yP : Nat) (nX : Int) (mI : Int) (H87 : Hp) : OA := aU.j3 F ai C13_ yO yP nX mI H87
noncomputable def aU.l213 (F : Nat) (ai : Int → Int → Sl → Int → Int → Hp → OA) (C13_ : Nat → Nat → Int → Int → Hp → OA) : Nat → Nat → Nat → Int → Int → Int → Hp → OA
 | 0, _, _, _, _, _, _ => none
 | yQ + 1, jc, jd, hD, hU, je, H67 => (Hp.ldI H67 .i64 jc (jd + 1)).bind fun n97 => (bif (decide (je < n97)) then ((Hp.ldI H67 .i64 jc jd).bind fun n98 => (Hp.ldI H67 .i64 jc (jd + 1)).bind fun n99 => (Hp.ldSl H67 jc (jd + 2)).bind fun s100 => (ai n98 n99 s100 hU je H67).bind fun r101 => ((r101.1).asI .i64).bind fun n102 => (if Cons H67 r101.2 then ((Hp.ldI r101.2 .i64 jc jd).bind fun n103 => (Hp.ldI r101.2 .i64 jc (jd + 1)).bind fun n104 => (Hp.ldSl r101.2 jc (jd + 2)).bind fun s105 => (ai n103 n104 s105 hD hD r101.2).bind fun r106 => ((r106.1).asI .i64).bind fun n107 => (if n107 = 0 then none else ((bif ((Int.tmod n102 n107) != 0) then (some ((.int .i64 hU), r106.2)) else (aU.l213 F ai C13_ yQ jc jd hD hU (IntKind.i64.wrap (je + 1)) r106.2))))) else none)) else (aU.j4 F ai C13_ jc jd hD hU H67))
termination_by structural n => n
noncomputable def aU.l13 (F : Nat) (ai : Int → Int → Sl → Int → Int → Hp → OA)  : Nat → Nat → Nat → Int → Int → Hp → OA
 | 0, _, _, _, _, _ => none
 | hB + 1, dw, eX, dE, ef, H9 => (Hp.ldI H9 .i64 dw eX).bind fun n59 => (bif (decide (ef < n59)) then (aU.l213 F ai (aU.l13 F ai hB) F dw eX dE ef (IntKind.i64.wrap (dE + 1)) H9) else (some ((.int .i64 (-1)), H9)))
termination_by structural n => n
noncomputable def aU.twX (F : Nat) (ai : Int → Int → Sl → Int → Int → Hp → OA) (aa : Nat) (ac : Nat) (ae : Int) (H : Hp) : OA := aU.l13 F ai F aa ac ae (IntKind.i64.wrap (ae + 1)) H
noncomputable def aU.tw (F : Nat) (aa : Nat) (ac : Nat) (ae : Int) (H : Hp) : OA := aU.twX F (aC.tw F) aa ac ae H
noncomputable def aU.code : Go.Code := (Try.f144.body).getD .skip
noncomputable def aU.lh13 (F : Nat) (ai : Int → Int → Sl → Int → Int → Hp → OA) (ks : List Nat) (n : Nat) (tm : Tm) (H : Hp) : OA := match ks, tm 0, tm 1, tm 5 with
 | [], (.ptr dw eX), (.int .i64 dE), (.int .i64 ef) => aU.l13 F ai n dw eX dE ef H
 | _, _, _, _ => none
theorem aU.lh13_inv {F : Nat} {ai : Int → Int → Sl → Int → Int → Hp → OA} {ks : List Nat} {n : Nat} {tm : Tm} {H : Hp} {r : AV × Hp} (h : aU.lh13 F ai ks n tm H = some r) : ∃ dw : Nat, ∃ eX : Nat, ∃ dE : Int, ∃ ef : Int, ks = [] ∧ tm 0 = (.ptr dw eX) ∧ tm 1 = (.int .i64 dE) ∧ tm 5 = (.int .i64 ef) ∧ aU.l13 F ai n dw eX dE ef H = some r := by
 unfold aU.lh13 at h
 split at h
 ·exact ⟨_, _, _, _, rfl, by assumption, by assumption, by assumption, h⟩
 ·cases h
noncomputable def aU.lh213 (F : Nat) (ai : Int → Int → Sl → Int → Int → Hp → OA) (ks : List Nat) (n : Nat) (tm : Tm) (H : Hp) : OA := match ks, tm 0, tm 1, tm 5, tm 6 with
 | [hB], (.ptr jc jd), (.int .i64 hD), (.int .i64 hU), (.int .i64 je) => aU.l213 F ai (aU.l13 F ai hB) n jc jd hD hU je H
 | _, _, _, _, _ => none
theorem aU.lh213_inv {F : Nat} {ai : Int → Int → Sl → Int → Int → Hp → OA} {ks : List Nat} {n : Nat} {tm : Tm} {H : Hp} {r : AV × Hp} (h : aU.lh213 F ai ks n tm H = some r) : ∃ hB : Nat, ∃ jc : Nat, ∃ jd : Nat, ∃ hD : Int, ∃ hU : Int, ∃ je : Int, ks = [hB] ∧ tm 0 = (.ptr jc jd) ∧ tm 1 = (.int .i64 hD) ∧ tm 5 = (.int .i64 hU) ∧ tm 6 = (.int .i64 je) ∧ aU.l213 F ai (aU.l13 F ai hB) n jc jd hD hU je H = some r := by
 unfold aU.lh213 at h
 split at h
 ·exact ⟨_, _, _, _, _, _, rfl, by assumption, by assumption, by assumption, by assumption, h⟩
 ·cases h
noncomputable def aU.lh (F : Nat) (ai : Int → Int → Sl → Int → Int → Hp → OA) (p : Nat) (ks : List Nat) (n : Nat) (tm : Tm) (H : Hp) : OA := bif p.beq 213 then aU.lh213 F ai ks n tm H else (bif p.beq 13 then aU.lh13 F ai ks n tm H else (none))
def aU.pn : Nat → List Nat := fun i => (([(7, [13])] : List (Nat × List Nat)).lookup i).getD []
def aU.tb : Nat → List (List Nat) := fun i => (([(7, [[], [0], [0, 1], [0, 1, 2], [], [], [0, 1, 2, 3, 4, 5], [], [7], [7, 8], [7, 8, 9], [], [], [0, 1, 2, 3, 4, 5, 6, 7, 8, 9, 10, 11, 12], [0, 1, 2, 3, 4, 5, 6, 7, 8, 9, 10, 11, 12, 13], [0, 1, 2, 3, 4, 5, 6, 7, 8, 9, 10, 11, 12, 13, 14]])] : List (Nat × List (List Nat))).lookup i).getD []
noncomputable def aU.mk (g : Nat → Nat → Int → Hp → OA) (args : List AV) (H : Hp) : OA := match args with
 | [(.ptr aa ac), (.int .i64 ae)] => g aa ac ae H
 | _ => none
noncomputable def aU.cs (F : Nat) (ai : Int → Int → Sl → Int → Int → Hp → OA) : List (FuncId × (List AV → Hp → OA)) := [(79, aC.mk ai)]
theorem aU.loops (F : Nat) (ai : Int → Int → Sl → Int → Int → Hp → OA) : LoopsOk tabs (mkOrc (aU.cs F ai)) aU.pn (aU.lh F ai) F [] 1 aU.code (fun tm H => aresults tabs.ty H tm Try.f144.results.toList fun v => some (v, H)) (fun _ _ _ => none) (fun tm H => aresults tabs.ty H tm Try.f144.results.toList fun v => some (v, H)) := by
 refine LoopsOk.seq ?_ ?_
 ·exact loops_none (by kernel_rfl)
 ·refine LoopsOk.seq ?_ ?_
  ·refine LoopsOk.seq ?_ ?_
   ·exact loops_none (by kernel_rfl)
   ·refine LoopsOk.block ?_
    refine LoopsOk.loop (fun tm H => ?_) (fun k13 tm H r h0 => ?_) (fun k13 => ?_)
    ·refine none_of fun r h0 => ?_
     obtain ⟨dw, eX, dE, ef, hks, e0, e1, e5, h⟩ := aU.lh13_inv (show aU.lh13 F ai [] 0 tm H = some r from h0)
     cases h
    ·obtain ⟨dw, eX, dE, ef, hks, e0, e1, e5, h⟩ := aU.lh13_inv (show aU.lh13 F ai [] (k13 + 1) tm H = some r from h0)
     have q0 : (Tm.put tm 0 (.ptr dw eX)) = tm := by exact Tm.put_same e0
     have q1 : (Tm.put (Tm.put tm 0 (.ptr dw eX)) 1 (.int .i64 dE)) = tm := by rw [q0]; exact Tm.put_same e1
     have q2 : (Tm.put (Tm.put (Tm.put tm 0 (.ptr dw eX)) 1 (.int .i64 dE)) 5 (.int .i64 ef)) = tm := by rw [q1]; exact Tm.put_same e5
     rw [← q2]
     exact Eq.trans (by kernel_rfl) h
    ·refine LoopsOk.seq ?_ ?_
     ·exact loops_none (by kernel_rfl)
     ·refine LoopsOk.seq ?_ ?_
      ·refine LoopsOk.block ?_
       refine LoopsOk.seq ?_ ?_
       ·exact loops_none (by kernel_rfl)
       ·refine LoopsOk.block ?_
        refine LoopsOk.loop (fun tm H => ?_) (fun k213 tm H r h0 => ?_) (fun k213 => ?_)
        ·refine none_of fun r h0 => ?_
         obtain ⟨hB, jc, jd, hD, hU, je, hks, e0, e1, e5, e6, h⟩ := aU.lh213_inv (show aU.lh213 F ai [k13] 0 tm H = some r from h0)
         cases h
        ·obtain ⟨hB, jc, jd, hD, hU, je, hks, e0, e1, e5, e6, h⟩ := aU.lh213_inv (show aU.lh213 F ai [k13] (k213 + 1) tm H = some r from h0)
         obtain rfl : hB = k13 := by simpa [eq_comm] using hks
         have q0 : (Tm.put tm 0 (.ptr jc jd)) = tm := by exact Tm.put_same e0
         have q1 : (Tm.put (Tm.put tm 0 (.ptr jc jd)) 1 (.int .i64 hD)) = tm := by rw [q0]; exact Tm.put_same e1
         have q2 : (Tm.put (Tm.put (Tm.put tm 0 (.ptr jc jd)) 1 (.int .i64 hD)) 5 (.int .i64 hU)) = tm := by rw [q1]; exact Tm.put_same e5
         have q3 : (Tm.put (Tm.put (Tm.put (Tm.put tm 0 (.ptr jc jd)) 1 (.int .i64 hD)) 5 (.int .i64 hU)) 6 (.int .i64 je)) = tm := by rw [q2]; exact Tm.put_same e6
         rw [← q3]
         exact Eq.trans (by kernel_rfl) h
        ·exact loops_none (by kernel_rfl)
      ·exact loops_none (by kernel_rfl)
  ·exact loops_none (by kernel_rfl)
theorem aU.eqX (F : Nat) (ai : Int → Int → Sl → Int → Int → Hp → OA) (aa : Nat) (ac : Nat) (ae : Int) (H : Hp) : aCode tabs (mkOrc (aU.cs F ai)) aU.pn (aU.lh F ai) F [] 1 aU.code (argTm [(.ptr aa ac), (.int .i64 ae)]) H (fun tm H => aresults tabs.ty H tm Try.f144.results.toList fun v => some (v, H)) (fun _ _ _ => none) (fun tm H => aresults tabs.ty H tm Try.f144.results.toList fun v => some (v, H)) = aU.twX F ai aa ac ae H := by kernel_rfl
theorem aU.cs_ok (F : Nat) : ∀ p ∈ aU.cs F (aC.tw F), ∀ args H v H', p.2 args H = some (v, H') → Go.AE.T Try.prog p.1 args H v H' := by
 intro p hp
 simp only [aU.cs, List.mem_cons, List.not_mem_nil, or_false] at hp
 subst hp
 exact fun args H v H' h => aC.mk_T h
theorem aU.ok : codeOk aU.pn Try.f144.ntmps aU.tb aU.code = true := by kernel_rfl
theorem aU.T {F : Nat} {aa : Nat} {ac : Nat} {ae : Int} {H : Hp} {v : AV} {H' : Hp} (h : aU.tw F aa ac ae H = some (v, H')) : Go.AE.T Try.prog 144 [(.ptr aa ac), (.int .i64 ae)] H v H' :=
 Go.AE.T.of (Y := tabs) (C := mkOrc (aU.cs F (aC.tw F))) (PN := aU.pn) (LH := aU.lh F (aC.tw F)) (F := F) (TB := aU.tb) (fn := Try.f144) (code := aU.code) mixed tabs_ok (mkOrc_ok (aU.cs_ok F)) Try.func144 (by kernel_rfl) (by kernel_rfl) aU.ok (Nat.le_of_ble_eq_true (by kernel_rfl)) (aU.loops F (aC.tw F)) (Eq.trans (aU.eqX F (aC.tw F) aa ac ae H) h)
theorem aU.mk_T {F : Nat} {args : List AV} {H : Hp} {v : AV} {H' : Hp} (h : aU.mk (aU.tw F) args H = some (v, H')) : Go.AE.T Try.prog 144 args H v H' := by
 unfold aU.mk at h
 split at h
 ·exact aU.T h
 ·cases h
noncomputable def aP.j1 (F : Nat) (fJ : Nat → Nat → Int → Hp → OA) (ai : Int → Int → Sl → Int → Int → Hp → OA) (fF : Int → Int → Hp → OA) (fG : Nat → Nat → Int → Int → Int → Hp → OA) (fK : Nat → Nat → Int → Int → Int → Hp → OA) (fL : Nat → Nat → Int → Hp → OA) (fM : Nat → Nat → Int → Hp → OA) (nY : Nat) (nZ : Nat) (lK : Int) (H73 : Hp) : OA := (Hp.ldB H73 nY (nZ + 15)).bind fun b74 => (bif b74 then (some ((.tup [(.bool false), (.bool false)]), H73)) else ((fL nY nZ lK H73).bind fun r75 => ((r75.1).asB).bind fun b76 => (bif (!b76) then (some ((.tup [(.bool false), (.bool false)]), r75.2)) else ((fM nY nZ lK r75.2).bind fun r77 => ((r77.1).asI .i64).bind fun n78 => (bif (decide (n78 < 0)) then (some ((.tup [(.bool true), (.bool false)]), r77.2)) else ((fG nY nZ lK n78 (-1) r77.2).bind fun r79 => some ((.tup [(.bool false), (.bool false)]), r79.2)))))))
noncomputable def aP.l61 (F : Nat) (fJ : Nat → Nat → Int → Hp → OA) (ai : Int → Int → Sl → Int → Int → Hp → OA) (fF : Int → Int → Hp → OA) (fG : Nat → Nat → Int → Int → Int → Hp → OA) (fK : Nat → Nat → Int → Int → Int → Hp → OA) (fL : Nat → Nat → Int → Hp → OA) (fM : Nat → Nat → Int → Hp → OA)  : Nat → Nat → Nat → Int → Int → Hp → OA
 | 0, _, _, _, _, _ => none
 | qo + 1, iy, iz, gn, iA, H47 => (Hp.ldI H47 .i64 iy (iz + 1)).bind fun n80 => (bif (decide (iA < n80)) then ((Hp.ldB H47 iy (iz + 15)).bind fun b81 => (bif (!b81) then ((Hp.ldI H47 .i64 iy iz).bind fun n82 => (Hp.ldI H47 .i64 iy (iz + 1)).bind fun n83 => (Hp.ldSl H47 iy (iz + 2)).bind fun s84 => (ai n82 n83 s84 gn iA H47).bind fun r85 => ((r85.1).asI .i64).bind fun n86 => (if Cons H47 r85.2 then ((Hp.ldI r85.2 .i64 iy iz).bind fun n87 => (Hp.ldI r85.2 .i64 iy (iz + 1)).bind fun n88 => (Hp.ldSl r85.2 iy (iz + 2)).bind fun s89 => (ai n87 n88 s89 gn gn r85.2).bind fun r90 => ((r90.1).asI .i64).bind fun n91 => (fF n86 n91 r90.2).bind fun r92 => ((r92.1).asI .i64).bind fun n93 => (fK iy iz iA gn n93 r92.2).bind fun r94 => aP.l61 F fJ ai fF fG fK fL fM qo iy iz gn (IntKind.i64.wrap (iA + 1)) r94.2) else none)) else (aP.j1 F fJ ai fF fG fK fL fM iy iz gn H47))) else (aP.j1 F fJ ai fF fG fK fL fM iy iz gn H47))
termination_by structural n => n
noncomputable def aP.j2 (F : Nat) (fJ : Nat → Nat → Int → Hp → OA) (ai : Int → Int → Sl → Int → Int → Hp → OA) (fF : Int → Int → Hp → OA) (fG : Nat → Nat → Int → Int → Int → Hp → OA) (fK : Nat → Nat → Int → Int → Int → Hp → OA) (fL : Nat → Nat → Int → Hp → OA) (fM : Nat → Nat → Int → Hp → OA) (yR : Nat) (yS : Nat) (mJ : Int) (H37 : Hp) : OA := aP.l61 F fJ ai fF fG fK fL fM F yR yS mJ (IntKind.i64.wrap (mJ + 1)) H37
noncomputable def aP.l29 (F : Nat) (fJ : Nat → Nat → Int → Hp → OA) (ai : Int → Int → Sl → Int → Int → Hp → OA) (fF : Int → Int → Hp → OA) (fG : Nat → Nat → Int → Int → Int → Hp → OA) (fK : Nat → Nat → Int → Int → Int → Hp → OA) (fL : Nat → Nat → Int → Hp → OA) (fM : Nat → Nat → Int → Hp → OA)  : Nat → Nat → Nat → Int → Int → Hp → OA
 | 0, _, _, _, _, _ => none
 | eN + 1, fR, iB, gp, iC, H13 => (Hp.ldI H13 .i64 fR iB).bind fun n95 => (bif (decide (iC < n95)) then ((Hp.ldB H13 fR (iB + 15)).bind fun b96 => (bif (!b96) then ((Hp.ldI H13 .i64 fR iB).bind fun n97 => (Hp.ldI H13 .i64 fR (iB + 1)).bind fun n98 => (Hp.ldSl H13 fR (iB + 2)).bind fun s99 => (ai n97 n98 s99 iC gp H13).bind fun r100 => ((r100.1).asI .i64).bind fun n101 => (if Cons H13 r100.2 then ((Hp.ldI r100.2 .i64 fR iB).bind fun n102 => (Hp.ldI r100.2 .i64 fR (iB + 1)).bind fun n103 => (Hp.ldSl r100.2 fR (iB + 2)).bind fun s104 => (ai n102 n103 s104 gp gp r100.2).bind fun r105 => ((r105.1).asI .i64).bind fun n106 => (fF n101 n106 r105.2).bind fun r107 => ((r107.1).asI .i64).bind fun n108 => (fG fR iB iC gp n108 r107.2).bind fun r109 => aP.l29 F fJ ai fF fG fK fL fM eN fR iB gp (IntKind.i64.wrap (iC + 1)) r109.2) else none)) else (aP.j2 F fJ ai fF fG fK fL fM fR iB gp H13))) else (aP.j2 F fJ ai fF fG fK fL fM fR iB gp H13))
termination_by structural n => n
noncomputable def aP.twX (F : Nat) (fJ : Nat → Nat → Int → Hp → OA) (ai : Int → Int → Sl → Int → Int → Hp → OA) (fF : Int → Int → Hp → OA) (fG : Nat → Nat → Int → Int → Int → Hp → OA) (fK : Nat → Nat → Int → Int → Int → Hp → OA) (fL : Nat → Nat → Int → Hp → OA) (fM : Nat → Nat → Int → Hp → OA) (aa : Nat) (ac : Nat) (ae : Int) (H : Hp) : OA := (fJ aa ac ae H).bind fun r4 => ((r4.1).asB).bind fun b5 => (bif (!b5) then (some ((.tup [(.bool true), (.bool true)]), r4.2)) else (aP.l29 F fJ ai fF fG fK fL fM F aa ac ae (IntKind.i64.wrap (ae + 1)) r4.2))
noncomputable def aP.tw (F : Nat) (aa : Nat) (ac : Nat) (ae : Int) (H : Hp) : OA := aP.twX F (ar.tw F) (aC.tw F) (dx.tw F) (dt.tw F) (dy.tw F) (bi.tw F) (aU.tw F) aa ac ae H
noncomputable def aP.code : Go.Code := (Try.f116.body).getD .skip
noncomputable def aP.lh29 (F : Nat) (fJ : Nat → Nat → Int → Hp → OA) (ai : Int → Int → Sl → Int → Int → Hp → OA) (fF : Int → Int → Hp → OA) (fG : Nat → Nat → Int → Int → Int → Hp → OA) (fK : Nat → Nat → Int → Int → Int → Hp → OA) (fL : Nat → Nat → Int → Hp → OA) (fM : Nat → Nat → Int → Hp → OA) (ks : List Nat) (n : Nat) (tm : Tm) (H : Hp) : OA := match ks, tm 0, tm 1, tm 6 with
 | [], (.ptr fR iB), (.int .i64 gp), (.int .i64 iC) => aP.l29 F fJ ai fF fG fK fL fM n fR iB gp iC H
 | _, _, _, _ => none
theorem aP.lh29_inv {F : Nat} {fJ : Nat → Nat → Int → Hp → OA} {ai : Int → Int → Sl → Int → Int → Hp → OA} {fF : Int → Int → Hp → OA} {fG : Nat → Nat → Int → Int → Int → Hp → OA} {fK : Nat → Nat → Int → Int → Int → Hp → OA} {fL : Nat → Nat → Int → Hp → OA} {fM : Nat → Nat → Int → Hp → OA} {ks : List Nat} {n : Nat} {tm : Tm} {H : Hp} {r : AV × Hp} (h : aP.lh29 F fJ ai fF fG fK fL fM ks n tm H = some r) : ∃ fR : Nat, ∃ iB : Nat, ∃ gp : Int, ∃ iC : Int, ks = [] ∧ tm 0 = (.ptr fR iB) ∧ tm 1 = (.int .i64 gp) ∧ tm 6 = (.int .i64 iC) ∧ aP.l29 F fJ ai fF fG fK fL fM n fR iB gp iC H = some r := by
 unfold aP.lh29 at h
 split at h
 ·exact ⟨_, _, _, _, rfl, by assumption, by assumption, by assumption, h⟩
 ·cases h
noncomputable def aP.lh61 (F : Nat) (fJ : Nat → Nat → Int → Hp → OA) (ai : Int → Int → Sl → Int → Int → Hp → OA) (fF : Int → Int → Hp → OA) (fG : Nat → Nat → Int → Int → Int → Hp → OA) (fK : Nat → Nat → Int → Int → Int → Hp → OA) (fL : Nat → Nat → Int → Hp → OA) (fM : Nat → Nat → Int → Hp → OA) (ks : List Nat) (n : Nat) (tm : Tm) (H : Hp) : OA := match ks, tm 0, tm 1, tm 7 with
 | [], (.ptr iy iz), (.int .i64 gn), (.int .i64 iA) => aP.l61 F fJ ai fF fG fK fL fM n iy iz gn iA H
 | _, _, _, _ => none
theorem aP.lh61_inv {F : Nat} {fJ : Nat → Nat → Int → Hp → OA} {ai : Int → Int → Sl → Int → Int → Hp → OA} {fF : Int → Int → Hp → OA} {fG : Nat → Nat → Int → Int → Int → Hp → OA} {fK : Nat → Nat → Int → Int → Int → Hp → OA} {fL : Nat → Nat → Int → Hp → OA} {fM : Nat → Nat → Int → Hp → OA} {ks : List Nat} {n : Nat} {tm : Tm} {H : Hp} {r : AV × Hp} (h : aP.lh61 F fJ ai fF fG fK fL fM ks n tm H = some r) : ∃ iy : Nat, ∃ iz : Nat, ∃ gn : Int, ∃ iA : Int, ks = [] ∧ tm 0 = (.ptr iy iz) ∧ tm 1 = (.int .i64 gn) ∧ tm 7 = (.int .i64 iA) ∧ aP.l61 F fJ ai fF fG fK fL fM n iy iz gn iA H = some r := by
 unfold aP.lh61 at h
 split at h
 ·exact ⟨_, _, _, _, rfl, by assumption, by assumption, by assumption, h⟩
 ·cases h
noncomputable def aP.lh (F : Nat) (fJ : Nat → Nat → Int → Hp → OA) (ai : Int → Int → Sl → Int → Int → Hp → OA) (fF : Int → Int → Hp → OA) (fG : Nat → Nat → Int → Int → Int → Hp → OA) (fK : Nat → Nat → Int → Int → Int → Hp → OA) (fL : Nat → Nat → Int → Hp → OA) (fM : Nat → Nat → Int → Hp → OA) (p : Nat) (ks : List Nat) (n : Nat) (tm : Tm) (H : Hp) : OA := bif p.beq 61 then aP.lh61 F fJ ai fF fG fK fL fM ks n tm H else (bif p.beq 29 then aP.lh29 F fJ ai fF fG fK fL fM ks n tm H else (none))
def aP.pn : Nat → List Nat := fun i => (([(6, [16, 17, 18]), (10, [16, 17, 18])] : List (Nat × List Nat)).lookup i).getD []
def aP.tb : Nat → List (List Nat) := fun i => (([(6, [[], [], [], [], [3], [3, 4], [3, 4, 5], [], [], [3, 4, 5, 6, 7, 8], [], [10], [10, 11], [10, 11, 12], [], [], [3, 4, 5, 6, 7, 8, 9, 10, 11, 12, 13, 14, 15], [3, 4, 5, 6, 7, 8, 9, 10, 11, 12, 13, 14, 15, 16], [0, 1, 2, 3, 4, 5, 6, 7, 8, 9, 10, 11, 12, 13, 14, 15, 16, 17]]), (10, [[], [], [], [], [3], [3, 4], [3, 4, 5], [], [], [3, 4, 5, 6, 7, 8], [], [10], [10, 11], [10, 11, 12], [], [], [3, 4, 5, 6, 7, 8, 9, 10, 11, 12, 13, 14, 15], [3, 4, 5, 6, 7, 8, 9, 10, 11, 12, 13, 14, 15, 16], [0, 1, 2, 3, 4, 5, 6, 7, 8, 9, 10, 11, 12, 13, 14, 15, 16, 17]])] : List (Nat × List (List Nat))).lookup i).getD []
noncomputable def aP.mk (g : Nat → Nat → Int → Hp → OA) (args : List AV) (H : Hp) : OA := match args with
 | [(.ptr aa ac), (.int .i64 ae)] => g aa ac ae H
 | _ => none
noncomputable def aP.cs (F : Nat) (fJ : Nat → Nat → Int → Hp → OA) (ai : Int → Int → Sl → Int → Int → Hp → OA) (fF : Int → Int → Hp → OA) (fG : Nat → Nat → Int → Int → Int → Hp → OA) (fK : Nat → Nat → Int → Int → Int → Hp → OA) (fL : Nat → Nat → Int → Hp → OA) (fM : Nat → Nat → Int → Hp → OA) : List (FuncId × (List AV → Hp → OA)) := [(139, ar.mk fJ), (79, aC.mk ai), (141, dx.mk fF), (140, dt.mk fG), (142, dy.mk fK), (143, bi.mk fL), (144, aU.mk fM)]
theorem aP.loops (F : Nat) (fJ : Nat → Nat → Int → Hp → OA) (ai : Int → Int → Sl → Int → Int → Hp → OA) (fF : Int → Int → Hp → OA) (fG : Nat → Nat → Int → Int → Int → Hp → OA) (fK : Nat → Nat → Int → Int → Int → Hp → OA) (fL : Nat → Nat → Int → Hp → OA) (fM : Nat → Nat → Int → Hp → OA) : LoopsOk tabs (mkOrc (aP.cs F fJ ai fF fG fK fL fM)) aP.pn (aP.lh F fJ ai fF fG fK fL fM) F [] 1 aP.code (fun tm H => aresults tabs.ty H tm Try.f116.results.toList fun v => some (v, H)) (fun _ _ _ => none) (fun tm H => aresults tabs.ty H tm Try.f116.results.toList fun v => some (v, H)) := by
 refine LoopsOk.seq ?_ ?_
 ·exact loops_none (by kernel_rfl)
 ·refine LoopsOk.seq ?_ ?_
  ·exact loops_none (by kernel_rfl)
  ·refine LoopsOk.seq ?_ ?_
   ·refine LoopsOk.seq ?_ ?_
    ·exact loops_none (by kernel_rfl)
    ·refine LoopsOk.block ?_
     refine LoopsOk.loop (fun tm H => ?_) (fun k29 tm H r h0 => ?_) (fun k29 => ?_)
     ·refine none_of fun r h0 => ?_
      obtain ⟨fR, iB, gp, iC, hks, e0, e1, e6, h⟩ := aP.lh29_inv (show aP.lh29 F fJ ai fF fG fK fL fM [] 0 tm H = some r from h0)
      cases h
     ·obtain ⟨fR, iB, gp, iC, hks, e0, e1, e6, h⟩ := aP.lh29_inv (show aP.lh29 F fJ ai fF fG fK fL fM [] (k29 + 1) tm H = some r from h0)
      have q0 : (Tm.put tm 0 (.ptr fR iB)) = tm := by exact Tm.put_same e0
      have q1 : (Tm.put (Tm.put tm 0 (.ptr fR iB)) 1 (.int .i64 gp)) = tm := by rw [q0]; exact Tm.put_same e1
      have q2 : (Tm.put (Tm.put (Tm.put tm 0 (.ptr fR iB)) 1 (.int .i64 gp)) 6 (.int .i64 iC)) = tm := by rw [q1]; exact Tm.put_same e6
      rw [← q2]
      exact Eq.trans (by kernel_rfl) h
     ·exact loops_none (by kernel_rfl)
   ·refine LoopsOk.seq ?_ ?_
    ·refine LoopsOk.seq ?_ ?_
     ·exact loops_none (by kernel_rfl)
     ·refine LoopsOk.block ?_
      refine LoopsOk.loop (fun tm H => ?_) (fun k61 tm H r h0 => ?_) (fun k61 => ?_)
      ·refine none_of fun r h0 => ?_
       obtain ⟨iy, iz, gn, iA, hks, e0, e1, e7, h⟩ := aP.lh61_inv (show aP.lh61 F fJ ai fF fG fK fL fM [] 0 tm H = some r from h0)
       cases h
      ·obtain ⟨iy, iz, gn, iA, hks, e0, e1, e7, h⟩ := aP.lh61_inv (show aP.lh61 F fJ ai fF fG fK fL fM [] (k61 + 1) tm H = some r from h0)
       have q0 : (Tm.put tm 0 (.ptr iy iz)) = tm := by exact Tm.put_same e0
       have q1 : (Tm.put (Tm.put tm 0 (.ptr iy iz)) 1 (.int .i64 gn)) = tm := by rw [q0]; exact Tm.put_same e1
       have q2 : (Tm.put (Tm.put (Tm.put tm 0 (.ptr iy iz)) 1 (.int .i64 gn)) 7 (.int .i64 iA)) = tm := by rw [q1]; exact Tm.put_same e7
       rw [← q2]
       exact Eq.trans (by kernel_rfl) h
      ·exact loops_none (by kernel_rfl)
    ·exact loops_none (by kernel_rfl)
theorem aP.eqX (F : Nat) (fJ : Nat → Nat → Int → Hp → OA) (ai : Int → Int → Sl → Int → Int → Hp → OA) (fF : Int → Int → Hp → OA) (fG : Nat → Nat → Int → Int → Int → Hp → OA) (fK : Nat → Nat → Int → Int → Int → Hp → OA) (fL : Nat → Nat → Int → Hp → OA) (fM : Nat → Nat → Int → Hp → OA) (aa : Nat) (ac : Nat) (ae : Int) (H : Hp) : aCode tabs (mkOrc (aP.cs F fJ ai fF fG fK fL fM)) aP.pn (aP.lh F fJ ai fF fG fK fL fM) F [] 1 aP.code (argTm [(.ptr aa ac), (.int .i64 ae)]) H (fun tm H => aresults tabs.ty H tm Try.f116.results.toList fun v => some (v, H)) (fun _ _ _ => none) (fun tm H => aresults tabs.ty H tm Try.f116.results.toList fun v => some (v, H)) = aP.twX F fJ ai fF fG fK fL fM aa ac ae H := by kernel_rfl
theorem aP.cs_ok (F : Nat) : ∀ p ∈ aP.cs F (ar.tw F) (aC.tw F) (dx.tw F) (dt.tw F) (dy.tw F) (bi.tw F) (aU.tw F), ∀ args H v H', p.2 args H = some (v, H') → Go.AE.T Try.prog p.1 args H v H' := by
 intro p hp
 simp only [aP.cs, List.mem_cons, List.not_mem_nil, or_false] at hp
 rcases hp with rfl | rfl | rfl | rfl | rfl | rfl | rfl
 ·exact fun args H v H' h => ar.mk_T h
 ·exact fun args H v H' h => aC.mk_T h
 ·exact fun args H v H' h => dx.mk_T h
 ·exact fun args H v H' h => dt.mk_T h
 ·exact fun args H v H' h => dy.mk_T h
 ·exact fun args H v H' h => bi.mk_T h
 ·exact fun args H v H' h => aU.mk_T h
theorem aP.ok : codeOk aP.pn Try.f116.ntmps aP.tb aP.code = true := by kernel_rfl
theorem aP.T {F : Nat} {aa : Nat} {ac : Nat} {ae : Int} {H : Hp} {v : AV} {H' : Hp} (h : aP.tw F aa ac ae H = some (v, H')) : Go.AE.T Try.prog 116 [(.ptr aa ac), (.int .i64 ae)] H v H' :=
 Go.AE.T.of (Y := tabs) (C := mkOrc (aP.cs F (ar.tw F) (aC.tw F) (dx.tw F) (dt.tw F) (dy.tw F) (bi.tw F) (aU.tw F))) (PN := aP.pn) (LH := aP.lh F (ar.tw F) (aC.tw F) (dx.tw F) (dt.tw F) (dy.tw F) (bi.tw F) (aU.tw F)) (F := F) (TB := aP.tb) (fn := Try.f116) (code := aP.code) mixed tabs_ok (mkOrc_ok (aP.cs_ok F)) Try.func116 (by kernel_rfl) (by kernel_rfl) aP.ok (Nat.le_of_ble_eq_true (by kernel_rfl)) (aP.loops F (ar.tw F) (aC.tw F) (dx.tw F) (dt.tw F) (dy.tw F) (bi.tw F) (aU.tw F)) (Eq.trans (aP.eqX F (ar.tw F) (aC.tw F) (dx.tw F) (dt.tw F) (dy.tw F) (bi.tw F) (aU.tw F) aa ac ae H) h)
theorem aP.mk_T {F : Nat} {args : List AV} {H : Hp} {v : AV} {H' : Hp} (h : aP.mk (aP.tw F) args H = some (v, H')) : Go.AE.T Try.prog 116 args H v H' := by
 unfold aP.mk at h
 split at h
 ·exact aP.T h
 ·cases h
noncomputable def aQ.j3 (F : Nat) (fg : Int → Hp → OA) (fH : Nat → Nat → Int → Hp → OA) (C29_ : Nat → Nat → Nat → Nat → Int → Hp → OA) (qp : Nat) (yT : Nat) (qq : Nat) (yU : Nat) (n_ : Int) (H161 : Hp) : OA := C29_ qp yT qq yU (IntKind.i64.wrap (n_ + 1)) H161
noncomputable def aQ.j4 (F : Nat) (fg : Int → Hp → OA) (fH : Nat → Nat → Int → Hp → OA) (C29_ : Nat → Nat → Nat → Nat → Int → Hp → OA) (qr : Nat) (yV : Nat) (ng : Nat) (qs : Nat) (mK : Int) (oa : Bool) (H146 : Hp) : OA := (bif oa then (some ((.ptr ng qs), H146)) else ((Hp.ldB H146 ng (qs + 15)).bind fun b147 => (bif b147 then (some ((.ptr ng qs), H146)) else (aQ.j3 F fg fH C29_ qr yV ng qs mK H146))))
noncomputable def aQ.l938 (F : Nat) (fg : Int → Hp → OA) (fH : Nat → Nat → Int → Hp → OA) (C29_ : Nat → Nat → Nat → Nat → Int → Hp → OA) : Nat → Nat → Nat → Nat → Nat → Int → Bool → Bool → Hp → OA
 | 0, _, _, _, _, _, _, _, _ => none
 | yW + 1, iS, kc, iT, kd, hE, jV, jN, H126 => (bif (!jV) then ((Hp.ldB H126 iT (kd + 15)).bind fun b162 => (bif (!b162) then ((fH iT kd hE H126).bind fun r163 => ((r163.1).asTup 2).bind fun l164 => (l164[0]?).bind fun v165 => ((v165).asB).bind fun b166 => (l164[1]?).bind fun v167 => ((v167).asB).bind fun b168 => aQ.l938 F fg fH C29_ yW iS kc iT kd hE b166 b168 r163.2) else (aQ.j4 F fg fH C29_ iS kc iT kd hE jN H126))) else (aQ.j4 F fg fH C29_ iS kc iT kd hE jN H126))
termination_by structural n => n
noncomputable def aQ.l29 (F : Nat) (fg : Int → Hp → OA) (fH : Nat → Nat → Int → Hp → OA)  : Nat → Nat → Nat → Nat → Nat → Int → Hp → OA
 | 0, _, _, _, _, _, _ => none
 | eN + 1, ju, kt, ke, kW, jO, H56 => (Hp.ldI H56 .i64 ju kt).bind fun n113 => (Hp.ldI H56 .i64 ju (kt + 1)).bind fun n114 => (bif (decide (jO < (if n114 < n113 then n114 else n113))) then (aQ.l938 F fg fH (aQ.l29 F fg fH eN) F ju kt ke kW jO false false H56) else (some ((.ptr ke kW), H56)))
termination_by structural n => n
noncomputable def aQ.twX (F : Nat) (fg : Int → Hp → OA) (fH : Nat → Nat → Int → Hp → OA) (aa : Int) (ac : Int) (ak : Sl) (H : Hp) : OA := (Hp.new H [(.int .i64 aa), (.int .i64 ac), (.sl ak)]).bind fun H4 => (Hp.ldI H4 .i64 H.length 0).bind fun n5 => (Hp.ldI H4 .i64 H.length 1).bind fun n6 => (Hp.new H4 []).bind fun H7 => (Hp.ldSl H7 H.length 2).bind fun s8 => (Sl.row H7 s8 1).bind fun xs10 => (Hp.app H7 1 8 (⟨some (H4.length, 0), 0, .ex 0⟩ : Sl) s8.n xs10).bind fun a9 => (if Cons H7 a9.2 then ((Hp.ldI a9.2 .i64 H.length 0).bind fun n11 => (fg n11 a9.2).bind fun r12 => ((r12.1).asAgg 3).bind fun l13 => (l13[0]?).bind fun v14 => ((v14).asI .i64).bind fun n15 => (l13[1]?).bind fun v16 => ((v16).asI .i64).bind fun n17 => (l13[2]?).bind fun v18 => ((v18).asSl).bind fun s19 => (if Cons a9.2 r12.2 then ((Hp.ldI r12.2 .i64 H.length 0).bind fun n20 => (fg n20 r12.2).bind fun r21 => ((r21.1).asAgg 3).bind fun l22 => (l22[0]?).bind fun v23 => ((v23).asI .i64).bind fun n24 => (l22[1]?).bind fun v25 => ((v25).asI .i64).bind fun n26 => (l22[2]?).bind fun v27 => ((v27).asSl).bind fun s28 => (if Cons r12.2 r21.2 then ((Hp.ldI r21.2 .i64 H.length 1).bind fun n29 => (fg n29 r21.2).bind fun r30 => ((r30.1).asAgg 3).bind fun l31 => (l31[0]?).bind fun v32 => ((v32).asI .i64).bind fun n33 => (l31[1]?).bind fun v34 => ((v34).asI .i64).bind fun n35 => (l31[2]?).bind fun v36 => ((v36).asSl).bind fun s37 => (if Cons r21.2 r30.2 then ((Hp.ldI r30.2 .i64 H.length 1).bind fun n38 => (fg n38 r30.2).bind fun r39 => ((r39.1).asAgg 3).bind fun l40 => (l40[0]?).bind fun v41 => ((v41).asI .i64).bind fun n42 => (l40[1]?).bind fun v43 => ((v43).asI .i64).bind fun n44 => (l40[2]?).bind fun v45 => ((v45).asSl).bind fun s46 => (if Cons r30.2 r39.2 then ((Hp.new r39.2 [(.int .i64 n5), (.int .i64 n6), (.sl a9.1), (.int .i64 n15), (.int .i64 n17), (.sl s19), (.int .i64 n24), (.int .i64 n26), (.sl s28), (.int .i64 n33), (.int .i64 n35), (.sl s37), (.int .i64 n42), (.int .i64 n44), (.sl s46), (.bool false)]).bind fun H47 => aQ.l29 F fg fH F H.length 0 r39.2.length 0 0 H47) else none)) else none)) else none)) else none)) else none)
noncomputable def aQ.tw (F : Nat) (aa : Int) (ac : Int) (ak : Sl) (H : Hp) : OA := aQ.twX F (bM.tw F) (aP.tw F) aa ac ak H
noncomputable def aQ.code : Go.Code := (Try.f75.body).getD .skip
noncomputable def aQ.lh29 (F : Nat) (fg : Int → Hp → OA) (fH : Nat → Nat → Int → Hp → OA) (ks : List Nat) (n : Nat) (tm : Tm) (H : Hp) : OA := match ks, tm 1, tm 2, tm 3, tm 4 with
 | [], (.ptr ju kt), .nilp, (.ptr ke kW), (.int .i64 jO) => aQ.l29 F fg fH n ju kt ke kW jO H
 | _, _, _, _, _ => none
theorem aQ.lh29_inv {F : Nat} {fg : Int → Hp → OA} {fH : Nat → Nat → Int → Hp → OA} {ks : List Nat} {n : Nat} {tm : Tm} {H : Hp} {r : AV × Hp} (h : aQ.lh29 F fg fH ks n tm H = some r) : ∃ ju : Nat, ∃ kt : Nat, ∃ ke : Nat, ∃ kW : Nat, ∃ jO : Int, ks = [] ∧ tm 1 = (.ptr ju kt) ∧ tm 2 = .nilp ∧ tm 3 = (.ptr ke kW) ∧ tm 4 = (.int .i64 jO) ∧ aQ.l29 F fg fH n ju kt ke kW jO H = some r := by
 unfold aQ.lh29 at h
 split at h
 ·exact ⟨_, _, _, _, _, rfl, by assumption, by assumption, by assumption, by assumption, h⟩
 ·cases h
noncomputable def aQ.lh938 (F : Nat) (fg : Int → Hp → OA) (fH : Nat → Nat → Int → Hp → OA) (ks : List Nat) (n : Nat) (tm : Tm) (H : Hp) : OA := match ks, tm 1, tm 2, tm 3, tm 4, tm 5, tm 6 with
 | [eN], (.ptr iS kc), .nilp, (.ptr iT kd), (.int .i64 hE), (.bool jV), (.bool jN) => aQ.l938 F fg fH (aQ.l29 F fg fH eN) n iS kc iT kd hE jV jN H
 | _, _, _, _, _, _, _ => none
theorem aQ.lh938_inv {F : Nat} {fg : Int → Hp → OA} {fH : Nat → Nat → Int → Hp → OA} {ks : List Nat} {n : Nat} {tm : Tm} {H : Hp} {r : AV × Hp} (h : aQ.lh938 F fg fH ks n tm H = some r) : ∃ eN : Nat, ∃ iS : Nat, ∃ kc : Nat, ∃ iT : Nat, ∃ kd : Nat, ∃ hE : Int, ∃ jV : Bool, ∃ jN : Bool, ks = [eN] ∧ tm 1 = (.ptr iS kc) ∧ tm 2 = .nilp ∧ tm 3 = (.ptr iT kd) ∧ tm 4 = (.int .i64 hE) ∧ tm 5 = (.bool jV) ∧ tm 6 = (.bool jN) ∧ aQ.l938 F fg fH (aQ.l29 F fg fH eN) n iS kc iT kd hE jV jN H = some r := by
 unfold aQ.lh938 at h
 split at h
 ·exact ⟨_, _, _, _, _, _, _, _, rfl, by assumption, by assumption, by assumption, by assumption, by assumption, by assumption, h⟩
 ·cases h
noncomputable def aQ.lh (F : Nat) (fg : Int → Hp → OA) (fH : Nat → Nat → Int → Hp → OA) (p : Nat) (ks : List Nat) (n : Nat) (tm : Tm) (H : Hp) : OA := bif p.beq 938 then aQ.lh938 F fg fH ks n tm H else (bif p.beq 29 then aQ.lh29 F fg fH ks n tm H else (none))
def aQ.pn : Nat → List Nat := fun i => (([(1, [])] : List (Nat × List Nat)).lookup i).getD []
def aQ.tb : Nat → List (List Nat) := fun i => (([(1, [[], [0], [], [2], [], [], [5], [4, 5, 6], [0, 1, 2, 3, 4, 5, 6, 7], [], [9], [4, 5, 6, 7, 9, 10], [], [12], [4, 5, 6, 7, 9, 10, 11, 12, 13], [], [15], [4, 5, 6, 7, 9, 10, 11, 12, 13, 14, 15, 16], [], [18], [4, 5, 6, 7, 9, 10, 11, 12, 13, 14, 15, 16, 17, 18, 19], [0, 1, 2, 3, 4, 5, 6, 7, 8, 9, 10, 11, 12, 13, 14, 15, 16, 17, 18, 19, 20], [0, 1, 2, 3, 4, 5, 6, 7, 8, 9, 10, 11, 12, 13, 14, 15, 16, 17, 18, 19, 20, 21], [0, 1, 2, 3, 4, 5, 6, 7, 8, 9, 10, 11, 12, 13, 14, 15, 16, 17, 18, 19, 20, 21, 22]])] : List (Nat × List (List Nat))).lookup i).getD []
noncomputable def aQ.mk (g : Int → Int → Sl → Hp → OA) (args : List AV) (H : Hp) : OA := match args with
 | [(.agg [(.int .i64 aa), (.int .i64 ac), (.sl ak)])] => g aa ac ak H
 | _ => none
noncomputable def aQ.cs (F : Nat) (fg : Int → Hp → OA) (fH : Nat → Nat → Int → Hp → OA) : List (FuncId × (List AV → Hp → OA)) := [(115, bM.mk fg), (116, aP.mk fH)]
theorem aQ.loops (F : Nat) (fg : Int → Hp → OA) (fH : Nat → Nat → Int → Hp → OA) : LoopsOk tabs (mkOrc (aQ.cs F fg fH)) aQ.pn (aQ.lh F fg fH) F [] 1 aQ.code (fun tm H => aresults tabs.ty H tm Try.f75.results.toList fun v => some (v, H)) (fun _ _ _ => none) (fun tm H => aresults tabs.ty H tm Try.f75.results.toList fun v => some (v, H)) := by
 refine LoopsOk.seq ?_ ?_
 ·exact loops_none (by kernel_rfl)
 ·refine LoopsOk.seq ?_ ?_
  ·exact loops_none (by kernel_rfl)
  ·refine LoopsOk.seq ?_ ?_
   ·refine LoopsOk.seq ?_ ?_
    ·exact loops_none (by kernel_rfl)
    ·refine LoopsOk.block ?_
     refine LoopsOk.loop (fun tm H => ?_) (fun k29 tm H r h0 => ?_) (fun k29 => ?_)
     ·refine none_of fun r h0 => ?_
      obtain ⟨ju, kt, ke, kW, jO, hks, e1, e2, e3, e4, h⟩ := aQ.lh29_inv (show aQ.lh29 F fg fH [] 0 tm H = some r from h0)
      cases h
     ·obtain ⟨ju, kt, ke, kW, jO, hks, e1, e2, e3, e4, h⟩ := aQ.lh29_inv (show aQ.lh29 F fg fH [] (k29 + 1) tm H = some r from h0)
      have q0 : (Tm.put tm 1 (.ptr ju kt)) = tm := by exact Tm.put_same e1
      have q1 : (Tm.put (Tm.put tm 1 (.ptr ju kt)) 2 .nilp) = tm := by rw [q0]; exact Tm.put_same e2
      have q2 : (Tm.put (Tm.put (Tm.put tm 1 (.ptr ju kt)) 2 .nilp) 3 (.ptr ke kW)) = tm := by rw [q1]; exact Tm.put_same e3
      have q3 : (Tm.put (Tm.put (Tm.put (Tm.put tm 1 (.ptr ju kt)) 2 .nilp) 3 (.ptr ke kW)) 4 (.int .i64 jO)) = tm := by rw [q2]; exact Tm.put_same e4
      rw [← q3]
      exact Eq.trans (by kernel_rfl) h
     ·refine LoopsOk.seq ?_ ?_
      ·exact loops_none (by kernel_rfl)
      ·refine LoopsOk.seq ?_ ?_
       ·refine LoopsOk.block ?_
        refine LoopsOk.seq ?_ ?_
        ·exact loops_none (by kernel_rfl)
        ·refine LoopsOk.seq ?_ ?_
         ·refine LoopsOk.block ?_
          refine LoopsOk.loop (fun tm H => ?_) (fun k938 tm H r h0 => ?_) (fun k938 => ?_)
          ·refine none_of fun r h0 => ?_
           obtain ⟨eN, iS, kc, iT, kd, hE, jV, jN, hks, e1, e2, e3, e4, e5, e6, h⟩ := aQ.lh938_inv (show aQ.lh938 F fg fH [k29] 0 tm H = some r from h0)
           cases h
          ·obtain ⟨eN, iS, kc, iT, kd, hE, jV, jN, hks, e1, e2, e3, e4, e5, e6, h⟩ := aQ.lh938_inv (show aQ.lh938 F fg fH [k29] (k938 + 1) tm H = some r from h0)
           obtain rfl : eN = k29 := by simpa [eq_comm] using hks
           have q0 : (Tm.put tm 1 (.ptr iS kc)) = tm := by exact Tm.put_same e1
           have q1 : (Tm.put (Tm.put tm 1 (.ptr iS kc)) 2 .nilp) = tm := by rw [q0]; exact Tm.put_same e2
           have q2 : (Tm.put (Tm.put (Tm.put tm 1 (.ptr iS kc)) 2 .nilp) 3 (.ptr iT kd)) = tm := by rw [q1]; exact Tm.put_same e3
           have q3 : (Tm.put (Tm.put (Tm.put (Tm.put tm 1 (.ptr iS kc)) 2 .nilp) 3 (.ptr iT kd)) 4 (.int .i64 hE)) = tm := by rw [q2]; exact Tm.put_same e4
           have q4 : (Tm.put (Tm.put (Tm.put (Tm.put (Tm.put tm 1 (.ptr iS kc)) 2 .nilp) 3 (.ptr iT kd)) 4 (.int .i64 hE)) 5 (.bool jV)) = tm := by rw [q3]; exact Tm.put_same e5
           have q5 : (Tm.put (Tm.put (Tm.put (Tm.put (Tm.put (Tm.put tm 1 (.ptr iS kc)) 2 .nilp) 3 (.ptr iT kd)) 4 (.int .i64 hE)) 5 (.bool jV)) 6 (.bool jN)) = tm := by rw [q4]; exact Tm.put_same e6
           rw [← q5]
           exact Eq.trans (by kernel_rfl) h
          ·exact loops_none (by kernel_rfl)
         ·exact loops_none (by kernel_rfl)
       ·exact loops_none (by kernel_rfl)
   ·exact loops_none (by kernel_rfl)
theorem aQ.eqX (F : Nat) (fg : Int → Hp → OA) (fH : Nat → Nat → Int → Hp → OA) (aa : Int) (ac : Int) (ak : Sl) (H : Hp) : aCode tabs (mkOrc (aQ.cs F fg fH)) aQ.pn (aQ.lh F fg fH) F [] 1 aQ.code (argTm [(.agg [(.int .i64 aa), (.int .i64 ac), (.sl ak)])]) H (fun tm H => aresults tabs.ty H tm Try.f75.results.toList fun v => some (v, H)) (fun _ _ _ => none) (fun tm H => aresults tabs.ty H tm Try.f75.results.toList fun v => some (v, H)) = aQ.twX F fg fH aa ac ak H := by kernel_rfl
theorem aQ.cs_ok (F : Nat) : ∀ p ∈ aQ.cs F (bM.tw F) (aP.tw F), ∀ args H v H', p.2 args H = some (v, H') → Go.AE.T Try.prog p.1 args H v H' := by
 intro p hp
 simp only [aQ.cs, List.mem_cons, List.not_mem_nil, or_false] at hp
 rcases hp with rfl | rfl
 ·exact fun args H v H' h => bM.mk_T h
 ·exact fun args H v H' h => aP.mk_T h
theorem aQ.ok : codeOk aQ.pn Try.f75.ntmps aQ.tb aQ.code = true := by kernel_rfl
theorem aQ.T {F : Nat} {aa : Int} {ac : Int} {ak : Sl} {H : Hp} {v : AV} {H' : Hp} (h : aQ.tw F aa ac ak H = some (v, H')) : Go.AE.T Try.prog 75 [(.agg [(.int .i64 aa), (.int .i64 ac), (.sl ak)])] H v H' :=
 Go.AE.T.of (Y := tabs) (C := mkOrc (aQ.cs F (bM.tw F) (aP.tw F))) (PN := aQ.pn) (LH := aQ.lh F (bM.tw F) (aP.tw F)) (F := F) (TB := aQ.tb) (fn := Try.f75) (code := aQ.code) mixed tabs_ok (mkOrc_ok (aQ.cs_ok F)) Try.func75 (by kernel_rfl) (by kernel_rfl) aQ.ok (Nat.le_of_ble_eq_true (by kernel_rfl)) (aQ.loops F (bM.tw F) (aP.tw F)) (Eq.trans (aQ.eqX F (bM.tw F) (aP.tw F) aa ac ak H) h)
theorem aQ.mk_T {F : Nat} {args : List AV} {H : Hp} {v : AV} {H' : Hp} (h : aQ.mk (aQ.tw F) args H = some (v, H')) : Go.AE.T Try.prog 75 args H v H' := by
 unfold aQ.mk at h
 split at h
 ·exact aQ.T h
 ·cases h
noncomputable def bm.j2 (F : Nat) (gq : Int → Int → Sl → Hp → OA) (ai : Int → Int → Sl → Int → Int → Hp → OA) (qt : Nat) (yX : Nat) (yY : Sl) (H61 : Hp) : OA := (Hp.ldB H61 qt (yX + 15)).bind fun b62 => some ((.tup [(.sl yY), (.bool (!b62))]), H61)
noncomputable def bm.j3 (F : Nat) (gq : Int → Int → Sl → Hp → OA) (ai : Int → Int → Sl → Int → Int → Hp → OA) (C61_ : Nat → Nat → Nat → Nat → Sl → Int → Hp → OA) (qu : Nat) (yZ : Nat) (qv : Nat) (y_ : Nat) (mI : Sl) (ob : Int) (H88 : Hp) : OA := C61_ qu yZ qv y_ mI (IntKind.i64.wrap (ob + 1)) H88
noncomputable def bm.l61 (F : Nat) (gq : Int → Int → Sl → Hp → OA) (ai : Int → Int → Sl → Int → Int → Hp → OA)  : Nat → Nat → Nat → Nat → Nat → Sl → Int → Hp → OA
 | 0, _, _, _, _, _, _, _ => none
 | qo + 1, jf, kn, dp, jP, gr, eP, H22 => (Hp.ldI H22 .i64 jf kn).bind fun n63 => (Hp.ldI H22 .i64 jf (kn + 1)).bind fun n64 => (bif (decide (eP < (if n64 < n63 then n64 else n63))) then ((Hp.ldB H22 dp (jP + 15)).bind fun b65 => (bif (!b65) then ((Hp.ldI H22 .i64 dp jP).bind fun n66 => (Hp.ldI H22 .i64 dp (jP + 1)).bind fun n67 => (Hp.ldSl H22 dp (jP + 2)).bind fun s68 => (ai n66 n67 s68 eP eP H22).bind fun r69 => ((r69.1).asI .i64).bind fun n70 => (bif (n70 != 0) then ((Hp.new r69.2 [(.int .i64 n70)]).bind fun H71 => (Sl.row H71 (⟨some (r69.2.length, 0), 1, .ex 1⟩ : Sl) 1).bind fun xs73 => (Hp.app H71 1 8 gr (⟨some (r69.2.length, 0), 1, .ex 1⟩ : Sl).n xs73).bind fun a72 => bm.j3 F gq ai (bm.l61 F gq ai qo) jf kn dp jP a72.1 eP a72.2) else (bm.j3 F gq ai (bm.l61 F gq ai qo) jf kn dp jP gr eP r69.2))) else (bm.j2 F gq ai dp jP gr H22))) else (bm.j2 F gq ai dp jP gr H22))
termination_by structural n => n
noncomputable def bm.twX (F : Nat) (gq : Int → Int → Sl → Hp → OA) (ai : Int → Int → Sl → Int → Int → Hp → OA) (aa : Int) (ac : Int) (ak : Sl) (H : Hp) : OA := (Hp.new H [(.int .i64 aa), (.int .i64 ac), (.sl ak)]).bind fun H4 => (Hp.ldI H4 .i64 H.length 0).bind fun n5 => (Hp.ldI H4 .i64 H.length (0 + 1)).bind fun n6 => (Hp.ldSl H4 H.length (0 + 2)).bind fun s7 => (gq n5 n6 s7 H4).bind fun r8 => ((r8.1).asP).bind fun p9 => (Hp.new r8.2 []).bind fun H10 => bm.l61 F gq ai F H.length 0 p9.1 p9.2 (⟨some (r8.2.length, 0), 0, .ex 0⟩ : Sl) 0 H10
noncomputable def bm.tw (F : Nat) (aa : Int) (ac : Int) (ak : Sl) (H : Hp) : OA := bm.twX F (aQ.tw F) (aC.tw F) aa ac ak H
noncomputable def bm.code : Go.Code := (Try.f74.body).getD .skip
noncomputable def bm.lh61 (F : Nat) (gq : Int → Int → Sl → Hp → OA) (ai : Int → Int → Sl → Int → Int → Hp → OA) (ks : List Nat) (n : Nat) (tm : Tm) (H : Hp) : OA := match ks, tm 1, tm 4, tm 5, tm 6 with
 | [], (.ptr jf kn), (.ptr dp jP), (.sl gr), (.int .i64 eP) => bm.l61 F gq ai n jf kn dp jP gr eP H
 | _, _, _, _, _ => none
theorem bm.lh61_inv {F : Nat} {gq : Int → Int → Sl → Hp → OA} {ai : Int → Int → Sl → Int → Int → Hp → OA} {ks : List Nat} {n : Nat} {tm : Tm} {H : Hp} {r : AV × Hp} (h : bm.lh61 F gq ai ks n tm H = some r) : ∃ jf : Nat, ∃ kn : Nat, ∃ dp : Nat, ∃ jP : Nat, ∃ gr : Sl, ∃ eP : Int, ks = [] ∧ tm 1 = (.ptr jf kn) ∧ tm 4 = (.ptr dp jP) ∧ tm 5 = (.sl gr) ∧ tm 6 = (.int .i64 eP) ∧ bm.l61 F gq ai n jf kn dp jP gr eP H = some r := by
 unfold bm.lh61 at h
 split at h
 ·exact ⟨_, _, _, _, _, _, rfl, by assumption, by assumption, by assumption, by assumption, h⟩
 ·cases h
noncomputable def bm.lh (F : Nat) (gq : Int → Int → Sl → Hp → OA) (ai : Int → Int → Sl → Int → Int → Hp → OA) (p : Nat) (ks : List Nat) (n : Nat) (tm : Tm) (H : Hp) : OA := bif p.beq 61 then bm.lh61 F gq ai ks n tm H else (none)
def bm.pn : Nat → List Nat := fun i => (([(9, [])] : List (Nat × List Nat)).lookup i).getD []
def bm.tb : Nat → List (List Nat) := fun i => (([(9, [[], [], [1], [1, 2], [1, 2, 3], [1, 2, 3, 4], [0], [0, 1, 2, 3, 4, 5, 6]])] : List (Nat × List (List Nat))).lookup i).getD []
noncomputable def bm.mk (g : Int → Int → Sl → Hp → OA) (args : List AV) (H : Hp) : OA := match args with
 | [(.agg [(.int .i64 aa), (.int .i64 ac), (.sl ak)])] => g aa ac ak H
 | _ => none
noncomputable def bm.cs (F : Nat) (gq : Int → Int → Sl → Hp → OA) (ai : Int → Int → Sl → Int → Int → Hp → OA) : List (FuncId × (List AV → Hp → OA)) := [(75, aQ.mk gq), (79, aC.mk ai)]
theorem bm.loops (F : Nat) (gq : Int → Int → Sl → Hp → OA) (ai : Int → Int → Sl → Int → Int → Hp → OA) : LoopsOk tabs (mkOrc (bm.cs F gq ai)) bm.pn (bm.lh F gq ai) F [] 1 bm.code (fun tm H => aresults tabs.ty H tm Try.f74.results.toList fun v => some (v, H)) (fun _ _ _ => none) (fun tm H => aresults tabs.ty H tm Try.f74.results.toList fun v => some (v, H)) := by
 refine LoopsOk.seq ?_ ?_
 ·exact loops_none (by kernel_rfl)
 ·refine LoopsOk.seq ?_ ?_
  ·exact loops_none (by kernel_rfl)
  ·refine LoopsOk.seq ?_ ?_
   ·exact loops_none (by kernel_rfl)
   ·refine LoopsOk.seq ?_ ?_
    ·refine LoopsOk.seq ?_ ?_
     ·exact loops_none (by kernel_rfl)
     ·refine LoopsOk.block ?_
      refine LoopsOk.loop (fun tm H => ?_) (fun k61 tm H r h0 => ?_) (fun k61 => ?_)
      ·refine none_of fun r h0 => ?_
       obtain ⟨jf, kn, dp, jP, gr, eP, hks, e1, e4, e5, e6, h⟩ := bm.lh61_inv (show bm.lh61 F gq ai [] 0 tm H = some r from h0)
       cases h
      ·obtain ⟨jf, kn, dp, jP, gr, eP, hks, e1, e4, e5, e6, h⟩ := bm.lh61_inv (show bm.lh61 F gq ai [] (k61 + 1) tm H = some r from h0)
       have q0 : (Tm.put tm 1 (.ptr jf kn)) = tm := by exact Tm.put_same e1
       have q1 : (Tm.put (Tm.put tm 1 (.ptr jf kn)) 4 (.ptr dp jP)) = tm := by rw [q0]; exact Tm.put_same e4
       have q2 : (Tm.put (Tm.put (Tm.put tm 1 (.ptr jf kn)) 4 (.ptr dp jP)) 5 (.sl gr)) = tm := by rw [q1]; exact Tm.put_same e5
       have q3 : (Tm.put (Tm.put (Tm.put (Tm.put tm 1 (.ptr jf kn)) 4 (.ptr dp jP)) 5 (.sl gr)) 6 (.int .i64 eP)) = tm := by rw [q2]; exact Tm.put_same e6
       rw [← q3]
       exact Eq.trans (by kernel_rfl) h
      ·exact loops_none (by kernel_rfl)
    ·exact loops_none (by kernel_rfl)
theorem bm.eqX (F : Nat) (gq : Int → Int → Sl → Hp → OA) (ai : Int → Int → Sl → Int → Int → Hp → OA) (aa : Int) (ac : Int) (ak : Sl) (H : Hp) : aCode tabs (mkOrc (bm.cs F gq ai)) bm.pn (bm.lh F gq ai) F [] 1 bm.code (argTm [(.agg [(.int .i64 aa), (.int .i64 ac), (.sl ak)])]) H (fun tm H => aresults tabs.ty H tm Try.f74.results.toList fun v => some (v, H)) (fun _ _ _ => none) (fun tm H => aresults tabs.ty H tm Try.f74.results.toList fun v => some (v, H)) = bm.twX F gq ai aa ac ak H := by kernel_rfl
theorem bm.cs_ok (F : Nat) : ∀ p ∈ bm.cs F (aQ.tw F) (aC.tw F), ∀ args H v H', p.2 args H = some (v, H') → Go.AE.T Try.prog p.1 args H v H' := by
 intro p hp
 simp only [bm.cs, List.mem_cons, List.not_mem_nil, or_false] at hp
 rcases hp with rfl | rfl
 ·exact fun args H v H' h => aQ.mk_T h
 ·exact fun args H v H' h => aC.mk_T h
theorem bm.ok : codeOk bm.pn Try.f74.ntmps bm.tb bm.code = true := by kernel_rfl
theorem bm.T {F : Nat} {aa : Int} {ac : Int} {ak : Sl} {H : Hp} {v : AV} {H' : Hp} (h : bm.tw F aa ac ak H = some (v, H')) : Go.AE.T Try.prog 74 [(.agg [(.int .i64 aa), (.int .i64 ac), (.sl ak)])] H v H' :=
 Go.AE.T.of (Y := tabs) (C := mkOrc (bm.cs F (aQ.tw F) (aC.tw F))) (PN := bm.pn) (LH := bm.lh F (aQ.tw F) (aC.tw F)) (F := F) (TB := bm.tb) (fn := Try.f74) (code := bm.code) mixed tabs_ok (mkOrc_ok (bm.cs_ok F)) Try.func74 (by kernel_rfl) (by kernel_rfl) bm.ok (Nat.le_of_ble_eq_true (by kernel_rfl)) (bm.loops F (aQ.tw F) (aC.tw F)) (Eq.trans (bm.eqX F (aQ.tw F) (aC.tw F) aa ac ak H) h)
theorem bm.mk_T {F : Nat} {args : List AV} {H : Hp} {v : AV} {H' : Hp} (h : bm.mk (bm.tw F) args H = some (v, H')) : Go.AE.T Try.prog 74 args H v H' := by
 unfold bm.mk at h
 split at h
 ·exact bm.T h
 ·cases h
noncomputable def dJ.twX (F : Nat) (kX : Int → Int → Sl → Hp → OA) (kY : Int → Int → Sl → Hp → OA) (aa : Int) (ac : Int) (ak : Sl) (H : Hp) : OA := (Hp.new H [(.int .i64 aa), (.int .i64 ac), (.sl ak)]).bind fun H4 => (Hp.ldI H4 .i64 H.length 0).bind fun n5 => (Hp.ldI H4 .i64 H.length (0 + 1)).bind fun n6 => (Hp.ldSl H4 H.length (0 + 2)).bind fun s7 => (kX n5 n6 s7 H4).bind fun r8 => ((r8.1).asB).bind fun b9 => (bif (!b9) then ((Hp.new r8.2 []).bind fun H10 => some ((.tup [(.sl (⟨some (r8.2.length, 0), 0, .ex 0⟩ : Sl)), (.int .i64 1)]), H10)) else ((Hp.ldI r8.2 .i64 H.length 0).bind fun n11 => (Hp.ldI r8.2 .i64 H.length (0 + 1)).bind fun n12 => (Hp.ldSl r8.2 H.length (0 + 2)).bind fun s13 => (kY n11 n12 s13 r8.2).bind fun r14 => ((r14.1).asTup 2).bind fun l15 => (l15[0]?).bind fun v16 => ((v16).asSl).bind fun s17 => (l15[1]?).bind fun v18 => ((v18).asB).bind fun b19 => (bif (!b19) then ((Hp.new r14.2 []).bind fun H20 => some ((.tup [(.sl (⟨some (r14.2.length, 0), 0, .ex 0⟩ : Sl)), (.int .i64 3)]), H20)) else (some ((.tup [(.sl s17), (.int .i64 0)]), r14.2)))))
noncomputable def dJ.tw (F : Nat) (aa : Int) (ac : Int) (ak : Sl) (H : Hp) : OA := dJ.twX F (co.tw F) (bm.tw F) aa ac ak H
noncomputable def dJ.code : Go.Code := (Try.f28.body).getD .skip
noncomputable def dJ.lh (F : Nat) (kX : Int → Int → Sl → Hp → OA) (kY : Int → Int → Sl → Hp → OA) (p : Nat) (ks : List Nat) (n : Nat) (tm : Tm) (H : Hp) : OA := none
def dJ.pn : Nat → List Nat := fun i => (([] : List (Nat × List Nat)).lookup i).getD []
def dJ.tb : Nat → List (List Nat) := fun i => (([] : List (Nat × List (List Nat))).lookup i).getD []
noncomputable def dJ.mk (g : Int → Int → Sl → Hp → OA) (args : List AV) (H : Hp) : OA := match args with
 | [(.agg [(.int .i64 aa), (.int .i64 ac), (.sl ak)])] => g aa ac ak H
 | _ => none
noncomputable def dJ.cs (F : Nat) (kX : Int → Int → Sl → Hp → OA) (kY : Int → Int → Sl → Hp → OA) : List (FuncId × (List AV → Hp → OA)) := [(19, co.mk kX), (74, bm.mk kY)]
theorem dJ.loops (F : Nat) (kX : Int → Int → Sl → Hp → OA) (kY : Int → Int → Sl → Hp → OA) : LoopsOk tabs (mkOrc (dJ.cs F kX kY)) dJ.pn (dJ.lh F kX kY) F [] 1 dJ.code (fun tm H => aresults tabs.ty H tm Try.f28.results.toList fun v => some (v, H)) (fun _ _ _ => none) (fun tm H => aresults tabs.ty H tm Try.f28.results.toList fun v => some (v, H)) := by
 exact loops_none (by kernel_rfl)
theorem dJ.eqX (F : Nat) (kX : Int → Int → Sl → Hp → OA) (kY : Int → Int → Sl → Hp → OA) (aa : Int) (ac : Int) (ak : Sl) (H : Hp) : aCode tabs (mkOrc (dJ.cs F kX kY)) dJ.pn (dJ.lh F kX kY) F [] 1 dJ.code (argTm [(.agg [(.int .i64 aa), (.int .i64 ac), (.sl ak)])]) H (fun tm H => aresults tabs.ty H tm Try.f28.results.toList fun v => some (v, H)) (fun _ _ _ => none) (fun tm H => aresults tabs.ty H tm Try.f28.results.toList fun v => some (v, H)) = dJ.twX F kX kY aa ac ak H := by kernel_rfl
theorem dJ.cs_ok (F : Nat) : ∀ p ∈ dJ.cs F (co.tw F) (bm.tw F), ∀ args H v H', p.2 args H = some (v, H') → Go.AE.T Try.prog p.1 args H v H' := by
 intro p hp
 simp only [dJ.cs, List.mem_cons, List.not_mem_nil, or_false] at hp
 rcases hp with rfl | rfl
 ·exact fun args H v H' h => co.mk_T h
 ·exact fun args H v H' h => bm.mk_T h
theorem dJ.ok : codeOk dJ.pn Try.f28.ntmps dJ.tb dJ.code = true := by kernel_rfl
theorem dJ.T {F : Nat} {aa : Int} {ac : Int} {ak : Sl} {H : Hp} {v : AV} {H' : Hp} (h : dJ.tw F aa ac ak H = some (v, H')) : Go.AE.T Try.prog 28 [(.agg [(.int .i64 aa), (.int .i64 ac), (.sl ak)])] H v H' :=
 Go.AE.T.of (Y := tabs) (C := mkOrc (dJ.cs F (co.tw F) (bm.tw F))) (PN := dJ.pn) (LH := dJ.lh F (co.tw F) (bm.tw F)) (F := F) (TB := dJ.tb) (fn := Try.f28) (code := dJ.code) mixed tabs_ok (mkOrc_ok (dJ.cs_ok F)) Try.func28 (by kernel_rfl) (by kernel_rfl) dJ.ok (Nat.le_of_ble_eq_true (by kernel_rfl)) (dJ.loops F (co.tw F) (bm.tw F)) (Eq.trans (dJ.eqX F (co.tw F) (bm.tw F) aa ac ak H) h)
theorem dJ.mk_T {F : Nat} {args : List AV} {H : Hp} {v : AV} {H' : Hp} (h : dJ.mk (dJ.tw F) args H = some (v, H')) : Go.AE.T Try.prog 28 args H v H' := by
 unfold dJ.mk at h
 split at h
 ·exact dJ.T h
 ·cases h
noncomputable def dj.twX (F : Nat) (aa : Int) (ag : Int) (cJ : Int) (H : Hp) : OA := (bif (decide (ag ≤ aa)) then (some ((.bool (decide (aa ≤ cJ))), H)) else (some ((.bool false), H)))
noncomputable def dj.tw (F : Nat) (aa : Int) (ag : Int) (cJ : Int) (H : Hp) : OA := dj.twX F aa ag cJ H
noncomputable def dj.code : Go.Code := (Try.f106.body).getD .skip
noncomputable def dj.lh (F : Nat) (p : Nat) (ks : List Nat) (n : Nat) (tm : Tm) (H : Hp) : OA := none
def dj.pn : Nat → List Nat := fun i => (([] : List (Nat × List Nat)).lookup i).getD []
def dj.tb : Nat → List (List Nat) := fun i => (([] : List (Nat × List (List Nat))).lookup i).getD []
noncomputable def dj.mk (g : Int → Int → Int → Hp → OA) (args : List AV) (H : Hp) : OA := match args with
 | [(.int .i64 aa), (.int .i64 ag), (.int .i64 cJ)] => g aa ag cJ H
 | _ => none
noncomputable def dj.cs (F : Nat) : List (FuncId × (List AV → Hp → OA)) := []
theorem dj.loops (F : Nat) : LoopsOk tabs (mkOrc (dj.cs F)) dj.pn (dj.lh F) F [] 1 dj.code (fun tm H => aresults tabs.ty H tm Try.f106.results.toList fun v => some (v, H)) (fun _ _ _ => none) (fun tm H => aresults tabs.ty H tm Try.f106.results.toList fun v => some (v, H)) := by
 exact loops_none (by kernel_rfl)
theorem dj.eqX (F : Nat) (aa : Int) (ag : Int) (cJ : Int) (H : Hp) : aCode tabs (mkOrc (dj.cs F)) dj.pn (dj.lh F) F [] 1 dj.code (argTm [(.int .i64 aa), (.int .i64 ag), (.int .i64 cJ)]) H (fun tm H => aresults tabs.ty H tm Try.f106.results.toList fun v => some (v, H)) (fun _ _ _ => none) (fun tm H => aresults tabs.ty H tm Try.f106.results.toList fun v => some (v, H)) = dj.twX F aa ag cJ H := by kernel_rfl
theorem dj.cs_ok (F : Nat) : ∀ p ∈ dj.cs F, ∀ args H v H', p.2 args H = some (v, H') → Go.AE.T Try.prog p.1 args H v H' := by
 intro p hp
 exact absurd (show p ∈ [] from hp) List.not_mem_nil
theorem dj.ok : codeOk dj.pn Try.f106.ntmps dj.tb dj.code = true := by kernel_rfl
theorem dj.T {F : Nat} {aa : Int} {ag : Int} {cJ : Int} {H : Hp} {v : AV} {H' : Hp} (h : dj.tw F aa ag cJ H = some (v, H')) : Go.AE.T Try.prog 106 [(.int .i64 aa), (.int .i64 ag), (.int .i64 cJ)] H v H' :=
 Go.AE.T.of (Y := tabs) (C := mkOrc (dj.cs F)) (PN := dj.pn) (LH := dj.lh F) (F := F) (TB := dj.tb) (fn := Try.f106) (code := dj.code) mixed tabs_ok (mkOrc_ok (dj.cs_ok F)) Try.func106 (by kernel_rfl) (by kernel_rfl) dj.ok (Nat.le_of_ble_eq_true (by kernel_rfl)) (dj.loops F) (Eq.trans (dj.eqX F aa ag cJ H) h)
theorem dj.mk_T {F : Nat} {args : List AV} {H : Hp} {v : AV} {H' : Hp} (h : dj.mk (dj.tw F) args H = some (v, H')) : Go.AE.T Try.prog 106 args H v H' := by
 unfold dj.mk at h
 split at h
 ·exact dj.T h
 ·cases h
noncomputable def ed.twX (F : Nat) (aa : Sl) (H : Hp) : OA := some ((.int .i64 (aa.n : Int)), H)
noncomputable def ed.tw (F : Nat) (aa : Sl) (H : Hp) : OA := ed.twX F aa H
noncomputable def ed.code : Go.Code := (Try.f73.body).getD .skip
noncomputable def ed.lh (F : Nat) (p : Nat) (ks : List Nat) (n : Nat) (tm : Tm) (H : Hp) : OA := none
def ed.pn : Nat → List Nat := fun i => (([] : List (Nat × List Nat)).lookup i).getD []
def ed.tb : Nat → List (List Nat) := fun i => (([] : List (Nat × List (List Nat))).lookup i).getD []
noncomputable def ed.mk (g : Sl → Hp → OA) (args : List AV) (H : Hp) : OA := match args with
 | [(.sl aa)] => g aa H
 | _ => none
noncomputable def ed.cs (F : Nat) : List (FuncId × (List AV → Hp → OA)) := []
theorem ed.loops (F : Nat) : LoopsOk tabs (mkOrc (ed.cs F)) ed.pn (ed.lh F) F [] 1 ed.code (fun tm H => aresults tabs.ty H tm Try.f73.results.toList fun v => some (v, H)) (fun _ _ _ => none) (fun tm H => aresults tabs.ty H tm Try.f73.results.toList fun v => some (v, H)) := by
 exact loops_none (by kernel_rfl)
theorem ed.eqX (F : Nat) (aa : Sl) (H : Hp) : aCode tabs (mkOrc (ed.cs F)) ed.pn (ed.lh F) F [] 1 ed.code (argTm [(.sl aa)]) H (fun tm H => aresults tabs.ty H tm Try.f73.results.toList fun v => some (v, H)) (fun _ _ _ => none) (fun tm H => aresults tabs.ty H tm Try.f73.results.toList fun v => some (v, H)) = ed.twX F aa H := by kernel_rfl
theorem ed.cs_ok (F : Nat) : ∀ p ∈ ed.cs F, ∀ args H v H', p.2 args H = some (v, H') → Go.AE.T Try.prog p.1 args H v H' := by
 intro p hp
 exact absurd (show p ∈ [] from hp) List.not_mem_nil
theorem ed.ok : codeOk ed.pn Try.f73.ntmps ed.tb ed.code = true := by kernel_rfl
theorem ed.T {F : Nat} {aa : Sl} {H : Hp} {v : AV} {H' : Hp} (h : ed.tw F aa H = some (v, H')) : Go.AE.T Try.prog 73 [(.sl aa)] H v H' :=
 Go.AE.T.of (Y := tabs) (C := mkOrc (ed.cs F)) (PN := ed.pn) (LH := ed.lh F) (F := F) (TB := ed.tb) (fn := Try.f73) (code := ed.code) mixed tabs_ok (mkOrc_ok (ed.cs_ok F)) Try.func73 (by kernel_rfl) (by kernel_rfl) ed.ok (Nat.le_of_ble_eq_true (by kernel_rfl)) (ed.loops F) (Eq.trans (ed.eqX F aa H) h)
theorem ed.mk_T {F : Nat} {args : List AV} {H : Hp} {v : AV} {H' : Hp} (h : ed.mk (ed.tw F) args H = some (v, H')) : Go.AE.T Try.prog 73 args H v H' := by
 unfold ed.mk at h
 split at h
 ·exact ed.T h
 ·cases h
noncomputable def dK.twX (F : Nat) (hG : Int → Int → Int → Hp → OA) (aa : Int) (H : Hp) : OA := (hG aa (-1000000000000) 1000000000000 H).bind fun r2 => ((r2.1).asB).bind fun b3 => some ((.bool (!b3)), r2.2)
noncomputable def dK.tw (F : Nat) (aa : Int) (H : Hp) : OA := dK.twX F (dj.tw F) aa H
noncomputable def dK.code : Go.Code := (Try.f107.body).getD .skip
noncomputable def dK.lh (F : Nat) (hG : Int → Int → Int → Hp → OA) (p : Nat) (ks : List Nat) (n : Nat) (tm : Tm) (H : Hp) : OA := none
def dK.pn : Nat → List Nat := fun i => (([] : List (Nat × List Nat)).lookup i).getD []
def dK.tb : Nat → List (List Nat) := fun i => (([] : List (Nat × List (List Nat))).lookup i).getD []
noncomputable def dK.mk (g : Int → Hp → OA) (args : List AV) (H : Hp) : OA := match args with
 | [(.int .i64 aa)] => g aa H
 | _ => none
noncomputable def dK.cs (F : Nat) (hG : Int → Int → Int → Hp → OA) : List (FuncId × (List AV → Hp → OA)) := [(106, dj.mk hG)]
theorem dK.loops (F : Nat) (hG : Int → Int → Int → Hp → OA) : LoopsOk tabs (mkOrc (dK.cs F hG)) dK.pn (dK.lh F hG) F [] 1 dK.code (fun tm H => aresults tabs.ty H tm Try.f107.results.toList fun v => some (v, H)) (fun _ _ _ => none) (fun tm H => aresults tabs.ty H tm Try.f107.results.toList fun v => some (v, H)) := by
 exact loops_none (by kernel_rfl)
theorem dK.eqX (F : Nat) (hG : Int → Int → Int → Hp → OA) (aa : Int) (H : Hp) : aCode tabs (mkOrc (dK.cs F hG)) dK.pn (dK.lh F hG) F [] 1 dK.code (argTm [(.int .i64 aa)]) H (fun tm H => aresults tabs.ty H tm Try.f107.results.toList fun v => some (v, H)) (fun _ _ _ => none) (fun tm H => aresults tabs.ty H tm Try.f107.results.toList fun v => some (v, H)) = dK.twX F hG aa H := by kernel_rfl
theorem dK.cs_ok (F : Nat) : ∀ p ∈ dK.cs F (dj.tw F), ∀ args H v H', p.2 args H = some (v, H') → Go.AE.T Try.prog p.1 args H v H' := by
 intro p hp
 simp only [dK.cs, List.mem_cons, List.not_mem_nil, or_false] at hp
 subst hp
 exact fun args H v H' h => dj.mk_T h
theorem dK.ok : codeOk dK.pn Try.f107.ntmps dK.tb dK.code = true := by kernel_rfl
theorem dK.T {F : Nat} {aa : Int} {H : Hp} {v : AV} {H' : Hp} (h : dK.tw F aa H = some (v, H')) : Go.AE.T Try.prog 107 [(.int .i64 aa)] H v H' :=
 Go.AE.T.of (Y := tabs) (C := mkOrc (dK.cs F (dj.tw F))) (PN := dK.pn) (LH := dK.lh F (dj.tw F)) (F := F) (TB := dK.tb) (fn := Try.f107) (code := dK.code) mixed tabs_ok (mkOrc_ok (dK.cs_ok F)) Try.func107 (by kernel_rfl) (by kernel_rfl) dK.ok (Nat.le_of_ble_eq_true (by kernel_rfl)) (dK.loops F (dj.tw F)) (Eq.trans (dK.eqX F (dj.tw F) aa H) h)
theorem dK.mk_T {F : Nat} {args : List AV} {H : Hp} {v : AV} {H' : Hp} (h : dK.mk (dK.tw F) args H = some (v, H')) : Go.AE.T Try.prog 107 args H v H' := by
 unfold dK.mk at h
 split at h
 ·exact dK.T h
 ·cases h
noncomputable def cw.l13 (F : Nat) (iD : Int → Hp → OA)  : Nat → Sl → Int → Int → Hp → OA
 | 0, _, _, _, _ => none
 | hB + 1, gB, fN, e_, H6 => (bif (decide (e_ < fN)) then ((Sl.idx gB e_ 1).bind fun p11 => (Hp.ldI H6 .i64 p11.1 p11.2).bind fun n12 => (iD n12 H6).bind fun r13 => ((r13.1).asB).bind fun b14 => (bif b14 then (some ((.int .i64 e_), r13.2)) else (cw.l13 F iD hB gB fN (IntKind.i64.wrap (e_ + 1)) r13.2))) else (some ((.int .i64 (-1)), H6)))
termination_by structural n => n
noncomputable def cw.twX (F : Nat) (iD : Int → Hp → OA) (aa : Sl) (H : Hp) : OA := cw.l13 F iD F aa (aa.n : Int) 0 H
noncomputable def cw.tw (F : Nat) (aa : Sl) (H : Hp) : OA := cw.twX F (dK.tw F) aa H
noncomputable def cw.code : Go.Code := (Try.f117.body).getD .skip
noncomputable def cw.lh13 (F : Nat) (iD : Int → Hp → OA) (ks : List Nat) (n : Nat) (tm : Tm) (H : Hp) : OA := match ks, tm 0, tm 1, tm 7, tm 8 with
 | [], (.sl gB), (.fn 107 []), (.int .i64 fN), (.int .i64 e_) => cw.l13 F iD n gB fN e_ H
 | _, _, _, _, _ => none
theorem cw.lh13_inv {F : Nat} {iD : Int → Hp → OA} {ks : List Nat} {n : Nat} {tm : Tm} {H : Hp} {r : AV × Hp} (h : cw.lh13 F iD ks n tm H = some r) : ∃ gB : Sl, ∃ fN : Int, ∃ e_ : Int, ks = [] ∧ tm 0 = (.sl gB) ∧ tm 1 = (.fn 107 []) ∧ tm 7 = (.int .i64 fN) ∧ tm 8 = (.int .i64 e_) ∧ cw.l13 F iD n gB fN e_ H = some r := by
 unfold cw.lh13 at h
 split at h
 ·exact ⟨_, _, _, rfl, by assumption, by assumption, by assumption, by assumption, h⟩
 ·cases h
noncomputable def cw.lh (F : Nat) (iD : Int → Hp → OA) (p : Nat) (ks : List Nat) (n : Nat) (tm : Tm) (H : Hp) : OA := bif p.beq 13 then cw.lh13 F iD ks n tm H else (none)
def cw.pn : Nat → List Nat := fun i => (([] : List (Nat × List Nat)).lookup i).getD []
def cw.tb : Nat → List (List Nat) := fun i => (([] : List (Nat × List (List Nat))).lookup i).getD []
noncomputable def cw.mk (g : Sl → Hp → OA) (args : List AV) (H : Hp) : OA := match args with
 | [(.sl aa), (.fn 107 [])] => g aa H
 | _ => none
noncomputable def cw.cs (F : Nat) (iD : Int → Hp → OA) : List (FuncId × (List AV → Hp → OA)) := [(107, dK.mk iD)]
theorem cw.loops (F : Nat) (iD : Int → Hp → OA) : LoopsOk tabs (mkOrc (cw.cs F iD)) cw.pn (cw.lh F iD) F [] 1 cw.code (fun tm H => aresults tabs.ty H tm Try.f117.results.toList fun v => some (v, H)) (fun _ _ _ => none) (fun tm H => aresults tabs.ty H tm Try.f117.results.toList fun v => some (v, H)) := by
 refine LoopsOk.seq ?_ ?_
 ·exact loops_none (by kernel_rfl)
 ·refine LoopsOk.seq ?_ ?_
  ·refine LoopsOk.seq ?_ ?_
   ·exact loops_none (by kernel_rfl)
   ·refine LoopsOk.block ?_
    refine LoopsOk.loop (fun tm H => ?_) (fun k13 tm H r h0 => ?_) (fun k13 => ?_)
    ·refine none_of fun r h0 => ?_
     obtain ⟨gB, fN, e_, hks, e0, e1, e7, e8, h⟩ := cw.lh13_inv (show cw.lh13 F iD [] 0 tm H = some r from h0)
     cases h
    ·obtain ⟨gB, fN, e_, hks, e0, e1, e7, e8, h⟩ := cw.lh13_inv (show cw.lh13 F iD [] (k13 + 1) tm H = some r from h0)
     have q0 : (Tm.put tm 0 (.sl gB)) = tm := by exact Tm.put_same e0
     have q1 : (Tm.put (Tm.put tm 0 (.sl gB)) 1 (.fn 107 [])) = tm := by rw [q0]; exact Tm.put_same e1
     have q2 : (Tm.put (Tm.put (Tm.put tm 0 (.sl gB)) 1 (.fn 107 [])) 7 (.int .i64 fN)) = tm := by rw [q1]; exact Tm.put_same e7
     have q3 : (Tm.put (Tm.put (Tm.put (Tm.put tm 0 (.sl gB)) 1 (.fn 107 [])) 7 (.int .i64 fN)) 8 (.int .i64 e_)) = tm := by rw [q2]; exact Tm.put_same e8
     rw [← q3]
     exact Eq.trans (by kernel_rfl) h
    ·exact loops_none (by kernel_rfl)
  ·exact loops_none (by kernel_rfl)
theorem cw.eqX (F : Nat) (iD : Int → Hp → OA) (aa : Sl) (H : Hp) : aCode tabs (mkOrc (cw.cs F iD)) cw.pn (cw.lh F iD) F [] 1 cw.code (argTm [(.sl aa), (.fn 107 [])]) H (fun tm H => aresults tabs.ty H tm Try.f117.results.toList fun v => some (v, H)) (fun _ _ _ => none) (fun tm H => aresults tabs.ty H tm Try.f117.results.toList fun v => some (v, H)) = cw.twX F iD aa H := by kernel_rfl
theorem cw.cs_ok (F : Nat) : ∀ p ∈ cw.cs F (dK.tw F), ∀ args H v H', p.2 args H = some (v, H') → Go.AE.T Try.prog p.1 args H v H' := by
 intro p hp
 simp only [cw.cs, List.mem_cons, List.not_mem_nil, or_false] at hp
 subst hp
 exact fun args H v H' h => dK.mk_T h
theorem cw.ok : codeOk cw.pn Try.f117.ntmps cw.tb cw.code = true := by kernel_rfl
theorem cw.T {F : Nat} {aa : Sl} {H : Hp} {v : AV} {H' : Hp} (h : cw.tw F aa H = some (v, H')) : Go.AE.T Try.prog 117 [(.sl aa), (.fn 107 [])] H v H' :=
 Go.AE.T.of (Y := tabs) (C := mkOrc (cw.cs F (dK.tw F))) (PN := cw.pn) (LH := cw.lh F (dK.tw F)) (F := F) (TB := cw.tb) (fn := Try.f117) (code := cw.code) mixed tabs_ok (mkOrc_ok (cw.cs_ok F)) Try.func117 (by kernel_rfl) (by kernel_rfl) cw.ok (Nat.le_of_ble_eq_true (by kernel_rfl)) (cw.loops F (dK.tw F)) (Eq.trans (cw.eqX F (dK.tw F) aa H) h)
theorem cw.mk_T {F : Nat} {args : List AV} {H : Hp} {v : AV} {H' : Hp} (h : cw.mk (cw.tw F) args H = some (v, H')) : Go.AE.T Try.prog 117 args H v H' := by
 unfold cw.mk at h
 split at h
 ·exact cw.T h
 ·cases h
noncomputable def dU.twX (F : Nat) (kZ : Sl → Hp → OA) (aa : Sl) (H : Hp) : OA := (kZ aa H).bind fun r2 => ((r2.1).asI .i64).bind fun n3 => some ((.bool (decide (n3 ≥ 0))), r2.2)
noncomputable def dU.tw (F : Nat) (aa : Sl) (H : Hp) : OA := dU.twX F (cw.tw F) aa H
noncomputable def dU.code : Go.Code := (Try.f81.body).getD .skip
noncomputable def dU.lh (F : Nat) (kZ : Sl → Hp → OA) (p : Nat) (ks : List Nat) (n : Nat) (tm : Tm) (H : Hp) : OA := none
def dU.pn : Nat → List Nat := fun i => (([] : List (Nat × List Nat)).lookup i).getD []
def dU.tb : Nat → List (List Nat) := fun i => (([] : List (Nat × List (List Nat))).lookup i).getD []
noncomputable def dU.mk (g : Sl → Hp → OA) (args : List AV) (H : Hp) : OA := match args with
 | [(.sl aa), (.fn 107 [])] => g aa H
 | _ => none
noncomputable def dU.cs (F : Nat) (kZ : Sl → Hp → OA) : List (FuncId × (List AV → Hp → OA)) := [(117, cw.mk kZ)]
theorem dU.loops (F : Nat) (kZ : Sl → Hp → OA) : LoopsOk tabs (mkOrc (dU.cs F kZ)) dU.pn (dU.lh F kZ) F [] 1 dU.code (fun tm H => aresults tabs.ty H tm Try.f81.results.toList fun v => some (v, H)) (fun _ _ _ => none) (fun tm H => aresults tabs.ty H tm Try.f81.results.toList fun v => some (v, H)) := by
 exact loops_none (by kernel_rfl)
theorem dU.eqX (F : Nat) (kZ : Sl → Hp → OA) (aa : Sl) (H : Hp) : aCode tabs (mkOrc (dU.cs F kZ)) dU.pn (dU.lh F kZ) F [] 1 dU.code (argTm [(.sl aa), (.fn 107 [])]) H (fun tm H => aresults tabs.ty H tm Try.f81.results.toList fun v => some (v, H)) (fun _ _ _ => none) (fun tm H => aresults tabs.ty H tm Try.f81.results.toList fun v => some (v, H)) = dU.twX F kZ aa H := by kernel_rfl
theorem dU.cs_ok (F : Nat) : ∀ p ∈ dU.cs F (cw.tw F), ∀ args H v H', p.2 args H = some (v, H') → Go.AE.T Try.prog p.1 args H v H' := by
 intro p hp
 simp only [dU.cs, List.mem_cons, List.not_mem_nil, or_false] at hp
 subst hp
 exact fun args H v H' h => cw.mk_T h
theorem dU.ok : codeOk dU.pn Try.f81.ntmps dU.tb dU.code = true := by kernel_rfl
theorem dU.T {F : Nat} {aa : Sl} {H : Hp} {v : AV} {H' : Hp} (h : dU.tw F aa H = some (v, H')) : Go.AE.T Try.prog 81 [(.sl aa), (.fn 107 [])] H v H' :=
 Go.AE.T.of (Y := tabs) (C := mkOrc (dU.cs F (cw.tw F))) (PN := dU.pn) (LH := dU.lh F (cw.tw F)) (F := F) (TB := dU.tb) (fn := Try.f81) (code := dU.code) mixed tabs_ok (mkOrc_ok (dU.cs_ok F)) Try.func81 (by kernel_rfl) (by kernel_rfl) dU.ok (Nat.le_of_ble_eq_true (by kernel_rfl)) (dU.loops F (cw.tw F)) (Eq.trans (dU.eqX F (cw.tw F) aa H) h)
theorem dU.mk_T {F : Nat} {args : List AV} {H : Hp} {v : AV} {H' : Hp} (h : dU.mk (dU.tw F) args H = some (v, H')) : Go.AE.T Try.prog 81 args H v H' := by
 unfold dU.mk at h
 split at h
 ·exact dU.T h
 ·cases h
noncomputable def dL.twX (F : Nat) (hG : Int → Int → Int → Hp → OA) (k_ : Sl → Hp → OA) (la : Sl → Hp → OA) (aa : Int) (ac : Int) (ak : Sl) (H : Hp) : OA := (Hp.new H [(.int .i64 aa), (.int .i64 ac), (.sl ak)]).bind fun H4 => (Hp.ldI H4 .i64 H.length 0).bind fun n5 => (hG n5 0 48 H4).bind fun r6 => ((r6.1).asB).bind fun b7 => (bif b7 then ((Hp.ldI r6.2 .i64 H.length 1).bind fun n8 => (hG n8 0 48 r6.2).bind fun r9 => ((r9.1).asB).bind fun b10 => (bif b10 then ((Hp.ldSl r9.2 H.length 2).bind fun s11 => (k_ s11 r9.2).bind fun r12 => ((r12.1).asI .i64).bind fun n13 => (if Cons r9.2 r12.2 then ((Hp.ldI r12.2 .i64 H.length 0).bind fun n14 => (Hp.ldI r12.2 .i64 H.length 1).bind fun n15 => (bif (n13 == (IntKind.i64.wrap (n14 * n15))) then ((Hp.ldSl r12.2 H.length 2).bind fun s16 => (la s16 r12.2).bind fun r17 => ((r17.1).asB).bind fun b18 => some ((.bool (!b18)), r17.2)) else (some ((.bool false), r12.2)))) else none)) else (some ((.bool false), r9.2)))) else (some ((.bool false), r6.2)))
noncomputable def dL.tw (F : Nat) (aa : Int) (ac : Int) (ak : Sl) (H : Hp) : OA := dL.twX F (dj.tw F) (ed.tw F) (dU.tw F) aa ac ak H
noncomputable def dL.code : Go.Code := (Try.f61.body).getD .skip
noncomputable def dL.lh (F : Nat) (hG : Int → Int → Int → Hp → OA) (k_ : Sl → Hp → OA) (la : Sl → Hp → OA) (p : Nat) (ks : List Nat) (n : Nat) (tm : Tm) (H : Hp) : OA := none
def dL.pn : Nat → List Nat := fun i => (([(1, [2, 6, 22])] : List (Nat × List Nat)).lookup i).getD []
def dL.tb : Nat → List (List Nat) := fun i => (([(1, [[], [0], [0, 1], [0, 1, 2], [0, 1, 2, 3], [0, 1, 2, 3, 4], [0, 1, 2, 3, 4, 5], [0, 1, 2, 3, 4, 5, 6], [0, 1, 2, 3, 4, 5, 6, 7], [0, 1, 2, 3, 4, 5, 6, 7, 8], [0, 1, 2, 3, 4, 5, 6, 7, 8, 9], [0, 1, 2, 3, 4, 5, 6, 7, 8, 9, 10], [0, 1, 2, 3, 4, 5, 6, 7, 8], [0, 1, 2, 3, 4, 5, 6, 7, 8, 12], [0, 1, 2, 3, 4, 5, 6, 7, 8], [0, 1, 2, 3, 4, 5, 6, 7, 8, 14], [0, 1, 2, 3, 4, 5, 6, 7, 8, 12, 13, 14, 15], [0, 1, 2, 3, 4, 5, 6, 7, 8, 9, 10, 11, 12, 13, 14, 15, 16], [0, 1, 2, 3, 4, 5, 6, 7, 8, 9, 10, 11, 12, 13, 14, 15, 16, 17], [0, 1, 2, 3, 4, 5, 6, 7, 8, 9, 10, 11, 12, 13, 14, 15, 16, 17, 18], [0, 1, 2, 3, 4, 5, 6, 7, 8, 9, 10, 11, 12, 13, 14, 15, 16, 17, 18, 19], [0, 1, 2, 3, 4, 5, 6, 7, 8, 9, 10, 11, 12, 13, 14, 15, 16, 17, 18, 19, 20], [0, 1, 2, 3, 4, 5, 6, 7, 8, 9, 10, 11, 12, 13, 14, 15, 16, 17, 18, 19, 20, 21], [0, 1, 2, 3, 4, 5, 6, 7, 8, 9, 10, 11, 12, 13, 14, 15, 16, 17, 18, 19, 20, 21, 22], [0, 1, 2, 3, 4, 5, 6, 7, 8, 9, 10, 11, 12, 13, 14, 15, 16, 17, 18, 19, 20, 21, 22, 23], [0, 1, 2, 3, 4, 5, 6, 7, 8, 9, 10, 11, 12, 13, 14, 15, 16, 17, 18, 19, 20, 21, 22, 23, 24]])] : List (Nat × List (List Nat))).lookup i).getD []
noncomputable def dL.mk (g : Int → Int → Sl → Hp → OA) (args : List AV) (H : Hp) : OA := match args with
 | [(.agg [(.int .i64 aa), (.int .i64 ac), (.sl ak)])] => g aa ac ak H
 | _ => none
noncomputable def dL.cs (F : Nat) (hG : Int → Int → Int → Hp → OA) (k_ : Sl → Hp → OA) (la : Sl → Hp → OA) : List (FuncId × (List AV → Hp → OA)) := [(106, dj.mk hG), (73, ed.mk k_), (81, dU.mk la)]
theorem dL.loops (F : Nat) (hG : Int → Int → Int → Hp → OA) (k_ : Sl → Hp → OA) (la : Sl → Hp → OA) : LoopsOk tabs (mkOrc (dL.cs F hG k_ la)) dL.pn (dL.lh F hG k_ la) F [] 1 dL.code (fun tm H => aresults tabs.ty H tm Try.f61.results.toList fun v => some (v, H)) (fun _ _ _ => none) (fun tm H => aresults tabs.ty H tm Try.f61.results.toList fun v => some (v, H)) := by
 exact loops_none (by kernel_rfl)
theorem dL.eqX (F : Nat) (hG : Int → Int → Int → Hp → OA) (k_ : Sl → Hp → OA) (la : Sl → Hp → OA) (aa : Int) (ac : Int) (ak : Sl) (H : Hp) : aCode tabs (mkOrc (dL.cs F hG k_ la)) dL.pn (dL.lh F hG k_ la) F [] 1 dL.code (argTm [(.agg [(.int .i64 aa), (.int .i64 ac), (.sl ak)])]) H (fun tm H => aresults tabs.ty H tm Try.f61.results.toList fun v => some (v, H)) (fun _ _ _ => none) (fun tm H => aresults tabs.ty H tm Try.f61.results.toList fun v => some (v, H)) = dL.twX F hG k_ la aa ac ak H := by kernel_rfl
theorem dL.cs_ok (F : Nat) : ∀ p ∈ dL.cs F (dj.tw F) (ed.tw F) (dU.tw F), ∀ args H v H', p.2 args H = some (v, H') → Go.AE.T Try.prog p.1 args H v H' := by
 intro p hp
 simp only [dL.cs, List.mem_cons, List.not_mem_nil, or_false] at hp
 rcases hp with rfl | rfl | rfl
 ·exact fun args H v H' h => dj.mk_T h
 ·exact fun args H v H' h => ed.mk_T h
 ·exact fun args H v H' h => dU.mk_T h
theorem dL.ok : codeOk dL.pn Try.f61.ntmps dL.tb dL.code = true := by kernel_rfl
theorem dL.T {F : Nat} {aa : Int} {ac : Int} {ak : Sl} {H : Hp} {v : AV} {H' : Hp} (h : dL.tw F aa ac ak H = some (v, H')) : Go.AE.T Try.prog 61 [(.agg [(.int .i64 aa), (.int .i64 ac), (.sl ak)])] H v H' :=
 Go.AE.T.of (Y := tabs) (C := mkOrc (dL.cs F (dj.tw F) (ed.tw F) (dU.tw F))) (PN := dL.pn) (LH := dL.lh F (dj.tw F) (ed.tw F) (dU.tw F)) (F := F) (TB := dL.tb) (fn := Try.f61) (code := dL.code) mixed tabs_ok (mkOrc_ok (dL.cs_ok F)) Try.func61 (by kernel_rfl) (by kernel_rfl) dL.ok (Nat.le_of_ble_eq_true (by kernel_rfl)) (dL.loops F (dj.tw F) (ed.tw F) (dU.tw F)) (Eq.trans (dL.eqX F (dj.tw F) (ed.tw F) (dU.tw F) aa ac ak H) h)
theorem dL.mk_T {F : Nat} {args : List AV} {H : Hp} {v : AV} {H' : Hp} (h : dL.mk (dL.tw F) args H = some (v, H')) : Go.AE.T Try.prog 61 args H v H' := by
 unfold dL.mk at h
 split at h
 ·exact dL.T h
 ·cases h
noncomputable def dV.twX (F : Nat) (aa : Int) (ag : Int) (H : Hp) : OA := (Hp.new H [.int .i64 0, .int .i64 0, .sl ⟨none, 0, .ex 0⟩]).bind fun H3 => (Hp.mk H3 [.int .i64 0] 8 (IntKind.i64.wrap (aa * ag)) (IntKind.i64.wrap (aa * ag))).bind fun m4 => (Hp.st m4.2 H.length 0 (.int .i64 aa)).bind fun H5 => (Hp.st H5 H.length (0 + 1) (.int .i64 ag)).bind fun H6 => (Hp.st H6 H.length (0 + 1 + 1) (.sl m4.1)).bind fun H7 => (Hp.ldI H7 .i64 H.length 0).bind fun n8 => (Hp.ldI H7 .i64 H.length (0 + 1)).bind fun n9 => (Hp.ldSl H7 H.length (0 + 2)).bind fun s10 => some ((.agg [(.int .i64 n8), (.int .i64 n9), (.sl s10)]), H7)
noncomputable def dV.tw (F : Nat) (aa : Int) (ag : Int) (H : Hp) : OA := dV.twX F aa ag H
noncomputable def dV.code : Go.Code := (Try.f94.body).getD .skip
noncomputable def dV.lh (F : Nat) (p : Nat) (ks : List Nat) (n : Nat) (tm : Tm) (H : Hp) : OA := none
def dV.pn : Nat → List Nat := fun i => (([] : List (Nat × List Nat)).lookup i).getD []
def dV.tb : Nat → List (List Nat) := fun i => (([] : List (Nat × List (List Nat))).lookup i).getD []
noncomputable def dV.mk (g : Int → Int → Hp → OA) (args : List AV) (H : Hp) : OA := match args with
 | [(.int .i64 aa), (.int .i64 ag)] => g aa ag H
 | _ => none
noncomputable def dV.cs (F : Nat) : List (FuncId × (List AV → Hp → OA)) := []
theorem dV.loops (F : Nat) : LoopsOk tabs (mkOrc (dV.cs F)) dV.pn (dV.lh F) F [] 1 dV.code (fun tm H => aresults tabs.ty H tm Try.f94.results.toList fun v => some (v, H)) (fun _ _ _ => none) (fun tm H => aresults tabs.ty H tm Try.f94.results.toList fun v => some (v, H)) := by
 exact loops_none (by kernel_rfl)
theorem dV.eqX (F : Nat) (aa : Int) (ag : Int) (H : Hp) : aCode tabs (mkOrc (dV.cs F)) dV.pn (dV.lh F) F [] 1 dV.code (argTm [(.int .i64 aa), (.int .i64 ag)]) H (fun tm H => aresults tabs.ty H tm Try.f94.results.toList fun v => some (v, H)) (fun _ _ _ => none) (fun tm H => aresults tabs.ty H tm Try.f94.results.toList fun v => some (v, H)) = dV.twX F aa ag H := by kernel_rfl
theorem dV.cs_ok (F : Nat) : ∀ p ∈ dV.cs F, ∀ args H v H', p.2 args H = some (v, H') → Go.AE.T Try.prog p.1 args H v H' := by
 intro p hp
 exact absurd (show p ∈ [] from hp) List.not_mem_nil
theorem dV.ok : codeOk dV.pn Try.f94.ntmps dV.tb dV.code = true := by kernel_rfl
theorem dV.T {F : Nat} {aa : Int} {ag : Int} {H : Hp} {v : AV} {H' : Hp} (h : dV.tw F aa ag H = some (v, H')) : Go.AE.T Try.prog 94 [(.int .i64 aa), (.int .i64 ag)] H v H' :=
 Go.AE.T.of (Y := tabs) (C := mkOrc (dV.cs F)) (PN := dV.pn) (LH := dV.lh F) (F := F) (TB := dV.tb) (fn := Try.f94) (code := dV.code) mixed tabs_ok (mkOrc_ok (dV.cs_ok F)) Try.func94 (by kernel_rfl) (by kernel_rfl) dV.ok (Nat.le_of_ble_eq_true (by kernel_rfl)) (dV.loops F) (Eq.trans (dV.eqX F aa ag H) h)
theorem dV.mk_T {F : Nat} {args : List AV} {H : Hp} {v : AV} {H' : Hp} (h : dV.mk (dV.tw F) args H = some (v, H')) : Go.AE.T Try.prog 94 args H v H' := by
 unfold dV.mk at h
 split at h
 ·exact dV.T h
 ·cases h
noncomputable def aO.twX (F : Nat) (aa : Int) (ac : Int) (ak : Sl) (af : Int) (bh : Int) (H : Hp) : OA := (Hp.new H [(.int .i64 aa), (.int .i64 ac), (.sl ak)]).bind fun H6 => (Hp.ldSl H6 H.length 2).bind fun s7 => (Hp.ldI H6 .i64 H.length 1).bind fun n8 => (Sl.idx s7 (IntKind.i64.wrap ((IntKind.i64.wrap (af * n8)) + bh)) 1).bind fun p9 => some ((.ptr p9.1 p9.2), H6)
noncomputable def aO.tw (F : Nat) (aa : Int) (ac : Int) (ak : Sl) (af : Int) (bh : Int) (H : Hp) : OA := aO.twX F aa ac ak af bh H
noncomputable def aO.code : Go.Code := (Try.f95.body).getD .skip
noncomputable def aO.lh (F : Nat) (p : Nat) (ks : List Nat) (n : Nat) (tm : Tm) (H : Hp) : OA := none
def aO.pn : Nat → List Nat := fun i => (([] : List (Nat × List Nat)).lookup i).getD []
def aO.tb : Nat → List (List Nat) := fun i => (([] : List (Nat × List (List Nat))).lookup i).getD []
noncomputable def aO.mk (g : Int → Int → Sl → Int → Int → Hp → OA) (args : List AV) (H : Hp) : OA := match args with
 | [(.agg [(.int .i64 aa), (.int .i64 ac), (.sl ak)]), (.int .i64 af), (.int .i64 bh)] => g aa ac ak af bh H
 | _ => none
noncomputable def aO.cs (F : Nat) : List (FuncId × (List AV → Hp → OA)) := []
theorem aO.loops (F : Nat) : LoopsOk tabs (mkOrc (aO.cs F)) aO.pn (aO.lh F) F [] 1 aO.code (fun tm H => aresults tabs.ty H tm Try.f95.results.toList fun v => some (v, H)) (fun _ _ _ => none) (fun tm H => aresults tabs.ty H tm Try.f95.results.toList fun v => some (v, H)) := by
 exact loops_none (by kernel_rfl)
theorem aO.eqX (F : Nat) (aa : Int) (ac : Int) (ak : Sl) (af : Int) (bh : Int) (H : Hp) : aCode tabs (mkOrc (aO.cs F)) aO.pn (aO.lh F) F [] 1 aO.code (argTm [(.agg [(.int .i64 aa), (.int .i64 ac), (.sl ak)]), (.int .i64 af), (.int .i64 bh)]) H (fun tm H => aresults tabs.ty H tm Try.f95.results.toList fun v => some (v, H)) (fun _ _ _ => none) (fun tm H => aresults tabs.ty H tm Try.f95.results.toList fun v => some (v, H)) = aO.twX F aa ac ak af bh H := by kernel_rfl
theorem aO.cs_ok (F : Nat) : ∀ p ∈ aO.cs F, ∀ args H v H', p.2 args H = some (v, H') → Go.AE.T Try.prog p.1 args H v H' := by
 intro p hp
 exact absurd (show p ∈ [] from hp) List.not_mem_nil
theorem aO.ok : codeOk aO.pn Try.f95.ntmps aO.tb aO.code = true := by kernel_rfl
theorem aO.T {F : Nat} {aa : Int} {ac : Int} {ak : Sl} {af : Int} {bh : Int} {H : Hp} {v : AV} {H' : Hp} (h : aO.tw F aa ac ak af bh H = some (v, H')) : Go.AE.T Try.prog 95 [(.agg [(.int .i64 aa), (.int .i64 ac), (.sl ak)]), (.int .i64 af), (.int .i64 bh)] H v H' :=
 Go.AE.T.of (Y := tabs) (C := mkOrc (aO.cs F)) (PN := aO.pn) (LH := aO.lh F) (F := F) (TB := aO.tb) (fn := Try.f95) (code := aO.code) mixed tabs_ok (mkOrc_ok (aO.cs_ok F)) Try.func95 (by kernel_rfl) (by kernel_rfl) aO.ok (Nat.le_of_ble_eq_true (by kernel_rfl)) (aO.loops F) (Eq.trans (aO.eqX F aa ac ak af bh H) h)
theorem aO.mk_T {F : Nat} {args : List AV} {H : Hp} {v : AV} {H' : Hp} (h : aO.mk (aO.tw F) args H = some (v, H')) : Go.AE.T Try.prog 95 args H v H' := by
 unfold aO.mk at h
 split at h
 ·exact aO.T h
 ·cases h
noncomputable def bN.l29 (F : Nat) (iE : Int → Int → Hp → OA) (ah : Int → Int → Sl → Int → Int → Hp → OA)  : Nat → Nat → Nat → Nat → Nat → Int → Int → Hp → OA
 | 0, _, _, _, _, _, _, _ => none
 | eN + 1, ch, fQ, fo, gb, jv, iF, H22 => (bif (decide (iF < jv)) then ((Hp.ldI H22 .i64 fo gb).bind fun n38 => (Hp.ldI H22 .i64 fo (gb + 1)).bind fun n39 => (Hp.ldSl H22 fo (gb + 2)).bind fun s40 => (ah n38 n39 s40 iF iF H22).bind fun r41 => ((r41.1).asP).bind fun p42 => (Hp.st r41.2 p42.1 p42.2 (.int .i64 1)).bind fun H43 => bN.l29 F iE ah eN ch fQ fo gb jv (IntKind.i64.wrap (iF + 1)) H43) else ((Hp.ldI H22 .i64 fo gb).bind fun n44 => (Hp.ldI H22 .i64 fo (gb + 1)).bind fun n45 => (Hp.ldSl H22 fo (gb + 2)).bind fun s46 => (Hp.st H22 ch fQ (.int .i64 n44)).bind fun H47 => (Hp.st H47 ch (fQ + 1) (.int .i64 n45)).bind fun H48 => (Hp.st H48 ch (fQ + 1 + 1) (.sl s46)).bind fun H49 => (Hp.ldI H49 .i64 ch fQ).bind fun n50 => (Hp.ldI H49 .i64 ch (fQ + 1)).bind fun n51 => (Hp.ldSl H49 ch (fQ + 2)).bind fun s52 => some ((.agg [(.int .i64 n50), (.int .i64 n51), (.sl s52)]), H49)))
termination_by structural n => n
noncomputable def bN.twX (F : Nat) (iE : Int → Int → Hp → OA) (ah : Int → Int → Sl → Int → Int → Hp → OA) (aa : Int) (H : Hp) : OA := (Hp.new H [.int .i64 0, .int .i64 0, .sl ⟨none, 0, .ex 0⟩]).bind fun H2 => (iE aa aa H2).bind fun r3 => ((r3.1).asAgg 3).bind fun l4 => (l4[0]?).bind fun v5 => ((v5).asI .i64).bind fun n6 => (l4[1]?).bind fun v7 => ((v7).asI .i64).bind fun n8 => (l4[2]?).bind fun v9 => ((v9).asSl).bind fun s10 => (Hp.new r3.2 [.int .i64 0, .int .i64 0, .sl ⟨none, 0, .ex 0⟩]).bind fun H11 => (Hp.st H11 r3.2.length 0 (.int .i64 n6)).bind fun H12 => (Hp.st H12 r3.2.length (0 + 1) (.int .i64 n8)).bind fun H13 => (Hp.st H13 r3.2.length (0 + 1 + 1) (.sl s10)).bind fun H14 => bN.l29 F iE ah F H.length 0 r3.2.length 0 aa 0 H14
noncomputable def bN.tw (F : Nat) (aa : Int) (H : Hp) : OA := bN.twX F (dV.tw F) (aO.tw F) aa H
noncomputable def bN.code : Go.Code := (Try.f110.body).getD .skip
noncomputable def bN.lh29 (F : Nat) (iE : Int → Int → Hp → OA) (ah : Int → Int → Sl → Int → Int → Hp → OA) (ks : List Nat) (n : Nat) (tm : Tm) (H : Hp) : OA := match ks, tm 2, tm 3, tm 8, tm 9 with
 | [], (.ptr ch fQ), (.ptr fo gb), (.int .i64 jv), (.int .i64 iF) => bN.l29 F iE ah n ch fQ fo gb jv iF H
 | _, _, _, _, _ => none
theorem bN.lh29_inv {F : Nat} {iE : Int → Int → Hp → OA} {ah : Int → Int → Sl → Int → Int → Hp → OA} {ks : List Nat} {n : Nat} {tm : Tm} {H : Hp} {r : AV × Hp} (h : bN.lh29 F iE ah ks n tm H = some r) : ∃ ch : Nat, ∃ fQ : Nat, ∃ fo : Nat, ∃ gb : Nat, ∃ jv : Int, ∃ iF : Int, ks = [] ∧ tm 2 = (.ptr ch fQ) ∧ tm 3 = (.ptr fo gb) ∧ tm 8 = (.int .i64 jv) ∧ tm 9 = (.int .i64 iF) ∧ bN.l29 F iE ah n ch fQ fo gb jv iF H = some r := by
 unfold bN.lh29 at h
 split at h
 ·exact ⟨_, _, _, _, _, _, rfl, by assumption, by assumption, by assumption, by assumption, h⟩
 ·cases h
noncomputable def bN.lh (F : Nat) (iE : Int → Int → Hp → OA) (ah : Int → Int → Sl → Int → Int → Hp → OA) (p : Nat) (ks : List Nat) (n : Nat) (tm : Tm) (H : Hp) : OA := bif p.beq 29 then bN.lh29 F iE ah ks n tm H else (none)
def bN.pn : Nat → List Nat := fun i => (([] : List (Nat × List Nat)).lookup i).getD []
def bN.tb : Nat → List (List Nat) := fun i => (([] : List (Nat × List (List Nat))).lookup i).getD []
noncomputable def bN.mk (g : Int → Hp → OA) (args : List AV) (H : Hp) : OA := match args with
 | [(.int .i64 aa)] => g aa H
 | _ => none
noncomputable def bN.cs (F : Nat) (iE : Int → Int → Hp → OA) (ah : Int → Int → Sl → Int → Int → Hp → OA) : List (FuncId × (List AV → Hp → OA)) := [(94, dV.mk iE), (95, aO.mk ah)]
theorem bN.loops (F : Nat) (iE : Int → Int → Hp → OA) (ah : Int → Int → Sl → Int → Int → Hp → OA) : LoopsOk tabs (mkOrc (bN.cs F iE ah)) bN.pn (bN.lh F iE ah) F [] 1 bN.code (fun tm H => aresults tabs.ty H tm Try.f110.results.toList fun v => some (v, H)) (fun _ _ _ => none) (fun tm H => aresults tabs.ty H tm Try.f110.results.toList fun v => some (v, H)) := by
 refine LoopsOk.seq ?_ ?_
 ·exact loops_none (by kernel_rfl)
 ·refine LoopsOk.seq ?_ ?_
  ·exact loops_none (by kernel_rfl)
  ·refine LoopsOk.seq ?_ ?_
   ·refine LoopsOk.seq ?_ ?_
    ·exact loops_none (by kernel_rfl)
    ·refine LoopsOk.block ?_
     refine LoopsOk.loop (fun tm H => ?_) (fun k29 tm H r h0 => ?_) (fun k29 => ?_)
     ·refine none_of fun r h0 => ?_
      obtain ⟨ch, fQ, fo, gb, jv, iF, hks, e2, e3, e8, e9, h⟩ := bN.lh29_inv (show bN.lh29 F iE ah [] 0 tm H = some r from h0)
      cases h
     ·obtain ⟨ch, fQ, fo, gb, jv, iF, hks, e2, e3, e8, e9, h⟩ := bN.lh29_inv (show bN.lh29 F iE ah [] (k29 + 1) tm H = some r from h0)
      have q0 : (Tm.put tm 2 (.ptr ch fQ)) = tm := by exact Tm.put_same e2
      have q1 : (Tm.put (Tm.put tm 2 (.ptr ch fQ)) 3 (.ptr fo gb)) = tm := by rw [q0]; exact Tm.put_same e3
      have q2 : (Tm.put (Tm.put (Tm.put tm 2 (.ptr ch fQ)) 3 (.ptr fo gb)) 8 (.int .i64 jv)) = tm := by rw [q1]; exact Tm.put_same e8
      have q3 : (Tm.put (Tm.put (Tm.put (Tm.put tm 2 (.ptr ch fQ)) 3 (.ptr fo gb)) 8 (.int .i64 jv)) 9 (.int .i64 iF)) = tm := by rw [q2]; exact Tm.put_same e9
      rw [← q3]
      exact Eq.trans (by kernel_rfl) h
     ·exact loops_none (by kernel_rfl)
   ·exact loops_none (by kernel_rfl)
theorem bN.eqX (F : Nat) (iE : Int → Int → Hp → OA) (ah : Int → Int → Sl → Int → Int → Hp → OA) (aa : Int) (H : Hp) : aCode tabs (mkOrc (bN.cs F iE ah)) bN.pn (bN.lh F iE ah) F [] 1 bN.code (argTm [(.int .i64 aa)]) H (fun tm H => aresults tabs.ty H tm Try.f110.results.toList fun v => some (v, H)) (fun _ _ _ => none) (fun tm H => aresults tabs.ty H tm Try.f110.results.toList fun v => some (v, H)) = bN.twX F iE ah aa H := by kernel_rfl
theorem bN.cs_ok (F : Nat) : ∀ p ∈ bN.cs F (dV.tw F) (aO.tw F), ∀ args H v H', p.2 args H = some (v, H') → Go.AE.T Try.prog p.1 args H v H' := by
 intro p hp
 simp only [bN.cs, List.mem_cons, List.not_mem_nil, or_false] at hp
 rcases hp with rfl | rfl
 ·exact fun args H v H' h => dV.mk_T h
 ·exact fun args H v H' h => aO.mk_T h
theorem bN.ok : codeOk bN.pn Try.f110.ntmps bN.tb bN.code = true := by kernel_rfl
theorem bN.T {F : Nat} {aa : Int} {H : Hp} {v : AV} {H' : Hp} (h : bN.tw F aa H = some (v, H')) : Go.AE.T Try.prog 110 [(.int .i64 aa)] H v H' :=
 Go.AE.T.of (Y := tabs) (C := mkOrc (bN.cs F (dV.tw F) (aO.tw F))) (PN := bN.pn) (LH := bN.lh F (dV.tw F) (aO.tw F)) (F := F) (TB := bN.tb) (fn := Try.f110) (code := bN.code) mixed tabs_ok (mkOrc_ok (bN.cs_ok F)) Try.func110 (by kernel_rfl) (by kernel_rfl) bN.ok (Nat.le_of_ble_eq_true (by kernel_rfl)) (bN.loops F (dV.tw F) (aO.tw F)) (Eq.trans (bN.eqX F (dV.tw F) (aO.tw F) aa H) h)
theorem bN.mk_T {F : Nat} {args : List AV} {H : Hp} {v : AV} {H' : Hp} (h : bN.mk (bN.tw F) args H = some (v, H')) : Go.AE.T Try.prog 110 args H v H' := by
 unfold bN.mk at h
 split at h
 ·exact bN.T h
 ·cases h
noncomputable def ee.twX (F : Nat) (aa : Sl) (H : Hp) : OA := (bif (aa.a.isNone) then (some ((.sl (⟨none, 0, .ex 0⟩ : Sl)), H)) else ((Hp.new H []).bind fun H2 => (Sl.row H2 aa 1).bind fun xs4 => (Hp.app H2 1 8 (⟨some (H.length, 0), 0, .ex 0⟩ : Sl) aa.n xs4).bind fun a3 => some ((.sl a3.1), a3.2)))
noncomputable def ee.tw (F : Nat) (aa : Sl) (H : Hp) : OA := ee.twX F aa H
noncomputable def ee.code : Go.Code := (Try.f149.body).getD .skip
noncomputable def ee.lh (F : Nat) (p : Nat) (ks : List Nat) (n : Nat) (tm : Tm) (H : Hp) : OA := none
def ee.pn : Nat → List Nat := fun i => (([] : List (Nat × List Nat)).lookup i).getD []
def ee.tb : Nat → List (List Nat) := fun i => (([] : List (Nat × List (List Nat))).lookup i).getD []
noncomputable def ee.mk (g : Sl → Hp → OA) (args : List AV) (H : Hp) : OA := match args with
 | [(.sl aa)] => g aa H
 | _ => none
noncomputable def ee.cs (F : Nat) : List (FuncId × (List AV → Hp → OA)) := []
theorem ee.loops (F : Nat) : LoopsOk tabs (mkOrc (ee.cs F)) ee.pn (ee.lh F) F [] 1 ee.code (fun tm H => aresults tabs.ty H tm Try.f149.results.toList fun v => some (v, H)) (fun _ _ _ => none) (fun tm H => aresults tabs.ty H tm Try.f149.results.toList fun v => some (v, H)) := by
 exact loops_none (by kernel_rfl)
theorem ee.eqX (F : Nat) (aa : Sl) (H : Hp) : aCode tabs (mkOrc (ee.cs F)) ee.pn (ee.lh F) F [] 1 ee.code (argTm [(.sl aa)]) H (fun tm H => aresults tabs.ty H tm Try.f149.results.toList fun v => some (v, H)) (fun _ _ _ => none) (fun tm H => aresults tabs.ty H tm Try.f149.results.toList fun v => some (v, H)) = ee.twX F aa H := by kernel_rfl
theorem ee.cs_ok (F : Nat) : ∀ p ∈ ee.cs F, ∀ args H v H', p.2 args H = some (v, H') → Go.AE.T Try.prog p.1 args H v H' := by
 intro p hp
 exact absurd (show p ∈ [] from hp) List.not_mem_nil
theorem ee.ok : codeOk ee.pn Try.f149.ntmps ee.tb ee.code = true := by kernel_rfl
theorem ee.T {F : Nat} {aa : Sl} {H : Hp} {v : AV} {H' : Hp} (h : ee.tw F aa H = some (v, H')) : Go.AE.T Try.prog 149 [(.sl aa)] H v H' :=
 Go.AE.T.of (Y := tabs) (C := mkOrc (ee.cs F)) (PN := ee.pn) (LH := ee.lh F) (F := F) (TB := ee.tb) (fn := Try.f149) (code := ee.code) mixed tabs_ok (mkOrc_ok (ee.cs_ok F)) Try.func149 (by kernel_rfl) (by kernel_rfl) ee.ok (Nat.le_of_ble_eq_true (by kernel_rfl)) (ee.loops F) (Eq.trans (ee.eqX F aa H) h)
theorem ee.mk_T {F : Nat} {args : List AV} {H : Hp} {v : AV} {H' : Hp} (h : ee.mk (ee.tw F) args H = some (v, H')) : Go.AE.T Try.prog 149 args H v H' := by
 unfold ee.mk at h
 split at h
 ·exact ee.T h
 ·cases h
noncomputable def dM.twX (F : Nat) (lb : Sl → Hp → OA) (aa : Int) (ac : Int) (ak : Sl) (H : Hp) : OA := (Hp.new H [(.int .i64 aa), (.int .i64 ac), (.sl ak)]).bind fun H4 => (Hp.new H4 [.int .i64 0, .int .i64 0, .sl ⟨none, 0, .ex 0⟩]).bind fun H5 => (Hp.ldSl H5 H.length 2).bind fun s6 => (lb s6 H5).bind fun r7 => ((r7.1).asSl).bind fun s8 => (Hp.st r7.2 H.length 2 (.sl s8)).bind fun H9 => (Hp.ldI H9 .i64 H.length 0).bind fun n10 => (Hp.ldI H9 .i64 H.length (0 + 1)).bind fun n11 => (Hp.ldSl H9 H.length (0 + 2)).bind fun s12 => (Hp.st H9 H4.length 0 (.int .i64 n10)).bind fun H13 => (Hp.st H13 H4.length (0 + 1) (.int .i64 n11)).bind fun H14 => (Hp.st H14 H4.length (0 + 1 + 1) (.sl s12)).bind fun H15 => (Hp.ldI H15 .i64 H4.length 0).bind fun n16 => (Hp.ldI H15 .i64 H4.length (0 + 1)).bind fun n17 => (Hp.ldSl H15 H4.length (0 + 2)).bind fun s18 => some ((.agg [(.int .i64 n16), (.int .i64 n17), (.sl s18)]), H15)
noncomputable def dM.tw (F : Nat) (aa : Int) (ac : Int) (ak : Sl) (H : Hp) : OA := dM.twX F (ee.tw F) aa ac ak H
noncomputable def dM.code : Go.Code := (Try.f132.body).getD .skip
noncomputable def dM.lh (F : Nat) (lb : Sl → Hp → OA) (p : Nat) (ks : List Nat) (n : Nat) (tm : Tm) (H : Hp) : OA := none
def dM.pn : Nat → List Nat := fun i => (([] : List (Nat × List Nat)).lookup i).getD []
def dM.tb : Nat → List (List Nat) := fun i => (([] : List (Nat × List (List Nat))).lookup i).getD []
noncomputable def dM.mk (g : Int → Int → Sl → Hp → OA) (args : List AV) (H : Hp) : OA := match args with
 | [(.agg [(.int .i64 aa), (.int .i64 ac), (.sl ak)])] => g aa ac ak H
 | _ => none
noncomputable def dM.cs (F : Nat) (lb : Sl → Hp → OA) : List (FuncId × (List AV → Hp → OA)) := [(149, ee.mk lb)]
theorem dM.loops (F : Nat) (lb : Sl → Hp → OA) : LoopsOk tabs (mkOrc (dM.cs F lb)) dM.pn (dM.lh F lb) F [] 1 dM.code (fun tm H => aresults tabs.ty H tm Try.f132.results.toList fun v => some (v, H)) (fun _ _ _ => none) (fun tm H => aresults tabs.ty H tm Try.f132.results.toList fun v => some (v, H)) := by
 exact loops_none (by kernel_rfl)
theorem dM.eqX (F : Nat) (lb : Sl → Hp → OA) (aa : Int) (ac : Int) (ak : Sl) (H : Hp) : aCode tabs (mkOrc (dM.cs F lb)) dM.pn (dM.lh F lb) F [] 1 dM.code (argTm [(.agg [(.int .i64 aa), (.int .i64 ac), (.sl ak)])]) H (fun tm H => aresults tabs.ty H tm Try.f132.results.toList fun v => some (v, H)) (fun _ _ _ => none) (fun tm H => aresults tabs.ty H tm Try.f132.results.toList fun v => some (v, H)) = dM.twX F lb aa ac ak H := by kernel_rfl
theorem dM.cs_ok (F : Nat) : ∀ p ∈ dM.cs F (ee.tw F), ∀ args H v H', p.2 args H = some (v, H') → Go.AE.T Try.prog p.1 args H v H' := by
 intro p hp
 simp only [dM.cs, List.mem_cons, List.not_mem_nil, or_false] at hp
 subst hp
 exact fun args H v H' h => ee.mk_T h
theorem dM.ok : codeOk dM.pn Try.f132.ntmps dM.tb dM.code = true := by kernel_rfl
theorem dM.T {F : Nat} {aa : Int} {ac : Int} {ak : Sl} {H : Hp} {v : AV} {H' : Hp} (h : dM.tw F aa ac ak H = some (v, H')) : Go.AE.T Try.prog 132 [(.agg [(.int .i64 aa), (.int .i64 ac), (.sl ak)])] H v H' :=
 Go.AE.T.of (Y := tabs) (C := mkOrc (dM.cs F (ee.tw F))) (PN := dM.pn) (LH := dM.lh F (ee.tw F)) (F := F) (TB := dM.tb) (fn := Try.f132) (code := dM.code) mixed tabs_ok (mkOrc_ok (dM.cs_ok F)) Try.func132 (by kernel_rfl) (by kernel_rfl) dM.ok (Nat.le_of_ble_eq_true (by kernel_rfl)) (dM.loops F (ee.tw F)) (Eq.trans (dM.eqX F (ee.tw F) aa ac ak H) h)
theorem dM.mk_T {F : Nat} {args : List AV} {H : Hp} {v : AV} {H' : Hp} (h : dM.mk (dM.tw F) args H = some (v, H')) : Go.AE.T Try.prog 132 args H v H' := by
 unfold dM.mk at h
 split at h
 ·exact dM.T h
 ·cases h
noncomputable def eC.twX (F : Nat) (ku : Int → Hp → OA) (lc : Int → Int → Sl → Hp → OA) (aa : Int) (ac : Int) (ak : Sl) (H : Hp) : OA := (Hp.new H [(.int .i64 aa), (.int .i64 ac), (.sl ak)]).bind fun H4 => (Hp.ldI H4 .i64 H.length 0).bind fun n5 => (ku n5 H4).bind fun r6 => ((r6.1).asAgg 3).bind fun l7 => (l7[0]?).bind fun v8 => ((v8).asI .i64).bind fun n9 => (l7[1]?).bind fun v10 => ((v10).asI .i64).bind fun n11 => (l7[2]?).bind fun v12 => ((v12).asSl).bind fun s13 => (if Cons H4 r6.2 then ((Hp.ldI r6.2 .i64 H.length 0).bind fun n14 => (ku n14 r6.2).bind fun r15 => ((r15.1).asAgg 3).bind fun l16 => (l16[0]?).bind fun v17 => ((v17).asI .i64).bind fun n18 => (l16[1]?).bind fun v19 => ((v19).asI .i64).bind fun n20 => (l16[2]?).bind fun v21 => ((v21).asSl).bind fun s22 => (if Cons r6.2 r15.2 then ((Hp.ldI r15.2 .i64 H.length 0).bind fun n23 => (Hp.ldI r15.2 .i64 H.length (0 + 1)).bind fun n24 => (Hp.ldSl r15.2 H.length (0 + 2)).bind fun s25 => (lc n23 n24 s25 r15.2).bind fun r26 => ((r26.1).asAgg 3).bind fun l27 => (l27[0]?).bind fun v28 => ((v28).asI .i64).bind fun n29 => (l27[1]?).bind fun v30 => ((v30).asI .i64).bind fun n31 => (l27[2]?).bind fun v32 => ((v32).asSl).bind fun s33 => (if Cons r15.2 r26.2 then ((Hp.ldI r26.2 .i64 H.length 1).bind fun n34 => (ku n34 r26.2).bind fun r35 => ((r35.1).asAgg 3).bind fun l36 => (l36[0]?).bind fun v37 => ((v37).asI .i64).bind fun n38 => (l36[1]?).bind fun v39 => ((v39).asI .i64).bind fun n40 => (l36[2]?).bind fun v41 => ((v41).asSl).bind fun s42 => (if Cons r26.2 r35.2 then ((Hp.ldI r35.2 .i64 H.length 1).bind fun n43 => (ku n43 r35.2).bind fun r44 => ((r44.1).asAgg 3).bind fun l45 => (l45[0]?).bind fun v46 => ((v46).asI .i64).bind fun n47 => (l45[1]?).bind fun v48 => ((v48).asI .i64).bind fun n49 => (l45[2]?).bind fun v50 => ((v50).asSl).bind fun s51 => (Hp.new r44.2 [(.int .i64 n9), (.int .i64 n11), (.sl s13), (.int .i64 n18), (.int .i64 n20), (.sl s22), (.int .i64 n29), (.int .i64 n31), (.sl s33), (.int .i64 n38), (.int .i64 n40), (.sl s42), (.int .i64 n47), (.int .i64 n49), (.sl s51), (.bool false)]).bind fun H52 => some ((.ptr r44.2.length 0), H52)) else none)) else none)) else none)) else none)
noncomputable def eC.tw (F : Nat) (aa : Int) (ac : Int) (ak : Sl) (H : Hp) : OA := eC.twX F (bN.tw F) (dM.tw F) aa ac ak H
noncomputable def eC.code : Go.Code := (Try.f108.body).getD .skip
noncomputable def eC.lh (F : Nat) (ku : Int → Hp → OA) (lc : Int → Int → Sl → Hp → OA) (p : Nat) (ks : List Nat) (n : Nat) (tm : Tm) (H : Hp) : OA := none
def eC.pn : Nat → List Nat := fun i => (([(1, [13])] : List (Nat × List Nat)).lookup i).getD []
def eC.tb : Nat → List (List Nat) := fun i => (([(1, [[], [0], [0, 1], [], [3], [0, 1, 2, 3, 4], [], [0, 1, 2, 3, 4, 5, 6], [], [8], [0, 1, 2, 3, 4, 5, 6, 7, 8, 9], [], [11], [0, 1, 2, 3, 4, 5, 6, 7, 8, 9, 10, 11, 12], [0, 1, 2, 3, 4, 5, 6, 7, 8, 9, 10, 11, 12, 13], [0, 1, 2, 3, 4, 5, 6, 7, 8, 9, 10, 11, 12, 13, 14], [0, 1, 2, 3, 4, 5, 6, 7, 8, 9, 10, 11, 12, 13, 14, 15], [0, 1, 2, 3, 4, 5, 6, 7, 8, 9, 10, 11, 12, 13, 14, 15, 16]])] : List (Nat × List (List Nat))).lookup i).getD []
noncomputable def eC.mk (g : Int → Int → Sl → Hp → OA) (args : List AV) (H : Hp) : OA := match args with
 | [(.agg [(.int .i64 aa), (.int .i64 ac), (.sl ak)])] => g aa ac ak H
 | _ => none
noncomputable def eC.cs (F : Nat) (ku : Int → Hp → OA) (lc : Int → Int → Sl → Hp → OA) : List (FuncId × (List AV → Hp → OA)) := [(110, bN.mk ku), (132, dM.mk lc)]
theorem eC.loops (F : Nat) (ku : Int → Hp → OA) (lc : Int → Int → Sl → Hp → OA) : LoopsOk tabs (mkOrc (eC.cs F ku lc)) eC.pn (eC.lh F ku lc) F [] 1 eC.code (fun tm H => aresults tabs.ty H tm Try.f108.results.toList fun v => some (v, H)) (fun _ _ _ => none) (fun tm H => aresults tabs.ty H tm Try.f108.results.toList fun v => some (v, H)) := by
 exact loops_none (by kernel_rfl)
theorem eC.eqX (F : Nat) (ku : Int → Hp → OA) (lc : Int → Int → Sl → Hp → OA) (aa : Int) (ac : Int) (ak : Sl) (H : Hp) : aCode tabs (mkOrc (eC.cs F ku lc)) eC.pn (eC.lh F ku lc) F [] 1 eC.code (argTm [(.agg [(.int .i64 aa), (.int .i64 ac), (.sl ak)])]) H (fun tm H => aresults tabs.ty H tm Try.f108.results.toList fun v => some (v, H)) (fun _ _ _ => none) (fun tm H => aresults tabs.ty H tm Try.f108.results.toList fun v => some (v, H)) = eC.twX F ku lc aa ac ak H := by kernel_rfl
theorem eC.cs_ok (F : Nat) : ∀ p ∈ eC.cs F (bN.tw F) (dM.tw F), ∀ args H v H', p.2 args H = some (v, H') → Go.AE.T Try.prog p.1 args H v H' := by
 intro p hp
 simp only [eC.cs, List.mem_cons, List.not_mem_nil, or_false] at hp
 rcases hp with rfl | rfl
 ·exact fun args H v H' h => bN.mk_T h
 ·exact fun args H v H' h => dM.mk_T h
theorem eC.ok : codeOk eC.pn Try.f108.ntmps eC.tb eC.code = true := by kernel_rfl
theorem eC.T {F : Nat} {aa : Int} {ac : Int} {ak : Sl} {H : Hp} {v : AV} {H' : Hp} (h : eC.tw F aa ac ak H = some (v, H')) : Go.AE.T Try.prog 108 [(.agg [(.int .i64 aa), (.int .i64 ac), (.sl ak)])] H v H' :=
 Go.AE.T.of (Y := tabs) (C := mkOrc (eC.cs F (bN.tw F) (dM.tw F))) (PN := eC.pn) (LH := eC.lh F (bN.tw F) (dM.tw F)) (F := F) (TB := eC.tb) (fn := Try.f108) (code := eC.code) mixed tabs_ok (mkOrc_ok (eC.cs_ok F)) Try.func108 (by kernel_rfl) (by kernel_rfl) eC.ok (Nat.le_of_ble_eq_true (by kernel_rfl)) (eC.loops F (bN.tw F) (dM.tw F)) (Eq.trans (eC.eqX F (bN.tw F) (dM.tw F) aa ac ak H) h)
theorem eC.mk_T {F : Nat} {args : List AV} {H : Hp} {v : AV} {H' : Hp} (h : eC.mk (eC.tw F) args H = some (v, H')) : Go.AE.T Try.prog 108 args H v H' := by
 unfold eC.mk at h
 split at h
 ·exact eC.T h
 ·cases h
noncomputable def cj.twX (F : Nat) (aa : Int) (H : Hp) : OA := (bif (decide (aa < 0)) then (some ((.int .i64 (IntKind.i64.wrap (0 - aa))), H)) else (some ((.int .i64 aa), H)))
noncomputable def cj.tw (F : Nat) (aa : Int) (H : Hp) : OA := cj.twX F aa H
noncomputable def cj.code : Go.Code := (Try.f102.body).getD .skip
noncomputable def cj.lh (F : Nat) (p : Nat) (ks : List Nat) (n : Nat) (tm : Tm) (H : Hp) : OA := none
def cj.pn : Nat → List Nat := fun i => (([] : List (Nat × List Nat)).lookup i).getD []
def cj.tb : Nat → List (List Nat) := fun i => (([] : List (Nat × List (List Nat))).lookup i).getD []
noncomputable def cj.mk (g : Int → Hp → OA) (args : List AV) (H : Hp) : OA := match args with
 | [(.int .i64 aa)] => g aa H
 | _ => none
noncomputable def cj.cs (F : Nat) : List (FuncId × (List AV → Hp → OA)) := []
theorem cj.loops (F : Nat) : LoopsOk tabs (mkOrc (cj.cs F)) cj.pn (cj.lh F) F [] 1 cj.code (fun tm H => aresults tabs.ty H tm Try.f102.results.toList fun v => some (v, H)) (fun _ _ _ => none) (fun tm H => aresults tabs.ty H tm Try.f102.results.toList fun v => some (v, H)) := by
 exact loops_none (by kernel_rfl)
theorem cj.eqX (F : Nat) (aa : Int) (H : Hp) : aCode tabs (mkOrc (cj.cs F)) cj.pn (cj.lh F) F [] 1 cj.code (argTm [(.int .i64 aa)]) H (fun tm H => aresults tabs.ty H tm Try.f102.results.toList fun v => some (v, H)) (fun _ _ _ => none) (fun tm H => aresults tabs.ty H tm Try.f102.results.toList fun v => some (v, H)) = cj.twX F aa H := by kernel_rfl
theorem cj.cs_ok (F : Nat) : ∀ p ∈ cj.cs F, ∀ args H v H', p.2 args H = some (v, H') → Go.AE.T Try.prog p.1 args H v H' := by
 intro p hp
 exact absurd (show p ∈ [] from hp) List.not_mem_nil
theorem cj.ok : codeOk cj.pn Try.f102.ntmps cj.tb cj.code = true := by kernel_rfl
theorem cj.T {F : Nat} {aa : Int} {H : Hp} {v : AV} {H' : Hp} (h : cj.tw F aa H = some (v, H')) : Go.AE.T Try.prog 102 [(.int .i64 aa)] H v H' :=
 Go.AE.T.of (Y := tabs) (C := mkOrc (cj.cs F)) (PN := cj.pn) (LH := cj.lh F) (F := F) (TB := cj.tb) (fn := Try.f102) (code := cj.code) mixed tabs_ok (mkOrc_ok (cj.cs_ok F)) Try.func102 (by kernel_rfl) (by kernel_rfl) cj.ok (Nat.le_of_ble_eq_true (by kernel_rfl)) (cj.loops F) (Eq.trans (cj.eqX F aa H) h)
theorem cj.mk_T {F : Nat} {args : List AV} {H : Hp} {v : AV} {H' : Hp} (h : cj.mk (cj.tw F) args H = some (v, H')) : Go.AE.T Try.prog 102 args H v H' := by
 unfold cj.mk at h
 split at h
 ·exact cj.T h
 ·cases h
noncomputable def aI.j5 (F : Nat) (ah : Int → Int → Sl → Int → Int → Hp → OA) (dm : Int → Hp → OA) (oc : Int) (od : Int) (oe : Bool) (H134 : Hp) : OA := some ((.tup [(.int .i64 oc), (.int .i64 od), (.bool oe)]), H134)
noncomputable def aI.j7 (F : Nat) (ah : Int → Int → Sl → Int → Int → Hp → OA) (dm : Int → Hp → OA) (C29_ : Int → Int → Int → Bool → Nat → Nat → Int → Hp → OA) (og : Int) (oh : Int) (oi : Int) (oj : Bool) (qw : Nat) (za : Nat) (ol : Int) (H205 : Hp) : OA := C29_ og oh oi oj qw za (IntKind.i64.wrap (ol + 1)) H205
noncomputable def aI.j8 (F : Nat) (ah : Int → Int → Sl → Int → Int → Hp → OA) (dm : Int → Hp → OA) (C29_ : Int → Int → Int → Bool → Nat → Nat → Int → Hp → OA) (om : Int) (oo : Int) (oq : Int) (ot : Bool) (qx : Nat) (zb : Nat) (ou : Int) (H192 : Hp) : OA := aI.j7 F ah dm C29_ om oo oq ot qx zb ou H192
noncomputable def aI.j9 (F : Nat) (ah : Int → Int → Sl → Int → Int → Hp → OA) (dm : Int → Hp → OA) (C469_ : Int → Int → Int → Bool → Nat → Nat → Int → Int → Hp → OA) (ov : Int) (ox : Int) (oy : Int) (oz : Bool) (qy : Nat) (zc : Nat) (oA : Int) (oB : Int) (H237 : Hp) : OA := C469_ ov ox oy oz qy zc oA (IntKind.i64.wrap (oB + 1)) H237
noncomputable def aI.l469 (F : Nat) (ah : Int → Int → Sl → Int → Int → Hp → OA) (dm : Int → Hp → OA) (C29_ : Int → Int → Int → Bool → Nat → Nat → Int → Hp → OA) : Nat → Int → Int → Int → Bool → Nat → Nat → Int → Int → Hp → OA
 | 0, _, _, _, _, _, _, _, _, _ => none
 | lQ + 1, gj, gD, gM, gS, gE, iG, gd, gk, H147 => (Hp.ldI H147 .i64 gE (iG + 1)).bind fun n206 => (bif (decide (gk < n206)) then ((Hp.ldI H147 .i64 gE iG).bind fun n207 => (Hp.ldI H147 .i64 gE (iG + 1)).bind fun n208 => (Hp.ldSl H147 gE (iG + 2)).bind fun s209 => (ah n207 n208 s209 gd gk H147).bind fun r210 => ((r210.1).asP).bind fun p211 => (Hp.ldI r210.2 .i64 p211.1 p211.2).bind fun n212 => (dm n212 r210.2).bind fun r213 => ((r213.1).asI .i64).bind fun n214 => (bif (n214 != 0) then ((bif (!gS) then (aI.l469 F ah dm C29_ lQ gj gd gk true gE iG gd (IntKind.i64.wrap (gk + 1)) r213.2) else ((Hp.ldI r213.2 .i64 gE iG).bind fun n215 => (Hp.ldI r213.2 .i64 gE (iG + 1)).bind fun n216 => (Hp.ldSl r213.2 gE (iG + 2)).bind fun s217 => (ah n215 n216 s217 gD gM r213.2).bind fun r218 => ((r218.1).asP).bind fun p219 => (Hp.ldI r218.2 .i64 p219.1 p219.2).bind fun n220 => (dm n220 r218.2).bind fun r221 => ((r221.1).asI .i64).bind fun n222 => (bif (decide (n214 < n222)) then (aI.j9 F ah dm (aI.l469 F ah dm C29_ lQ) gj gd gk true gE iG gd gk r221.2) else (aI.j9 F ah dm (aI.l469 F ah dm C29_ lQ) gj gD gM gS gE iG gd gk r221.2))))) else (aI.l469 F ah dm C29_ lQ gj gD gM gS gE iG gd (IntKind.i64.wrap (gk + 1)) r213.2))) else (aI.j8 F ah dm C29_ gj gD gM gS gE iG gd H147))
termination_by structural n => n
noncomputable def aI.l29 (F : Nat) (ah : Int → Int → Sl → Int → Int → Hp → OA) (dm : Int → Hp → OA)  : Nat → Int → Int → Int → Bool → Nat → Nat → Int → Hp → OA
 | 0, _, _, _, _, _, _, _, _ => none
 | eN + 1, cU, eL, fp, jg, kf, lf, jQ, H20 => (Hp.ldI H20 .i64 kf lf).bind fun n135 => (bif (decide (jQ < n135)) then (aI.l469 F ah dm (aI.l29 F ah dm eN) F cU eL fp jg kf lf jQ cU H20) else (aI.j5 F ah dm eL fp jg H20))
termination_by structural n => n
noncomputable def aI.twX (F : Nat) (ah : Int → Int → Sl → Int → Int → Hp → OA) (dm : Int → Hp → OA) (aa : Nat) (ac : Nat) (ae : Int) (H : Hp) : OA := (Hp.ldI H .i64 aa (ac + 6)).bind fun n4 => (Hp.ldI H .i64 aa ((ac + 6) + 1)).bind fun n5 => (Hp.ldSl H aa ((ac + 6) + 2)).bind fun s6 => (Hp.new H [.int .i64 0, .int .i64 0, .sl ⟨none, 0, .ex 0⟩]).bind fun H7 => (Hp.st H7 H.length 0 (.int .i64 n4)).bind fun H8 => (Hp.st H8 H.length (0 + 1) (.int .i64 n5)).bind fun H9 => (Hp.st H9 H.length (0 + 1 + 1) (.sl s6)).bind fun H10 => aI.l29 F ah dm F ae 0 0 false H.length 0 ae H10
noncomputable def aI.tw (F : Nat) (aa : Nat) (ac : Nat) (ae : Int) (H : Hp) : OA := aI.twX F (aO.tw F) (cj.tw F) aa ac ae H
noncomputable def aI.code : Go.Code := (Try.f150.body).getD .skip
noncomputable def aI.lh29 (F : Nat) (ah : Int → Int → Sl → Int → Int → Hp → OA) (dm : Int → Hp → OA) (ks : List Nat) (n : Nat) (tm : Tm) (H : Hp) : OA := match ks, tm 1, tm 4, tm 5, tm 6, tm 7, tm 8 with
 | [], (.int .i64 cU), (.int .i64 eL), (.int .i64 fp), (.bool jg), (.ptr kf lf), (.int .i64 jQ) => aI.l29 F ah dm n cU eL fp jg kf lf jQ H
 | _, _, _, _, _, _, _ => none
theorem aI.lh29_inv {F : Nat} {ah : Int → Int → Sl → Int → Int → Hp → OA} {dm : Int → Hp → OA} {ks : List Nat} {n : Nat} {tm : Tm} {H : Hp} {r : AV × Hp} (h : aI.lh29 F ah dm ks n tm H = some r) : ∃ cU : Int, ∃ eL : Int, ∃ fp : Int, ∃ jg : Bool, ∃ kf : Nat, ∃ lf : Nat, ∃ jQ : Int, ks = [] ∧ tm 1 = (.int .i64 cU) ∧ tm 4 = (.int .i64 eL) ∧ tm 5 = (.int .i64 fp) ∧ tm 6 = (.bool jg) ∧ tm 7 = (.ptr kf lf) ∧ tm 8 = (.int .i64 jQ) ∧ aI.l29 F ah dm n cU eL fp jg kf lf jQ H = some r := by
 unfold aI.lh29 at h
 split at h
 ·exact ⟨_, _, _, _, _, _, _, rfl, by assumption, by assumption, by assumption, by assumption, by assumption, by assumption, h⟩
 ·cases h
noncomputable def aI.lh469 (F : Nat) (ah : Int → Int → Sl → Int → Int → Hp → OA) (dm : Int → Hp → OA) (ks : List Nat) (n : Nat) (tm : Tm) (H : Hp) : OA := match ks, tm 1, tm 4, tm 5, tm 6, tm 7, tm 8, tm 9 with
 | [eN], (.int .i64 gj), (.int .i64 gD), (.int .i64 gM), (.bool gS), (.ptr gE iG), (.int .i64 gd), (.int .i64 gk) => aI.l469 F ah dm (aI.l29 F ah dm eN) n gj gD gM gS gE iG gd gk H
 | _, _, _, _, _, _, _, _ => none
theorem aI.lh469_inv {F : Nat} {ah : Int → Int → Sl → Int → Int → Hp → OA} {dm : Int → Hp → OA} {ks : List Nat} {n : Nat} {tm : Tm} {H : Hp} {r : AV × Hp} (h : aI.lh469 F ah dm ks n tm H = some r) : ∃ eN : Nat, ∃ gj : Int, ∃ gD : Int, ∃ gM : Int, ∃ gS : Bool, ∃ gE : Nat, ∃ iG : Nat, ∃ gd : Int, ∃ gk : Int, ks = [eN] ∧ tm 1 = (.int .i64 gj) ∧ tm 4 = (.int .i64 gD) ∧ tm 5 = (.int .i64 gM) ∧ tm 6 = (.bool gS) ∧ tm 7 = (.ptr gE iG) ∧ tm 8 = (.int .i64 gd) ∧ tm 9 = (.int .i64 gk) ∧ aI.l469 F ah dm (aI.l29 F ah dm eN) n gj gD gM gS gE iG gd gk H = some r := by
 unfold aI.lh469 at h
 split at h
 ·exact ⟨_, _, _, _, _, _, _, _, _, rfl, by assumption, by assumption, by assumption, by assumption, by assumption, by assumption, by assumption, h⟩
 ·cases h
noncomputable def aI.lh (F : Nat) (ah : Int → Int → Sl → Int → Int → Hp → OA) (dm : Int → Hp → OA) (p : Nat) (ks : List Nat) (n : Nat) (tm : Tm) (H : Hp) : OA := bif p.beq 469 then aI.lh469 F ah dm ks n tm H else (bif p.beq 29 then aI.lh29 F ah dm ks n tm H else (none))
def aI.pn : Nat → List Nat := fun i => (([] : List (Nat × List Nat)).lookup i).getD []
def aI.tb : Nat → List (List Nat) := fun i => (([] : List (Nat × List (List Nat))).lookup i).getD []
noncomputable def aI.mk (g : Nat → Nat → Int → Hp → OA) (args : List AV) (H : Hp) : OA := match args with
 | [(.ptr aa ac), (.int .i64 ae)] => g aa ac ae H
 | _ => none
noncomputable def aI.cs (F : Nat) (ah : Int → Int → Sl → Int → Int → Hp → OA) (dm : Int → Hp → OA) : List (FuncId × (List AV → Hp → OA)) := [(95, aO.mk ah), (102, cj.mk dm)]
theorem aI.loops (F : Nat) (ah : Int → Int → Sl → Int → Int → Hp → OA) (dm : Int → Hp → OA) : LoopsOk tabs (mkOrc (aI.cs F ah dm)) aI.pn (aI.lh F ah dm) F [] 1 aI.code (fun tm H => aresults tabs.ty H tm Try.f150.results.toList fun v => some (v, H)) (fun _ _ _ => none) (fun tm H => aresults tabs.ty H tm Try.f150.results.toList fun v => some (v, H)) := by
 refine LoopsOk.seq ?_ ?_
 ·exact loops_none (by kernel_rfl)
 ·refine LoopsOk.seq ?_ ?_
  ·exact loops_none (by kernel_rfl)
  ·refine LoopsOk.seq ?_ ?_
   ·refine LoopsOk.seq ?_ ?_
    ·exact loops_none (by kernel_rfl)
    ·refine LoopsOk.block ?_
     refine LoopsOk.loop (fun tm H => ?_) (fun k29 tm H r h0 => ?_) (fun k29 => ?_)
     ·refine none_of fun r h0 => ?_
      obtain ⟨cU, eL, fp, jg, kf, lf, jQ, hks, e1, e4, e5, e6, e7, e8, h⟩ := aI.lh29_inv (show aI.lh29 F ah dm [] 0 tm H = some r from h0)
      cases h
     ·obtain ⟨cU, eL, fp, jg, kf, lf, jQ, hks, e1, e4, e5, e6, e7, e8, h⟩ := aI.lh29_inv (show aI.lh29 F ah dm [] (k29 + 1) tm H = some r from h0)
      have q0 : (Tm.put tm 1 (.int .i64 cU)) = tm := by exact Tm.put_same e1
      have q1 : (Tm.put (Tm.put tm 1 (.int .i64 cU)) 4 (.int .i64 eL)) = tm := by rw [q0]; exact Tm.put_same e4
      have q2 : (Tm.put (Tm.put (Tm.put tm 1 (.int .i64 cU)) 4 (.int .i64 eL)) 5 (.int .i64 fp)) = tm := by rw [q1]; exact Tm.put_same e5
      have q3 : (Tm.put (Tm.put (Tm.put (Tm.put tm 1 (.int .i64 cU)) 4 (.int .i64 eL)) 5 (.int .i64 fp)) 6 (.bool jg)) = tm := by rw [q2]; exact Tm.put_same e6
      have q4 : (Tm.put (Tm.put (Tm.put (Tm.put (Tm.put tm 1 (.int .i64 cU)) 4 (.int .i64 eL)) 5 (.int .i64 fp)) 6 (.bool jg)) 7 (.ptr kf lf)) = tm := by rw [q3]; exact Tm.put_same e7
      have q5 : (Tm.put (Tm.put (Tm.put (Tm.put (Tm.put (Tm.put tm 1 (.int .i64 cU)) 4 (.int .i64 eL)) 5 (.int .i64 fp)) 6 (.bool jg)) 7 (.ptr kf lf)) 8 (.int .i64 jQ)) = tm := by rw [q4]; exact Tm.put_same e8
      rw [← q5]
      exact Eq.trans (by kernel_rfl) h
     ·refine LoopsOk.seq ?_ ?_
      ·exact loops_none (by kernel_rfl)
      ·refine LoopsOk.seq ?_ ?_
       ·refine LoopsOk.block ?_
        refine LoopsOk.seq ?_ ?_
        ·exact loops_none (by kernel_rfl)
        ·refine LoopsOk.block ?_
         refine LoopsOk.loop (fun tm H => ?_) (fun k469 tm H r h0 => ?_) (fun k469 => ?_)
         ·refine none_of fun r h0 => ?_
          obtain ⟨eN, gj, gD, gM, gS, gE, iG, gd, gk, hks, e1, e4, e5, e6, e7, e8, e9, h⟩ := aI.lh469_inv (show aI.lh469 F ah dm [k29] 0 tm H = some r from h0)
          cases h
         ·obtain ⟨eN, gj, gD, gM, gS, gE, iG, gd, gk, hks, e1, e4, e5, e6, e7, e8, e9, h⟩ := aI.lh469_inv (show aI.lh469 F ah dm [k29] (k469 + 1) tm H = some r from h0)
          obtain rfl : eN = k29 := by simpa [eq_comm] using hks
          have q0 : (Tm.put tm 1 (.int .i64 gj)) = tm := by exact Tm.put_same e1
          have q1 : (Tm.put (Tm.put tm 1 (.int .i64 gj)) 4 (.int .i64 gD)) = tm := by rw [q0]; exact Tm.put_same e4
          have q2 : (Tm.put (Tm.put (Tm.put tm 1 (.int .i64 gj)) 4 (.int .i64 gD)) 5 (.int .i64 gM)) = tm := by rw [q1]; exact Tm.put_same e5
          have q3 : (Tm.put (Tm.put (Tm.put (Tm.put tm 1 (.int .i64 gj)) 4 (.int .i64 gD)) 5 (.int .i64 gM)) 6 (.bool gS)) = tm := by rw [q2]; exact Tm.put_same e6
          have q4 : (Tm.put (Tm.put (Tm.put (Tm.put (Tm.put tm 1 (.int .i64 gj)) 4 (.int .i64 gD)) 5 (.int .i64 gM)) 6 (.bool gS)) 7 (.ptr gE iG)) = tm := by rw [q3]; exact Tm.put_same e7
          have q5 : (Tm.put (Tm.put (Tm.put (Tm.put (Tm.put (Tm.put tm 1 (.int .i64 gj)) 4 (.int .i64 gD)) 5 (.int .i64 gM)) 6 (.bool gS)) 7 (.ptr gE iG)) 8 (.int .i64 gd)) = tm := by rw [q4]; exact Tm.put_same e8
          have q6 : (Tm.put (Tm.put (Tm.put (Tm.put (Tm.put (Tm.put (Tm.put tm 1 (.int .i64 gj)) 4 (.int .i64 gD)) 5 (.int .i64 gM)) 6 (.bool gS)) 7 (.ptr gE iG)) 8 (.int .i64 gd)) 9 (.int .i64 gk)) = tm := by rw [q5]; exact Tm.put_same e9
          rw [← q6]
          exact Eq.trans (by kernel_rfl) h
         ·exact loops_none (by kernel_rfl)
       ·exact loops_none (by kernel_rfl)
   ·exact loops_none (by kernel_rfl)
theorem aI.eqX (F : Nat) (ah : Int → Int → Sl → Int → Int → Hp → OA) (dm : Int → Hp → OA) (aa : Nat) (ac : Nat) (ae : Int) (H : Hp) : aCode tabs (mkOrc (aI.cs F ah dm)) aI.pn (aI.lh F ah dm) F [] 1 aI.code (argTm [(.ptr aa ac), (.int .i64 ae)]) H (fun tm H => aresults tabs.ty H tm Try.f150.results.toList fun v => some (v, H)) (fun _ _ _ => none) (fun tm H => aresults tabs.ty H tm Try.f150.results.toList fun v => some (v, H)) = aI.twX F ah dm aa ac ae H := by kernel_rfl
theorem aI.cs_ok (F : Nat) : ∀ p ∈ aI.cs F (aO.tw F) (cj.tw F), ∀ args H v H', p.2 args H = some (v, H') → Go.AE.T Try.prog p.1 args H v H' := by
 intro p hp
 simp only [aI.cs, List.mem_cons, List.not_mem_nil, or_false] at hp
 rcases hp with rfl | rfl
 ·exact fun args H v H' h => aO.mk_T h
 ·exact fun args H v H' h => cj.mk_T h
theorem aI.ok : codeOk aI.pn Try.f150.ntmps aI.tb aI.code = true := by kernel_rfl
theorem aI.T {F : Nat} {aa : Nat} {ac : Nat} {ae : Int} {H : Hp} {v : AV} {H' : Hp} (h : aI.tw F aa ac ae H = some (v, H')) : Go.AE.T Try.prog 150 [(.ptr aa ac), (.int .i64 ae)] H v H' :=
 Go.AE.T.of (Y := tabs) (C := mkOrc (aI.cs F (aO.tw F) (cj.tw F))) (PN := aI.pn) (LH := aI.lh F (aO.tw F) (cj.tw F)) (F := F) (TB := aI.tb) (fn := Try.f150) (code := aI.code) mixed tabs_ok (mkOrc_ok (aI.cs_ok F)) Try.func150 (by kernel_rfl) (by kernel_rfl) aI.ok (Nat.le_of_ble_eq_true (by kernel_rfl)) (aI.loops F (aO.tw F) (cj.tw F)) (Eq.trans (aI.eqX F (aO.tw F) (cj.tw F) aa ac ae H) h)
theorem aI.mk_T {F : Nat} {args : List AV} {H : Hp} {v : AV} {H' : Hp} (h : aI.mk (aI.tw F) args H = some (v, H')) : Go.AE.T Try.prog 150 args H v H' := by
 unfold aI.mk at h
 split at h
 ·exact aI.T h
 ·cases h
noncomputable def bQ.l7 (F : Nat) (ah : Int → Int → Sl → Int → Int → Hp → OA)  : Nat → Int → Int → Nat → Nat → Int → Int → Hp → OA
 | 0, _, _, _, _, _, _, _ => none
 | kk + 1, fa, fh, cK, fS, fO, fb, H17 => (bif (decide (fb < fO)) then ((Hp.ldI H17 .i64 cK fS).bind fun n32 => (Hp.ldI H17 .i64 cK (fS + 1)).bind fun n33 => (Hp.ldSl H17 cK (fS + 2)).bind fun s34 => (ah n32 n33 s34 fa fb H17).bind fun r35 => ((r35.1).asP).bind fun p36 => (if Cons H17 r35.2 then ((Hp.ldI r35.2 .i64 cK fS).bind fun n37 => (Hp.ldI r35.2 .i64 cK (fS + 1)).bind fun n38 => (Hp.ldSl r35.2 cK (fS + 2)).bind fun s39 => (ah n37 n38 s39 fh fb r35.2).bind fun r40 => ((r40.1).asP).bind fun p41 => (Hp.ldI r40.2 .i64 p41.1 p41.2).bind fun n42 => (Hp.ldI r40.2 .i64 p36.1 p36.2).bind fun n43 => (Hp.st r40.2 p36.1 p36.2 (.int .i64 n42)).bind fun H44 => (Hp.st H44 p41.1 p41.2 (.int .i64 n43)).bind fun H45 => bQ.l7 F ah kk fa fh cK fS fO (IntKind.i64.wrap (fb + 1)) H45) else none)) else (some ((.tup []), H17)))
termination_by structural n => n
noncomputable def bQ.twX (F : Nat) (ah : Int → Int → Sl → Int → Int → Hp → OA) (aa : Int) (ac : Int) (ak : Sl) (af : Int) (bh : Int) (H : Hp) : OA := (Hp.new H [(.int .i64 aa), (.int .i64 ac), (.sl ak)]).bind fun H6 => (Hp.ldI H6 .i64 H.length 1).bind fun n7 => bQ.l7 F ah F af bh H.length 0 n7 0 H6
noncomputable def bQ.tw (F : Nat) (aa : Int) (ac : Int) (ak : Sl) (af : Int) (bh : Int) (H : Hp) : OA := bQ.twX F (aO.tw F) aa ac ak af bh H
noncomputable def bQ.code : Go.Code := (Try.f151.body).getD .skip
noncomputable def bQ.lh7 (F : Nat) (ah : Int → Int → Sl → Int → Int → Hp → OA) (ks : List Nat) (n : Nat) (tm : Tm) (H : Hp) : OA := match ks, tm 1, tm 2, tm 3, tm 10, tm 11 with
 | [], (.int .i64 fa), (.int .i64 fh), (.ptr cK fS), (.int .i64 fO), (.int .i64 fb) => bQ.l7 F ah n fa fh cK fS fO fb H
 | _, _, _, _, _, _ => none
theorem bQ.lh7_inv {F : Nat} {ah : Int → Int → Sl → Int → Int → Hp → OA} {ks : List Nat} {n : Nat} {tm : Tm} {H : Hp} {r : AV × Hp} (h : bQ.lh7 F ah ks n tm H = some r) : ∃ fa : Int, ∃ fh : Int, ∃ cK : Nat, ∃ fS : Nat, ∃ fO : Int, ∃ fb : Int, ks = [] ∧ tm 1 = (.int .i64 fa) ∧ tm 2 = (.int .i64 fh) ∧ tm 3 = (.ptr cK fS) ∧ tm 10 = (.int .i64 fO) ∧ tm 11 = (.int .i64 fb) ∧ bQ.l7 F ah n fa fh cK fS fO fb H = some r := by
 unfold bQ.lh7 at h
 split at h
 ·exact ⟨_, _, _, _, _, _, rfl, by assumption, by assumption, by assumption, by assumption, by assumption, h⟩
 ·cases h
noncomputable def bQ.lh (F : Nat) (ah : Int → Int → Sl → Int → Int → Hp → OA) (p : Nat) (ks : List Nat) (n : Nat) (tm : Tm) (H : Hp) : OA := bif p.beq 7 then bQ.lh7 F ah ks n tm H else (none)
def bQ.pn : Nat → List Nat := fun i => (([(4, [7]), (5, [9, 11])] : List (Nat × List Nat)).lookup i).getD []
def bQ.tb : Nat → List (List Nat) := fun i => (([(4, [[], [], [], [0, 1, 2], [], [], [], [0, 1, 2, 3, 4, 5, 6], [0, 1, 2, 3, 4, 5, 6, 7], [0, 1, 2, 3, 4, 5, 6, 7, 8]]), (5, [[], [], [], [2], [2, 3], [], [5], [5, 6], [0, 2, 3, 4, 5, 6, 7], [0, 2, 3, 4, 5, 6, 7, 8], [0, 1, 2, 3, 4, 5, 6, 7, 8, 9], [0, 1, 2, 3, 4, 5, 6, 7, 8, 9, 10]])] : List (Nat × List (List Nat))).lookup i).getD []
noncomputable def bQ.mk (g : Int → Int → Sl → Int → Int → Hp → OA) (args : List AV) (H : Hp) : OA := match args with
 | [(.agg [(.int .i64 aa), (.int .i64 ac), (.sl ak)]), (.int .i64 af), (.int .i64 bh)] => g aa ac ak af bh H
 | _ => none
noncomputable def bQ.cs (F : Nat) (ah : Int → Int → Sl → Int → Int → Hp → OA) : List (FuncId × (List AV → Hp → OA)) := [(95, aO.mk ah)]
theorem bQ.loops (F : Nat) (ah : Int → Int → Sl → Int → Int → Hp → OA) : LoopsOk tabs (mkOrc (bQ.cs F ah)) bQ.pn (bQ.lh F ah) F [] 1 bQ.code (fun tm H => aresults tabs.ty H tm Try.f151.results.toList fun v => some (v, H)) (fun _ _ _ => none) (fun tm H => aresults tabs.ty H tm Try.f151.results.toList fun v => some (v, H)) := by
 refine LoopsOk.seq ?_ ?_
 ·exact loops_none (by kernel_rfl)
 ·refine LoopsOk.seq ?_ ?_
  ·exact loops_none (by kernel_rfl)
  ·refine LoopsOk.block ?_
   refine LoopsOk.loop (fun tm H => ?_) (fun k7 tm H r h0 => ?_) (fun k7 => ?_)
   ·refine none_of fun r h0 => ?_
    obtain ⟨fa, fh, cK, fS, fO, fb, hks, e1, e2, e3, e10, e11, h⟩ := bQ.lh7_inv (show bQ.lh7 F ah [] 0 tm H = some r from h0)
    cases h
   ·obtain ⟨fa, fh, cK, fS, fO, fb, hks, e1, e2, e3, e10, e11, h⟩ := bQ.lh7_inv (show bQ.lh7 F ah [] (k7 + 1) tm H = some r from h0)
    have q0 : (Tm.put tm 1 (.int .i64 fa)) = tm := by exact Tm.put_same e1
    have q1 : (Tm.put (Tm.put tm 1 (.int .i64 fa)) 2 (.int .i64 fh)) = tm := by rw [q0]; exact Tm.put_same e2
    have q2 : (Tm.put (Tm.put (Tm.put tm 1 (.int .i64 fa)) 2 (.int .i64 fh)) 3 (.ptr cK fS)) = tm := by rw [q1]; exact Tm.put_same e3
    have q3 : (Tm.put (Tm.put (Tm.put (Tm.put tm 1 (.int .i64 fa)) 2 (.int .i64 fh)) 3 (.ptr cK fS)) 10 (.int .i64 fO)) = tm := by rw [q2]; exact Tm.put_same e10
    have q4 : (Tm.put (Tm.put (Tm.put (Tm.put (Tm.put tm 1 (.int .i64 fa)) 2 (.int .i64 fh)) 3 (.ptr cK fS)) 10 (.int .i64 fO)) 11 (.int .i64 fb)) = tm := by rw [q3]; exact Tm.put_same e11
    rw [← q4]
    exact Eq.trans (by kernel_rfl) h
   ·exact loops_none (by kernel_rfl)
theorem bQ.eqX (F : Nat) (ah : Int → Int → Sl → Int → Int → Hp → OA) (aa : Int) (ac : Int) (ak : Sl) (af : Int) (bh : Int) (H : Hp) : aCode tabs (mkOrc (bQ.cs F ah)) bQ.pn (bQ.lh F ah) F [] 1 bQ.code (argTm [(.agg [(.int .i64 aa), (.int .i64 ac), (.sl ak)]), (.int .i64 af), (.int .i64 bh)]) H (fun tm H => aresults tabs.ty H tm Try.f151.results.toList fun v => some (v, H)) (fun _ _ _ => none) (fun tm H => aresults tabs.ty H tm Try.f151.results.toList fun v => some (v, H)) = bQ.twX F ah aa ac ak af bh H := by kernel_rfl
theorem bQ.cs_ok (F : Nat) : ∀ p ∈ bQ.cs F (aO.tw F), ∀ args H v H', p.2 args H = some (v, H') → Go.AE.T Try.prog p.1 args H v H' := by
 intro p hp
 simp only [bQ.cs, List.mem_cons, List.not_mem_nil, or_false] at hp
 subst hp
 exact fun args H v H' h => aO.mk_T h
theorem bQ.ok : codeOk bQ.pn Try.f151.ntmps bQ.tb bQ.code = true := by kernel_rfl
theorem bQ.T {F : Nat} {aa : Int} {ac : Int} {ak : Sl} {af : Int} {bh : Int} {H : Hp} {v : AV} {H' : Hp} (h : bQ.tw F aa ac ak af bh H = some (v, H')) : Go.AE.T Try.prog 151 [(.agg [(.int .i64 aa), (.int .i64 ac), (.sl ak)]), (.int .i64 af), (.int .i64 bh)] H v H' :=
 Go.AE.T.of (Y := tabs) (C := mkOrc (bQ.cs F (aO.tw F))) (PN := bQ.pn) (LH := bQ.lh F (aO.tw F)) (F := F) (TB := bQ.tb) (fn := Try.f151) (code := bQ.code) mixed tabs_ok (mkOrc_ok (bQ.cs_ok F)) Try.func151 (by kernel_rfl) (by kernel_rfl) bQ.ok (Nat.le_of_ble_eq_true (by kernel_rfl)) (bQ.loops F (aO.tw F)) (Eq.trans (bQ.eqX F (aO.tw F) aa ac ak af bh H) h)
theorem bQ.mk_T {F : Nat} {args : List AV} {H : Hp} {v : AV} {H' : Hp} (h : bQ.mk (bQ.tw F) args H = some (v, H')) : Go.AE.T Try.prog 151 args H v H' := by
 unfold bQ.mk at h
 split at h
 ·exact bQ.T h
 ·cases h
noncomputable def bR.l7 (F : Nat) (ah : Int → Int → Sl → Int → Int → Hp → OA)  : Nat → Int → Int → Nat → Nat → Int → Int → Hp → OA
 | 0, _, _, _, _, _, _, _ => none
 | kk + 1, fa, fh, cK, fS, fO, fb, H17 => (bif (decide (fb < fO)) then ((Hp.ldI H17 .i64 cK fS).bind fun n32 => (Hp.ldI H17 .i64 cK (fS + 1)).bind fun n33 => (Hp.ldSl H17 cK (fS + 2)).bind fun s34 => (ah n32 n33 s34 fb fa H17).bind fun r35 => ((r35.1).asP).bind fun p36 => (if Cons H17 r35.2 then ((Hp.ldI r35.2 .i64 cK fS).bind fun n37 => (Hp.ldI r35.2 .i64 cK (fS + 1)).bind fun n38 => (Hp.ldSl r35.2 cK (fS + 2)).bind fun s39 => (ah n37 n38 s39 fb fh r35.2).bind fun r40 => ((r40.1).asP).bind fun p41 => (Hp.ldI r40.2 .i64 p41.1 p41.2).bind fun n42 => (Hp.ldI r40.2 .i64 p36.1 p36.2).bind fun n43 => (Hp.st r40.2 p36.1 p36.2 (.int .i64 n42)).bind fun H44 => (Hp.st H44 p41.1 p41.2 (.int .i64 n43)).bind fun H45 => bR.l7 F ah kk fa fh cK fS fO (IntKind.i64.wrap (fb + 1)) H45) else none)) else (some ((.tup []), H17)))
termination_by structural n => n
noncomputable def bR.twX (F : Nat) (ah : Int → Int → Sl → Int → Int → Hp → OA) (aa : Int) (ac : Int) (ak : Sl) (af : Int) (bh : Int) (H : Hp) : OA := (Hp.new H [(.int .i64 aa), (.int .i64 ac), (.sl ak)]).bind fun H6 => (Hp.ldI H6 .i64 H.length 0).bind fun n7 => bR.l7 F ah F af bh H.length 0 n7 0 H6
noncomputable def bR.tw (F : Nat) (aa : Int) (ac : Int) (ak : Sl) (af : Int) (bh : Int) (H : Hp) : OA := bR.twX F (aO.tw F) aa ac ak af bh H
noncomputable def bR.code : Go.Code := (Try.f152.body).getD .skip
noncomputable def bR.lh7 (F : Nat) (ah : Int → Int → Sl → Int → Int → Hp → OA) (ks : List Nat) (n : Nat) (tm : Tm) (H : Hp) : OA := match ks, tm 1, tm 2, tm 3, tm 10, tm 11 with
 | [], (.int .i64 fa), (.int .i64 fh), (.ptr cK fS), (.int .i64 fO), (.int .i64 fb) => bR.l7 F ah n fa fh cK fS fO fb H
 | _, _, _, _, _, _ => none
theorem bR.lh7_inv {F : Nat} {ah : Int → Int → Sl → Int → Int → Hp → OA} {ks : List Nat} {n : Nat} {tm : Tm} {H : Hp} {r : AV × Hp} (h : bR.lh7 F ah ks n tm H = some r) : ∃ fa : Int, ∃ fh : Int, ∃ cK : Nat, ∃ fS : Nat, ∃ fO : Int, ∃ fb : Int, ks = [] ∧ tm 1 = (.int .i64 fa) ∧ tm 2 = (.int .i64 fh) ∧ tm 3 = (.ptr cK fS) ∧ tm 10 = (.int .i64 fO) ∧ tm 11 = (.int .i64 fb) ∧ bR.l7 F ah n fa fh cK fS fO fb H = some r := by
 unfold bR.lh7 at h
 split at h
 ·exact ⟨_, _, _, _, _, _, rfl, by assumption, by assumption, by assumption, by assumption, by assumption, h⟩
 ·cases h
noncomputable def bR.lh (F : Nat) (ah : Int → Int → Sl → Int → Int → Hp → OA) (p : Nat) (ks : List Nat) (n : Nat) (tm : Tm) (H : Hp) : OA := bif p.beq 7 then bR.lh7 F ah ks n tm H else (none)
def bR.pn : Nat → List Nat := fun i => (([(4, [7]), (5, [9, 11])] : List (Nat × List Nat)).lookup i).getD []
def bR.tb : Nat → List (List Nat) := fun i => (([(4, [[], [], [], [0, 1, 2], [], [], [], [0, 1, 2, 3, 4, 5, 6], [0, 1, 2, 3, 4, 5, 6, 7], [0, 1, 2, 3, 4, 5, 6, 7, 8]]), (5, [[], [], [], [2], [2, 3], [], [5], [5, 6], [0, 2, 3, 4, 5, 6, 7], [0, 2, 3, 4, 5, 6, 7, 8], [0, 1, 2, 3, 4, 5, 6, 7, 8, 9], [0, 1, 2, 3, 4, 5, 6, 7, 8, 9, 10]])] : List (Nat × List (List Nat))).lookup i).getD []
noncomputable def bR.mk (g : Int → Int → Sl → Int → Int → Hp → OA) (args : List AV) (H : Hp) : OA := match args with
 | [(.agg [(.int .i64 aa), (.int .i64 ac), (.sl ak)]), (.int .i64 af), (.int .i64 bh)] => g aa ac ak af bh H
 | _ => none
noncomputable def bR.cs (F : Nat) (ah : Int → Int → Sl → Int → Int → Hp → OA) : List (FuncId × (List AV → Hp → OA)) := [(95, aO.mk ah)]
theorem bR.loops (F : Nat) (ah : Int → Int → Sl → Int → Int → Hp → OA) : LoopsOk tabs (mkOrc (bR.cs F ah)) bR.pn (bR.lh F ah) F [] 1 bR.code (fun tm H => aresults tabs.ty H tm Try.f152.results.toList fun v => some (v, H)) (fun _ _ _ => none) (fun tm H => aresults tabs.ty H tm Try.f152.results.toList fun v => some (v, H)) := by
 refine LoopsOk.seq ?_ ?_
 ·exact loops_none (by kernel_rfl)
 ·refine LoopsOk.seq ?_ ?_
  ·exact loops_none (by kernel_rfl)
  ·refine LoopsOk.block ?_
   refine LoopsOk.loop (fun tm H => ?_) (fun k7 tm H r h0 => ?_) (fun k7 => ?_)
   ·refine none_of fun r h0 => ?_
    obtain ⟨fa, fh, cK, fS, fO, fb, hks, e1, e2, e3, e10, e11, h⟩ := bR.lh7_inv (show bR.lh7 F ah [] 0 tm H = some r from h0)
    cases h
   ·obtain ⟨fa, fh, cK, fS, fO, fb, hks, e1, e2, e3, e10, e11, h⟩ := bR.lh7_inv (show bR.lh7 F ah [] (k7 + 1) tm H = some r from h0)
    have q0 : (Tm.put tm 1 (.int .i64 fa)) = tm := by exact Tm.put_same e1
    have q1 : (Tm.put (Tm.put tm 1 (.int .i64 fa)) 2 (.int .i64 fh)) = tm := by rw [q0]; exact Tm.put_same e2
    have q2 : (Tm.put (Tm.put (Tm.put tm 1 (.int .i64 fa)) 2 (.int .i64 fh)) 3 (.ptr cK fS)) = tm := by rw [q1]; exact Tm.put_same e3
    have q3 : (Tm.put (Tm.put (Tm.put (Tm.put tm 1 (.int .i64 fa)) 2 (.int .i64 fh)) 3 (.ptr cK fS)) 10 (.int .i64 fO)) = tm := by rw [q2]; exact Tm.put_same e10
    have q4 : (Tm.put (Tm.put (Tm.put (Tm.put (Tm.put tm 1 (.int .i64 fa)) 2 (.int .i64 fh)) 3 (.ptr cK fS)) 10 (.int .i64 fO)) 11 (.int .i64 fb)) = tm := by rw [q3]; exact Tm.put_same e11
    rw [← q4]
    exact Eq.trans (by kernel_rfl) h
   ·exact loops_none (by kernel_rfl)
theorem bR.eqX (F : Nat) (ah : Int → Int → Sl → Int → Int → Hp → OA) (aa : Int) (ac : Int) (ak : Sl) (af : Int) (bh : Int) (H : Hp) : aCode tabs (mkOrc (bR.cs F ah)) bR.pn (bR.lh F ah) F [] 1 bR.code (argTm [(.agg [(.int .i64 aa), (.int .i64 ac), (.sl ak)]), (.int .i64 af), (.int .i64 bh)]) H (fun tm H => aresults tabs.ty H tm Try.f152.results.toList fun v => some (v, H)) (fun _ _ _ => none) (fun tm H => aresults tabs.ty H tm Try.f152.results.toList fun v => some (v, H)) = bR.twX F ah aa ac ak af bh H := by kernel_rfl
theorem bR.cs_ok (F : Nat) : ∀ p ∈ bR.cs F (aO.tw F), ∀ args H v H', p.2 args H = some (v, H') → Go.AE.T Try.prog p.1 args H v H' := by
 intro p hp
 simp only [bR.cs, List.mem_cons, List.not_mem_nil, or_false] at hp
 subst hp
 exact fun args H v H' h => aO.mk_T h
theorem bR.ok : codeOk bR.pn Try.f152.ntmps bR.tb bR.code = true := by kernel_rfl
theorem bR.T {F : Nat} {aa : Int} {ac : Int} {ak : Sl} {af : Int} {bh : Int} {H : Hp} {v : AV} {H' : Hp} (h : bR.tw F aa ac ak af bh H = some (v, H')) : Go.AE.T Try.prog 152 [(.agg [(.int .i64 aa), (.int .i64 ac), (.sl ak)]), (.int .i64 af), (.int .i64 bh)] H v H' :=
 Go.AE.T.of (Y := tabs) (C := mkOrc (bR.cs F (aO.tw F))) (PN := bR.pn) (LH := bR.lh F (aO.tw F)) (F := F) (TB := bR.tb) (fn := Try.f152) (code := bR.code) mixed tabs_ok (mkOrc_ok (bR.cs_ok F)) Try.func152 (by kernel_rfl) (by kernel_rfl) bR.ok (Nat.le_of_ble_eq_true (by kernel_rfl)) (bR.loops F (aO.tw F)) (Eq.trans (bR.eqX F (aO.tw F) aa ac ak af bh H) h)
theorem bR.mk_T {F : Nat} {args : List AV} {H : Hp} {v : AV} {H' : Hp} (h : bR.mk (bR.tw F) args H = some (v, H')) : Go.AE.T Try.prog 152 args H v H' := by
 unfold bR.mk at h
 split at h
 ·exact bR.T h
 ·cases h
noncomputable def cy.twX (F : Nat) (aa : Int) (ac : Int) (ak : Sl) (af : Int) (H : Hp) : OA := (Hp.new H [(.int .i64 aa), (.int .i64 ac), (.sl ak)]).bind fun H5 => (Hp.ldSl H5 H.length 2).bind fun s6 => (Hp.ldI H5 .i64 H.length 1).bind fun n7 => (Hp.ldI H5 .i64 H.length 1).bind fun n8 => (Sl.cut s6 1 (IntKind.i64.wrap (af * n7)) (IntKind.i64.wrap ((IntKind.i64.wrap (af + 1)) * n8))).bind fun s9 => some ((.sl s9), H5)
noncomputable def cy.tw (F : Nat) (aa : Int) (ac : Int) (ak : Sl) (af : Int) (H : Hp) : OA := cy.twX F aa ac ak af H
noncomputable def cy.code : Go.Code := (Try.f120.body).getD .skip
noncomputable def cy.lh (F : Nat) (p : Nat) (ks : List Nat) (n : Nat) (tm : Tm) (H : Hp) : OA := none
def cy.pn : Nat → List Nat := fun i => (([] : List (Nat × List Nat)).lookup i).getD []
def cy.tb : Nat → List (List Nat) := fun i => (([] : List (Nat × List (List Nat))).lookup i).getD []
noncomputable def cy.mk (g : Int → Int → Sl → Int → Hp → OA) (args : List AV) (H : Hp) : OA := match args with
 | [(.agg [(.int .i64 aa), (.int .i64 ac), (.sl ak)]), (.int .i64 af)] => g aa ac ak af H
 | _ => none
noncomputable def cy.cs (F : Nat) : List (FuncId × (List AV → Hp → OA)) := []
theorem cy.loops (F : Nat) : LoopsOk tabs (mkOrc (cy.cs F)) cy.pn (cy.lh F) F [] 1 cy.code (fun tm H => aresults tabs.ty H tm Try.f120.results.toList fun v => some (v, H)) (fun _ _ _ => none) (fun tm H => aresults tabs.ty H tm Try.f120.results.toList fun v => some (v, H)) := by
 exact loops_none (by kernel_rfl)
theorem cy.eqX (F : Nat) (aa : Int) (ac : Int) (ak : Sl) (af : Int) (H : Hp) : aCode tabs (mkOrc (cy.cs F)) cy.pn (cy.lh F) F [] 1 cy.code (argTm [(.agg [(.int .i64 aa), (.int .i64 ac), (.sl ak)]), (.int .i64 af)]) H (fun tm H => aresults tabs.ty H tm Try.f120.results.toList fun v => some (v, H)) (fun _ _ _ => none) (fun tm H => aresults tabs.ty H tm Try.f120.results.toList fun v => some (v, H)) = cy.twX F aa ac ak af H := by kernel_rfl
theorem cy.cs_ok (F : Nat) : ∀ p ∈ cy.cs F, ∀ args H v H', p.2 args H = some (v, H') → Go.AE.T Try.prog p.1 args H v H' := by
 intro p hp
 exact absurd (show p ∈ [] from hp) List.not_mem_nil
theorem cy.ok : codeOk cy.pn Try.f120.ntmps cy.tb cy.code = true := by kernel_rfl
theorem cy.T {F : Nat} {aa : Int} {ac : Int} {ak : Sl} {af : Int} {H : Hp} {v : AV} {H' : Hp} (h : cy.tw F aa ac ak af H = some (v, H')) : Go.AE.T Try.prog 120 [(.agg [(.int .i64 aa), (.int .i64 ac), (.sl ak)]), (.int .i64 af)] H v H' :=
 Go.AE.T.of (Y := tabs) (C := mkOrc (cy.cs F)) (PN := cy.pn) (LH := cy.lh F) (F := F) (TB := cy.tb) (fn := Try.f120) (code := cy.code) mixed tabs_ok (mkOrc_ok (cy.cs_ok F)) Try.func120 (by kernel_rfl) (by kernel_rfl) cy.ok (Nat.le_of_ble_eq_true (by kernel_rfl)) (cy.loops F) (Eq.trans (cy.eqX F aa ac ak af H) h)
theorem cy.mk_T {F : Nat} {args : List AV} {H : Hp} {v : AV} {H' : Hp} (h : cy.mk (cy.tw F) args H = some (v, H')) : Go.AE.T Try.prog 120 args H v H' := by
 unfold cy.mk at h
 split at h
 ·exact cy.T h
 ·cases h
noncomputable def aW.l32747 (F : Nat) (eE : Nat → Nat → Int → Hp → OA) (et : Int → Int → Sl → Int → Int → Hp → OA) (eu : Int → Int → Sl → Int → Int → Hp → OA) (ah : Int → Int → Sl → Int → Int → Hp → OA) (bO : Int → Int → Sl → Int → Hp → OA)  : Nat → Nat → Nat → Int → Int → Int → Hp → OA
 | 0, _, _, _, _, _, _ => none
 | zd + 1, jR, jS, iH, jw, iI, H159 => (bif (decide (iI < jw)) then ((Hp.ldI H159 .i64 jR (jS + 3)).bind fun n172 => (Hp.ldI H159 .i64 jR ((jS + 3) + 1)).bind fun n173 => (Hp.ldSl H159 jR ((jS + 3) + 2)).bind fun s174 => (ah n172 n173 s174 iI iH H159).bind fun r175 => ((r175.1).asP).bind fun p176 => (if Cons H159 r175.2 then ((Hp.ldI r175.2 .i64 jR (jS + 3)).bind fun n177 => (Hp.ldI r175.2 .i64 jR ((jS + 3) + 1)).bind fun n178 => (Hp.ldSl r175.2 jR ((jS + 3) + 2)).bind fun s179 => (ah n177 n178 s179 iI iH r175.2).bind fun r180 => ((r180.1).asP).bind fun p181 => (Hp.ldI r180.2 .i64 p181.1 p181.2).bind fun n182 => (Hp.st r180.2 p176.1 p176.2 (.int .i64 (IntKind.i64.wrap (0 - n182)))).bind fun H183 => aW.l32747 F eE et eu ah bO zd jR jS iH jw (IntKind.i64.wrap (iI + 1)) H183) else none)) else (some ((.bool true), H159)))
termination_by structural n => n
noncomputable def aW.j3 (F : Nat) (eE : Nat → Nat → Int → Hp → OA) (et : Int → Int → Sl → Int → Int → Hp → OA) (eu : Int → Int → Sl → Int → Int → Hp → OA) (ah : Int → Int → Sl → Int → Int → Hp → OA) (bO : Int → Int → Sl → Int → Hp → OA) (vj : Nat) (vk : Nat) (oC : Int) (H142 : Hp) : OA := (Hp.ldI H142 .i64 vj (vk + 3)).bind fun n143 => aW.l32747 F eE et eu ah bO F vj vk oC n143 0 H142
noncomputable def aW.j4 (F : Nat) (eE : Nat → Nat → Int → Hp → OA) (et : Int → Int → Sl → Int → Int → Hp → OA) (eu : Int → Int → Sl → Int → Int → Hp → OA) (ah : Int → Int → Sl → Int → Int → Hp → OA) (bO : Int → Int → Sl → Int → Hp → OA) (C32745_ : Nat → Nat → Int → Sl → Int → Int → Hp → OA) (ze : Nat) (zf : Nat) (zg : Int) (zh : Sl) (zi : Int) (zj : Int) (H242 : Hp) : OA := C32745_ ze zf zg zh zi (IntKind.i64.wrap (zj + 1)) H242
noncomputable def aW.j5 (F : Nat) (eE : Nat → Nat → Int → Hp → OA) (et : Int → Int → Sl → Int → Int → Hp → OA) (eu : Int → Int → Sl → Int → Int → Hp → OA) (ah : Int → Int → Sl → Int → Int → Hp → OA) (bO : Int → Int → Sl → Int → Hp → OA) (C32745_ : Nat → Nat → Int → Sl → Int → Int → Hp → OA) (zk : Nat) (zl : Nat) (zm : Int) (zn : Sl) (zo : Int) (zp : Int) (H224 : Hp) : OA := aW.j4 F eE et eu ah bO C32745_ zk zl zm zn zo zp H224
noncomputable def aW.l2095707 (F : Nat) (eE : Nat → Nat → Int → Hp → OA) (et : Int → Int → Sl → Int → Int → Hp → OA) (eu : Int → Int → Sl → Int → Int → Hp → OA) (ah : Int → Int → Sl → Int → Int → Hp → OA) (bO : Int → Int → Sl → Int → Hp → OA) (C32745_ : Nat → Nat → Int → Sl → Int → Int → Hp → OA) : Nat → Nat → Nat → Int → Sl → Int → Int → Sl → Int → Int → Hp → OA
 | 0, _, _, _, _, _, _, _, _, _, _ => none
 | zq + 1, jW, jX, kg, kv, kC, kL, kh, lg, kM, H202 => (bif (decide (kM < lg)) then ((Sl.idx kh kM 1).bind fun p243 => (Hp.ldI H202 .i64 p243.1 p243.2).bind fun n244 => (Sl.idx kh kM 1).bind fun p245 => (Hp.st H202 p245.1 p245.2 (.int .i64 (IntKind.i64.wrap (0 - n244)))).bind fun H246 => aW.l2095707 F eE et eu ah bO C32745_ zq jW jX kg kv kC kL kh lg (IntKind.i64.wrap (kM + 1)) H246) else (aW.j5 F eE et eu ah bO C32745_ jW jX kg kv kC kL H202))
termination_by structural n => n
noncomputable def aW.l32745 (F : Nat) (eE : Nat → Nat → Int → Hp → OA) (et : Int → Int → Sl → Int → Int → Hp → OA) (eu : Int → Int → Sl → Int → Int → Hp → OA) (ah : Int → Int → Sl → Int → Int → Hp → OA) (bO : Int → Int → Sl → Int → Hp → OA)  : Nat → Nat → Nat → Int → Sl → Int → Int → Hp → OA
 | 0, _, _, _, _, _, _, _ => none
 | lR + 1, gl, gm, fq, kN, li, lj, H65 => (bif (decide (lj < li)) then ((Sl.idx kN lj 1).bind fun p184 => (Hp.ldSl H65 p184.1 p184.2).bind fun s185 => aW.l2095707 F eE et eu ah bO (aW.l32745 F eE et eu ah bO lR) F gl gm fq kN li lj s185 (s185.n : Int) 0 H65) else (aW.j3 F eE et eu ah bO gl gm fq H65))
termination_by structural n => n
noncomputable def aW.twX (F : Nat) (eE : Nat → Nat → Int → Hp → OA) (et : Int → Int → Sl → Int → Int → Hp → OA) (eu : Int → Int → Sl → Int → Int → Hp → OA) (ah : Int → Int → Sl → Int → Int → Hp → OA) (bO : Int → Int → Sl → Int → Hp → OA) (aa : Nat) (ac : Nat) (ae : Int) (H : Hp) : OA := (eE aa ac ae H).bind fun r4 => ((r4.1).asTup 3).bind fun l5 => (l5[0]?).bind fun v6 => ((v6).asI .i64).bind fun n7 => (l5[1]?).bind fun v8 => ((v8).asI .i64).bind fun n9 => (l5[2]?).bind fun v10 => ((v10).asB).bind fun b11 => (bif (!b11) then (some ((.bool false), r4.2)) else ((Hp.ldI r4.2 .i64 aa (ac + 6)).bind fun n12 => (Hp.ldI r4.2 .i64 aa ((ac + 6) + 1)).bind fun n13 => (Hp.ldSl r4.2 aa ((ac + 6) + 2)).bind fun s14 => (et n12 n13 s14 n7 ae r4.2).bind fun r15 => (Hp.ldI r15.2 .i64 aa ac).bind fun n16 => (Hp.ldI r15.2 .i64 aa (ac + 1)).bind fun n17 => (Hp.ldSl r15.2 aa (ac + 2)).bind fun s18 => (et n16 n17 s18 n7 ae r15.2).bind fun r19 => (Hp.ldI r19.2 .i64 aa (ac + 3)).bind fun n20 => (Hp.ldI r19.2 .i64 aa ((ac + 3) + 1)).bind fun n21 => (Hp.ldSl r19.2 aa ((ac + 3) + 2)).bind fun s22 => (eu n20 n21 s22 n7 ae r19.2).bind fun r23 => (Hp.ldI r23.2 .i64 aa (ac + 6)).bind fun n24 => (Hp.ldI r23.2 .i64 aa ((ac + 6) + 1)).bind fun n25 => (Hp.ldSl r23.2 aa ((ac + 6) + 2)).bind fun s26 => (eu n24 n25 s26 n9 ae r23.2).bind fun r27 => (Hp.ldI r27.2 .i64 aa (ac + 9)).bind fun n28 => (Hp.ldI r27.2 .i64 aa ((ac + 9) + 1)).bind fun n29 => (Hp.ldSl r27.2 aa ((ac + 9) + 2)).bind fun s30 => (eu n28 n29 s30 n9 ae r27.2).bind fun r31 => (Hp.ldI r31.2 .i64 aa (ac + 12)).bind fun n32 => (Hp.ldI r31.2 .i64 aa ((ac + 12) + 1)).bind fun n33 => (Hp.ldSl r31.2 aa ((ac + 12) + 2)).bind fun s34 => (et n32 n33 s34 n9 ae r31.2).bind fun r35 => (Hp.ldI r35.2 .i64 aa (ac + 6)).bind fun n36 => (Hp.ldI r35.2 .i64 aa ((ac + 6) + 1)).bind fun n37 => (Hp.ldSl r35.2 aa ((ac + 6) + 2)).bind fun s38 => (ah n36 n37 s38 ae ae r35.2).bind fun r39 => ((r39.1).asP).bind fun p40 => (Hp.ldI r39.2 .i64 p40.1 p40.2).bind fun n41 => (bif (decide (n41 < 0)) then ((Hp.ldI r39.2 .i64 aa (ac + 6)).bind fun n42 => (Hp.ldI r39.2 .i64 aa ((ac + 6) + 1)).bind fun n43 => (Hp.ldSl r39.2 aa ((ac + 6) + 2)).bind fun s44 => (bO n42 n43 s44 ae r39.2).bind fun r45 => ((r45.1).asSl).bind fun s46 => (if Cons r39.2 r45.2 then ((Hp.ldI r45.2 .i64 aa ac).bind fun n47 => (Hp.ldI r45.2 .i64 aa (ac + 1)).bind fun n48 => (Hp.ldSl r45.2 aa (ac + 2)).bind fun s49 => (bO n47 n48 s49 ae r45.2).bind fun r50 => ((r50.1).asSl).bind fun s51 => (Hp.new r50.2 [(.sl s46), (.sl s51)]).bind fun H52 => aW.l32745 F eE et eu ah bO F aa ac ae (⟨some (r50.2.length, 0), 2, .ex 2⟩ : Sl) ((⟨some (r50.2.length, 0), 2, .ex 2⟩ : Sl).n : Int) 0 H52) else none)) else (some ((.bool true), r39.2)))))
noncomputable def aW.tw (F : Nat) (aa : Nat) (ac : Nat) (ae : Int) (H : Hp) : OA := aW.twX F (aI.tw F) (bQ.tw F) (bR.tw F) (aO.tw F) (cy.tw F) aa ac ae H
noncomputable def aW.code : Go.Code := (Try.f133.body).getD .skip
noncomputable def aW.lh32745 (F : Nat) (eE : Nat → Nat → Int → Hp → OA) (et : Int → Int → Sl → Int → Int → Hp → OA) (eu : Int → Int → Sl → Int → Int → Hp → OA) (ah : Int → Int → Sl → Int → Int → Hp → OA) (bO : Int → Int → Sl → Int → Hp → OA) (ks : List Nat) (n : Nat) (tm : Tm) (H : Hp) : OA := match ks, tm 0, tm 1, tm 94, tm 95, tm 96 with
 | [], (.ptr gl gm), (.int .i64 fq), (.sl kN), (.int .i64 li), (.int .i64 lj) => aW.l32745 F eE et eu ah bO n gl gm fq kN li lj H
 | _, _, _, _, _, _ => none
theorem aW.lh32745_inv {F : Nat} {eE : Nat → Nat → Int → Hp → OA} {et : Int → Int → Sl → Int → Int → Hp → OA} {eu : Int → Int → Sl → Int → Int → Hp → OA} {ah : Int → Int → Sl → Int → Int → Hp → OA} {bO : Int → Int → Sl → Int → Hp → OA} {ks : List Nat} {n : Nat} {tm : Tm} {H : Hp} {r : AV × Hp} (h : aW.lh32745 F eE et eu ah bO ks n tm H = some r) : ∃ gl : Nat, ∃ gm : Nat, ∃ fq : Int, ∃ kN : Sl, ∃ li : Int, ∃ lj : Int, ks = [] ∧ tm 0 = (.ptr gl gm) ∧ tm 1 = (.int .i64 fq) ∧ tm 94 = (.sl kN) ∧ tm 95 = (.int .i64 li) ∧ tm 96 = (.int .i64 lj) ∧ aW.l32745 F eE et eu ah bO n gl gm fq kN li lj H = some r := by
 unfold aW.lh32745 at h
 split at h
 ·exact ⟨_, _, _, _, _, _, rfl, by assumption, by assumption, by assumption, by assumption, by assumption, h⟩
 ·cases h
noncomputable def aW.lh32747 (F : Nat) (eE : Nat → Nat → Int → Hp → OA) (et : Int → Int → Sl → Int → Int → Hp → OA) (eu : Int → Int → Sl → Int → Int → Hp → OA) (ah : Int → Int → Sl → Int → Int → Hp → OA) (bO : Int → Int → Sl → Int → Hp → OA) (ks : List Nat) (n : Nat) (tm : Tm) (H : Hp) : OA := match ks, tm 0, tm 1, tm 120, tm 121 with
 | [], (.ptr jR jS), (.int .i64 iH), (.int .i64 jw), (.int .i64 iI) => aW.l32747 F eE et eu ah bO n jR jS iH jw iI H
 | _, _, _, _, _ => none
theorem aW.lh32747_inv {F : Nat} {eE : Nat → Nat → Int → Hp → OA} {et : Int → Int → Sl → Int → Int → Hp → OA} {eu : Int → Int → Sl → Int → Int → Hp → OA} {ah : Int → Int → Sl → Int → Int → Hp → OA} {bO : Int → Int → Sl → Int → Hp → OA} {ks : List Nat} {n : Nat} {tm : Tm} {H : Hp} {r : AV × Hp} (h : aW.lh32747 F eE et eu ah bO ks n tm H = some r) : ∃ jR : Nat, ∃ jS : Nat, ∃ iH : Int, ∃ jw : Int, ∃ iI : Int, ks = [] ∧ tm 0 = (.ptr jR jS) ∧ tm 1 = (.int .i64 iH) ∧ tm 120 = (.int .i64 jw) ∧ tm 121 = (.int .i64 iI) ∧ aW.l32747 F eE et eu ah bO n jR jS iH jw iI H = some r := by
 unfold aW.lh32747 at h
 split at h
 ·exact ⟨_, _, _, _, _, rfl, by assumption, by assumption, by assumption, by assumption, h⟩
 ·cases h
noncomputable def aW.lh2095707 (F : Nat) (eE : Nat → Nat → Int → Hp → OA) (et : Int → Int → Sl → Int → Int → Hp → OA) (eu : Int → Int → Sl → Int → Int → Hp → OA) (ah : Int → Int → Sl → Int → Int → Hp → OA) (bO : Int → Int → Sl → Int → Hp → OA) (ks : List Nat) (n : Nat) (tm : Tm) (H : Hp) : OA := match ks, tm 0, tm 1, tm 9, tm 94, tm 95, tm 96, tm 101, tm 102 with
 | [lR], (.ptr jW jX), (.int .i64 kg), (.sl kh), (.sl kv), (.int .i64 kC), (.int .i64 kL), (.int .i64 lg), (.int .i64 kM) => aW.l2095707 F eE et eu ah bO (aW.l32745 F eE et eu ah bO lR) n jW jX kg kv kC kL kh lg kM H
 | _, _, _, _, _, _, _, _, _ => none
theorem aW.lh2095707_inv {F : Nat} {eE : Nat → Nat → Int → Hp → OA} {et : Int → Int → Sl → Int → Int → Hp → OA} {eu : Int → Int → Sl → Int → Int → Hp → OA} {ah : Int → Int → Sl → Int → Int → Hp → OA} {bO : Int → Int → Sl → Int → Hp → OA} {ks : List Nat} {n : Nat} {tm : Tm} {H : Hp} {r : AV × Hp} (h : aW.lh2095707 F eE et eu ah bO ks n tm H = some r) : ∃ lR : Nat, ∃ jW : Nat, ∃ jX : Nat, ∃ kg : Int, ∃ kh : Sl, ∃ kv : Sl, ∃ kC : Int, ∃ kL : Int, ∃ lg : Int, ∃ kM : Int, ks = [lR] ∧ tm 0 = (.ptr jW jX) ∧ tm 1 = (.int .i64 kg) ∧ tm 9 = (.sl kh) ∧ tm 94 = (.sl kv) ∧ tm 95 = (.int .i64 kC) ∧ tm 96 = (.int .i64 kL) ∧ tm 101 = (.int .i64 lg) ∧ tm 102 = (.int .i64 kM) ∧ aW.l2095707 F eE et eu ah bO (aW.l32745 F eE et eu ah bO lR) n jW jX kg kv kC kL kh lg kM H = some r := by
 unfold aW.lh2095707 at h
 split at h
 ·exact ⟨_, _, _, _, _, _, _, _, _, _, rfl, by assumption, by assumption, by assumption, by assumption, by assumption, by assumption, by assumption, by assumption, h⟩
 ·cases h
noncomputable def aW.lh (F : Nat) (eE : Nat → Nat → Int → Hp → OA) (et : Int → Int → Sl → Int → Int → Hp → OA) (eu : Int → Int → Sl → Int → Int → Hp → OA) (ah : Int → Int → Sl → Int → Int → Hp → OA) (bO : Int → Int → Sl → Int → Hp → OA) (p : Nat) (ks : List Nat) (n : Nat) (tm : Tm) (H : Hp) : OA := bif p.beq 2095707 then aW.lh2095707 F eE et eu ah bO ks n tm H else (bif p.beq 32747 then aW.lh32747 F eE et eu ah bO ks n tm H else (bif p.beq 32745 then aW.lh32745 F eE et eu ah bO ks n tm H else (none)))
def aW.pn : Nat → List Nat := fun i => (([(11, [13]), (23, [15, 20])] : List (Nat × List Nat)).lookup i).getD []
def aW.tb : Nat → List (List Nat) := fun i => (([(11, [[], [0], [0, 1], [0, 1, 2], [0, 1, 2, 3], [], [0, 1, 2, 3, 4, 5], [], [7], [7, 8], [7, 8, 9], [7, 8, 9, 10], [], [0, 1, 2, 3, 4, 5, 6, 7, 8, 9, 10, 11, 12], [0, 1, 2, 3, 4, 5, 6, 7, 8, 9, 10, 11, 12, 13], [0, 1, 2, 3, 4, 5, 6, 7, 8, 9, 10, 11, 12, 13, 14], []]), (23, [[], [0], [0, 1], [0, 1, 2], [0, 1, 2, 3], [], [], [0, 1, 2, 3, 4, 5, 6], [], [8], [8, 9], [8, 9, 10], [8, 9, 10, 11], [], [], [0, 1, 2, 3, 4, 5, 6, 7, 8, 9, 10, 11, 12, 13, 14], [0, 1, 2, 3, 4, 5, 6, 7, 8, 9, 10, 11, 12, 13, 14, 15], [0, 1, 2, 3, 4, 5, 6, 7, 8, 9, 10, 11, 12, 13, 14, 15, 16], [0, 1, 2, 3, 4, 5, 6, 7, 8, 9, 10, 11, 12, 13, 14, 15, 16, 17], [0, 1, 2, 3, 4, 5, 6, 7, 8, 9, 10, 11, 12, 13, 14, 15, 16, 17, 18], [0, 1, 2, 3, 4, 5, 6, 7, 8, 9, 10, 11, 12, 13, 14, 15, 16, 17, 18, 19]])] : List (Nat × List (List Nat))).lookup i).getD []
noncomputable def aW.mk (g : Nat → Nat → Int → Hp → OA) (args : List AV) (H : Hp) : OA := match args with
 | [(.ptr aa ac), (.int .i64 ae)] => g aa ac ae H
 | _ => none
noncomputable def aW.cs (F : Nat) (eE : Nat → Nat → Int → Hp → OA) (et : Int → Int → Sl → Int → Int → Hp → OA) (eu : Int → Int → Sl → Int → Int → Hp → OA) (ah : Int → Int → Sl → Int → Int → Hp → OA) (bO : Int → Int → Sl → Int → Hp → OA) : List (FuncId × (List AV → Hp → OA)) := [(150, aI.mk eE), (151, bQ.mk et), (152, bR.mk eu), (95, aO.mk ah), (120, cy.mk bO)]
theorem aW.loops (F : Nat) (eE : Nat → Nat → Int → Hp → OA) (et : Int → Int → Sl → Int → Int → Hp → OA) (eu : Int → Int → Sl → Int → Int → Hp → OA) (ah : Int → Int → Sl → Int → Int → Hp → OA) (bO : Int → Int → Sl → Int → Hp → OA) : LoopsOk tabs (mkOrc (aW.cs F eE et eu ah bO)) aW.pn (aW.lh F eE et eu ah bO) F [] 1 aW.code (fun tm H => aresults tabs.ty H tm Try.f133.results.toList fun v => some (v, H)) (fun _ _ _ => none) (fun tm H => aresults tabs.ty H tm Try.f133.results.toList fun v => some (v, H)) := by
 refine LoopsOk.seq ?_ ?_
 ·exact loops_none (by kernel_rfl)
 ·refine LoopsOk.seq ?_ ?_
  ·exact loops_none (by kernel_rfl)
  ·refine LoopsOk.seq ?_ ?_
   ·exact loops_none (by kernel_rfl)
   ·refine LoopsOk.seq ?_ ?_
    ·exact loops_none (by kernel_rfl)
    ·refine LoopsOk.seq ?_ ?_
     ·exact loops_none (by kernel_rfl)
     ·refine LoopsOk.seq ?_ ?_
      ·exact loops_none (by kernel_rfl)
      ·refine LoopsOk.seq ?_ ?_
       ·exact loops_none (by kernel_rfl)
       ·refine LoopsOk.seq ?_ ?_
        ·exact loops_none (by kernel_rfl)
        ·refine LoopsOk.seq ?_ ?_
         ·exact loops_none (by kernel_rfl)
         ·refine LoopsOk.seq ?_ ?_
          ·refine LoopsOk.seq ?_ ?_
           ·exact loops_none (by kernel_rfl)
           ·refine LoopsOk.cond ?_ ?_
            ·refine LoopsOk.seq ?_ ?_
             ·refine LoopsOk.seq ?_ ?_
              ·exact loops_none (by kernel_rfl)
              ·refine LoopsOk.block ?_
               refine LoopsOk.loop (fun tm H => ?_) (fun k32745 tm H r h0 => ?_) (fun k32745 => ?_)
               ·refine none_of fun r h0 => ?_
                obtain ⟨gl, gm, fq, kN, li, lj, hks, e0, e1, e94, e95, e96, h⟩ := aW.lh32745_inv (show aW.lh32745 F eE et eu ah bO [] 0 tm H = some r from h0)
                cases h
               ·obtain ⟨gl, gm, fq, kN, li, lj, hks, e0, e1, e94, e95, e96, h⟩ := aW.lh32745_inv (show aW.lh32745 F eE et eu ah bO [] (k32745 + 1) tm H = some r from h0)
                have q0 : (Tm.put tm 0 (.ptr gl gm)) = tm := by exact Tm.put_same e0
                have q1 : (Tm.put (Tm.put tm 0 (.ptr gl gm)) 1 (.int .i64 fq)) = tm := by rw [q0]; exact Tm.put_same e1
                have q2 : (Tm.put (Tm.put (Tm.put tm 0 (.ptr gl gm)) 1 (.int .i64 fq)) 94 (.sl kN)) = tm := by rw [q1]; exact Tm.put_same e94
                have q3 : (Tm.put (Tm.put (Tm.put (Tm.put tm 0 (.ptr gl gm)) 1 (.int .i64 fq)) 94 (.sl kN)) 95 (.int .i64 li)) = tm := by rw [q2]; exact Tm.put_same e95
                have q4 : (Tm.put (Tm.put (Tm.put (Tm.put (Tm.put tm 0 (.ptr gl gm)) 1 (.int .i64 fq)) 94 (.sl kN)) 95 (.int .i64 li)) 96 (.int .i64 lj)) = tm := by rw [q3]; exact Tm.put_same e96
                rw [← q4]
                exact Eq.trans (by kernel_rfl) h
               ·refine LoopsOk.seq ?_ ?_
                ·exact loops_none (by kernel_rfl)
                ·refine LoopsOk.seq ?_ ?_
                 ·exact loops_none (by kernel_rfl)
                 ·refine LoopsOk.seq ?_ ?_
                  ·refine LoopsOk.block ?_
                   refine LoopsOk.seq ?_ ?_
                   ·exact loops_none (by kernel_rfl)
                   ·refine LoopsOk.seq ?_ ?_
                    ·exact loops_none (by kernel_rfl)
                    ·refine LoopsOk.block ?_
                     refine LoopsOk.loop (fun tm H => ?_) (fun k2095707 tm H r h0 => ?_) (fun k2095707 => ?_)
                     ·refine none_of fun r h0 => ?_
                      obtain ⟨lR, jW, jX, kg, kh, kv, kC, kL, lg, kM, hks, e0, e1, e9, e94, e95, e96, e101, e102, h⟩ := aW.lh2095707_inv (show aW.lh2095707 F eE et eu ah bO [k32745] 0 tm H = some r from h0)
                      cases h
                     ·obtain ⟨lR, jW, jX, kg, kh, kv, kC, kL, lg, kM, hks, e0, e1, e9, e94, e95, e96, e101, e102, h⟩ := aW.lh2095707_inv (show aW.lh2095707 F eE et eu ah bO [k32745] (k2095707 + 1) tm H = some r from h0)
                      obtain rfl : lR = k32745 := by simpa [eq_comm] using hks
                      have q0 : (Tm.put tm 0 (.ptr jW jX)) = tm := by exact Tm.put_same e0
                      have q1 : (Tm.put (Tm.put tm 0 (.ptr jW jX)) 1 (.int .i64 kg)) = tm := by rw [q0]; exact Tm.put_same e1
                      have q2 : (Tm.put (Tm.put (Tm.put tm 0 (.ptr jW jX)) 1 (.int .i64 kg)) 9 (.sl kh)) = tm := by rw [q1]; exact Tm.put_same e9
                      have q3 : (Tm.put (Tm.put (Tm.put (Tm.put tm 0 (.ptr jW jX)) 1 (.int .i64 kg)) 9 (.sl kh)) 94 (.sl kv)) = tm := by rw [q2]; exact Tm.put_same e94
                      have q4 : (Tm.put (Tm.put (Tm.put (Tm.put (Tm.put tm 0 (.ptr jW jX)) 1 (.int .i64 kg)) 9 (.sl kh)) 94 (.sl kv)) 95 (.int .i64 kC)) = tm := by rw [q3]; exact Tm.put_same e95
                      have q5 : (Tm.put (Tm.put (Tm.put (Tm.put (Tm.put (Tm.put tm 0 (.ptr jW jX)) 1 (.int .i64 kg)) 9 (.sl kh)) 94 (.sl kv)) 95 (.int .i64 kC)) 96 (.int .i64 kL)) = tm := by rw [q4]; exact Tm.put_same e96
                      have q6 : (Tm.put (Tm.put (Tm.put (Tm.put (Tm.put (Tm.put (Tm.put tm 0 (.ptr jW jX)) 1 (.int .i64 kg)) 9 (.sl kh)) 94 (.sl kv)) 95 (.int .i64 kC)) 96 (.int .i64 kL)) 101 (.int .i64 lg)) = tm := by rw [q5]; exact Tm.put_same e101
                      have q7 : (Tm.put (Tm.put (Tm.put (Tm.put (Tm.put (Tm.put (Tm.put (Tm.put tm 0 (.ptr jW jX)) 1 (.int .i64 kg)) 9 (.sl kh)) 94 (.sl kv)) 95 (.int .i64 kC)) 96 (.int .i64 kL)) 101 (.int .i64 lg)) 102 (.int .i64 kM)) = tm := by rw [q6]; exact Tm.put_same e102
                      rw [← q7]
                      exact Eq.trans (by kernel_rfl) h
                     ·exact loops_none (by kernel_rfl)
                  ·exact loops_none (by kernel_rfl)
             ·refine LoopsOk.seq ?_ ?_
              ·exact loops_none (by kernel_rfl)
              ·refine LoopsOk.block ?_
               refine LoopsOk.loop (fun tm H => ?_) (fun k32747 tm H r h0 => ?_) (fun k32747 => ?_)
               ·refine none_of fun r h0 => ?_
                obtain ⟨jR, jS, iH, jw, iI, hks, e0, e1, e120, e121, h⟩ := aW.lh32747_inv (show aW.lh32747 F eE et eu ah bO [] 0 tm H = some r from h0)
                cases h
               ·obtain ⟨jR, jS, iH, jw, iI, hks, e0, e1, e120, e121, h⟩ := aW.lh32747_inv (show aW.lh32747 F eE et eu ah bO [] (k32747 + 1) tm H = some r from h0)
                have q0 : (Tm.put tm 0 (.ptr jR jS)) = tm := by exact Tm.put_same e0
                have q1 : (Tm.put (Tm.put tm 0 (.ptr jR jS)) 1 (.int .i64 iH)) = tm := by rw [q0]; exact Tm.put_same e1
                have q2 : (Tm.put (Tm.put (Tm.put tm 0 (.ptr jR jS)) 1 (.int .i64 iH)) 120 (.int .i64 jw)) = tm := by rw [q1]; exact Tm.put_same e120
                have q3 : (Tm.put (Tm.put (Tm.put (Tm.put tm 0 (.ptr jR jS)) 1 (.int .i64 iH)) 120 (.int .i64 jw)) 121 (.int .i64 iI)) = tm := by rw [q2]; exact Tm.put_same e121
                rw [← q3]
                exact Eq.trans (by kernel_rfl) h
               ·exact loops_none (by kernel_rfl)
            ·exact loops_none (by kernel_rfl)
          ·exact loops_none (by kernel_rfl)
theorem aW.eqX (F : Nat) (eE : Nat → Nat → Int → Hp → OA) (et : Int → Int → Sl → Int → Int → Hp → OA) (eu : Int → Int → Sl → Int → Int → Hp → OA) (ah : Int → Int → Sl → Int → Int → Hp → OA) (bO : Int → Int → Sl → Int → Hp → OA) (aa : Nat) (ac : Nat) (ae : Int) (H : Hp) : aCode tabs (mkOrc (aW.cs F eE et eu ah bO)) aW.pn (aW.lh F eE et eu ah bO) F [] 1 aW.code (argTm [(.ptr aa ac), (.int .i64 ae)]) H (fun tm H => aresults tabs.ty H tm Try.f133.results.toList fun v => some (v, H)) (fun _ _ _ => none) (fun tm H => aresults tabs.ty H tm Try.f133.results.toList fun v => some (v, H)) = aW.twX F eE et eu ah bO aa ac ae H := by kernel_rfl
theorem aW.cs_ok (F : Nat) : ∀ p ∈ aW.cs F (aI.tw F) (bQ.tw F) (bR.tw F) (aO.tw F) (cy.tw F), ∀ args H v H', p.2 args H = some (v, H') → Go.AE.T Try.prog p.1 args H v H' := by
 intro p hp
 simp only [aW.cs, List.mem_cons, List.not_mem_nil, or_false] at hp
 rcases hp with rfl | rfl | rfl | rfl | rfl
 ·exact fun args H v H' h => aI.mk_T h
 ·exact fun args H v H' h => bQ.mk_T h
 ·exact fun args H v H' h => bR.mk_T h
 ·exact fun args H v H' h => aO.mk_T h
 ·exact fun args H v H' h => cy.mk_T h
theorem aW.ok : codeOk aW.pn Try.f133.ntmps aW.tb aW.code = true := by kernel_rfl
theorem aW.T {F : Nat} {aa : Nat} {ac : Nat} {ae : Int} {H : Hp} {v : AV} {H' : Hp} (h : aW.tw F aa ac ae H = some (v, H')) : Go.AE.T Try.prog 133 [(.ptr aa ac), (.int .i64 ae)] H v H' :=
 Go.AE.T.of (Y := tabs) (C := mkOrc (aW.cs F (aI.tw F) (bQ.tw F) (bR.tw F) (aO.tw F) (cy.tw F))) (PN := aW.pn) (LH := aW.lh F (aI.tw F) (bQ.tw F) (bR.tw F) (aO.tw F) (cy.tw F)) (F := F) (TB := aW.tb) (fn := Try.f133) (code := aW.code) mixed tabs_ok (mkOrc_ok (aW.cs_ok F)) Try.func133 (by kernel_rfl) (by kernel_rfl) aW.ok (Nat.le_of_ble_eq_true (by kernel_rfl)) (aW.loops F (aI.tw F) (bQ.tw F) (bR.tw F) (aO.tw F) (cy.tw F)) (Eq.trans (aW.eqX F (aI.tw F) (bQ.tw F) (bR.tw F) (aO.tw F) (cy.tw F) aa ac ae H) h)
theorem aW.mk_T {F : Nat} {args : List AV} {H : Hp} {v : AV} {H' : Hp} (h : aW.mk (aW.tw F) args H = some (v, H')) : Go.AE.T Try.prog 133 args H v H' := by
 unfold aW.mk at h
 split at h
 ·exact aW.T h
 ·cases h
noncomputable def dv.twX (F : Nat) (aa : Int) (ag : Int) (H : Hp) : OA := (if ag = 0 then none else ((if ag = 0 then none else ((bif (decide ((Int.tmod aa ag) < 0)) then (some ((.int .i64 (IntKind.i64.wrap ((IntKind.i64.wrap (Int.tdiv aa ag)) - 1))), H)) else (some ((.int .i64 (IntKind.i64.wrap (Int.tdiv aa ag))), H)))))))
noncomputable def dv.tw (F : Nat) (aa : Int) (ag : Int) (H : Hp) : OA := dv.twX F aa ag H
noncomputable def dv.code : Go.Code := (Try.f153.body).getD .skip
noncomputable def dv.lh (F : Nat) (p : Nat) (ks : List Nat) (n : Nat) (tm : Tm) (H : Hp) : OA := none
def dv.pn : Nat → List Nat := fun i => (([] : List (Nat × List Nat)).lookup i).getD []
def dv.tb : Nat → List (List Nat) := fun i => (([] : List (Nat × List (List Nat))).lookup i).getD []
noncomputable def dv.mk (g : Int → Int → Hp → OA) (args : List AV) (H : Hp) : OA := match args with
 | [(.int .i64 aa), (.int .i64 ag)] => g aa ag H
 | _ => none
noncomputable def dv.cs (F : Nat) : List (FuncId × (List AV → Hp → OA)) := []
theorem dv.loops (F : Nat) : LoopsOk tabs (mkOrc (dv.cs F)) dv.pn (dv.lh F) F [] 1 dv.code (fun tm H => aresults tabs.ty H tm Try.f153.results.toList fun v => some (v, H)) (fun _ _ _ => none) (fun tm H => aresults tabs.ty H tm Try.f153.results.toList fun v => some (v, H)) := by
 exact loops_none (by kernel_rfl)
theorem dv.eqX (F : Nat) (aa : Int) (ag : Int) (H : Hp) : aCode tabs (mkOrc (dv.cs F)) dv.pn (dv.lh F) F [] 1 dv.code (argTm [(.int .i64 aa), (.int .i64 ag)]) H (fun tm H => aresults tabs.ty H tm Try.f153.results.toList fun v => some (v, H)) (fun _ _ _ => none) (fun tm H => aresults tabs.ty H tm Try.f153.results.toList fun v => some (v, H)) = dv.twX F aa ag H := by kernel_rfl
theorem dv.cs_ok (F : Nat) : ∀ p ∈ dv.cs F, ∀ args H v H', p.2 args H = some (v, H') → Go.AE.T Try.prog p.1 args H v H' := by
 intro p hp
 exact absurd (show p ∈ [] from hp) List.not_mem_nil
theorem dv.ok : codeOk dv.pn Try.f153.ntmps dv.tb dv.code = true := by kernel_rfl
theorem dv.T {F : Nat} {aa : Int} {ag : Int} {H : Hp} {v : AV} {H' : Hp} (h : dv.tw F aa ag H = some (v, H')) : Go.AE.T Try.prog 153 [(.int .i64 aa), (.int .i64 ag)] H v H' :=
 Go.AE.T.of (Y := tabs) (C := mkOrc (dv.cs F)) (PN := dv.pn) (LH := dv.lh F) (F := F) (TB := dv.tb) (fn := Try.f153) (code := dv.code) mixed tabs_ok (mkOrc_ok (dv.cs_ok F)) Try.func153 (by kernel_rfl) (by kernel_rfl) dv.ok (Nat.le_of_ble_eq_true (by kernel_rfl)) (dv.loops F) (Eq.trans (dv.eqX F aa ag H) h)
theorem dv.mk_T {F : Nat} {args : List AV} {H : Hp} {v : AV} {H' : Hp} (h : dv.mk (dv.tw F) args H = some (v, H')) : Go.AE.T Try.prog 153 args H v H' := by
 unfold dv.mk at h
 split at h
 ·exact dv.T h
 ·cases h
noncomputable def dz.twX (F : Nat) (dm : Int → Hp → OA) (aa : Int) (ag : Int) (cJ : Int) (H : Hp) : OA := (bif (aa != 0) then ((dm ag H).bind fun r4 => ((r4.1).asI .i64).bind fun n5 => (dm aa r4.2).bind fun r6 => ((r6.1).asI .i64).bind fun n7 => (if n7 = 0 then none else ((bif (decide (n5 > (IntKind.i64.wrap (Int.tdiv cJ n7)))) then (some ((.tup [(.int .i64 0), (.bool false)]), r6.2)) else (some ((.tup [(.int .i64 (IntKind.i64.wrap (aa * ag))), (.bool true)]), r6.2)))))) else (some ((.tup [(.int .i64 (IntKind.i64.wrap (aa * ag))), (.bool true)]), H)))
noncomputable def dz.tw (F : Nat) (aa : Int) (ag : Int) (cJ : Int) (H : Hp) : OA := dz.twX F (cj.tw F) aa ag cJ H
noncomputable def dz.code : Go.Code := (Try.f138.body).getD .skip
noncomputable def dz.lh (F : Nat) (dm : Int → Hp → OA) (p : Nat) (ks : List Nat) (n : Nat) (tm : Tm) (H : Hp) : OA := none
def dz.pn : Nat → List Nat := fun i => (([] : List (Nat × List Nat)).lookup i).getD []
def dz.tb : Nat → List (List Nat) := fun i => (([] : List (Nat × List (List Nat))).lookup i).getD []
noncomputable def dz.mk (g : Int → Int → Int → Hp → OA) (args : List AV) (H : Hp) : OA := match args with
 | [(.int .i64 aa), (.int .i64 ag), (.int .i64 cJ)] => g aa ag cJ H
 | _ => none
noncomputable def dz.cs (F : Nat) (dm : Int → Hp → OA) : List (FuncId × (List AV → Hp → OA)) := [(102, cj.mk dm)]
theorem dz.loops (F : Nat) (dm : Int → Hp → OA) : LoopsOk tabs (mkOrc (dz.cs F dm)) dz.pn (dz.lh F dm) F [] 1 dz.code (fun tm H => aresults tabs.ty H tm Try.f138.results.toList fun v => some (v, H)) (fun _ _ _ => none) (fun tm H => aresults tabs.ty H tm Try.f138.results.toList fun v => some (v, H)) := by
 exact loops_none (by kernel_rfl)
theorem dz.eqX (F : Nat) (dm : Int → Hp → OA) (aa : Int) (ag : Int) (cJ : Int) (H : Hp) : aCode tabs (mkOrc (dz.cs F dm)) dz.pn (dz.lh F dm) F [] 1 dz.code (argTm [(.int .i64 aa), (.int .i64 ag), (.int .i64 cJ)]) H (fun tm H => aresults tabs.ty H tm Try.f138.results.toList fun v => some (v, H)) (fun _ _ _ => none) (fun tm H => aresults tabs.ty H tm Try.f138.results.toList fun v => some (v, H)) = dz.twX F dm aa ag cJ H := by kernel_rfl
theorem dz.cs_ok (F : Nat) : ∀ p ∈ dz.cs F (cj.tw F), ∀ args H v H', p.2 args H = some (v, H') → Go.AE.T Try.prog p.1 args H v H' := by
 intro p hp
 simp only [dz.cs, List.mem_cons, List.not_mem_nil, or_false] at hp
 subst hp
 exact fun args H v H' h => cj.mk_T h
theorem dz.ok : codeOk dz.pn Try.f138.ntmps dz.tb dz.code = true := by kernel_rfl
theorem dz.T {F : Nat} {aa : Int} {ag : Int} {cJ : Int} {H : Hp} {v : AV} {H' : Hp} (h : dz.tw F aa ag cJ H = some (v, H')) : Go.AE.T Try.prog 138 [(.int .i64 aa), (.int .i64 ag), (.int .i64 cJ)] H v H' :=
 Go.AE.T.of (Y := tabs) (C := mkOrc (dz.cs F (cj.tw F))) (PN := dz.pn) (LH := dz.lh F (cj.tw F)) (F := F) (TB := dz.tb) (fn := Try.f138) (code := dz.code) mixed tabs_ok (mkOrc_ok (dz.cs_ok F)) Try.func138 (by kernel_rfl) (by kernel_rfl) dz.ok (Nat.le_of_ble_eq_true (by kernel_rfl)) (dz.loops F (cj.tw F)) (Eq.trans (dz.eqX F (cj.tw F) aa ag cJ H) h)
theorem dz.mk_T {F : Nat} {args : List AV} {H : Hp} {v : AV} {H' : Hp} (h : dz.mk (dz.tw F) args H = some (v, H')) : Go.AE.T Try.prog 138 args H v H' := by
 unfold dz.mk at h
 split at h
 ·exact dz.T h
 ·cases h
noncomputable def dn.twX (F : Nat) (lk : Int → Int → Int → Hp → OA) (dm : Int → Hp → OA) (aa : Nat) (ac : Nat) (ae : Nat) (af : Nat) (bh : Int) (jh : Int) (H : Hp) : OA := (lk bh jh 2000000000000 H).bind fun r7 => ((r7.1).asTup 2).bind fun l8 => (l8[0]?).bind fun v9 => ((v9).asI .i64).bind fun n10 => (l8[1]?).bind fun v11 => ((v11).asB).bind fun b12 => (Hp.ldI r7.2 .i64 ae af).bind fun n13 => (Hp.st r7.2 ae af (.int .i64 (IntKind.i64.wrap (n13 + n10)))).bind fun H14 => (bif (!b12) then ((Hp.st H14 aa (ac + 15) (.bool true)).bind fun H15 => (Hp.st H15 ae af (.int .i64 0)).bind fun H16 => some ((.tup []), H16)) else ((Hp.ldI H14 .i64 ae af).bind fun n17 => (dm n17 H14).bind fun r18 => ((r18.1).asI .i64).bind fun n19 => (bif (decide (n19 > 1000000000000)) then ((Hp.st r18.2 aa (ac + 15) (.bool true)).bind fun H20 => (Hp.st H20 ae af (.int .i64 0)).bind fun H21 => some ((.tup []), H21)) else (some ((.tup []), r18.2)))))
noncomputable def dn.tw (F : Nat) (aa : Nat) (ac : Nat) (ae : Nat) (af : Nat) (bh : Int) (jh : Int) (H : Hp) : OA := dn.twX F (dz.tw F) (cj.tw F) aa ac ae af bh jh H
noncomputable def dn.code : Go.Code := (Try.f163.body).getD .skip
noncomputable def dn.lh (F : Nat) (lk : Int → Int → Int → Hp → OA) (dm : Int → Hp → OA) (p : Nat) (ks : List Nat) (n : Nat) (tm : Tm) (H : Hp) : OA := none
def dn.pn : Nat → List Nat := fun i => (([] : List (Nat × List Nat)).lookup i).getD []
def dn.tb : Nat → List (List Nat) := fun i => (([] : List (Nat × List (List Nat))).lookup i).getD []
noncomputable def dn.mk (g : Nat → Nat → Nat → Nat → Int → Int → Hp → OA) (args : List AV) (H : Hp) : OA := match args with
 | [(.ptr aa ac), (.ptr ae af), (.int .i64 bh), (.int .i64 jh)] => g aa ac ae af bh jh H
 | _ => none
noncomputable def dn.cs (F : Nat) (lk : Int → Int → Int → Hp → OA) (dm : Int → Hp → OA) : List (FuncId × (List AV → Hp → OA)) := [(138, dz.mk lk), (102, cj.mk dm)]
theorem dn.loops (F : Nat) (lk : Int → Int → Int → Hp → OA) (dm : Int → Hp → OA) : LoopsOk tabs (mkOrc (dn.cs F lk dm)) dn.pn (dn.lh F lk dm) F [] 1 dn.code (fun tm H => aresults tabs.ty H tm Try.f163.results.toList fun v => some (v, H)) (fun _ _ _ => none) (fun tm H => aresults tabs.ty H tm Try.f163.results.toList fun v => some (v, H)) := by
 exact loops_none (by kernel_rfl)
end Go.Proofs.Ytnkgeongfneafaa.AE
