/- The functions of this text return what their Lean twins (of the same name, .f) compute; written by a program of this session (wip/hp.py). -/
import Derived.Test.YtahjhlcmcnemiaaPAx0
import Derived.Test.YtahjhlcmcnemiaaPAxf15
import Derived.Test.YtahjhlcmcnemiaaPAxf37
import Derived.Test.YtahjhlcmcnemiaaPAxf38
namespace Go.Proofs.Ytahjhlcmcnemiaa.PA
open Go.RowKit Go.Proofs.YtahjhlcmcnemiaaW.PrintWords Go.Proofs.YtahjhlcmcnemiaaW.PrintLast Go.Proofs.YtahjhlcmcnemiaaW.PrintMore
attribute [local go_sem] max2_int min2_int max_two min_two max_three min_three max_four min_four   -- for this text's walks alone
set_option linter.unusedVariables false
set_option linter.unusedSimpArgs false

/-! ### laws_FnExactDestabilizeBraid: function 10 -/
mutual
def laws_FnExactDestabilizeBraid.j0 : Nat → Int → Int → Bool → Int → List Int → Int → List Int → Int → List Int → Int → List Int → Option (Bool)
  | 0, _, _, _, _, _, _, _, _, _, _, _ => none
  | k + 1, x5, x8, x40, x602000, x602001, x613000, x613001, x618000, x618001, x624000, x624001 => if x40 = true then (some false) else ((laws_toBraid.f k x602000 x602001).bind fun bt625 => ((laws_eqBraid.f k x618000 x618001 bt625.1 bt625.2).bind fun t629 => (if t629 = true then ((laws_markBraid.f k x618000 x618001 1).bind fun bt630 => (if bt630.1 < 0 then (laws_FnExactDestabilizeBraid.j1 k x5 true x602000 x602001 x613000 x613001 x624000 x624001) else ((laws_eqBraid.f k x624000 x624001 x613000 x613001).bind fun t632 => (if t632 = true then (laws_FnExactDestabilizeBraid.j1 k x5 (x8 != x5) x602000 x602001 x613000 x613001 x624000 x624001) else (laws_FnExactDestabilizeBraid.j1 k x5 true x602000 x602001 x613000 x613001 x624000 x624001))))) else (some false))))
def laws_FnExactDestabilizeBraid.j1 : Nat → Int → Bool → Int → List Int → Int → List Int → Int → List Int → Option (Bool)
  | 0, _, _, _, _, _, _, _, _ => none
  | k + 1, x5, x61, x602000, x602001, x613000, x613001, x624000, x624001 => if x61 = true then (some false) else ((laws_markBraid.f k x624000 x624001 1).bind fun bt633 => ((laws_heldBraid.f k x624000 bt633.2 1).bind fun t635 => (if t635 < 0 then (some false) else (if t635 = bt633.1 then ((laws_toBraid.f k x602000 x602001).bind fun bt636 => ((impl_DestabilizeBraid.f k bt636.1 bt636.2).bind fun bt640 => ((laws_eqBraid.f k bt640.1 bt640.2.1 x613000 x613001).bind fun t646 => (if t646 = true then (laws_FnExactDestabilizeBraid.j2 k bt633.1 (bt640.2.2 != x5) x624000 bt633.2) else (laws_FnExactDestabilizeBraid.j2 k bt633.1 true x624000 bt633.2))))) else (some false)))))
def laws_FnExactDestabilizeBraid.j2 : Nat → Int → Bool → Int → List Int → Option (Bool)
  | 0, _, _, _, _ => none
  | k + 1, x10, x87, x624000, x624001 => if x87 = true then (some false) else ((laws_heldBraid.f k x624000 x624001 1).bind fun t647 => (if t647 < 0 then (some false) else (if t647 = x10 then (some true) else (some false))))
end
def laws_FnExactDestabilizeBraid.f (k : Nat) (a0_0 : Int) (l0_1 : List Int) : Option (Bool) := (laws_szBraid.f a0_0 l0_1 1048576).bind fun t602 => (if t602 < 0 then (some true) else ((laws_toBraid.f k a0_0 l0_1).bind fun bt603 => ((spec_DestabilizeBraid.f k bt603.1 bt603.2).bind fun bt607 => ((laws_toBraid.f k a0_0 l0_1).bind fun bt613 => ((impl_DestabilizeBraid.f k bt613.1 bt613.2).bind fun bt618 => ((laws_eqBraid.f k bt618.1 bt618.2.1 bt607.1 bt607.2.1).bind fun t624 => (if t624 = true then (laws_FnExactDestabilizeBraid.j0 k bt607.2.2 bt618.2.2 (bt618.2.2 != bt607.2.2) a0_0 l0_1 bt607.1 bt607.2.1 bt613.1 bt613.2 bt618.1 bt618.2.1) else (laws_FnExactDestabilizeBraid.j0 k bt607.2.2 bt618.2.2 true a0_0 l0_1 bt607.1 bt607.2.1 bt613.1 bt613.2 bt618.1 bt618.2.1))))))))
theorem laws_FnExactDestabilizeBraid.mono_l : ∀ k, (∀ y0 y1 y2 y3 y4 y5 y6 y7 y8 y9 y10, LeO (laws_FnExactDestabilizeBraid.j0 k y0 y1 y2 y3 y4 y5 y6 y7 y8 y9 y10) (laws_FnExactDestabilizeBraid.j0 (k + 1) y0 y1 y2 y3 y4 y5 y6 y7 y8 y9 y10)) ∧ (∀ y0 y1 y2 y3 y4 y5 y6 y7, LeO (laws_FnExactDestabilizeBraid.j1 k y0 y1 y2 y3 y4 y5 y6 y7) (laws_FnExactDestabilizeBraid.j1 (k + 1) y0 y1 y2 y3 y4 y5 y6 y7)) ∧ (∀ y0 y1 y2 y3, LeO (laws_FnExactDestabilizeBraid.j2 k y0 y1 y2 y3) (laws_FnExactDestabilizeBraid.j2 (k + 1) y0 y1 y2 y3))
  | 0 => ⟨fun _ _ _ _ _ _ _ _ _ _ _ r h => by simp [laws_FnExactDestabilizeBraid.j0] at h, fun _ _ _ _ _ _ _ _ r h => by simp [laws_FnExactDestabilizeBraid.j1] at h, fun _ _ _ _ r h => by simp [laws_FnExactDestabilizeBraid.j2] at h⟩
  | k + 1 => by
    obtain ⟨ih0, ih1, ih2⟩ := laws_FnExactDestabilizeBraid.mono_l k
    refine ⟨?_, ?_, ?_⟩
    · intro y0 y1 y2 y3 y4 y5 y6 y7 y8 y9 y10
      unfold laws_FnExactDestabilizeBraid.j0
      repeat' first
      | (with_reducible exact ih0 _ _ _ _ _ _ _ _ _ _ _)
      | (with_reducible exact ih1 _ _ _ _ _ _ _ _)
      | (with_reducible exact ih2 _ _ _ _)
      | (with_reducible exact impl_DestabilizeBraid.mono _ _ _)
      | (with_reducible exact laws_eqBraid.mono _ _ _ _ _)
      | (with_reducible exact laws_heldBraid.mono _ _ _ _)
      | (with_reducible exact laws_markBraid.mono _ _ _ _)
      | (with_reducible exact laws_toBraid.mono _ _ _)
      | (with_reducible exact spec_DestabilizeBraid.mono _ _ _)
      | (with_reducible exact LeO.refl _)
      | (with_reducible exact LeO.none _)
      | (with_reducible refine LeO.ite ?_ ?_)
      | (with_reducible refine LeO.bind ?_ (fun _ => ?_))
      | exact ih0 _ _ _ _ _ _ _ _ _ _ _
      | exact ih1 _ _ _ _ _ _ _ _
      | exact ih2 _ _ _ _
      | exact impl_DestabilizeBraid.mono _ _ _
      | exact laws_eqBraid.mono _ _ _ _ _
      | exact laws_heldBraid.mono _ _ _ _
      | exact laws_markBraid.mono _ _ _ _
      | exact laws_toBraid.mono _ _ _
      | exact spec_DestabilizeBraid.mono _ _ _
      | exact LeO.none _
      | refine LeO.ite ?_ ?_
      | refine LeO.bind ?_ (fun _ => ?_)
    · intro y0 y1 y2 y3 y4 y5 y6 y7
      unfold laws_FnExactDestabilizeBraid.j1
      repeat' first
      | (with_reducible exact ih0 _ _ _ _ _ _ _ _ _ _ _)
      | (with_reducible exact ih1 _ _ _ _ _ _ _ _)
      | (with_reducible exact ih2 _ _ _ _)
      | (with_reducible exact impl_DestabilizeBraid.mono _ _ _)
      | (with_reducible exact laws_eqBraid.mono _ _ _ _ _)
      | (with_reducible exact laws_heldBraid.mono _ _ _ _)
      | (with_reducible exact laws_markBraid.mono _ _ _ _)
      | (with_reducible exact laws_toBraid.mono _ _ _)
      | (with_reducible exact spec_DestabilizeBraid.mono _ _ _)
      | (with_reducible exact LeO.refl _)
      | (with_reducible exact LeO.none _)
      | (with_reducible refine LeO.ite ?_ ?_)
      | (with_reducible refine LeO.bind ?_ (fun _ => ?_))
      | exact ih0 _ _ _ _ _ _ _ _ _ _ _
      | exact ih1 _ _ _ _ _ _ _ _
      | exact ih2 _ _ _ _
      | exact impl_DestabilizeBraid.mono _ _ _
      | exact laws_eqBraid.mono _ _ _ _ _
      | exact laws_heldBraid.mono _ _ _ _
      | exact laws_markBraid.mono _ _ _ _
      | exact laws_toBraid.mono _ _ _
      | exact spec_DestabilizeBraid.mono _ _ _
      | exact LeO.none _
      | refine LeO.ite ?_ ?_
      | refine LeO.bind ?_ (fun _ => ?_)
    · intro y0 y1 y2 y3
      unfold laws_FnExactDestabilizeBraid.j2
      repeat' first
      | (with_reducible exact ih0 _ _ _ _ _ _ _ _ _ _ _)
      | (with_reducible exact ih1 _ _ _ _ _ _ _ _)
      | (with_reducible exact ih2 _ _ _ _)
      | (with_reducible exact impl_DestabilizeBraid.mono _ _ _)
      | (with_reducible exact laws_eqBraid.mono _ _ _ _ _)
      | (with_reducible exact laws_heldBraid.mono _ _ _ _)
      | (with_reducible exact laws_markBraid.mono _ _ _ _)
      | (with_reducible exact laws_toBraid.mono _ _ _)
      | (with_reducible exact spec_DestabilizeBraid.mono _ _ _)
      | (with_reducible exact LeO.refl _)
      | (with_reducible exact LeO.none _)
      | (with_reducible refine LeO.ite ?_ ?_)
      | (with_reducible refine LeO.bind ?_ (fun _ => ?_))
      | exact ih0 _ _ _ _ _ _ _ _ _ _ _
      | exact ih1 _ _ _ _ _ _ _ _
      | exact ih2 _ _ _ _
      | exact impl_DestabilizeBraid.mono _ _ _
      | exact laws_eqBraid.mono _ _ _ _ _
      | exact laws_heldBraid.mono _ _ _ _
      | exact laws_markBraid.mono _ _ _ _
      | exact laws_toBraid.mono _ _ _
      | exact spec_DestabilizeBraid.mono _ _ _
      | exact LeO.none _
      | refine LeO.ite ?_ ?_
      | refine LeO.bind ?_ (fun _ => ?_)
theorem laws_FnExactDestabilizeBraid.mono : ∀ a0 a1 k, LeO (laws_FnExactDestabilizeBraid.f k a0 a1) (laws_FnExactDestabilizeBraid.f (k + 1) a0 a1) := by
  intro a0 a1 k
  obtain ⟨ih0, ih1, ih2⟩ := laws_FnExactDestabilizeBraid.mono_l k
  unfold laws_FnExactDestabilizeBraid.f
  repeat' first
      | (with_reducible exact ih0 _ _ _ _ _ _ _ _ _ _ _)
      | (with_reducible exact ih1 _ _ _ _ _ _ _ _)
      | (with_reducible exact ih2 _ _ _ _)
      | (with_reducible exact impl_DestabilizeBraid.mono _ _ _)
      | (with_reducible exact laws_eqBraid.mono _ _ _ _ _)
      | (with_reducible exact laws_heldBraid.mono _ _ _ _)
      | (with_reducible exact laws_markBraid.mono _ _ _ _)
      | (with_reducible exact laws_toBraid.mono _ _ _)
      | (with_reducible exact spec_DestabilizeBraid.mono _ _ _)
      | (with_reducible exact LeO.refl _)
      | (with_reducible exact LeO.none _)
      | (with_reducible refine LeO.ite ?_ ?_)
      | (with_reducible refine LeO.bind ?_ (fun _ => ?_))
      | exact ih0 _ _ _ _ _ _ _ _ _ _ _
      | exact ih1 _ _ _ _ _ _ _ _
      | exact ih2 _ _ _ _
      | exact impl_DestabilizeBraid.mono _ _ _
      | exact laws_eqBraid.mono _ _ _ _ _
      | exact laws_heldBraid.mono _ _ _ _
      | exact laws_markBraid.mono _ _ _ _
      | exact laws_toBraid.mono _ _ _
      | exact spec_DestabilizeBraid.mono _ _ _
      | exact LeO.none _
      | refine LeO.ite ?_ ?_
      | refine LeO.bind ?_ (fun _ => ?_)
set_option maxHeartbeats 8000000 in
set_option maxRecDepth 100000 in
theorem laws_FnExactDestabilizeBraid.calls (k : Nat) (a0_0 : Int) (A0_1 : Option Addr) (c0_1 : Nat) (l0_1 : List Int) (r : Bool) (w : World) (hr0_1 : Kd.C (Kd.int .i64) w A0_1 l0_1.length l0_1) (hc0_1 : l0_1.length ≤ c0_1) (h : laws_FnExactDestabilizeBraid.f k a0_0 l0_1 = some r) :
    Calls Try.prog 10 #[.agg #[.int .i64 a0_0, .slice A0_1 l0_1.length c0_1]] w fun e w' => e = .returned (.bool r) ∧ Below w.heap.size w w' := by
  have hu30 := Try.underlying30
  have hu33 := Try.underlying33
  have HR0_1 := Aside0.mk hr0_1
  have HC0_1 := Aside0.mk hc0_1
  clear hr0_1 hc0_1
  have HB := Aside0.mk (Below.refl w.heap.size w)
  have H : ((laws_szBraid.f a0_0 l0_1 1048576).bind fun t602 => (if t602 < 0 then (some true) else ((laws_toBraid.f k a0_0 l0_1).bind fun bt603 => ((spec_DestabilizeBraid.f k bt603.1 bt603.2).bind fun bt607 => ((laws_toBraid.f k a0_0 l0_1).bind fun bt613 => ((impl_DestabilizeBraid.f k bt613.1 bt613.2).bind fun bt618 => ((laws_eqBraid.f k bt618.1 bt618.2.1 bt607.1 bt607.2.1).bind fun t624 => (if t624 = true then (laws_FnExactDestabilizeBraid.j0 k bt607.2.2 bt618.2.2 (bt618.2.2 != bt607.2.2) a0_0 l0_1 bt607.1 bt607.2.1 bt613.1 bt613.2 bt618.1 bt618.2.1) else (laws_FnExactDestabilizeBraid.j0 k bt607.2.2 bt618.2.2 true a0_0 l0_1 bt607.1 bt607.2.1 bt613.1 bt613.2 bt618.1 bt618.2.1))))))))) = some r := h
  clear h
  replace H := Option.bind_eq_some_iff.mp H
  obtain ⟨t602, A20, H⟩ := H
  replace H : (if t602 < 0 then (some true) else ((laws_toBraid.f k a0_0 l0_1).bind fun bt603 => ((spec_DestabilizeBraid.f k bt603.1 bt603.2).bind fun bt607 => ((laws_toBraid.f k a0_0 l0_1).bind fun bt613 => ((impl_DestabilizeBraid.f k bt613.1 bt613.2).bind fun bt618 => ((laws_eqBraid.f k bt618.1 bt618.2.1 bt607.1 bt607.2.1).bind fun t624 => (if t624 = true then (laws_FnExactDestabilizeBraid.j0 k bt607.2.2 bt618.2.2 (bt618.2.2 != bt607.2.2) a0_0 l0_1 bt607.1 bt607.2.1 bt613.1 bt613.2 bt618.1 bt618.2.1) else (laws_FnExactDestabilizeBraid.j0 k bt607.2.2 bt618.2.2 true a0_0 l0_1 bt607.1 bt607.2.1 bt613.1 bt613.2 bt618.1 bt618.2.1)))))))) = some r := H
  have A2 := Aside0.mk A20
  clear A20
  by_cases c3 : t602 < 0
  · rw [if_pos c3] at H
    have c3b0 : decide (t602 < 0) = true := decide_eq_true c3
    clear c3
    obtain rfl := Option.some.inj H
    go_enter Try.func10, Try.ntmps10
    go_wp2_with (first | ((with_reducible refine gate_dst (N := 1) rfl ?_); refine box_event ?hg (N := 1) ?hd (cs := #[.int .i64 a0_0, .slice A0_1 l0_1.length c0_1]) (t := 30) ?hr ?_; (case hd => rfl); (case hg => rfl); (case hr => first | (go_simp; done) | (go_simp; rfl)); intro gb601 hg w4 hbox hb; have n0_ := Aside0.mk (below_step (by repeat (first | (with_reducible first | exact HB.out | apply below_alloc | apply pw_below_drewN | apply below_drew1) | exact HB.out)) hb); have n1_ := Aside0.mk (hbox); have n2_ := Aside0.mk ((by rw [hg]; exact (below_size (by repeat (first | (with_reducible first | exact HB.out | apply below_alloc | apply pw_below_drewN | apply below_drew1) | exact HB.out))) : w.heap.size ≤ gb601)); have n3_ := Aside0.mk ((by rw [hg]; exact (below_size (by repeat (first | (with_reducible first | exact HB.out | apply below_alloc | apply pw_below_drewN | apply below_drew1) | exact HB.out))) : w.heap.size ≤ gb601)); clear HB; have HB := n0_; have BK601 := n1_; have GW601 := n2_; have GE601 := n3_; clear n0_ n1_ n2_ n3_; clear hb hbox hg; have hcz5_0 : w4.cell? ⟨gb601, 0, none⟩ = some (.int .i64 a0_0) := (blk_cell BK601.out 0).trans rfl; have hcz5_1 : w4.cell? ⟨gb601, 1, none⟩ = some (.slice A0_1 l0_1.length c0_1) := (blk_cell BK601.out 1).trans rfl; have hfz5_0 := blk_frozen BK601.out 0; have hfz5_1 := blk_frozen BK601.out 1) | ((with_reducible refine gate_callee (f := 20) rfl ?_); refine goesL_ (some 16) rfl rfl Try.func20 (by kernel_rfl) rfl #[.agg #[.int .i64 a0_0, .slice A0_1 l0_1.length c0_1], .int .i64 1048576] rfl (by (try simp only [List.map_toArray, List.map_cons, List.map_nil]); first | done | rfl | (simp only [List.length_drop, List.length_take]; rfl)) ?_; (with_reducible refine (laws_szBraid.calls a0_0 _ _ l0_1 1048576 t602 _ ?side1 ?side2 A2.out).mono ?_); (case side1 => repeat (first | exact (Kd.C_below HR0_1.out HB.out) | (with_reducible refine Kd.C_alloc ?_ _) | (with_reducible refine Kd.C_drewN ?_ _) | (with_reducible refine Kd.C_drew ?_))); (case side2 => exact HC0_1.out); rintro e w6 ⟨rfl, hb⟩; refine ⟨_, rfl, ?_⟩; have n0_ := Aside0.mk (blk_below (g := gb601) (o := .cells #[.int .i64 a0_0, .slice A0_1 l0_1.length c0_1] 30 (0, 0)) (by (with_reducible repeat (first | refine blk_drewN ?_ _ | refine blk_drew ?_ | refine blk_alloc ?_ _)); exact BK601.out) hb); have n1_ := Aside0.mk (below_step (by repeat (first | (with_reducible first | exact HB.out | apply below_alloc | apply pw_below_drewN | apply below_drew1 | refine below_set ?_ GE601.out) | exact HB.out)) hb); clear BK601; clear HB; have BK601 := n0_; have HB := n1_; clear n0_ n1_; (try clear hb); (try clear hb2); (try clear hk); (try clear hi)))
    go_ret
    exact ⟨by first | rfl | (simp [errW_none, errW_some] <;> rfl) | (simp [*, errW_none, errW_some] <;> rfl), by repeat (first | (with_reducible first | exact HB.out | apply below_alloc | apply pw_below_drewN | apply below_drew1 | refine below_set ?_ GE601.out) | exact HB.out)⟩
  · rw [if_neg c3] at H
    have c3b0 : decide (t602 < 0) = false := decide_eq_false c3
    clear c3
    replace H := Option.bind_eq_some_iff.mp H
    obtain ⟨⟨t603, t604⟩, A70, H⟩ := H
    replace H : ((spec_DestabilizeBraid.f k t603 t604).bind fun bt607 => ((laws_toBraid.f k a0_0 l0_1).bind fun bt613 => ((impl_DestabilizeBraid.f k bt613.1 bt613.2).bind fun bt618 => ((laws_eqBraid.f k bt618.1 bt618.2.1 bt607.1 bt607.2.1).bind fun t624 => (if t624 = true then (laws_FnExactDestabilizeBraid.j0 k bt607.2.2 bt618.2.2 (bt618.2.2 != bt607.2.2) a0_0 l0_1 bt607.1 bt607.2.1 bt613.1 bt613.2 bt618.1 bt618.2.1) else (laws_FnExactDestabilizeBraid.j0 k bt607.2.2 bt618.2.2 true a0_0 l0_1 bt607.1 bt607.2.1 bt613.1 bt613.2 bt618.1 bt618.2.1)))))) = some r := H
    have A7 := Aside0.mk A70
    clear A70
    replace H := Option.bind_eq_some_iff.mp H
    obtain ⟨⟨t607, t608, t611⟩, A80, H⟩ := H
    replace H : ((laws_toBraid.f k a0_0 l0_1).bind fun bt613 => ((impl_DestabilizeBraid.f k bt613.1 bt613.2).bind fun bt618 => ((laws_eqBraid.f k bt618.1 bt618.2.1 t607 t608).bind fun t624 => (if t624 = true then (laws_FnExactDestabilizeBraid.j0 k t611 bt618.2.2 (bt618.2.2 != t611) a0_0 l0_1 t607 t608 bt613.1 bt613.2 bt618.1 bt618.2.1) else (laws_FnExactDestabilizeBraid.j0 k t611 bt618.2.2 true a0_0 l0_1 t607 t608 bt613.1 bt613.2 bt618.1 bt618.2.1))))) = some r := H
    have A8 := Aside0.mk A80
    clear A80
    replace H := Option.bind_eq_some_iff.mp H
    obtain ⟨⟨t613, t614⟩, A90, H⟩ := H
    replace H : ((impl_DestabilizeBraid.f k t613 t614).bind fun bt618 => ((laws_eqBraid.f k bt618.1 bt618.2.1 t607 t608).bind fun t624 => (if t624 = true then (laws_FnExactDestabilizeBraid.j0 k t611 bt618.2.2 (bt618.2.2 != t611) a0_0 l0_1 t607 t608 t613 t614 bt618.1 bt618.2.1) else (laws_FnExactDestabilizeBraid.j0 k t611 bt618.2.2 true a0_0 l0_1 t607 t608 t613 t614 bt618.1 bt618.2.1)))) = some r := H
    have A9 := Aside0.mk A90
    clear A90
    replace H := Option.bind_eq_some_iff.mp H
    obtain ⟨⟨t618, t619, t622⟩, A100, H⟩ := H
    replace H : ((laws_eqBraid.f k t618 t619 t607 t608).bind fun t624 => (if t624 = true then (laws_FnExactDestabilizeBraid.j0 k t611 t622 (t622 != t611) a0_0 l0_1 t607 t608 t613 t614 t618 t619) else (laws_FnExactDestabilizeBraid.j0 k t611 t622 true a0_0 l0_1 t607 t608 t613 t614 t618 t619))) = some r := H
    have A10 := Aside0.mk A100
    clear A100
    have HC11 := Aside0.mk H
    clear H
    go_enter Try.func10, Try.ntmps10
    go_upto_region 8 with (first | ((with_reducible refine gate_dst (N := 1) rfl ?_); refine box_event ?hg (N := 1) ?hd (cs := #[.int .i64 a0_0, .slice A0_1 l0_1.length c0_1]) (t := 30) ?hr ?_; (case hd => rfl); (case hg => rfl); (case hr => first | (go_simp; done) | (go_simp; rfl)); intro gb601 hg w12 hbox hb; have n0_ := Aside0.mk (below_step (by repeat (first | (with_reducible first | exact HB.out | apply below_alloc | apply pw_below_drewN | apply below_drew1) | exact HB.out)) hb); have n1_ := Aside0.mk (hbox); have n2_ := Aside0.mk ((by rw [hg]; exact (below_size (by repeat (first | (with_reducible first | exact HB.out | apply below_alloc | apply pw_below_drewN | apply below_drew1) | exact HB.out))) : w.heap.size ≤ gb601)); have n3_ := Aside0.mk ((by rw [hg]; exact (below_size (by repeat (first | (with_reducible first | exact HB.out | apply below_alloc | apply pw_below_drewN | apply below_drew1) | exact HB.out))) : w.heap.size ≤ gb601)); clear HB; have HB := n0_; have BK601 := n1_; have GW601 := n2_; have GE601 := n3_; clear n0_ n1_ n2_ n3_; clear hb hbox hg; have hcz13_0 : w12.cell? ⟨gb601, 0, none⟩ = some (.int .i64 a0_0) := (blk_cell BK601.out 0).trans rfl; have hcz13_1 : w12.cell? ⟨gb601, 1, none⟩ = some (.slice A0_1 l0_1.length c0_1) := (blk_cell BK601.out 1).trans rfl; have hfz13_0 := blk_frozen BK601.out 0; have hfz13_1 := blk_frozen BK601.out 1) | ((with_reducible refine gate_callee (f := 20) rfl ?_); refine goesL_ (some 16) rfl rfl Try.func20 (by kernel_rfl) rfl #[.agg #[.int .i64 a0_0, .slice A0_1 l0_1.length c0_1], .int .i64 1048576] rfl (by (try simp only [List.map_toArray, List.map_cons, List.map_nil]); first | done | rfl | (simp only [List.length_drop, List.length_take]; rfl)) ?_; (with_reducible refine (laws_szBraid.calls a0_0 _ _ l0_1 1048576 t602 _ ?side1 ?side2 A2.out).mono ?_); (case side1 => repeat (first | exact (Kd.C_below HR0_1.out HB.out) | (with_reducible refine Kd.C_alloc ?_ _) | (with_reducible refine Kd.C_drewN ?_ _) | (with_reducible refine Kd.C_drew ?_))); (case side2 => exact HC0_1.out); rintro e w14 ⟨rfl, hb⟩; refine ⟨_, rfl, ?_⟩; have n0_ := Aside0.mk (blk_below (g := gb601) (o := .cells #[.int .i64 a0_0, .slice A0_1 l0_1.length c0_1] 30 (0, 0)) (by (with_reducible repeat (first | refine blk_drewN ?_ _ | refine blk_drew ?_ | refine blk_alloc ?_ _)); exact BK601.out) hb); have n1_ := Aside0.mk (below_step (by repeat (first | (with_reducible first | exact HB.out | apply below_alloc | apply pw_below_drewN | apply below_drew1 | refine below_set ?_ GE601.out) | exact HB.out)) hb); clear BK601; clear HB; have BK601 := n0_; have HB := n1_; clear n0_ n1_; (try clear hb); (try clear hb2); (try clear hk); (try clear hi); have hcz15_0 : w14.cell? ⟨gb601, 0, none⟩ = some (.int .i64 a0_0) := (blk_cell BK601.out 0).trans rfl; have hcz15_1 : w14.cell? ⟨gb601, 1, none⟩ = some (.slice A0_1 l0_1.length c0_1) := (blk_cell BK601.out 1).trans rfl; have hfz15_0 := blk_frozen BK601.out 0; have hfz15_1 := blk_frozen BK601.out 1) | (go_at_call 20; (with_reducible refine (laws_szBraid.calls a0_0 _ _ l0_1 1048576 t602 _ ?side1 ?side2 A2.out).mono ?_); (case side1 => repeat (first | exact (Kd.C_below HR0_1.out HB.out) | (with_reducible refine Kd.C_alloc ?_ _) | (with_reducible refine Kd.C_drewN ?_ _) | (with_reducible refine Kd.C_drew ?_))); (case side2 => exact HC0_1.out); rintro e w14 ⟨rfl, hb⟩; have n0_ := Aside0.mk (blk_below (g := gb601) (o := .cells #[.int .i64 a0_0, .slice A0_1 l0_1.length c0_1] 30 (0, 0)) (by (with_reducible repeat (first | refine blk_drewN ?_ _ | refine blk_drew ?_ | refine blk_alloc ?_ _)); exact BK601.out) hb); have n1_ := Aside0.mk (below_step (by repeat (first | (with_reducible first | exact HB.out | apply below_alloc | apply pw_below_drewN | apply below_drew1 | refine below_set ?_ GE601.out) | exact HB.out)) hb); clear BK601; clear HB; have BK601 := n0_; have HB := n1_; clear n0_ n1_; (try clear hb); (try clear hb2); (try clear hk); (try clear hi); have hcz15_0 : w14.cell? ⟨gb601, 0, none⟩ = some (.int .i64 a0_0) := (blk_cell BK601.out 0).trans rfl; have hcz15_1 : w14.cell? ⟨gb601, 1, none⟩ = some (.slice A0_1 l0_1.length c0_1) := (blk_cell BK601.out 1).trans rfl; have hfz15_0 := blk_frozen BK601.out 0; have hfz15_1 := blk_frozen BK601.out 1) | ((with_reducible refine gate_callee (f := 22) rfl ?_); refine goesL_ (some 21) rfl rfl Try.func22 (by kernel_rfl) rfl #[.agg #[.int .i64 a0_0, .slice A0_1 l0_1.length c0_1]] rfl (by (try simp only [List.map_toArray, List.map_cons, List.map_nil]); first | done | rfl | (simp only [List.length_drop, List.length_take]; rfl)) ?_; (with_reducible refine (laws_toBraid.calls k a0_0 _ _ l0_1 t603 t604 _ ?side1 ?side2 A7.out).mono ?_); (case side1 => repeat (first | exact (Kd.C_below HR0_1.out HB.out) | (with_reducible refine Kd.C_alloc ?_ _) | (with_reducible refine Kd.C_drewN ?_ _) | (with_reducible refine Kd.C_drew ?_))); (case side2 => exact HC0_1.out); rintro e w16 ⟨v605, rfl, ho0, hb⟩; refine ⟨_, rfl, ?_⟩; have n0_ := Aside0.mk (Kd.R_lower ho0 (below_size (by repeat (first | (with_reducible first | exact HB.out | apply below_alloc | apply pw_below_drewN | apply below_drew1 | refine below_set ?_ GE601.out) | exact HB.out)))); have n1_ := Aside0.mk (blk_below (g := gb601) (o := .cells #[.int .i64 a0_0, .slice A0_1 l0_1.length c0_1] 30 (0, 0)) (by (with_reducible repeat (first | refine blk_drewN ?_ _ | refine blk_drew ?_ | refine blk_alloc ?_ _)); exact BK601.out) hb); have n2_ := Aside0.mk (below_step (by repeat (first | (with_reducible first | exact HB.out | apply below_alloc | apply pw_below_drewN | apply below_drew1 | refine below_set ?_ GE601.out) | exact HB.out)) hb); clear BK601; clear HB; have HO606 := n0_; have BK601 := n1_; have HB := n2_; clear n0_ n1_ n2_; (try clear hb); (try clear hb2); (try clear hk); (try clear hi); (try clear ho0); obtain ⟨Ao17, co17, eo17⟩ := Kd.R_slice HO606.out; subst eo17) | (go_at_call 22; (with_reducible refine (laws_toBraid.calls k a0_0 _ _ l0_1 t603 t604 _ ?side1 ?side2 A7.out).mono ?_); (case side1 => repeat (first | exact (Kd.C_below HR0_1.out HB.out) | (with_reducible refine Kd.C_alloc ?_ _) | (with_reducible refine Kd.C_drewN ?_ _) | (with_reducible refine Kd.C_drew ?_))); (case side2 => exact HC0_1.out); rintro e w16 ⟨v605, rfl, ho0, hb⟩; have n0_ := Aside0.mk (Kd.R_lower ho0 (below_size (by repeat (first | (with_reducible first | exact HB.out | apply below_alloc | apply pw_below_drewN | apply below_drew1 | refine below_set ?_ GE601.out) | exact HB.out)))); have n1_ := Aside0.mk (blk_below (g := gb601) (o := .cells #[.int .i64 a0_0, .slice A0_1 l0_1.length c0_1] 30 (0, 0)) (by (with_reducible repeat (first | refine blk_drewN ?_ _ | refine blk_drew ?_ | refine blk_alloc ?_ _)); exact BK601.out) hb); have n2_ := Aside0.mk (below_step (by repeat (first | (with_reducible first | exact HB.out | apply below_alloc | apply pw_below_drewN | apply below_drew1 | refine below_set ?_ GE601.out) | exact HB.out)) hb); clear BK601; clear HB; have HO606 := n0_; have BK601 := n1_; have HB := n2_; clear n0_ n1_ n2_; (try clear hb); (try clear hb2); (try clear hk); (try clear hi); (try clear ho0); obtain ⟨Ao17, co17, eo17⟩ := Kd.R_slice HO606.out; subst eo17) | ((with_reducible refine gate_callee (f := 37) rfl ?_); refine goesL_ (some 22) rfl rfl Try.func37 (by kernel_rfl) rfl #[.agg #[.int .i64 t603, .slice Ao17 t604.length co17]] rfl (by (try simp only [List.map_toArray, List.map_cons, List.map_nil]); first | done | rfl | (simp only [List.length_drop, List.length_take]; rfl)) ?_; (with_reducible refine (spec_DestabilizeBraid.calls k t603 _ _ t604 t607 t608 t611 _ ?side1 ?side2 A8.out).mono ?_); (case side1 => repeat (first | exact (Kd.R_reads' HO606.out).2.2 | (with_reducible refine Kd.C_alloc ?_ _) | (with_reducible refine Kd.C_drewN ?_ _) | (with_reducible refine Kd.C_drew ?_))); (case side2 => exact (Kd.R_reads' HO606.out).2.1); rintro e w18 ⟨v609, rfl, ho0, hb⟩; refine ⟨_, rfl, ?_⟩; have n0_ := Aside0.mk (Kd.R_elder' (by (with_reducible repeat (first | apply Kd.R_alloc | apply Kd.R_drewN | apply Kd.R_drew)); exact HO606.out) (Kd.R_base ho0) hb); have n1_ := Aside0.mk (Kd.R_lower (Kd.R_new' ho0 (Kd.R_lt (by (with_reducible repeat (first | apply Kd.R_alloc | apply Kd.R_drewN | apply Kd.R_drew)); exact HO606.out))) (below_size (by repeat (first | (with_reducible first | exact HB.out | apply below_alloc | apply pw_below_drewN | apply below_drew1 | refine below_set ?_ GE601.out) | exact HB.out)))); have n2_ := Aside0.mk (blk_below (g := gb601) (o := .cells #[.int .i64 a0_0, .slice A0_1 l0_1.length c0_1] 30 (0, 0)) (by (with_reducible repeat (first | refine blk_drewN ?_ _ | refine blk_drew ?_ | refine blk_alloc ?_ _)); exact BK601.out) hb); have n3_ := Aside0.mk (below_step (by repeat (first | (with_reducible first | exact HB.out | apply below_alloc | apply pw_below_drewN | apply below_drew1 | refine below_set ?_ GE601.out) | exact HB.out)) hb); clear HO606; clear BK601; clear HB; have HO606 := n0_; have HO610 := n1_; have BK601 := n2_; have HB := n3_; clear n0_ n1_ n2_ n3_; (try clear hb); (try clear hb2); (try clear hk); (try clear hi); (try clear ho0)) | (go_at_call 37; (with_reducible refine (spec_DestabilizeBraid.calls k t603 _ _ t604 t607 t608 t611 _ ?side1 ?side2 A8.out).mono ?_); (case side1 => repeat (first | exact (Kd.R_reads' HO606.out).2.2 | (with_reducible refine Kd.C_alloc ?_ _) | (with_reducible refine Kd.C_drewN ?_ _) | (with_reducible refine Kd.C_drew ?_))); (case side2 => exact (Kd.R_reads' HO606.out).2.1); rintro e w18 ⟨v609, rfl, ho0, hb⟩; have n0_ := Aside0.mk (Kd.R_elder' (by (with_reducible repeat (first | apply Kd.R_alloc | apply Kd.R_drewN | apply Kd.R_drew)); exact HO606.out) (Kd.R_base ho0) hb); have n1_ := Aside0.mk (Kd.R_lower (Kd.R_new' ho0 (Kd.R_lt (by (with_reducible repeat (first | apply Kd.R_alloc | apply Kd.R_drewN | apply Kd.R_drew)); exact HO606.out))) (below_size (by repeat (first | (with_reducible first | exact HB.out | apply below_alloc | apply pw_below_drewN | apply below_drew1 | refine below_set ?_ GE601.out) | exact HB.out)))); have n2_ := Aside0.mk (blk_below (g := gb601) (o := .cells #[.int .i64 a0_0, .slice A0_1 l0_1.length c0_1] 30 (0, 0)) (by (with_reducible repeat (first | refine blk_drewN ?_ _ | refine blk_drew ?_ | refine blk_alloc ?_ _)); exact BK601.out) hb); have n3_ := Aside0.mk (below_step (by repeat (first | (with_reducible first | exact HB.out | apply below_alloc | apply pw_below_drewN | apply below_drew1 | refine below_set ?_ GE601.out) | exact HB.out)) hb); clear HO606; clear BK601; clear HB; have HO606 := n0_; have HO610 := n1_; have BK601 := n2_; have HB := n3_; clear n0_ n1_ n2_ n3_; (try clear hb); (try clear hb2); (try clear hk); (try clear hi); (try clear ho0)) | ((with_reducible refine gate_dst (N := 4) rfl ?_); refine box_event ?hg (N := 4) ?hd (cs := #[.int .i64 0, .slice none 0 0]) (t := 33) ?hr ?_; (case hd => rfl); (case hg => rfl); (case hr => first | (go_simp; done) | (go_simp; rfl)); intro gb612 hg w19 hbox hb; have n0_ := Aside0.mk (Kd.R_below (by (with_reducible repeat (first | apply Kd.R_alloc | apply Kd.R_drewN | apply Kd.R_drew)); exact HO606.out) hb); have n1_ := Aside0.mk (Kd.R_below (by (with_reducible repeat (first | apply Kd.R_alloc | apply Kd.R_drewN | apply Kd.R_drew)); exact HO610.out) hb); have n2_ := Aside0.mk (blk_below (g := gb601) (o := .cells #[.int .i64 a0_0, .slice A0_1 l0_1.length c0_1] 30 (0, 0)) (by (with_reducible repeat (first | refine blk_drewN ?_ _ | refine blk_drew ?_ | refine blk_alloc ?_ _)); exact BK601.out) hb); have n3_ := Aside0.mk (below_step (by repeat (first | (with_reducible first | exact HB.out | apply below_alloc | apply pw_below_drewN | apply below_drew1 | refine below_set ?_ GE601.out) | exact HB.out)) hb); have n4_ := Aside0.mk (hbox); have n5_ := Aside0.mk ((by rw [hg]; exact (below_size (by repeat (first | (with_reducible first | exact HB.out | apply below_alloc | apply pw_below_drewN | apply below_drew1 | refine below_set ?_ GE601.out) | exact HB.out))) : w.heap.size ≤ gb612)); have n6_ := Aside0.mk ((by rw [hg]; exact (below_size (by repeat (first | (with_reducible first | exact HB.out | apply below_alloc | apply pw_below_drewN | apply below_drew1 | refine below_set ?_ GE601.out) | exact HB.out))) : w.heap.size ≤ gb612)); have n7_ := Aside0.mk ((by rw [hg]; exact Nat.ne_of_lt (blk_lt (g := gb601) (o := .cells #[.int .i64 a0_0, .slice A0_1 l0_1.length c0_1] 30 (0, 0)) (by (with_reducible repeat (first | refine blk_drewN ?_ _ | refine blk_drew ?_ | refine blk_alloc ?_ _)); exact BK601.out)) : gb601 ≠ gb612)); have n8_ := Aside0.mk ((by rw [hg]; exact Nat.ne_of_gt (blk_lt (g := gb601) (o := .cells #[.int .i64 a0_0, .slice A0_1 l0_1.length c0_1] 30 (0, 0)) (by (with_reducible repeat (first | refine blk_drewN ?_ _ | refine blk_drew ?_ | refine blk_alloc ?_ _)); exact BK601.out)) : gb612 ≠ gb601)); clear HO606; clear HO610; clear BK601; clear HB; have HO606 := n0_; have HO610 := n1_; have BK601 := n2_; have HB := n3_; have BK612 := n4_; have GW612 := n5_; have GE612 := n6_; have NB601_612 := n7_; have NB612_601 := n8_; clear n0_ n1_ n2_ n3_ n4_ n5_ n6_ n7_ n8_; clear hb hbox hg; have hnb20 := NB612_601.out; have hnc20 := NB601_612.out; have hcz21_0 : w19.cell? ⟨gb612, 0, none⟩ = some (.int .i64 0) := (blk_cell BK612.out 0).trans rfl; have hcz21_1 : w19.cell? ⟨gb612, 1, none⟩ = some (.slice none 0 0) := (blk_cell BK612.out 1).trans rfl; have hfz21_0 := blk_frozen BK612.out 0; have hfz21_1 := blk_frozen BK612.out 1; obtain ⟨Ao22, co22, eo22⟩ := Kd.R_slice HO610.out; subst eo22; have hcz23_0 : w19.cell? ⟨gb601, 0, none⟩ = some (.int .i64 a0_0) := (blk_cell BK601.out 0).trans rfl; have hcz23_1 : w19.cell? ⟨gb601, 1, none⟩ = some (.slice A0_1 l0_1.length c0_1) := (blk_cell BK601.out 1).trans rfl; have hfz23_0 := blk_frozen BK601.out 0; have hfz23_1 := blk_frozen BK601.out 1) | ((with_reducible refine gate_callee (f := 22) rfl ?_); refine goesL_ (some 26) rfl rfl Try.func22 (by kernel_rfl) rfl #[.agg #[.int .i64 a0_0, .slice A0_1 l0_1.length c0_1]] rfl (by (try simp only [List.map_toArray, List.map_cons, List.map_nil]); first | done | rfl | (simp only [List.length_drop, List.length_take]; rfl)) ?_; (with_reducible refine (laws_toBraid.calls k a0_0 _ _ l0_1 t613 t614 _ ?side1 ?side2 A9.out).mono ?_); (case side1 => exact Kd.C_below HR0_1.out (by repeat (first | (with_reducible first | exact HB.out | apply below_alloc | apply pw_below_drewN | apply below_drew1 | refine below_set ?_ GE601.out | refine below_set ?_ GE612.out) | exact HB.out))); (case side2 => exact HC0_1.out); rintro e w24 ⟨v615, rfl, ho0, hb⟩; refine ⟨_, rfl, ?_⟩; have n0_ := Aside0.mk (Kd.R_elder' (by (with_reducible repeat (first | apply Kd.R_alloc | apply Kd.R_drewN | apply Kd.R_drew)); exact (Kd.R_mono (Kd.R_far (p := ⟨gb612, 1, none⟩) (Kd.R_far (p := ⟨gb612, 0, none⟩) (Kd.R_types HO606.out BK612.out (by decide)) (fun _ hk => hk.2) (.int .i64 t607)) (fun _ hk => hk.2) (.slice Ao22 t608.length co22)) (fun _ h_ => h_.1))) (Kd.R_base ho0) hb); have n1_ := Aside0.mk (Kd.R_elder' (by (with_reducible repeat (first | apply Kd.R_alloc | apply Kd.R_drewN | apply Kd.R_drew)); exact (Kd.R_mono (Kd.R_far (p := ⟨gb612, 1, none⟩) (Kd.R_far (p := ⟨gb612, 0, none⟩) (Kd.R_types HO610.out BK612.out (by decide)) (fun _ hk => hk.2) (.int .i64 t607)) (fun _ hk => hk.2) (.slice Ao22 t608.length co22)) (fun _ h_ => h_.1))) (Kd.R_base ho0) hb); have n2_ := Aside0.mk (Kd.R_lower (Kd.R_new' (Kd.R_new' ho0 (Kd.R_lt (by (with_reducible repeat (first | apply Kd.R_alloc | apply Kd.R_drewN | apply Kd.R_drew)); exact (Kd.R_mono (Kd.R_far (p := ⟨gb612, 1, none⟩) (Kd.R_far (p := ⟨gb612, 0, none⟩) (Kd.R_types HO606.out BK612.out (by decide)) (fun _ hk => hk.2) (.int .i64 t607)) (fun _ hk => hk.2) (.slice Ao22 t608.length co22)) (fun _ h_ => h_.1))))) (Kd.R_lt (by (with_reducible repeat (first | apply Kd.R_alloc | apply Kd.R_drewN | apply Kd.R_drew)); exact (Kd.R_mono (Kd.R_far (p := ⟨gb612, 1, none⟩) (Kd.R_far (p := ⟨gb612, 0, none⟩) (Kd.R_types HO610.out BK612.out (by decide)) (fun _ hk => hk.2) (.int .i64 t607)) (fun _ hk => hk.2) (.slice Ao22 t608.length co22)) (fun _ h_ => h_.1))))) (below_size (by repeat (first | (with_reducible first | exact HB.out | apply below_alloc | apply pw_below_drewN | apply below_drew1 | refine below_set ?_ GE601.out | refine below_set ?_ GE612.out) | exact HB.out)))); have n3_ := Aside0.mk (blk_below (g := gb601) (o := .cells #[.int .i64 a0_0, .slice A0_1 l0_1.length c0_1] 30 (0, 0)) (by (with_reducible repeat (first | refine blk_drewN ?_ _ | refine blk_drew ?_ | refine blk_alloc ?_ _)); refine blk_far ?_ NB601_612.out _; (with_reducible repeat (first | refine blk_drewN ?_ _ | refine blk_drew ?_ | refine blk_alloc ?_ _)); refine blk_far ?_ NB601_612.out _; (with_reducible repeat (first | refine blk_drewN ?_ _ | refine blk_drew ?_ | refine blk_alloc ?_ _)); exact BK601.out) hb); have n4_ := Aside0.mk (blk_below (g := gb612) (o := .cells #[.int .i64 t607, .slice Ao22 t608.length co22] 33 (0, 0)) (by (with_reducible repeat (first | refine blk_drewN ?_ _ | refine blk_drew ?_ | refine blk_alloc ?_ _)); refine blk_put (cs := #[.int .i64 t607, .slice none 0 0]) ?_ 1 _ rfl; (with_reducible repeat (first | refine blk_drewN ?_ _ | refine blk_drew ?_ | refine blk_alloc ?_ _)); refine blk_put (cs := #[.int .i64 0, .slice none 0 0]) ?_ 0 _ rfl; (with_reducible repeat (first | refine blk_drewN ?_ _ | refine blk_drew ?_ | refine blk_alloc ?_ _)); exact BK612.out) hb); have n5_ := Aside0.mk (below_step (by repeat (first | (with_reducible first | exact HB.out | apply below_alloc | apply pw_below_drewN | apply below_drew1 | refine below_set ?_ GE601.out | refine below_set ?_ GE612.out) | exact HB.out)) hb); clear HO606; clear HO610; clear BK601; clear BK612; clear HB; have HO606 := n0_; have HO610 := n1_; have HO616 := n2_; have BK601 := n3_; have BK612 := n4_; have HB := n5_; clear n0_ n1_ n2_ n3_ n4_ n5_; (try clear hb); (try clear hb2); (try clear hk); (try clear hi); (try clear ho0)) | (go_at_call 22; (with_reducible refine (laws_toBraid.calls k a0_0 _ _ l0_1 t613 t614 _ ?side1 ?side2 A9.out).mono ?_); (case side1 => exact Kd.C_below HR0_1.out (by repeat (first | (with_reducible first | exact HB.out | apply below_alloc | apply pw_below_drewN | apply below_drew1 | refine below_set ?_ GE601.out | refine below_set ?_ GE612.out) | exact HB.out))); (case side2 => exact HC0_1.out); rintro e w24 ⟨v615, rfl, ho0, hb⟩; have n0_ := Aside0.mk (Kd.R_elder' (by (with_reducible repeat (first | apply Kd.R_alloc | apply Kd.R_drewN | apply Kd.R_drew)); exact (Kd.R_mono (Kd.R_far (p := ⟨gb612, 1, none⟩) (Kd.R_far (p := ⟨gb612, 0, none⟩) (Kd.R_types HO606.out BK612.out (by decide)) (fun _ hk => hk.2) (.int .i64 t607)) (fun _ hk => hk.2) (.slice Ao22 t608.length co22)) (fun _ h_ => h_.1))) (Kd.R_base ho0) hb); have n1_ := Aside0.mk (Kd.R_elder' (by (with_reducible repeat (first | apply Kd.R_alloc | apply Kd.R_drewN | apply Kd.R_drew)); exact (Kd.R_mono (Kd.R_far (p := ⟨gb612, 1, none⟩) (Kd.R_far (p := ⟨gb612, 0, none⟩) (Kd.R_types HO610.out BK612.out (by decide)) (fun _ hk => hk.2) (.int .i64 t607)) (fun _ hk => hk.2) (.slice Ao22 t608.length co22)) (fun _ h_ => h_.1))) (Kd.R_base ho0) hb); have n2_ := Aside0.mk (Kd.R_lower (Kd.R_new' (Kd.R_new' ho0 (Kd.R_lt (by (with_reducible repeat (first | apply Kd.R_alloc | apply Kd.R_drewN | apply Kd.R_drew)); exact (Kd.R_mono (Kd.R_far (p := ⟨gb612, 1, none⟩) (Kd.R_far (p := ⟨gb612, 0, none⟩) (Kd.R_types HO606.out BK612.out (by decide)) (fun _ hk => hk.2) (.int .i64 t607)) (fun _ hk => hk.2) (.slice Ao22 t608.length co22)) (fun _ h_ => h_.1))))) (Kd.R_lt (by (with_reducible repeat (first | apply Kd.R_alloc | apply Kd.R_drewN | apply Kd.R_drew)); exact (Kd.R_mono (Kd.R_far (p := ⟨gb612, 1, none⟩) (Kd.R_far (p := ⟨gb612, 0, none⟩) (Kd.R_types HO610.out BK612.out (by decide)) (fun _ hk => hk.2) (.int .i64 t607)) (fun _ hk => hk.2) (.slice Ao22 t608.length co22)) (fun _ h_ => h_.1))))) (below_size (by repeat (first | (with_reducible first | exact HB.out | apply below_alloc | apply pw_below_drewN | apply below_drew1 | refine below_set ?_ GE601.out | refine below_set ?_ GE612.out) | exact HB.out)))); have n3_ := Aside0.mk (blk_below (g := gb601) (o := .cells #[.int .i64 a0_0, .slice A0_1 l0_1.length c0_1] 30 (0, 0)) (by (with_reducible repeat (first | refine blk_drewN ?_ _ | refine blk_drew ?_ | refine blk_alloc ?_ _)); refine blk_far ?_ NB601_612.out _; (with_reducible repeat (first | refine blk_drewN ?_ _ | refine blk_drew ?_ | refine blk_alloc ?_ _)); refine blk_far ?_ NB601_612.out _; (with_reducible repeat (first | refine blk_drewN ?_ _ | refine blk_drew ?_ | refine blk_alloc ?_ _)); exact BK601.out) hb); have n4_ := Aside0.mk (blk_below (g := gb612) (o := .cells #[.int .i64 t607, .slice Ao22 t608.length co22] 33 (0, 0)) (by (with_reducible repeat (first | refine blk_drewN ?_ _ | refine blk_drew ?_ | refine blk_alloc ?_ _)); refine blk_put (cs := #[.int .i64 t607, .slice none 0 0]) ?_ 1 _ rfl; (with_reducible repeat (first | refine blk_drewN ?_ _ | refine blk_drew ?_ | refine blk_alloc ?_ _)); refine blk_put (cs := #[.int .i64 0, .slice none 0 0]) ?_ 0 _ rfl; (with_reducible repeat (first | refine blk_drewN ?_ _ | refine blk_drew ?_ | refine blk_alloc ?_ _)); exact BK612.out) hb); have n5_ := Aside0.mk (below_step (by repeat (first | (with_reducible first | exact HB.out | apply below_alloc | apply pw_below_drewN | apply below_drew1 | refine below_set ?_ GE601.out | refine below_set ?_ GE612.out) | exact HB.out)) hb); clear HO606; clear HO610; clear BK601; clear BK612; clear HB; have HO606 := n0_; have HO610 := n1_; have HO616 := n2_; have BK601 := n3_; have BK612 := n4_; have HB := n5_; clear n0_ n1_ n2_ n3_ n4_ n5_; (try clear hb); (try clear hb2); (try clear hk); (try clear hi); (try clear ho0)) | ((with_reducible refine gate_dst (N := 6) rfl ?_); refine box_event ?hg (N := 6) ?hd (cs := #[.int .i64 0, .slice none 0 0]) (t := 33) ?hr ?_; (case hd => rfl); (case hg => rfl); (case hr => first | (go_simp; done) | (go_simp; rfl)); intro gb617 hg w25 hbox hb; have n0_ := Aside0.mk (Kd.R_below (by (with_reducible repeat (first | apply Kd.R_alloc | apply Kd.R_drewN | apply Kd.R_drew)); exact HO606.out) hb); have n1_ := Aside0.mk (Kd.R_below (by (with_reducible repeat (first | apply Kd.R_alloc | apply Kd.R_drewN | apply Kd.R_drew)); exact HO610.out) hb); have n2_ := Aside0.mk (Kd.R_below (by (with_reducible repeat (first | apply Kd.R_alloc | apply Kd.R_drewN | apply Kd.R_drew)); exact HO616.out) hb); have n3_ := Aside0.mk (blk_below (g := gb601) (o := .cells #[.int .i64 a0_0, .slice A0_1 l0_1.length c0_1] 30 (0, 0)) (by (with_reducible repeat (first | refine blk_drewN ?_ _ | refine blk_drew ?_ | refine blk_alloc ?_ _)); exact BK601.out) hb); have n4_ := Aside0.mk (blk_below (g := gb612) (o := .cells #[.int .i64 t607, .slice Ao22 t608.length co22] 33 (0, 0)) (by (with_reducible repeat (first | refine blk_drewN ?_ _ | refine blk_drew ?_ | refine blk_alloc ?_ _)); exact BK612.out) hb); have n5_ := Aside0.mk (below_step (by repeat (first | (with_reducible first | exact HB.out | apply below_alloc | apply pw_below_drewN | apply below_drew1 | refine below_set ?_ GE601.out | refine below_set ?_ GE612.out) | exact HB.out)) hb); have n6_ := Aside0.mk (hbox); have n7_ := Aside0.mk ((by rw [hg]; exact (below_size (by repeat (first | (with_reducible first | exact HB.out | apply below_alloc | apply pw_below_drewN | apply below_drew1 | refine below_set ?_ GE601.out | refine below_set ?_ GE612.out) | exact HB.out))) : w.heap.size ≤ gb617)); have n8_ := Aside0.mk ((by rw [hg]; exact (below_size (by repeat (first | (with_reducible first | exact HB.out | apply below_alloc | apply pw_below_drewN | apply below_drew1 | refine below_set ?_ GE601.out | refine below_set ?_ GE612.out) | exact HB.out))) : w.heap.size ≤ gb617)); have n9_ := Aside0.mk ((by rw [hg]; exact Nat.ne_of_lt (blk_lt (g := gb601) (o := .cells #[.int .i64 a0_0, .slice A0_1 l0_1.length c0_1] 30 (0, 0)) (by (with_reducible repeat (first | refine blk_drewN ?_ _ | refine blk_drew ?_ | refine blk_alloc ?_ _)); exact BK601.out)) : gb601 ≠ gb617)); have n10_ := Aside0.mk ((by rw [hg]; exact Nat.ne_of_gt (blk_lt (g := gb601) (o := .cells #[.int .i64 a0_0, .slice A0_1 l0_1.length c0_1] 30 (0, 0)) (by (with_reducible repeat (first | refine blk_drewN ?_ _ | refine blk_drew ?_ | refine blk_alloc ?_ _)); exact BK601.out)) : gb617 ≠ gb601)); have n11_ := Aside0.mk ((by rw [hg]; exact Nat.ne_of_lt (blk_lt (g := gb612) (o := .cells #[.int .i64 t607, .slice Ao22 t608.length co22] 33 (0, 0)) (by (with_reducible repeat (first | refine blk_drewN ?_ _ | refine blk_drew ?_ | refine blk_alloc ?_ _)); exact BK612.out)) : gb612 ≠ gb617)); have n12_ := Aside0.mk ((by rw [hg]; exact Nat.ne_of_gt (blk_lt (g := gb612) (o := .cells #[.int .i64 t607, .slice Ao22 t608.length co22] 33 (0, 0)) (by (with_reducible repeat (first | refine blk_drewN ?_ _ | refine blk_drew ?_ | refine blk_alloc ?_ _)); exact BK612.out)) : gb617 ≠ gb612)); clear HO606; clear HO610; clear HO616; clear BK601; clear BK612; clear HB; have HO606 := n0_; have HO610 := n1_; have HO616 := n2_; have BK601 := n3_; have BK612 := n4_; have HB := n5_; have BK617 := n6_; have GW617 := n7_; have GE617 := n8_; have NB601_617 := n9_; have NB617_601 := n10_; have NB612_617 := n11_; have NB617_612 := n12_; clear n0_ n1_ n2_ n3_ n4_ n5_ n6_ n7_ n8_ n9_ n10_ n11_ n12_; clear hb hbox hg; have hnb26 := NB617_601.out; have hnc26 := NB601_617.out; have hnb27 := NB617_612.out; have hnc27 := NB612_617.out; have hcz28_0 : w25.cell? ⟨gb617, 0, none⟩ = some (.int .i64 0) := (blk_cell BK617.out 0).trans rfl; have hcz28_1 : w25.cell? ⟨gb617, 1, none⟩ = some (.slice none 0 0) := (blk_cell BK617.out 1).trans rfl; have hfz28_0 := blk_frozen BK617.out 0; have hfz28_1 := blk_frozen BK617.out 1; obtain ⟨Ao29, co29, eo29⟩ := Kd.R_slice HO616.out; subst eo29) | ((with_reducible refine gate_callee (f := 38) rfl ?_); refine goesL_ (some 29) rfl rfl Try.func38 (by kernel_rfl) rfl #[.agg #[.int .i64 t613, .slice Ao29 t614.length co29]] rfl (by (try simp only [List.map_toArray, List.map_cons, List.map_nil]); first | done | rfl | (simp only [List.length_drop, List.length_take]; rfl)) ?_; (with_reducible refine (impl_DestabilizeBraid.calls k t613 _ _ t614 t618 t619 t622 _ ?side1 ?side2 A10.out).mono ?_); (case side1 => refine (Kd.R_reads' (e := 2) (base := w.heap.size) (ok := fun k_ => ((True ∧ some k_ ≠ (.slice Ao17 t604.length co17 : Value).ownBlock) ∧ some k_ ≠ (.slice Ao22 t608.length co22 : Value).ownBlock)) (n := t614.length) (c := co29) ?_).2.2; exact (by (with_reducible repeat (first | apply Kd.R_alloc | apply Kd.R_drewN | apply Kd.R_drew)); exact (Kd.R_mono (Kd.R_far (p := ⟨gb617, 1, none⟩) (Kd.R_far (p := ⟨gb617, 0, none⟩) (Kd.R_types HO616.out BK617.out (by decide)) (fun _ hk => hk.2) (.int .i64 t613)) (fun _ hk => hk.2) (.slice Ao29 t614.length co29)) (fun _ h_ => h_.1)))); (case side2 => exact (Kd.R_reads' HO616.out).2.1); rintro e w30 ⟨v620, rfl, ho0, hb⟩; refine ⟨_, rfl, ?_⟩; have n0_ := Aside0.mk (Kd.R_elder' (by (with_reducible repeat (first | apply Kd.R_alloc | apply Kd.R_drewN | apply Kd.R_drew)); exact (Kd.R_mono (Kd.R_far (p := ⟨gb617, 1, none⟩) (Kd.R_far (p := ⟨gb617, 0, none⟩) (Kd.R_types HO606.out BK617.out (by decide)) (fun _ hk => hk.2) (.int .i64 t613)) (fun _ hk => hk.2) (.slice Ao29 t614.length co29)) (fun _ h_ => h_.1))) (Kd.R_base ho0) hb); have n1_ := Aside0.mk (Kd.R_elder' (by (with_reducible repeat (first | apply Kd.R_alloc | apply Kd.R_drewN | apply Kd.R_drew)); exact (Kd.R_mono (Kd.R_far (p := ⟨gb617, 1, none⟩) (Kd.R_far (p := ⟨gb617, 0, none⟩) (Kd.R_types HO610.out BK617.out (by decide)) (fun _ hk => hk.2) (.int .i64 t613)) (fun _ hk => hk.2) (.slice Ao29 t614.length co29)) (fun _ h_ => h_.1))) (Kd.R_base ho0) hb); have n2_ := Aside0.mk (Kd.R_elder' (by (with_reducible repeat (first | apply Kd.R_alloc | apply Kd.R_drewN | apply Kd.R_drew)); exact (Kd.R_mono (Kd.R_far (p := ⟨gb617, 1, none⟩) (Kd.R_far (p := ⟨gb617, 0, none⟩) (Kd.R_types HO616.out BK617.out (by decide)) (fun _ hk => hk.2) (.int .i64 t613)) (fun _ hk => hk.2) (.slice Ao29 t614.length co29)) (fun _ h_ => h_.1))) (Kd.R_base ho0) hb); have n3_ := Aside0.mk (Kd.R_lower (Kd.R_new' (Kd.R_new' (Kd.R_new' ho0 (Kd.R_lt (by (with_reducible repeat (first | apply Kd.R_alloc | apply Kd.R_drewN | apply Kd.R_drew)); exact (Kd.R_mono (Kd.R_far (p := ⟨gb617, 1, none⟩) (Kd.R_far (p := ⟨gb617, 0, none⟩) (Kd.R_types HO606.out BK617.out (by decide)) (fun _ hk => hk.2) (.int .i64 t613)) (fun _ hk => hk.2) (.slice Ao29 t614.length co29)) (fun _ h_ => h_.1))))) (Kd.R_lt (by (with_reducible repeat (first | apply Kd.R_alloc | apply Kd.R_drewN | apply Kd.R_drew)); exact (Kd.R_mono (Kd.R_far (p := ⟨gb617, 1, none⟩) (Kd.R_far (p := ⟨gb617, 0, none⟩) (Kd.R_types HO610.out BK617.out (by decide)) (fun _ hk => hk.2) (.int .i64 t613)) (fun _ hk => hk.2) (.slice Ao29 t614.length co29)) (fun _ h_ => h_.1))))) (Kd.R_lt (by (with_reducible repeat (first | apply Kd.R_alloc | apply Kd.R_drewN | apply Kd.R_drew)); exact (Kd.R_mono (Kd.R_far (p := ⟨gb617, 1, none⟩) (Kd.R_far (p := ⟨gb617, 0, none⟩) (Kd.R_types HO616.out BK617.out (by decide)) (fun _ hk => hk.2) (.int .i64 t613)) (fun _ hk => hk.2) (.slice Ao29 t614.length co29)) (fun _ h_ => h_.1))))) (below_size (by repeat (first | (with_reducible first | exact HB.out | apply below_alloc | apply pw_below_drewN | apply below_drew1 | refine below_set ?_ GE601.out | refine below_set ?_ GE612.out | refine below_set ?_ GE617.out) | exact HB.out)))); have n4_ := Aside0.mk (blk_below (g := gb601) (o := .cells #[.int .i64 a0_0, .slice A0_1 l0_1.length c0_1] 30 (0, 0)) (by (with_reducible repeat (first | refine blk_drewN ?_ _ | refine blk_drew ?_ | refine blk_alloc ?_ _)); refine blk_far ?_ NB601_617.out _; (with_reducible repeat (first | refine blk_drewN ?_ _ | refine blk_drew ?_ | refine blk_alloc ?_ _)); refine blk_far ?_ NB601_617.out _; (with_reducible repeat (first | refine blk_drewN ?_ _ | refine blk_drew ?_ | refine blk_alloc ?_ _)); exact BK601.out) hb); have n5_ := Aside0.mk (blk_below (g := gb612) (o := .cells #[.int .i64 t607, .slice Ao22 t608.length co22] 33 (0, 0)) (by (with_reducible repeat (first | refine blk_drewN ?_ _ | refine blk_drew ?_ | refine blk_alloc ?_ _)); refine blk_far ?_ NB612_617.out _; (with_reducible repeat (first | refine blk_drewN ?_ _ | refine blk_drew ?_ | refine blk_alloc ?_ _)); refine blk_far ?_ NB612_617.out _; (with_reducible repeat (first | refine blk_drewN ?_ _ | refine blk_drew ?_ | refine blk_alloc ?_ _)); exact BK612.out) hb); have n6_ := Aside0.mk (blk_below (g := gb617) (o := .cells #[.int .i64 t613, .slice Ao29 t614.length co29] 33 (0, 0)) (by (with_reducible repeat (first | refine blk_drewN ?_ _ | refine blk_drew ?_ | refine blk_alloc ?_ _)); refine blk_put (cs := #[.int .i64 t613, .slice none 0 0]) ?_ 1 _ rfl; (with_reducible repeat (first | refine blk_drewN ?_ _ | refine blk_drew ?_ | refine blk_alloc ?_ _)); refine blk_put (cs := #[.int .i64 0, .slice none 0 0]) ?_ 0 _ rfl; (with_reducible repeat (first | refine blk_drewN ?_ _ | refine blk_drew ?_ | refine blk_alloc ?_ _)); exact BK617.out) hb); have n7_ := Aside0.mk (below_step (by repeat (first | (with_reducible first | exact HB.out | apply below_alloc | apply pw_below_drewN | apply below_drew1 | refine below_set ?_ GE601.out | refine below_set ?_ GE612.out | refine below_set ?_ GE617.out) | exact HB.out)) hb); clear HO606; clear HO610; clear HO616; clear BK601; clear BK612; clear BK617; clear HB; have HO606 := n0_; have HO610 := n1_; have HO616 := n2_; have HO621 := n3_; have BK601 := n4_; have BK612 := n5_; have BK617 := n6_; have HB := n7_; clear n0_ n1_ n2_ n3_ n4_ n5_ n6_ n7_; (try clear hb); (try clear hb2); (try clear hk); (try clear hi); (try clear ho0)) | (go_at_call 38; (with_reducible refine (impl_DestabilizeBraid.calls k t613 _ _ t614 t618 t619 t622 _ ?side1 ?side2 A10.out).mono ?_); (case side1 => refine (Kd.R_reads' (e := 2) (base := w.heap.size) (ok := fun k_ => ((True ∧ some k_ ≠ (.slice Ao17 t604.length co17 : Value).ownBlock) ∧ some k_ ≠ (.slice Ao22 t608.length co22 : Value).ownBlock)) (n := t614.length) (c := co29) ?_).2.2; exact (by (with_reducible repeat (first | apply Kd.R_alloc | apply Kd.R_drewN | apply Kd.R_drew)); exact (Kd.R_mono (Kd.R_far (p := ⟨gb617, 1, none⟩) (Kd.R_far (p := ⟨gb617, 0, none⟩) (Kd.R_types HO616.out BK617.out (by decide)) (fun _ hk => hk.2) (.int .i64 t613)) (fun _ hk => hk.2) (.slice Ao29 t614.length co29)) (fun _ h_ => h_.1)))); (case side2 => exact (Kd.R_reads' HO616.out).2.1); rintro e w30 ⟨v620, rfl, ho0, hb⟩; have n0_ := Aside0.mk (Kd.R_elder' (by (with_reducible repeat (first | apply Kd.R_alloc | apply Kd.R_drewN | apply Kd.R_drew)); exact (Kd.R_mono (Kd.R_far (p := ⟨gb617, 1, none⟩) (Kd.R_far (p := ⟨gb617, 0, none⟩) (Kd.R_types HO606.out BK617.out (by decide)) (fun _ hk => hk.2) (.int .i64 t613)) (fun _ hk => hk.2) (.slice Ao29 t614.length co29)) (fun _ h_ => h_.1))) (Kd.R_base ho0) hb); have n1_ := Aside0.mk (Kd.R_elder' (by (with_reducible repeat (first | apply Kd.R_alloc | apply Kd.R_drewN | apply Kd.R_drew)); exact (Kd.R_mono (Kd.R_far (p := ⟨gb617, 1, none⟩) (Kd.R_far (p := ⟨gb617, 0, none⟩) (Kd.R_types HO610.out BK617.out (by decide)) (fun _ hk => hk.2) (.int .i64 t613)) (fun _ hk => hk.2) (.slice Ao29 t614.length co29)) (fun _ h_ => h_.1))) (Kd.R_base ho0) hb); have n2_ := Aside0.mk (Kd.R_elder' (by (with_reducible repeat (first | apply Kd.R_alloc | apply Kd.R_drewN | apply Kd.R_drew)); exact (Kd.R_mono (Kd.R_far (p := ⟨gb617, 1, none⟩) (Kd.R_far (p := ⟨gb617, 0, none⟩) (Kd.R_types HO616.out BK617.out (by decide)) (fun _ hk => hk.2) (.int .i64 t613)) (fun _ hk => hk.2) (.slice Ao29 t614.length co29)) (fun _ h_ => h_.1))) (Kd.R_base ho0) hb); have n3_ := Aside0.mk (Kd.R_lower (Kd.R_new' (Kd.R_new' (Kd.R_new' ho0 (Kd.R_lt (by (with_reducible repeat (first | apply Kd.R_alloc | apply Kd.R_drewN | apply Kd.R_drew)); exact (Kd.R_mono (Kd.R_far (p := ⟨gb617, 1, none⟩) (Kd.R_far (p := ⟨gb617, 0, none⟩) (Kd.R_types HO606.out BK617.out (by decide)) (fun _ hk => hk.2) (.int .i64 t613)) (fun _ hk => hk.2) (.slice Ao29 t614.length co29)) (fun _ h_ => h_.1))))) (Kd.R_lt (by (with_reducible repeat (first | apply Kd.R_alloc | apply Kd.R_drewN | apply Kd.R_drew)); exact (Kd.R_mono (Kd.R_far (p := ⟨gb617, 1, none⟩) (Kd.R_far (p := ⟨gb617, 0, none⟩) (Kd.R_types HO610.out BK617.out (by decide)) (fun _ hk => hk.2) (.int .i64 t613)) (fun _ hk => hk.2) (.slice Ao29 t614.length co29)) (fun _ h_ => h_.1))))) (Kd.R_lt (by (with_reducible repeat (first | apply Kd.R_alloc | apply Kd.R_drewN | apply Kd.R_drew)); exact (Kd.R_mono (Kd.R_far (p := ⟨gb617, 1, none⟩) (Kd.R_far (p := ⟨gb617, 0, none⟩) (Kd.R_types HO616.out BK617.out (by decide)) (fun _ hk => hk.2) (.int .i64 t613)) (fun _ hk => hk.2) (.slice Ao29 t614.length co29)) (fun _ h_ => h_.1))))) (below_size (by repeat (first | (with_reducible first | exact HB.out | apply below_alloc | apply pw_below_drewN | apply below_drew1 | refine below_set ?_ GE601.out | refine below_set ?_ GE612.out | refine below_set ?_ GE617.out) | exact HB.out)))); have n4_ := Aside0.mk (blk_below (g := gb601) (o := .cells #[.int .i64 a0_0, .slice A0_1 l0_1.length c0_1] 30 (0, 0)) (by (with_reducible repeat (first | refine blk_drewN ?_ _ | refine blk_drew ?_ | refine blk_alloc ?_ _)); refine blk_far ?_ NB601_617.out _; (with_reducible repeat (first | refine blk_drewN ?_ _ | refine blk_drew ?_ | refine blk_alloc ?_ _)); refine blk_far ?_ NB601_617.out _; (with_reducible repeat (first | refine blk_drewN ?_ _ | refine blk_drew ?_ | refine blk_alloc ?_ _)); exact BK601.out) hb); have n5_ := Aside0.mk (blk_below (g := gb612) (o := .cells #[.int .i64 t607, .slice Ao22 t608.length co22] 33 (0, 0)) (by (with_reducible repeat (first | refine blk_drewN ?_ _ | refine blk_drew ?_ | refine blk_alloc ?_ _)); refine blk_far ?_ NB612_617.out _; (with_reducible repeat (first | refine blk_drewN ?_ _ | refine blk_drew ?_ | refine blk_alloc ?_ _)); refine blk_far ?_ NB612_617.out _; (with_reducible repeat (first | refine blk_drewN ?_ _ | refine blk_drew ?_ | refine blk_alloc ?_ _)); exact BK612.out) hb); have n6_ := Aside0.mk (blk_below (g := gb617) (o := .cells #[.int .i64 t613, .slice Ao29 t614.length co29] 33 (0, 0)) (by (with_reducible repeat (first | refine blk_drewN ?_ _ | refine blk_drew ?_ | refine blk_alloc ?_ _)); refine blk_put (cs := #[.int .i64 t613, .slice none 0 0]) ?_ 1 _ rfl; (with_reducible repeat (first | refine blk_drewN ?_ _ | refine blk_drew ?_ | refine blk_alloc ?_ _)); refine blk_put (cs := #[.int .i64 0, .slice none 0 0]) ?_ 0 _ rfl; (with_reducible repeat (first | refine blk_drewN ?_ _ | refine blk_drew ?_ | refine blk_alloc ?_ _)); exact BK617.out) hb); have n7_ := Aside0.mk (below_step (by repeat (first | (with_reducible first | exact HB.out | apply below_alloc | apply pw_below_drewN | apply below_drew1 | refine below_set ?_ GE601.out | refine below_set ?_ GE612.out | refine below_set ?_ GE617.out) | exact HB.out)) hb); clear HO606; clear HO610; clear HO616; clear BK601; clear BK612; clear BK617; clear HB; have HO606 := n0_; have HO610 := n1_; have HO616 := n2_; have HO621 := n3_; have BK601 := n4_; have BK612 := n5_; have BK617 := n6_; have HB := n7_; clear n0_ n1_ n2_ n3_ n4_ n5_ n6_ n7_; (try clear hb); (try clear hb2); (try clear hk); (try clear hi); (try clear ho0)) | ((with_reducible refine gate_dst (N := 7) rfl ?_); refine box_event ?hg (N := 7) ?hd (cs := #[.int .i64 0, .slice none 0 0]) (t := 33) ?hr ?_; (case hd => rfl); (case hg => rfl); (case hr => first | (go_simp; done) | (go_simp; rfl)); intro gb623 hg w31 hbox hb; have n0_ := Aside0.mk (Kd.R_below (by (with_reducible repeat (first | apply Kd.R_alloc | apply Kd.R_drewN | apply Kd.R_drew)); exact HO606.out) hb); have n1_ := Aside0.mk (Kd.R_below (by (with_reducible repeat (first | apply Kd.R_alloc | apply Kd.R_drewN | apply Kd.R_drew)); exact HO610.out) hb); have n2_ := Aside0.mk (Kd.R_below (by (with_reducible repeat (first | apply Kd.R_alloc | apply Kd.R_drewN | apply Kd.R_drew)); exact HO616.out) hb); have n3_ := Aside0.mk (Kd.R_below (by (with_reducible repeat (first | apply Kd.R_alloc | apply Kd.R_drewN | apply Kd.R_drew)); exact HO621.out) hb); have n4_ := Aside0.mk (blk_below (g := gb601) (o := .cells #[.int .i64 a0_0, .slice A0_1 l0_1.length c0_1] 30 (0, 0)) (by (with_reducible repeat (first | refine blk_drewN ?_ _ | refine blk_drew ?_ | refine blk_alloc ?_ _)); exact BK601.out) hb); have n5_ := Aside0.mk (blk_below (g := gb612) (o := .cells #[.int .i64 t607, .slice Ao22 t608.length co22] 33 (0, 0)) (by (with_reducible repeat (first | refine blk_drewN ?_ _ | refine blk_drew ?_ | refine blk_alloc ?_ _)); exact BK612.out) hb); have n6_ := Aside0.mk (blk_below (g := gb617) (o := .cells #[.int .i64 t613, .slice Ao29 t614.length co29] 33 (0, 0)) (by (with_reducible repeat (first | refine blk_drewN ?_ _ | refine blk_drew ?_ | refine blk_alloc ?_ _)); exact BK617.out) hb); have n7_ := Aside0.mk (below_step (by repeat (first | (with_reducible first | exact HB.out | apply below_alloc | apply pw_below_drewN | apply below_drew1 | refine below_set ?_ GE601.out | refine below_set ?_ GE612.out | refine below_set ?_ GE617.out) | exact HB.out)) hb); have n8_ := Aside0.mk (hbox); have n9_ := Aside0.mk ((by rw [hg]; exact (below_size (by repeat (first | (with_reducible first | exact HB.out | apply below_alloc | apply pw_below_drewN | apply below_drew1 | refine below_set ?_ GE601.out | refine below_set ?_ GE612.out | refine below_set ?_ GE617.out) | exact HB.out))) : w.heap.size ≤ gb623)); have n10_ := Aside0.mk ((by rw [hg]; exact (below_size (by repeat (first | (with_reducible first | exact HB.out | apply below_alloc | apply pw_below_drewN | apply below_drew1 | refine below_set ?_ GE601.out | refine below_set ?_ GE612.out | refine below_set ?_ GE617.out) | exact HB.out))) : w.heap.size ≤ gb623)); have n11_ := Aside0.mk ((by rw [hg]; exact Nat.ne_of_lt (blk_lt (g := gb601) (o := .cells #[.int .i64 a0_0, .slice A0_1 l0_1.length c0_1] 30 (0, 0)) (by (with_reducible repeat (first | refine blk_drewN ?_ _ | refine blk_drew ?_ | refine blk_alloc ?_ _)); exact BK601.out)) : gb601 ≠ gb623)); have n12_ := Aside0.mk ((by rw [hg]; exact Nat.ne_of_gt (blk_lt (g := gb601) (o := .cells #[.int .i64 a0_0, .slice A0_1 l0_1.length c0_1] 30 (0, 0)) (by (with_reducible repeat (first | refine blk_drewN ?_ _ | refine blk_drew ?_ | refine blk_alloc ?_ _)); exact BK601.out)) : gb623 ≠ gb601)); have n13_ := Aside0.mk ((by rw [hg]; exact Nat.ne_of_lt (blk_lt (g := gb612) (o := .cells #[.int .i64 t607, .slice Ao22 t608.length co22] 33 (0, 0)) (by (with_reducible repeat (first | refine blk_drewN ?_ _ | refine blk_drew ?_ | refine blk_alloc ?_ _)); exact BK612.out)) : gb612 ≠ gb623)); have n14_ := Aside0.mk ((by rw [hg]; exact Nat.ne_of_gt (blk_lt (g := gb612) (o := .cells #[.int .i64 t607, .slice Ao22 t608.length co22] 33 (0, 0)) (by (with_reducible repeat (first | refine blk_drewN ?_ _ | refine blk_drew ?_ | refine blk_alloc ?_ _)); exact BK612.out)) : gb623 ≠ gb612)); have n15_ := Aside0.mk ((by rw [hg]; exact Nat.ne_of_lt (blk_lt (g := gb617) (o := .cells #[.int .i64 t613, .slice Ao29 t614.length co29] 33 (0, 0)) (by (with_reducible repeat (first | refine blk_drewN ?_ _ | refine blk_drew ?_ | refine blk_alloc ?_ _)); exact BK617.out)) : gb617 ≠ gb623)); have n16_ := Aside0.mk ((by rw [hg]; exact Nat.ne_of_gt (blk_lt (g := gb617) (o := .cells #[.int .i64 t613, .slice Ao29 t614.length co29] 33 (0, 0)) (by (with_reducible repeat (first | refine blk_drewN ?_ _ | refine blk_drew ?_ | refine blk_alloc ?_ _)); exact BK617.out)) : gb623 ≠ gb617)); clear HO606; clear HO610; clear HO616; clear HO621; clear BK601; clear BK612; clear BK617; clear HB; have HO606 := n0_; have HO610 := n1_; have HO616 := n2_; have HO621 := n3_; have BK601 := n4_; have BK612 := n5_; have BK617 := n6_; have HB := n7_; have BK623 := n8_; have GW623 := n9_; have GE623 := n10_; have NB601_623 := n11_; have NB623_601 := n12_; have NB612_623 := n13_; have NB623_612 := n14_; have NB617_623 := n15_; have NB623_617 := n16_; clear n0_ n1_ n2_ n3_ n4_ n5_ n6_ n7_ n8_ n9_ n10_ n11_ n12_ n13_ n14_ n15_ n16_; clear hb hbox hg; have hnb32 := NB623_601.out; have hnc32 := NB601_623.out; have hnb33 := NB623_612.out; have hnc33 := NB612_623.out; have hnb34 := NB623_617.out; have hnc34 := NB617_623.out; have hcz35_0 : w31.cell? ⟨gb623, 0, none⟩ = some (.int .i64 0) := (blk_cell BK623.out 0).trans rfl; have hcz35_1 : w31.cell? ⟨gb623, 1, none⟩ = some (.slice none 0 0) := (blk_cell BK623.out 1).trans rfl; have hfz35_0 := blk_frozen BK623.out 0; have hfz35_1 := blk_frozen BK623.out 1; obtain ⟨Ao36, co36, eo36⟩ := Kd.R_slice HO621.out; subst eo36))
    (try simp only [Act.put, List.setIfInBounds_toArray, List.set_cons_zero, List.set_cons_succ])
    go_cut [40] (fun v40 wc => ∃ (kq : Nat) (x40_10 : Bool), v40 = .bool x40_10 ∧ Aside0 (laws_FnExactDestabilizeBraid.j0 kq t611 t622 x40_10 a0_0 l0_1 t607 t608 t613 t614 t618 t619 = some r) ∧ Aside0 (kq ≤ k) ∧ Aside0 (Kd.R (Kd.int .i64) 2 wc w.heap.size (fun k_ => some k_ ≠ ((.slice Ao29 t614.length co29) : Value).ownBlock ∧ some k_ ≠ ((.slice Ao36 t619.length co36) : Value).ownBlock) (.slice Ao22 t608.length co22) t608) ∧ Aside0 (Kd.R (Kd.int .i64) 2 wc w.heap.size (fun k_ => some k_ ≠ ((.slice Ao22 t608.length co22) : Value).ownBlock ∧ some k_ ≠ ((.slice Ao36 t619.length co36) : Value).ownBlock) (.slice Ao29 t614.length co29) t614) ∧ Aside0 (Kd.R (Kd.int .i64) 2 wc w.heap.size (fun k_ => some k_ ≠ ((.slice Ao22 t608.length co22) : Value).ownBlock ∧ some k_ ≠ ((.slice Ao29 t614.length co29) : Value).ownBlock) (.slice Ao36 t619.length co36) t619) ∧ Aside0 (wc.heap[gb601]? = some (.cells #[.int .i64 a0_0, (.slice A0_1 l0_1.length c0_1)] 30 (0, 0))) ∧ Aside0 (wc.heap[gb612]? = some (.cells #[.int .i64 t607, (.slice Ao22 t608.length co22)] 33 (0, 0))) ∧ Aside0 (wc.heap[gb617]? = some (.cells #[.int .i64 t613, (.slice Ao29 t614.length co29)] 33 (0, 0))) ∧ Aside0 (wc.heap[gb623]? = some (.cells #[.int .i64 t618, (.slice Ao36 t619.length co36)] 33 (0, 0))) ∧ Aside0 (Below w.heap.size w wc))
    case first =>
      have H := HC11.out
      clear HC11
      replace H := Option.bind_eq_some_iff.mp H
      obtain ⟨t624, A370, H⟩ := H
      replace H : (if t624 = true then (laws_FnExactDestabilizeBraid.j0 k t611 t622 (t622 != t611) a0_0 l0_1 t607 t608 t613 t614 t618 t619) else (laws_FnExactDestabilizeBraid.j0 k t611 t622 true a0_0 l0_1 t607 t608 t613 t614 t618 t619)) = some r := H
      have A37 := Aside0.mk A370
      clear A370
      by_cases c38 : t624 = true
      · subst c38
        have H1 : (laws_FnExactDestabilizeBraid.j0 k t611 t622 (t622 != t611) a0_0 l0_1 t607 t608 t613 t614 t618 t619) = some r := by rw [if_pos rfl] at H; exact H
        clear H
        have H := H1
        clear H1
        have H' := Aside0.mk H
        clear H
        have hnb39 := NB623_601.out
        have hnc39 := NB601_623.out
        have hnb40 := NB623_612.out
        have hnc40 := NB612_623.out
        have hnb41 := NB623_617.out
        have hnc41 := NB617_623.out
        have hcz42_0 : w31.cell? ⟨gb623, 0, none⟩ = some (.int .i64 0) := (blk_cell BK623.out 0).trans rfl
        have hcz42_1 : w31.cell? ⟨gb623, 1, none⟩ = some (.slice none 0 0) := (blk_cell BK623.out 1).trans rfl
        have hfz42_0 := blk_frozen BK623.out 0
        have hfz42_1 := blk_frozen BK623.out 1
        have hnb43 := NB612_601.out
        have hnc43 := NB601_612.out
        have hnb44 := NB612_617.out
        have hnc44 := NB617_612.out
        have hcz45_0 : w31.cell? ⟨gb612, 0, none⟩ = some (.int .i64 t607) := (blk_cell BK612.out 0).trans rfl
        have hcz45_1 : w31.cell? ⟨gb612, 1, none⟩ = some (.slice Ao22 t608.length co22) := (blk_cell BK612.out 1).trans rfl
        have hfz45_0 := blk_frozen BK612.out 0
        have hfz45_1 := blk_frozen BK612.out 1
        go_wp2_with (first | ((with_reducible refine gate_callee (f := 24) rfl ?_); refine goesL_ (some 34) rfl rfl Try.func24 (by kernel_rfl) rfl #[.agg #[.int .i64 t618, .slice Ao36 t619.length co36], .agg #[.int .i64 t607, .slice Ao22 t608.length co22]] rfl (by (try simp only [List.map_toArray, List.map_cons, List.map_nil]); first | done | rfl | (simp only [List.length_drop, List.length_take]; rfl)) ?_; (with_reducible refine (laws_eqBraid.calls k t618 _ _ t619 t607 _ _ t608 true _ ?side1 ?side2 ?side3 ?side4 A37.out).mono ?_); (case side1 => refine (Kd.R_reads' (e := 2) (base := w.heap.size) (ok := fun k_ => (((True ∧ some k_ ≠ (.slice Ao17 t604.length co17 : Value).ownBlock) ∧ some k_ ≠ (.slice Ao22 t608.length co22 : Value).ownBlock) ∧ some k_ ≠ (.slice Ao29 t614.length co29 : Value).ownBlock)) (n := t619.length) (c := co36) ?_).2.2; exact (by (with_reducible repeat (first | apply Kd.R_alloc | apply Kd.R_drewN | apply Kd.R_drew)); exact (Kd.R_mono (Kd.R_far (p := ⟨gb623, 1, none⟩) (Kd.R_far (p := ⟨gb623, 0, none⟩) (Kd.R_types HO621.out BK623.out (by decide)) (fun _ hk => hk.2) (.int .i64 t618)) (fun _ hk => hk.2) (.slice Ao36 t619.length co36)) (fun _ h_ => h_.1)))); (case side2 => exact (Kd.R_reads' HO621.out).2.1); (case side3 => refine (Kd.R_reads' (e := 2) (base := w.heap.size) (ok := fun k_ => (((True ∧ some k_ ≠ (.slice Ao17 t604.length co17 : Value).ownBlock) ∧ some k_ ≠ (.slice Ao29 t614.length co29 : Value).ownBlock) ∧ some k_ ≠ (.slice Ao36 t619.length co36 : Value).ownBlock)) (n := t608.length) (c := co22) ?_).2.2; exact (by (with_reducible repeat (first | apply Kd.R_alloc | apply Kd.R_drewN | apply Kd.R_drew)); exact (Kd.R_mono (Kd.R_far (p := ⟨gb623, 1, none⟩) (Kd.R_far (p := ⟨gb623, 0, none⟩) (Kd.R_types HO610.out BK623.out (by decide)) (fun _ hk => hk.2) (.int .i64 t618)) (fun _ hk => hk.2) (.slice Ao36 t619.length co36)) (fun _ h_ => h_.1)))); (case side4 => exact (Kd.R_reads' HO610.out).2.1); rintro e w46 ⟨rfl, hb⟩; refine ⟨_, rfl, ?_⟩; have n0_ := Aside0.mk (Kd.R_below (by (with_reducible repeat (first | apply Kd.R_alloc | apply Kd.R_drewN | apply Kd.R_drew)); exact (Kd.R_mono (Kd.R_far (p := ⟨gb623, 1, none⟩) (Kd.R_far (p := ⟨gb623, 0, none⟩) (Kd.R_types HO606.out BK623.out (by decide)) (fun _ hk => hk.2) (.int .i64 t618)) (fun _ hk => hk.2) (.slice Ao36 t619.length co36)) (fun _ h_ => h_.1))) hb); have n1_ := Aside0.mk (Kd.R_below (by (with_reducible repeat (first | apply Kd.R_alloc | apply Kd.R_drewN | apply Kd.R_drew)); exact (Kd.R_mono (Kd.R_far (p := ⟨gb623, 1, none⟩) (Kd.R_far (p := ⟨gb623, 0, none⟩) (Kd.R_types HO610.out BK623.out (by decide)) (fun _ hk => hk.2) (.int .i64 t618)) (fun _ hk => hk.2) (.slice Ao36 t619.length co36)) (fun _ h_ => h_.1))) hb); have n2_ := Aside0.mk (Kd.R_below (by (with_reducible repeat (first | apply Kd.R_alloc | apply Kd.R_drewN | apply Kd.R_drew)); exact (Kd.R_mono (Kd.R_far (p := ⟨gb623, 1, none⟩) (Kd.R_far (p := ⟨gb623, 0, none⟩) (Kd.R_types HO616.out BK623.out (by decide)) (fun _ hk => hk.2) (.int .i64 t618)) (fun _ hk => hk.2) (.slice Ao36 t619.length co36)) (fun _ h_ => h_.1))) hb); have n3_ := Aside0.mk (Kd.R_below (by (with_reducible repeat (first | apply Kd.R_alloc | apply Kd.R_drewN | apply Kd.R_drew)); exact (Kd.R_mono (Kd.R_far (p := ⟨gb623, 1, none⟩) (Kd.R_far (p := ⟨gb623, 0, none⟩) (Kd.R_types HO621.out BK623.out (by decide)) (fun _ hk => hk.2) (.int .i64 t618)) (fun _ hk => hk.2) (.slice Ao36 t619.length co36)) (fun _ h_ => h_.1))) hb); have n4_ := Aside0.mk (blk_below (g := gb601) (o := .cells #[.int .i64 a0_0, .slice A0_1 l0_1.length c0_1] 30 (0, 0)) (by (with_reducible repeat (first | refine blk_drewN ?_ _ | refine blk_drew ?_ | refine blk_alloc ?_ _)); refine blk_far ?_ NB601_623.out _; (with_reducible repeat (first | refine blk_drewN ?_ _ | refine blk_drew ?_ | refine blk_alloc ?_ _)); refine blk_far ?_ NB601_623.out _; (with_reducible repeat (first | refine blk_drewN ?_ _ | refine blk_drew ?_ | refine blk_alloc ?_ _)); exact BK601.out) hb); have n5_ := Aside0.mk (blk_below (g := gb612) (o := .cells #[.int .i64 t607, .slice Ao22 t608.length co22] 33 (0, 0)) (by (with_reducible repeat (first | refine blk_drewN ?_ _ | refine blk_drew ?_ | refine blk_alloc ?_ _)); refine blk_far ?_ NB612_623.out _; (with_reducible repeat (first | refine blk_drewN ?_ _ | refine blk_drew ?_ | refine blk_alloc ?_ _)); refine blk_far ?_ NB612_623.out _; (with_reducible repeat (first | refine blk_drewN ?_ _ | refine blk_drew ?_ | refine blk_alloc ?_ _)); exact BK612.out) hb); have n6_ := Aside0.mk (blk_below (g := gb617) (o := .cells #[.int .i64 t613, .slice Ao29 t614.length co29] 33 (0, 0)) (by (with_reducible repeat (first | refine blk_drewN ?_ _ | refine blk_drew ?_ | refine blk_alloc ?_ _)); refine blk_far ?_ NB617_623.out _; (with_reducible repeat (first | refine blk_drewN ?_ _ | refine blk_drew ?_ | refine blk_alloc ?_ _)); refine blk_far ?_ NB617_623.out _; (with_reducible repeat (first | refine blk_drewN ?_ _ | refine blk_drew ?_ | refine blk_alloc ?_ _)); exact BK617.out) hb); have n7_ := Aside0.mk (blk_below (g := gb623) (o := .cells #[.int .i64 t618, .slice Ao36 t619.length co36] 33 (0, 0)) (by (with_reducible repeat (first | refine blk_drewN ?_ _ | refine blk_drew ?_ | refine blk_alloc ?_ _)); refine blk_put (cs := #[.int .i64 t618, .slice none 0 0]) ?_ 1 _ rfl; (with_reducible repeat (first | refine blk_drewN ?_ _ | refine blk_drew ?_ | refine blk_alloc ?_ _)); refine blk_put (cs := #[.int .i64 0, .slice none 0 0]) ?_ 0 _ rfl; (with_reducible repeat (first | refine blk_drewN ?_ _ | refine blk_drew ?_ | refine blk_alloc ?_ _)); exact BK623.out) hb); have n8_ := Aside0.mk (below_step (by repeat (first | (with_reducible first | exact HB.out | apply below_alloc | apply pw_below_drewN | apply below_drew1 | refine below_set ?_ GE601.out | refine below_set ?_ GE612.out | refine below_set ?_ GE617.out | refine below_set ?_ GE623.out) | exact HB.out)) hb); clear HO606; clear HO610; clear HO616; clear HO621; clear BK601; clear BK612; clear BK617; clear BK623; clear HB; have HO606 := n0_; have HO610 := n1_; have HO616 := n2_; have HO621 := n3_; have BK601 := n4_; have BK612 := n5_; have BK617 := n6_; have BK623 := n7_; have HB := n8_; clear n0_ n1_ n2_ n3_ n4_ n5_ n6_ n7_ n8_; (try clear hb); (try clear hb2); (try clear hk); (try clear hi)))
        go_meet
        case rel => exact ⟨_, ((t622 != t611)), (by first | rfl | (simp; done) | (simp [*]; done)), H', ⟨by first | omega | exact Nat.le_refl _⟩, ⟨by (with_reducible repeat (first | apply Kd.R_alloc | apply Kd.R_drewN | apply Kd.R_drew)); exact Kd.R_mono HO610.out (fun _ hk => by first | exact ⟨hk.1.2, hk.2⟩ | grind)⟩, ⟨by (with_reducible repeat (first | apply Kd.R_alloc | apply Kd.R_drewN | apply Kd.R_drew)); exact Kd.R_mono HO616.out (fun _ hk => by first | exact ⟨hk.1.2, hk.2⟩ | grind)⟩, ⟨by (with_reducible repeat (first | apply Kd.R_alloc | apply Kd.R_drewN | apply Kd.R_drew)); exact Kd.R_mono HO621.out (fun _ hk => by first | exact ⟨hk.1.2, hk.2⟩ | grind)⟩, ⟨by (with_reducible repeat (first | refine blk_drewN ?_ _ | refine blk_drew ?_ | refine blk_alloc ?_ _)); exact BK601.out⟩, ⟨by (with_reducible repeat (first | refine blk_drewN ?_ _ | refine blk_drew ?_ | refine blk_alloc ?_ _)); exact BK612.out⟩, ⟨by (with_reducible repeat (first | refine blk_drewN ?_ _ | refine blk_drew ?_ | refine blk_alloc ?_ _)); exact BK617.out⟩, ⟨by (with_reducible repeat (first | refine blk_drewN ?_ _ | refine blk_drew ?_ | refine blk_alloc ?_ _)); exact BK623.out⟩, ⟨by repeat (first | (with_reducible first | exact HB.out | apply below_alloc | apply pw_below_drewN | apply below_drew1 | refine below_set ?_ GE601.out | refine below_set ?_ GE612.out | refine below_set ?_ GE617.out | refine below_set ?_ GE623.out) | exact HB.out)⟩⟩
      · replace c38 := Bool.eq_false_iff.mpr c38
        subst c38
        have H1 : (laws_FnExactDestabilizeBraid.j0 k t611 t622 true a0_0 l0_1 t607 t608 t613 t614 t618 t619) = some r := by rw [if_neg (show ¬ (false = true) by decide)] at H; exact H
        clear H
        have H := H1
        clear H1
        have H' := Aside0.mk H
        clear H
        have hnb47 := NB623_601.out
        have hnc47 := NB601_623.out
        have hnb48 := NB623_612.out
        have hnc48 := NB612_623.out
        have hnb49 := NB623_617.out
        have hnc49 := NB617_623.out
        have hcz50_0 : w31.cell? ⟨gb623, 0, none⟩ = some (.int .i64 0) := (blk_cell BK623.out 0).trans rfl
        have hcz50_1 : w31.cell? ⟨gb623, 1, none⟩ = some (.slice none 0 0) := (blk_cell BK623.out 1).trans rfl
        have hfz50_0 := blk_frozen BK623.out 0
        have hfz50_1 := blk_frozen BK623.out 1
        have hnb51 := NB612_601.out
        have hnc51 := NB601_612.out
        have hnb52 := NB612_617.out
        have hnc52 := NB617_612.out
        have hcz53_0 : w31.cell? ⟨gb612, 0, none⟩ = some (.int .i64 t607) := (blk_cell BK612.out 0).trans rfl
        have hcz53_1 : w31.cell? ⟨gb612, 1, none⟩ = some (.slice Ao22 t608.length co22) := (blk_cell BK612.out 1).trans rfl
        have hfz53_0 := blk_frozen BK612.out 0
        have hfz53_1 := blk_frozen BK612.out 1
        go_wp2_with (first | ((with_reducible refine gate_callee (f := 24) rfl ?_); refine goesL_ (some 34) rfl rfl Try.func24 (by kernel_rfl) rfl #[.agg #[.int .i64 t618, .slice Ao36 t619.length co36], .agg #[.int .i64 t607, .slice Ao22 t608.length co22]] rfl (by (try simp only [List.map_toArray, List.map_cons, List.map_nil]); first | done | rfl | (simp only [List.length_drop, List.length_take]; rfl)) ?_; (with_reducible refine (laws_eqBraid.calls k t618 _ _ t619 t607 _ _ t608 false _ ?side1 ?side2 ?side3 ?side4 A37.out).mono ?_); (case side1 => refine (Kd.R_reads' (e := 2) (base := w.heap.size) (ok := fun k_ => (((True ∧ some k_ ≠ (.slice Ao17 t604.length co17 : Value).ownBlock) ∧ some k_ ≠ (.slice Ao22 t608.length co22 : Value).ownBlock) ∧ some k_ ≠ (.slice Ao29 t614.length co29 : Value).ownBlock)) (n := t619.length) (c := co36) ?_).2.2; exact (by (with_reducible repeat (first | apply Kd.R_alloc | apply Kd.R_drewN | apply Kd.R_drew)); exact (Kd.R_mono (Kd.R_far (p := ⟨gb623, 1, none⟩) (Kd.R_far (p := ⟨gb623, 0, none⟩) (Kd.R_types HO621.out BK623.out (by decide)) (fun _ hk => hk.2) (.int .i64 t618)) (fun _ hk => hk.2) (.slice Ao36 t619.length co36)) (fun _ h_ => h_.1)))); (case side2 => exact (Kd.R_reads' HO621.out).2.1); (case side3 => refine (Kd.R_reads' (e := 2) (base := w.heap.size) (ok := fun k_ => (((True ∧ some k_ ≠ (.slice Ao17 t604.length co17 : Value).ownBlock) ∧ some k_ ≠ (.slice Ao29 t614.length co29 : Value).ownBlock) ∧ some k_ ≠ (.slice Ao36 t619.length co36 : Value).ownBlock)) (n := t608.length) (c := co22) ?_).2.2; exact (by (with_reducible repeat (first | apply Kd.R_alloc | apply Kd.R_drewN | apply Kd.R_drew)); exact (Kd.R_mono (Kd.R_far (p := ⟨gb623, 1, none⟩) (Kd.R_far (p := ⟨gb623, 0, none⟩) (Kd.R_types HO610.out BK623.out (by decide)) (fun _ hk => hk.2) (.int .i64 t618)) (fun _ hk => hk.2) (.slice Ao36 t619.length co36)) (fun _ h_ => h_.1)))); (case side4 => exact (Kd.R_reads' HO610.out).2.1); rintro e w54 ⟨rfl, hb⟩; refine ⟨_, rfl, ?_⟩; have n0_ := Aside0.mk (Kd.R_below (by (with_reducible repeat (first | apply Kd.R_alloc | apply Kd.R_drewN | apply Kd.R_drew)); exact (Kd.R_mono (Kd.R_far (p := ⟨gb623, 1, none⟩) (Kd.R_far (p := ⟨gb623, 0, none⟩) (Kd.R_types HO606.out BK623.out (by decide)) (fun _ hk => hk.2) (.int .i64 t618)) (fun _ hk => hk.2) (.slice Ao36 t619.length co36)) (fun _ h_ => h_.1))) hb); have n1_ := Aside0.mk (Kd.R_below (by (with_reducible repeat (first | apply Kd.R_alloc | apply Kd.R_drewN | apply Kd.R_drew)); exact (Kd.R_mono (Kd.R_far (p := ⟨gb623, 1, none⟩) (Kd.R_far (p := ⟨gb623, 0, none⟩) (Kd.R_types HO610.out BK623.out (by decide)) (fun _ hk => hk.2) (.int .i64 t618)) (fun _ hk => hk.2) (.slice Ao36 t619.length co36)) (fun _ h_ => h_.1))) hb); have n2_ := Aside0.mk (Kd.R_below (by (with_reducible repeat (first | apply Kd.R_alloc | apply Kd.R_drewN | apply Kd.R_drew)); exact (Kd.R_mono (Kd.R_far (p := ⟨gb623, 1, none⟩) (Kd.R_far (p := ⟨gb623, 0, none⟩) (Kd.R_types HO616.out BK623.out (by decide)) (fun _ hk => hk.2) (.int .i64 t618)) (fun _ hk => hk.2) (.slice Ao36 t619.length co36)) (fun _ h_ => h_.1))) hb); have n3_ := Aside0.mk (Kd.R_below (by (with_reducible repeat (first | apply Kd.R_alloc | apply Kd.R_drewN | apply Kd.R_drew)); exact (Kd.R_mono (Kd.R_far (p := ⟨gb623, 1, none⟩) (Kd.R_far (p := ⟨gb623, 0, none⟩) (Kd.R_types HO621.out BK623.out (by decide)) (fun _ hk => hk.2) (.int .i64 t618)) (fun _ hk => hk.2) (.slice Ao36 t619.length co36)) (fun _ h_ => h_.1))) hb); have n4_ := Aside0.mk (blk_below (g := gb601) (o := .cells #[.int .i64 a0_0, .slice A0_1 l0_1.length c0_1] 30 (0, 0)) (by (with_reducible repeat (first | refine blk_drewN ?_ _ | refine blk_drew ?_ | refine blk_alloc ?_ _)); refine blk_far ?_ NB601_623.out _; (with_reducible repeat (first | refine blk_drewN ?_ _ | refine blk_drew ?_ | refine blk_alloc ?_ _)); refine blk_far ?_ NB601_623.out _; (with_reducible repeat (first | refine blk_drewN ?_ _ | refine blk_drew ?_ | refine blk_alloc ?_ _)); exact BK601.out) hb); have n5_ := Aside0.mk (blk_below (g := gb612) (o := .cells #[.int .i64 t607, .slice Ao22 t608.length co22] 33 (0, 0)) (by (with_reducible repeat (first | refine blk_drewN ?_ _ | refine blk_drew ?_ | refine blk_alloc ?_ _)); refine blk_far ?_ NB612_623.out _; (with_reducible repeat (first | refine blk_drewN ?_ _ | refine blk_drew ?_ | refine blk_alloc ?_ _)); refine blk_far ?_ NB612_623.out _; (with_reducible repeat (first | refine blk_drewN ?_ _ | refine blk_drew ?_ | refine blk_alloc ?_ _)); exact BK612.out) hb); have n6_ := Aside0.mk (blk_below (g := gb617) (o := .cells #[.int .i64 t613, .slice Ao29 t614.length co29] 33 (0, 0)) (by (with_reducible repeat (first | refine blk_drewN ?_ _ | refine blk_drew ?_ | refine blk_alloc ?_ _)); refine blk_far ?_ NB617_623.out _; (with_reducible repeat (first | refine blk_drewN ?_ _ | refine blk_drew ?_ | refine blk_alloc ?_ _)); refine blk_far ?_ NB617_623.out _; (with_reducible repeat (first | refine blk_drewN ?_ _ | refine blk_drew ?_ | refine blk_alloc ?_ _)); exact BK617.out) hb); have n7_ := Aside0.mk (blk_below (g := gb623) (o := .cells #[.int .i64 t618, .slice Ao36 t619.length co36] 33 (0, 0)) (by (with_reducible repeat (first | refine blk_drewN ?_ _ | refine blk_drew ?_ | refine blk_alloc ?_ _)); refine blk_put (cs := #[.int .i64 t618, .slice none 0 0]) ?_ 1 _ rfl; (with_reducible repeat (first | refine blk_drewN ?_ _ | refine blk_drew ?_ | refine blk_alloc ?_ _)); refine blk_put (cs := #[.int .i64 0, .slice none 0 0]) ?_ 0 _ rfl; (with_reducible repeat (first | refine blk_drewN ?_ _ | refine blk_drew ?_ | refine blk_alloc ?_ _)); exact BK623.out) hb); have n8_ := Aside0.mk (below_step (by repeat (first | (with_reducible first | exact HB.out | apply below_alloc | apply pw_below_drewN | apply below_drew1 | refine below_set ?_ GE601.out | refine below_set ?_ GE612.out | refine below_set ?_ GE617.out | refine below_set ?_ GE623.out) | exact HB.out)) hb); clear HO606; clear HO610; clear HO616; clear HO621; clear BK601; clear BK612; clear BK617; clear BK623; clear HB; have HO606 := n0_; have HO610 := n1_; have HO616 := n2_; have HO621 := n3_; have BK601 := n4_; have BK612 := n5_; have BK617 := n6_; have BK623 := n7_; have HB := n8_; clear n0_ n1_ n2_ n3_ n4_ n5_ n6_ n7_ n8_; (try clear hb); (try clear hb2); (try clear hk); (try clear hi)))
        go_meet
        case rel => exact ⟨_, (true), (by first | rfl | (simp; done) | (simp [*]; done)), H', ⟨by first | omega | exact Nat.le_refl _⟩, ⟨by (with_reducible repeat (first | apply Kd.R_alloc | apply Kd.R_drewN | apply Kd.R_drew)); exact Kd.R_mono HO610.out (fun _ hk => by first | exact ⟨hk.1.2, hk.2⟩ | grind)⟩, ⟨by (with_reducible repeat (first | apply Kd.R_alloc | apply Kd.R_drewN | apply Kd.R_drew)); exact Kd.R_mono HO616.out (fun _ hk => by first | exact ⟨hk.1.2, hk.2⟩ | grind)⟩, ⟨by (with_reducible repeat (first | apply Kd.R_alloc | apply Kd.R_drewN | apply Kd.R_drew)); exact Kd.R_mono HO621.out (fun _ hk => by first | exact ⟨hk.1.2, hk.2⟩ | grind)⟩, ⟨by (with_reducible repeat (first | refine blk_drewN ?_ _ | refine blk_drew ?_ | refine blk_alloc ?_ _)); exact BK601.out⟩, ⟨by (with_reducible repeat (first | refine blk_drewN ?_ _ | refine blk_drew ?_ | refine blk_alloc ?_ _)); exact BK612.out⟩, ⟨by (with_reducible repeat (first | refine blk_drewN ?_ _ | refine blk_drew ?_ | refine blk_alloc ?_ _)); exact BK617.out⟩, ⟨by (with_reducible repeat (first | refine blk_drewN ?_ _ | refine blk_drew ?_ | refine blk_alloc ?_ _)); exact BK623.out⟩, ⟨by repeat (first | (with_reducible first | exact HB.out | apply below_alloc | apply pw_below_drewN | apply below_drew1 | refine below_set ?_ GE601.out | refine below_set ?_ GE612.out | refine below_set ?_ GE617.out | refine below_set ?_ GE623.out) | exact HB.out)⟩⟩
    case rest =>
      clear HC11
      try clear c1
      try clear c2
      try clear p2
      try clear c3
      try clear c3b0
      try clear c4
      try clear c5
      try clear c10
      try clear c20
      try clear c22
      try clear c24
      try clear c26
      try clear c27
      try clear c32
      try clear c33
      try clear c34
      try clear c37
      try clear c38
      try clear c39
      try clear c40
      try clear c41
      try clear c43
      try clear c44
      try clear c47
      try clear c48
      try clear c49
      try clear c51
      try clear c52
      try clear hcz13_0
      try clear hcz13_1
      try clear hcz15_0
      try clear hcz15_1
      try clear hcz21_0
      try clear hcz21_1
      try clear hcz23_0
      try clear hcz23_1
      try clear hcz28_0
      try clear hcz28_1
      try clear hcz35_0
      try clear hcz35_1
      try clear hcz42_0
      try clear hcz42_1
      try clear hcz45_0
      try clear hcz45_1
      try clear hcz50_0
      try clear hcz50_1
      try clear hcz53_0
      try clear hcz53_1
      try clear hcz5_0
      try clear hcz5_1
      try clear hfz13_0
      try clear hfz13_1
      try clear hfz15_0
      try clear hfz15_1
      try clear hfz21_0
      try clear hfz21_1
      try clear hfz23_0
      try clear hfz23_1
      try clear hfz28_0
      try clear hfz28_1
      try clear hfz35_0
      try clear hfz35_1
      try clear hfz42_0
      try clear hfz42_1
      try clear hfz45_0
      try clear hfz45_1
      try clear hfz50_0
      try clear hfz50_1
      try clear hfz53_0
      try clear hfz53_1
      try clear hfz5_0
      try clear hfz5_1
      obtain ⟨kq, x40_10, rfl, HA, HJ10, HO_613001, HO_618001, HO_624001, BK601, BK612, BK617, BK623, HB⟩ := hcut
      cases kq with
      | zero => exact absurd HA.out (by simp [laws_FnExactDestabilizeBraid.j0])
      | succ kj10 =>
        have H := HA.out
        clear HA
        simp only [laws_FnExactDestabilizeBraid.j0] at H
        by_cases c55 : x40_10 = true
        · subst c55
          have H1 : (some false) = some r := by rw [if_pos rfl] at H; exact H
          clear H
          have H := H1
          clear H1
          obtain rfl := Option.some.inj H
          go_wp2
          go_ret
          exact ⟨by first | rfl | (simp [errW_none, errW_some] <;> rfl) | (simp [*, errW_none, errW_some] <;> rfl), by repeat (first | (with_reducible first | exact HB.out | apply below_alloc | apply pw_below_drewN | apply below_drew1 | refine below_set ?_ GE601.out | refine below_set ?_ GE612.out | refine below_set ?_ GE617.out | refine below_set ?_ GE623.out) | exact HB.out)⟩
        · replace c55 := Bool.eq_false_iff.mpr c55
          subst c55
          have H1 : ((laws_toBraid.f kj10 a0_0 l0_1).bind fun bt625 => ((laws_eqBraid.f kj10 t613 t614 bt625.1 bt625.2).bind fun t629 => (if t629 = true then ((laws_markBraid.f kj10 t613 t614 1).bind fun bt630 => (if bt630.1 < 0 then (laws_FnExactDestabilizeBraid.j1 kj10 t611 true a0_0 l0_1 t607 t608 t618 t619) else ((laws_eqBraid.f kj10 t618 t619 t607 t608).bind fun t632 => (if t632 = true then (laws_FnExactDestabilizeBraid.j1 kj10 t611 (t622 != t611) a0_0 l0_1 t607 t608 t618 t619) else (laws_FnExactDestabilizeBraid.j1 kj10 t611 true a0_0 l0_1 t607 t608 t618 t619))))) else (some false)))) = some r := by rw [if_neg (show ¬ (false = true) by decide)] at H; exact H
          clear H
          have H := H1
          clear H1
          replace H := Option.bind_eq_some_iff.mp H
          obtain ⟨⟨t625, t626⟩, A560, H⟩ := H
          replace H : ((laws_eqBraid.f kj10 t613 t614 t625 t626).bind fun t629 => (if t629 = true then ((laws_markBraid.f kj10 t613 t614 1).bind fun bt630 => (if bt630.1 < 0 then (laws_FnExactDestabilizeBraid.j1 kj10 t611 true a0_0 l0_1 t607 t608 t618 t619) else ((laws_eqBraid.f kj10 t618 t619 t607 t608).bind fun t632 => (if t632 = true then (laws_FnExactDestabilizeBraid.j1 kj10 t611 (t622 != t611) a0_0 l0_1 t607 t608 t618 t619) else (laws_FnExactDestabilizeBraid.j1 kj10 t611 true a0_0 l0_1 t607 t608 t618 t619))))) else (some false))) = some r := H
          have A56 := Aside0.mk A560
          clear A560
          replace H := Option.bind_eq_some_iff.mp H
          obtain ⟨t629, A570, H⟩ := H
          replace H : (if t629 = true then ((laws_markBraid.f kj10 t613 t614 1).bind fun bt630 => (if bt630.1 < 0 then (laws_FnExactDestabilizeBraid.j1 kj10 t611 true a0_0 l0_1 t607 t608 t618 t619) else ((laws_eqBraid.f kj10 t618 t619 t607 t608).bind fun t632 => (if t632 = true then (laws_FnExactDestabilizeBraid.j1 kj10 t611 (t622 != t611) a0_0 l0_1 t607 t608 t618 t619) else (laws_FnExactDestabilizeBraid.j1 kj10 t611 true a0_0 l0_1 t607 t608 t618 t619))))) else (some false)) = some r := H
          have A57 := Aside0.mk A570
          clear A570
          by_cases c58 : t629 = true
          · subst c58
            have H1 : ((laws_markBraid.f kj10 t613 t614 1).bind fun bt630 => (if bt630.1 < 0 then (laws_FnExactDestabilizeBraid.j1 kj10 t611 true a0_0 l0_1 t607 t608 t618 t619) else ((laws_eqBraid.f kj10 t618 t619 t607 t608).bind fun t632 => (if t632 = true then (laws_FnExactDestabilizeBraid.j1 kj10 t611 (t622 != t611) a0_0 l0_1 t607 t608 t618 t619) else (laws_FnExactDestabilizeBraid.j1 kj10 t611 true a0_0 l0_1 t607 t608 t618 t619))))) = some r := by rw [if_pos rfl] at H; exact H
            clear H
            have H := H1
            clear H1
            replace H := Option.bind_eq_some_iff.mp H
            obtain ⟨⟨t630, t631⟩, A590, H⟩ := H
            replace H : (if t630 < 0 then (laws_FnExactDestabilizeBraid.j1 kj10 t611 true a0_0 l0_1 t607 t608 t618 t619) else ((laws_eqBraid.f kj10 t618 t619 t607 t608).bind fun t632 => (if t632 = true then (laws_FnExactDestabilizeBraid.j1 kj10 t611 (t622 != t611) a0_0 l0_1 t607 t608 t618 t619) else (laws_FnExactDestabilizeBraid.j1 kj10 t611 true a0_0 l0_1 t607 t608 t618 t619)))) = some r := H
            have A59 := Aside0.mk A590
            clear A590
            have HC60 := Aside0.mk H
            clear H
            try go_wp2
            have n0_ := Aside0.mk (Kd.R_drew HO_613001.out)
            have n1_ := Aside0.mk (Kd.R_drew HO_618001.out)
            have n2_ := Aside0.mk (Kd.R_drew HO_624001.out)
            have n3_ := Aside0.mk (blk_drew BK601.out)
            have n4_ := Aside0.mk (blk_drew BK612.out)
            have n5_ := Aside0.mk (blk_drew BK617.out)
            have n6_ := Aside0.mk (blk_drew BK623.out)
            have n7_ := Aside0.mk (below_drew1 HB.out)
            clear HO_613001
            clear HO_618001
            clear HO_624001
            clear BK601
            clear BK612
            clear BK617
            clear BK623
            clear HB
            have HO_613001 := n0_
            have HO_618001 := n1_
            have HO_624001 := n2_
            have BK601 := n3_
            have BK612 := n4_
            have BK617 := n5_
            have BK623 := n6_
            have HB := n7_
            clear n0_ n1_ n2_ n3_ n4_ n5_ n6_ n7_
            refine start_ (n := 5) (S := fun w' => w'.cell? ⟨gb617, 0, none⟩ = some (.int .i64 t613) ∧ w'.cell? ⟨gb617, 1, none⟩ = some (.slice Ao29 t614.length co29) ∧ w'.cell? ⟨gb601, 0, none⟩ = some (.int .i64 a0_0) ∧ w'.cell? ⟨gb601, 1, none⟩ = some (.slice A0_1 l0_1.length c0_1)) (ds := []) #[false, false, false, false, false] (by kernel_rfl) rfl rfl ⟨(blk_cell BK617.out 0).trans rfl, (blk_cell BK617.out 1).trans rfl, (blk_cell BK601.out 0).trans rfl, (blk_cell BK601.out 1).trans rfl⟩ (fun hHeld => ?_)
            generalize wc.drew = w61 at HO_613001 HO_618001 HO_624001 BK601 BK612 BK617 BK623 HB hHeld ⊢
            refine take_ (i := 0) (N := some 41) (v := ?_) (a' := ?_) #[true, false, false, false, false] rfl rfl (by kernel_rfl) (fun _ _ _ h => h) (Or.inl ⟨by rfl, ?_⟩) hHeld ?_ ?_
            rotate_left
            · rintro w' ⟨s0, s1, s2, s3⟩
              go_simp
              with_reducible rfl
            rotate_left
            · simp only [Act.put, List.setIfInBounds_toArray, List.set_cons_zero, List.set_cons_succ, i64_w, i32_w]
              rfl
            refine take_ (i := 1) (N := some 42) (v := ?_) (a' := ?_) #[true, true, false, false, false] rfl rfl (by kernel_rfl) (fun _ _ _ h => h) (Or.inl ⟨by rfl, ?_⟩) hHeld ?_ ?_
            rotate_left
            · rintro w' ⟨s0, s1, s2, s3⟩
              go_simp
              with_reducible rfl
            rotate_left
            · simp only [Act.put, List.setIfInBounds_toArray, List.set_cons_zero, List.set_cons_succ, i64_w, i32_w]
              rfl
            refine one_ (i := 2) (N := some 43) #[true, true, true, false, false] rfl rfl (by kernel_rfl) (by decide) (fun K hK => ?_)
            refine goes_ Try.func22 (by kernel_rfl) rfl #[.agg #[.int .i64 a0_0, .slice A0_1 l0_1.length c0_1]] (by rfl) rfl rfl (by (try simp only [List.map_toArray, List.map_cons, List.map_nil]); first | done | rfl | (simp only [List.length_drop, List.length_take]; rfl)) ?_
            with_reducible refine (laws_toBraid.calls kj10 a0_0 _ _ l0_1 t625 t626 _ ?side1 ?side2 A56.out).mono ?_
            (case side1 => repeat (first | exact (Kd.C_below HR0_1.out HB.out) | (with_reducible refine Kd.C_alloc ?_ _) | (with_reducible refine Kd.C_drewN ?_ _) | (with_reducible refine Kd.C_drew ?_)))
            (case side2 => exact HC0_1.out)
            rintro e w62 ⟨v627, rfl, ho0, hb⟩
            refine ⟨_, rfl, ?_⟩
            have n0_ := Aside0.mk (Kd.R_elder' (by (with_reducible repeat (first | apply Kd.R_alloc | apply Kd.R_drewN | apply Kd.R_drew)); exact HO_613001.out) (Kd.R_base ho0) hb)
            have n1_ := Aside0.mk (Kd.R_elder' (by (with_reducible repeat (first | apply Kd.R_alloc | apply Kd.R_drewN | apply Kd.R_drew)); exact HO_618001.out) (Kd.R_base ho0) hb)
            have n2_ := Aside0.mk (Kd.R_elder' (by (with_reducible repeat (first | apply Kd.R_alloc | apply Kd.R_drewN | apply Kd.R_drew)); exact HO_624001.out) (Kd.R_base ho0) hb)
            have n3_ := Aside0.mk (Kd.R_lower (Kd.R_new' (Kd.R_new' (Kd.R_new' ho0 (Kd.R_lt (by (with_reducible repeat (first | apply Kd.R_alloc | apply Kd.R_drewN | apply Kd.R_drew)); exact HO_613001.out))) (Kd.R_lt (by (with_reducible repeat (first | apply Kd.R_alloc | apply Kd.R_drewN | apply Kd.R_drew)); exact HO_618001.out))) (Kd.R_lt (by (with_reducible repeat (first | apply Kd.R_alloc | apply Kd.R_drewN | apply Kd.R_drew)); exact HO_624001.out))) (below_size (by repeat (first | (with_reducible first | exact HB.out | apply below_alloc | apply pw_below_drewN | apply below_drew1 | refine below_set ?_ GE601.out | refine below_set ?_ GE612.out | refine below_set ?_ GE617.out | refine below_set ?_ GE623.out) | exact HB.out))))
            have n4_ := Aside0.mk (blk_below (g := gb601) (o := .cells #[.int .i64 a0_0, .slice A0_1 l0_1.length c0_1] 30 (0, 0)) (by (with_reducible repeat (first | refine blk_drewN ?_ _ | refine blk_drew ?_ | refine blk_alloc ?_ _)); exact BK601.out) hb)
            have n5_ := Aside0.mk (blk_below (g := gb612) (o := .cells #[.int .i64 t607, .slice Ao22 t608.length co22] 33 (0, 0)) (by (with_reducible repeat (first | refine blk_drewN ?_ _ | refine blk_drew ?_ | refine blk_alloc ?_ _)); exact BK612.out) hb)
            have n6_ := Aside0.mk (blk_below (g := gb617) (o := .cells #[.int .i64 t613, .slice Ao29 t614.length co29] 33 (0, 0)) (by (with_reducible repeat (first | refine blk_drewN ?_ _ | refine blk_drew ?_ | refine blk_alloc ?_ _)); exact BK617.out) hb)
            have n7_ := Aside0.mk (blk_below (g := gb623) (o := .cells #[.int .i64 t618, .slice Ao36 t619.length co36] 33 (0, 0)) (by (with_reducible repeat (first | refine blk_drewN ?_ _ | refine blk_drew ?_ | refine blk_alloc ?_ _)); exact BK623.out) hb)
            have n8_ := Aside0.mk (below_step (by repeat (first | (with_reducible first | exact HB.out | apply below_alloc | apply pw_below_drewN | apply below_drew1 | refine below_set ?_ GE601.out | refine below_set ?_ GE612.out | refine below_set ?_ GE617.out | refine below_set ?_ GE623.out) | exact HB.out)) hb)
            clear HO_613001
            clear HO_618001
            clear HO_624001
            clear BK601
            clear BK612
            clear BK617
            clear BK623
            clear HB
            have HO_613001 := n0_
            have HO_618001 := n1_
            have HO_624001 := n2_
            have HO628 := n3_
            have BK601 := n4_
            have BK612 := n5_
            have BK617 := n6_
            have BK623 := n7_
            have HB := n8_
            clear n0_ n1_ n2_ n3_ n4_ n5_ n6_ n7_ n8_
            (try clear hb)
            (try clear hb2)
            (try clear hk)
            (try clear hi)
            (try clear ho0)
            obtain ⟨Ao63, co63, eo63⟩ := Kd.R_slice HO628.out
            (first | subst eo63 | (injection eo63 with f1_ f2_ f3_; have f4_ := f1_.symm; have f5_ := f3_.symm; clear f1_ f2_ f3_; subst f4_; subst f5_))
            refine hK.out _ _ ⟨(blk_cell BK617.out 0).trans rfl, (blk_cell BK617.out 1).trans rfl, (blk_cell BK601.out 0).trans rfl, (blk_cell BK601.out 1).trans rfl⟩ (fun hHeld => ?_)
            clear hK K
            refine norm_ (a' := ?_) ?_ ?_
            rotate_left
            · show Act.put _ (some 43) _ = _
              simp only [Act.put, List.setIfInBounds_toArray, List.set_cons_zero, List.set_cons_succ, i64_w, i32_w]
              rfl
            refine one_ (i := 3) (N := some 44) #[true, true, true, true, false] rfl rfl (by kernel_rfl) (by decide) (fun K hK => ?_)
            refine goes_ Try.func24 (by kernel_rfl) rfl #[.agg #[.int .i64 t613, .slice Ao29 t614.length co29], .agg #[.int .i64 t625, .slice Ao63 t626.length co63]] (by rfl) rfl rfl (by (try simp only [List.map_toArray, List.map_cons, List.map_nil]); first | done | rfl | (simp only [List.length_drop, List.length_take]; rfl)) ?_
            with_reducible refine (laws_eqBraid.calls kj10 t613 _ _ t614 t625 _ _ t626 true _ ?side1 ?side2 ?side3 ?side4 A57.out).mono ?_
            (case side1 => repeat (first | exact (Kd.R_reads' HO_618001.out).2.2 | (with_reducible refine Kd.C_alloc ?_ _) | (with_reducible refine Kd.C_drewN ?_ _) | (with_reducible refine Kd.C_drew ?_)))
            (case side2 => exact (Kd.R_reads' HO_618001.out).2.1)
            (case side3 => repeat (first | exact (Kd.R_reads' HO628.out).2.2 | (with_reducible refine Kd.C_alloc ?_ _) | (with_reducible refine Kd.C_drewN ?_ _) | (with_reducible refine Kd.C_drew ?_)))
            (case side4 => exact (Kd.R_reads' HO628.out).2.1)
            rintro e w64 ⟨rfl, hb⟩
            refine ⟨_, rfl, ?_⟩
            have n0_ := Aside0.mk (Kd.R_below (by (with_reducible repeat (first | apply Kd.R_alloc | apply Kd.R_drewN | apply Kd.R_drew)); exact HO_613001.out) hb)
            have n1_ := Aside0.mk (Kd.R_below (by (with_reducible repeat (first | apply Kd.R_alloc | apply Kd.R_drewN | apply Kd.R_drew)); exact HO_618001.out) hb)
            have n2_ := Aside0.mk (Kd.R_below (by (with_reducible repeat (first | apply Kd.R_alloc | apply Kd.R_drewN | apply Kd.R_drew)); exact HO_624001.out) hb)
            have n3_ := Aside0.mk (Kd.R_below (by (with_reducible repeat (first | apply Kd.R_alloc | apply Kd.R_drewN | apply Kd.R_drew)); exact HO628.out) hb)
            have n4_ := Aside0.mk (blk_below (g := gb601) (o := .cells #[.int .i64 a0_0, .slice A0_1 l0_1.length c0_1] 30 (0, 0)) (by (with_reducible repeat (first | refine blk_drewN ?_ _ | refine blk_drew ?_ | refine blk_alloc ?_ _)); exact BK601.out) hb)
            have n5_ := Aside0.mk (blk_below (g := gb612) (o := .cells #[.int .i64 t607, .slice Ao22 t608.length co22] 33 (0, 0)) (by (with_reducible repeat (first | refine blk_drewN ?_ _ | refine blk_drew ?_ | refine blk_alloc ?_ _)); exact BK612.out) hb)
            have n6_ := Aside0.mk (blk_below (g := gb617) (o := .cells #[.int .i64 t613, .slice Ao29 t614.length co29] 33 (0, 0)) (by (with_reducible repeat (first | refine blk_drewN ?_ _ | refine blk_drew ?_ | refine blk_alloc ?_ _)); exact BK617.out) hb)
            have n7_ := Aside0.mk (blk_below (g := gb623) (o := .cells #[.int .i64 t618, .slice Ao36 t619.length co36] 33 (0, 0)) (by (with_reducible repeat (first | refine blk_drewN ?_ _ | refine blk_drew ?_ | refine blk_alloc ?_ _)); exact BK623.out) hb)
            have n8_ := Aside0.mk (below_step (by repeat (first | (with_reducible first | exact HB.out | apply below_alloc | apply pw_below_drewN | apply below_drew1 | refine below_set ?_ GE601.out | refine below_set ?_ GE612.out | refine below_set ?_ GE617.out | refine below_set ?_ GE623.out) | exact HB.out)) hb)
            clear HO_613001
            clear HO_618001
            clear HO_624001
            clear HO628
            clear BK601
            clear BK612
            clear BK617
            clear BK623
            clear HB
            have HO_613001 := n0_
            have HO_618001 := n1_
            have HO_624001 := n2_
            have HO628 := n3_
            have BK601 := n4_
            have BK612 := n5_
            have BK617 := n6_
            have BK623 := n7_
            have HB := n8_
            clear n0_ n1_ n2_ n3_ n4_ n5_ n6_ n7_ n8_
            (try clear hb)
            (try clear hb2)
            (try clear hk)
            (try clear hi)
            refine hK.out _ _ ⟨(blk_cell BK617.out 0).trans rfl, (blk_cell BK617.out 1).trans rfl, (blk_cell BK601.out 0).trans rfl, (blk_cell BK601.out 1).trans rfl⟩ (fun hHeld => ?_)
            clear hK K
            refine norm_ (a' := ?_) ?_ ?_
            rotate_left
            · show Act.put _ (some 44) _ = _
              simp only [Act.put, List.setIfInBounds_toArray, List.set_cons_zero, List.set_cons_succ, i64_w, i32_w]
              rfl
            refine pure_ (i := 4) (N := some 45) (v := ?_) (a' := ?_) #[true, true, true, true, true] rfl rfl (by kernel_rfl) (fun _ _ _ h => h) (Or.inl ⟨by rfl, ?_⟩) ?_ ?_
            rotate_left
            · intro w'
              go_simp
              with_reducible rfl
            rotate_left
            · simp only [Act.put, List.setIfInBounds_toArray, List.set_cons_zero, List.set_cons_succ, i64_w, i32_w]
              rfl
            refine done_ (by kernel_rfl) ?_
            have hnb65 := NB617_601.out
            have hnc65 := NB601_617.out
            have hnb66 := NB617_612.out
            have hnc66 := NB612_617.out
            have hnb67 := NB617_623.out
            have hnc67 := NB623_617.out
            have hcz68_0 : w64.cell? ⟨gb617, 0, none⟩ = some (.int .i64 t613) := (blk_cell BK617.out 0).trans rfl
            have hcz68_1 : w64.cell? ⟨gb617, 1, none⟩ = some (.slice Ao29 t614.length co29) := (blk_cell BK617.out 1).trans rfl
            have hfz68_0 := blk_frozen BK617.out 0
            have hfz68_1 := blk_frozen BK617.out 1
            go_upto_region 14 with (first | ((with_reducible refine gate_callee (f := 27) rfl ?_); refine goesL_ (some 48) rfl rfl Try.func27 (by kernel_rfl) rfl #[.agg #[.int .i64 t613, .slice Ao29 t614.length co29], .int .i64 1] rfl (by (try simp only [List.map_toArray, List.map_cons, List.map_nil]); first | done | rfl | (simp only [List.length_drop, List.length_take]; rfl)) ?_; (with_reducible refine (laws_markBraid.calls kj10 t613 (fun k_ => some k_ = (.slice Ao29 t614.length co29 : Value).ownBlock) (.slice Ao29 t614.length co29) t614 1 t630 t631 w _ ?side1 ?side2 A59.out).mono ?_); (case side1 => repeat (first | (with_reducible first | exact HB.out | apply below_alloc | apply pw_below_drewN | apply below_drew1 | refine below_set ?_ GE601.out | refine below_set ?_ GE612.out | refine below_set ?_ GE617.out | refine below_set ?_ GE623.out) | exact HB.out)); (case side2 => exact Kd.R_tight rfl HO_618001.out); rintro e w69 ⟨rfl, hy0, hb, hkp⟩; refine ⟨_, rfl, ?_⟩; have n0_ := Aside0.mk (Kd.R_mono (ok' := fun k_ => some k_ ≠ (.slice Ao29 t614.length co29 : Value).ownBlock ∧ some k_ ≠ (.slice Ao36 t619.length co36 : Value).ownBlock ∧ some k_ ≠ (.slice Ao63 t626.length co63 : Value).ownBlock) (Kd.R_keptB (HO_613001.out) hkp (fun k_ hk_ hs_ => by first | exact (hk_.1.1) hs_ | grind)) (fun k_ hk_ => by first | exact ⟨hk_.1.1.1, hk_.1.1.2, hk_.1.2⟩ | grind)); have n1_ := Aside0.mk (Kd.R_reok rfl hy0 (fun k_ e_ => HO_618001.out.1 k_ e_)); have n2_ := Aside0.mk (Kd.R_mono (ok' := fun k_ => some k_ ≠ (.slice Ao22 t608.length co22 : Value).ownBlock ∧ some k_ ≠ (.slice Ao29 t614.length co29 : Value).ownBlock ∧ some k_ ≠ (.slice Ao63 t626.length co63 : Value).ownBlock) (Kd.R_keptB (HO_624001.out) hkp (fun k_ hk_ hs_ => by first | exact (hk_.1.2) hs_ | grind)) (fun k_ hk_ => by first | exact ⟨hk_.1.1.1, hk_.1.1.2, hk_.1.2⟩ | grind)); have n3_ := Aside0.mk (blk_kept (by (with_reducible repeat (first | refine blk_drewN ?_ _ | refine blk_drew ?_ | refine blk_alloc ?_ _)); exact BK601.out) hkp (fun hs_ => (fun e_ => (Kd.R_ne HO_618001.out BK601.out (by decide)) e_) hs_)); have n4_ := Aside0.mk (blk_kept (by (with_reducible repeat (first | refine blk_drewN ?_ _ | refine blk_drew ?_ | refine blk_alloc ?_ _)); exact BK612.out) hkp (fun hs_ => (fun e_ => (Kd.R_ne HO_618001.out BK612.out (by decide)) e_) hs_)); have n5_ := Aside0.mk (blk_kept (by (with_reducible repeat (first | refine blk_drewN ?_ _ | refine blk_drew ?_ | refine blk_alloc ?_ _)); exact BK617.out) hkp (fun hs_ => (fun e_ => (Kd.R_ne HO_618001.out BK617.out (by decide)) e_) hs_)); have n6_ := Aside0.mk (blk_kept (by (with_reducible repeat (first | refine blk_drewN ?_ _ | refine blk_drew ?_ | refine blk_alloc ?_ _)); exact BK623.out) hkp (fun hs_ => (fun e_ => (Kd.R_ne HO_618001.out BK623.out (by decide)) e_) hs_)); have n7_ := Aside0.mk (Kd.R_mono (ok' := fun k_ => some k_ ≠ (.slice Ao22 t608.length co22 : Value).ownBlock ∧ some k_ ≠ (.slice Ao29 t614.length co29 : Value).ownBlock ∧ some k_ ≠ (.slice Ao36 t619.length co36 : Value).ownBlock) (Kd.R_keptB (HO628.out) hkp (fun k_ hk_ hs_ => by first | exact (hk_.1.2) hs_ | grind)) (fun k_ hk_ => by first | exact ⟨hk_.1.1.1.2, hk_.1.1.2, hk_.1.2⟩ | grind)); have n8_ := Aside0.mk (hb); clear HO_613001; clear HO_618001; clear HO_624001; clear BK601; clear BK612; clear BK617; clear BK623; clear HO628; clear HB; have HO_613001 := n0_; have HO_618001 := n1_; have HO_624001 := n2_; have BK601 := n3_; have BK612 := n4_; have BK617 := n5_; have BK623 := n6_; have HO628 := n7_; have HB := n8_; clear n0_ n1_ n2_ n3_ n4_ n5_ n6_ n7_ n8_; (try clear hb); (try clear hkp); (try clear hy0)) | (go_at_call 27; (with_reducible refine (laws_markBraid.calls kj10 t613 (fun k_ => some k_ = (.slice Ao29 t614.length co29 : Value).ownBlock) (.slice Ao29 t614.length co29) t614 1 t630 t631 w _ ?side1 ?side2 A59.out).mono ?_); (case side1 => repeat (first | (with_reducible first | exact HB.out | apply below_alloc | apply pw_below_drewN | apply below_drew1 | refine below_set ?_ GE601.out | refine below_set ?_ GE612.out | refine below_set ?_ GE617.out | refine below_set ?_ GE623.out) | exact HB.out)); (case side2 => exact Kd.R_tight rfl HO_618001.out); rintro e w69 ⟨rfl, hy0, hb, hkp⟩; have n0_ := Aside0.mk (Kd.R_mono (ok' := fun k_ => some k_ ≠ (.slice Ao29 t614.length co29 : Value).ownBlock ∧ some k_ ≠ (.slice Ao36 t619.length co36 : Value).ownBlock ∧ some k_ ≠ (.slice Ao63 t626.length co63 : Value).ownBlock) (Kd.R_keptB (HO_613001.out) hkp (fun k_ hk_ hs_ => by first | exact (hk_.1.1) hs_ | grind)) (fun k_ hk_ => by first | exact ⟨hk_.1.1.1, hk_.1.1.2, hk_.1.2⟩ | grind)); have n1_ := Aside0.mk (Kd.R_reok rfl hy0 (fun k_ e_ => HO_618001.out.1 k_ e_)); have n2_ := Aside0.mk (Kd.R_mono (ok' := fun k_ => some k_ ≠ (.slice Ao22 t608.length co22 : Value).ownBlock ∧ some k_ ≠ (.slice Ao29 t614.length co29 : Value).ownBlock ∧ some k_ ≠ (.slice Ao63 t626.length co63 : Value).ownBlock) (Kd.R_keptB (HO_624001.out) hkp (fun k_ hk_ hs_ => by first | exact (hk_.1.2) hs_ | grind)) (fun k_ hk_ => by first | exact ⟨hk_.1.1.1, hk_.1.1.2, hk_.1.2⟩ | grind)); have n3_ := Aside0.mk (blk_kept (by (with_reducible repeat (first | refine blk_drewN ?_ _ | refine blk_drew ?_ | refine blk_alloc ?_ _)); exact BK601.out) hkp (fun hs_ => (fun e_ => (Kd.R_ne HO_618001.out BK601.out (by decide)) e_) hs_)); have n4_ := Aside0.mk (blk_kept (by (with_reducible repeat (first | refine blk_drewN ?_ _ | refine blk_drew ?_ | refine blk_alloc ?_ _)); exact BK612.out) hkp (fun hs_ => (fun e_ => (Kd.R_ne HO_618001.out BK612.out (by decide)) e_) hs_)); have n5_ := Aside0.mk (blk_kept (by (with_reducible repeat (first | refine blk_drewN ?_ _ | refine blk_drew ?_ | refine blk_alloc ?_ _)); exact BK617.out) hkp (fun hs_ => (fun e_ => (Kd.R_ne HO_618001.out BK617.out (by decide)) e_) hs_)); have n6_ := Aside0.mk (blk_kept (by (with_reducible repeat (first | refine blk_drewN ?_ _ | refine blk_drew ?_ | refine blk_alloc ?_ _)); exact BK623.out) hkp (fun hs_ => (fun e_ => (Kd.R_ne HO_618001.out BK623.out (by decide)) e_) hs_)); have n7_ := Aside0.mk (Kd.R_mono (ok' := fun k_ => some k_ ≠ (.slice Ao22 t608.length co22 : Value).ownBlock ∧ some k_ ≠ (.slice Ao29 t614.length co29 : Value).ownBlock ∧ some k_ ≠ (.slice Ao36 t619.length co36 : Value).ownBlock) (Kd.R_keptB (HO628.out) hkp (fun k_ hk_ hs_ => by first | exact (hk_.1.2) hs_ | grind)) (fun k_ hk_ => by first | exact ⟨hk_.1.1.1.2, hk_.1.1.2, hk_.1.2⟩ | grind)); have n8_ := Aside0.mk (hb); clear HO_613001; clear HO_618001; clear HO_624001; clear BK601; clear BK612; clear BK617; clear BK623; clear HO628; clear HB; have HO_613001 := n0_; have HO_618001 := n1_; have HO_624001 := n2_; have BK601 := n3_; have BK612 := n4_; have BK617 := n5_; have BK623 := n6_; have HO628 := n7_; have HB := n8_; clear n0_ n1_ n2_ n3_ n4_ n5_ n6_ n7_ n8_; (try clear hb); (try clear hkp); (try clear hy0)))
            (try simp only [Act.put, List.setIfInBounds_toArray, List.set_cons_zero, List.set_cons_succ])
            go_cut [61] (fun v61 wc => ∃ (kq : Nat) (x61_59 : Bool), v61 = .bool x61_59 ∧ Aside0 (laws_FnExactDestabilizeBraid.j1 kq t611 x61_59 a0_0 l0_1 t607 t608 t618 t619 = some r) ∧ Aside0 (kq ≤ kj10) ∧ Aside0 (Kd.R (Kd.int .i64) 2 wc w.heap.size (fun k_ => some k_ ≠ ((.slice Ao29 t614.length co29) : Value).ownBlock ∧ some k_ ≠ ((.slice Ao36 t619.length co36) : Value).ownBlock) (.slice Ao22 t608.length co22) t608) ∧ Aside0 (Kd.R (Kd.int .i64) 2 wc w.heap.size (fun k_ => some k_ ≠ ((.slice Ao22 t608.length co22) : Value).ownBlock ∧ some k_ ≠ ((.slice Ao36 t619.length co36) : Value).ownBlock) (.slice Ao29 t614.length co29) t631) ∧ Aside0 (Kd.R (Kd.int .i64) 2 wc w.heap.size (fun k_ => some k_ ≠ ((.slice Ao22 t608.length co22) : Value).ownBlock ∧ some k_ ≠ ((.slice Ao29 t614.length co29) : Value).ownBlock) (.slice Ao36 t619.length co36) t619) ∧ Aside0 (wc.heap[gb601]? = some (.cells #[.int .i64 a0_0, (.slice A0_1 l0_1.length c0_1)] 30 (0, 0))) ∧ Aside0 (wc.heap[gb612]? = some (.cells #[.int .i64 t607, (.slice Ao22 t608.length co22)] 33 (0, 0))) ∧ Aside0 (wc.heap[gb617]? = some (.cells #[.int .i64 t613, (.slice Ao29 t614.length co29)] 33 (0, 0))) ∧ Aside0 (wc.heap[gb623]? = some (.cells #[.int .i64 t618, (.slice Ao36 t619.length co36)] 33 (0, 0))) ∧ Aside0 (Below w.heap.size w wc))
            case first =>
              have H := HC60.out
              clear HC60
              by_cases c70 : t630 < 0
              · rw [if_pos c70] at H
                have c70b0 : decide (t630 < 0) = true := decide_eq_true c70
                clear c70
                (first | rw [c70b0] | (simp only [i64_w, i32_w]; rw [c70b0]) | skip)
                have H' := Aside0.mk H
                clear H
                go_wp2
                go_meet
                case rel => exact ⟨_, (true), (by first | rfl | (simp; done) | (simp [*]; done)), H', ⟨by have := HJ10.out; first | omega | exact Nat.le_refl _⟩, ⟨by (with_reducible repeat (first | apply Kd.R_alloc | apply Kd.R_drewN | apply Kd.R_drew)); exact Kd.R_mono HO_613001.out (fun _ hk => by first | exact ⟨hk.1, hk.2.1⟩ | grind)⟩, ⟨by (with_reducible repeat (first | apply Kd.R_alloc | apply Kd.R_drewN | apply Kd.R_drew)); exact Kd.R_mono HO_618001.out (fun _ hk => by first | exact ⟨hk.1.1, hk.1.2⟩ | grind)⟩, ⟨by (with_reducible repeat (first | apply Kd.R_alloc | apply Kd.R_drewN | apply Kd.R_drew)); exact Kd.R_mono HO_624001.out (fun _ hk => by first | exact ⟨hk.1, hk.2.1⟩ | grind)⟩, ⟨by (with_reducible repeat (first | refine blk_drewN ?_ _ | refine blk_drew ?_ | refine blk_alloc ?_ _)); exact BK601.out⟩, ⟨by (with_reducible repeat (first | refine blk_drewN ?_ _ | refine blk_drew ?_ | refine blk_alloc ?_ _)); exact BK612.out⟩, ⟨by (with_reducible repeat (first | refine blk_drewN ?_ _ | refine blk_drew ?_ | refine blk_alloc ?_ _)); exact BK617.out⟩, ⟨by (with_reducible repeat (first | refine blk_drewN ?_ _ | refine blk_drew ?_ | refine blk_alloc ?_ _)); exact BK623.out⟩, ⟨by repeat (first | (with_reducible first | exact HB.out | apply below_alloc | apply pw_below_drewN | apply below_drew1 | refine below_set ?_ GE601.out | refine below_set ?_ GE612.out | refine below_set ?_ GE617.out | refine below_set ?_ GE623.out) | exact HB.out)⟩⟩
              · rw [if_neg c70] at H
                have c70b0 : decide (t630 < 0) = false := decide_eq_false c70
                clear c70
                (first | rw [c70b0] | (simp only [i64_w, i32_w]; rw [c70b0]) | skip)
                replace H := Option.bind_eq_some_iff.mp H
                obtain ⟨t632, A710, H⟩ := H
                replace H : (if t632 = true then (laws_FnExactDestabilizeBraid.j1 kj10 t611 (t622 != t611) a0_0 l0_1 t607 t608 t618 t619) else (laws_FnExactDestabilizeBraid.j1 kj10 t611 true a0_0 l0_1 t607 t608 t618 t619)) = some r := H
                have A71 := Aside0.mk A710
                clear A710
                by_cases c72 : t632 = true
                · subst c72
                  have H1 : (laws_FnExactDestabilizeBraid.j1 kj10 t611 (t622 != t611) a0_0 l0_1 t607 t608 t618 t619) = some r := by rw [if_pos rfl] at H; exact H
                  clear H
                  have H := H1
                  clear H1
                  have H' := Aside0.mk H
                  clear H
                  have hnb73 := NB623_601.out
                  have hnc73 := NB601_623.out
                  have hnb74 := NB623_612.out
                  have hnc74 := NB612_623.out
                  have hnb75 := NB623_617.out
                  have hnc75 := NB617_623.out
                  have hcz76_0 : w69.cell? ⟨gb623, 0, none⟩ = some (.int .i64 t618) := (blk_cell BK623.out 0).trans rfl
                  have hcz76_1 : w69.cell? ⟨gb623, 1, none⟩ = some (.slice Ao36 t619.length co36) := (blk_cell BK623.out 1).trans rfl
                  have hfz76_0 := blk_frozen BK623.out 0
                  have hfz76_1 := blk_frozen BK623.out 1
                  have hnb77 := NB612_601.out
                  have hnc77 := NB601_612.out
                  have hnb78 := NB612_617.out
                  have hnc78 := NB617_612.out
                  have hcz79_0 : w69.cell? ⟨gb612, 0, none⟩ = some (.int .i64 t607) := (blk_cell BK612.out 0).trans rfl
                  have hcz79_1 : w69.cell? ⟨gb612, 1, none⟩ = some (.slice Ao22 t608.length co22) := (blk_cell BK612.out 1).trans rfl
                  have hfz79_0 := blk_frozen BK612.out 0
                  have hfz79_1 := blk_frozen BK612.out 1
                  go_wp2_with (first | (go_at_call 24; (with_reducible refine (laws_eqBraid.calls kj10 t618 _ _ t619 t607 _ _ t608 true _ ?side1 ?side2 ?side3 ?side4 A71.out).mono ?_); (case side1 => repeat (first | exact (Kd.R_reads' HO_624001.out).2.2 | (with_reducible refine Kd.C_alloc ?_ _) | (with_reducible refine Kd.C_drewN ?_ _) | (with_reducible refine Kd.C_drew ?_))); (case side2 => exact (Kd.R_reads' HO_624001.out).2.1); (case side3 => repeat (first | exact (Kd.R_reads' HO_613001.out).2.2 | (with_reducible refine Kd.C_alloc ?_ _) | (with_reducible refine Kd.C_drewN ?_ _) | (with_reducible refine Kd.C_drew ?_))); (case side4 => exact (Kd.R_reads' HO_613001.out).2.1); rintro e w80 ⟨rfl, hb⟩; have n0_ := Aside0.mk (Kd.R_below (by (with_reducible repeat (first | apply Kd.R_alloc | apply Kd.R_drewN | apply Kd.R_drew)); exact HO_613001.out) hb); have n1_ := Aside0.mk (Kd.R_below (by (with_reducible repeat (first | apply Kd.R_alloc | apply Kd.R_drewN | apply Kd.R_drew)); exact HO_618001.out) hb); have n2_ := Aside0.mk (Kd.R_below (by (with_reducible repeat (first | apply Kd.R_alloc | apply Kd.R_drewN | apply Kd.R_drew)); exact HO_624001.out) hb); have n3_ := Aside0.mk (Kd.R_below (by (with_reducible repeat (first | apply Kd.R_alloc | apply Kd.R_drewN | apply Kd.R_drew)); exact HO628.out) hb); have n4_ := Aside0.mk (blk_below (g := gb601) (o := .cells #[.int .i64 a0_0, .slice A0_1 l0_1.length c0_1] 30 (0, 0)) (by (with_reducible repeat (first | refine blk_drewN ?_ _ | refine blk_drew ?_ | refine blk_alloc ?_ _)); exact BK601.out) hb); have n5_ := Aside0.mk (blk_below (g := gb612) (o := .cells #[.int .i64 t607, .slice Ao22 t608.length co22] 33 (0, 0)) (by (with_reducible repeat (first | refine blk_drewN ?_ _ | refine blk_drew ?_ | refine blk_alloc ?_ _)); exact BK612.out) hb); have n6_ := Aside0.mk (blk_below (g := gb617) (o := .cells #[.int .i64 t613, .slice Ao29 t614.length co29] 33 (0, 0)) (by (with_reducible repeat (first | refine blk_drewN ?_ _ | refine blk_drew ?_ | refine blk_alloc ?_ _)); exact BK617.out) hb); have n7_ := Aside0.mk (blk_below (g := gb623) (o := .cells #[.int .i64 t618, .slice Ao36 t619.length co36] 33 (0, 0)) (by (with_reducible repeat (first | refine blk_drewN ?_ _ | refine blk_drew ?_ | refine blk_alloc ?_ _)); exact BK623.out) hb); have n8_ := Aside0.mk (below_step (by repeat (first | (with_reducible first | exact HB.out | apply below_alloc | apply pw_below_drewN | apply below_drew1 | refine below_set ?_ GE601.out | refine below_set ?_ GE612.out | refine below_set ?_ GE617.out | refine below_set ?_ GE623.out) | exact HB.out)) hb); clear HO_613001; clear HO_618001; clear HO_624001; clear HO628; clear BK601; clear BK612; clear BK617; clear BK623; clear HB; have HO_613001 := n0_; have HO_618001 := n1_; have HO_624001 := n2_; have HO628 := n3_; have BK601 := n4_; have BK612 := n5_; have BK617 := n6_; have BK623 := n7_; have HB := n8_; clear n0_ n1_ n2_ n3_ n4_ n5_ n6_ n7_ n8_; (try clear hb); (try clear hb2); (try clear hk); (try clear hi)))
                  go_meet
                  case rel => exact ⟨_, ((t622 != t611)), (by first | rfl | (simp; done) | (simp [*]; done)), H', ⟨by have := HJ10.out; first | omega | exact Nat.le_refl _⟩, ⟨by (with_reducible repeat (first | apply Kd.R_alloc | apply Kd.R_drewN | apply Kd.R_drew)); exact Kd.R_mono HO_613001.out (fun _ hk => by first | exact ⟨hk.1, hk.2.1⟩ | grind)⟩, ⟨by (with_reducible repeat (first | apply Kd.R_alloc | apply Kd.R_drewN | apply Kd.R_drew)); exact Kd.R_mono HO_618001.out (fun _ hk => by first | exact ⟨hk.1.1, hk.1.2⟩ | grind)⟩, ⟨by (with_reducible repeat (first | apply Kd.R_alloc | apply Kd.R_drewN | apply Kd.R_drew)); exact Kd.R_mono HO_624001.out (fun _ hk => by first | exact ⟨hk.1, hk.2.1⟩ | grind)⟩, ⟨by (with_reducible repeat (first | refine blk_drewN ?_ _ | refine blk_drew ?_ | refine blk_alloc ?_ _)); exact BK601.out⟩, ⟨by (with_reducible repeat (first | refine blk_drewN ?_ _ | refine blk_drew ?_ | refine blk_alloc ?_ _)); exact BK612.out⟩, ⟨by (with_reducible repeat (first | refine blk_drewN ?_ _ | refine blk_drew ?_ | refine blk_alloc ?_ _)); exact BK617.out⟩, ⟨by (with_reducible repeat (first | refine blk_drewN ?_ _ | refine blk_drew ?_ | refine blk_alloc ?_ _)); exact BK623.out⟩, ⟨by repeat (first | (with_reducible first | exact HB.out | apply below_alloc | apply pw_below_drewN | apply below_drew1 | refine below_set ?_ GE601.out | refine below_set ?_ GE612.out | refine below_set ?_ GE617.out | refine below_set ?_ GE623.out) | exact HB.out)⟩⟩
                · replace c72 := Bool.eq_false_iff.mpr c72
                  subst c72
                  have H1 : (laws_FnExactDestabilizeBraid.j1 kj10 t611 true a0_0 l0_1 t607 t608 t618 t619) = some r := by rw [if_neg (show ¬ (false = true) by decide)] at H; exact H
                  clear H
                  have H := H1
                  clear H1
                  have H' := Aside0.mk H
                  clear H
                  have hnb81 := NB623_601.out
                  have hnc81 := NB601_623.out
                  have hnb82 := NB623_612.out
                  have hnc82 := NB612_623.out
                  have hnb83 := NB623_617.out
                  have hnc83 := NB617_623.out
                  have hcz84_0 : w69.cell? ⟨gb623, 0, none⟩ = some (.int .i64 t618) := (blk_cell BK623.out 0).trans rfl
                  have hcz84_1 : w69.cell? ⟨gb623, 1, none⟩ = some (.slice Ao36 t619.length co36) := (blk_cell BK623.out 1).trans rfl
                  have hfz84_0 := blk_frozen BK623.out 0
                  have hfz84_1 := blk_frozen BK623.out 1
                  have hnb85 := NB612_601.out
                  have hnc85 := NB601_612.out
                  have hnb86 := NB612_617.out
                  have hnc86 := NB617_612.out
                  have hcz87_0 : w69.cell? ⟨gb612, 0, none⟩ = some (.int .i64 t607) := (blk_cell BK612.out 0).trans rfl
                  have hcz87_1 : w69.cell? ⟨gb612, 1, none⟩ = some (.slice Ao22 t608.length co22) := (blk_cell BK612.out 1).trans rfl
                  have hfz87_0 := blk_frozen BK612.out 0
                  have hfz87_1 := blk_frozen BK612.out 1
                  go_wp2_with (first | (go_at_call 24; (with_reducible refine (laws_eqBraid.calls kj10 t618 _ _ t619 t607 _ _ t608 false _ ?side1 ?side2 ?side3 ?side4 A71.out).mono ?_); (case side1 => repeat (first | exact (Kd.R_reads' HO_624001.out).2.2 | (with_reducible refine Kd.C_alloc ?_ _) | (with_reducible refine Kd.C_drewN ?_ _) | (with_reducible refine Kd.C_drew ?_))); (case side2 => exact (Kd.R_reads' HO_624001.out).2.1); (case side3 => repeat (first | exact (Kd.R_reads' HO_613001.out).2.2 | (with_reducible refine Kd.C_alloc ?_ _) | (with_reducible refine Kd.C_drewN ?_ _) | (with_reducible refine Kd.C_drew ?_))); (case side4 => exact (Kd.R_reads' HO_613001.out).2.1); rintro e w88 ⟨rfl, hb⟩; have n0_ := Aside0.mk (Kd.R_below (by (with_reducible repeat (first | apply Kd.R_alloc | apply Kd.R_drewN | apply Kd.R_drew)); exact HO_613001.out) hb); have n1_ := Aside0.mk (Kd.R_below (by (with_reducible repeat (first | apply Kd.R_alloc | apply Kd.R_drewN | apply Kd.R_drew)); exact HO_618001.out) hb); have n2_ := Aside0.mk (Kd.R_below (by (with_reducible repeat (first | apply Kd.R_alloc | apply Kd.R_drewN | apply Kd.R_drew)); exact HO_624001.out) hb); have n3_ := Aside0.mk (Kd.R_below (by (with_reducible repeat (first | apply Kd.R_alloc | apply Kd.R_drewN | apply Kd.R_drew)); exact HO628.out) hb); have n4_ := Aside0.mk (blk_below (g := gb601) (o := .cells #[.int .i64 a0_0, .slice A0_1 l0_1.length c0_1] 30 (0, 0)) (by (with_reducible repeat (first | refine blk_drewN ?_ _ | refine blk_drew ?_ | refine blk_alloc ?_ _)); exact BK601.out) hb); have n5_ := Aside0.mk (blk_below (g := gb612) (o := .cells #[.int .i64 t607, .slice Ao22 t608.length co22] 33 (0, 0)) (by (with_reducible repeat (first | refine blk_drewN ?_ _ | refine blk_drew ?_ | refine blk_alloc ?_ _)); exact BK612.out) hb); have n6_ := Aside0.mk (blk_below (g := gb617) (o := .cells #[.int .i64 t613, .slice Ao29 t614.length co29] 33 (0, 0)) (by (with_reducible repeat (first | refine blk_drewN ?_ _ | refine blk_drew ?_ | refine blk_alloc ?_ _)); exact BK617.out) hb); have n7_ := Aside0.mk (blk_below (g := gb623) (o := .cells #[.int .i64 t618, .slice Ao36 t619.length co36] 33 (0, 0)) (by (with_reducible repeat (first | refine blk_drewN ?_ _ | refine blk_drew ?_ | refine blk_alloc ?_ _)); exact BK623.out) hb); have n8_ := Aside0.mk (below_step (by repeat (first | (with_reducible first | exact HB.out | apply below_alloc | apply pw_below_drewN | apply below_drew1 | refine below_set ?_ GE601.out | refine below_set ?_ GE612.out | refine below_set ?_ GE617.out | refine below_set ?_ GE623.out) | exact HB.out)) hb); clear HO_613001; clear HO_618001; clear HO_624001; clear HO628; clear BK601; clear BK612; clear BK617; clear BK623; clear HB; have HO_613001 := n0_; have HO_618001 := n1_; have HO_624001 := n2_; have HO628 := n3_; have BK601 := n4_; have BK612 := n5_; have BK617 := n6_; have BK623 := n7_; have HB := n8_; clear n0_ n1_ n2_ n3_ n4_ n5_ n6_ n7_ n8_; (try clear hb); (try clear hb2); (try clear hk); (try clear hi)))
                  go_meet
                  case rel => exact ⟨_, (true), (by first | rfl | (simp; done) | (simp [*]; done)), H', ⟨by have := HJ10.out; first | omega | exact Nat.le_refl _⟩, ⟨by (with_reducible repeat (first | apply Kd.R_alloc | apply Kd.R_drewN | apply Kd.R_drew)); exact Kd.R_mono HO_613001.out (fun _ hk => by first | exact ⟨hk.1, hk.2.1⟩ | grind)⟩, ⟨by (with_reducible repeat (first | apply Kd.R_alloc | apply Kd.R_drewN | apply Kd.R_drew)); exact Kd.R_mono HO_618001.out (fun _ hk => by first | exact ⟨hk.1.1, hk.1.2⟩ | grind)⟩, ⟨by (with_reducible repeat (first | apply Kd.R_alloc | apply Kd.R_drewN | apply Kd.R_drew)); exact Kd.R_mono HO_624001.out (fun _ hk => by first | exact ⟨hk.1, hk.2.1⟩ | grind)⟩, ⟨by (with_reducible repeat (first | refine blk_drewN ?_ _ | refine blk_drew ?_ | refine blk_alloc ?_ _)); exact BK601.out⟩, ⟨by (with_reducible repeat (first | refine blk_drewN ?_ _ | refine blk_drew ?_ | refine blk_alloc ?_ _)); exact BK612.out⟩, ⟨by (with_reducible repeat (first | refine blk_drewN ?_ _ | refine blk_drew ?_ | refine blk_alloc ?_ _)); exact BK617.out⟩, ⟨by (with_reducible repeat (first | refine blk_drewN ?_ _ | refine blk_drew ?_ | refine blk_alloc ?_ _)); exact BK623.out⟩, ⟨by repeat (first | (with_reducible first | exact HB.out | apply below_alloc | apply pw_below_drewN | apply below_drew1 | refine below_set ?_ GE601.out | refine below_set ?_ GE612.out | refine below_set ?_ GE617.out | refine below_set ?_ GE623.out) | exact HB.out)⟩⟩
            case rest =>
              clear HC60
              try clear c1
              try clear c2
              try clear p2
              try clear c3
              try clear c3b0
              try clear c4
              try clear c5
              try clear c6
              try clear c7
              try clear c8
              try clear c10
              try clear c20
              try clear c22
              try clear c24
              try clear c26
              try clear c27
              try clear c32
              try clear c33
              try clear c34
              try clear c37
              try clear c38
              try clear c39
              try clear c40
              try clear c41
              try clear c43
              try clear c44
              try clear c47
              try clear c48
              try clear c49
              try clear c51
              try clear c52
              try clear c55
              try clear c58
              try clear c65
              try clear c66
              try clear c67
              try clear c70
              try clear c70b0
              try clear c72
              try clear c73
              try clear c74
              try clear c75
              try clear c77
              try clear c78
              try clear c81
              try clear c82
              try clear c83
              try clear c85
              try clear c86
              try clear hcz13_0
              try clear hcz13_1
              try clear hcz15_0
              try clear hcz15_1
              try clear hcz21_0
              try clear hcz21_1
              try clear hcz23_0
              try clear hcz23_1
              try clear hcz28_0
              try clear hcz28_1
              try clear hcz35_0
              try clear hcz35_1
              try clear hcz42_0
              try clear hcz42_1
              try clear hcz45_0
              try clear hcz45_1
              try clear hcz50_0
              try clear hcz50_1
              try clear hcz53_0
              try clear hcz53_1
              try clear hcz5_0
              try clear hcz5_1
              try clear hcz68_0
              try clear hcz68_1
              try clear hcz76_0
              try clear hcz76_1
              try clear hcz79_0
              try clear hcz79_1
              try clear hcz84_0
              try clear hcz84_1
              try clear hcz87_0
              try clear hcz87_1
              try clear hfz13_0
              try clear hfz13_1
              try clear hfz15_0
              try clear hfz15_1
              try clear hfz21_0
              try clear hfz21_1
              try clear hfz23_0
              try clear hfz23_1
              try clear hfz28_0
              try clear hfz28_1
              try clear hfz35_0
              try clear hfz35_1
              try clear hfz42_0
              try clear hfz42_1
              try clear hfz45_0
              try clear hfz45_1
              try clear hfz50_0
              try clear hfz50_1
              try clear hfz53_0
              try clear hfz53_1
              try clear hfz5_0
              try clear hfz5_1
              try clear hfz68_0
              try clear hfz68_1
              try clear hfz76_0
              try clear hfz76_1
              try clear hfz79_0
              try clear hfz79_1
              try clear hfz84_0
              try clear hfz84_1
              try clear hfz87_0
              try clear hfz87_1
              try clear p2
              obtain ⟨kq, x61_59, rfl, HA, HJ59, HO_613001, HO_618001, HO_624001, BK601, BK612, BK617, BK623, HB⟩ := hcut
              have hl618001_59 := (Kd.R_reads' HO_618001.out).1
              rw [hl618001_59] at HO_618001
              (try simp only [hl618001_59])
              (try simp only [hl618001_59] at BK601)
              (try simp only [hl618001_59] at BK612)
              (try simp only [hl618001_59] at BK617)
              (try simp only [hl618001_59] at BK623)
              (try simp only [hl618001_59] at HO_613001)
              (try simp only [hl618001_59] at HO_624001)
              cases kq with
              | zero => exact absurd HA.out (by simp [laws_FnExactDestabilizeBraid.j1])
              | succ kj59 =>
                have H := HA.out
                clear HA
                simp only [laws_FnExactDestabilizeBraid.j1] at H
                by_cases c89 : x61_59 = true
                · subst c89
                  have H1 : (some false) = some r := by rw [if_pos rfl] at H; exact H
                  clear H
                  have H := H1
                  clear H1
                  obtain rfl := Option.some.inj H
                  go_wp2
                  go_ret
                  exact ⟨by first | rfl | (simp [errW_none, errW_some] <;> rfl) | (simp [*, errW_none, errW_some] <;> rfl), by repeat (first | (with_reducible first | exact HB.out | apply below_alloc | apply pw_below_drewN | apply below_drew1 | refine below_set ?_ GE601.out | refine below_set ?_ GE612.out | refine below_set ?_ GE617.out | refine below_set ?_ GE623.out) | exact HB.out)⟩
                · replace c89 := Bool.eq_false_iff.mpr c89
                  subst c89
                  have H1 : ((laws_markBraid.f kj59 t618 t619 1).bind fun bt633 => ((laws_heldBraid.f kj59 t618 bt633.2 1).bind fun t635 => (if t635 < 0 then (some false) else (if t635 = bt633.1 then ((laws_toBraid.f kj59 a0_0 l0_1).bind fun bt636 => ((impl_DestabilizeBraid.f kj59 bt636.1 bt636.2).bind fun bt640 => ((laws_eqBraid.f kj59 bt640.1 bt640.2.1 t607 t608).bind fun t646 => (if t646 = true then (laws_FnExactDestabilizeBraid.j2 kj59 bt633.1 (bt640.2.2 != t611) t618 bt633.2) else (laws_FnExactDestabilizeBraid.j2 kj59 bt633.1 true t618 bt633.2))))) else (some false))))) = some r := by rw [if_neg (show ¬ (false = true) by decide)] at H; exact H
                  clear H
                  have H := H1
                  clear H1
                  replace H := Option.bind_eq_some_iff.mp H
                  obtain ⟨⟨t633, t634⟩, A900, H⟩ := H
                  replace H : ((laws_heldBraid.f kj59 t618 t634 1).bind fun t635 => (if t635 < 0 then (some false) else (if t635 = t633 then ((laws_toBraid.f kj59 a0_0 l0_1).bind fun bt636 => ((impl_DestabilizeBraid.f kj59 bt636.1 bt636.2).bind fun bt640 => ((laws_eqBraid.f kj59 bt640.1 bt640.2.1 t607 t608).bind fun t646 => (if t646 = true then (laws_FnExactDestabilizeBraid.j2 kj59 t633 (bt640.2.2 != t611) t618 t634) else (laws_FnExactDestabilizeBraid.j2 kj59 t633 true t618 t634))))) else (some false)))) = some r := H
                  have A90 := Aside0.mk A900
                  clear A900
                  replace H := Option.bind_eq_some_iff.mp H
                  obtain ⟨t635, A910, H⟩ := H
                  replace H : (if t635 < 0 then (some false) else (if t635 = t633 then ((laws_toBraid.f kj59 a0_0 l0_1).bind fun bt636 => ((impl_DestabilizeBraid.f kj59 bt636.1 bt636.2).bind fun bt640 => ((laws_eqBraid.f kj59 bt640.1 bt640.2.1 t607 t608).bind fun t646 => (if t646 = true then (laws_FnExactDestabilizeBraid.j2 kj59 t633 (bt640.2.2 != t611) t618 t634) else (laws_FnExactDestabilizeBraid.j2 kj59 t633 true t618 t634))))) else (some false))) = some r := H
                  have A91 := Aside0.mk A910
                  clear A910
                  by_cases c92 : t635 < 0
                  · rw [if_pos c92] at H
                    have c92b0 : decide (t635 < 0) = true := decide_eq_true c92
                    clear c92
                    obtain rfl := Option.some.inj H
                    have hnb93 := NB623_601.out
                    have hnc93 := NB601_623.out
                    have hnb94 := NB623_612.out
                    have hnc94 := NB612_623.out
                    have hnb95 := NB623_617.out
                    have hnc95 := NB617_623.out
                    have hcz96_0 : wc.cell? ⟨gb623, 0, none⟩ = some (.int .i64 t618) := (blk_cell BK623.out 0).trans rfl
                    have hcz96_1 : wc.cell? ⟨gb623, 1, none⟩ = some (.slice Ao36 t619.length co36) := (blk_cell BK623.out 1).trans rfl
                    have hfz96_0 := blk_frozen BK623.out 0
                    have hfz96_1 := blk_frozen BK623.out 1
                    go_wp2_with (first | ((with_reducible refine gate_callee (f := 27) rfl ?_); refine goesL_ (some 64) rfl rfl Try.func27 (by kernel_rfl) rfl #[.agg #[.int .i64 t618, .slice Ao36 t619.length co36], .int .i64 1] rfl (by (try simp only [List.map_toArray, List.map_cons, List.map_nil]); first | done | rfl | (simp only [List.length_drop, List.length_take]; rfl)) ?_; (with_reducible refine (laws_markBraid.calls kj59 t618 (fun k_ => some k_ = (.slice Ao36 t619.length co36 : Value).ownBlock) (.slice Ao36 t619.length co36) t619 1 t633 t634 w _ ?side1 ?side2 A90.out).mono ?_); (case side1 => repeat (first | (with_reducible first | exact HB.out | apply below_alloc | apply pw_below_drewN | apply below_drew1 | refine below_set ?_ GE601.out | refine below_set ?_ GE612.out | refine below_set ?_ GE617.out | refine below_set ?_ GE623.out) | exact HB.out)); (case side2 => exact Kd.R_tight rfl HO_624001.out); rintro e w97 ⟨rfl, hy0, hb, hkp⟩; refine ⟨_, rfl, ?_⟩; have n0_ := Aside0.mk (Kd.R_mono (ok' := fun k_ => some k_ ≠ (.slice Ao29 t631.length co29 : Value).ownBlock ∧ some k_ ≠ (.slice Ao36 t619.length co36 : Value).ownBlock) (Kd.R_keptB (HO_613001.out) hkp (fun k_ hk_ hs_ => by first | exact (hk_.2) hs_ | grind)) (fun k_ hk_ => by first | exact ⟨hk_.1.1, hk_.1.2⟩ | grind)); have n1_ := Aside0.mk (Kd.R_mono (ok' := fun k_ => some k_ ≠ (.slice Ao22 t608.length co22 : Value).ownBlock ∧ some k_ ≠ (.slice Ao36 t619.length co36 : Value).ownBlock) (Kd.R_keptB (HO_618001.out) hkp (fun k_ hk_ hs_ => by first | exact (hk_.2) hs_ | grind)) (fun k_ hk_ => by first | exact ⟨hk_.1.1, hk_.1.2⟩ | grind)); have n2_ := Aside0.mk (Kd.R_reok rfl hy0 (fun k_ e_ => HO_624001.out.1 k_ e_)); have n3_ := Aside0.mk (blk_kept (by (with_reducible repeat (first | refine blk_drewN ?_ _ | refine blk_drew ?_ | refine blk_alloc ?_ _)); exact BK601.out) hkp (fun hs_ => (fun e_ => (Kd.R_ne HO_624001.out BK601.out (by decide)) e_) hs_)); have n4_ := Aside0.mk (blk_kept (by (with_reducible repeat (first | refine blk_drewN ?_ _ | refine blk_drew ?_ | refine blk_alloc ?_ _)); exact BK612.out) hkp (fun hs_ => (fun e_ => (Kd.R_ne HO_624001.out BK612.out (by decide)) e_) hs_)); have n5_ := Aside0.mk (blk_kept (by (with_reducible repeat (first | refine blk_drewN ?_ _ | refine blk_drew ?_ | refine blk_alloc ?_ _)); exact BK617.out) hkp (fun hs_ => (fun e_ => (Kd.R_ne HO_624001.out BK617.out (by decide)) e_) hs_)); have n6_ := Aside0.mk (blk_kept (by (with_reducible repeat (first | refine blk_drewN ?_ _ | refine blk_drew ?_ | refine blk_alloc ?_ _)); exact BK623.out) hkp (fun hs_ => (fun e_ => (Kd.R_ne HO_624001.out BK623.out (by decide)) e_) hs_)); have n7_ := Aside0.mk (hb); clear HO_613001; clear HO_618001; clear HO_624001; clear BK601; clear BK612; clear BK617; clear BK623; clear HB; have HO_613001 := n0_; have HO_618001 := n1_; have HO_624001 := n2_; have BK601 := n3_; have BK612 := n4_; have BK617 := n5_; have BK623 := n6_; have HB := n7_; clear n0_ n1_ n2_ n3_ n4_ n5_ n6_ n7_; (try clear hb); (try clear hkp); (try clear hy0); have hcz98_0 : w97.cell? ⟨gb623, 0, none⟩ = some (.int .i64 t618) := (blk_cell BK623.out 0).trans rfl; have hcz98_1 : w97.cell? ⟨gb623, 1, none⟩ = some (.slice Ao36 t619.length co36) := (blk_cell BK623.out 1).trans rfl; have hfz98_0 := blk_frozen BK623.out 0; have hfz98_1 := blk_frozen BK623.out 1) | ((with_reducible refine gate_callee (f := 28) rfl ?_); refine goesL_ (some 67) rfl rfl Try.func28 (by kernel_rfl) rfl #[.agg #[.int .i64 t618, .slice Ao36 t634.length co36], .int .i64 1] rfl (by (try simp only [List.map_toArray, List.map_cons, List.map_nil]); first | done | (rw [show t634.length = t619.length from (Kd.R_reads' HO_624001.out).1.symm] <;> rfl) | rfl | (simp only [List.length_drop, List.length_take]; rfl)) ?_; (with_reducible refine (laws_heldBraid.calls kj59 t618 _ _ t634 1 t635 _ ?side1 ?side2 A91.out).mono ?_); (case side1 => repeat (first | exact (Kd.R_reads' HO_624001.out).2.2 | (with_reducible refine Kd.C_alloc ?_ _) | (with_reducible refine Kd.C_drewN ?_ _) | (with_reducible refine Kd.C_drew ?_))); (case side2 => rw [show t634.length = t619.length from (Kd.R_reads' HO_624001.out).1.symm]; exact (Kd.R_reads' HO_624001.out).2.1); rintro e w99 ⟨rfl, hb⟩; refine ⟨_, rfl, ?_⟩; have n0_ := Aside0.mk (Kd.R_below (by (with_reducible repeat (first | apply Kd.R_alloc | apply Kd.R_drewN | apply Kd.R_drew)); exact HO_613001.out) hb); have n1_ := Aside0.mk (Kd.R_below (by (with_reducible repeat (first | apply Kd.R_alloc | apply Kd.R_drewN | apply Kd.R_drew)); exact HO_618001.out) hb); have n2_ := Aside0.mk (Kd.R_below (by (with_reducible repeat (first | apply Kd.R_alloc | apply Kd.R_drewN | apply Kd.R_drew)); exact HO_624001.out) hb); have n3_ := Aside0.mk (blk_below (g := gb601) (o := .cells #[.int .i64 a0_0, .slice A0_1 l0_1.length c0_1] 30 (0, 0)) (by (with_reducible repeat (first | refine blk_drewN ?_ _ | refine blk_drew ?_ | refine blk_alloc ?_ _)); exact BK601.out) hb); have n4_ := Aside0.mk (blk_below (g := gb612) (o := .cells #[.int .i64 t607, .slice Ao22 t608.length co22] 33 (0, 0)) (by (with_reducible repeat (first | refine blk_drewN ?_ _ | refine blk_drew ?_ | refine blk_alloc ?_ _)); exact BK612.out) hb); have n5_ := Aside0.mk (blk_below (g := gb617) (o := .cells #[.int .i64 t613, .slice Ao29 t631.length co29] 33 (0, 0)) (by (with_reducible repeat (first | refine blk_drewN ?_ _ | refine blk_drew ?_ | refine blk_alloc ?_ _)); exact BK617.out) hb); have n6_ := Aside0.mk (blk_below (g := gb623) (o := .cells #[.int .i64 t618, .slice Ao36 t619.length co36] 33 (0, 0)) (by (with_reducible repeat (first | refine blk_drewN ?_ _ | refine blk_drew ?_ | refine blk_alloc ?_ _)); exact BK623.out) hb); have n7_ := Aside0.mk (below_step (by repeat (first | (with_reducible first | exact HB.out | apply below_alloc | apply pw_below_drewN | apply below_drew1 | refine below_set ?_ GE601.out | refine below_set ?_ GE612.out | refine below_set ?_ GE617.out | refine below_set ?_ GE623.out) | exact HB.out)) hb); clear HO_613001; clear HO_618001; clear HO_624001; clear BK601; clear BK612; clear BK617; clear BK623; clear HB; have HO_613001 := n0_; have HO_618001 := n1_; have HO_624001 := n2_; have BK601 := n3_; have BK612 := n4_; have BK617 := n5_; have BK623 := n6_; have HB := n7_; clear n0_ n1_ n2_ n3_ n4_ n5_ n6_ n7_; (try clear hb); (try clear hb2); (try clear hk); (try clear hi)))
                    go_ret
                    exact ⟨by first | rfl | (simp [errW_none, errW_some] <;> rfl) | (simp [*, errW_none, errW_some] <;> rfl), by repeat (first | (with_reducible first | exact HB.out | apply below_alloc | apply pw_below_drewN | apply below_drew1 | refine below_set ?_ GE601.out | refine below_set ?_ GE612.out | refine below_set ?_ GE617.out | refine below_set ?_ GE623.out) | exact HB.out)⟩
                  · rw [if_neg c92] at H
                    have c92b0 : decide (t635 < 0) = false := decide_eq_false c92
                    clear c92
                    by_cases c100 : t635 = t633
                    · rw [if_pos c100] at H
                      have c100b0 : (t635 == t633) = true := beq_iff_eq.mpr c100
                      have c100b1 : (t635 != t633) = false := bne_eq_false_iff_eq.mpr c100
                      clear c100
                      replace H := Option.bind_eq_some_iff.mp H
                      obtain ⟨⟨t636, t637⟩, A1010, H⟩ := H
                      replace H : ((impl_DestabilizeBraid.f kj59 t636 t637).bind fun bt640 => ((laws_eqBraid.f kj59 bt640.1 bt640.2.1 t607 t608).bind fun t646 => (if t646 = true then (laws_FnExactDestabilizeBraid.j2 kj59 t633 (bt640.2.2 != t611) t618 t634) else (laws_FnExactDestabilizeBraid.j2 kj59 t633 true t618 t634)))) = some r := H
                      have A101 := Aside0.mk A1010
                      clear A1010
                      replace H := Option.bind_eq_some_iff.mp H
                      obtain ⟨⟨t640, t641, t644⟩, A1020, H⟩ := H
                      replace H : ((laws_eqBraid.f kj59 t640 t641 t607 t608).bind fun t646 => (if t646 = true then (laws_FnExactDestabilizeBraid.j2 kj59 t633 (t644 != t611) t618 t634) else (laws_FnExactDestabilizeBraid.j2 kj59 t633 true t618 t634))) = some r := H
                      have A102 := Aside0.mk A1020
                      clear A1020
                      have HC103 := Aside0.mk H
                      clear H
                      have hnb104 := NB623_601.out
                      have hnc104 := NB601_623.out
                      have hnb105 := NB623_612.out
                      have hnc105 := NB612_623.out
                      have hnb106 := NB623_617.out
                      have hnc106 := NB617_623.out
                      have hcz107_0 : wc.cell? ⟨gb623, 0, none⟩ = some (.int .i64 t618) := (blk_cell BK623.out 0).trans rfl
                      have hcz107_1 : wc.cell? ⟨gb623, 1, none⟩ = some (.slice Ao36 t619.length co36) := (blk_cell BK623.out 1).trans rfl
                      have hfz107_0 := blk_frozen BK623.out 0
                      have hfz107_1 := blk_frozen BK623.out 1
                      go_upto_region 25 with (first | ((with_reducible refine gate_callee (f := 27) rfl ?_); refine goesL_ (some 64) rfl rfl Try.func27 (by kernel_rfl) rfl #[.agg #[.int .i64 t618, .slice Ao36 t619.length co36], .int .i64 1] rfl (by (try simp only [List.map_toArray, List.map_cons, List.map_nil]); first | done | rfl | (simp only [List.length_drop, List.length_take]; rfl)) ?_; (with_reducible refine (laws_markBraid.calls kj59 t618 (fun k_ => some k_ = (.slice Ao36 t619.length co36 : Value).ownBlock) (.slice Ao36 t619.length co36) t619 1 t633 t634 w _ ?side1 ?side2 A90.out).mono ?_); (case side1 => repeat (first | (with_reducible first | exact HB.out | apply below_alloc | apply pw_below_drewN | apply below_drew1 | refine below_set ?_ GE601.out | refine below_set ?_ GE612.out | refine below_set ?_ GE617.out | refine below_set ?_ GE623.out) | exact HB.out)); (case side2 => exact Kd.R_tight rfl HO_624001.out); rintro e w108 ⟨rfl, hy0, hb, hkp⟩; refine ⟨_, rfl, ?_⟩; have n0_ := Aside0.mk (Kd.R_mono (ok' := fun k_ => some k_ ≠ (.slice Ao29 t631.length co29 : Value).ownBlock ∧ some k_ ≠ (.slice Ao36 t619.length co36 : Value).ownBlock) (Kd.R_keptB (HO_613001.out) hkp (fun k_ hk_ hs_ => by first | exact (hk_.2) hs_ | grind)) (fun k_ hk_ => by first | exact ⟨hk_.1.1, hk_.1.2⟩ | grind)); have n1_ := Aside0.mk (Kd.R_mono (ok' := fun k_ => some k_ ≠ (.slice Ao22 t608.length co22 : Value).ownBlock ∧ some k_ ≠ (.slice Ao36 t619.length co36 : Value).ownBlock) (Kd.R_keptB (HO_618001.out) hkp (fun k_ hk_ hs_ => by first | exact (hk_.2) hs_ | grind)) (fun k_ hk_ => by first | exact ⟨hk_.1.1, hk_.1.2⟩ | grind)); have n2_ := Aside0.mk (Kd.R_reok rfl hy0 (fun k_ e_ => HO_624001.out.1 k_ e_)); have n3_ := Aside0.mk (blk_kept (by (with_reducible repeat (first | refine blk_drewN ?_ _ | refine blk_drew ?_ | refine blk_alloc ?_ _)); exact BK601.out) hkp (fun hs_ => (fun e_ => (Kd.R_ne HO_624001.out BK601.out (by decide)) e_) hs_)); have n4_ := Aside0.mk (blk_kept (by (with_reducible repeat (first | refine blk_drewN ?_ _ | refine blk_drew ?_ | refine blk_alloc ?_ _)); exact BK612.out) hkp (fun hs_ => (fun e_ => (Kd.R_ne HO_624001.out BK612.out (by decide)) e_) hs_)); have n5_ := Aside0.mk (blk_kept (by (with_reducible repeat (first | refine blk_drewN ?_ _ | refine blk_drew ?_ | refine blk_alloc ?_ _)); exact BK617.out) hkp (fun hs_ => (fun e_ => (Kd.R_ne HO_624001.out BK617.out (by decide)) e_) hs_)); have n6_ := Aside0.mk (blk_kept (by (with_reducible repeat (first | refine blk_drewN ?_ _ | refine blk_drew ?_ | refine blk_alloc ?_ _)); exact BK623.out) hkp (fun hs_ => (fun e_ => (Kd.R_ne HO_624001.out BK623.out (by decide)) e_) hs_)); have n7_ := Aside0.mk (hb); clear HO_613001; clear HO_618001; clear HO_624001; clear BK601; clear BK612; clear BK617; clear BK623; clear HB; have HO_613001 := n0_; have HO_618001 := n1_; have HO_624001 := n2_; have BK601 := n3_; have BK612 := n4_; have BK617 := n5_; have BK623 := n6_; have HB := n7_; clear n0_ n1_ n2_ n3_ n4_ n5_ n6_ n7_; (try clear hb); (try clear hkp); (try clear hy0); have hcz109_0 : w108.cell? ⟨gb623, 0, none⟩ = some (.int .i64 t618) := (blk_cell BK623.out 0).trans rfl; have hcz109_1 : w108.cell? ⟨gb623, 1, none⟩ = some (.slice Ao36 t619.length co36) := (blk_cell BK623.out 1).trans rfl; have hfz109_0 := blk_frozen BK623.out 0; have hfz109_1 := blk_frozen BK623.out 1) | (go_at_call 27; (with_reducible refine (laws_markBraid.calls kj59 t618 (fun k_ => some k_ = (.slice Ao36 t619.length co36 : Value).ownBlock) (.slice Ao36 t619.length co36) t619 1 t633 t634 w _ ?side1 ?side2 A90.out).mono ?_); (case side1 => repeat (first | (with_reducible first | exact HB.out | apply below_alloc | apply pw_below_drewN | apply below_drew1 | refine below_set ?_ GE601.out | refine below_set ?_ GE612.out | refine below_set ?_ GE617.out | refine below_set ?_ GE623.out) | exact HB.out)); (case side2 => exact Kd.R_tight rfl HO_624001.out); rintro e w108 ⟨rfl, hy0, hb, hkp⟩; have n0_ := Aside0.mk (Kd.R_mono (ok' := fun k_ => some k_ ≠ (.slice Ao29 t631.length co29 : Value).ownBlock ∧ some k_ ≠ (.slice Ao36 t619.length co36 : Value).ownBlock) (Kd.R_keptB (HO_613001.out) hkp (fun k_ hk_ hs_ => by first | exact (hk_.2) hs_ | grind)) (fun k_ hk_ => by first | exact ⟨hk_.1.1, hk_.1.2⟩ | grind)); have n1_ := Aside0.mk (Kd.R_mono (ok' := fun k_ => some k_ ≠ (.slice Ao22 t608.length co22 : Value).ownBlock ∧ some k_ ≠ (.slice Ao36 t619.length co36 : Value).ownBlock) (Kd.R_keptB (HO_618001.out) hkp (fun k_ hk_ hs_ => by first | exact (hk_.2) hs_ | grind)) (fun k_ hk_ => by first | exact ⟨hk_.1.1, hk_.1.2⟩ | grind)); have n2_ := Aside0.mk (Kd.R_reok rfl hy0 (fun k_ e_ => HO_624001.out.1 k_ e_)); have n3_ := Aside0.mk (blk_kept (by (with_reducible repeat (first | refine blk_drewN ?_ _ | refine blk_drew ?_ | refine blk_alloc ?_ _)); exact BK601.out) hkp (fun hs_ => (fun e_ => (Kd.R_ne HO_624001.out BK601.out (by decide)) e_) hs_)); have n4_ := Aside0.mk (blk_kept (by (with_reducible repeat (first | refine blk_drewN ?_ _ | refine blk_drew ?_ | refine blk_alloc ?_ _)); exact BK612.out) hkp (fun hs_ => (fun e_ => (Kd.R_ne HO_624001.out BK612.out (by decide)) e_) hs_)); have n5_ := Aside0.mk (blk_kept (by (with_reducible repeat (first | refine blk_drewN ?_ _ | refine blk_drew ?_ | refine blk_alloc ?_ _)); exact BK617.out) hkp (fun hs_ => (fun e_ => (Kd.R_ne HO_624001.out BK617.out (by decide)) e_) hs_)); have n6_ := Aside0.mk (blk_kept (by (with_reducible repeat (first | refine blk_drewN ?_ _ | refine blk_drew ?_ | refine blk_alloc ?_ _)); exact BK623.out) hkp (fun hs_ => (fun e_ => (Kd.R_ne HO_624001.out BK623.out (by decide)) e_) hs_)); have n7_ := Aside0.mk (hb); clear HO_613001; clear HO_618001; clear HO_624001; clear BK601; clear BK612; clear BK617; clear BK623; clear HB; have HO_613001 := n0_; have HO_618001 := n1_; have HO_624001 := n2_; have BK601 := n3_; have BK612 := n4_; have BK617 := n5_; have BK623 := n6_; have HB := n7_; clear n0_ n1_ n2_ n3_ n4_ n5_ n6_ n7_; (try clear hb); (try clear hkp); (try clear hy0); have hcz109_0 : w108.cell? ⟨gb623, 0, none⟩ = some (.int .i64 t618) := (blk_cell BK623.out 0).trans rfl; have hcz109_1 : w108.cell? ⟨gb623, 1, none⟩ = some (.slice Ao36 t619.length co36) := (blk_cell BK623.out 1).trans rfl; have hfz109_0 := blk_frozen BK623.out 0; have hfz109_1 := blk_frozen BK623.out 1) | ((with_reducible refine gate_callee (f := 28) rfl ?_); refine goesL_ (some 67) rfl rfl Try.func28 (by kernel_rfl) rfl #[.agg #[.int .i64 t618, .slice Ao36 t634.length co36], .int .i64 1] rfl (by (try simp only [List.map_toArray, List.map_cons, List.map_nil]); first | done | (rw [show t634.length = t619.length from (Kd.R_reads' HO_624001.out).1.symm] <;> rfl) | rfl | (simp only [List.length_drop, List.length_take]; rfl)) ?_; (with_reducible refine (laws_heldBraid.calls kj59 t618 _ _ t634 1 t635 _ ?side1 ?side2 A91.out).mono ?_); (case side1 => repeat (first | exact (Kd.R_reads' HO_624001.out).2.2 | (with_reducible refine Kd.C_alloc ?_ _) | (with_reducible refine Kd.C_drewN ?_ _) | (with_reducible refine Kd.C_drew ?_))); (case side2 => rw [show t634.length = t619.length from (Kd.R_reads' HO_624001.out).1.symm]; exact (Kd.R_reads' HO_624001.out).2.1); rintro e w110 ⟨rfl, hb⟩; refine ⟨_, rfl, ?_⟩; have n0_ := Aside0.mk (Kd.R_below (by (with_reducible repeat (first | apply Kd.R_alloc | apply Kd.R_drewN | apply Kd.R_drew)); exact HO_613001.out) hb); have n1_ := Aside0.mk (Kd.R_below (by (with_reducible repeat (first | apply Kd.R_alloc | apply Kd.R_drewN | apply Kd.R_drew)); exact HO_618001.out) hb); have n2_ := Aside0.mk (Kd.R_below (by (with_reducible repeat (first | apply Kd.R_alloc | apply Kd.R_drewN | apply Kd.R_drew)); exact HO_624001.out) hb); have n3_ := Aside0.mk (blk_below (g := gb601) (o := .cells #[.int .i64 a0_0, .slice A0_1 l0_1.length c0_1] 30 (0, 0)) (by (with_reducible repeat (first | refine blk_drewN ?_ _ | refine blk_drew ?_ | refine blk_alloc ?_ _)); exact BK601.out) hb); have n4_ := Aside0.mk (blk_below (g := gb612) (o := .cells #[.int .i64 t607, .slice Ao22 t608.length co22] 33 (0, 0)) (by (with_reducible repeat (first | refine blk_drewN ?_ _ | refine blk_drew ?_ | refine blk_alloc ?_ _)); exact BK612.out) hb); have n5_ := Aside0.mk (blk_below (g := gb617) (o := .cells #[.int .i64 t613, .slice Ao29 t631.length co29] 33 (0, 0)) (by (with_reducible repeat (first | refine blk_drewN ?_ _ | refine blk_drew ?_ | refine blk_alloc ?_ _)); exact BK617.out) hb); have n6_ := Aside0.mk (blk_below (g := gb623) (o := .cells #[.int .i64 t618, .slice Ao36 t619.length co36] 33 (0, 0)) (by (with_reducible repeat (first | refine blk_drewN ?_ _ | refine blk_drew ?_ | refine blk_alloc ?_ _)); exact BK623.out) hb); have n7_ := Aside0.mk (below_step (by repeat (first | (with_reducible first | exact HB.out | apply below_alloc | apply pw_below_drewN | apply below_drew1 | refine below_set ?_ GE601.out | refine below_set ?_ GE612.out | refine below_set ?_ GE617.out | refine below_set ?_ GE623.out) | exact HB.out)) hb); clear HO_613001; clear HO_618001; clear HO_624001; clear BK601; clear BK612; clear BK617; clear BK623; clear HB; have HO_613001 := n0_; have HO_618001 := n1_; have HO_624001 := n2_; have BK601 := n3_; have BK612 := n4_; have BK617 := n5_; have BK623 := n6_; have HB := n7_; clear n0_ n1_ n2_ n3_ n4_ n5_ n6_ n7_; (try clear hb); (try clear hb2); (try clear hk); (try clear hi); have hnb111 := NB601_612.out; have hnc111 := NB612_601.out; have hnb112 := NB601_617.out; have hnc112 := NB617_601.out; have hcz113_0 : w110.cell? ⟨gb601, 0, none⟩ = some (.int .i64 a0_0) := (blk_cell BK601.out 0).trans rfl; have hcz113_1 : w110.cell? ⟨gb601, 1, none⟩ = some (.slice A0_1 l0_1.length c0_1) := (blk_cell BK601.out 1).trans rfl; have hfz113_0 := blk_frozen BK601.out 0; have hfz113_1 := blk_frozen BK601.out 1) | (go_at_call 28; (with_reducible refine (laws_heldBraid.calls kj59 t618 _ _ t634 1 t635 _ ?side1 ?side2 A91.out).mono ?_); (case side1 => repeat (first | exact (Kd.R_reads' HO_624001.out).2.2 | (with_reducible refine Kd.C_alloc ?_ _) | (with_reducible refine Kd.C_drewN ?_ _) | (with_reducible refine Kd.C_drew ?_))); (case side2 => rw [show t634.length = t619.length from (Kd.R_reads' HO_624001.out).1.symm]; exact (Kd.R_reads' HO_624001.out).2.1); rintro e w110 ⟨rfl, hb⟩; have n0_ := Aside0.mk (Kd.R_below (by (with_reducible repeat (first | apply Kd.R_alloc | apply Kd.R_drewN | apply Kd.R_drew)); exact HO_613001.out) hb); have n1_ := Aside0.mk (Kd.R_below (by (with_reducible repeat (first | apply Kd.R_alloc | apply Kd.R_drewN | apply Kd.R_drew)); exact HO_618001.out) hb); have n2_ := Aside0.mk (Kd.R_below (by (with_reducible repeat (first | apply Kd.R_alloc | apply Kd.R_drewN | apply Kd.R_drew)); exact HO_624001.out) hb); have n3_ := Aside0.mk (blk_below (g := gb601) (o := .cells #[.int .i64 a0_0, .slice A0_1 l0_1.length c0_1] 30 (0, 0)) (by (with_reducible repeat (first | refine blk_drewN ?_ _ | refine blk_drew ?_ | refine blk_alloc ?_ _)); exact BK601.out) hb); have n4_ := Aside0.mk (blk_below (g := gb612) (o := .cells #[.int .i64 t607, .slice Ao22 t608.length co22] 33 (0, 0)) (by (with_reducible repeat (first | refine blk_drewN ?_ _ | refine blk_drew ?_ | refine blk_alloc ?_ _)); exact BK612.out) hb); have n5_ := Aside0.mk (blk_below (g := gb617) (o := .cells #[.int .i64 t613, .slice Ao29 t631.length co29] 33 (0, 0)) (by (with_reducible repeat (first | refine blk_drewN ?_ _ | refine blk_drew ?_ | refine blk_alloc ?_ _)); exact BK617.out) hb); have n6_ := Aside0.mk (blk_below (g := gb623) (o := .cells #[.int .i64 t618, .slice Ao36 t619.length co36] 33 (0, 0)) (by (with_reducible repeat (first | refine blk_drewN ?_ _ | refine blk_drew ?_ | refine blk_alloc ?_ _)); exact BK623.out) hb); have n7_ := Aside0.mk (below_step (by repeat (first | (with_reducible first | exact HB.out | apply below_alloc | apply pw_below_drewN | apply below_drew1 | refine below_set ?_ GE601.out | refine below_set ?_ GE612.out | refine below_set ?_ GE617.out | refine below_set ?_ GE623.out) | exact HB.out)) hb); clear HO_613001; clear HO_618001; clear HO_624001; clear BK601; clear BK612; clear BK617; clear BK623; clear HB; have HO_613001 := n0_; have HO_618001 := n1_; have HO_624001 := n2_; have BK601 := n3_; have BK612 := n4_; have BK617 := n5_; have BK623 := n6_; have HB := n7_; clear n0_ n1_ n2_ n3_ n4_ n5_ n6_ n7_; (try clear hb); (try clear hb2); (try clear hk); (try clear hi); have hnb111 := NB601_612.out; have hnc111 := NB612_601.out; have hnb112 := NB601_617.out; have hnc112 := NB617_601.out; have hcz113_0 : w110.cell? ⟨gb601, 0, none⟩ = some (.int .i64 a0_0) := (blk_cell BK601.out 0).trans rfl; have hcz113_1 : w110.cell? ⟨gb601, 1, none⟩ = some (.slice A0_1 l0_1.length c0_1) := (blk_cell BK601.out 1).trans rfl; have hfz113_0 := blk_frozen BK601.out 0; have hfz113_1 := blk_frozen BK601.out 1) | ((with_reducible refine gate_callee (f := 22) rfl ?_); refine goesL_ (some 75) rfl rfl Try.func22 (by kernel_rfl) rfl #[.agg #[.int .i64 a0_0, .slice A0_1 l0_1.length c0_1]] rfl (by (try simp only [List.map_toArray, List.map_cons, List.map_nil]); first | done | rfl | (simp only [List.length_drop, List.length_take]; rfl)) ?_; (with_reducible refine (laws_toBraid.calls kj59 a0_0 _ _ l0_1 t636 t637 _ ?side1 ?side2 A101.out).mono ?_); (case side1 => repeat (first | exact (Kd.C_below HR0_1.out HB.out) | (with_reducible refine Kd.C_alloc ?_ _) | (with_reducible refine Kd.C_drewN ?_ _) | (with_reducible refine Kd.C_drew ?_))); (case side2 => exact HC0_1.out); rintro e w114 ⟨v638, rfl, ho0, hb⟩; refine ⟨_, rfl, ?_⟩; have n0_ := Aside0.mk (Kd.R_elder' (by (with_reducible repeat (first | apply Kd.R_alloc | apply Kd.R_drewN | apply Kd.R_drew)); exact HO_613001.out) (Kd.R_base ho0) hb); have n1_ := Aside0.mk (Kd.R_elder' (by (with_reducible repeat (first | apply Kd.R_alloc | apply Kd.R_drewN | apply Kd.R_drew)); exact HO_618001.out) (Kd.R_base ho0) hb); have n2_ := Aside0.mk (Kd.R_elder' (by (with_reducible repeat (first | apply Kd.R_alloc | apply Kd.R_drewN | apply Kd.R_drew)); exact HO_624001.out) (Kd.R_base ho0) hb); have n3_ := Aside0.mk (Kd.R_lower (Kd.R_new' (Kd.R_new' (Kd.R_new' ho0 (Kd.R_lt (by (with_reducible repeat (first | apply Kd.R_alloc | apply Kd.R_drewN | apply Kd.R_drew)); exact HO_613001.out))) (Kd.R_lt (by (with_reducible repeat (first | apply Kd.R_alloc | apply Kd.R_drewN | apply Kd.R_drew)); exact HO_618001.out))) (Kd.R_lt (by (with_reducible repeat (first | apply Kd.R_alloc | apply Kd.R_drewN | apply Kd.R_drew)); exact HO_624001.out))) (below_size (by repeat (first | (with_reducible first | exact HB.out | apply below_alloc | apply pw_below_drewN | apply below_drew1 | refine below_set ?_ GE601.out | refine below_set ?_ GE612.out | refine below_set ?_ GE617.out | refine below_set ?_ GE623.out) | exact HB.out)))); have n4_ := Aside0.mk (blk_below (g := gb601) (o := .cells #[.int .i64 a0_0, .slice A0_1 l0_1.length c0_1] 30 (0, 0)) (by (with_reducible repeat (first | refine blk_drewN ?_ _ | refine blk_drew ?_ | refine blk_alloc ?_ _)); exact BK601.out) hb); have n5_ := Aside0.mk (blk_below (g := gb612) (o := .cells #[.int .i64 t607, .slice Ao22 t608.length co22] 33 (0, 0)) (by (with_reducible repeat (first | refine blk_drewN ?_ _ | refine blk_drew ?_ | refine blk_alloc ?_ _)); exact BK612.out) hb); have n6_ := Aside0.mk (blk_below (g := gb617) (o := .cells #[.int .i64 t613, .slice Ao29 t631.length co29] 33 (0, 0)) (by (with_reducible repeat (first | refine blk_drewN ?_ _ | refine blk_drew ?_ | refine blk_alloc ?_ _)); exact BK617.out) hb); have n7_ := Aside0.mk (blk_below (g := gb623) (o := .cells #[.int .i64 t618, .slice Ao36 t619.length co36] 33 (0, 0)) (by (with_reducible repeat (first | refine blk_drewN ?_ _ | refine blk_drew ?_ | refine blk_alloc ?_ _)); exact BK623.out) hb); have n8_ := Aside0.mk (below_step (by repeat (first | (with_reducible first | exact HB.out | apply below_alloc | apply pw_below_drewN | apply below_drew1 | refine below_set ?_ GE601.out | refine below_set ?_ GE612.out | refine below_set ?_ GE617.out | refine below_set ?_ GE623.out) | exact HB.out)) hb); clear HO_613001; clear HO_618001; clear HO_624001; clear BK601; clear BK612; clear BK617; clear BK623; clear HB; have HO_613001 := n0_; have HO_618001 := n1_; have HO_624001 := n2_; have HO639 := n3_; have BK601 := n4_; have BK612 := n5_; have BK617 := n6_; have BK623 := n7_; have HB := n8_; clear n0_ n1_ n2_ n3_ n4_ n5_ n6_ n7_ n8_; (try clear hb); (try clear hb2); (try clear hk); (try clear hi); (try clear ho0); obtain ⟨Ao115, co115, eo115⟩ := Kd.R_slice HO639.out; subst eo115) | (go_at_call 22; (with_reducible refine (laws_toBraid.calls kj59 a0_0 _ _ l0_1 t636 t637 _ ?side1 ?side2 A101.out).mono ?_); (case side1 => repeat (first | exact (Kd.C_below HR0_1.out HB.out) | (with_reducible refine Kd.C_alloc ?_ _) | (with_reducible refine Kd.C_drewN ?_ _) | (with_reducible refine Kd.C_drew ?_))); (case side2 => exact HC0_1.out); rintro e w114 ⟨v638, rfl, ho0, hb⟩; have n0_ := Aside0.mk (Kd.R_elder' (by (with_reducible repeat (first | apply Kd.R_alloc | apply Kd.R_drewN | apply Kd.R_drew)); exact HO_613001.out) (Kd.R_base ho0) hb); have n1_ := Aside0.mk (Kd.R_elder' (by (with_reducible repeat (first | apply Kd.R_alloc | apply Kd.R_drewN | apply Kd.R_drew)); exact HO_618001.out) (Kd.R_base ho0) hb); have n2_ := Aside0.mk (Kd.R_elder' (by (with_reducible repeat (first | apply Kd.R_alloc | apply Kd.R_drewN | apply Kd.R_drew)); exact HO_624001.out) (Kd.R_base ho0) hb); have n3_ := Aside0.mk (Kd.R_lower (Kd.R_new' (Kd.R_new' (Kd.R_new' ho0 (Kd.R_lt (by (with_reducible repeat (first | apply Kd.R_alloc | apply Kd.R_drewN | apply Kd.R_drew)); exact HO_613001.out))) (Kd.R_lt (by (with_reducible repeat (first | apply Kd.R_alloc | apply Kd.R_drewN | apply Kd.R_drew)); exact HO_618001.out))) (Kd.R_lt (by (with_reducible repeat (first | apply Kd.R_alloc | apply Kd.R_drewN | apply Kd.R_drew)); exact HO_624001.out))) (below_size (by repeat (first | (with_reducible first | exact HB.out | apply below_alloc | apply pw_below_drewN | apply below_drew1 | refine below_set ?_ GE601.out | refine below_set ?_ GE612.out | refine below_set ?_ GE617.out | refine below_set ?_ GE623.out) | exact HB.out)))); have n4_ := Aside0.mk (blk_below (g := gb601) (o := .cells #[.int .i64 a0_0, .slice A0_1 l0_1.length c0_1] 30 (0, 0)) (by (with_reducible repeat (first | refine blk_drewN ?_ _ | refine blk_drew ?_ | refine blk_alloc ?_ _)); exact BK601.out) hb); have n5_ := Aside0.mk (blk_below (g := gb612) (o := .cells #[.int .i64 t607, .slice Ao22 t608.length co22] 33 (0, 0)) (by (with_reducible repeat (first | refine blk_drewN ?_ _ | refine blk_drew ?_ | refine blk_alloc ?_ _)); exact BK612.out) hb); have n6_ := Aside0.mk (blk_below (g := gb617) (o := .cells #[.int .i64 t613, .slice Ao29 t631.length co29] 33 (0, 0)) (by (with_reducible repeat (first | refine blk_drewN ?_ _ | refine blk_drew ?_ | refine blk_alloc ?_ _)); exact BK617.out) hb); have n7_ := Aside0.mk (blk_below (g := gb623) (o := .cells #[.int .i64 t618, .slice Ao36 t619.length co36] 33 (0, 0)) (by (with_reducible repeat (first | refine blk_drewN ?_ _ | refine blk_drew ?_ | refine blk_alloc ?_ _)); exact BK623.out) hb); have n8_ := Aside0.mk (below_step (by repeat (first | (with_reducible first | exact HB.out | apply below_alloc | apply pw_below_drewN | apply below_drew1 | refine below_set ?_ GE601.out | refine below_set ?_ GE612.out | refine below_set ?_ GE617.out | refine below_set ?_ GE623.out) | exact HB.out)) hb); clear HO_613001; clear HO_618001; clear HO_624001; clear BK601; clear BK612; clear BK617; clear BK623; clear HB; have HO_613001 := n0_; have HO_618001 := n1_; have HO_624001 := n2_; have HO639 := n3_; have BK601 := n4_; have BK612 := n5_; have BK617 := n6_; have BK623 := n7_; have HB := n8_; clear n0_ n1_ n2_ n3_ n4_ n5_ n6_ n7_ n8_; (try clear hb); (try clear hb2); (try clear hk); (try clear hi); (try clear ho0); obtain ⟨Ao115, co115, eo115⟩ := Kd.R_slice HO639.out; subst eo115) | ((with_reducible refine gate_callee (f := 38) rfl ?_); refine goesL_ (some 76) rfl rfl Try.func38 (by kernel_rfl) rfl #[.agg #[.int .i64 t636, .slice Ao115 t637.length co115]] rfl (by (try simp only [List.map_toArray, List.map_cons, List.map_nil]); first | done | rfl | (simp only [List.length_drop, List.length_take]; rfl)) ?_; (with_reducible refine (impl_DestabilizeBraid.calls kj59 t636 _ _ t637 t640 t641 t644 _ ?side1 ?side2 A102.out).mono ?_); (case side1 => repeat (first | exact (Kd.R_reads' HO639.out).2.2 | (with_reducible refine Kd.C_alloc ?_ _) | (with_reducible refine Kd.C_drewN ?_ _) | (with_reducible refine Kd.C_drew ?_))); (case side2 => exact (Kd.R_reads' HO639.out).2.1); rintro e w116 ⟨v642, rfl, ho0, hb⟩; refine ⟨_, rfl, ?_⟩; have n0_ := Aside0.mk (Kd.R_elder' (by (with_reducible repeat (first | apply Kd.R_alloc | apply Kd.R_drewN | apply Kd.R_drew)); exact HO_613001.out) (Kd.R_base ho0) hb); have n1_ := Aside0.mk (Kd.R_elder' (by (with_reducible repeat (first | apply Kd.R_alloc | apply Kd.R_drewN | apply Kd.R_drew)); exact HO_618001.out) (Kd.R_base ho0) hb); have n2_ := Aside0.mk (Kd.R_elder' (by (with_reducible repeat (first | apply Kd.R_alloc | apply Kd.R_drewN | apply Kd.R_drew)); exact HO_624001.out) (Kd.R_base ho0) hb); have n3_ := Aside0.mk (Kd.R_elder' (by (with_reducible repeat (first | apply Kd.R_alloc | apply Kd.R_drewN | apply Kd.R_drew)); exact HO639.out) (Kd.R_base ho0) hb); have n4_ := Aside0.mk (Kd.R_lower (Kd.R_new' (Kd.R_new' (Kd.R_new' (Kd.R_new' ho0 (Kd.R_lt (by (with_reducible repeat (first | apply Kd.R_alloc | apply Kd.R_drewN | apply Kd.R_drew)); exact HO_613001.out))) (Kd.R_lt (by (with_reducible repeat (first | apply Kd.R_alloc | apply Kd.R_drewN | apply Kd.R_drew)); exact HO_618001.out))) (Kd.R_lt (by (with_reducible repeat (first | apply Kd.R_alloc | apply Kd.R_drewN | apply Kd.R_drew)); exact HO_624001.out))) (Kd.R_lt (by (with_reducible repeat (first | apply Kd.R_alloc | apply Kd.R_drewN | apply Kd.R_drew)); exact HO639.out))) (below_size (by repeat (first | (with_reducible first | exact HB.out | apply below_alloc | apply pw_below_drewN | apply below_drew1 | refine below_set ?_ GE601.out | refine below_set ?_ GE612.out | refine below_set ?_ GE617.out | refine below_set ?_ GE623.out) | exact HB.out)))); have n5_ := Aside0.mk (blk_below (g := gb601) (o := .cells #[.int .i64 a0_0, .slice A0_1 l0_1.length c0_1] 30 (0, 0)) (by (with_reducible repeat (first | refine blk_drewN ?_ _ | refine blk_drew ?_ | refine blk_alloc ?_ _)); exact BK601.out) hb); have n6_ := Aside0.mk (blk_below (g := gb612) (o := .cells #[.int .i64 t607, .slice Ao22 t608.length co22] 33 (0, 0)) (by (with_reducible repeat (first | refine blk_drewN ?_ _ | refine blk_drew ?_ | refine blk_alloc ?_ _)); exact BK612.out) hb); have n7_ := Aside0.mk (blk_below (g := gb617) (o := .cells #[.int .i64 t613, .slice Ao29 t631.length co29] 33 (0, 0)) (by (with_reducible repeat (first | refine blk_drewN ?_ _ | refine blk_drew ?_ | refine blk_alloc ?_ _)); exact BK617.out) hb); have n8_ := Aside0.mk (blk_below (g := gb623) (o := .cells #[.int .i64 t618, .slice Ao36 t619.length co36] 33 (0, 0)) (by (with_reducible repeat (first | refine blk_drewN ?_ _ | refine blk_drew ?_ | refine blk_alloc ?_ _)); exact BK623.out) hb); have n9_ := Aside0.mk (below_step (by repeat (first | (with_reducible first | exact HB.out | apply below_alloc | apply pw_below_drewN | apply below_drew1 | refine below_set ?_ GE601.out | refine below_set ?_ GE612.out | refine below_set ?_ GE617.out | refine below_set ?_ GE623.out) | exact HB.out)) hb); clear HO_613001; clear HO_618001; clear HO_624001; clear HO639; clear BK601; clear BK612; clear BK617; clear BK623; clear HB; have HO_613001 := n0_; have HO_618001 := n1_; have HO_624001 := n2_; have HO639 := n3_; have HO643 := n4_; have BK601 := n5_; have BK612 := n6_; have BK617 := n7_; have BK623 := n8_; have HB := n9_; clear n0_ n1_ n2_ n3_ n4_ n5_ n6_ n7_ n8_ n9_; (try clear hb); (try clear hb2); (try clear hk); (try clear hi); (try clear ho0)) | (go_at_call 38; (with_reducible refine (impl_DestabilizeBraid.calls kj59 t636 _ _ t637 t640 t641 t644 _ ?side1 ?side2 A102.out).mono ?_); (case side1 => repeat (first | exact (Kd.R_reads' HO639.out).2.2 | (with_reducible refine Kd.C_alloc ?_ _) | (with_reducible refine Kd.C_drewN ?_ _) | (with_reducible refine Kd.C_drew ?_))); (case side2 => exact (Kd.R_reads' HO639.out).2.1); rintro e w116 ⟨v642, rfl, ho0, hb⟩; have n0_ := Aside0.mk (Kd.R_elder' (by (with_reducible repeat (first | apply Kd.R_alloc | apply Kd.R_drewN | apply Kd.R_drew)); exact HO_613001.out) (Kd.R_base ho0) hb); have n1_ := Aside0.mk (Kd.R_elder' (by (with_reducible repeat (first | apply Kd.R_alloc | apply Kd.R_drewN | apply Kd.R_drew)); exact HO_618001.out) (Kd.R_base ho0) hb); have n2_ := Aside0.mk (Kd.R_elder' (by (with_reducible repeat (first | apply Kd.R_alloc | apply Kd.R_drewN | apply Kd.R_drew)); exact HO_624001.out) (Kd.R_base ho0) hb); have n3_ := Aside0.mk (Kd.R_elder' (by (with_reducible repeat (first | apply Kd.R_alloc | apply Kd.R_drewN | apply Kd.R_drew)); exact HO639.out) (Kd.R_base ho0) hb); have n4_ := Aside0.mk (Kd.R_lower (Kd.R_new' (Kd.R_new' (Kd.R_new' (Kd.R_new' ho0 (Kd.R_lt (by (with_reducible repeat (first | apply Kd.R_alloc | apply Kd.R_drewN | apply Kd.R_drew)); exact HO_613001.out))) (Kd.R_lt (by (with_reducible repeat (first | apply Kd.R_alloc | apply Kd.R_drewN | apply Kd.R_drew)); exact HO_618001.out))) (Kd.R_lt (by (with_reducible repeat (first | apply Kd.R_alloc | apply Kd.R_drewN | apply Kd.R_drew)); exact HO_624001.out))) (Kd.R_lt (by (with_reducible repeat (first | apply Kd.R_alloc | apply Kd.R_drewN | apply Kd.R_drew)); exact HO639.out))) (below_size (by repeat (first | (with_reducible first | exact HB.out | apply below_alloc | apply pw_below_drewN | apply below_drew1 | refine below_set ?_ GE601.out | refine below_set ?_ GE612.out | refine below_set ?_ GE617.out | refine below_set ?_ GE623.out) | exact HB.out)))); have n5_ := Aside0.mk (blk_below (g := gb601) (o := .cells #[.int .i64 a0_0, .slice A0_1 l0_1.length c0_1] 30 (0, 0)) (by (with_reducible repeat (first | refine blk_drewN ?_ _ | refine blk_drew ?_ | refine blk_alloc ?_ _)); exact BK601.out) hb); have n6_ := Aside0.mk (blk_below (g := gb612) (o := .cells #[.int .i64 t607, .slice Ao22 t608.length co22] 33 (0, 0)) (by (with_reducible repeat (first | refine blk_drewN ?_ _ | refine blk_drew ?_ | refine blk_alloc ?_ _)); exact BK612.out) hb); have n7_ := Aside0.mk (blk_below (g := gb617) (o := .cells #[.int .i64 t613, .slice Ao29 t631.length co29] 33 (0, 0)) (by (with_reducible repeat (first | refine blk_drewN ?_ _ | refine blk_drew ?_ | refine blk_alloc ?_ _)); exact BK617.out) hb); have n8_ := Aside0.mk (blk_below (g := gb623) (o := .cells #[.int .i64 t618, .slice Ao36 t619.length co36] 33 (0, 0)) (by (with_reducible repeat (first | refine blk_drewN ?_ _ | refine blk_drew ?_ | refine blk_alloc ?_ _)); exact BK623.out) hb); have n9_ := Aside0.mk (below_step (by repeat (first | (with_reducible first | exact HB.out | apply below_alloc | apply pw_below_drewN | apply below_drew1 | refine below_set ?_ GE601.out | refine below_set ?_ GE612.out | refine below_set ?_ GE617.out | refine below_set ?_ GE623.out) | exact HB.out)) hb); clear HO_613001; clear HO_618001; clear HO_624001; clear HO639; clear BK601; clear BK612; clear BK617; clear BK623; clear HB; have HO_613001 := n0_; have HO_618001 := n1_; have HO_624001 := n2_; have HO639 := n3_; have HO643 := n4_; have BK601 := n5_; have BK612 := n6_; have BK617 := n7_; have BK623 := n8_; have HB := n9_; clear n0_ n1_ n2_ n3_ n4_ n5_ n6_ n7_ n8_ n9_; (try clear hb); (try clear hb2); (try clear hk); (try clear hi); (try clear ho0)) | ((with_reducible refine gate_dst (N := 12) rfl ?_); refine box_event ?hg (N := 12) ?hd (cs := #[.int .i64 0, .slice none 0 0]) (t := 33) ?hr ?_; (case hd => rfl); (case hg => rfl); (case hr => first | (go_simp; done) | (go_simp; rfl)); intro gb645 hg w117 hbox hb; have n0_ := Aside0.mk (Kd.R_below (by (with_reducible repeat (first | apply Kd.R_alloc | apply Kd.R_drewN | apply Kd.R_drew)); exact HO_613001.out) hb); have n1_ := Aside0.mk (Kd.R_below (by (with_reducible repeat (first | apply Kd.R_alloc | apply Kd.R_drewN | apply Kd.R_drew)); exact HO_618001.out) hb); have n2_ := Aside0.mk (Kd.R_below (by (with_reducible repeat (first | apply Kd.R_alloc | apply Kd.R_drewN | apply Kd.R_drew)); exact HO_624001.out) hb); have n3_ := Aside0.mk (Kd.R_below (by (with_reducible repeat (first | apply Kd.R_alloc | apply Kd.R_drewN | apply Kd.R_drew)); exact HO639.out) hb); have n4_ := Aside0.mk (Kd.R_below (by (with_reducible repeat (first | apply Kd.R_alloc | apply Kd.R_drewN | apply Kd.R_drew)); exact HO643.out) hb); have n5_ := Aside0.mk (blk_below (g := gb601) (o := .cells #[.int .i64 a0_0, .slice A0_1 l0_1.length c0_1] 30 (0, 0)) (by (with_reducible repeat (first | refine blk_drewN ?_ _ | refine blk_drew ?_ | refine blk_alloc ?_ _)); exact BK601.out) hb); have n6_ := Aside0.mk (blk_below (g := gb612) (o := .cells #[.int .i64 t607, .slice Ao22 t608.length co22] 33 (0, 0)) (by (with_reducible repeat (first | refine blk_drewN ?_ _ | refine blk_drew ?_ | refine blk_alloc ?_ _)); exact BK612.out) hb); have n7_ := Aside0.mk (blk_below (g := gb617) (o := .cells #[.int .i64 t613, .slice Ao29 t631.length co29] 33 (0, 0)) (by (with_reducible repeat (first | refine blk_drewN ?_ _ | refine blk_drew ?_ | refine blk_alloc ?_ _)); exact BK617.out) hb); have n8_ := Aside0.mk (blk_below (g := gb623) (o := .cells #[.int .i64 t618, .slice Ao36 t619.length co36] 33 (0, 0)) (by (with_reducible repeat (first | refine blk_drewN ?_ _ | refine blk_drew ?_ | refine blk_alloc ?_ _)); exact BK623.out) hb); have n9_ := Aside0.mk (below_step (by repeat (first | (with_reducible first | exact HB.out | apply below_alloc | apply pw_below_drewN | apply below_drew1 | refine below_set ?_ GE601.out | refine below_set ?_ GE612.out | refine below_set ?_ GE617.out | refine below_set ?_ GE623.out) | exact HB.out)) hb); have n10_ := Aside0.mk (hbox); have n11_ := Aside0.mk ((by rw [hg]; exact (below_size (by repeat (first | (with_reducible first | exact HB.out | apply below_alloc | apply pw_below_drewN | apply below_drew1 | refine below_set ?_ GE601.out | refine below_set ?_ GE612.out | refine below_set ?_ GE617.out | refine below_set ?_ GE623.out) | exact HB.out))) : w.heap.size ≤ gb645)); have n12_ := Aside0.mk ((by rw [hg]; exact (below_size (by repeat (first | (with_reducible first | exact HB.out | apply below_alloc | apply pw_below_drewN | apply below_drew1 | refine below_set ?_ GE601.out | refine below_set ?_ GE612.out | refine below_set ?_ GE617.out | refine below_set ?_ GE623.out) | exact HB.out))) : w.heap.size ≤ gb645)); have n13_ := Aside0.mk ((by rw [hg]; exact Nat.ne_of_lt (blk_lt (g := gb601) (o := .cells #[.int .i64 a0_0, .slice A0_1 l0_1.length c0_1] 30 (0, 0)) (by (with_reducible repeat (first | refine blk_drewN ?_ _ | refine blk_drew ?_ | refine blk_alloc ?_ _)); exact BK601.out)) : gb601 ≠ gb645)); have n14_ := Aside0.mk ((by rw [hg]; exact Nat.ne_of_gt (blk_lt (g := gb601) (o := .cells #[.int .i64 a0_0, .slice A0_1 l0_1.length c0_1] 30 (0, 0)) (by (with_reducible repeat (first | refine blk_drewN ?_ _ | refine blk_drew ?_ | refine blk_alloc ?_ _)); exact BK601.out)) : gb645 ≠ gb601)); have n15_ := Aside0.mk ((by rw [hg]; exact Nat.ne_of_lt (blk_lt (g := gb612) (o := .cells #[.int .i64 t607, .slice Ao22 t608.length co22] 33 (0, 0)) (by (with_reducible repeat (first | refine blk_drewN ?_ _ | refine blk_drew ?_ | refine blk_alloc ?_ _)); exact BK612.out)) : gb612 ≠ gb645)); have n16_ := Aside0.mk ((by rw [hg]; exact Nat.ne_of_gt (blk_lt (g := gb612) (o := .cells #[.int .i64 t607, .slice Ao22 t608.length co22] 33 (0, 0)) (by (with_reducible repeat (first | refine blk_drewN ?_ _ | refine blk_drew ?_ | refine blk_alloc ?_ _)); exact BK612.out)) : gb645 ≠ gb612)); have n17_ := Aside0.mk ((by rw [hg]; exact Nat.ne_of_lt (blk_lt (g := gb617) (o := .cells #[.int .i64 t613, .slice Ao29 t631.length co29] 33 (0, 0)) (by (with_reducible repeat (first | refine blk_drewN ?_ _ | refine blk_drew ?_ | refine blk_alloc ?_ _)); exact BK617.out)) : gb617 ≠ gb645)); have n18_ := Aside0.mk ((by rw [hg]; exact Nat.ne_of_gt (blk_lt (g := gb617) (o := .cells #[.int .i64 t613, .slice Ao29 t631.length co29] 33 (0, 0)) (by (with_reducible repeat (first | refine blk_drewN ?_ _ | refine blk_drew ?_ | refine blk_alloc ?_ _)); exact BK617.out)) : gb645 ≠ gb617)); have n19_ := Aside0.mk ((by rw [hg]; exact Nat.ne_of_lt (blk_lt (g := gb623) (o := .cells #[.int .i64 t618, .slice Ao36 t619.length co36] 33 (0, 0)) (by (with_reducible repeat (first | refine blk_drewN ?_ _ | refine blk_drew ?_ | refine blk_alloc ?_ _)); exact BK623.out)) : gb623 ≠ gb645)); have n20_ := Aside0.mk ((by rw [hg]; exact Nat.ne_of_gt (blk_lt (g := gb623) (o := .cells #[.int .i64 t618, .slice Ao36 t619.length co36] 33 (0, 0)) (by (with_reducible repeat (first | refine blk_drewN ?_ _ | refine blk_drew ?_ | refine blk_alloc ?_ _)); exact BK623.out)) : gb645 ≠ gb623)); clear HO_613001; clear HO_618001; clear HO_624001; clear HO639; clear HO643; clear BK601; clear BK612; clear BK617; clear BK623; clear HB; have HO_613001 := n0_; have HO_618001 := n1_; have HO_624001 := n2_; have HO639 := n3_; have HO643 := n4_; have BK601 := n5_; have BK612 := n6_; have BK617 := n7_; have BK623 := n8_; have HB := n9_; have BK645 := n10_; have GW645 := n11_; have GE645 := n12_; have NB601_645 := n13_; have NB645_601 := n14_; have NB612_645 := n15_; have NB645_612 := n16_; have NB617_645 := n17_; have NB645_617 := n18_; have NB623_645 := n19_; have NB645_623 := n20_; clear n0_ n1_ n2_ n3_ n4_ n5_ n6_ n7_ n8_ n9_ n10_ n11_ n12_ n13_ n14_ n15_ n16_ n17_ n18_ n19_ n20_; clear hb hbox hg; have hnb118 := NB645_601.out; have hnc118 := NB601_645.out; have hnb119 := NB645_612.out; have hnc119 := NB612_645.out; have hnb120 := NB645_617.out; have hnc120 := NB617_645.out; have hnb121 := NB645_623.out; have hnc121 := NB623_645.out; have hcz122_0 : w117.cell? ⟨gb645, 0, none⟩ = some (.int .i64 0) := (blk_cell BK645.out 0).trans rfl; have hcz122_1 : w117.cell? ⟨gb645, 1, none⟩ = some (.slice none 0 0) := (blk_cell BK645.out 1).trans rfl; have hfz122_0 := blk_frozen BK645.out 0; have hfz122_1 := blk_frozen BK645.out 1; obtain ⟨Ao123, co123, eo123⟩ := Kd.R_slice HO643.out; subst eo123))
                      (try simp only [Act.put, List.setIfInBounds_toArray, List.set_cons_zero, List.set_cons_succ])
                      go_cut [87] (fun v87 wc => ∃ (kq : Nat) (x87_102 : Bool), v87 = .bool x87_102 ∧ Aside0 (laws_FnExactDestabilizeBraid.j2 kq t633 x87_102 t618 t634 = some r) ∧ Aside0 (kq ≤ kj59) ∧ Aside0 (Kd.R (Kd.int .i64) 2 wc w.heap.size (fun k_ => some k_ ≠ ((.slice Ao29 t631.length co29) : Value).ownBlock ∧ some k_ ≠ ((.slice Ao36 t619.length co36) : Value).ownBlock ∧ some k_ ≠ ((.slice Ao123 t641.length co123) : Value).ownBlock) (.slice Ao22 t608.length co22) t608) ∧ Aside0 (Kd.R (Kd.int .i64) 2 wc w.heap.size (fun k_ => some k_ ≠ ((.slice Ao22 t608.length co22) : Value).ownBlock ∧ some k_ ≠ ((.slice Ao36 t619.length co36) : Value).ownBlock ∧ some k_ ≠ ((.slice Ao123 t641.length co123) : Value).ownBlock) (.slice Ao29 t631.length co29) t631) ∧ Aside0 (Kd.R (Kd.int .i64) 2 wc w.heap.size (fun k_ => some k_ ≠ ((.slice Ao22 t608.length co22) : Value).ownBlock ∧ some k_ ≠ ((.slice Ao29 t631.length co29) : Value).ownBlock ∧ some k_ ≠ ((.slice Ao123 t641.length co123) : Value).ownBlock) (.slice Ao36 t619.length co36) t634) ∧ Aside0 (Kd.R (Kd.int .i64) 2 wc w.heap.size (fun k_ => some k_ ≠ ((.slice Ao22 t608.length co22) : Value).ownBlock ∧ some k_ ≠ ((.slice Ao29 t631.length co29) : Value).ownBlock ∧ some k_ ≠ ((.slice Ao36 t619.length co36) : Value).ownBlock) (.slice Ao123 t641.length co123) t641) ∧ Aside0 (wc.heap[gb601]? = some (.cells #[.int .i64 a0_0, (.slice A0_1 l0_1.length c0_1)] 30 (0, 0))) ∧ Aside0 (wc.heap[gb612]? = some (.cells #[.int .i64 t607, (.slice Ao22 t608.length co22)] 33 (0, 0))) ∧ Aside0 (wc.heap[gb617]? = some (.cells #[.int .i64 t613, (.slice Ao29 t631.length co29)] 33 (0, 0))) ∧ Aside0 (wc.heap[gb623]? = some (.cells #[.int .i64 t618, (.slice Ao36 t619.length co36)] 33 (0, 0))) ∧ Aside0 (wc.heap[gb645]? = some (.cells #[.int .i64 t640, (.slice Ao123 t641.length co123)] 33 (0, 0))) ∧ Aside0 (Below w.heap.size w wc))
                      case first =>
                        have H := HC103.out
                        clear HC103
                        replace H := Option.bind_eq_some_iff.mp H
                        obtain ⟨t646, A1240, H⟩ := H
                        replace H : (if t646 = true then (laws_FnExactDestabilizeBraid.j2 kj59 t633 (t644 != t611) t618 t634) else (laws_FnExactDestabilizeBraid.j2 kj59 t633 true t618 t634)) = some r := H
                        have A124 := Aside0.mk A1240
                        clear A1240
                        by_cases c125 : t646 = true
                        · subst c125
                          have H1 : (laws_FnExactDestabilizeBraid.j2 kj59 t633 (t644 != t611) t618 t634) = some r := by rw [if_pos rfl] at H; exact H
                          clear H
                          have H := H1
                          clear H1
                          have H' := Aside0.mk H
                          clear H
                          have hnb126 := NB645_601.out
                          have hnc126 := NB601_645.out
                          have hnb127 := NB645_612.out
                          have hnc127 := NB612_645.out
                          have hnb128 := NB645_617.out
                          have hnc128 := NB617_645.out
                          have hnb129 := NB645_623.out
                          have hnc129 := NB623_645.out
                          have hcz130_0 : w117.cell? ⟨gb645, 0, none⟩ = some (.int .i64 0) := (blk_cell BK645.out 0).trans rfl
                          have hcz130_1 : w117.cell? ⟨gb645, 1, none⟩ = some (.slice none 0 0) := (blk_cell BK645.out 1).trans rfl
                          have hfz130_0 := blk_frozen BK645.out 0
                          have hfz130_1 := blk_frozen BK645.out 1
                          have hnb131 := NB612_601.out
                          have hnc131 := NB601_612.out
                          have hnb132 := NB612_617.out
                          have hnc132 := NB617_612.out
                          have hnb133 := NB612_623.out
                          have hnc133 := NB623_612.out
                          have hcz134_0 : w117.cell? ⟨gb612, 0, none⟩ = some (.int .i64 t607) := (blk_cell BK612.out 0).trans rfl
                          have hcz134_1 : w117.cell? ⟨gb612, 1, none⟩ = some (.slice Ao22 t608.length co22) := (blk_cell BK612.out 1).trans rfl
                          have hfz134_0 := blk_frozen BK612.out 0
                          have hfz134_1 := blk_frozen BK612.out 1
                          go_wp2_with (first | ((with_reducible refine gate_callee (f := 24) rfl ?_); refine goesL_ (some 81) rfl rfl Try.func24 (by kernel_rfl) rfl #[.agg #[.int .i64 t640, .slice Ao123 t641.length co123], .agg #[.int .i64 t607, .slice Ao22 t608.length co22]] rfl (by (try simp only [List.map_toArray, List.map_cons, List.map_nil]); first | done | rfl | (simp only [List.length_drop, List.length_take]; rfl)) ?_; (with_reducible refine (laws_eqBraid.calls kj59 t640 _ _ t641 t607 _ _ t608 true _ ?side1 ?side2 ?side3 ?side4 A124.out).mono ?_); (case side1 => refine (Kd.R_reads' (e := 2) (base := w.heap.size) (ok := fun k_ => ((((True ∧ some k_ ≠ (.slice Ao22 t608.length co22 : Value).ownBlock) ∧ some k_ ≠ (.slice Ao29 t631.length co29 : Value).ownBlock) ∧ some k_ ≠ (.slice Ao36 t619.length co36 : Value).ownBlock) ∧ some k_ ≠ (.slice Ao115 t637.length co115 : Value).ownBlock)) (n := t641.length) (c := co123) ?_).2.2; exact (by (with_reducible repeat (first | apply Kd.R_alloc | apply Kd.R_drewN | apply Kd.R_drew)); exact (Kd.R_mono (Kd.R_far (p := ⟨gb645, 1, none⟩) (Kd.R_far (p := ⟨gb645, 0, none⟩) (Kd.R_types HO643.out BK645.out (by decide)) (fun _ hk => hk.2) (.int .i64 t640)) (fun _ hk => hk.2) (.slice Ao123 t641.length co123)) (fun _ h_ => h_.1)))); (case side2 => exact (Kd.R_reads' HO643.out).2.1); (case side3 => refine (Kd.R_reads' (e := 2) (base := w.heap.size) (ok := fun k_ => (((some k_ ≠ (.slice Ao29 t631.length co29 : Value).ownBlock ∧ some k_ ≠ (.slice Ao36 t619.length co36 : Value).ownBlock) ∧ some k_ ≠ (.slice Ao115 t637.length co115 : Value).ownBlock) ∧ some k_ ≠ (.slice Ao123 t641.length co123 : Value).ownBlock)) (n := t608.length) (c := co22) ?_).2.2; exact (by (with_reducible repeat (first | apply Kd.R_alloc | apply Kd.R_drewN | apply Kd.R_drew)); exact (Kd.R_mono (Kd.R_far (p := ⟨gb645, 1, none⟩) (Kd.R_far (p := ⟨gb645, 0, none⟩) (Kd.R_types HO_613001.out BK645.out (by decide)) (fun _ hk => hk.2) (.int .i64 t640)) (fun _ hk => hk.2) (.slice Ao123 t641.length co123)) (fun _ h_ => h_.1)))); (case side4 => exact (Kd.R_reads' HO_613001.out).2.1); rintro e w135 ⟨rfl, hb⟩; refine ⟨_, rfl, ?_⟩; have n0_ := Aside0.mk (Kd.R_below (by (with_reducible repeat (first | apply Kd.R_alloc | apply Kd.R_drewN | apply Kd.R_drew)); exact (Kd.R_mono (Kd.R_far (p := ⟨gb645, 1, none⟩) (Kd.R_far (p := ⟨gb645, 0, none⟩) (Kd.R_types HO_613001.out BK645.out (by decide)) (fun _ hk => hk.2) (.int .i64 t640)) (fun _ hk => hk.2) (.slice Ao123 t641.length co123)) (fun _ h_ => h_.1))) hb); have n1_ := Aside0.mk (Kd.R_below (by (with_reducible repeat (first | apply Kd.R_alloc | apply Kd.R_drewN | apply Kd.R_drew)); exact (Kd.R_mono (Kd.R_far (p := ⟨gb645, 1, none⟩) (Kd.R_far (p := ⟨gb645, 0, none⟩) (Kd.R_types HO_618001.out BK645.out (by decide)) (fun _ hk => hk.2) (.int .i64 t640)) (fun _ hk => hk.2) (.slice Ao123 t641.length co123)) (fun _ h_ => h_.1))) hb); have n2_ := Aside0.mk (Kd.R_below (by (with_reducible repeat (first | apply Kd.R_alloc | apply Kd.R_drewN | apply Kd.R_drew)); exact (Kd.R_mono (Kd.R_far (p := ⟨gb645, 1, none⟩) (Kd.R_far (p := ⟨gb645, 0, none⟩) (Kd.R_types HO_624001.out BK645.out (by decide)) (fun _ hk => hk.2) (.int .i64 t640)) (fun _ hk => hk.2) (.slice Ao123 t641.length co123)) (fun _ h_ => h_.1))) hb); have n3_ := Aside0.mk (Kd.R_below (by (with_reducible repeat (first | apply Kd.R_alloc | apply Kd.R_drewN | apply Kd.R_drew)); exact (Kd.R_mono (Kd.R_far (p := ⟨gb645, 1, none⟩) (Kd.R_far (p := ⟨gb645, 0, none⟩) (Kd.R_types HO639.out BK645.out (by decide)) (fun _ hk => hk.2) (.int .i64 t640)) (fun _ hk => hk.2) (.slice Ao123 t641.length co123)) (fun _ h_ => h_.1))) hb); have n4_ := Aside0.mk (Kd.R_below (by (with_reducible repeat (first | apply Kd.R_alloc | apply Kd.R_drewN | apply Kd.R_drew)); exact (Kd.R_mono (Kd.R_far (p := ⟨gb645, 1, none⟩) (Kd.R_far (p := ⟨gb645, 0, none⟩) (Kd.R_types HO643.out BK645.out (by decide)) (fun _ hk => hk.2) (.int .i64 t640)) (fun _ hk => hk.2) (.slice Ao123 t641.length co123)) (fun _ h_ => h_.1))) hb); have n5_ := Aside0.mk (blk_below (g := gb601) (o := .cells #[.int .i64 a0_0, .slice A0_1 l0_1.length c0_1] 30 (0, 0)) (by (with_reducible repeat (first | refine blk_drewN ?_ _ | refine blk_drew ?_ | refine blk_alloc ?_ _)); refine blk_far ?_ NB601_645.out _; (with_reducible repeat (first | refine blk_drewN ?_ _ | refine blk_drew ?_ | refine blk_alloc ?_ _)); refine blk_far ?_ NB601_645.out _; (with_reducible repeat (first | refine blk_drewN ?_ _ | refine blk_drew ?_ | refine blk_alloc ?_ _)); exact BK601.out) hb); have n6_ := Aside0.mk (blk_below (g := gb612) (o := .cells #[.int .i64 t607, .slice Ao22 t608.length co22] 33 (0, 0)) (by (with_reducible repeat (first | refine blk_drewN ?_ _ | refine blk_drew ?_ | refine blk_alloc ?_ _)); refine blk_far ?_ NB612_645.out _; (with_reducible repeat (first | refine blk_drewN ?_ _ | refine blk_drew ?_ | refine blk_alloc ?_ _)); refine blk_far ?_ NB612_645.out _; (with_reducible repeat (first | refine blk_drewN ?_ _ | refine blk_drew ?_ | refine blk_alloc ?_ _)); exact BK612.out) hb); have n7_ := Aside0.mk (blk_below (g := gb617) (o := .cells #[.int .i64 t613, .slice Ao29 t631.length co29] 33 (0, 0)) (by (with_reducible repeat (first | refine blk_drewN ?_ _ | refine blk_drew ?_ | refine blk_alloc ?_ _)); refine blk_far ?_ NB617_645.out _; (with_reducible repeat (first | refine blk_drewN ?_ _ | refine blk_drew ?_ | refine blk_alloc ?_ _)); refine blk_far ?_ NB617_645.out _; (with_reducible repeat (first | refine blk_drewN ?_ _ | refine blk_drew ?_ | refine blk_alloc ?_ _)); exact BK617.out) hb); have n8_ := Aside0.mk (blk_below (g := gb623) (o := .cells #[.int .i64 t618, .slice Ao36 t619.length co36] 33 (0, 0)) (by (with_reducible repeat (first | refine blk_drewN ?_ _ | refine blk_drew ?_ | refine blk_alloc ?_ _)); refine blk_far ?_ NB623_645.out _; (with_reducible repeat (first | refine blk_drewN ?_ _ | refine blk_drew ?_ | refine blk_alloc ?_ _)); refine blk_far ?_ NB623_645.out _; (with_reducible repeat (first | refine blk_drewN ?_ _ | refine blk_drew ?_ | refine blk_alloc ?_ _)); exact BK623.out) hb); have n9_ := Aside0.mk (blk_below (g := gb645) (o := .cells #[.int .i64 t640, .slice Ao123 t641.length co123] 33 (0, 0)) (by (with_reducible repeat (first | refine blk_drewN ?_ _ | refine blk_drew ?_ | refine blk_alloc ?_ _)); refine blk_put (cs := #[.int .i64 t640, .slice none 0 0]) ?_ 1 _ rfl; (with_reducible repeat (first | refine blk_drewN ?_ _ | refine blk_drew ?_ | refine blk_alloc ?_ _)); refine blk_put (cs := #[.int .i64 0, .slice none 0 0]) ?_ 0 _ rfl; (with_reducible repeat (first | refine blk_drewN ?_ _ | refine blk_drew ?_ | refine blk_alloc ?_ _)); exact BK645.out) hb); have n10_ := Aside0.mk (below_step (by repeat (first | (with_reducible first | exact HB.out | apply below_alloc | apply pw_below_drewN | apply below_drew1 | refine below_set ?_ GE601.out | refine below_set ?_ GE612.out | refine below_set ?_ GE617.out | refine below_set ?_ GE623.out | refine below_set ?_ GE645.out) | exact HB.out)) hb); clear HO_613001; clear HO_618001; clear HO_624001; clear HO639; clear HO643; clear BK601; clear BK612; clear BK617; clear BK623; clear BK645; clear HB; have HO_613001 := n0_; have HO_618001 := n1_; have HO_624001 := n2_; have HO639 := n3_; have HO643 := n4_; have BK601 := n5_; have BK612 := n6_; have BK617 := n7_; have BK623 := n8_; have BK645 := n9_; have HB := n10_; clear n0_ n1_ n2_ n3_ n4_ n5_ n6_ n7_ n8_ n9_ n10_; (try clear hb); (try clear hb2); (try clear hk); (try clear hi)))
                          go_meet
                          case rel => exact ⟨_, ((t644 != t611)), (by first | rfl | (simp; done) | (simp [*]; done)), H', ⟨by have := HJ10.out; have := HJ59.out; first | omega | exact Nat.le_refl _⟩, ⟨by (try simp only [hl618001_59]); (with_reducible repeat (first | apply Kd.R_alloc | apply Kd.R_drewN | apply Kd.R_drew)); exact Kd.R_mono HO_613001.out (fun _ hk => ⟨hk.1.1.1, ⟨hk.1.1.2, hk.2⟩⟩)⟩, ⟨by (try simp only [hl618001_59]); (with_reducible repeat (first | apply Kd.R_alloc | apply Kd.R_drewN | apply Kd.R_drew)); exact Kd.R_mono HO_618001.out (fun _ hk => ⟨hk.1.1.1, ⟨hk.1.1.2, hk.2⟩⟩)⟩, ⟨by (try simp only [hl618001_59]); (with_reducible repeat (first | apply Kd.R_alloc | apply Kd.R_drewN | apply Kd.R_drew)); exact Kd.R_mono HO_624001.out (fun _ hk => ⟨hk.1.1.1, ⟨hk.1.1.2, hk.2⟩⟩)⟩, ⟨by (try simp only [hl618001_59]); (with_reducible repeat (first | apply Kd.R_alloc | apply Kd.R_drewN | apply Kd.R_drew)); exact Kd.R_mono HO643.out (fun _ hk => ⟨hk.1.1.1.2, ⟨hk.1.1.2, hk.1.2⟩⟩)⟩, ⟨by (try simp only [hl618001_59]); (with_reducible repeat (first | refine blk_drewN ?_ _ | refine blk_drew ?_ | refine blk_alloc ?_ _)); exact BK601.out⟩, ⟨by (try simp only [hl618001_59]); (with_reducible repeat (first | refine blk_drewN ?_ _ | refine blk_drew ?_ | refine blk_alloc ?_ _)); exact BK612.out⟩, ⟨by (try simp only [hl618001_59]); (with_reducible repeat (first | refine blk_drewN ?_ _ | refine blk_drew ?_ | refine blk_alloc ?_ _)); exact BK617.out⟩, ⟨by (try simp only [hl618001_59]); (with_reducible repeat (first | refine blk_drewN ?_ _ | refine blk_drew ?_ | refine blk_alloc ?_ _)); exact BK623.out⟩, ⟨by (try simp only [hl618001_59]); (with_reducible repeat (first | refine blk_drewN ?_ _ | refine blk_drew ?_ | refine blk_alloc ?_ _)); exact BK645.out⟩, ⟨by repeat (first | (with_reducible first | exact HB.out | apply below_alloc | apply pw_below_drewN | apply below_drew1 | refine below_set ?_ GE601.out | refine below_set ?_ GE612.out | refine below_set ?_ GE617.out | refine below_set ?_ GE623.out | refine below_set ?_ GE645.out) | exact HB.out)⟩⟩
                        · replace c125 := Bool.eq_false_iff.mpr c125
                          subst c125
                          have H1 : (laws_FnExactDestabilizeBraid.j2 kj59 t633 true t618 t634) = some r := by rw [if_neg (show ¬ (false = true) by decide)] at H; exact H
                          clear H
                          have H := H1
                          clear H1
                          have H' := Aside0.mk H
                          clear H
                          have hnb136 := NB645_601.out
                          have hnc136 := NB601_645.out
                          have hnb137 := NB645_612.out
                          have hnc137 := NB612_645.out
                          have hnb138 := NB645_617.out
                          have hnc138 := NB617_645.out
                          have hnb139 := NB645_623.out
                          have hnc139 := NB623_645.out
                          have hcz140_0 : w117.cell? ⟨gb645, 0, none⟩ = some (.int .i64 0) := (blk_cell BK645.out 0).trans rfl
                          have hcz140_1 : w117.cell? ⟨gb645, 1, none⟩ = some (.slice none 0 0) := (blk_cell BK645.out 1).trans rfl
                          have hfz140_0 := blk_frozen BK645.out 0
                          have hfz140_1 := blk_frozen BK645.out 1
                          have hnb141 := NB612_601.out
                          have hnc141 := NB601_612.out
                          have hnb142 := NB612_617.out
                          have hnc142 := NB617_612.out
                          have hnb143 := NB612_623.out
                          have hnc143 := NB623_612.out
                          have hcz144_0 : w117.cell? ⟨gb612, 0, none⟩ = some (.int .i64 t607) := (blk_cell BK612.out 0).trans rfl
                          have hcz144_1 : w117.cell? ⟨gb612, 1, none⟩ = some (.slice Ao22 t608.length co22) := (blk_cell BK612.out 1).trans rfl
                          have hfz144_0 := blk_frozen BK612.out 0
                          have hfz144_1 := blk_frozen BK612.out 1
                          go_wp2_with (first | ((with_reducible refine gate_callee (f := 24) rfl ?_); refine goesL_ (some 81) rfl rfl Try.func24 (by kernel_rfl) rfl #[.agg #[.int .i64 t640, .slice Ao123 t641.length co123], .agg #[.int .i64 t607, .slice Ao22 t608.length co22]] rfl (by (try simp only [List.map_toArray, List.map_cons, List.map_nil]); first | done | rfl | (simp only [List.length_drop, List.length_take]; rfl)) ?_; (with_reducible refine (laws_eqBraid.calls kj59 t640 _ _ t641 t607 _ _ t608 false _ ?side1 ?side2 ?side3 ?side4 A124.out).mono ?_); (case side1 => refine (Kd.R_reads' (e := 2) (base := w.heap.size) (ok := fun k_ => ((((True ∧ some k_ ≠ (.slice Ao22 t608.length co22 : Value).ownBlock) ∧ some k_ ≠ (.slice Ao29 t631.length co29 : Value).ownBlock) ∧ some k_ ≠ (.slice Ao36 t619.length co36 : Value).ownBlock) ∧ some k_ ≠ (.slice Ao115 t637.length co115 : Value).ownBlock)) (n := t641.length) (c := co123) ?_).2.2; exact (by (with_reducible repeat (first | apply Kd.R_alloc | apply Kd.R_drewN | apply Kd.R_drew)); exact (Kd.R_mono (Kd.R_far (p := ⟨gb645, 1, none⟩) (Kd.R_far (p := ⟨gb645, 0, none⟩) (Kd.R_types HO643.out BK645.out (by decide)) (fun _ hk => hk.2) (.int .i64 t640)) (fun _ hk => hk.2) (.slice Ao123 t641.length co123)) (fun _ h_ => h_.1)))); (case side2 => exact (Kd.R_reads' HO643.out).2.1); (case side3 => refine (Kd.R_reads' (e := 2) (base := w.heap.size) (ok := fun k_ => (((some k_ ≠ (.slice Ao29 t631.length co29 : Value).ownBlock ∧ some k_ ≠ (.slice Ao36 t619.length co36 : Value).ownBlock) ∧ some k_ ≠ (.slice Ao115 t637.length co115 : Value).ownBlock) ∧ some k_ ≠ (.slice Ao123 t641.length co123 : Value).ownBlock)) (n := t608.length) (c := co22) ?_).2.2; exact (by (with_reducible repeat (first | apply Kd.R_alloc | apply Kd.R_drewN | apply Kd.R_drew)); exact (Kd.R_mono (Kd.R_far (p := ⟨gb645, 1, none⟩) (Kd.R_far (p := ⟨gb645, 0, none⟩) (Kd.R_types HO_613001.out BK645.out (by decide)) (fun _ hk => hk.2) (.int .i64 t640)) (fun _ hk => hk.2) (.slice Ao123 t641.length co123)) (fun _ h_ => h_.1)))); (case side4 => exact (Kd.R_reads' HO_613001.out).2.1); rintro e w145 ⟨rfl, hb⟩; refine ⟨_, rfl, ?_⟩; have n0_ := Aside0.mk (Kd.R_below (by (with_reducible repeat (first | apply Kd.R_alloc | apply Kd.R_drewN | apply Kd.R_drew)); exact (Kd.R_mono (Kd.R_far (p := ⟨gb645, 1, none⟩) (Kd.R_far (p := ⟨gb645, 0, none⟩) (Kd.R_types HO_613001.out BK645.out (by decide)) (fun _ hk => hk.2) (.int .i64 t640)) (fun _ hk => hk.2) (.slice Ao123 t641.length co123)) (fun _ h_ => h_.1))) hb); have n1_ := Aside0.mk (Kd.R_below (by (with_reducible repeat (first | apply Kd.R_alloc | apply Kd.R_drewN | apply Kd.R_drew)); exact (Kd.R_mono (Kd.R_far (p := ⟨gb645, 1, none⟩) (Kd.R_far (p := ⟨gb645, 0, none⟩) (Kd.R_types HO_618001.out BK645.out (by decide)) (fun _ hk => hk.2) (.int .i64 t640)) (fun _ hk => hk.2) (.slice Ao123 t641.length co123)) (fun _ h_ => h_.1))) hb); have n2_ := Aside0.mk (Kd.R_below (by (with_reducible repeat (first | apply Kd.R_alloc | apply Kd.R_drewN | apply Kd.R_drew)); exact (Kd.R_mono (Kd.R_far (p := ⟨gb645, 1, none⟩) (Kd.R_far (p := ⟨gb645, 0, none⟩) (Kd.R_types HO_624001.out BK645.out (by decide)) (fun _ hk => hk.2) (.int .i64 t640)) (fun _ hk => hk.2) (.slice Ao123 t641.length co123)) (fun _ h_ => h_.1))) hb); have n3_ := Aside0.mk (Kd.R_below (by (with_reducible repeat (first | apply Kd.R_alloc | apply Kd.R_drewN | apply Kd.R_drew)); exact (Kd.R_mono (Kd.R_far (p := ⟨gb645, 1, none⟩) (Kd.R_far (p := ⟨gb645, 0, none⟩) (Kd.R_types HO639.out BK645.out (by decide)) (fun _ hk => hk.2) (.int .i64 t640)) (fun _ hk => hk.2) (.slice Ao123 t641.length co123)) (fun _ h_ => h_.1))) hb); have n4_ := Aside0.mk (Kd.R_below (by (with_reducible repeat (first | apply Kd.R_alloc | apply Kd.R_drewN | apply Kd.R_drew)); exact (Kd.R_mono (Kd.R_far (p := ⟨gb645, 1, none⟩) (Kd.R_far (p := ⟨gb645, 0, none⟩) (Kd.R_types HO643.out BK645.out (by decide)) (fun _ hk => hk.2) (.int .i64 t640)) (fun _ hk => hk.2) (.slice Ao123 t641.length co123)) (fun _ h_ => h_.1))) hb); have n5_ := Aside0.mk (blk_below (g := gb601) (o := .cells #[.int .i64 a0_0, .slice A0_1 l0_1.length c0_1] 30 (0, 0)) (by (with_reducible repeat (first | refine blk_drewN ?_ _ | refine blk_drew ?_ | refine blk_alloc ?_ _)); refine blk_far ?_ NB601_645.out _; (with_reducible repeat (first | refine blk_drewN ?_ _ | refine blk_drew ?_ | refine blk_alloc ?_ _)); refine blk_far ?_ NB601_645.out _; (with_reducible repeat (first | refine blk_drewN ?_ _ | refine blk_drew ?_ | refine blk_alloc ?_ _)); exact BK601.out) hb); have n6_ := Aside0.mk (blk_below (g := gb612) (o := .cells #[.int .i64 t607, .slice Ao22 t608.length co22] 33 (0, 0)) (by (with_reducible repeat (first | refine blk_drewN ?_ _ | refine blk_drew ?_ | refine blk_alloc ?_ _)); refine blk_far ?_ NB612_645.out _; (with_reducible repeat (first | refine blk_drewN ?_ _ | refine blk_drew ?_ | refine blk_alloc ?_ _)); refine blk_far ?_ NB612_645.out _; (with_reducible repeat (first | refine blk_drewN ?_ _ | refine blk_drew ?_ | refine blk_alloc ?_ _)); exact BK612.out) hb); have n7_ := Aside0.mk (blk_below (g := gb617) (o := .cells #[.int .i64 t613, .slice Ao29 t631.length co29] 33 (0, 0)) (by (with_reducible repeat (first | refine blk_drewN ?_ _ | refine blk_drew ?_ | refine blk_alloc ?_ _)); refine blk_far ?_ NB617_645.out _; (with_reducible repeat (first | refine blk_drewN ?_ _ | refine blk_drew ?_ | refine blk_alloc ?_ _)); refine blk_far ?_ NB617_645.out _; (with_reducible repeat (first | refine blk_drewN ?_ _ | refine blk_drew ?_ | refine blk_alloc ?_ _)); exact BK617.out) hb); have n8_ := Aside0.mk (blk_below (g := gb623) (o := .cells #[.int .i64 t618, .slice Ao36 t619.length co36] 33 (0, 0)) (by (with_reducible repeat (first | refine blk_drewN ?_ _ | refine blk_drew ?_ | refine blk_alloc ?_ _)); refine blk_far ?_ NB623_645.out _; (with_reducible repeat (first | refine blk_drewN ?_ _ | refine blk_drew ?_ | refine blk_alloc ?_ _)); refine blk_far ?_ NB623_645.out _; (with_reducible repeat (first | refine blk_drewN ?_ _ | refine blk_drew ?_ | refine blk_alloc ?_ _)); exact BK623.out) hb); have n9_ := Aside0.mk (blk_below (g := gb645) (o := .cells #[.int .i64 t640, .slice Ao123 t641.length co123] 33 (0, 0)) (by (with_reducible repeat (first | refine blk_drewN ?_ _ | refine blk_drew ?_ | refine blk_alloc ?_ _)); refine blk_put (cs := #[.int .i64 t640, .slice none 0 0]) ?_ 1 _ rfl; (with_reducible repeat (first | refine blk_drewN ?_ _ | refine blk_drew ?_ | refine blk_alloc ?_ _)); refine blk_put (cs := #[.int .i64 0, .slice none 0 0]) ?_ 0 _ rfl; (with_reducible repeat (first | refine blk_drewN ?_ _ | refine blk_drew ?_ | refine blk_alloc ?_ _)); exact BK645.out) hb); have n10_ := Aside0.mk (below_step (by repeat (first | (with_reducible first | exact HB.out | apply below_alloc | apply pw_below_drewN | apply below_drew1 | refine below_set ?_ GE601.out | refine below_set ?_ GE612.out | refine below_set ?_ GE617.out | refine below_set ?_ GE623.out | refine below_set ?_ GE645.out) | exact HB.out)) hb); clear HO_613001; clear HO_618001; clear HO_624001; clear HO639; clear HO643; clear BK601; clear BK612; clear BK617; clear BK623; clear BK645; clear HB; have HO_613001 := n0_; have HO_618001 := n1_; have HO_624001 := n2_; have HO639 := n3_; have HO643 := n4_; have BK601 := n5_; have BK612 := n6_; have BK617 := n7_; have BK623 := n8_; have BK645 := n9_; have HB := n10_; clear n0_ n1_ n2_ n3_ n4_ n5_ n6_ n7_ n8_ n9_ n10_; (try clear hb); (try clear hb2); (try clear hk); (try clear hi)))
                          go_meet
                          case rel => exact ⟨_, (true), (by first | rfl | (simp; done) | (simp [*]; done)), H', ⟨by have := HJ10.out; have := HJ59.out; first | omega | exact Nat.le_refl _⟩, ⟨by (try simp only [hl618001_59]); (with_reducible repeat (first | apply Kd.R_alloc | apply Kd.R_drewN | apply Kd.R_drew)); exact Kd.R_mono HO_613001.out (fun _ hk => ⟨hk.1.1.1, ⟨hk.1.1.2, hk.2⟩⟩)⟩, ⟨by (try simp only [hl618001_59]); (with_reducible repeat (first | apply Kd.R_alloc | apply Kd.R_drewN | apply Kd.R_drew)); exact Kd.R_mono HO_618001.out (fun _ hk => ⟨hk.1.1.1, ⟨hk.1.1.2, hk.2⟩⟩)⟩, ⟨by (try simp only [hl618001_59]); (with_reducible repeat (first | apply Kd.R_alloc | apply Kd.R_drewN | apply Kd.R_drew)); exact Kd.R_mono HO_624001.out (fun _ hk => ⟨hk.1.1.1, ⟨hk.1.1.2, hk.2⟩⟩)⟩, ⟨by (try simp only [hl618001_59]); (with_reducible repeat (first | apply Kd.R_alloc | apply Kd.R_drewN | apply Kd.R_drew)); exact Kd.R_mono HO643.out (fun _ hk => ⟨hk.1.1.1.2, ⟨hk.1.1.2, hk.1.2⟩⟩)⟩, ⟨by (try simp only [hl618001_59]); (with_reducible repeat (first | refine blk_drewN ?_ _ | refine blk_drew ?_ | refine blk_alloc ?_ _)); exact BK601.out⟩, ⟨by (try simp only [hl618001_59]); (with_reducible repeat (first | refine blk_drewN ?_ _ | refine blk_drew ?_ | refine blk_alloc ?_ _)); exact BK612.out⟩, ⟨by (try simp only [hl618001_59]); (with_reducible repeat (first | refine blk_drewN ?_ _ | refine blk_drew ?_ | refine blk_alloc ?_ _)); exact BK617.out⟩, ⟨by (try simp only [hl618001_59]); (with_reducible repeat (first | refine blk_drewN ?_ _ | refine blk_drew ?_ | refine blk_alloc ?_ _)); exact BK623.out⟩, ⟨by (try simp only [hl618001_59]); (with_reducible repeat (first | refine blk_drewN ?_ _ | refine blk_drew ?_ | refine blk_alloc ?_ _)); exact BK645.out⟩, ⟨by repeat (first | (with_reducible first | exact HB.out | apply below_alloc | apply pw_below_drewN | apply below_drew1 | refine below_set ?_ GE601.out | refine below_set ?_ GE612.out | refine below_set ?_ GE617.out | refine below_set ?_ GE623.out | refine below_set ?_ GE645.out) | exact HB.out)⟩⟩
                      case rest =>
                        clear HC103
                        try clear c1
                        try clear c2
                        try clear p2
                        try clear c3
                        try clear c3b0
                        try clear c4
                        try clear c5
                        try clear c6
                        try clear c7
                        try clear c8
                        try clear c9
                        try clear c10
                        try clear c11
                        try clear c12
                        try clear c13
                        try clear c14
                        try clear c20
                        try clear c22
                        try clear c24
                        try clear c26
                        try clear c27
                        try clear c28
                        try clear c32
                        try clear c33
                        try clear c34
                        try clear c37
                        try clear c38
                        try clear c39
                        try clear c40
                        try clear c41
                        try clear c43
                        try clear c44
                        try clear c47
                        try clear c48
                        try clear c49
                        try clear c51
                        try clear c52
                        try clear c55
                        try clear c58
                        try clear c65
                        try clear c66
                        try clear c67
                        try clear c70
                        try clear c70b0
                        try clear c72
                        try clear c73
                        try clear c74
                        try clear c75
                        try clear c77
                        try clear c78
                        try clear c81
                        try clear c82
                        try clear c83
                        try clear c85
                        try clear c86
                        try clear c89
                        try clear c92
                        try clear c92b0
                        try clear c93
                        try clear c94
                        try clear c95
                        try clear c100
                        try clear c100b0
                        try clear c100b1
                        try clear c104
                        try clear c105
                        try clear c106
                        try clear c111
                        try clear c112
                        try clear c118
                        try clear c119
                        try clear c120
                        try clear c121
                        try clear c125
                        try clear c126
                        try clear c127
                        try clear c128
                        try clear c129
                        try clear c131
                        try clear c132
                        try clear c133
                        try clear c136
                        try clear c137
                        try clear c138
                        try clear c139
                        try clear c141
                        try clear c142
                        try clear c143
                        try clear hcz107_0
                        try clear hcz107_1
                        try clear hcz109_0
                        try clear hcz109_1
                        try clear hcz113_0
                        try clear hcz113_1
                        try clear hcz122_0
                        try clear hcz122_1
                        try clear hcz130_0
                        try clear hcz130_1
                        try clear hcz134_0
                        try clear hcz134_1
                        try clear hcz13_0
                        try clear hcz13_1
                        try clear hcz140_0
                        try clear hcz140_1
                        try clear hcz144_0
                        try clear hcz144_1
                        try clear hcz15_0
                        try clear hcz15_1
                        try clear hcz21_0
                        try clear hcz21_1
                        try clear hcz23_0
                        try clear hcz23_1
                        try clear hcz28_0
                        try clear hcz28_1
                        try clear hcz35_0
                        try clear hcz35_1
                        try clear hcz42_0
                        try clear hcz42_1
                        try clear hcz45_0
                        try clear hcz45_1
                        try clear hcz50_0
                        try clear hcz50_1
                        try clear hcz53_0
                        try clear hcz53_1
                        try clear hcz5_0
                        try clear hcz5_1
                        try clear hcz68_0
                        try clear hcz68_1
                        try clear hcz76_0
                        try clear hcz76_1
                        try clear hcz79_0
                        try clear hcz79_1
                        try clear hcz84_0
                        try clear hcz84_1
                        try clear hcz87_0
                        try clear hcz87_1
                        try clear hcz96_0
                        try clear hcz96_1
                        try clear hcz98_0
                        try clear hcz98_1
                        try clear hfz107_0
                        try clear hfz107_1
                        try clear hfz109_0
                        try clear hfz109_1
                        try clear hfz113_0
                        try clear hfz113_1
                        try clear hfz122_0
                        try clear hfz122_1
                        try clear hfz130_0
                        try clear hfz130_1
                        try clear hfz134_0
                        try clear hfz134_1
                        try clear hfz13_0
                        try clear hfz13_1
                        try clear hfz140_0
                        try clear hfz140_1
                        try clear hfz144_0
                        try clear hfz144_1
                        try clear hfz15_0
                        try clear hfz15_1
                        try clear hfz21_0
                        try clear hfz21_1
                        try clear hfz23_0
                        try clear hfz23_1
                        try clear hfz28_0
                        try clear hfz28_1
                        try clear hfz35_0
                        try clear hfz35_1
                        try clear hfz42_0
                        try clear hfz42_1
                        try clear hfz45_0
                        try clear hfz45_1
                        try clear hfz50_0
                        try clear hfz50_1
                        try clear hfz53_0
                        try clear hfz53_1
                        try clear hfz5_0
                        try clear hfz5_1
                        try clear hfz68_0
                        try clear hfz68_1
                        try clear hfz76_0
                        try clear hfz76_1
                        try clear hfz79_0
                        try clear hfz79_1
                        try clear hfz84_0
                        try clear hfz84_1
                        try clear hfz87_0
                        try clear hfz87_1
                        try clear hfz96_0
                        try clear hfz96_1
                        try clear hfz98_0
                        try clear hfz98_1
                        try clear p2
                        obtain ⟨kq, x87_102, rfl, HA, HJ102, HO_613001, HO_618001, HO_624001, HO_646001, BK601, BK612, BK617, BK623, BK645, HB⟩ := hcut
                        have hl624001_102 := (Kd.R_reads' HO_624001.out).1
                        rw [hl624001_102] at HO_624001
                        (try simp only [hl624001_102])
                        (try simp only [hl624001_102] at BK601)
                        (try simp only [hl624001_102] at BK612)
                        (try simp only [hl624001_102] at BK617)
                        (try simp only [hl624001_102] at BK623)
                        (try simp only [hl624001_102] at BK645)
                        (try simp only [hl624001_102] at HO_613001)
                        (try simp only [hl624001_102] at HO_618001)
                        (try simp only [hl624001_102] at HO_646001)
                        cases kq with
                        | zero => exact absurd HA.out (by simp [laws_FnExactDestabilizeBraid.j2])
                        | succ kj102 =>
                          have H := HA.out
                          clear HA
                          simp only [laws_FnExactDestabilizeBraid.j2] at H
                          by_cases c146 : x87_102 = true
                          · subst c146
                            have H1 : (some false) = some r := by rw [if_pos rfl] at H; exact H
                            clear H
                            have H := H1
                            clear H1
                            obtain rfl := Option.some.inj H
                            go_wp2
                            go_ret
                            exact ⟨by first | rfl | (simp [errW_none, errW_some] <;> rfl) | (simp [*, errW_none, errW_some] <;> rfl), by repeat (first | (with_reducible first | exact HB.out | apply below_alloc | apply pw_below_drewN | apply below_drew1 | refine below_set ?_ GE601.out | refine below_set ?_ GE612.out | refine below_set ?_ GE617.out | refine below_set ?_ GE623.out | refine below_set ?_ GE645.out) | exact HB.out)⟩
                          · replace c146 := Bool.eq_false_iff.mpr c146
                            subst c146
                            have H1 : ((laws_heldBraid.f kj102 t618 t634 1).bind fun t647 => (if t647 < 0 then (some false) else (if t647 = t633 then (some true) else (some false)))) = some r := by rw [if_neg (show ¬ (false = true) by decide)] at H; exact H
                            clear H
                            have H := H1
                            clear H1
                            replace H := Option.bind_eq_some_iff.mp H
                            obtain ⟨t647, A1470, H⟩ := H
                            replace H : (if t647 < 0 then (some false) else (if t647 = t633 then (some true) else (some false))) = some r := H
                            have A147 := Aside0.mk A1470
                            clear A1470
                            by_cases c148 : t647 < 0
                            · rw [if_pos c148] at H
                              have c148b0 : decide (t647 < 0) = true := decide_eq_true c148
                              clear c148
                              obtain rfl := Option.some.inj H
                              have hnb149 := NB623_601.out
                              have hnc149 := NB601_623.out
                              have hnb150 := NB623_612.out
                              have hnc150 := NB612_623.out
                              have hnb151 := NB623_617.out
                              have hnc151 := NB617_623.out
                              have hnb152 := NB623_645.out
                              have hnc152 := NB645_623.out
                              have hcz153_0 : wc.cell? ⟨gb623, 0, none⟩ = some (.int .i64 t618) := (blk_cell BK623.out 0).trans rfl
                              have hcz153_1 : wc.cell? ⟨gb623, 1, none⟩ = some (.slice Ao36 t634.length co36) := (blk_cell BK623.out 1).trans rfl
                              have hfz153_0 := blk_frozen BK623.out 0
                              have hfz153_1 := blk_frozen BK623.out 1
                              go_wp2_with (first | ((with_reducible refine gate_callee (f := 28) rfl ?_); refine goesL_ (some 90) rfl rfl Try.func28 (by kernel_rfl) rfl #[.agg #[.int .i64 t618, .slice Ao36 t634.length co36], .int .i64 1] rfl (by (try simp only [List.map_toArray, List.map_cons, List.map_nil]); first | done | rfl | (simp only [List.length_drop, List.length_take]; rfl)) ?_; (with_reducible refine (laws_heldBraid.calls kj102 t618 _ _ t634 1 t647 _ ?side1 ?side2 A147.out).mono ?_); (case side1 => repeat (first | exact (Kd.R_reads' HO_624001.out).2.2 | (with_reducible refine Kd.C_alloc ?_ _) | (with_reducible refine Kd.C_drewN ?_ _) | (with_reducible refine Kd.C_drew ?_))); (case side2 => exact (Kd.R_reads' HO_624001.out).2.1); rintro e w154 ⟨rfl, hb⟩; refine ⟨_, rfl, ?_⟩; have n0_ := Aside0.mk (Kd.R_below (by (with_reducible repeat (first | apply Kd.R_alloc | apply Kd.R_drewN | apply Kd.R_drew)); exact HO_613001.out) hb); have n1_ := Aside0.mk (Kd.R_below (by (with_reducible repeat (first | apply Kd.R_alloc | apply Kd.R_drewN | apply Kd.R_drew)); exact HO_618001.out) hb); have n2_ := Aside0.mk (Kd.R_below (by (with_reducible repeat (first | apply Kd.R_alloc | apply Kd.R_drewN | apply Kd.R_drew)); exact HO_624001.out) hb); have n3_ := Aside0.mk (Kd.R_below (by (with_reducible repeat (first | apply Kd.R_alloc | apply Kd.R_drewN | apply Kd.R_drew)); exact HO_646001.out) hb); have n4_ := Aside0.mk (blk_below (g := gb601) (o := .cells #[.int .i64 a0_0, .slice A0_1 l0_1.length c0_1] 30 (0, 0)) (by (with_reducible repeat (first | refine blk_drewN ?_ _ | refine blk_drew ?_ | refine blk_alloc ?_ _)); exact BK601.out) hb); have n5_ := Aside0.mk (blk_below (g := gb612) (o := .cells #[.int .i64 t607, .slice Ao22 t608.length co22] 33 (0, 0)) (by (with_reducible repeat (first | refine blk_drewN ?_ _ | refine blk_drew ?_ | refine blk_alloc ?_ _)); exact BK612.out) hb); have n6_ := Aside0.mk (blk_below (g := gb617) (o := .cells #[.int .i64 t613, .slice Ao29 t631.length co29] 33 (0, 0)) (by (with_reducible repeat (first | refine blk_drewN ?_ _ | refine blk_drew ?_ | refine blk_alloc ?_ _)); exact BK617.out) hb); have n7_ := Aside0.mk (blk_below (g := gb623) (o := .cells #[.int .i64 t618, .slice Ao36 t634.length co36] 33 (0, 0)) (by (with_reducible repeat (first | refine blk_drewN ?_ _ | refine blk_drew ?_ | refine blk_alloc ?_ _)); exact BK623.out) hb); have n8_ := Aside0.mk (blk_below (g := gb645) (o := .cells #[.int .i64 t640, .slice Ao123 t641.length co123] 33 (0, 0)) (by (with_reducible repeat (first | refine blk_drewN ?_ _ | refine blk_drew ?_ | refine blk_alloc ?_ _)); exact BK645.out) hb); have n9_ := Aside0.mk (below_step (by repeat (first | (with_reducible first | exact HB.out | apply below_alloc | apply pw_below_drewN | apply below_drew1 | refine below_set ?_ GE601.out | refine below_set ?_ GE612.out | refine below_set ?_ GE617.out | refine below_set ?_ GE623.out | refine below_set ?_ GE645.out) | exact HB.out)) hb); clear HO_613001; clear HO_618001; clear HO_624001; clear HO_646001; clear BK601; clear BK612; clear BK617; clear BK623; clear BK645; clear HB; have HO_613001 := n0_; have HO_618001 := n1_; have HO_624001 := n2_; have HO_646001 := n3_; have BK601 := n4_; have BK612 := n5_; have BK617 := n6_; have BK623 := n7_; have BK645 := n8_; have HB := n9_; clear n0_ n1_ n2_ n3_ n4_ n5_ n6_ n7_ n8_ n9_; (try clear hb); (try clear hb2); (try clear hk); (try clear hi)))
                              go_ret
                              exact ⟨by first | rfl | (simp [errW_none, errW_some] <;> rfl) | (simp [*, errW_none, errW_some] <;> rfl), by repeat (first | (with_reducible first | exact HB.out | apply below_alloc | apply pw_below_drewN | apply below_drew1 | refine below_set ?_ GE601.out | refine below_set ?_ GE612.out | refine below_set ?_ GE617.out | refine below_set ?_ GE623.out | refine below_set ?_ GE645.out) | exact HB.out)⟩
                            · rw [if_neg c148] at H
                              have c148b0 : decide (t647 < 0) = false := decide_eq_false c148
                              clear c148
                              by_cases c155 : t647 = t633
                              · rw [if_pos c155] at H
                                have c155b0 : (t647 == t633) = true := beq_iff_eq.mpr c155
                                have c155b1 : (t647 != t633) = false := bne_eq_false_iff_eq.mpr c155
                                clear c155
                                obtain rfl := Option.some.inj H
                                have hnb156 := NB623_601.out
                                have hnc156 := NB601_623.out
                                have hnb157 := NB623_612.out
                                have hnc157 := NB612_623.out
                                have hnb158 := NB623_617.out
                                have hnc158 := NB617_623.out
                                have hnb159 := NB623_645.out
                                have hnc159 := NB645_623.out
                                have hcz160_0 : wc.cell? ⟨gb623, 0, none⟩ = some (.int .i64 t618) := (blk_cell BK623.out 0).trans rfl
                                have hcz160_1 : wc.cell? ⟨gb623, 1, none⟩ = some (.slice Ao36 t634.length co36) := (blk_cell BK623.out 1).trans rfl
                                have hfz160_0 := blk_frozen BK623.out 0
                                have hfz160_1 := blk_frozen BK623.out 1
                                go_wp2_with (first | ((with_reducible refine gate_callee (f := 28) rfl ?_); refine goesL_ (some 90) rfl rfl Try.func28 (by kernel_rfl) rfl #[.agg #[.int .i64 t618, .slice Ao36 t634.length co36], .int .i64 1] rfl (by (try simp only [List.map_toArray, List.map_cons, List.map_nil]); first | done | rfl | (simp only [List.length_drop, List.length_take]; rfl)) ?_; (with_reducible refine (laws_heldBraid.calls kj102 t618 _ _ t634 1 t647 _ ?side1 ?side2 A147.out).mono ?_); (case side1 => repeat (first | exact (Kd.R_reads' HO_624001.out).2.2 | (with_reducible refine Kd.C_alloc ?_ _) | (with_reducible refine Kd.C_drewN ?_ _) | (with_reducible refine Kd.C_drew ?_))); (case side2 => exact (Kd.R_reads' HO_624001.out).2.1); rintro e w161 ⟨rfl, hb⟩; refine ⟨_, rfl, ?_⟩; have n0_ := Aside0.mk (Kd.R_below (by (with_reducible repeat (first | apply Kd.R_alloc | apply Kd.R_drewN | apply Kd.R_drew)); exact HO_613001.out) hb); have n1_ := Aside0.mk (Kd.R_below (by (with_reducible repeat (first | apply Kd.R_alloc | apply Kd.R_drewN | apply Kd.R_drew)); exact HO_618001.out) hb); have n2_ := Aside0.mk (Kd.R_below (by (with_reducible repeat (first | apply Kd.R_alloc | apply Kd.R_drewN | apply Kd.R_drew)); exact HO_624001.out) hb); have n3_ := Aside0.mk (Kd.R_below (by (with_reducible repeat (first | apply Kd.R_alloc | apply Kd.R_drewN | apply Kd.R_drew)); exact HO_646001.out) hb); have n4_ := Aside0.mk (blk_below (g := gb601) (o := .cells #[.int .i64 a0_0, .slice A0_1 l0_1.length c0_1] 30 (0, 0)) (by (with_reducible repeat (first | refine blk_drewN ?_ _ | refine blk_drew ?_ | refine blk_alloc ?_ _)); exact BK601.out) hb); have n5_ := Aside0.mk (blk_below (g := gb612) (o := .cells #[.int .i64 t607, .slice Ao22 t608.length co22] 33 (0, 0)) (by (with_reducible repeat (first | refine blk_drewN ?_ _ | refine blk_drew ?_ | refine blk_alloc ?_ _)); exact BK612.out) hb); have n6_ := Aside0.mk (blk_below (g := gb617) (o := .cells #[.int .i64 t613, .slice Ao29 t631.length co29] 33 (0, 0)) (by (with_reducible repeat (first | refine blk_drewN ?_ _ | refine blk_drew ?_ | refine blk_alloc ?_ _)); exact BK617.out) hb); have n7_ := Aside0.mk (blk_below (g := gb623) (o := .cells #[.int .i64 t618, .slice Ao36 t634.length co36] 33 (0, 0)) (by (with_reducible repeat (first | refine blk_drewN ?_ _ | refine blk_drew ?_ | refine blk_alloc ?_ _)); exact BK623.out) hb); have n8_ := Aside0.mk (blk_below (g := gb645) (o := .cells #[.int .i64 t640, .slice Ao123 t641.length co123] 33 (0, 0)) (by (with_reducible repeat (first | refine blk_drewN ?_ _ | refine blk_drew ?_ | refine blk_alloc ?_ _)); exact BK645.out) hb); have n9_ := Aside0.mk (below_step (by repeat (first | (with_reducible first | exact HB.out | apply below_alloc | apply pw_below_drewN | apply below_drew1 | refine below_set ?_ GE601.out | refine below_set ?_ GE612.out | refine below_set ?_ GE617.out | refine below_set ?_ GE623.out | refine below_set ?_ GE645.out) | exact HB.out)) hb); clear HO_613001; clear HO_618001; clear HO_624001; clear HO_646001; clear BK601; clear BK612; clear BK617; clear BK623; clear BK645; clear HB; have HO_613001 := n0_; have HO_618001 := n1_; have HO_624001 := n2_; have HO_646001 := n3_; have BK601 := n4_; have BK612 := n5_; have BK617 := n6_; have BK623 := n7_; have BK645 := n8_; have HB := n9_; clear n0_ n1_ n2_ n3_ n4_ n5_ n6_ n7_ n8_ n9_; (try clear hb); (try clear hb2); (try clear hk); (try clear hi)))
                                go_ret
                                exact ⟨by first | rfl | (simp [errW_none, errW_some] <;> rfl) | (simp [*, errW_none, errW_some] <;> rfl), by repeat (first | (with_reducible first | exact HB.out | apply below_alloc | apply pw_below_drewN | apply below_drew1 | refine below_set ?_ GE601.out | refine below_set ?_ GE612.out | refine below_set ?_ GE617.out | refine below_set ?_ GE623.out | refine below_set ?_ GE645.out) | exact HB.out)⟩
                              · rw [if_neg c155] at H
                                have c155b0 : (t647 == t633) = false := beq_eq_false_iff_ne.mpr c155
                                have c155b1 : (t647 != t633) = true := bne_iff_ne.mpr c155
                                obtain rfl := Option.some.inj H
                                have hnb162 := NB623_601.out
                                have hnc162 := NB601_623.out
                                have hnb163 := NB623_612.out
                                have hnc163 := NB612_623.out
                                have hnb164 := NB623_617.out
                                have hnc164 := NB617_623.out
                                have hnb165 := NB623_645.out
                                have hnc165 := NB645_623.out
                                have hcz166_0 : wc.cell? ⟨gb623, 0, none⟩ = some (.int .i64 t618) := (blk_cell BK623.out 0).trans rfl
                                have hcz166_1 : wc.cell? ⟨gb623, 1, none⟩ = some (.slice Ao36 t634.length co36) := (blk_cell BK623.out 1).trans rfl
                                have hfz166_0 := blk_frozen BK623.out 0
                                have hfz166_1 := blk_frozen BK623.out 1
                                go_wp2_with (first | ((with_reducible refine gate_callee (f := 28) rfl ?_); refine goesL_ (some 90) rfl rfl Try.func28 (by kernel_rfl) rfl #[.agg #[.int .i64 t618, .slice Ao36 t634.length co36], .int .i64 1] rfl (by (try simp only [List.map_toArray, List.map_cons, List.map_nil]); first | done | rfl | (simp only [List.length_drop, List.length_take]; rfl)) ?_; (with_reducible refine (laws_heldBraid.calls kj102 t618 _ _ t634 1 t647 _ ?side1 ?side2 A147.out).mono ?_); (case side1 => repeat (first | exact (Kd.R_reads' HO_624001.out).2.2 | (with_reducible refine Kd.C_alloc ?_ _) | (with_reducible refine Kd.C_drewN ?_ _) | (with_reducible refine Kd.C_drew ?_))); (case side2 => exact (Kd.R_reads' HO_624001.out).2.1); rintro e w167 ⟨rfl, hb⟩; refine ⟨_, rfl, ?_⟩; have n0_ := Aside0.mk (Kd.R_below (by (with_reducible repeat (first | apply Kd.R_alloc | apply Kd.R_drewN | apply Kd.R_drew)); exact HO_613001.out) hb); have n1_ := Aside0.mk (Kd.R_below (by (with_reducible repeat (first | apply Kd.R_alloc | apply Kd.R_drewN | apply Kd.R_drew)); exact HO_618001.out) hb); have n2_ := Aside0.mk (Kd.R_below (by (with_reducible repeat (first | apply Kd.R_alloc | apply Kd.R_drewN | apply Kd.R_drew)); exact HO_624001.out) hb); have n3_ := Aside0.mk (Kd.R_below (by (with_reducible repeat (first | apply Kd.R_alloc | apply Kd.R_drewN | apply Kd.R_drew)); exact HO_646001.out) hb); have n4_ := Aside0.mk (blk_below (g := gb601) (o := .cells #[.int .i64 a0_0, .slice A0_1 l0_1.length c0_1] 30 (0, 0)) (by (with_reducible repeat (first | refine blk_drewN ?_ _ | refine blk_drew ?_ | refine blk_alloc ?_ _)); exact BK601.out) hb); have n5_ := Aside0.mk (blk_below (g := gb612) (o := .cells #[.int .i64 t607, .slice Ao22 t608.length co22] 33 (0, 0)) (by (with_reducible repeat (first | refine blk_drewN ?_ _ | refine blk_drew ?_ | refine blk_alloc ?_ _)); exact BK612.out) hb); have n6_ := Aside0.mk (blk_below (g := gb617) (o := .cells #[.int .i64 t613, .slice Ao29 t631.length co29] 33 (0, 0)) (by (with_reducible repeat (first | refine blk_drewN ?_ _ | refine blk_drew ?_ | refine blk_alloc ?_ _)); exact BK617.out) hb); have n7_ := Aside0.mk (blk_below (g := gb623) (o := .cells #[.int .i64 t618, .slice Ao36 t634.length co36] 33 (0, 0)) (by (with_reducible repeat (first | refine blk_drewN ?_ _ | refine blk_drew ?_ | refine blk_alloc ?_ _)); exact BK623.out) hb); have n8_ := Aside0.mk (blk_below (g := gb645) (o := .cells #[.int .i64 t640, .slice Ao123 t641.length co123] 33 (0, 0)) (by (with_reducible repeat (first | refine blk_drewN ?_ _ | refine blk_drew ?_ | refine blk_alloc ?_ _)); exact BK645.out) hb); have n9_ := Aside0.mk (below_step (by repeat (first | (with_reducible first | exact HB.out | apply below_alloc | apply pw_below_drewN | apply below_drew1 | refine below_set ?_ GE601.out | refine below_set ?_ GE612.out | refine below_set ?_ GE617.out | refine below_set ?_ GE623.out | refine below_set ?_ GE645.out) | exact HB.out)) hb); clear HO_613001; clear HO_618001; clear HO_624001; clear HO_646001; clear BK601; clear BK612; clear BK617; clear BK623; clear BK645; clear HB; have HO_613001 := n0_; have HO_618001 := n1_; have HO_624001 := n2_; have HO_646001 := n3_; have BK601 := n4_; have BK612 := n5_; have BK617 := n6_; have BK623 := n7_; have BK645 := n8_; have HB := n9_; clear n0_ n1_ n2_ n3_ n4_ n5_ n6_ n7_ n8_ n9_; (try clear hb); (try clear hb2); (try clear hk); (try clear hi)))
                                go_ret
                                exact ⟨by first | rfl | (simp [errW_none, errW_some] <;> rfl) | (simp [*, errW_none, errW_some] <;> rfl), by repeat (first | (with_reducible first | exact HB.out | apply below_alloc | apply pw_below_drewN | apply below_drew1 | refine below_set ?_ GE601.out | refine below_set ?_ GE612.out | refine below_set ?_ GE617.out | refine below_set ?_ GE623.out | refine below_set ?_ GE645.out) | exact HB.out)⟩
                    · rw [if_neg c100] at H
                      have c100b0 : (t635 == t633) = false := beq_eq_false_iff_ne.mpr c100
                      have c100b1 : (t635 != t633) = true := bne_iff_ne.mpr c100
                      obtain rfl := Option.some.inj H
                      have hnb168 := NB623_601.out
                      have hnc168 := NB601_623.out
                      have hnb169 := NB623_612.out
                      have hnc169 := NB612_623.out
                      have hnb170 := NB623_617.out
                      have hnc170 := NB617_623.out
                      have hcz171_0 : wc.cell? ⟨gb623, 0, none⟩ = some (.int .i64 t618) := (blk_cell BK623.out 0).trans rfl
                      have hcz171_1 : wc.cell? ⟨gb623, 1, none⟩ = some (.slice Ao36 t619.length co36) := (blk_cell BK623.out 1).trans rfl
                      have hfz171_0 := blk_frozen BK623.out 0
                      have hfz171_1 := blk_frozen BK623.out 1
                      go_wp2_with (first | ((with_reducible refine gate_callee (f := 27) rfl ?_); refine goesL_ (some 64) rfl rfl Try.func27 (by kernel_rfl) rfl #[.agg #[.int .i64 t618, .slice Ao36 t619.length co36], .int .i64 1] rfl (by (try simp only [List.map_toArray, List.map_cons, List.map_nil]); first | done | rfl | (simp only [List.length_drop, List.length_take]; rfl)) ?_; (with_reducible refine (laws_markBraid.calls kj59 t618 (fun k_ => some k_ = (.slice Ao36 t619.length co36 : Value).ownBlock) (.slice Ao36 t619.length co36) t619 1 t633 t634 w _ ?side1 ?side2 A90.out).mono ?_); (case side1 => repeat (first | (with_reducible first | exact HB.out | apply below_alloc | apply pw_below_drewN | apply below_drew1 | refine below_set ?_ GE601.out | refine below_set ?_ GE612.out | refine below_set ?_ GE617.out | refine below_set ?_ GE623.out) | exact HB.out)); (case side2 => exact Kd.R_tight rfl HO_624001.out); rintro e w172 ⟨rfl, hy0, hb, hkp⟩; refine ⟨_, rfl, ?_⟩; have n0_ := Aside0.mk (Kd.R_mono (ok' := fun k_ => some k_ ≠ (.slice Ao29 t631.length co29 : Value).ownBlock ∧ some k_ ≠ (.slice Ao36 t619.length co36 : Value).ownBlock) (Kd.R_keptB (HO_613001.out) hkp (fun k_ hk_ hs_ => by first | exact (hk_.2) hs_ | grind)) (fun k_ hk_ => by first | exact ⟨hk_.1.1, hk_.1.2⟩ | grind)); have n1_ := Aside0.mk (Kd.R_mono (ok' := fun k_ => some k_ ≠ (.slice Ao22 t608.length co22 : Value).ownBlock ∧ some k_ ≠ (.slice Ao36 t619.length co36 : Value).ownBlock) (Kd.R_keptB (HO_618001.out) hkp (fun k_ hk_ hs_ => by first | exact (hk_.2) hs_ | grind)) (fun k_ hk_ => by first | exact ⟨hk_.1.1, hk_.1.2⟩ | grind)); have n2_ := Aside0.mk (Kd.R_reok rfl hy0 (fun k_ e_ => HO_624001.out.1 k_ e_)); have n3_ := Aside0.mk (blk_kept (by (with_reducible repeat (first | refine blk_drewN ?_ _ | refine blk_drew ?_ | refine blk_alloc ?_ _)); exact BK601.out) hkp (fun hs_ => (fun e_ => (Kd.R_ne HO_624001.out BK601.out (by decide)) e_) hs_)); have n4_ := Aside0.mk (blk_kept (by (with_reducible repeat (first | refine blk_drewN ?_ _ | refine blk_drew ?_ | refine blk_alloc ?_ _)); exact BK612.out) hkp (fun hs_ => (fun e_ => (Kd.R_ne HO_624001.out BK612.out (by decide)) e_) hs_)); have n5_ := Aside0.mk (blk_kept (by (with_reducible repeat (first | refine blk_drewN ?_ _ | refine blk_drew ?_ | refine blk_alloc ?_ _)); exact BK617.out) hkp (fun hs_ => (fun e_ => (Kd.R_ne HO_624001.out BK617.out (by decide)) e_) hs_)); have n6_ := Aside0.mk (blk_kept (by (with_reducible repeat (first | refine blk_drewN ?_ _ | refine blk_drew ?_ | refine blk_alloc ?_ _)); exact BK623.out) hkp (fun hs_ => (fun e_ => (Kd.R_ne HO_624001.out BK623.out (by decide)) e_) hs_)); have n7_ := Aside0.mk (hb); clear HO_613001; clear HO_618001; clear HO_624001; clear BK601; clear BK612; clear BK617; clear BK623; clear HB; have HO_613001 := n0_; have HO_618001 := n1_; have HO_624001 := n2_; have BK601 := n3_; have BK612 := n4_; have BK617 := n5_; have BK623 := n6_; have HB := n7_; clear n0_ n1_ n2_ n3_ n4_ n5_ n6_ n7_; (try clear hb); (try clear hkp); (try clear hy0); have hcz173_0 : w172.cell? ⟨gb623, 0, none⟩ = some (.int .i64 t618) := (blk_cell BK623.out 0).trans rfl; have hcz173_1 : w172.cell? ⟨gb623, 1, none⟩ = some (.slice Ao36 t619.length co36) := (blk_cell BK623.out 1).trans rfl; have hfz173_0 := blk_frozen BK623.out 0; have hfz173_1 := blk_frozen BK623.out 1) | ((with_reducible refine gate_callee (f := 28) rfl ?_); refine goesL_ (some 67) rfl rfl Try.func28 (by kernel_rfl) rfl #[.agg #[.int .i64 t618, .slice Ao36 t634.length co36], .int .i64 1] rfl (by (try simp only [List.map_toArray, List.map_cons, List.map_nil]); first | done | (rw [show t634.length = t619.length from (Kd.R_reads' HO_624001.out).1.symm] <;> rfl) | rfl | (simp only [List.length_drop, List.length_take]; rfl)) ?_; (with_reducible refine (laws_heldBraid.calls kj59 t618 _ _ t634 1 t635 _ ?side1 ?side2 A91.out).mono ?_); (case side1 => repeat (first | exact (Kd.R_reads' HO_624001.out).2.2 | (with_reducible refine Kd.C_alloc ?_ _) | (with_reducible refine Kd.C_drewN ?_ _) | (with_reducible refine Kd.C_drew ?_))); (case side2 => rw [show t634.length = t619.length from (Kd.R_reads' HO_624001.out).1.symm]; exact (Kd.R_reads' HO_624001.out).2.1); rintro e w174 ⟨rfl, hb⟩; refine ⟨_, rfl, ?_⟩; have n0_ := Aside0.mk (Kd.R_below (by (with_reducible repeat (first | apply Kd.R_alloc | apply Kd.R_drewN | apply Kd.R_drew)); exact HO_613001.out) hb); have n1_ := Aside0.mk (Kd.R_below (by (with_reducible repeat (first | apply Kd.R_alloc | apply Kd.R_drewN | apply Kd.R_drew)); exact HO_618001.out) hb); have n2_ := Aside0.mk (Kd.R_below (by (with_reducible repeat (first | apply Kd.R_alloc | apply Kd.R_drewN | apply Kd.R_drew)); exact HO_624001.out) hb); have n3_ := Aside0.mk (blk_below (g := gb601) (o := .cells #[.int .i64 a0_0, .slice A0_1 l0_1.length c0_1] 30 (0, 0)) (by (with_reducible repeat (first | refine blk_drewN ?_ _ | refine blk_drew ?_ | refine blk_alloc ?_ _)); exact BK601.out) hb); have n4_ := Aside0.mk (blk_below (g := gb612) (o := .cells #[.int .i64 t607, .slice Ao22 t608.length co22] 33 (0, 0)) (by (with_reducible repeat (first | refine blk_drewN ?_ _ | refine blk_drew ?_ | refine blk_alloc ?_ _)); exact BK612.out) hb); have n5_ := Aside0.mk (blk_below (g := gb617) (o := .cells #[.int .i64 t613, .slice Ao29 t631.length co29] 33 (0, 0)) (by (with_reducible repeat (first | refine blk_drewN ?_ _ | refine blk_drew ?_ | refine blk_alloc ?_ _)); exact BK617.out) hb); have n6_ := Aside0.mk (blk_below (g := gb623) (o := .cells #[.int .i64 t618, .slice Ao36 t619.length co36] 33 (0, 0)) (by (with_reducible repeat (first | refine blk_drewN ?_ _ | refine blk_drew ?_ | refine blk_alloc ?_ _)); exact BK623.out) hb); have n7_ := Aside0.mk (below_step (by repeat (first | (with_reducible first | exact HB.out | apply below_alloc | apply pw_below_drewN | apply below_drew1 | refine below_set ?_ GE601.out | refine below_set ?_ GE612.out | refine below_set ?_ GE617.out | refine below_set ?_ GE623.out) | exact HB.out)) hb); clear HO_613001; clear HO_618001; clear HO_624001; clear BK601; clear BK612; clear BK617; clear BK623; clear HB; have HO_613001 := n0_; have HO_618001 := n1_; have HO_624001 := n2_; have BK601 := n3_; have BK612 := n4_; have BK617 := n5_; have BK623 := n6_; have HB := n7_; clear n0_ n1_ n2_ n3_ n4_ n5_ n6_ n7_; (try clear hb); (try clear hb2); (try clear hk); (try clear hi)))
                      go_ret
                      exact ⟨by first | rfl | (simp [errW_none, errW_some] <;> rfl) | (simp [*, errW_none, errW_some] <;> rfl), by repeat (first | (with_reducible first | exact HB.out | apply below_alloc | apply pw_below_drewN | apply below_drew1 | refine below_set ?_ GE601.out | refine below_set ?_ GE612.out | refine below_set ?_ GE617.out | refine below_set ?_ GE623.out) | exact HB.out)⟩
          · replace c58 := Bool.eq_false_iff.mpr c58
            subst c58
            have H1 : (some false) = some r := by rw [if_neg (show ¬ (false = true) by decide)] at H; exact H
            clear H
            have H := H1
            clear H1
            obtain rfl := Option.some.inj H
            try go_wp2
            have n0_ := Aside0.mk (Kd.R_drew HO_613001.out)
            have n1_ := Aside0.mk (Kd.R_drew HO_618001.out)
            have n2_ := Aside0.mk (Kd.R_drew HO_624001.out)
            have n3_ := Aside0.mk (blk_drew BK601.out)
            have n4_ := Aside0.mk (blk_drew BK612.out)
            have n5_ := Aside0.mk (blk_drew BK617.out)
            have n6_ := Aside0.mk (blk_drew BK623.out)
            have n7_ := Aside0.mk (below_drew1 HB.out)
            clear HO_613001
            clear HO_618001
            clear HO_624001
            clear BK601
            clear BK612
            clear BK617
            clear BK623
            clear HB
            have HO_613001 := n0_
            have HO_618001 := n1_
            have HO_624001 := n2_
            have BK601 := n3_
            have BK612 := n4_
            have BK617 := n5_
            have BK623 := n6_
            have HB := n7_
            clear n0_ n1_ n2_ n3_ n4_ n5_ n6_ n7_
            refine start_ (n := 5) (S := fun w' => w'.cell? ⟨gb617, 0, none⟩ = some (.int .i64 t613) ∧ w'.cell? ⟨gb617, 1, none⟩ = some (.slice Ao29 t614.length co29) ∧ w'.cell? ⟨gb601, 0, none⟩ = some (.int .i64 a0_0) ∧ w'.cell? ⟨gb601, 1, none⟩ = some (.slice A0_1 l0_1.length c0_1)) (ds := []) #[false, false, false, false, false] (by kernel_rfl) rfl rfl ⟨(blk_cell BK617.out 0).trans rfl, (blk_cell BK617.out 1).trans rfl, (blk_cell BK601.out 0).trans rfl, (blk_cell BK601.out 1).trans rfl⟩ (fun hHeld => ?_)
            generalize wc.drew = w175 at HO_613001 HO_618001 HO_624001 BK601 BK612 BK617 BK623 HB hHeld ⊢
            refine take_ (i := 0) (N := some 41) (v := ?_) (a' := ?_) #[true, false, false, false, false] rfl rfl (by kernel_rfl) (fun _ _ _ h => h) (Or.inl ⟨by rfl, ?_⟩) hHeld ?_ ?_
            rotate_left
            · rintro w' ⟨s0, s1, s2, s3⟩
              go_simp
              with_reducible rfl
            rotate_left
            · simp only [Act.put, List.setIfInBounds_toArray, List.set_cons_zero, List.set_cons_succ, i64_w, i32_w]
              rfl
            refine take_ (i := 1) (N := some 42) (v := ?_) (a' := ?_) #[true, true, false, false, false] rfl rfl (by kernel_rfl) (fun _ _ _ h => h) (Or.inl ⟨by rfl, ?_⟩) hHeld ?_ ?_
            rotate_left
            · rintro w' ⟨s0, s1, s2, s3⟩
              go_simp
              with_reducible rfl
            rotate_left
            · simp only [Act.put, List.setIfInBounds_toArray, List.set_cons_zero, List.set_cons_succ, i64_w, i32_w]
              rfl
            refine one_ (i := 2) (N := some 43) #[true, true, true, false, false] rfl rfl (by kernel_rfl) (by decide) (fun K hK => ?_)
            refine goes_ Try.func22 (by kernel_rfl) rfl #[.agg #[.int .i64 a0_0, .slice A0_1 l0_1.length c0_1]] (by rfl) rfl rfl (by (try simp only [List.map_toArray, List.map_cons, List.map_nil]); first | done | rfl | (simp only [List.length_drop, List.length_take]; rfl)) ?_
            with_reducible refine (laws_toBraid.calls kj10 a0_0 _ _ l0_1 t625 t626 _ ?side1 ?side2 A56.out).mono ?_
            (case side1 => repeat (first | exact (Kd.C_below HR0_1.out HB.out) | (with_reducible refine Kd.C_alloc ?_ _) | (with_reducible refine Kd.C_drewN ?_ _) | (with_reducible refine Kd.C_drew ?_)))
            (case side2 => exact HC0_1.out)
            rintro e w176 ⟨v627, rfl, ho0, hb⟩
            refine ⟨_, rfl, ?_⟩
            have n0_ := Aside0.mk (Kd.R_elder' (by (with_reducible repeat (first | apply Kd.R_alloc | apply Kd.R_drewN | apply Kd.R_drew)); exact HO_613001.out) (Kd.R_base ho0) hb)
            have n1_ := Aside0.mk (Kd.R_elder' (by (with_reducible repeat (first | apply Kd.R_alloc | apply Kd.R_drewN | apply Kd.R_drew)); exact HO_618001.out) (Kd.R_base ho0) hb)
            have n2_ := Aside0.mk (Kd.R_elder' (by (with_reducible repeat (first | apply Kd.R_alloc | apply Kd.R_drewN | apply Kd.R_drew)); exact HO_624001.out) (Kd.R_base ho0) hb)
            have n3_ := Aside0.mk (Kd.R_lower (Kd.R_new' (Kd.R_new' (Kd.R_new' ho0 (Kd.R_lt (by (with_reducible repeat (first | apply Kd.R_alloc | apply Kd.R_drewN | apply Kd.R_drew)); exact HO_613001.out))) (Kd.R_lt (by (with_reducible repeat (first | apply Kd.R_alloc | apply Kd.R_drewN | apply Kd.R_drew)); exact HO_618001.out))) (Kd.R_lt (by (with_reducible repeat (first | apply Kd.R_alloc | apply Kd.R_drewN | apply Kd.R_drew)); exact HO_624001.out))) (below_size (by repeat (first | (with_reducible first | exact HB.out | apply below_alloc | apply pw_below_drewN | apply below_drew1 | refine below_set ?_ GE601.out | refine below_set ?_ GE612.out | refine below_set ?_ GE617.out | refine below_set ?_ GE623.out) | exact HB.out))))
            have n4_ := Aside0.mk (blk_below (g := gb601) (o := .cells #[.int .i64 a0_0, .slice A0_1 l0_1.length c0_1] 30 (0, 0)) (by (with_reducible repeat (first | refine blk_drewN ?_ _ | refine blk_drew ?_ | refine blk_alloc ?_ _)); exact BK601.out) hb)
            have n5_ := Aside0.mk (blk_below (g := gb612) (o := .cells #[.int .i64 t607, .slice Ao22 t608.length co22] 33 (0, 0)) (by (with_reducible repeat (first | refine blk_drewN ?_ _ | refine blk_drew ?_ | refine blk_alloc ?_ _)); exact BK612.out) hb)
            have n6_ := Aside0.mk (blk_below (g := gb617) (o := .cells #[.int .i64 t613, .slice Ao29 t614.length co29] 33 (0, 0)) (by (with_reducible repeat (first | refine blk_drewN ?_ _ | refine blk_drew ?_ | refine blk_alloc ?_ _)); exact BK617.out) hb)
            have n7_ := Aside0.mk (blk_below (g := gb623) (o := .cells #[.int .i64 t618, .slice Ao36 t619.length co36] 33 (0, 0)) (by (with_reducible repeat (first | refine blk_drewN ?_ _ | refine blk_drew ?_ | refine blk_alloc ?_ _)); exact BK623.out) hb)
            have n8_ := Aside0.mk (below_step (by repeat (first | (with_reducible first | exact HB.out | apply below_alloc | apply pw_below_drewN | apply below_drew1 | refine below_set ?_ GE601.out | refine below_set ?_ GE612.out | refine below_set ?_ GE617.out | refine below_set ?_ GE623.out) | exact HB.out)) hb)
            clear HO_613001
            clear HO_618001
            clear HO_624001
            clear BK601
            clear BK612
            clear BK617
            clear BK623
            clear HB
            have HO_613001 := n0_
            have HO_618001 := n1_
            have HO_624001 := n2_
            have HO628 := n3_
            have BK601 := n4_
            have BK612 := n5_
            have BK617 := n6_
            have BK623 := n7_
            have HB := n8_
            clear n0_ n1_ n2_ n3_ n4_ n5_ n6_ n7_ n8_
            (try clear hb)
            (try clear hb2)
            (try clear hk)
            (try clear hi)
            (try clear ho0)
            obtain ⟨Ao177, co177, eo177⟩ := Kd.R_slice HO628.out
            (first | subst eo177 | (injection eo177 with f1_ f2_ f3_; have f4_ := f1_.symm; have f5_ := f3_.symm; clear f1_ f2_ f3_; subst f4_; subst f5_))
            refine hK.out _ _ ⟨(blk_cell BK617.out 0).trans rfl, (blk_cell BK617.out 1).trans rfl, (blk_cell BK601.out 0).trans rfl, (blk_cell BK601.out 1).trans rfl⟩ (fun hHeld => ?_)
            clear hK K
            refine norm_ (a' := ?_) ?_ ?_
            rotate_left
            · show Act.put _ (some 43) _ = _
              simp only [Act.put, List.setIfInBounds_toArray, List.set_cons_zero, List.set_cons_succ, i64_w, i32_w]
              rfl
            refine one_ (i := 3) (N := some 44) #[true, true, true, true, false] rfl rfl (by kernel_rfl) (by decide) (fun K hK => ?_)
            refine goes_ Try.func24 (by kernel_rfl) rfl #[.agg #[.int .i64 t613, .slice Ao29 t614.length co29], .agg #[.int .i64 t625, .slice Ao177 t626.length co177]] (by rfl) rfl rfl (by (try simp only [List.map_toArray, List.map_cons, List.map_nil]); first | done | rfl | (simp only [List.length_drop, List.length_take]; rfl)) ?_
            with_reducible refine (laws_eqBraid.calls kj10 t613 _ _ t614 t625 _ _ t626 false _ ?side1 ?side2 ?side3 ?side4 A57.out).mono ?_
            (case side1 => repeat (first | exact (Kd.R_reads' HO_618001.out).2.2 | (with_reducible refine Kd.C_alloc ?_ _) | (with_reducible refine Kd.C_drewN ?_ _) | (with_reducible refine Kd.C_drew ?_)))
            (case side2 => exact (Kd.R_reads' HO_618001.out).2.1)
            (case side3 => repeat (first | exact (Kd.R_reads' HO628.out).2.2 | (with_reducible refine Kd.C_alloc ?_ _) | (with_reducible refine Kd.C_drewN ?_ _) | (with_reducible refine Kd.C_drew ?_)))
            (case side4 => exact (Kd.R_reads' HO628.out).2.1)
            rintro e w178 ⟨rfl, hb⟩
            refine ⟨_, rfl, ?_⟩
            have n0_ := Aside0.mk (Kd.R_below (by (with_reducible repeat (first | apply Kd.R_alloc | apply Kd.R_drewN | apply Kd.R_drew)); exact HO_613001.out) hb)
            have n1_ := Aside0.mk (Kd.R_below (by (with_reducible repeat (first | apply Kd.R_alloc | apply Kd.R_drewN | apply Kd.R_drew)); exact HO_618001.out) hb)
            have n2_ := Aside0.mk (Kd.R_below (by (with_reducible repeat (first | apply Kd.R_alloc | apply Kd.R_drewN | apply Kd.R_drew)); exact HO_624001.out) hb)
            have n3_ := Aside0.mk (Kd.R_below (by (with_reducible repeat (first | apply Kd.R_alloc | apply Kd.R_drewN | apply Kd.R_drew)); exact HO628.out) hb)
            have n4_ := Aside0.mk (blk_below (g := gb601) (o := .cells #[.int .i64 a0_0, .slice A0_1 l0_1.length c0_1] 30 (0, 0)) (by (with_reducible repeat (first | refine blk_drewN ?_ _ | refine blk_drew ?_ | refine blk_alloc ?_ _)); exact BK601.out) hb)
            have n5_ := Aside0.mk (blk_below (g := gb612) (o := .cells #[.int .i64 t607, .slice Ao22 t608.length co22] 33 (0, 0)) (by (with_reducible repeat (first | refine blk_drewN ?_ _ | refine blk_drew ?_ | refine blk_alloc ?_ _)); exact BK612.out) hb)
            have n6_ := Aside0.mk (blk_below (g := gb617) (o := .cells #[.int .i64 t613, .slice Ao29 t614.length co29] 33 (0, 0)) (by (with_reducible repeat (first | refine blk_drewN ?_ _ | refine blk_drew ?_ | refine blk_alloc ?_ _)); exact BK617.out) hb)
            have n7_ := Aside0.mk (blk_below (g := gb623) (o := .cells #[.int .i64 t618, .slice Ao36 t619.length co36] 33 (0, 0)) (by (with_reducible repeat (first | refine blk_drewN ?_ _ | refine blk_drew ?_ | refine blk_alloc ?_ _)); exact BK623.out) hb)
            have n8_ := Aside0.mk (below_step (by repeat (first | (with_reducible first | exact HB.out | apply below_alloc | apply pw_below_drewN | apply below_drew1 | refine below_set ?_ GE601.out | refine below_set ?_ GE612.out | refine below_set ?_ GE617.out | refine below_set ?_ GE623.out) | exact HB.out)) hb)
            clear HO_613001
            clear HO_618001
            clear HO_624001
            clear HO628
            clear BK601
            clear BK612
            clear BK617
            clear BK623
            clear HB
            have HO_613001 := n0_
            have HO_618001 := n1_
            have HO_624001 := n2_
            have HO628 := n3_
            have BK601 := n4_
            have BK612 := n5_
            have BK617 := n6_
            have BK623 := n7_
            have HB := n8_
            clear n0_ n1_ n2_ n3_ n4_ n5_ n6_ n7_ n8_
            (try clear hb)
            (try clear hb2)
            (try clear hk)
            (try clear hi)
            refine hK.out _ _ ⟨(blk_cell BK617.out 0).trans rfl, (blk_cell BK617.out 1).trans rfl, (blk_cell BK601.out 0).trans rfl, (blk_cell BK601.out 1).trans rfl⟩ (fun hHeld => ?_)
            clear hK K
            refine norm_ (a' := ?_) ?_ ?_
            rotate_left
            · show Act.put _ (some 44) _ = _
              simp only [Act.put, List.setIfInBounds_toArray, List.set_cons_zero, List.set_cons_succ, i64_w, i32_w]
              rfl
            refine pure_ (i := 4) (N := some 45) (v := ?_) (a' := ?_) #[true, true, true, true, true] rfl rfl (by kernel_rfl) (fun _ _ _ h => h) (Or.inl ⟨by rfl, ?_⟩) ?_ ?_
            rotate_left
            · intro w'
              go_simp
              with_reducible rfl
            rotate_left
            · simp only [Act.put, List.setIfInBounds_toArray, List.set_cons_zero, List.set_cons_succ, i64_w, i32_w]
              rfl
            refine done_ (by kernel_rfl) ?_
            try go_wp2
            go_ret
            exact ⟨by first | rfl | (simp [errW_none, errW_some] <;> rfl) | (simp [*, errW_none, errW_some] <;> rfl), by repeat (first | (with_reducible first | exact HB.out | apply below_alloc | apply pw_below_drewN | apply below_drew1 | refine below_set ?_ GE601.out | refine below_set ?_ GE612.out | refine below_set ?_ GE617.out | refine below_set ?_ GE623.out) | exact HB.out)⟩

end Go.Proofs.Ytahjhlcmcnemiaa.PA
