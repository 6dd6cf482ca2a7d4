/- The functions of this text return what their Lean twins (of the same name, .f) compute; written by a program of this session (wip/hp.py). -/
import Derived.Test.YtahjhlcmcnemiaaPAx0
import Derived.Test.YtahjhlcmcnemiaaPAxf15
import Derived.Test.YtahjhlcmcnemiaaPAxf39
import Derived.Test.YtahjhlcmcnemiaaPAxf40
namespace Go.Proofs.Ytahjhlcmcnemiaa.PA
open Go.RowKit Go.Proofs.YtahjhlcmcnemiaaW.PrintWords Go.Proofs.YtahjhlcmcnemiaaW.PrintLast Go.Proofs.YtahjhlcmcnemiaaW.PrintMore
attribute [local go_sem] max2_int min2_int max_two min_two max_three min_three max_four min_four   -- for this text's walks alone
set_option linter.unusedVariables false
set_option linter.unusedSimpArgs false

/-! ### laws_FnExactConjugateBraid: function 11 -/
mutual
def laws_FnExactConjugateBraid.j0 : Nat → Int → Int → Int → Bool → Int → List Int → Int → List Int → Int → List Int → Int → List Int → Option (Bool)
  | 0, _, _, _, _, _, _, _, _, _, _, _, _ => none
  | k + 1, x1, x7, x10, x44, x763000, x763001, x774000, x774001, x779000, x779001, x785000, x785001 => if x44 = true then (some false) else ((laws_toBraid.f k x763000 x763001).bind fun bt786 => ((laws_eqBraid.f k x779000 x779001 bt786.1 bt786.2).bind fun t790 => (if t790 = true then ((laws_markBraid.f k x779000 x779001 1).bind fun bt791 => (if bt791.1 < 0 then (laws_FnExactConjugateBraid.j1 k x1 x7 true x763000 x763001 x774000 x774001 x785000 x785001) else ((laws_eqBraid.f k x785000 x785001 x774000 x774001).bind fun t793 => (if t793 = true then (laws_FnExactConjugateBraid.j1 k x1 x7 (x10 != x7) x763000 x763001 x774000 x774001 x785000 x785001) else (laws_FnExactConjugateBraid.j1 k x1 x7 true x763000 x763001 x774000 x774001 x785000 x785001))))) else (some false))))
def laws_FnExactConjugateBraid.j1 : Nat → Int → Int → Bool → Int → List Int → Int → List Int → Int → List Int → Option (Bool)
  | 0, _, _, _, _, _, _, _, _, _ => none
  | k + 1, x1, x7, x65, x763000, x763001, x774000, x774001, x785000, x785001 => if x65 = true then (some false) else ((laws_markBraid.f k x785000 x785001 1).bind fun bt794 => ((laws_heldBraid.f k x785000 bt794.2 1).bind fun t796 => (if t796 < 0 then (some false) else (if t796 = bt794.1 then ((laws_toBraid.f k x763000 x763001).bind fun bt797 => ((impl_ConjugateBraid.f k bt797.1 bt797.2 x1).bind fun bt801 => ((laws_eqBraid.f k bt801.1 bt801.2.1 x774000 x774001).bind fun t807 => (if t807 = true then (laws_FnExactConjugateBraid.j2 k bt794.1 (bt801.2.2 != x7) x785000 bt794.2) else (laws_FnExactConjugateBraid.j2 k bt794.1 true x785000 bt794.2))))) else (some false)))))
def laws_FnExactConjugateBraid.j2 : Nat → Int → Bool → Int → List Int → Option (Bool)
  | 0, _, _, _, _ => none
  | k + 1, x12, x92, x785000, x785001 => if x92 = true then (some false) else ((laws_heldBraid.f k x785000 x785001 1).bind fun t808 => (if t808 < 0 then (some false) else (if t808 = x12 then (some true) else (some false))))
end
def laws_FnExactConjugateBraid.f (k : Nat) (a0_0 : Int) (l0_1 : List Int) (a1 : Int) : Option (Bool) := (laws_szBraid.f a0_0 l0_1 1048576).bind fun t763 => (if t763 < 0 then (some true) else ((laws_toBraid.f k a0_0 l0_1).bind fun bt764 => ((spec_ConjugateBraid.f k bt764.1 bt764.2 a1).bind fun bt768 => ((laws_toBraid.f k a0_0 l0_1).bind fun bt774 => ((impl_ConjugateBraid.f k bt774.1 bt774.2 a1).bind fun bt779 => ((laws_eqBraid.f k bt779.1 bt779.2.1 bt768.1 bt768.2.1).bind fun t785 => (if t785 = true then (laws_FnExactConjugateBraid.j0 k a1 bt768.2.2 bt779.2.2 (bt779.2.2 != bt768.2.2) a0_0 l0_1 bt768.1 bt768.2.1 bt774.1 bt774.2 bt779.1 bt779.2.1) else (laws_FnExactConjugateBraid.j0 k a1 bt768.2.2 bt779.2.2 true a0_0 l0_1 bt768.1 bt768.2.1 bt774.1 bt774.2 bt779.1 bt779.2.1))))))))
theorem laws_FnExactConjugateBraid.mono_l : ∀ k, (∀ y0 y1 y2 y3 y4 y5 y6 y7 y8 y9 y10 y11, LeO (laws_FnExactConjugateBraid.j0 k y0 y1 y2 y3 y4 y5 y6 y7 y8 y9 y10 y11) (laws_FnExactConjugateBraid.j0 (k + 1) y0 y1 y2 y3 y4 y5 y6 y7 y8 y9 y10 y11)) ∧ (∀ y0 y1 y2 y3 y4 y5 y6 y7 y8, LeO (laws_FnExactConjugateBraid.j1 k y0 y1 y2 y3 y4 y5 y6 y7 y8) (laws_FnExactConjugateBraid.j1 (k + 1) y0 y1 y2 y3 y4 y5 y6 y7 y8)) ∧ (∀ y0 y1 y2 y3, LeO (laws_FnExactConjugateBraid.j2 k y0 y1 y2 y3) (laws_FnExactConjugateBraid.j2 (k + 1) y0 y1 y2 y3))
  | 0 => ⟨fun _ _ _ _ _ _ _ _ _ _ _ _ r h => by simp [laws_FnExactConjugateBraid.j0] at h, fun _ _ _ _ _ _ _ _ _ r h => by simp [laws_FnExactConjugateBraid.j1] at h, fun _ _ _ _ r h => by simp [laws_FnExactConjugateBraid.j2] at h⟩
  | k + 1 => by
    obtain ⟨ih0, ih1, ih2⟩ := laws_FnExactConjugateBraid.mono_l k
    refine ⟨?_, ?_, ?_⟩
    · intro y0 y1 y2 y3 y4 y5 y6 y7 y8 y9 y10 y11
      unfold laws_FnExactConjugateBraid.j0
      repeat' first
      | (with_reducible exact ih0 _ _ _ _ _ _ _ _ _ _ _ _)
      | (with_reducible exact ih1 _ _ _ _ _ _ _ _ _)
      | (with_reducible exact ih2 _ _ _ _)
      | (with_reducible exact impl_ConjugateBraid.mono _ _ _ _)
      | (with_reducible exact laws_eqBraid.mono _ _ _ _ _)
      | (with_reducible exact laws_heldBraid.mono _ _ _ _)
      | (with_reducible exact laws_markBraid.mono _ _ _ _)
      | (with_reducible exact laws_toBraid.mono _ _ _)
      | (with_reducible exact spec_ConjugateBraid.mono _ _ _ _)
      | (with_reducible exact LeO.refl _)
      | (with_reducible exact LeO.none _)
      | (with_reducible refine LeO.ite ?_ ?_)
      | (with_reducible refine LeO.bind ?_ (fun _ => ?_))
      | exact ih0 _ _ _ _ _ _ _ _ _ _ _ _
      | exact ih1 _ _ _ _ _ _ _ _ _
      | exact ih2 _ _ _ _
      | exact impl_ConjugateBraid.mono _ _ _ _
      | exact laws_eqBraid.mono _ _ _ _ _
      | exact laws_heldBraid.mono _ _ _ _
      | exact laws_markBraid.mono _ _ _ _
      | exact laws_toBraid.mono _ _ _
      | exact spec_ConjugateBraid.mono _ _ _ _
      | exact LeO.none _
      | refine LeO.ite ?_ ?_
      | refine LeO.bind ?_ (fun _ => ?_)
    · intro y0 y1 y2 y3 y4 y5 y6 y7 y8
      unfold laws_FnExactConjugateBraid.j1
      repeat' first
      | (with_reducible exact ih0 _ _ _ _ _ _ _ _ _ _ _ _)
      | (with_reducible exact ih1 _ _ _ _ _ _ _ _ _)
      | (with_reducible exact ih2 _ _ _ _)
      | (with_reducible exact impl_ConjugateBraid.mono _ _ _ _)
      | (with_reducible exact laws_eqBraid.mono _ _ _ _ _)
      | (with_reducible exact laws_heldBraid.mono _ _ _ _)
      | (with_reducible exact laws_markBraid.mono _ _ _ _)
      | (with_reducible exact laws_toBraid.mono _ _ _)
      | (with_reducible exact spec_ConjugateBraid.mono _ _ _ _)
      | (with_reducible exact LeO.refl _)
      | (with_reducible exact LeO.none _)
      | (with_reducible refine LeO.ite ?_ ?_)
      | (with_reducible refine LeO.bind ?_ (fun _ => ?_))
      | exact ih0 _ _ _ _ _ _ _ _ _ _ _ _
      | exact ih1 _ _ _ _ _ _ _ _ _
      | exact ih2 _ _ _ _
      | exact impl_ConjugateBraid.mono _ _ _ _
      | exact laws_eqBraid.mono _ _ _ _ _
      | exact laws_heldBraid.mono _ _ _ _
      | exact laws_markBraid.mono _ _ _ _
      | exact laws_toBraid.mono _ _ _
      | exact spec_ConjugateBraid.mono _ _ _ _
      | exact LeO.none _
      | refine LeO.ite ?_ ?_
      | refine LeO.bind ?_ (fun _ => ?_)
    · intro y0 y1 y2 y3
      unfold laws_FnExactConjugateBraid.j2
      repeat' first
      | (with_reducible exact ih0 _ _ _ _ _ _ _ _ _ _ _ _)
      | (with_reducible exact ih1 _ _ _ _ _ _ _ _ _)
      | (with_reducible exact ih2 _ _ _ _)
      | (with_reducible exact impl_ConjugateBraid.mono _ _ _ _)
      | (with_reducible exact laws_eqBraid.mono _ _ _ _ _)
      | (with_reducible exact laws_heldBraid.mono _ _ _ _)
      | (with_reducible exact laws_markBraid.mono _ _ _ _)
      | (with_reducible exact laws_toBraid.mono _ _ _)
      | (with_reducible exact spec_ConjugateBraid.mono _ _ _ _)
      | (with_reducible exact LeO.refl _)
      | (with_reducible exact LeO.none _)
      | (with_reducible refine LeO.ite ?_ ?_)
      | (with_reducible refine LeO.bind ?_ (fun _ => ?_))
      | exact ih0 _ _ _ _ _ _ _ _ _ _ _ _
      | exact ih1 _ _ _ _ _ _ _ _ _
      | exact ih2 _ _ _ _
      | exact impl_ConjugateBraid.mono _ _ _ _
      | exact laws_eqBraid.mono _ _ _ _ _
      | exact laws_heldBraid.mono _ _ _ _
      | exact laws_markBraid.mono _ _ _ _
      | exact laws_toBraid.mono _ _ _
      | exact spec_ConjugateBraid.mono _ _ _ _
      | exact LeO.none _
      | refine LeO.ite ?_ ?_
      | refine LeO.bind ?_ (fun _ => ?_)
theorem laws_FnExactConjugateBraid.mono : ∀ a0 a1 a2 k, LeO (laws_FnExactConjugateBraid.f k a0 a1 a2) (laws_FnExactConjugateBraid.f (k + 1) a0 a1 a2) := by
  intro a0 a1 a2 k
  obtain ⟨ih0, ih1, ih2⟩ := laws_FnExactConjugateBraid.mono_l k
  unfold laws_FnExactConjugateBraid.f
  repeat' first
      | (with_reducible exact ih0 _ _ _ _ _ _ _ _ _ _ _ _)
      | (with_reducible exact ih1 _ _ _ _ _ _ _ _ _)
      | (with_reducible exact ih2 _ _ _ _)
      | (with_reducible exact impl_ConjugateBraid.mono _ _ _ _)
      | (with_reducible exact laws_eqBraid.mono _ _ _ _ _)
      | (with_reducible exact laws_heldBraid.mono _ _ _ _)
      | (with_reducible exact laws_markBraid.mono _ _ _ _)
      | (with_reducible exact laws_toBraid.mono _ _ _)
      | (with_reducible exact spec_ConjugateBraid.mono _ _ _ _)
      | (with_reducible exact LeO.refl _)
      | (with_reducible exact LeO.none _)
      | (with_reducible refine LeO.ite ?_ ?_)
      | (with_reducible refine LeO.bind ?_ (fun _ => ?_))
      | exact ih0 _ _ _ _ _ _ _ _ _ _ _ _
      | exact ih1 _ _ _ _ _ _ _ _ _
      | exact ih2 _ _ _ _
      | exact impl_ConjugateBraid.mono _ _ _ _
      | exact laws_eqBraid.mono _ _ _ _ _
      | exact laws_heldBraid.mono _ _ _ _
      | exact laws_markBraid.mono _ _ _ _
      | exact laws_toBraid.mono _ _ _
      | exact spec_ConjugateBraid.mono _ _ _ _
      | exact LeO.none _
      | refine LeO.ite ?_ ?_
      | refine LeO.bind ?_ (fun _ => ?_)
set_option maxHeartbeats 8000000 in
set_option maxRecDepth 100000 in
theorem laws_FnExactConjugateBraid.calls (k : Nat) (a0_0 : Int) (A0_1 : Option Addr) (c0_1 : Nat) (l0_1 : List Int) (a1 : Int) (r : Bool) (w : World) (hr0_1 : Kd.C (Kd.int .i64) w A0_1 l0_1.length l0_1) (hc0_1 : l0_1.length ≤ c0_1) (h : laws_FnExactConjugateBraid.f k a0_0 l0_1 a1 = some r) :
    Calls Try.prog 11 #[.agg #[.int .i64 a0_0, .slice A0_1 l0_1.length c0_1], .int .i64 a1] w fun e w' => e = .returned (.bool r) ∧ Below w.heap.size w w' := by
  have hu30 := Try.underlying30
  have hu33 := Try.underlying33
  have HR0_1 := Aside0.mk hr0_1
  have HC0_1 := Aside0.mk hc0_1
  clear hr0_1 hc0_1
  have HB := Aside0.mk (Below.refl w.heap.size w)
  have H : ((laws_szBraid.f a0_0 l0_1 1048576).bind fun t763 => (if t763 < 0 then (some true) else ((laws_toBraid.f k a0_0 l0_1).bind fun bt764 => ((spec_ConjugateBraid.f k bt764.1 bt764.2 a1).bind fun bt768 => ((laws_toBraid.f k a0_0 l0_1).bind fun bt774 => ((impl_ConjugateBraid.f k bt774.1 bt774.2 a1).bind fun bt779 => ((laws_eqBraid.f k bt779.1 bt779.2.1 bt768.1 bt768.2.1).bind fun t785 => (if t785 = true then (laws_FnExactConjugateBraid.j0 k a1 bt768.2.2 bt779.2.2 (bt779.2.2 != bt768.2.2) a0_0 l0_1 bt768.1 bt768.2.1 bt774.1 bt774.2 bt779.1 bt779.2.1) else (laws_FnExactConjugateBraid.j0 k a1 bt768.2.2 bt779.2.2 true a0_0 l0_1 bt768.1 bt768.2.1 bt774.1 bt774.2 bt779.1 bt779.2.1))))))))) = some r := h
  clear h
  replace H := Option.bind_eq_some_iff.mp H
  obtain ⟨t763, A30, H⟩ := H
  replace H : (if t763 < 0 then (some true) else ((laws_toBraid.f k a0_0 l0_1).bind fun bt764 => ((spec_ConjugateBraid.f k bt764.1 bt764.2 a1).bind fun bt768 => ((laws_toBraid.f k a0_0 l0_1).bind fun bt774 => ((impl_ConjugateBraid.f k bt774.1 bt774.2 a1).bind fun bt779 => ((laws_eqBraid.f k bt779.1 bt779.2.1 bt768.1 bt768.2.1).bind fun t785 => (if t785 = true then (laws_FnExactConjugateBraid.j0 k a1 bt768.2.2 bt779.2.2 (bt779.2.2 != bt768.2.2) a0_0 l0_1 bt768.1 bt768.2.1 bt774.1 bt774.2 bt779.1 bt779.2.1) else (laws_FnExactConjugateBraid.j0 k a1 bt768.2.2 bt779.2.2 true a0_0 l0_1 bt768.1 bt768.2.1 bt774.1 bt774.2 bt779.1 bt779.2.1)))))))) = some r := H
  have A3 := Aside0.mk A30
  clear A30
  by_cases c4 : t763 < 0
  · rw [if_pos c4] at H
    have c4b0 : decide (t763 < 0) = true := decide_eq_true c4
    clear c4
    obtain rfl := Option.some.inj H
    go_enter Try.func11, Try.ntmps11
    go_wp2_with (first | ((with_reducible refine gate_dst (N := 2) rfl ?_); refine box_event ?hg (N := 2) ?hd (cs := #[.int .i64 a0_0, .slice A0_1 l0_1.length c0_1]) (t := 30) ?hr ?_; (case hd => rfl); (case hg => rfl); (case hr => first | (go_simp; done) | (go_simp; rfl)); intro gb762 hg w5 hbox hb; have n0_ := Aside0.mk (below_step (by repeat (first | (with_reducible first | exact HB.out | apply below_alloc | apply pw_below_drewN | apply below_drew1) | exact HB.out)) hb); have n1_ := Aside0.mk (hbox); have n2_ := Aside0.mk ((by rw [hg]; exact (below_size (by repeat (first | (with_reducible first | exact HB.out | apply below_alloc | apply pw_below_drewN | apply below_drew1) | exact HB.out))) : w.heap.size ≤ gb762)); have n3_ := Aside0.mk ((by rw [hg]; exact (below_size (by repeat (first | (with_reducible first | exact HB.out | apply below_alloc | apply pw_below_drewN | apply below_drew1) | exact HB.out))) : w.heap.size ≤ gb762)); clear HB; have HB := n0_; have BK762 := n1_; have GW762 := n2_; have GE762 := n3_; clear n0_ n1_ n2_ n3_; clear hb hbox hg; have hcz6_0 : w5.cell? ⟨gb762, 0, none⟩ = some (.int .i64 a0_0) := (blk_cell BK762.out 0).trans rfl; have hcz6_1 : w5.cell? ⟨gb762, 1, none⟩ = some (.slice A0_1 l0_1.length c0_1) := (blk_cell BK762.out 1).trans rfl; have hfz6_0 := blk_frozen BK762.out 0; have hfz6_1 := blk_frozen BK762.out 1) | ((with_reducible refine gate_callee (f := 20) rfl ?_); refine goesL_ (some 18) rfl rfl Try.func20 (by kernel_rfl) rfl #[.agg #[.int .i64 a0_0, .slice A0_1 l0_1.length c0_1], .int .i64 1048576] rfl (by (try simp only [List.map_toArray, List.map_cons, List.map_nil]); first | done | rfl | (simp only [List.length_drop, List.length_take]; rfl)) ?_; (with_reducible refine (laws_szBraid.calls a0_0 _ _ l0_1 1048576 t763 _ ?side1 ?side2 A3.out).mono ?_); (case side1 => repeat (first | exact (Kd.C_below HR0_1.out HB.out) | (with_reducible refine Kd.C_alloc ?_ _) | (with_reducible refine Kd.C_drewN ?_ _) | (with_reducible refine Kd.C_drew ?_))); (case side2 => exact HC0_1.out); rintro e w7 ⟨rfl, hb⟩; refine ⟨_, rfl, ?_⟩; have n0_ := Aside0.mk (blk_below (g := gb762) (o := .cells #[.int .i64 a0_0, .slice A0_1 l0_1.length c0_1] 30 (0, 0)) (by (with_reducible repeat (first | refine blk_drewN ?_ _ | refine blk_drew ?_ | refine blk_alloc ?_ _)); exact BK762.out) hb); have n1_ := Aside0.mk (below_step (by repeat (first | (with_reducible first | exact HB.out | apply below_alloc | apply pw_below_drewN | apply below_drew1 | refine below_set ?_ GE762.out) | exact HB.out)) hb); clear BK762; clear HB; have BK762 := n0_; have HB := n1_; clear n0_ n1_; (try clear hb); (try clear hb2); (try clear hk); (try clear hi)))
    go_ret
    exact ⟨by first | rfl | (simp [errW_none, errW_some] <;> rfl) | (simp [*, errW_none, errW_some] <;> rfl), by repeat (first | (with_reducible first | exact HB.out | apply below_alloc | apply pw_below_drewN | apply below_drew1 | refine below_set ?_ GE762.out) | exact HB.out)⟩
  · rw [if_neg c4] at H
    have c4b0 : decide (t763 < 0) = false := decide_eq_false c4
    clear c4
    replace H := Option.bind_eq_some_iff.mp H
    obtain ⟨⟨t764, t765⟩, A80, H⟩ := H
    replace H : ((spec_ConjugateBraid.f k t764 t765 a1).bind fun bt768 => ((laws_toBraid.f k a0_0 l0_1).bind fun bt774 => ((impl_ConjugateBraid.f k bt774.1 bt774.2 a1).bind fun bt779 => ((laws_eqBraid.f k bt779.1 bt779.2.1 bt768.1 bt768.2.1).bind fun t785 => (if t785 = true then (laws_FnExactConjugateBraid.j0 k a1 bt768.2.2 bt779.2.2 (bt779.2.2 != bt768.2.2) a0_0 l0_1 bt768.1 bt768.2.1 bt774.1 bt774.2 bt779.1 bt779.2.1) else (laws_FnExactConjugateBraid.j0 k a1 bt768.2.2 bt779.2.2 true a0_0 l0_1 bt768.1 bt768.2.1 bt774.1 bt774.2 bt779.1 bt779.2.1)))))) = some r := H
    have A8 := Aside0.mk A80
    clear A80
    replace H := Option.bind_eq_some_iff.mp H
    obtain ⟨⟨t768, t769, t772⟩, A90, H⟩ := H
    replace H : ((laws_toBraid.f k a0_0 l0_1).bind fun bt774 => ((impl_ConjugateBraid.f k bt774.1 bt774.2 a1).bind fun bt779 => ((laws_eqBraid.f k bt779.1 bt779.2.1 t768 t769).bind fun t785 => (if t785 = true then (laws_FnExactConjugateBraid.j0 k a1 t772 bt779.2.2 (bt779.2.2 != t772) a0_0 l0_1 t768 t769 bt774.1 bt774.2 bt779.1 bt779.2.1) else (laws_FnExactConjugateBraid.j0 k a1 t772 bt779.2.2 true a0_0 l0_1 t768 t769 bt774.1 bt774.2 bt779.1 bt779.2.1))))) = some r := H
    have A9 := Aside0.mk A90
    clear A90
    replace H := Option.bind_eq_some_iff.mp H
    obtain ⟨⟨t774, t775⟩, A100, H⟩ := H
    replace H : ((impl_ConjugateBraid.f k t774 t775 a1).bind fun bt779 => ((laws_eqBraid.f k bt779.1 bt779.2.1 t768 t769).bind fun t785 => (if t785 = true then (laws_FnExactConjugateBraid.j0 k a1 t772 bt779.2.2 (bt779.2.2 != t772) a0_0 l0_1 t768 t769 t774 t775 bt779.1 bt779.2.1) else (laws_FnExactConjugateBraid.j0 k a1 t772 bt779.2.2 true a0_0 l0_1 t768 t769 t774 t775 bt779.1 bt779.2.1)))) = some r := H
    have A10 := Aside0.mk A100
    clear A100
    replace H := Option.bind_eq_some_iff.mp H
    obtain ⟨⟨t779, t780, t783⟩, A110, H⟩ := H
    replace H : ((laws_eqBraid.f k t779 t780 t768 t769).bind fun t785 => (if t785 = true then (laws_FnExactConjugateBraid.j0 k a1 t772 t783 (t783 != t772) a0_0 l0_1 t768 t769 t774 t775 t779 t780) else (laws_FnExactConjugateBraid.j0 k a1 t772 t783 true a0_0 l0_1 t768 t769 t774 t775 t779 t780))) = some r := H
    have A11 := Aside0.mk A110
    clear A110
    have HC12 := Aside0.mk H
    clear H
    go_enter Try.func11, Try.ntmps11
    go_upto_region 8 with (first | ((with_reducible refine gate_dst (N := 2) rfl ?_); refine box_event ?hg (N := 2) ?hd (cs := #[.int .i64 a0_0, .slice A0_1 l0_1.length c0_1]) (t := 30) ?hr ?_; (case hd => rfl); (case hg => rfl); (case hr => first | (go_simp; done) | (go_simp; rfl)); intro gb762 hg w13 hbox hb; have n0_ := Aside0.mk (below_step (by repeat (first | (with_reducible first | exact HB.out | apply below_alloc | apply pw_below_drewN | apply below_drew1) | exact HB.out)) hb); have n1_ := Aside0.mk (hbox); have n2_ := Aside0.mk ((by rw [hg]; exact (below_size (by repeat (first | (with_reducible first | exact HB.out | apply below_alloc | apply pw_below_drewN | apply below_drew1) | exact HB.out))) : w.heap.size ≤ gb762)); have n3_ := Aside0.mk ((by rw [hg]; exact (below_size (by repeat (first | (with_reducible first | exact HB.out | apply below_alloc | apply pw_below_drewN | apply below_drew1) | exact HB.out))) : w.heap.size ≤ gb762)); clear HB; have HB := n0_; have BK762 := n1_; have GW762 := n2_; have GE762 := n3_; clear n0_ n1_ n2_ n3_; clear hb hbox hg; have hcz14_0 : w13.cell? ⟨gb762, 0, none⟩ = some (.int .i64 a0_0) := (blk_cell BK762.out 0).trans rfl; have hcz14_1 : w13.cell? ⟨gb762, 1, none⟩ = some (.slice A0_1 l0_1.length c0_1) := (blk_cell BK762.out 1).trans rfl; have hfz14_0 := blk_frozen BK762.out 0; have hfz14_1 := blk_frozen BK762.out 1) | ((with_reducible refine gate_callee (f := 20) rfl ?_); refine goesL_ (some 18) rfl rfl Try.func20 (by kernel_rfl) rfl #[.agg #[.int .i64 a0_0, .slice A0_1 l0_1.length c0_1], .int .i64 1048576] rfl (by (try simp only [List.map_toArray, List.map_cons, List.map_nil]); first | done | rfl | (simp only [List.length_drop, List.length_take]; rfl)) ?_; (with_reducible refine (laws_szBraid.calls a0_0 _ _ l0_1 1048576 t763 _ ?side1 ?side2 A3.out).mono ?_); (case side1 => repeat (first | exact (Kd.C_below HR0_1.out HB.out) | (with_reducible refine Kd.C_alloc ?_ _) | (with_reducible refine Kd.C_drewN ?_ _) | (with_reducible refine Kd.C_drew ?_))); (case side2 => exact HC0_1.out); rintro e w15 ⟨rfl, hb⟩; refine ⟨_, rfl, ?_⟩; have n0_ := Aside0.mk (blk_below (g := gb762) (o := .cells #[.int .i64 a0_0, .slice A0_1 l0_1.length c0_1] 30 (0, 0)) (by (with_reducible repeat (first | refine blk_drewN ?_ _ | refine blk_drew ?_ | refine blk_alloc ?_ _)); exact BK762.out) hb); have n1_ := Aside0.mk (below_step (by repeat (first | (with_reducible first | exact HB.out | apply below_alloc | apply pw_below_drewN | apply below_drew1 | refine below_set ?_ GE762.out) | exact HB.out)) hb); clear BK762; clear HB; have BK762 := n0_; have HB := n1_; clear n0_ n1_; (try clear hb); (try clear hb2); (try clear hk); (try clear hi); have hcz16_0 : w15.cell? ⟨gb762, 0, none⟩ = some (.int .i64 a0_0) := (blk_cell BK762.out 0).trans rfl; have hcz16_1 : w15.cell? ⟨gb762, 1, none⟩ = some (.slice A0_1 l0_1.length c0_1) := (blk_cell BK762.out 1).trans rfl; have hfz16_0 := blk_frozen BK762.out 0; have hfz16_1 := blk_frozen BK762.out 1) | (go_at_call 20; (with_reducible refine (laws_szBraid.calls a0_0 _ _ l0_1 1048576 t763 _ ?side1 ?side2 A3.out).mono ?_); (case side1 => repeat (first | exact (Kd.C_below HR0_1.out HB.out) | (with_reducible refine Kd.C_alloc ?_ _) | (with_reducible refine Kd.C_drewN ?_ _) | (with_reducible refine Kd.C_drew ?_))); (case side2 => exact HC0_1.out); rintro e w15 ⟨rfl, hb⟩; have n0_ := Aside0.mk (blk_below (g := gb762) (o := .cells #[.int .i64 a0_0, .slice A0_1 l0_1.length c0_1] 30 (0, 0)) (by (with_reducible repeat (first | refine blk_drewN ?_ _ | refine blk_drew ?_ | refine blk_alloc ?_ _)); exact BK762.out) hb); have n1_ := Aside0.mk (below_step (by repeat (first | (with_reducible first | exact HB.out | apply below_alloc | apply pw_below_drewN | apply below_drew1 | refine below_set ?_ GE762.out) | exact HB.out)) hb); clear BK762; clear HB; have BK762 := n0_; have HB := n1_; clear n0_ n1_; (try clear hb); (try clear hb2); (try clear hk); (try clear hi); have hcz16_0 : w15.cell? ⟨gb762, 0, none⟩ = some (.int .i64 a0_0) := (blk_cell BK762.out 0).trans rfl; have hcz16_1 : w15.cell? ⟨gb762, 1, none⟩ = some (.slice A0_1 l0_1.length c0_1) := (blk_cell BK762.out 1).trans rfl; have hfz16_0 := blk_frozen BK762.out 0; have hfz16_1 := blk_frozen BK762.out 1) | ((with_reducible refine gate_callee (f := 22) rfl ?_); refine goesL_ (some 23) rfl rfl Try.func22 (by kernel_rfl) rfl #[.agg #[.int .i64 a0_0, .slice A0_1 l0_1.length c0_1]] rfl (by (try simp only [List.map_toArray, List.map_cons, List.map_nil]); first | done | rfl | (simp only [List.length_drop, List.length_take]; rfl)) ?_; (with_reducible refine (laws_toBraid.calls k a0_0 _ _ l0_1 t764 t765 _ ?side1 ?side2 A8.out).mono ?_); (case side1 => repeat (first | exact (Kd.C_below HR0_1.out HB.out) | (with_reducible refine Kd.C_alloc ?_ _) | (with_reducible refine Kd.C_drewN ?_ _) | (with_reducible refine Kd.C_drew ?_))); (case side2 => exact HC0_1.out); rintro e w17 ⟨v766, rfl, ho0, hb⟩; refine ⟨_, rfl, ?_⟩; have n0_ := Aside0.mk (Kd.R_lower ho0 (below_size (by repeat (first | (with_reducible first | exact HB.out | apply below_alloc | apply pw_below_drewN | apply below_drew1 | refine below_set ?_ GE762.out) | exact HB.out)))); have n1_ := Aside0.mk (blk_below (g := gb762) (o := .cells #[.int .i64 a0_0, .slice A0_1 l0_1.length c0_1] 30 (0, 0)) (by (with_reducible repeat (first | refine blk_drewN ?_ _ | refine blk_drew ?_ | refine blk_alloc ?_ _)); exact BK762.out) hb); have n2_ := Aside0.mk (below_step (by repeat (first | (with_reducible first | exact HB.out | apply below_alloc | apply pw_below_drewN | apply below_drew1 | refine below_set ?_ GE762.out) | exact HB.out)) hb); clear BK762; clear HB; have HO767 := n0_; have BK762 := n1_; have HB := n2_; clear n0_ n1_ n2_; (try clear hb); (try clear hb2); (try clear hk); (try clear hi); (try clear ho0); obtain ⟨Ao18, co18, eo18⟩ := Kd.R_slice HO767.out; subst eo18) | (go_at_call 22; (with_reducible refine (laws_toBraid.calls k a0_0 _ _ l0_1 t764 t765 _ ?side1 ?side2 A8.out).mono ?_); (case side1 => repeat (first | exact (Kd.C_below HR0_1.out HB.out) | (with_reducible refine Kd.C_alloc ?_ _) | (with_reducible refine Kd.C_drewN ?_ _) | (with_reducible refine Kd.C_drew ?_))); (case side2 => exact HC0_1.out); rintro e w17 ⟨v766, rfl, ho0, hb⟩; have n0_ := Aside0.mk (Kd.R_lower ho0 (below_size (by repeat (first | (with_reducible first | exact HB.out | apply below_alloc | apply pw_below_drewN | apply below_drew1 | refine below_set ?_ GE762.out) | exact HB.out)))); have n1_ := Aside0.mk (blk_below (g := gb762) (o := .cells #[.int .i64 a0_0, .slice A0_1 l0_1.length c0_1] 30 (0, 0)) (by (with_reducible repeat (first | refine blk_drewN ?_ _ | refine blk_drew ?_ | refine blk_alloc ?_ _)); exact BK762.out) hb); have n2_ := Aside0.mk (below_step (by repeat (first | (with_reducible first | exact HB.out | apply below_alloc | apply pw_below_drewN | apply below_drew1 | refine below_set ?_ GE762.out) | exact HB.out)) hb); clear BK762; clear HB; have HO767 := n0_; have BK762 := n1_; have HB := n2_; clear n0_ n1_ n2_; (try clear hb); (try clear hb2); (try clear hk); (try clear hi); (try clear ho0); obtain ⟨Ao18, co18, eo18⟩ := Kd.R_slice HO767.out; subst eo18) | ((with_reducible refine gate_callee (f := 39) rfl ?_); refine goesL_ (some 25) rfl rfl Try.func39 (by kernel_rfl) rfl #[.agg #[.int .i64 t764, .slice Ao18 t765.length co18], .int .i64 a1] rfl (by (try simp only [List.map_toArray, List.map_cons, List.map_nil]); first | done | rfl | (simp only [List.length_drop, List.length_take]; rfl)) ?_; (with_reducible refine (spec_ConjugateBraid.calls k t764 _ _ t765 a1 t768 t769 t772 _ ?side1 ?side2 A9.out).mono ?_); (case side1 => repeat (first | exact (Kd.R_reads' HO767.out).2.2 | (with_reducible refine Kd.C_alloc ?_ _) | (with_reducible refine Kd.C_drewN ?_ _) | (with_reducible refine Kd.C_drew ?_))); (case side2 => exact (Kd.R_reads' HO767.out).2.1); rintro e w19 ⟨v770, rfl, ho0, hb⟩; refine ⟨_, rfl, ?_⟩; have n0_ := Aside0.mk (Kd.R_elder' (by (with_reducible repeat (first | apply Kd.R_alloc | apply Kd.R_drewN | apply Kd.R_drew)); exact HO767.out) (Kd.R_base ho0) hb); have n1_ := Aside0.mk (Kd.R_lower (Kd.R_new' ho0 (Kd.R_lt (by (with_reducible repeat (first | apply Kd.R_alloc | apply Kd.R_drewN | apply Kd.R_drew)); exact HO767.out))) (below_size (by repeat (first | (with_reducible first | exact HB.out | apply below_alloc | apply pw_below_drewN | apply below_drew1 | refine below_set ?_ GE762.out) | exact HB.out)))); have n2_ := Aside0.mk (blk_below (g := gb762) (o := .cells #[.int .i64 a0_0, .slice A0_1 l0_1.length c0_1] 30 (0, 0)) (by (with_reducible repeat (first | refine blk_drewN ?_ _ | refine blk_drew ?_ | refine blk_alloc ?_ _)); exact BK762.out) hb); have n3_ := Aside0.mk (below_step (by repeat (first | (with_reducible first | exact HB.out | apply below_alloc | apply pw_below_drewN | apply below_drew1 | refine below_set ?_ GE762.out) | exact HB.out)) hb); clear HO767; clear BK762; clear HB; have HO767 := n0_; have HO771 := n1_; have BK762 := n2_; have HB := n3_; clear n0_ n1_ n2_ n3_; (try clear hb); (try clear hb2); (try clear hk); (try clear hi); (try clear ho0)) | (go_at_call 39; (with_reducible refine (spec_ConjugateBraid.calls k t764 _ _ t765 a1 t768 t769 t772 _ ?side1 ?side2 A9.out).mono ?_); (case side1 => repeat (first | exact (Kd.R_reads' HO767.out).2.2 | (with_reducible refine Kd.C_alloc ?_ _) | (with_reducible refine Kd.C_drewN ?_ _) | (with_reducible refine Kd.C_drew ?_))); (case side2 => exact (Kd.R_reads' HO767.out).2.1); rintro e w19 ⟨v770, rfl, ho0, hb⟩; have n0_ := Aside0.mk (Kd.R_elder' (by (with_reducible repeat (first | apply Kd.R_alloc | apply Kd.R_drewN | apply Kd.R_drew)); exact HO767.out) (Kd.R_base ho0) hb); have n1_ := Aside0.mk (Kd.R_lower (Kd.R_new' ho0 (Kd.R_lt (by (with_reducible repeat (first | apply Kd.R_alloc | apply Kd.R_drewN | apply Kd.R_drew)); exact HO767.out))) (below_size (by repeat (first | (with_reducible first | exact HB.out | apply below_alloc | apply pw_below_drewN | apply below_drew1 | refine below_set ?_ GE762.out) | exact HB.out)))); have n2_ := Aside0.mk (blk_below (g := gb762) (o := .cells #[.int .i64 a0_0, .slice A0_1 l0_1.length c0_1] 30 (0, 0)) (by (with_reducible repeat (first | refine blk_drewN ?_ _ | refine blk_drew ?_ | refine blk_alloc ?_ _)); exact BK762.out) hb); have n3_ := Aside0.mk (below_step (by repeat (first | (with_reducible first | exact HB.out | apply below_alloc | apply pw_below_drewN | apply below_drew1 | refine below_set ?_ GE762.out) | exact HB.out)) hb); clear HO767; clear BK762; clear HB; have HO767 := n0_; have HO771 := n1_; have BK762 := n2_; have HB := n3_; clear n0_ n1_ n2_ n3_; (try clear hb); (try clear hb2); (try clear hk); (try clear hi); (try clear ho0)) | ((with_reducible refine gate_dst (N := 6) rfl ?_); refine box_event ?hg (N := 6) ?hd (cs := #[.int .i64 0, .slice none 0 0]) (t := 33) ?hr ?_; (case hd => rfl); (case hg => rfl); (case hr => first | (go_simp; done) | (go_simp; rfl)); intro gb773 hg w20 hbox hb; have n0_ := Aside0.mk (Kd.R_below (by (with_reducible repeat (first | apply Kd.R_alloc | apply Kd.R_drewN | apply Kd.R_drew)); exact HO767.out) hb); have n1_ := Aside0.mk (Kd.R_below (by (with_reducible repeat (first | apply Kd.R_alloc | apply Kd.R_drewN | apply Kd.R_drew)); exact HO771.out) hb); have n2_ := Aside0.mk (blk_below (g := gb762) (o := .cells #[.int .i64 a0_0, .slice A0_1 l0_1.length c0_1] 30 (0, 0)) (by (with_reducible repeat (first | refine blk_drewN ?_ _ | refine blk_drew ?_ | refine blk_alloc ?_ _)); exact BK762.out) hb); have n3_ := Aside0.mk (below_step (by repeat (first | (with_reducible first | exact HB.out | apply below_alloc | apply pw_below_drewN | apply below_drew1 | refine below_set ?_ GE762.out) | exact HB.out)) hb); have n4_ := Aside0.mk (hbox); have n5_ := Aside0.mk ((by rw [hg]; exact (below_size (by repeat (first | (with_reducible first | exact HB.out | apply below_alloc | apply pw_below_drewN | apply below_drew1 | refine below_set ?_ GE762.out) | exact HB.out))) : w.heap.size ≤ gb773)); have n6_ := Aside0.mk ((by rw [hg]; exact (below_size (by repeat (first | (with_reducible first | exact HB.out | apply below_alloc | apply pw_below_drewN | apply below_drew1 | refine below_set ?_ GE762.out) | exact HB.out))) : w.heap.size ≤ gb773)); have n7_ := Aside0.mk ((by rw [hg]; exact Nat.ne_of_lt (blk_lt (g := gb762) (o := .cells #[.int .i64 a0_0, .slice A0_1 l0_1.length c0_1] 30 (0, 0)) (by (with_reducible repeat (first | refine blk_drewN ?_ _ | refine blk_drew ?_ | refine blk_alloc ?_ _)); exact BK762.out)) : gb762 ≠ gb773)); have n8_ := Aside0.mk ((by rw [hg]; exact Nat.ne_of_gt (blk_lt (g := gb762) (o := .cells #[.int .i64 a0_0, .slice A0_1 l0_1.length c0_1] 30 (0, 0)) (by (with_reducible repeat (first | refine blk_drewN ?_ _ | refine blk_drew ?_ | refine blk_alloc ?_ _)); exact BK762.out)) : gb773 ≠ gb762)); clear HO767; clear HO771; clear BK762; clear HB; have HO767 := n0_; have HO771 := n1_; have BK762 := n2_; have HB := n3_; have BK773 := n4_; have GW773 := n5_; have GE773 := n6_; have NB762_773 := n7_; have NB773_762 := n8_; clear n0_ n1_ n2_ n3_ n4_ n5_ n6_ n7_ n8_; clear hb hbox hg; have hnb21 := NB773_762.out; have hnc21 := NB762_773.out; have hcz22_0 : w20.cell? ⟨gb773, 0, none⟩ = some (.int .i64 0) := (blk_cell BK773.out 0).trans rfl; have hcz22_1 : w20.cell? ⟨gb773, 1, none⟩ = some (.slice none 0 0) := (blk_cell BK773.out 1).trans rfl; have hfz22_0 := blk_frozen BK773.out 0; have hfz22_1 := blk_frozen BK773.out 1; obtain ⟨Ao23, co23, eo23⟩ := Kd.R_slice HO771.out; subst eo23; have hcz24_0 : w20.cell? ⟨gb762, 0, none⟩ = some (.int .i64 a0_0) := (blk_cell BK762.out 0).trans rfl; have hcz24_1 : w20.cell? ⟨gb762, 1, none⟩ = some (.slice A0_1 l0_1.length c0_1) := (blk_cell BK762.out 1).trans rfl; have hfz24_0 := blk_frozen BK762.out 0; have hfz24_1 := blk_frozen BK762.out 1) | ((with_reducible refine gate_callee (f := 22) rfl ?_); refine goesL_ (some 29) rfl rfl Try.func22 (by kernel_rfl) rfl #[.agg #[.int .i64 a0_0, .slice A0_1 l0_1.length c0_1]] rfl (by (try simp only [List.map_toArray, List.map_cons, List.map_nil]); first | done | rfl | (simp only [List.length_drop, List.length_take]; rfl)) ?_; (with_reducible refine (laws_toBraid.calls k a0_0 _ _ l0_1 t774 t775 _ ?side1 ?side2 A10.out).mono ?_); (case side1 => exact Kd.C_below HR0_1.out (by repeat (first | (with_reducible first | exact HB.out | apply below_alloc | apply pw_below_drewN | apply below_drew1 | refine below_set ?_ GE762.out | refine below_set ?_ GE773.out) | exact HB.out))); (case side2 => exact HC0_1.out); rintro e w25 ⟨v776, rfl, ho0, hb⟩; refine ⟨_, rfl, ?_⟩; have n0_ := Aside0.mk (Kd.R_elder' (by (with_reducible repeat (first | apply Kd.R_alloc | apply Kd.R_drewN | apply Kd.R_drew)); exact (Kd.R_mono (Kd.R_far (p := ⟨gb773, 1, none⟩) (Kd.R_far (p := ⟨gb773, 0, none⟩) (Kd.R_types HO767.out BK773.out (by decide)) (fun _ hk => hk.2) (.int .i64 t768)) (fun _ hk => hk.2) (.slice Ao23 t769.length co23)) (fun _ h_ => h_.1))) (Kd.R_base ho0) hb); have n1_ := Aside0.mk (Kd.R_elder' (by (with_reducible repeat (first | apply Kd.R_alloc | apply Kd.R_drewN | apply Kd.R_drew)); exact (Kd.R_mono (Kd.R_far (p := ⟨gb773, 1, none⟩) (Kd.R_far (p := ⟨gb773, 0, none⟩) (Kd.R_types HO771.out BK773.out (by decide)) (fun _ hk => hk.2) (.int .i64 t768)) (fun _ hk => hk.2) (.slice Ao23 t769.length co23)) (fun _ h_ => h_.1))) (Kd.R_base ho0) hb); have n2_ := Aside0.mk (Kd.R_lower (Kd.R_new' (Kd.R_new' ho0 (Kd.R_lt (by (with_reducible repeat (first | apply Kd.R_alloc | apply Kd.R_drewN | apply Kd.R_drew)); exact (Kd.R_mono (Kd.R_far (p := ⟨gb773, 1, none⟩) (Kd.R_far (p := ⟨gb773, 0, none⟩) (Kd.R_types HO767.out BK773.out (by decide)) (fun _ hk => hk.2) (.int .i64 t768)) (fun _ hk => hk.2) (.slice Ao23 t769.length co23)) (fun _ h_ => h_.1))))) (Kd.R_lt (by (with_reducible repeat (first | apply Kd.R_alloc | apply Kd.R_drewN | apply Kd.R_drew)); exact (Kd.R_mono (Kd.R_far (p := ⟨gb773, 1, none⟩) (Kd.R_far (p := ⟨gb773, 0, none⟩) (Kd.R_types HO771.out BK773.out (by decide)) (fun _ hk => hk.2) (.int .i64 t768)) (fun _ hk => hk.2) (.slice Ao23 t769.length co23)) (fun _ h_ => h_.1))))) (below_size (by repeat (first | (with_reducible first | exact HB.out | apply below_alloc | apply pw_below_drewN | apply below_drew1 | refine below_set ?_ GE762.out | refine below_set ?_ GE773.out) | exact HB.out)))); have n3_ := Aside0.mk (blk_below (g := gb762) (o := .cells #[.int .i64 a0_0, .slice A0_1 l0_1.length c0_1] 30 (0, 0)) (by (with_reducible repeat (first | refine blk_drewN ?_ _ | refine blk_drew ?_ | refine blk_alloc ?_ _)); refine blk_far ?_ NB762_773.out _; (with_reducible repeat (first | refine blk_drewN ?_ _ | refine blk_drew ?_ | refine blk_alloc ?_ _)); refine blk_far ?_ NB762_773.out _; (with_reducible repeat (first | refine blk_drewN ?_ _ | refine blk_drew ?_ | refine blk_alloc ?_ _)); exact BK762.out) hb); have n4_ := Aside0.mk (blk_below (g := gb773) (o := .cells #[.int .i64 t768, .slice Ao23 t769.length co23] 33 (0, 0)) (by (with_reducible repeat (first | refine blk_drewN ?_ _ | refine blk_drew ?_ | refine blk_alloc ?_ _)); refine blk_put (cs := #[.int .i64 t768, .slice none 0 0]) ?_ 1 _ rfl; (with_reducible repeat (first | refine blk_drewN ?_ _ | refine blk_drew ?_ | refine blk_alloc ?_ _)); refine blk_put (cs := #[.int .i64 0, .slice none 0 0]) ?_ 0 _ rfl; (with_reducible repeat (first | refine blk_drewN ?_ _ | refine blk_drew ?_ | refine blk_alloc ?_ _)); exact BK773.out) hb); have n5_ := Aside0.mk (below_step (by repeat (first | (with_reducible first | exact HB.out | apply below_alloc | apply pw_below_drewN | apply below_drew1 | refine below_set ?_ GE762.out | refine below_set ?_ GE773.out) | exact HB.out)) hb); clear HO767; clear HO771; clear BK762; clear BK773; clear HB; have HO767 := n0_; have HO771 := n1_; have HO777 := n2_; have BK762 := n3_; have BK773 := n4_; have HB := n5_; clear n0_ n1_ n2_ n3_ n4_ n5_; (try clear hb); (try clear hb2); (try clear hk); (try clear hi); (try clear ho0)) | (go_at_call 22; (with_reducible refine (laws_toBraid.calls k a0_0 _ _ l0_1 t774 t775 _ ?side1 ?side2 A10.out).mono ?_); (case side1 => exact Kd.C_below HR0_1.out (by repeat (first | (with_reducible first | exact HB.out | apply below_alloc | apply pw_below_drewN | apply below_drew1 | refine below_set ?_ GE762.out | refine below_set ?_ GE773.out) | exact HB.out))); (case side2 => exact HC0_1.out); rintro e w25 ⟨v776, rfl, ho0, hb⟩; have n0_ := Aside0.mk (Kd.R_elder' (by (with_reducible repeat (first | apply Kd.R_alloc | apply Kd.R_drewN | apply Kd.R_drew)); exact (Kd.R_mono (Kd.R_far (p := ⟨gb773, 1, none⟩) (Kd.R_far (p := ⟨gb773, 0, none⟩) (Kd.R_types HO767.out BK773.out (by decide)) (fun _ hk => hk.2) (.int .i64 t768)) (fun _ hk => hk.2) (.slice Ao23 t769.length co23)) (fun _ h_ => h_.1))) (Kd.R_base ho0) hb); have n1_ := Aside0.mk (Kd.R_elder' (by (with_reducible repeat (first | apply Kd.R_alloc | apply Kd.R_drewN | apply Kd.R_drew)); exact (Kd.R_mono (Kd.R_far (p := ⟨gb773, 1, none⟩) (Kd.R_far (p := ⟨gb773, 0, none⟩) (Kd.R_types HO771.out BK773.out (by decide)) (fun _ hk => hk.2) (.int .i64 t768)) (fun _ hk => hk.2) (.slice Ao23 t769.length co23)) (fun _ h_ => h_.1))) (Kd.R_base ho0) hb); have n2_ := Aside0.mk (Kd.R_lower (Kd.R_new' (Kd.R_new' ho0 (Kd.R_lt (by (with_reducible repeat (first | apply Kd.R_alloc | apply Kd.R_drewN | apply Kd.R_drew)); exact (Kd.R_mono (Kd.R_far (p := ⟨gb773, 1, none⟩) (Kd.R_far (p := ⟨gb773, 0, none⟩) (Kd.R_types HO767.out BK773.out (by decide)) (fun _ hk => hk.2) (.int .i64 t768)) (fun _ hk => hk.2) (.slice Ao23 t769.length co23)) (fun _ h_ => h_.1))))) (Kd.R_lt (by (with_reducible repeat (first | apply Kd.R_alloc | apply Kd.R_drewN | apply Kd.R_drew)); exact (Kd.R_mono (Kd.R_far (p := ⟨gb773, 1, none⟩) (Kd.R_far (p := ⟨gb773, 0, none⟩) (Kd.R_types HO771.out BK773.out (by decide)) (fun _ hk => hk.2) (.int .i64 t768)) (fun _ hk => hk.2) (.slice Ao23 t769.length co23)) (fun _ h_ => h_.1))))) (below_size (by repeat (first | (with_reducible first | exact HB.out | apply below_alloc | apply pw_below_drewN | apply below_drew1 | refine below_set ?_ GE762.out | refine below_set ?_ GE773.out) | exact HB.out)))); have n3_ := Aside0.mk (blk_below (g := gb762) (o := .cells #[.int .i64 a0_0, .slice A0_1 l0_1.length c0_1] 30 (0, 0)) (by (with_reducible repeat (first | refine blk_drewN ?_ _ | refine blk_drew ?_ | refine blk_alloc ?_ _)); refine blk_far ?_ NB762_773.out _; (with_reducible repeat (first | refine blk_drewN ?_ _ | refine blk_drew ?_ | refine blk_alloc ?_ _)); refine blk_far ?_ NB762_773.out _; (with_reducible repeat (first | refine blk_drewN ?_ _ | refine blk_drew ?_ | refine blk_alloc ?_ _)); exact BK762.out) hb); have n4_ := Aside0.mk (blk_below (g := gb773) (o := .cells #[.int .i64 t768, .slice Ao23 t769.length co23] 33 (0, 0)) (by (with_reducible repeat (first | refine blk_drewN ?_ _ | refine blk_drew ?_ | refine blk_alloc ?_ _)); refine blk_put (cs := #[.int .i64 t768, .slice none 0 0]) ?_ 1 _ rfl; (with_reducible repeat (first | refine blk_drewN ?_ _ | refine blk_drew ?_ | refine blk_alloc ?_ _)); refine blk_put (cs := #[.int .i64 0, .slice none 0 0]) ?_ 0 _ rfl; (with_reducible repeat (first | refine blk_drewN ?_ _ | refine blk_drew ?_ | refine blk_alloc ?_ _)); exact BK773.out) hb); have n5_ := Aside0.mk (below_step (by repeat (first | (with_reducible first | exact HB.out | apply below_alloc | apply pw_below_drewN | apply below_drew1 | refine below_set ?_ GE762.out | refine below_set ?_ GE773.out) | exact HB.out)) hb); clear HO767; clear HO771; clear BK762; clear BK773; clear HB; have HO767 := n0_; have HO771 := n1_; have HO777 := n2_; have BK762 := n3_; have BK773 := n4_; have HB := n5_; clear n0_ n1_ n2_ n3_ n4_ n5_; (try clear hb); (try clear hb2); (try clear hk); (try clear hi); (try clear ho0)) | ((with_reducible refine gate_dst (N := 8) rfl ?_); refine box_event ?hg (N := 8) ?hd (cs := #[.int .i64 0, .slice none 0 0]) (t := 33) ?hr ?_; (case hd => rfl); (case hg => rfl); (case hr => first | (go_simp; done) | (go_simp; rfl)); intro gb778 hg w26 hbox hb; have n0_ := Aside0.mk (Kd.R_below (by (with_reducible repeat (first | apply Kd.R_alloc | apply Kd.R_drewN | apply Kd.R_drew)); exact HO767.out) hb); have n1_ := Aside0.mk (Kd.R_below (by (with_reducible repeat (first | apply Kd.R_alloc | apply Kd.R_drewN | apply Kd.R_drew)); exact HO771.out) hb); have n2_ := Aside0.mk (Kd.R_below (by (with_reducible repeat (first | apply Kd.R_alloc | apply Kd.R_drewN | apply Kd.R_drew)); exact HO777.out) hb); have n3_ := Aside0.mk (blk_below (g := gb762) (o := .cells #[.int .i64 a0_0, .slice A0_1 l0_1.length c0_1] 30 (0, 0)) (by (with_reducible repeat (first | refine blk_drewN ?_ _ | refine blk_drew ?_ | refine blk_alloc ?_ _)); exact BK762.out) hb); have n4_ := Aside0.mk (blk_below (g := gb773) (o := .cells #[.int .i64 t768, .slice Ao23 t769.length co23] 33 (0, 0)) (by (with_reducible repeat (first | refine blk_drewN ?_ _ | refine blk_drew ?_ | refine blk_alloc ?_ _)); exact BK773.out) hb); have n5_ := Aside0.mk (below_step (by repeat (first | (with_reducible first | exact HB.out | apply below_alloc | apply pw_below_drewN | apply below_drew1 | refine below_set ?_ GE762.out | refine below_set ?_ GE773.out) | exact HB.out)) hb); have n6_ := Aside0.mk (hbox); have n7_ := Aside0.mk ((by rw [hg]; exact (below_size (by repeat (first | (with_reducible first | exact HB.out | apply below_alloc | apply pw_below_drewN | apply below_drew1 | refine below_set ?_ GE762.out | refine below_set ?_ GE773.out) | exact HB.out))) : w.heap.size ≤ gb778)); have n8_ := Aside0.mk ((by rw [hg]; exact (below_size (by repeat (first | (with_reducible first | exact HB.out | apply below_alloc | apply pw_below_drewN | apply below_drew1 | refine below_set ?_ GE762.out | refine below_set ?_ GE773.out) | exact HB.out))) : w.heap.size ≤ gb778)); have n9_ := Aside0.mk ((by rw [hg]; exact Nat.ne_of_lt (blk_lt (g := gb762) (o := .cells #[.int .i64 a0_0, .slice A0_1 l0_1.length c0_1] 30 (0, 0)) (by (with_reducible repeat (first | refine blk_drewN ?_ _ | refine blk_drew ?_ | refine blk_alloc ?_ _)); exact BK762.out)) : gb762 ≠ gb778)); have n10_ := Aside0.mk ((by rw [hg]; exact Nat.ne_of_gt (blk_lt (g := gb762) (o := .cells #[.int .i64 a0_0, .slice A0_1 l0_1.length c0_1] 30 (0, 0)) (by (with_reducible repeat (first | refine blk_drewN ?_ _ | refine blk_drew ?_ | refine blk_alloc ?_ _)); exact BK762.out)) : gb778 ≠ gb762)); have n11_ := Aside0.mk ((by rw [hg]; exact Nat.ne_of_lt (blk_lt (g := gb773) (o := .cells #[.int .i64 t768, .slice Ao23 t769.length co23] 33 (0, 0)) (by (with_reducible repeat (first | refine blk_drewN ?_ _ | refine blk_drew ?_ | refine blk_alloc ?_ _)); exact BK773.out)) : gb773 ≠ gb778)); have n12_ := Aside0.mk ((by rw [hg]; exact Nat.ne_of_gt (blk_lt (g := gb773) (o := .cells #[.int .i64 t768, .slice Ao23 t769.length co23] 33 (0, 0)) (by (with_reducible repeat (first | refine blk_drewN ?_ _ | refine blk_drew ?_ | refine blk_alloc ?_ _)); exact BK773.out)) : gb778 ≠ gb773)); clear HO767; clear HO771; clear HO777; clear BK762; clear BK773; clear HB; have HO767 := n0_; have HO771 := n1_; have HO777 := n2_; have BK762 := n3_; have BK773 := n4_; have HB := n5_; have BK778 := n6_; have GW778 := n7_; have GE778 := n8_; have NB762_778 := n9_; have NB778_762 := n10_; have NB773_778 := n11_; have NB778_773 := n12_; clear n0_ n1_ n2_ n3_ n4_ n5_ n6_ n7_ n8_ n9_ n10_ n11_ n12_; clear hb hbox hg; have hnb27 := NB778_762.out; have hnc27 := NB762_778.out; have hnb28 := NB778_773.out; have hnc28 := NB773_778.out; have hcz29_0 : w26.cell? ⟨gb778, 0, none⟩ = some (.int .i64 0) := (blk_cell BK778.out 0).trans rfl; have hcz29_1 : w26.cell? ⟨gb778, 1, none⟩ = some (.slice none 0 0) := (blk_cell BK778.out 1).trans rfl; have hfz29_0 := blk_frozen BK778.out 0; have hfz29_1 := blk_frozen BK778.out 1; obtain ⟨Ao30, co30, eo30⟩ := Kd.R_slice HO777.out; subst eo30) | ((with_reducible refine gate_store (t := 33) (p := 8) rfl ?_); refine store_event (t := 33) (p := 8) (v := ?vo_w31) (w1 := ((w26.setCell ⟨gb778, 0, none⟩ (.int .i64 t774)).setCell ⟨gb778, 1, none⟩ (.slice Ao30 t775.length co30))) ?hg ?ho ?hn ?hr ?_; (case ho => rfl); (case hg => rfl); (case hn => rfl); (case hr => first | (go_simp; done) | (go_simp; rfl)); intro w31 hw; have n0_ : Aside0 (Kd.R (Kd.int .i64) 2 w31 w.heap.size (fun k_ => some k_ ≠ (.slice Ao23 t769.length co23 : Value).ownBlock ∧ some k_ ≠ (.slice Ao30 t775.length co30 : Value).ownBlock) (.slice Ao18 t765.length co18) t765) := ⟨(by rw [hw]; exact (by (with_reducible repeat (first | apply Kd.R_alloc | apply Kd.R_drewN | apply Kd.R_drew)); exact Kd.R_mono (Kd.R_far (p := ⟨gb778, 1, none⟩) (Kd.R_far (p := ⟨gb778, 0, none⟩) (Kd.R_types HO767.out BK778.out (by decide)) (fun _ hk => hk.2) (.int .i64 t774)) (fun _ hk => hk.2) (.slice Ao30 t775.length co30)) (fun _ hk => by first | exact ⟨hk.1.1.2, hk.1.2⟩ | grind)))⟩; have n1_ : Aside0 (Kd.R (Kd.int .i64) 2 w31 w.heap.size (fun k_ => some k_ ≠ (.slice Ao18 t765.length co18 : Value).ownBlock ∧ some k_ ≠ (.slice Ao30 t775.length co30 : Value).ownBlock) (.slice Ao23 t769.length co23) t769) := ⟨(by rw [hw]; exact (by (with_reducible repeat (first | apply Kd.R_alloc | apply Kd.R_drewN | apply Kd.R_drew)); exact Kd.R_mono (Kd.R_far (p := ⟨gb778, 1, none⟩) (Kd.R_far (p := ⟨gb778, 0, none⟩) (Kd.R_types HO771.out BK778.out (by decide)) (fun _ hk => hk.2) (.int .i64 t774)) (fun _ hk => hk.2) (.slice Ao30 t775.length co30)) (fun _ hk => by first | exact ⟨hk.1.1.2, hk.1.2⟩ | grind)))⟩; have n2_ : Aside0 (Kd.R (Kd.int .i64) 2 w31 w.heap.size (fun k_ => some k_ ≠ (.slice Ao18 t765.length co18 : Value).ownBlock ∧ some k_ ≠ (.slice Ao23 t769.length co23 : Value).ownBlock) (.slice Ao30 t775.length co30) t775) := ⟨(by rw [hw]; exact (by (with_reducible repeat (first | apply Kd.R_alloc | apply Kd.R_drewN | apply Kd.R_drew)); exact Kd.R_mono (Kd.R_far (p := ⟨gb778, 1, none⟩) (Kd.R_far (p := ⟨gb778, 0, none⟩) (Kd.R_types HO777.out BK778.out (by decide)) (fun _ hk => hk.2) (.int .i64 t774)) (fun _ hk => hk.2) (.slice Ao30 t775.length co30)) (fun _ hk => by first | exact ⟨hk.1.1.2, hk.1.2⟩ | grind)))⟩; have n3_ : Aside0 (w31.heap[gb762]? = some (.cells #[.int .i64 a0_0, .slice A0_1 l0_1.length c0_1] 30 (0, 0))) := ⟨(by rw [hw]; exact (by (with_reducible repeat (first | refine blk_drewN ?_ _ | refine blk_drew ?_ | refine blk_alloc ?_ _)); refine blk_far ?_ NB762_778.out _; (with_reducible repeat (first | refine blk_drewN ?_ _ | refine blk_drew ?_ | refine blk_alloc ?_ _)); refine blk_far ?_ NB762_778.out _; (with_reducible repeat (first | refine blk_drewN ?_ _ | refine blk_drew ?_ | refine blk_alloc ?_ _)); exact BK762.out))⟩; have n4_ : Aside0 (w31.heap[gb773]? = some (.cells #[.int .i64 t768, .slice Ao23 t769.length co23] 33 (0, 0))) := ⟨(by rw [hw]; exact (by (with_reducible repeat (first | refine blk_drewN ?_ _ | refine blk_drew ?_ | refine blk_alloc ?_ _)); refine blk_far ?_ NB773_778.out _; (with_reducible repeat (first | refine blk_drewN ?_ _ | refine blk_drew ?_ | refine blk_alloc ?_ _)); refine blk_far ?_ NB773_778.out _; (with_reducible repeat (first | refine blk_drewN ?_ _ | refine blk_drew ?_ | refine blk_alloc ?_ _)); exact BK773.out))⟩; have n5_ : Aside0 (w31.heap[gb778]? = some (.cells #[.int .i64 t774, .slice Ao30 t775.length co30] 33 (0, 0))) := ⟨(by rw [hw]; exact (by (with_reducible repeat (first | refine blk_drewN ?_ _ | refine blk_drew ?_ | refine blk_alloc ?_ _)); refine blk_put (cs := #[.int .i64 t774, .slice none 0 0]) ?_ 1 _ rfl; (with_reducible repeat (first | refine blk_drewN ?_ _ | refine blk_drew ?_ | refine blk_alloc ?_ _)); refine blk_put (cs := #[.int .i64 0, .slice none 0 0]) ?_ 0 _ rfl; (with_reducible repeat (first | refine blk_drewN ?_ _ | refine blk_drew ?_ | refine blk_alloc ?_ _)); exact BK778.out))⟩; have n6_ : Aside0 (Below w.heap.size w w31) := ⟨(by rw [hw]; exact (by repeat (first | (with_reducible first | exact HB.out | apply below_alloc | apply pw_below_drewN | apply below_drew1 | refine below_set ?_ GE762.out | refine below_set ?_ GE773.out | refine below_set ?_ GE778.out) | exact HB.out)))⟩; clear hw; clear HO767; clear HO771; clear HO777; clear BK762; clear BK773; clear BK778; clear HB; have HO767 := n0_; have HO771 := n1_; have HO777 := n2_; have BK762 := n3_; have BK773 := n4_; have BK778 := n5_; have HB := n6_; clear n0_ n1_ n2_ n3_ n4_ n5_ n6_; have hcz32_0 : w31.cell? ⟨gb778, 0, none⟩ = some (.int .i64 t774) := (blk_cell BK778.out 0).trans rfl; have hcz32_1 : w31.cell? ⟨gb778, 1, none⟩ = some (.slice Ao30 t775.length co30) := (blk_cell BK778.out 1).trans rfl; have hfz32_0 := blk_frozen BK778.out 0; have hfz32_1 := blk_frozen BK778.out 1) | ((with_reducible refine gate_callee (f := 40) rfl ?_); refine goesL_ (some 33) rfl rfl Try.func40 (by kernel_rfl) rfl #[.agg #[.int .i64 t774, .slice Ao30 t775.length co30], .int .i64 a1] rfl (by (try simp only [List.map_toArray, List.map_cons, List.map_nil]); first | done | rfl | (simp only [List.length_drop, List.length_take]; rfl)) ?_; (with_reducible refine (impl_ConjugateBraid.calls k t774 (fun k_ => some k_ = (.slice Ao30 t775.length co30 : Value).ownBlock) _ _ t775 a1 t779 t780 t783 _ ?side1 A11.out).mono ?_); (case side1 => exact Kd.R_V (Kd.R_tight rfl (Kd.R_types (Kd.R_types (Kd.R_types (HO777.out) BK762.out (by decide)) BK773.out (by decide)) BK778.out (by decide)))); rintro e w33 ⟨v781, rfl, ho0, hb⟩; refine ⟨_, rfl, ?_⟩; have n0_ := Aside0.mk (Kd.R_elder' (by (with_reducible repeat (first | apply Kd.R_alloc | apply Kd.R_drewN | apply Kd.R_drew)); exact HO767.out) (Kd.R_base ho0) hb); have n1_ := Aside0.mk (Kd.R_elder' (by (with_reducible repeat (first | apply Kd.R_alloc | apply Kd.R_drewN | apply Kd.R_drew)); exact HO771.out) (Kd.R_base ho0) hb); have n2_ := Aside0.mk (Kd.R_elder' (by (with_reducible repeat (first | apply Kd.R_alloc | apply Kd.R_drewN | apply Kd.R_drew)); exact HO777.out) (Kd.R_base ho0) hb); have n3_ := Aside0.mk (Kd.R_lower (Kd.R_new' (Kd.R_new' (Kd.R_new' (Kd.R_mono (ok' := fun k_ => True) ho0 (fun _ hk_ => trivial)) (Kd.R_lt (by (with_reducible repeat (first | apply Kd.R_alloc | apply Kd.R_drewN | apply Kd.R_drew)); exact HO767.out))) (Kd.R_lt (by (with_reducible repeat (first | apply Kd.R_alloc | apply Kd.R_drewN | apply Kd.R_drew)); exact HO771.out))) (Kd.R_lt (by (with_reducible repeat (first | apply Kd.R_alloc | apply Kd.R_drewN | apply Kd.R_drew)); exact HO777.out))) (below_size (by repeat (first | (with_reducible first | exact HB.out | apply below_alloc | apply pw_below_drewN | apply below_drew1 | refine below_set ?_ GE762.out | refine below_set ?_ GE773.out | refine below_set ?_ GE778.out) | exact HB.out)))); have n4_ := Aside0.mk (blk_below (g := gb762) (o := .cells #[.int .i64 a0_0, .slice A0_1 l0_1.length c0_1] 30 (0, 0)) (by (with_reducible repeat (first | refine blk_drewN ?_ _ | refine blk_drew ?_ | refine blk_alloc ?_ _)); exact BK762.out) hb); have n5_ := Aside0.mk (blk_below (g := gb773) (o := .cells #[.int .i64 t768, .slice Ao23 t769.length co23] 33 (0, 0)) (by (with_reducible repeat (first | refine blk_drewN ?_ _ | refine blk_drew ?_ | refine blk_alloc ?_ _)); exact BK773.out) hb); have n6_ := Aside0.mk (blk_below (g := gb778) (o := .cells #[.int .i64 t774, .slice Ao30 t775.length co30] 33 (0, 0)) (by (with_reducible repeat (first | refine blk_drewN ?_ _ | refine blk_drew ?_ | refine blk_alloc ?_ _)); exact BK778.out) hb); have n7_ := Aside0.mk (below_step (by repeat (first | (with_reducible first | exact HB.out | apply below_alloc | apply pw_below_drewN | apply below_drew1 | refine below_set ?_ GE762.out | refine below_set ?_ GE773.out | refine below_set ?_ GE778.out) | exact HB.out)) hb); clear HO767; clear HO771; clear HO777; clear BK762; clear BK773; clear BK778; clear HB; have HO767 := n0_; have HO771 := n1_; have HO777 := n2_; have HO782 := n3_; have BK762 := n4_; have BK773 := n5_; have BK778 := n6_; have HB := n7_; clear n0_ n1_ n2_ n3_ n4_ n5_ n6_ n7_; (try clear hb); (try clear hb2); (try clear hk); (try clear hi); (try clear ho0)) | (go_at_call 40; (with_reducible refine (impl_ConjugateBraid.calls k t774 (fun k_ => some k_ = (.slice Ao30 t775.length co30 : Value).ownBlock) _ _ t775 a1 t779 t780 t783 _ ?side1 A11.out).mono ?_); (case side1 => exact Kd.R_V (Kd.R_tight rfl (Kd.R_types (Kd.R_types (Kd.R_types (HO777.out) BK762.out (by decide)) BK773.out (by decide)) BK778.out (by decide)))); rintro e w33 ⟨v781, rfl, ho0, hb⟩; have n0_ := Aside0.mk (Kd.R_elder' (by (with_reducible repeat (first | apply Kd.R_alloc | apply Kd.R_drewN | apply Kd.R_drew)); exact HO767.out) (Kd.R_base ho0) hb); have n1_ := Aside0.mk (Kd.R_elder' (by (with_reducible repeat (first | apply Kd.R_alloc | apply Kd.R_drewN | apply Kd.R_drew)); exact HO771.out) (Kd.R_base ho0) hb); have n2_ := Aside0.mk (Kd.R_elder' (by (with_reducible repeat (first | apply Kd.R_alloc | apply Kd.R_drewN | apply Kd.R_drew)); exact HO777.out) (Kd.R_base ho0) hb); have n3_ := Aside0.mk (Kd.R_lower (Kd.R_new' (Kd.R_new' (Kd.R_new' (Kd.R_mono (ok' := fun k_ => True) ho0 (fun _ hk_ => trivial)) (Kd.R_lt (by (with_reducible repeat (first | apply Kd.R_alloc | apply Kd.R_drewN | apply Kd.R_drew)); exact HO767.out))) (Kd.R_lt (by (with_reducible repeat (first | apply Kd.R_alloc | apply Kd.R_drewN | apply Kd.R_drew)); exact HO771.out))) (Kd.R_lt (by (with_reducible repeat (first | apply Kd.R_alloc | apply Kd.R_drewN | apply Kd.R_drew)); exact HO777.out))) (below_size (by repeat (first | (with_reducible first | exact HB.out | apply below_alloc | apply pw_below_drewN | apply below_drew1 | refine below_set ?_ GE762.out | refine below_set ?_ GE773.out | refine below_set ?_ GE778.out) | exact HB.out)))); have n4_ := Aside0.mk (blk_below (g := gb762) (o := .cells #[.int .i64 a0_0, .slice A0_1 l0_1.length c0_1] 30 (0, 0)) (by (with_reducible repeat (first | refine blk_drewN ?_ _ | refine blk_drew ?_ | refine blk_alloc ?_ _)); exact BK762.out) hb); have n5_ := Aside0.mk (blk_below (g := gb773) (o := .cells #[.int .i64 t768, .slice Ao23 t769.length co23] 33 (0, 0)) (by (with_reducible repeat (first | refine blk_drewN ?_ _ | refine blk_drew ?_ | refine blk_alloc ?_ _)); exact BK773.out) hb); have n6_ := Aside0.mk (blk_below (g := gb778) (o := .cells #[.int .i64 t774, .slice Ao30 t775.length co30] 33 (0, 0)) (by (with_reducible repeat (first | refine blk_drewN ?_ _ | refine blk_drew ?_ | refine blk_alloc ?_ _)); exact BK778.out) hb); have n7_ := Aside0.mk (below_step (by repeat (first | (with_reducible first | exact HB.out | apply below_alloc | apply pw_below_drewN | apply below_drew1 | refine below_set ?_ GE762.out | refine below_set ?_ GE773.out | refine below_set ?_ GE778.out) | exact HB.out)) hb); clear HO767; clear HO771; clear HO777; clear BK762; clear BK773; clear BK778; clear HB; have HO767 := n0_; have HO771 := n1_; have HO777 := n2_; have HO782 := n3_; have BK762 := n4_; have BK773 := n5_; have BK778 := n6_; have HB := n7_; clear n0_ n1_ n2_ n3_ n4_ n5_ n6_ n7_; (try clear hb); (try clear hb2); (try clear hk); (try clear hi); (try clear ho0)) | ((with_reducible refine gate_dst (N := 9) rfl ?_); refine box_event ?hg (N := 9) ?hd (cs := #[.int .i64 0, .slice none 0 0]) (t := 33) ?hr ?_; (case hd => rfl); (case hg => rfl); (case hr => first | (go_simp; done) | (go_simp; rfl)); intro gb784 hg w34 hbox hb; have n0_ := Aside0.mk (Kd.R_below (by (with_reducible repeat (first | apply Kd.R_alloc | apply Kd.R_drewN | apply Kd.R_drew)); exact HO767.out) hb); have n1_ := Aside0.mk (Kd.R_below (by (with_reducible repeat (first | apply Kd.R_alloc | apply Kd.R_drewN | apply Kd.R_drew)); exact HO771.out) hb); have n2_ := Aside0.mk (Kd.R_below (by (with_reducible repeat (first | apply Kd.R_alloc | apply Kd.R_drewN | apply Kd.R_drew)); exact HO777.out) hb); have n3_ := Aside0.mk (Kd.R_below (by (with_reducible repeat (first | apply Kd.R_alloc | apply Kd.R_drewN | apply Kd.R_drew)); exact HO782.out) hb); have n4_ := Aside0.mk (blk_below (g := gb762) (o := .cells #[.int .i64 a0_0, .slice A0_1 l0_1.length c0_1] 30 (0, 0)) (by (with_reducible repeat (first | refine blk_drewN ?_ _ | refine blk_drew ?_ | refine blk_alloc ?_ _)); exact BK762.out) hb); have n5_ := Aside0.mk (blk_below (g := gb773) (o := .cells #[.int .i64 t768, .slice Ao23 t769.length co23] 33 (0, 0)) (by (with_reducible repeat (first | refine blk_drewN ?_ _ | refine blk_drew ?_ | refine blk_alloc ?_ _)); exact BK773.out) hb); have n6_ := Aside0.mk (blk_below (g := gb778) (o := .cells #[.int .i64 t774, .slice Ao30 t775.length co30] 33 (0, 0)) (by (with_reducible repeat (first | refine blk_drewN ?_ _ | refine blk_drew ?_ | refine blk_alloc ?_ _)); exact BK778.out) hb); have n7_ := Aside0.mk (below_step (by repeat (first | (with_reducible first | exact HB.out | apply below_alloc | apply pw_below_drewN | apply below_drew1 | refine below_set ?_ GE762.out | refine below_set ?_ GE773.out | refine below_set ?_ GE778.out) | exact HB.out)) hb); have n8_ := Aside0.mk (hbox); have n9_ := Aside0.mk ((by rw [hg]; exact (below_size (by repeat (first | (with_reducible first | exact HB.out | apply below_alloc | apply pw_below_drewN | apply below_drew1 | refine below_set ?_ GE762.out | refine below_set ?_ GE773.out | refine below_set ?_ GE778.out) | exact HB.out))) : w.heap.size ≤ gb784)); have n10_ := Aside0.mk ((by rw [hg]; exact (below_size (by repeat (first | (with_reducible first | exact HB.out | apply below_alloc | apply pw_below_drewN | apply below_drew1 | refine below_set ?_ GE762.out | refine below_set ?_ GE773.out | refine below_set ?_ GE778.out) | exact HB.out))) : w.heap.size ≤ gb784)); have n11_ := Aside0.mk ((by rw [hg]; exact Nat.ne_of_lt (blk_lt (g := gb762) (o := .cells #[.int .i64 a0_0, .slice A0_1 l0_1.length c0_1] 30 (0, 0)) (by (with_reducible repeat (first | refine blk_drewN ?_ _ | refine blk_drew ?_ | refine blk_alloc ?_ _)); exact BK762.out)) : gb762 ≠ gb784)); have n12_ := Aside0.mk ((by rw [hg]; exact Nat.ne_of_gt (blk_lt (g := gb762) (o := .cells #[.int .i64 a0_0, .slice A0_1 l0_1.length c0_1] 30 (0, 0)) (by (with_reducible repeat (first | refine blk_drewN ?_ _ | refine blk_drew ?_ | refine blk_alloc ?_ _)); exact BK762.out)) : gb784 ≠ gb762)); have n13_ := Aside0.mk ((by rw [hg]; exact Nat.ne_of_lt (blk_lt (g := gb773) (o := .cells #[.int .i64 t768, .slice Ao23 t769.length co23] 33 (0, 0)) (by (with_reducible repeat (first | refine blk_drewN ?_ _ | refine blk_drew ?_ | refine blk_alloc ?_ _)); exact BK773.out)) : gb773 ≠ gb784)); have n14_ := Aside0.mk ((by rw [hg]; exact Nat.ne_of_gt (blk_lt (g := gb773) (o := .cells #[.int .i64 t768, .slice Ao23 t769.length co23] 33 (0, 0)) (by (with_reducible repeat (first | refine blk_drewN ?_ _ | refine blk_drew ?_ | refine blk_alloc ?_ _)); exact BK773.out)) : gb784 ≠ gb773)); have n15_ := Aside0.mk ((by rw [hg]; exact Nat.ne_of_lt (blk_lt (g := gb778) (o := .cells #[.int .i64 t774, .slice Ao30 t775.length co30] 33 (0, 0)) (by (with_reducible repeat (first | refine blk_drewN ?_ _ | refine blk_drew ?_ | refine blk_alloc ?_ _)); exact BK778.out)) : gb778 ≠ gb784)); have n16_ := Aside0.mk ((by rw [hg]; exact Nat.ne_of_gt (blk_lt (g := gb778) (o := .cells #[.int .i64 t774, .slice Ao30 t775.length co30] 33 (0, 0)) (by (with_reducible repeat (first | refine blk_drewN ?_ _ | refine blk_drew ?_ | refine blk_alloc ?_ _)); exact BK778.out)) : gb784 ≠ gb778)); clear HO767; clear HO771; clear HO777; clear HO782; clear BK762; clear BK773; clear BK778; clear HB; have HO767 := n0_; have HO771 := n1_; have HO777 := n2_; have HO782 := n3_; have BK762 := n4_; have BK773 := n5_; have BK778 := n6_; have HB := n7_; have BK784 := n8_; have GW784 := n9_; have GE784 := n10_; have NB762_784 := n11_; have NB784_762 := n12_; have NB773_784 := n13_; have NB784_773 := n14_; have NB778_784 := n15_; have NB784_778 := n16_; clear n0_ n1_ n2_ n3_ n4_ n5_ n6_ n7_ n8_ n9_ n10_ n11_ n12_ n13_ n14_ n15_ n16_; clear hb hbox hg; have hnb35 := NB784_762.out; have hnc35 := NB762_784.out; have hnb36 := NB784_773.out; have hnc36 := NB773_784.out; have hnb37 := NB784_778.out; have hnc37 := NB778_784.out; have hcz38_0 : w34.cell? ⟨gb784, 0, none⟩ = some (.int .i64 0) := (blk_cell BK784.out 0).trans rfl; have hcz38_1 : w34.cell? ⟨gb784, 1, none⟩ = some (.slice none 0 0) := (blk_cell BK784.out 1).trans rfl; have hfz38_0 := blk_frozen BK784.out 0; have hfz38_1 := blk_frozen BK784.out 1; obtain ⟨Ao39, co39, eo39⟩ := Kd.R_slice HO782.out; subst eo39))
    (try simp only [Act.put, List.setIfInBounds_toArray, List.set_cons_zero, List.set_cons_succ])
    go_cut [44] (fun v44 wc => ∃ (kq : Nat) (x44_11 : Bool), v44 = .bool x44_11 ∧ Aside0 (laws_FnExactConjugateBraid.j0 kq a1 t772 t783 x44_11 a0_0 l0_1 t768 t769 t774 t775 t779 t780 = some r) ∧ Aside0 (kq ≤ k) ∧ Aside0 (Kd.R (Kd.int .i64) 2 wc w.heap.size (fun k_ => some k_ ≠ ((.slice Ao30 t775.length co30) : Value).ownBlock ∧ some k_ ≠ ((.slice Ao39 t780.length co39) : Value).ownBlock) (.slice Ao23 t769.length co23) t769) ∧ Aside0 (Kd.R (Kd.int .i64) 2 wc w.heap.size (fun k_ => some k_ ≠ ((.slice Ao23 t769.length co23) : Value).ownBlock ∧ some k_ ≠ ((.slice Ao39 t780.length co39) : Value).ownBlock) (.slice Ao30 t775.length co30) t775) ∧ Aside0 (Kd.R (Kd.int .i64) 2 wc w.heap.size (fun k_ => some k_ ≠ ((.slice Ao23 t769.length co23) : Value).ownBlock ∧ some k_ ≠ ((.slice Ao30 t775.length co30) : Value).ownBlock) (.slice Ao39 t780.length co39) t780) ∧ Aside0 (wc.heap[gb762]? = some (.cells #[.int .i64 a0_0, (.slice A0_1 l0_1.length c0_1)] 30 (0, 0))) ∧ Aside0 (wc.heap[gb773]? = some (.cells #[.int .i64 t768, (.slice Ao23 t769.length co23)] 33 (0, 0))) ∧ Aside0 (wc.heap[gb778]? = some (.cells #[.int .i64 t774, (.slice Ao30 t775.length co30)] 33 (0, 0))) ∧ Aside0 (wc.heap[gb784]? = some (.cells #[.int .i64 t779, (.slice Ao39 t780.length co39)] 33 (0, 0))) ∧ Aside0 (Below w.heap.size w wc))
    case first =>
      have H := HC12.out
      clear HC12
      replace H := Option.bind_eq_some_iff.mp H
      obtain ⟨t785, A400, H⟩ := H
      replace H : (if t785 = true then (laws_FnExactConjugateBraid.j0 k a1 t772 t783 (t783 != t772) a0_0 l0_1 t768 t769 t774 t775 t779 t780) else (laws_FnExactConjugateBraid.j0 k a1 t772 t783 true a0_0 l0_1 t768 t769 t774 t775 t779 t780)) = some r := H
      have A40 := Aside0.mk A400
      clear A400
      by_cases c41 : t785 = true
      · subst c41
        have H1 : (laws_FnExactConjugateBraid.j0 k a1 t772 t783 (t783 != t772) a0_0 l0_1 t768 t769 t774 t775 t779 t780) = some r := by rw [if_pos rfl] at H; exact H
        clear H
        have H := H1
        clear H1
        have H' := Aside0.mk H
        clear H
        have hnb42 := NB784_762.out
        have hnc42 := NB762_784.out
        have hnb43 := NB784_773.out
        have hnc43 := NB773_784.out
        have hnb44 := NB784_778.out
        have hnc44 := NB778_784.out
        have hcz45_0 : w34.cell? ⟨gb784, 0, none⟩ = some (.int .i64 0) := (blk_cell BK784.out 0).trans rfl
        have hcz45_1 : w34.cell? ⟨gb784, 1, none⟩ = some (.slice none 0 0) := (blk_cell BK784.out 1).trans rfl
        have hfz45_0 := blk_frozen BK784.out 0
        have hfz45_1 := blk_frozen BK784.out 1
        have hnb46 := NB773_762.out
        have hnc46 := NB762_773.out
        have hnb47 := NB773_778.out
        have hnc47 := NB778_773.out
        have hcz48_0 : w34.cell? ⟨gb773, 0, none⟩ = some (.int .i64 t768) := (blk_cell BK773.out 0).trans rfl
        have hcz48_1 : w34.cell? ⟨gb773, 1, none⟩ = some (.slice Ao23 t769.length co23) := (blk_cell BK773.out 1).trans rfl
        have hfz48_0 := blk_frozen BK773.out 0
        have hfz48_1 := blk_frozen BK773.out 1
        go_wp2_with (first | ((with_reducible refine gate_callee (f := 24) rfl ?_); refine goesL_ (some 38) rfl rfl Try.func24 (by kernel_rfl) rfl #[.agg #[.int .i64 t779, .slice Ao39 t780.length co39], .agg #[.int .i64 t768, .slice Ao23 t769.length co23]] rfl (by (try simp only [List.map_toArray, List.map_cons, List.map_nil]); first | done | rfl | (simp only [List.length_drop, List.length_take]; rfl)) ?_; (with_reducible refine (laws_eqBraid.calls k t779 _ _ t780 t768 _ _ t769 true _ ?side1 ?side2 ?side3 ?side4 A40.out).mono ?_); (case side1 => refine (Kd.R_reads' (e := 2) (base := w.heap.size) (ok := fun k_ => (((True ∧ some k_ ≠ (.slice Ao18 t765.length co18 : Value).ownBlock) ∧ some k_ ≠ (.slice Ao23 t769.length co23 : Value).ownBlock) ∧ some k_ ≠ (.slice Ao30 t775.length co30 : Value).ownBlock)) (n := t780.length) (c := co39) ?_).2.2; exact (by (with_reducible repeat (first | apply Kd.R_alloc | apply Kd.R_drewN | apply Kd.R_drew)); exact (Kd.R_mono (Kd.R_far (p := ⟨gb784, 1, none⟩) (Kd.R_far (p := ⟨gb784, 0, none⟩) (Kd.R_types HO782.out BK784.out (by decide)) (fun _ hk => hk.2) (.int .i64 t779)) (fun _ hk => hk.2) (.slice Ao39 t780.length co39)) (fun _ h_ => h_.1)))); (case side2 => exact (Kd.R_reads' HO782.out).2.1); (case side3 => refine (Kd.R_reads' (e := 2) (base := w.heap.size) (ok := fun k_ => ((some k_ ≠ (.slice Ao18 t765.length co18 : Value).ownBlock ∧ some k_ ≠ (.slice Ao30 t775.length co30 : Value).ownBlock) ∧ some k_ ≠ (.slice Ao39 t780.length co39 : Value).ownBlock)) (n := t769.length) (c := co23) ?_).2.2; exact (by (with_reducible repeat (first | apply Kd.R_alloc | apply Kd.R_drewN | apply Kd.R_drew)); exact (Kd.R_mono (Kd.R_far (p := ⟨gb784, 1, none⟩) (Kd.R_far (p := ⟨gb784, 0, none⟩) (Kd.R_types HO771.out BK784.out (by decide)) (fun _ hk => hk.2) (.int .i64 t779)) (fun _ hk => hk.2) (.slice Ao39 t780.length co39)) (fun _ h_ => h_.1)))); (case side4 => exact (Kd.R_reads' HO771.out).2.1); rintro e w49 ⟨rfl, hb⟩; refine ⟨_, rfl, ?_⟩; have n0_ := Aside0.mk (Kd.R_below (by (with_reducible repeat (first | apply Kd.R_alloc | apply Kd.R_drewN | apply Kd.R_drew)); exact (Kd.R_mono (Kd.R_far (p := ⟨gb784, 1, none⟩) (Kd.R_far (p := ⟨gb784, 0, none⟩) (Kd.R_types HO767.out BK784.out (by decide)) (fun _ hk => hk.2) (.int .i64 t779)) (fun _ hk => hk.2) (.slice Ao39 t780.length co39)) (fun _ h_ => h_.1))) hb); have n1_ := Aside0.mk (Kd.R_below (by (with_reducible repeat (first | apply Kd.R_alloc | apply Kd.R_drewN | apply Kd.R_drew)); exact (Kd.R_mono (Kd.R_far (p := ⟨gb784, 1, none⟩) (Kd.R_far (p := ⟨gb784, 0, none⟩) (Kd.R_types HO771.out BK784.out (by decide)) (fun _ hk => hk.2) (.int .i64 t779)) (fun _ hk => hk.2) (.slice Ao39 t780.length co39)) (fun _ h_ => h_.1))) hb); have n2_ := Aside0.mk (Kd.R_below (by (with_reducible repeat (first | apply Kd.R_alloc | apply Kd.R_drewN | apply Kd.R_drew)); exact (Kd.R_mono (Kd.R_far (p := ⟨gb784, 1, none⟩) (Kd.R_far (p := ⟨gb784, 0, none⟩) (Kd.R_types HO777.out BK784.out (by decide)) (fun _ hk => hk.2) (.int .i64 t779)) (fun _ hk => hk.2) (.slice Ao39 t780.length co39)) (fun _ h_ => h_.1))) hb); have n3_ := Aside0.mk (Kd.R_below (by (with_reducible repeat (first | apply Kd.R_alloc | apply Kd.R_drewN | apply Kd.R_drew)); exact (Kd.R_mono (Kd.R_far (p := ⟨gb784, 1, none⟩) (Kd.R_far (p := ⟨gb784, 0, none⟩) (Kd.R_types HO782.out BK784.out (by decide)) (fun _ hk => hk.2) (.int .i64 t779)) (fun _ hk => hk.2) (.slice Ao39 t780.length co39)) (fun _ h_ => h_.1))) hb); have n4_ := Aside0.mk (blk_below (g := gb762) (o := .cells #[.int .i64 a0_0, .slice A0_1 l0_1.length c0_1] 30 (0, 0)) (by (with_reducible repeat (first | refine blk_drewN ?_ _ | refine blk_drew ?_ | refine blk_alloc ?_ _)); refine blk_far ?_ NB762_784.out _; (with_reducible repeat (first | refine blk_drewN ?_ _ | refine blk_drew ?_ | refine blk_alloc ?_ _)); refine blk_far ?_ NB762_784.out _; (with_reducible repeat (first | refine blk_drewN ?_ _ | refine blk_drew ?_ | refine blk_alloc ?_ _)); exact BK762.out) hb); have n5_ := Aside0.mk (blk_below (g := gb773) (o := .cells #[.int .i64 t768, .slice Ao23 t769.length co23] 33 (0, 0)) (by (with_reducible repeat (first | refine blk_drewN ?_ _ | refine blk_drew ?_ | refine blk_alloc ?_ _)); refine blk_far ?_ NB773_784.out _; (with_reducible repeat (first | refine blk_drewN ?_ _ | refine blk_drew ?_ | refine blk_alloc ?_ _)); refine blk_far ?_ NB773_784.out _; (with_reducible repeat (first | refine blk_drewN ?_ _ | refine blk_drew ?_ | refine blk_alloc ?_ _)); exact BK773.out) hb); have n6_ := Aside0.mk (blk_below (g := gb778) (o := .cells #[.int .i64 t774, .slice Ao30 t775.length co30] 33 (0, 0)) (by (with_reducible repeat (first | refine blk_drewN ?_ _ | refine blk_drew ?_ | refine blk_alloc ?_ _)); refine blk_far ?_ NB778_784.out _; (with_reducible repeat (first | refine blk_drewN ?_ _ | refine blk_drew ?_ | refine blk_alloc ?_ _)); refine blk_far ?_ NB778_784.out _; (with_reducible repeat (first | refine blk_drewN ?_ _ | refine blk_drew ?_ | refine blk_alloc ?_ _)); exact BK778.out) hb); have n7_ := Aside0.mk (blk_below (g := gb784) (o := .cells #[.int .i64 t779, .slice Ao39 t780.length co39] 33 (0, 0)) (by (with_reducible repeat (first | refine blk_drewN ?_ _ | refine blk_drew ?_ | refine blk_alloc ?_ _)); refine blk_put (cs := #[.int .i64 t779, .slice none 0 0]) ?_ 1 _ rfl; (with_reducible repeat (first | refine blk_drewN ?_ _ | refine blk_drew ?_ | refine blk_alloc ?_ _)); refine blk_put (cs := #[.int .i64 0, .slice none 0 0]) ?_ 0 _ rfl; (with_reducible repeat (first | refine blk_drewN ?_ _ | refine blk_drew ?_ | refine blk_alloc ?_ _)); exact BK784.out) hb); have n8_ := Aside0.mk (below_step (by repeat (first | (with_reducible first | exact HB.out | apply below_alloc | apply pw_below_drewN | apply below_drew1 | refine below_set ?_ GE762.out | refine below_set ?_ GE773.out | refine below_set ?_ GE778.out | refine below_set ?_ GE784.out) | exact HB.out)) hb); clear HO767; clear HO771; clear HO777; clear HO782; clear BK762; clear BK773; clear BK778; clear BK784; clear HB; have HO767 := n0_; have HO771 := n1_; have HO777 := n2_; have HO782 := n3_; have BK762 := n4_; have BK773 := n5_; have BK778 := n6_; have BK784 := n7_; have HB := n8_; clear n0_ n1_ n2_ n3_ n4_ n5_ n6_ n7_ n8_; (try clear hb); (try clear hb2); (try clear hk); (try clear hi)))
        go_meet
        case rel => exact ⟨_, ((t783 != t772)), (by first | rfl | (simp; done) | (simp [*]; done)), H', ⟨by first | omega | exact Nat.le_refl _⟩, ⟨by (with_reducible repeat (first | apply Kd.R_alloc | apply Kd.R_drewN | apply Kd.R_drew)); exact Kd.R_mono HO771.out (fun _ hk => by first | exact ⟨hk.1.2, hk.2⟩ | grind)⟩, ⟨by (with_reducible repeat (first | apply Kd.R_alloc | apply Kd.R_drewN | apply Kd.R_drew)); exact Kd.R_mono HO777.out (fun _ hk => by first | exact ⟨hk.1.2, hk.2⟩ | grind)⟩, ⟨by (with_reducible repeat (first | apply Kd.R_alloc | apply Kd.R_drewN | apply Kd.R_drew)); exact Kd.R_mono HO782.out (fun _ hk => by first | exact ⟨hk.1.2, hk.2⟩ | grind)⟩, ⟨by (with_reducible repeat (first | refine blk_drewN ?_ _ | refine blk_drew ?_ | refine blk_alloc ?_ _)); exact BK762.out⟩, ⟨by (with_reducible repeat (first | refine blk_drewN ?_ _ | refine blk_drew ?_ | refine blk_alloc ?_ _)); exact BK773.out⟩, ⟨by (with_reducible repeat (first | refine blk_drewN ?_ _ | refine blk_drew ?_ | refine blk_alloc ?_ _)); exact BK778.out⟩, ⟨by (with_reducible repeat (first | refine blk_drewN ?_ _ | refine blk_drew ?_ | refine blk_alloc ?_ _)); exact BK784.out⟩, ⟨by repeat (first | (with_reducible first | exact HB.out | apply below_alloc | apply pw_below_drewN | apply below_drew1 | refine below_set ?_ GE762.out | refine below_set ?_ GE773.out | refine below_set ?_ GE778.out | refine below_set ?_ GE784.out) | exact HB.out)⟩⟩
      · replace c41 := Bool.eq_false_iff.mpr c41
        subst c41
        have H1 : (laws_FnExactConjugateBraid.j0 k a1 t772 t783 true a0_0 l0_1 t768 t769 t774 t775 t779 t780) = some r := by rw [if_neg (show ¬ (false = true) by decide)] at H; exact H
        clear H
        have H := H1
        clear H1
        have H' := Aside0.mk H
        clear H
        have hnb50 := NB784_762.out
        have hnc50 := NB762_784.out
        have hnb51 := NB784_773.out
        have hnc51 := NB773_784.out
        have hnb52 := NB784_778.out
        have hnc52 := NB778_784.out
        have hcz53_0 : w34.cell? ⟨gb784, 0, none⟩ = some (.int .i64 0) := (blk_cell BK784.out 0).trans rfl
        have hcz53_1 : w34.cell? ⟨gb784, 1, none⟩ = some (.slice none 0 0) := (blk_cell BK784.out 1).trans rfl
        have hfz53_0 := blk_frozen BK784.out 0
        have hfz53_1 := blk_frozen BK784.out 1
        have hnb54 := NB773_762.out
        have hnc54 := NB762_773.out
        have hnb55 := NB773_778.out
        have hnc55 := NB778_773.out
        have hcz56_0 : w34.cell? ⟨gb773, 0, none⟩ = some (.int .i64 t768) := (blk_cell BK773.out 0).trans rfl
        have hcz56_1 : w34.cell? ⟨gb773, 1, none⟩ = some (.slice Ao23 t769.length co23) := (blk_cell BK773.out 1).trans rfl
        have hfz56_0 := blk_frozen BK773.out 0
        have hfz56_1 := blk_frozen BK773.out 1
        go_wp2_with (first | ((with_reducible refine gate_callee (f := 24) rfl ?_); refine goesL_ (some 38) rfl rfl Try.func24 (by kernel_rfl) rfl #[.agg #[.int .i64 t779, .slice Ao39 t780.length co39], .agg #[.int .i64 t768, .slice Ao23 t769.length co23]] rfl (by (try simp only [List.map_toArray, List.map_cons, List.map_nil]); first | done | rfl | (simp only [List.length_drop, List.length_take]; rfl)) ?_; (with_reducible refine (laws_eqBraid.calls k t779 _ _ t780 t768 _ _ t769 false _ ?side1 ?side2 ?side3 ?side4 A40.out).mono ?_); (case side1 => refine (Kd.R_reads' (e := 2) (base := w.heap.size) (ok := fun k_ => (((True ∧ some k_ ≠ (.slice Ao18 t765.length co18 : Value).ownBlock) ∧ some k_ ≠ (.slice Ao23 t769.length co23 : Value).ownBlock) ∧ some k_ ≠ (.slice Ao30 t775.length co30 : Value).ownBlock)) (n := t780.length) (c := co39) ?_).2.2; exact (by (with_reducible repeat (first | apply Kd.R_alloc | apply Kd.R_drewN | apply Kd.R_drew)); exact (Kd.R_mono (Kd.R_far (p := ⟨gb784, 1, none⟩) (Kd.R_far (p := ⟨gb784, 0, none⟩) (Kd.R_types HO782.out BK784.out (by decide)) (fun _ hk => hk.2) (.int .i64 t779)) (fun _ hk => hk.2) (.slice Ao39 t780.length co39)) (fun _ h_ => h_.1)))); (case side2 => exact (Kd.R_reads' HO782.out).2.1); (case side3 => refine (Kd.R_reads' (e := 2) (base := w.heap.size) (ok := fun k_ => ((some k_ ≠ (.slice Ao18 t765.length co18 : Value).ownBlock ∧ some k_ ≠ (.slice Ao30 t775.length co30 : Value).ownBlock) ∧ some k_ ≠ (.slice Ao39 t780.length co39 : Value).ownBlock)) (n := t769.length) (c := co23) ?_).2.2; exact (by (with_reducible repeat (first | apply Kd.R_alloc | apply Kd.R_drewN | apply Kd.R_drew)); exact (Kd.R_mono (Kd.R_far (p := ⟨gb784, 1, none⟩) (Kd.R_far (p := ⟨gb784, 0, none⟩) (Kd.R_types HO771.out BK784.out (by decide)) (fun _ hk => hk.2) (.int .i64 t779)) (fun _ hk => hk.2) (.slice Ao39 t780.length co39)) (fun _ h_ => h_.1)))); (case side4 => exact (Kd.R_reads' HO771.out).2.1); rintro e w57 ⟨rfl, hb⟩; refine ⟨_, rfl, ?_⟩; have n0_ := Aside0.mk (Kd.R_below (by (with_reducible repeat (first | apply Kd.R_alloc | apply Kd.R_drewN | apply Kd.R_drew)); exact (Kd.R_mono (Kd.R_far (p := ⟨gb784, 1, none⟩) (Kd.R_far (p := ⟨gb784, 0, none⟩) (Kd.R_types HO767.out BK784.out (by decide)) (fun _ hk => hk.2) (.int .i64 t779)) (fun _ hk => hk.2) (.slice Ao39 t780.length co39)) (fun _ h_ => h_.1))) hb); have n1_ := Aside0.mk (Kd.R_below (by (with_reducible repeat (first | apply Kd.R_alloc | apply Kd.R_drewN | apply Kd.R_drew)); exact (Kd.R_mono (Kd.R_far (p := ⟨gb784, 1, none⟩) (Kd.R_far (p := ⟨gb784, 0, none⟩) (Kd.R_types HO771.out BK784.out (by decide)) (fun _ hk => hk.2) (.int .i64 t779)) (fun _ hk => hk.2) (.slice Ao39 t780.length co39)) (fun _ h_ => h_.1))) hb); have n2_ := Aside0.mk (Kd.R_below (by (with_reducible repeat (first | apply Kd.R_alloc | apply Kd.R_drewN | apply Kd.R_drew)); exact (Kd.R_mono (Kd.R_far (p := ⟨gb784, 1, none⟩) (Kd.R_far (p := ⟨gb784, 0, none⟩) (Kd.R_types HO777.out BK784.out (by decide)) (fun _ hk => hk.2) (.int .i64 t779)) (fun _ hk => hk.2) (.slice Ao39 t780.length co39)) (fun _ h_ => h_.1))) hb); have n3_ := Aside0.mk (Kd.R_below (by (with_reducible repeat (first | apply Kd.R_alloc | apply Kd.R_drewN | apply Kd.R_drew)); exact (Kd.R_mono (Kd.R_far (p := ⟨gb784, 1, none⟩) (Kd.R_far (p := ⟨gb784, 0, none⟩) (Kd.R_types HO782.out BK784.out (by decide)) (fun _ hk => hk.2) (.int .i64 t779)) (fun _ hk => hk.2) (.slice Ao39 t780.length co39)) (fun _ h_ => h_.1))) hb); have n4_ := Aside0.mk (blk_below (g := gb762) (o := .cells #[.int .i64 a0_0, .slice A0_1 l0_1.length c0_1] 30 (0, 0)) (by (with_reducible repeat (first | refine blk_drewN ?_ _ | refine blk_drew ?_ | refine blk_alloc ?_ _)); refine blk_far ?_ NB762_784.out _; (with_reducible repeat (first | refine blk_drewN ?_ _ | refine blk_drew ?_ | refine blk_alloc ?_ _)); refine blk_far ?_ NB762_784.out _; (with_reducible repeat (first | refine blk_drewN ?_ _ | refine blk_drew ?_ | refine blk_alloc ?_ _)); exact BK762.out) hb); have n5_ := Aside0.mk (blk_below (g := gb773) (o := .cells #[.int .i64 t768, .slice Ao23 t769.length co23] 33 (0, 0)) (by (with_reducible repeat (first | refine blk_drewN ?_ _ | refine blk_drew ?_ | refine blk_alloc ?_ _)); refine blk_far ?_ NB773_784.out _; (with_reducible repeat (first | refine blk_drewN ?_ _ | refine blk_drew ?_ | refine blk_alloc ?_ _)); refine blk_far ?_ NB773_784.out _; (with_reducible repeat (first | refine blk_drewN ?_ _ | refine blk_drew ?_ | refine blk_alloc ?_ _)); exact BK773.out) hb); have n6_ := Aside0.mk (blk_below (g := gb778) (o := .cells #[.int .i64 t774, .slice Ao30 t775.length co30] 33 (0, 0)) (by (with_reducible repeat (first | refine blk_drewN ?_ _ | refine blk_drew ?_ | refine blk_alloc ?_ _)); refine blk_far ?_ NB778_784.out _; (with_reducible repeat (first | refine blk_drewN ?_ _ | refine blk_drew ?_ | refine blk_alloc ?_ _)); refine blk_far ?_ NB778_784.out _; (with_reducible repeat (first | refine blk_drewN ?_ _ | refine blk_drew ?_ | refine blk_alloc ?_ _)); exact BK778.out) hb); have n7_ := Aside0.mk (blk_below (g := gb784) (o := .cells #[.int .i64 t779, .slice Ao39 t780.length co39] 33 (0, 0)) (by (with_reducible repeat (first | refine blk_drewN ?_ _ | refine blk_drew ?_ | refine blk_alloc ?_ _)); refine blk_put (cs := #[.int .i64 t779, .slice none 0 0]) ?_ 1 _ rfl; (with_reducible repeat (first | refine blk_drewN ?_ _ | refine blk_drew ?_ | refine blk_alloc ?_ _)); refine blk_put (cs := #[.int .i64 0, .slice none 0 0]) ?_ 0 _ rfl; (with_reducible repeat (first | refine blk_drewN ?_ _ | refine blk_drew ?_ | refine blk_alloc ?_ _)); exact BK784.out) hb); have n8_ := Aside0.mk (below_step (by repeat (first | (with_reducible first | exact HB.out | apply below_alloc | apply pw_below_drewN | apply below_drew1 | refine below_set ?_ GE762.out | refine below_set ?_ GE773.out | refine below_set ?_ GE778.out | refine below_set ?_ GE784.out) | exact HB.out)) hb); clear HO767; clear HO771; clear HO777; clear HO782; clear BK762; clear BK773; clear BK778; clear BK784; clear HB; have HO767 := n0_; have HO771 := n1_; have HO777 := n2_; have HO782 := n3_; have BK762 := n4_; have BK773 := n5_; have BK778 := n6_; have BK784 := n7_; have HB := n8_; clear n0_ n1_ n2_ n3_ n4_ n5_ n6_ n7_ n8_; (try clear hb); (try clear hb2); (try clear hk); (try clear hi)))
        go_meet
        case rel => exact ⟨_, (true), (by first | rfl | (simp; done) | (simp [*]; done)), H', ⟨by first | omega | exact Nat.le_refl _⟩, ⟨by (with_reducible repeat (first | apply Kd.R_alloc | apply Kd.R_drewN | apply Kd.R_drew)); exact Kd.R_mono HO771.out (fun _ hk => by first | exact ⟨hk.1.2, hk.2⟩ | grind)⟩, ⟨by (with_reducible repeat (first | apply Kd.R_alloc | apply Kd.R_drewN | apply Kd.R_drew)); exact Kd.R_mono HO777.out (fun _ hk => by first | exact ⟨hk.1.2, hk.2⟩ | grind)⟩, ⟨by (with_reducible repeat (first | apply Kd.R_alloc | apply Kd.R_drewN | apply Kd.R_drew)); exact Kd.R_mono HO782.out (fun _ hk => by first | exact ⟨hk.1.2, hk.2⟩ | grind)⟩, ⟨by (with_reducible repeat (first | refine blk_drewN ?_ _ | refine blk_drew ?_ | refine blk_alloc ?_ _)); exact BK762.out⟩, ⟨by (with_reducible repeat (first | refine blk_drewN ?_ _ | refine blk_drew ?_ | refine blk_alloc ?_ _)); exact BK773.out⟩, ⟨by (with_reducible repeat (first | refine blk_drewN ?_ _ | refine blk_drew ?_ | refine blk_alloc ?_ _)); exact BK778.out⟩, ⟨by (with_reducible repeat (first | refine blk_drewN ?_ _ | refine blk_drew ?_ | refine blk_alloc ?_ _)); exact BK784.out⟩, ⟨by repeat (first | (with_reducible first | exact HB.out | apply below_alloc | apply pw_below_drewN | apply below_drew1 | refine below_set ?_ GE762.out | refine below_set ?_ GE773.out | refine below_set ?_ GE778.out | refine below_set ?_ GE784.out) | exact HB.out)⟩⟩
    case rest =>
      clear HC12
      try clear c1
      try clear c2
      try clear p2
      try clear c3
      try clear c4
      try clear c4b0
      try clear c5
      try clear c11
      try clear c20
      try clear c21
      try clear c22
      try clear c24
      try clear c27
      try clear c28
      try clear c35
      try clear c36
      try clear c37
      try clear c39
      try clear c40
      try clear c41
      try clear c42
      try clear c43
      try clear c44
      try clear c46
      try clear c47
      try clear c50
      try clear c51
      try clear c52
      try clear c54
      try clear c55
      try clear hcz14_0
      try clear hcz14_1
      try clear hcz16_0
      try clear hcz16_1
      try clear hcz22_0
      try clear hcz22_1
      try clear hcz24_0
      try clear hcz24_1
      try clear hcz29_0
      try clear hcz29_1
      try clear hcz32_0
      try clear hcz32_1
      try clear hcz38_0
      try clear hcz38_1
      try clear hcz45_0
      try clear hcz45_1
      try clear hcz48_0
      try clear hcz48_1
      try clear hcz53_0
      try clear hcz53_1
      try clear hcz56_0
      try clear hcz56_1
      try clear hcz6_0
      try clear hcz6_1
      try clear hfz14_0
      try clear hfz14_1
      try clear hfz16_0
      try clear hfz16_1
      try clear hfz22_0
      try clear hfz22_1
      try clear hfz24_0
      try clear hfz24_1
      try clear hfz29_0
      try clear hfz29_1
      try clear hfz32_0
      try clear hfz32_1
      try clear hfz38_0
      try clear hfz38_1
      try clear hfz45_0
      try clear hfz45_1
      try clear hfz48_0
      try clear hfz48_1
      try clear hfz53_0
      try clear hfz53_1
      try clear hfz56_0
      try clear hfz56_1
      try clear hfz6_0
      try clear hfz6_1
      obtain ⟨kq, x44_11, rfl, HA, HJ11, HO_774001, HO_779001, HO_785001, BK762, BK773, BK778, BK784, HB⟩ := hcut
      cases kq with
      | zero => exact absurd HA.out (by simp [laws_FnExactConjugateBraid.j0])
      | succ kj11 =>
        have H := HA.out
        clear HA
        simp only [laws_FnExactConjugateBraid.j0] at H
        by_cases c58 : x44_11 = true
        · subst c58
          have H1 : (some false) = some r := by rw [if_pos rfl] at H; exact H
          clear H
          have H := H1
          clear H1
          obtain rfl := Option.some.inj H
          go_wp2
          go_ret
          exact ⟨by first | rfl | (simp [errW_none, errW_some] <;> rfl) | (simp [*, errW_none, errW_some] <;> rfl), by repeat (first | (with_reducible first | exact HB.out | apply below_alloc | apply pw_below_drewN | apply below_drew1 | refine below_set ?_ GE762.out | refine below_set ?_ GE773.out | refine below_set ?_ GE778.out | refine below_set ?_ GE784.out) | exact HB.out)⟩
        · replace c58 := Bool.eq_false_iff.mpr c58
          subst c58
          have H1 : ((laws_toBraid.f kj11 a0_0 l0_1).bind fun bt786 => ((laws_eqBraid.f kj11 t774 t775 bt786.1 bt786.2).bind fun t790 => (if t790 = true then ((laws_markBraid.f kj11 t774 t775 1).bind fun bt791 => (if bt791.1 < 0 then (laws_FnExactConjugateBraid.j1 kj11 a1 t772 true a0_0 l0_1 t768 t769 t779 t780) else ((laws_eqBraid.f kj11 t779 t780 t768 t769).bind fun t793 => (if t793 = true then (laws_FnExactConjugateBraid.j1 kj11 a1 t772 (t783 != t772) a0_0 l0_1 t768 t769 t779 t780) else (laws_FnExactConjugateBraid.j1 kj11 a1 t772 true a0_0 l0_1 t768 t769 t779 t780))))) else (some false)))) = some r := by rw [if_neg (show ¬ (false = true) by decide)] at H; exact H
          clear H
          have H := H1
          clear H1
          replace H := Option.bind_eq_some_iff.mp H
          obtain ⟨⟨t786, t787⟩, A590, H⟩ := H
          replace H : ((laws_eqBraid.f kj11 t774 t775 t786 t787).bind fun t790 => (if t790 = true then ((laws_markBraid.f kj11 t774 t775 1).bind fun bt791 => (if bt791.1 < 0 then (laws_FnExactConjugateBraid.j1 kj11 a1 t772 true a0_0 l0_1 t768 t769 t779 t780) else ((laws_eqBraid.f kj11 t779 t780 t768 t769).bind fun t793 => (if t793 = true then (laws_FnExactConjugateBraid.j1 kj11 a1 t772 (t783 != t772) a0_0 l0_1 t768 t769 t779 t780) else (laws_FnExactConjugateBraid.j1 kj11 a1 t772 true a0_0 l0_1 t768 t769 t779 t780))))) else (some false))) = some r := H
          have A59 := Aside0.mk A590
          clear A590
          replace H := Option.bind_eq_some_iff.mp H
          obtain ⟨t790, A600, H⟩ := H
          replace H : (if t790 = true then ((laws_markBraid.f kj11 t774 t775 1).bind fun bt791 => (if bt791.1 < 0 then (laws_FnExactConjugateBraid.j1 kj11 a1 t772 true a0_0 l0_1 t768 t769 t779 t780) else ((laws_eqBraid.f kj11 t779 t780 t768 t769).bind fun t793 => (if t793 = true then (laws_FnExactConjugateBraid.j1 kj11 a1 t772 (t783 != t772) a0_0 l0_1 t768 t769 t779 t780) else (laws_FnExactConjugateBraid.j1 kj11 a1 t772 true a0_0 l0_1 t768 t769 t779 t780))))) else (some false)) = some r := H
          have A60 := Aside0.mk A600
          clear A600
          by_cases c61 : t790 = true
          · subst c61
            have H1 : ((laws_markBraid.f kj11 t774 t775 1).bind fun bt791 => (if bt791.1 < 0 then (laws_FnExactConjugateBraid.j1 kj11 a1 t772 true a0_0 l0_1 t768 t769 t779 t780) else ((laws_eqBraid.f kj11 t779 t780 t768 t769).bind fun t793 => (if t793 = true then (laws_FnExactConjugateBraid.j1 kj11 a1 t772 (t783 != t772) a0_0 l0_1 t768 t769 t779 t780) else (laws_FnExactConjugateBraid.j1 kj11 a1 t772 true a0_0 l0_1 t768 t769 t779 t780))))) = some r := by rw [if_pos rfl] at H; exact H
            clear H
            have H := H1
            clear H1
            replace H := Option.bind_eq_some_iff.mp H
            obtain ⟨⟨t791, t792⟩, A620, H⟩ := H
            replace H : (if t791 < 0 then (laws_FnExactConjugateBraid.j1 kj11 a1 t772 true a0_0 l0_1 t768 t769 t779 t780) else ((laws_eqBraid.f kj11 t779 t780 t768 t769).bind fun t793 => (if t793 = true then (laws_FnExactConjugateBraid.j1 kj11 a1 t772 (t783 != t772) a0_0 l0_1 t768 t769 t779 t780) else (laws_FnExactConjugateBraid.j1 kj11 a1 t772 true a0_0 l0_1 t768 t769 t779 t780)))) = some r := H
            have A62 := Aside0.mk A620
            clear A620
            have HC63 := Aside0.mk H
            clear H
            try go_wp2
            have n0_ := Aside0.mk (Kd.R_drew HO_774001.out)
            have n1_ := Aside0.mk (Kd.R_drew HO_779001.out)
            have n2_ := Aside0.mk (Kd.R_drew HO_785001.out)
            have n3_ := Aside0.mk (blk_drew BK762.out)
            have n4_ := Aside0.mk (blk_drew BK773.out)
            have n5_ := Aside0.mk (blk_drew BK778.out)
            have n6_ := Aside0.mk (blk_drew BK784.out)
            have n7_ := Aside0.mk (below_drew1 HB.out)
            clear HO_774001
            clear HO_779001
            clear HO_785001
            clear BK762
            clear BK773
            clear BK778
            clear BK784
            clear HB
            have HO_774001 := n0_
            have HO_779001 := n1_
            have HO_785001 := n2_
            have BK762 := n3_
            have BK773 := n4_
            have BK778 := n5_
            have BK784 := n6_
            have HB := n7_
            clear n0_ n1_ n2_ n3_ n4_ n5_ n6_ n7_
            refine start_ (n := 5) (S := fun w' => w'.cell? ⟨gb778, 0, none⟩ = some (.int .i64 t774) ∧ w'.cell? ⟨gb778, 1, none⟩ = some (.slice Ao30 t775.length co30) ∧ w'.cell? ⟨gb762, 0, none⟩ = some (.int .i64 a0_0) ∧ w'.cell? ⟨gb762, 1, none⟩ = some (.slice A0_1 l0_1.length c0_1)) (ds := []) #[false, false, false, false, false] (by kernel_rfl) rfl rfl ⟨(blk_cell BK778.out 0).trans rfl, (blk_cell BK778.out 1).trans rfl, (blk_cell BK762.out 0).trans rfl, (blk_cell BK762.out 1).trans rfl⟩ (fun hHeld => ?_)
            generalize wc.drew = w64 at HO_774001 HO_779001 HO_785001 BK762 BK773 BK778 BK784 HB hHeld ⊢
            refine take_ (i := 0) (N := some 45) (v := ?_) (a' := ?_) #[true, false, false, false, false] rfl rfl (by kernel_rfl) (fun _ _ _ h => h) (Or.inl ⟨by rfl, ?_⟩) hHeld ?_ ?_
            rotate_left
            · rintro w' ⟨s0, s1, s2, s3⟩
              go_simp
              with_reducible rfl
            rotate_left
            · simp only [Act.put, List.setIfInBounds_toArray, List.set_cons_zero, List.set_cons_succ, i64_w, i32_w]
              rfl
            refine take_ (i := 1) (N := some 46) (v := ?_) (a' := ?_) #[true, true, false, false, false] rfl rfl (by kernel_rfl) (fun _ _ _ h => h) (Or.inl ⟨by rfl, ?_⟩) hHeld ?_ ?_
            rotate_left
            · rintro w' ⟨s0, s1, s2, s3⟩
              go_simp
              with_reducible rfl
            rotate_left
            · simp only [Act.put, List.setIfInBounds_toArray, List.set_cons_zero, List.set_cons_succ, i64_w, i32_w]
              rfl
            refine one_ (i := 2) (N := some 47) #[true, true, true, false, false] rfl rfl (by kernel_rfl) (by decide) (fun K hK => ?_)
            refine goes_ Try.func22 (by kernel_rfl) rfl #[.agg #[.int .i64 a0_0, .slice A0_1 l0_1.length c0_1]] (by rfl) rfl rfl (by (try simp only [List.map_toArray, List.map_cons, List.map_nil]); first | done | rfl | (simp only [List.length_drop, List.length_take]; rfl)) ?_
            with_reducible refine (laws_toBraid.calls kj11 a0_0 _ _ l0_1 t786 t787 _ ?side1 ?side2 A59.out).mono ?_
            (case side1 => repeat (first | exact (Kd.C_below HR0_1.out HB.out) | (with_reducible refine Kd.C_alloc ?_ _) | (with_reducible refine Kd.C_drewN ?_ _) | (with_reducible refine Kd.C_drew ?_)))
            (case side2 => exact HC0_1.out)
            rintro e w65 ⟨v788, rfl, ho0, hb⟩
            refine ⟨_, rfl, ?_⟩
            have n0_ := Aside0.mk (Kd.R_elder' (by (with_reducible repeat (first | apply Kd.R_alloc | apply Kd.R_drewN | apply Kd.R_drew)); exact HO_774001.out) (Kd.R_base ho0) hb)
            have n1_ := Aside0.mk (Kd.R_elder' (by (with_reducible repeat (first | apply Kd.R_alloc | apply Kd.R_drewN | apply Kd.R_drew)); exact HO_779001.out) (Kd.R_base ho0) hb)
            have n2_ := Aside0.mk (Kd.R_elder' (by (with_reducible repeat (first | apply Kd.R_alloc | apply Kd.R_drewN | apply Kd.R_drew)); exact HO_785001.out) (Kd.R_base ho0) hb)
            have n3_ := Aside0.mk (Kd.R_lower (Kd.R_new' (Kd.R_new' (Kd.R_new' ho0 (Kd.R_lt (by (with_reducible repeat (first | apply Kd.R_alloc | apply Kd.R_drewN | apply Kd.R_drew)); exact HO_774001.out))) (Kd.R_lt (by (with_reducible repeat (first | apply Kd.R_alloc | apply Kd.R_drewN | apply Kd.R_drew)); exact HO_779001.out))) (Kd.R_lt (by (with_reducible repeat (first | apply Kd.R_alloc | apply Kd.R_drewN | apply Kd.R_drew)); exact HO_785001.out))) (below_size (by repeat (first | (with_reducible first | exact HB.out | apply below_alloc | apply pw_below_drewN | apply below_drew1 | refine below_set ?_ GE762.out | refine below_set ?_ GE773.out | refine below_set ?_ GE778.out | refine below_set ?_ GE784.out) | exact HB.out))))
            have n4_ := Aside0.mk (blk_below (g := gb762) (o := .cells #[.int .i64 a0_0, .slice A0_1 l0_1.length c0_1] 30 (0, 0)) (by (with_reducible repeat (first | refine blk_drewN ?_ _ | refine blk_drew ?_ | refine blk_alloc ?_ _)); exact BK762.out) hb)
            have n5_ := Aside0.mk (blk_below (g := gb773) (o := .cells #[.int .i64 t768, .slice Ao23 t769.length co23] 33 (0, 0)) (by (with_reducible repeat (first | refine blk_drewN ?_ _ | refine blk_drew ?_ | refine blk_alloc ?_ _)); exact BK773.out) hb)
            have n6_ := Aside0.mk (blk_below (g := gb778) (o := .cells #[.int .i64 t774, .slice Ao30 t775.length co30] 33 (0, 0)) (by (with_reducible repeat (first | refine blk_drewN ?_ _ | refine blk_drew ?_ | refine blk_alloc ?_ _)); exact BK778.out) hb)
            have n7_ := Aside0.mk (blk_below (g := gb784) (o := .cells #[.int .i64 t779, .slice Ao39 t780.length co39] 33 (0, 0)) (by (with_reducible repeat (first | refine blk_drewN ?_ _ | refine blk_drew ?_ | refine blk_alloc ?_ _)); exact BK784.out) hb)
            have n8_ := Aside0.mk (below_step (by repeat (first | (with_reducible first | exact HB.out | apply below_alloc | apply pw_below_drewN | apply below_drew1 | refine below_set ?_ GE762.out | refine below_set ?_ GE773.out | refine below_set ?_ GE778.out | refine below_set ?_ GE784.out) | exact HB.out)) hb)
            clear HO_774001
            clear HO_779001
            clear HO_785001
            clear BK762
            clear BK773
            clear BK778
            clear BK784
            clear HB
            have HO_774001 := n0_
            have HO_779001 := n1_
            have HO_785001 := n2_
            have HO789 := n3_
            have BK762 := n4_
            have BK773 := n5_
            have BK778 := n6_
            have BK784 := n7_
            have HB := n8_
            clear n0_ n1_ n2_ n3_ n4_ n5_ n6_ n7_ n8_
            (try clear hb)
            (try clear hb2)
            (try clear hk)
            (try clear hi)
            (try clear ho0)
            obtain ⟨Ao66, co66, eo66⟩ := Kd.R_slice HO789.out
            (first | subst eo66 | (injection eo66 with f1_ f2_ f3_; have f4_ := f1_.symm; have f5_ := f3_.symm; clear f1_ f2_ f3_; subst f4_; subst f5_))
            refine hK.out _ _ ⟨(blk_cell BK778.out 0).trans rfl, (blk_cell BK778.out 1).trans rfl, (blk_cell BK762.out 0).trans rfl, (blk_cell BK762.out 1).trans rfl⟩ (fun hHeld => ?_)
            clear hK K
            refine norm_ (a' := ?_) ?_ ?_
            rotate_left
            · show Act.put _ (some 47) _ = _
              simp only [Act.put, List.setIfInBounds_toArray, List.set_cons_zero, List.set_cons_succ, i64_w, i32_w]
              rfl
            refine one_ (i := 3) (N := some 48) #[true, true, true, true, false] rfl rfl (by kernel_rfl) (by decide) (fun K hK => ?_)
            refine goes_ Try.func24 (by kernel_rfl) rfl #[.agg #[.int .i64 t774, .slice Ao30 t775.length co30], .agg #[.int .i64 t786, .slice Ao66 t787.length co66]] (by rfl) rfl rfl (by (try simp only [List.map_toArray, List.map_cons, List.map_nil]); first | done | rfl | (simp only [List.length_drop, List.length_take]; rfl)) ?_
            with_reducible refine (laws_eqBraid.calls kj11 t774 _ _ t775 t786 _ _ t787 true _ ?side1 ?side2 ?side3 ?side4 A60.out).mono ?_
            (case side1 => repeat (first | exact (Kd.R_reads' HO_779001.out).2.2 | (with_reducible refine Kd.C_alloc ?_ _) | (with_reducible refine Kd.C_drewN ?_ _) | (with_reducible refine Kd.C_drew ?_)))
            (case side2 => exact (Kd.R_reads' HO_779001.out).2.1)
            (case side3 => repeat (first | exact (Kd.R_reads' HO789.out).2.2 | (with_reducible refine Kd.C_alloc ?_ _) | (with_reducible refine Kd.C_drewN ?_ _) | (with_reducible refine Kd.C_drew ?_)))
            (case side4 => exact (Kd.R_reads' HO789.out).2.1)
            rintro e w67 ⟨rfl, hb⟩
            refine ⟨_, rfl, ?_⟩
            have n0_ := Aside0.mk (Kd.R_below (by (with_reducible repeat (first | apply Kd.R_alloc | apply Kd.R_drewN | apply Kd.R_drew)); exact HO_774001.out) hb)
            have n1_ := Aside0.mk (Kd.R_below (by (with_reducible repeat (first | apply Kd.R_alloc | apply Kd.R_drewN | apply Kd.R_drew)); exact HO_779001.out) hb)
            have n2_ := Aside0.mk (Kd.R_below (by (with_reducible repeat (first | apply Kd.R_alloc | apply Kd.R_drewN | apply Kd.R_drew)); exact HO_785001.out) hb)
            have n3_ := Aside0.mk (Kd.R_below (by (with_reducible repeat (first | apply Kd.R_alloc | apply Kd.R_drewN | apply Kd.R_drew)); exact HO789.out) hb)
            have n4_ := Aside0.mk (blk_below (g := gb762) (o := .cells #[.int .i64 a0_0, .slice A0_1 l0_1.length c0_1] 30 (0, 0)) (by (with_reducible repeat (first | refine blk_drewN ?_ _ | refine blk_drew ?_ | refine blk_alloc ?_ _)); exact BK762.out) hb)
            have n5_ := Aside0.mk (blk_below (g := gb773) (o := .cells #[.int .i64 t768, .slice Ao23 t769.length co23] 33 (0, 0)) (by (with_reducible repeat (first | refine blk_drewN ?_ _ | refine blk_drew ?_ | refine blk_alloc ?_ _)); exact BK773.out) hb)
            have n6_ := Aside0.mk (blk_below (g := gb778) (o := .cells #[.int .i64 t774, .slice Ao30 t775.length co30] 33 (0, 0)) (by (with_reducible repeat (first | refine blk_drewN ?_ _ | refine blk_drew ?_ | refine blk_alloc ?_ _)); exact BK778.out) hb)
            have n7_ := Aside0.mk (blk_below (g := gb784) (o := .cells #[.int .i64 t779, .slice Ao39 t780.length co39] 33 (0, 0)) (by (with_reducible repeat (first | refine blk_drewN ?_ _ | refine blk_drew ?_ | refine blk_alloc ?_ _)); exact BK784.out) hb)
            have n8_ := Aside0.mk (below_step (by repeat (first | (with_reducible first | exact HB.out | apply below_alloc | apply pw_below_drewN | apply below_drew1 | refine below_set ?_ GE762.out | refine below_set ?_ GE773.out | refine below_set ?_ GE778.out | refine below_set ?_ GE784.out) | exact HB.out)) hb)
            clear HO_774001
            clear HO_779001
            clear HO_785001
            clear HO789
            clear BK762
            clear BK773
            clear BK778
            clear BK784
            clear HB
            have HO_774001 := n0_
            have HO_779001 := n1_
            have HO_785001 := n2_
            have HO789 := n3_
            have BK762 := n4_
            have BK773 := n5_
            have BK778 := n6_
            have BK784 := n7_
            have HB := n8_
            clear n0_ n1_ n2_ n3_ n4_ n5_ n6_ n7_ n8_
            (try clear hb)
            (try clear hb2)
            (try clear hk)
            (try clear hi)
            refine hK.out _ _ ⟨(blk_cell BK778.out 0).trans rfl, (blk_cell BK778.out 1).trans rfl, (blk_cell BK762.out 0).trans rfl, (blk_cell BK762.out 1).trans rfl⟩ (fun hHeld => ?_)
            clear hK K
            refine norm_ (a' := ?_) ?_ ?_
            rotate_left
            · show Act.put _ (some 48) _ = _
              simp only [Act.put, List.setIfInBounds_toArray, List.set_cons_zero, List.set_cons_succ, i64_w, i32_w]
              rfl
            refine pure_ (i := 4) (N := some 49) (v := ?_) (a' := ?_) #[true, true, true, true, true] rfl rfl (by kernel_rfl) (fun _ _ _ h => h) (Or.inl ⟨by rfl, ?_⟩) ?_ ?_
            rotate_left
            · intro w'
              go_simp
              with_reducible rfl
            rotate_left
            · simp only [Act.put, List.setIfInBounds_toArray, List.set_cons_zero, List.set_cons_succ, i64_w, i32_w]
              rfl
            refine done_ (by kernel_rfl) ?_
            have hnb68 := NB778_762.out
            have hnc68 := NB762_778.out
            have hnb69 := NB778_773.out
            have hnc69 := NB773_778.out
            have hnb70 := NB778_784.out
            have hnc70 := NB784_778.out
            have hcz71_0 : w67.cell? ⟨gb778, 0, none⟩ = some (.int .i64 t774) := (blk_cell BK778.out 0).trans rfl
            have hcz71_1 : w67.cell? ⟨gb778, 1, none⟩ = some (.slice Ao30 t775.length co30) := (blk_cell BK778.out 1).trans rfl
            have hfz71_0 := blk_frozen BK778.out 0
            have hfz71_1 := blk_frozen BK778.out 1
            go_upto_region 14 with (first | ((with_reducible refine gate_callee (f := 27) rfl ?_); refine goesL_ (some 52) rfl rfl Try.func27 (by kernel_rfl) rfl #[.agg #[.int .i64 t774, .slice Ao30 t775.length co30], .int .i64 1] rfl (by (try simp only [List.map_toArray, List.map_cons, List.map_nil]); first | done | rfl | (simp only [List.length_drop, List.length_take]; rfl)) ?_; (with_reducible refine (laws_markBraid.calls kj11 t774 (fun k_ => some k_ = (.slice Ao30 t775.length co30 : Value).ownBlock) (.slice Ao30 t775.length co30) t775 1 t791 t792 w _ ?side1 ?side2 A62.out).mono ?_); (case side1 => repeat (first | (with_reducible first | exact HB.out | apply below_alloc | apply pw_below_drewN | apply below_drew1 | refine below_set ?_ GE762.out | refine below_set ?_ GE773.out | refine below_set ?_ GE778.out | refine below_set ?_ GE784.out) | exact HB.out)); (case side2 => exact Kd.R_tight rfl HO_779001.out); rintro e w72 ⟨rfl, hy0, hb, hkp⟩; refine ⟨_, rfl, ?_⟩; have n0_ := Aside0.mk (Kd.R_mono (ok' := fun k_ => some k_ ≠ (.slice Ao30 t775.length co30 : Value).ownBlock ∧ some k_ ≠ (.slice Ao39 t780.length co39 : Value).ownBlock ∧ some k_ ≠ (.slice Ao66 t787.length co66 : Value).ownBlock) (Kd.R_keptB (HO_774001.out) hkp (fun k_ hk_ hs_ => by first | exact (hk_.1.1) hs_ | grind)) (fun k_ hk_ => by first | exact ⟨hk_.1.1.1, hk_.1.1.2, hk_.1.2⟩ | grind)); have n1_ := Aside0.mk (Kd.R_reok rfl hy0 (fun k_ e_ => HO_779001.out.1 k_ e_)); have n2_ := Aside0.mk (Kd.R_mono (ok' := fun k_ => some k_ ≠ (.slice Ao23 t769.length co23 : Value).ownBlock ∧ some k_ ≠ (.slice Ao30 t775.length co30 : Value).ownBlock ∧ some k_ ≠ (.slice Ao66 t787.length co66 : Value).ownBlock) (Kd.R_keptB (HO_785001.out) hkp (fun k_ hk_ hs_ => by first | exact (hk_.1.2) hs_ | grind)) (fun k_ hk_ => by first | exact ⟨hk_.1.1.1, hk_.1.1.2, hk_.1.2⟩ | grind)); have n3_ := Aside0.mk (blk_kept (by (with_reducible repeat (first | refine blk_drewN ?_ _ | refine blk_drew ?_ | refine blk_alloc ?_ _)); exact BK762.out) hkp (fun hs_ => (fun e_ => (Kd.R_ne HO_779001.out BK762.out (by decide)) e_) hs_)); have n4_ := Aside0.mk (blk_kept (by (with_reducible repeat (first | refine blk_drewN ?_ _ | refine blk_drew ?_ | refine blk_alloc ?_ _)); exact BK773.out) hkp (fun hs_ => (fun e_ => (Kd.R_ne HO_779001.out BK773.out (by decide)) e_) hs_)); have n5_ := Aside0.mk (blk_kept (by (with_reducible repeat (first | refine blk_drewN ?_ _ | refine blk_drew ?_ | refine blk_alloc ?_ _)); exact BK778.out) hkp (fun hs_ => (fun e_ => (Kd.R_ne HO_779001.out BK778.out (by decide)) e_) hs_)); have n6_ := Aside0.mk (blk_kept (by (with_reducible repeat (first | refine blk_drewN ?_ _ | refine blk_drew ?_ | refine blk_alloc ?_ _)); exact BK784.out) hkp (fun hs_ => (fun e_ => (Kd.R_ne HO_779001.out BK784.out (by decide)) e_) hs_)); have n7_ := Aside0.mk (Kd.R_mono (ok' := fun k_ => some k_ ≠ (.slice Ao23 t769.length co23 : Value).ownBlock ∧ some k_ ≠ (.slice Ao30 t775.length co30 : Value).ownBlock ∧ some k_ ≠ (.slice Ao39 t780.length co39 : Value).ownBlock) (Kd.R_keptB (HO789.out) hkp (fun k_ hk_ hs_ => by first | exact (hk_.1.2) hs_ | grind)) (fun k_ hk_ => by first | exact ⟨hk_.1.1.1.2, hk_.1.1.2, hk_.1.2⟩ | grind)); have n8_ := Aside0.mk (hb); clear HO_774001; clear HO_779001; clear HO_785001; clear BK762; clear BK773; clear BK778; clear BK784; clear HO789; clear HB; have HO_774001 := n0_; have HO_779001 := n1_; have HO_785001 := n2_; have BK762 := n3_; have BK773 := n4_; have BK778 := n5_; have BK784 := n6_; have HO789 := n7_; have HB := n8_; clear n0_ n1_ n2_ n3_ n4_ n5_ n6_ n7_ n8_; (try clear hb); (try clear hkp); (try clear hy0)) | (go_at_call 27; (with_reducible refine (laws_markBraid.calls kj11 t774 (fun k_ => some k_ = (.slice Ao30 t775.length co30 : Value).ownBlock) (.slice Ao30 t775.length co30) t775 1 t791 t792 w _ ?side1 ?side2 A62.out).mono ?_); (case side1 => repeat (first | (with_reducible first | exact HB.out | apply below_alloc | apply pw_below_drewN | apply below_drew1 | refine below_set ?_ GE762.out | refine below_set ?_ GE773.out | refine below_set ?_ GE778.out | refine below_set ?_ GE784.out) | exact HB.out)); (case side2 => exact Kd.R_tight rfl HO_779001.out); rintro e w72 ⟨rfl, hy0, hb, hkp⟩; have n0_ := Aside0.mk (Kd.R_mono (ok' := fun k_ => some k_ ≠ (.slice Ao30 t775.length co30 : Value).ownBlock ∧ some k_ ≠ (.slice Ao39 t780.length co39 : Value).ownBlock ∧ some k_ ≠ (.slice Ao66 t787.length co66 : Value).ownBlock) (Kd.R_keptB (HO_774001.out) hkp (fun k_ hk_ hs_ => by first | exact (hk_.1.1) hs_ | grind)) (fun k_ hk_ => by first | exact ⟨hk_.1.1.1, hk_.1.1.2, hk_.1.2⟩ | grind)); have n1_ := Aside0.mk (Kd.R_reok rfl hy0 (fun k_ e_ => HO_779001.out.1 k_ e_)); have n2_ := Aside0.mk (Kd.R_mono (ok' := fun k_ => some k_ ≠ (.slice Ao23 t769.length co23 : Value).ownBlock ∧ some k_ ≠ (.slice Ao30 t775.length co30 : Value).ownBlock ∧ some k_ ≠ (.slice Ao66 t787.length co66 : Value).ownBlock) (Kd.R_keptB (HO_785001.out) hkp (fun k_ hk_ hs_ => by first | exact (hk_.1.2) hs_ | grind)) (fun k_ hk_ => by first | exact ⟨hk_.1.1.1, hk_.1.1.2, hk_.1.2⟩ | grind)); have n3_ := Aside0.mk (blk_kept (by (with_reducible repeat (first | refine blk_drewN ?_ _ | refine blk_drew ?_ | refine blk_alloc ?_ _)); exact BK762.out) hkp (fun hs_ => (fun e_ => (Kd.R_ne HO_779001.out BK762.out (by decide)) e_) hs_)); have n4_ := Aside0.mk (blk_kept (by (with_reducible repeat (first | refine blk_drewN ?_ _ | refine blk_drew ?_ | refine blk_alloc ?_ _)); exact BK773.out) hkp (fun hs_ => (fun e_ => (Kd.R_ne HO_779001.out BK773.out (by decide)) e_) hs_)); have n5_ := Aside0.mk (blk_kept (by (with_reducible repeat (first | refine blk_drewN ?_ _ | refine blk_drew ?_ | refine blk_alloc ?_ _)); exact BK778.out) hkp (fun hs_ => (fun e_ => (Kd.R_ne HO_779001.out BK778.out (by decide)) e_) hs_)); have n6_ := Aside0.mk (blk_kept (by (with_reducible repeat (first | refine blk_drewN ?_ _ | refine blk_drew ?_ | refine blk_alloc ?_ _)); exact BK784.out) hkp (fun hs_ => (fun e_ => (Kd.R_ne HO_779001.out BK784.out (by decide)) e_) hs_)); have n7_ := Aside0.mk (Kd.R_mono (ok' := fun k_ => some k_ ≠ (.slice Ao23 t769.length co23 : Value).ownBlock ∧ some k_ ≠ (.slice Ao30 t775.length co30 : Value).ownBlock ∧ some k_ ≠ (.slice Ao39 t780.length co39 : Value).ownBlock) (Kd.R_keptB (HO789.out) hkp (fun k_ hk_ hs_ => by first | exact (hk_.1.2) hs_ | grind)) (fun k_ hk_ => by first | exact ⟨hk_.1.1.1.2, hk_.1.1.2, hk_.1.2⟩ | grind)); have n8_ := Aside0.mk (hb); clear HO_774001; clear HO_779001; clear HO_785001; clear BK762; clear BK773; clear BK778; clear BK784; clear HO789; clear HB; have HO_774001 := n0_; have HO_779001 := n1_; have HO_785001 := n2_; have BK762 := n3_; have BK773 := n4_; have BK778 := n5_; have BK784 := n6_; have HO789 := n7_; have HB := n8_; clear n0_ n1_ n2_ n3_ n4_ n5_ n6_ n7_ n8_; (try clear hb); (try clear hkp); (try clear hy0)))
            (try simp only [Act.put, List.setIfInBounds_toArray, List.set_cons_zero, List.set_cons_succ])
            go_cut [65] (fun v65 wc => ∃ (kq : Nat) (x65_62 : Bool), v65 = .bool x65_62 ∧ Aside0 (laws_FnExactConjugateBraid.j1 kq a1 t772 x65_62 a0_0 l0_1 t768 t769 t779 t780 = some r) ∧ Aside0 (kq ≤ kj11) ∧ Aside0 (Kd.R (Kd.int .i64) 2 wc w.heap.size (fun k_ => some k_ ≠ ((.slice Ao30 t775.length co30) : Value).ownBlock ∧ some k_ ≠ ((.slice Ao39 t780.length co39) : Value).ownBlock) (.slice Ao23 t769.length co23) t769) ∧ Aside0 (Kd.R (Kd.int .i64) 2 wc w.heap.size (fun k_ => some k_ ≠ ((.slice Ao23 t769.length co23) : Value).ownBlock ∧ some k_ ≠ ((.slice Ao39 t780.length co39) : Value).ownBlock) (.slice Ao30 t775.length co30) t792) ∧ Aside0 (Kd.R (Kd.int .i64) 2 wc w.heap.size (fun k_ => some k_ ≠ ((.slice Ao23 t769.length co23) : Value).ownBlock ∧ some k_ ≠ ((.slice Ao30 t775.length co30) : Value).ownBlock) (.slice Ao39 t780.length co39) t780) ∧ Aside0 (wc.heap[gb762]? = some (.cells #[.int .i64 a0_0, (.slice A0_1 l0_1.length c0_1)] 30 (0, 0))) ∧ Aside0 (wc.heap[gb773]? = some (.cells #[.int .i64 t768, (.slice Ao23 t769.length co23)] 33 (0, 0))) ∧ Aside0 (wc.heap[gb778]? = some (.cells #[.int .i64 t774, (.slice Ao30 t775.length co30)] 33 (0, 0))) ∧ Aside0 (wc.heap[gb784]? = some (.cells #[.int .i64 t779, (.slice Ao39 t780.length co39)] 33 (0, 0))) ∧ Aside0 (Below w.heap.size w wc))
            case first =>
              have H := HC63.out
              clear HC63
              by_cases c73 : t791 < 0
              · rw [if_pos c73] at H
                have c73b0 : decide (t791 < 0) = true := decide_eq_true c73
                clear c73
                (first | rw [c73b0] | (simp only [i64_w, i32_w]; rw [c73b0]) | skip)
                have H' := Aside0.mk H
                clear H
                go_wp2
                go_meet
                case rel => exact ⟨_, (true), (by first | rfl | (simp; done) | (simp [*]; done)), H', ⟨by have := HJ11.out; first | omega | exact Nat.le_refl _⟩, ⟨by (with_reducible repeat (first | apply Kd.R_alloc | apply Kd.R_drewN | apply Kd.R_drew)); exact Kd.R_mono HO_774001.out (fun _ hk => by first | exact ⟨hk.1, hk.2.1⟩ | grind)⟩, ⟨by (with_reducible repeat (first | apply Kd.R_alloc | apply Kd.R_drewN | apply Kd.R_drew)); exact Kd.R_mono HO_779001.out (fun _ hk => by first | exact ⟨hk.1.1, hk.1.2⟩ | grind)⟩, ⟨by (with_reducible repeat (first | apply Kd.R_alloc | apply Kd.R_drewN | apply Kd.R_drew)); exact Kd.R_mono HO_785001.out (fun _ hk => by first | exact ⟨hk.1, hk.2.1⟩ | grind)⟩, ⟨by (with_reducible repeat (first | refine blk_drewN ?_ _ | refine blk_drew ?_ | refine blk_alloc ?_ _)); exact BK762.out⟩, ⟨by (with_reducible repeat (first | refine blk_drewN ?_ _ | refine blk_drew ?_ | refine blk_alloc ?_ _)); exact BK773.out⟩, ⟨by (with_reducible repeat (first | refine blk_drewN ?_ _ | refine blk_drew ?_ | refine blk_alloc ?_ _)); exact BK778.out⟩, ⟨by (with_reducible repeat (first | refine blk_drewN ?_ _ | refine blk_drew ?_ | refine blk_alloc ?_ _)); exact BK784.out⟩, ⟨by repeat (first | (with_reducible first | exact HB.out | apply below_alloc | apply pw_below_drewN | apply below_drew1 | refine below_set ?_ GE762.out | refine below_set ?_ GE773.out | refine below_set ?_ GE778.out | refine below_set ?_ GE784.out) | exact HB.out)⟩⟩
              · rw [if_neg c73] at H
                have c73b0 : decide (t791 < 0) = false := decide_eq_false c73
                clear c73
                (first | rw [c73b0] | (simp only [i64_w, i32_w]; rw [c73b0]) | skip)
                replace H := Option.bind_eq_some_iff.mp H
                obtain ⟨t793, A740, H⟩ := H
                replace H : (if t793 = true then (laws_FnExactConjugateBraid.j1 kj11 a1 t772 (t783 != t772) a0_0 l0_1 t768 t769 t779 t780) else (laws_FnExactConjugateBraid.j1 kj11 a1 t772 true a0_0 l0_1 t768 t769 t779 t780)) = some r := H
                have A74 := Aside0.mk A740
                clear A740
                by_cases c75 : t793 = true
                · subst c75
                  have H1 : (laws_FnExactConjugateBraid.j1 kj11 a1 t772 (t783 != t772) a0_0 l0_1 t768 t769 t779 t780) = some r := by rw [if_pos rfl] at H; exact H
                  clear H
                  have H := H1
                  clear H1
                  have H' := Aside0.mk H
                  clear H
                  have hnb76 := NB784_762.out
                  have hnc76 := NB762_784.out
                  have hnb77 := NB784_773.out
                  have hnc77 := NB773_784.out
                  have hnb78 := NB784_778.out
                  have hnc78 := NB778_784.out
                  have hcz79_0 : w72.cell? ⟨gb784, 0, none⟩ = some (.int .i64 t779) := (blk_cell BK784.out 0).trans rfl
                  have hcz79_1 : w72.cell? ⟨gb784, 1, none⟩ = some (.slice Ao39 t780.length co39) := (blk_cell BK784.out 1).trans rfl
                  have hfz79_0 := blk_frozen BK784.out 0
                  have hfz79_1 := blk_frozen BK784.out 1
                  have hnb80 := NB773_762.out
                  have hnc80 := NB762_773.out
                  have hnb81 := NB773_778.out
                  have hnc81 := NB778_773.out
                  have hcz82_0 : w72.cell? ⟨gb773, 0, none⟩ = some (.int .i64 t768) := (blk_cell BK773.out 0).trans rfl
                  have hcz82_1 : w72.cell? ⟨gb773, 1, none⟩ = some (.slice Ao23 t769.length co23) := (blk_cell BK773.out 1).trans rfl
                  have hfz82_0 := blk_frozen BK773.out 0
                  have hfz82_1 := blk_frozen BK773.out 1
                  go_wp2_with (first | (go_at_call 24; (with_reducible refine (laws_eqBraid.calls kj11 t779 _ _ t780 t768 _ _ t769 true _ ?side1 ?side2 ?side3 ?side4 A74.out).mono ?_); (case side1 => repeat (first | exact (Kd.R_reads' HO_785001.out).2.2 | (with_reducible refine Kd.C_alloc ?_ _) | (with_reducible refine Kd.C_drewN ?_ _) | (with_reducible refine Kd.C_drew ?_))); (case side2 => exact (Kd.R_reads' HO_785001.out).2.1); (case side3 => repeat (first | exact (Kd.R_reads' HO_774001.out).2.2 | (with_reducible refine Kd.C_alloc ?_ _) | (with_reducible refine Kd.C_drewN ?_ _) | (with_reducible refine Kd.C_drew ?_))); (case side4 => exact (Kd.R_reads' HO_774001.out).2.1); rintro e w83 ⟨rfl, hb⟩; have n0_ := Aside0.mk (Kd.R_below (by (with_reducible repeat (first | apply Kd.R_alloc | apply Kd.R_drewN | apply Kd.R_drew)); exact HO_774001.out) hb); have n1_ := Aside0.mk (Kd.R_below (by (with_reducible repeat (first | apply Kd.R_alloc | apply Kd.R_drewN | apply Kd.R_drew)); exact HO_779001.out) hb); have n2_ := Aside0.mk (Kd.R_below (by (with_reducible repeat (first | apply Kd.R_alloc | apply Kd.R_drewN | apply Kd.R_drew)); exact HO_785001.out) hb); have n3_ := Aside0.mk (Kd.R_below (by (with_reducible repeat (first | apply Kd.R_alloc | apply Kd.R_drewN | apply Kd.R_drew)); exact HO789.out) hb); have n4_ := Aside0.mk (blk_below (g := gb762) (o := .cells #[.int .i64 a0_0, .slice A0_1 l0_1.length c0_1] 30 (0, 0)) (by (with_reducible repeat (first | refine blk_drewN ?_ _ | refine blk_drew ?_ | refine blk_alloc ?_ _)); exact BK762.out) hb); have n5_ := Aside0.mk (blk_below (g := gb773) (o := .cells #[.int .i64 t768, .slice Ao23 t769.length co23] 33 (0, 0)) (by (with_reducible repeat (first | refine blk_drewN ?_ _ | refine blk_drew ?_ | refine blk_alloc ?_ _)); exact BK773.out) hb); have n6_ := Aside0.mk (blk_below (g := gb778) (o := .cells #[.int .i64 t774, .slice Ao30 t775.length co30] 33 (0, 0)) (by (with_reducible repeat (first | refine blk_drewN ?_ _ | refine blk_drew ?_ | refine blk_alloc ?_ _)); exact BK778.out) hb); have n7_ := Aside0.mk (blk_below (g := gb784) (o := .cells #[.int .i64 t779, .slice Ao39 t780.length co39] 33 (0, 0)) (by (with_reducible repeat (first | refine blk_drewN ?_ _ | refine blk_drew ?_ | refine blk_alloc ?_ _)); exact BK784.out) hb); have n8_ := Aside0.mk (below_step (by repeat (first | (with_reducible first | exact HB.out | apply below_alloc | apply pw_below_drewN | apply below_drew1 | refine below_set ?_ GE762.out | refine below_set ?_ GE773.out | refine below_set ?_ GE778.out | refine below_set ?_ GE784.out) | exact HB.out)) hb); clear HO_774001; clear HO_779001; clear HO_785001; clear HO789; clear BK762; clear BK773; clear BK778; clear BK784; clear HB; have HO_774001 := n0_; have HO_779001 := n1_; have HO_785001 := n2_; have HO789 := n3_; have BK762 := n4_; have BK773 := n5_; have BK778 := n6_; have BK784 := n7_; have HB := n8_; clear n0_ n1_ n2_ n3_ n4_ n5_ n6_ n7_ n8_; (try clear hb); (try clear hb2); (try clear hk); (try clear hi)))
                  go_meet
                  case rel => exact ⟨_, ((t783 != t772)), (by first | rfl | (simp; done) | (simp [*]; done)), H', ⟨by have := HJ11.out; first | omega | exact Nat.le_refl _⟩, ⟨by (with_reducible repeat (first | apply Kd.R_alloc | apply Kd.R_drewN | apply Kd.R_drew)); exact Kd.R_mono HO_774001.out (fun _ hk => by first | exact ⟨hk.1, hk.2.1⟩ | grind)⟩, ⟨by (with_reducible repeat (first | apply Kd.R_alloc | apply Kd.R_drewN | apply Kd.R_drew)); exact Kd.R_mono HO_779001.out (fun _ hk => by first | exact ⟨hk.1.1, hk.1.2⟩ | grind)⟩, ⟨by (with_reducible repeat (first | apply Kd.R_alloc | apply Kd.R_drewN | apply Kd.R_drew)); exact Kd.R_mono HO_785001.out (fun _ hk => by first | exact ⟨hk.1, hk.2.1⟩ | grind)⟩, ⟨by (with_reducible repeat (first | refine blk_drewN ?_ _ | refine blk_drew ?_ | refine blk_alloc ?_ _)); exact BK762.out⟩, ⟨by (with_reducible repeat (first | refine blk_drewN ?_ _ | refine blk_drew ?_ | refine blk_alloc ?_ _)); exact BK773.out⟩, ⟨by (with_reducible repeat (first | refine blk_drewN ?_ _ | refine blk_drew ?_ | refine blk_alloc ?_ _)); exact BK778.out⟩, ⟨by (with_reducible repeat (first | refine blk_drewN ?_ _ | refine blk_drew ?_ | refine blk_alloc ?_ _)); exact BK784.out⟩, ⟨by repeat (first | (with_reducible first | exact HB.out | apply below_alloc | apply pw_below_drewN | apply below_drew1 | refine below_set ?_ GE762.out | refine below_set ?_ GE773.out | refine below_set ?_ GE778.out | refine below_set ?_ GE784.out) | exact HB.out)⟩⟩
                · replace c75 := Bool.eq_false_iff.mpr c75
                  subst c75
                  have H1 : (laws_FnExactConjugateBraid.j1 kj11 a1 t772 true a0_0 l0_1 t768 t769 t779 t780) = some r := by rw [if_neg (show ¬ (false = true) by decide)] at H; exact H
                  clear H
                  have H := H1
                  clear H1
                  have H' := Aside0.mk H
                  clear H
                  have hnb84 := NB784_762.out
                  have hnc84 := NB762_784.out
                  have hnb85 := NB784_773.out
                  have hnc85 := NB773_784.out
                  have hnb86 := NB784_778.out
                  have hnc86 := NB778_784.out
                  have hcz87_0 : w72.cell? ⟨gb784, 0, none⟩ = some (.int .i64 t779) := (blk_cell BK784.out 0).trans rfl
                  have hcz87_1 : w72.cell? ⟨gb784, 1, none⟩ = some (.slice Ao39 t780.length co39) := (blk_cell BK784.out 1).trans rfl
                  have hfz87_0 := blk_frozen BK784.out 0
                  have hfz87_1 := blk_frozen BK784.out 1
                  have hnb88 := NB773_762.out
                  have hnc88 := NB762_773.out
                  have hnb89 := NB773_778.out
                  have hnc89 := NB778_773.out
                  have hcz90_0 : w72.cell? ⟨gb773, 0, none⟩ = some (.int .i64 t768) := (blk_cell BK773.out 0).trans rfl
                  have hcz90_1 : w72.cell? ⟨gb773, 1, none⟩ = some (.slice Ao23 t769.length co23) := (blk_cell BK773.out 1).trans rfl
                  have hfz90_0 := blk_frozen BK773.out 0
                  have hfz90_1 := blk_frozen BK773.out 1
                  go_wp2_with (first | (go_at_call 24; (with_reducible refine (laws_eqBraid.calls kj11 t779 _ _ t780 t768 _ _ t769 false _ ?side1 ?side2 ?side3 ?side4 A74.out).mono ?_); (case side1 => repeat (first | exact (Kd.R_reads' HO_785001.out).2.2 | (with_reducible refine Kd.C_alloc ?_ _) | (with_reducible refine Kd.C_drewN ?_ _) | (with_reducible refine Kd.C_drew ?_))); (case side2 => exact (Kd.R_reads' HO_785001.out).2.1); (case side3 => repeat (first | exact (Kd.R_reads' HO_774001.out).2.2 | (with_reducible refine Kd.C_alloc ?_ _) | (with_reducible refine Kd.C_drewN ?_ _) | (with_reducible refine Kd.C_drew ?_))); (case side4 => exact (Kd.R_reads' HO_774001.out).2.1); rintro e w91 ⟨rfl, hb⟩; have n0_ := Aside0.mk (Kd.R_below (by (with_reducible repeat (first | apply Kd.R_alloc | apply Kd.R_drewN | apply Kd.R_drew)); exact HO_774001.out) hb); have n1_ := Aside0.mk (Kd.R_below (by (with_reducible repeat (first | apply Kd.R_alloc | apply Kd.R_drewN | apply Kd.R_drew)); exact HO_779001.out) hb); have n2_ := Aside0.mk (Kd.R_below (by (with_reducible repeat (first | apply Kd.R_alloc | apply Kd.R_drewN | apply Kd.R_drew)); exact HO_785001.out) hb); have n3_ := Aside0.mk (Kd.R_below (by (with_reducible repeat (first | apply Kd.R_alloc | apply Kd.R_drewN | apply Kd.R_drew)); exact HO789.out) hb); have n4_ := Aside0.mk (blk_below (g := gb762) (o := .cells #[.int .i64 a0_0, .slice A0_1 l0_1.length c0_1] 30 (0, 0)) (by (with_reducible repeat (first | refine blk_drewN ?_ _ | refine blk_drew ?_ | refine blk_alloc ?_ _)); exact BK762.out) hb); have n5_ := Aside0.mk (blk_below (g := gb773) (o := .cells #[.int .i64 t768, .slice Ao23 t769.length co23] 33 (0, 0)) (by (with_reducible repeat (first | refine blk_drewN ?_ _ | refine blk_drew ?_ | refine blk_alloc ?_ _)); exact BK773.out) hb); have n6_ := Aside0.mk (blk_below (g := gb778) (o := .cells #[.int .i64 t774, .slice Ao30 t775.length co30] 33 (0, 0)) (by (with_reducible repeat (first | refine blk_drewN ?_ _ | refine blk_drew ?_ | refine blk_alloc ?_ _)); exact BK778.out) hb); have n7_ := Aside0.mk (blk_below (g := gb784) (o := .cells #[.int .i64 t779, .slice Ao39 t780.length co39] 33 (0, 0)) (by (with_reducible repeat (first | refine blk_drewN ?_ _ | refine blk_drew ?_ | refine blk_alloc ?_ _)); exact BK784.out) hb); have n8_ := Aside0.mk (below_step (by repeat (first | (with_reducible first | exact HB.out | apply below_alloc | apply pw_below_drewN | apply below_drew1 | refine below_set ?_ GE762.out | refine below_set ?_ GE773.out | refine below_set ?_ GE778.out | refine below_set ?_ GE784.out) | exact HB.out)) hb); clear HO_774001; clear HO_779001; clear HO_785001; clear HO789; clear BK762; clear BK773; clear BK778; clear BK784; clear HB; have HO_774001 := n0_; have HO_779001 := n1_; have HO_785001 := n2_; have HO789 := n3_; have BK762 := n4_; have BK773 := n5_; have BK778 := n6_; have BK784 := n7_; have HB := n8_; clear n0_ n1_ n2_ n3_ n4_ n5_ n6_ n7_ n8_; (try clear hb); (try clear hb2); (try clear hk); (try clear hi)))
                  go_meet
                  case rel => exact ⟨_, (true), (by first | rfl | (simp; done) | (simp [*]; done)), H', ⟨by have := HJ11.out; first | omega | exact Nat.le_refl _⟩, ⟨by (with_reducible repeat (first | apply Kd.R_alloc | apply Kd.R_drewN | apply Kd.R_drew)); exact Kd.R_mono HO_774001.out (fun _ hk => by first | exact ⟨hk.1, hk.2.1⟩ | grind)⟩, ⟨by (with_reducible repeat (first | apply Kd.R_alloc | apply Kd.R_drewN | apply Kd.R_drew)); exact Kd.R_mono HO_779001.out (fun _ hk => by first | exact ⟨hk.1.1, hk.1.2⟩ | grind)⟩, ⟨by (with_reducible repeat (first | apply Kd.R_alloc | apply Kd.R_drewN | apply Kd.R_drew)); exact Kd.R_mono HO_785001.out (fun _ hk => by first | exact ⟨hk.1, hk.2.1⟩ | grind)⟩, ⟨by (with_reducible repeat (first | refine blk_drewN ?_ _ | refine blk_drew ?_ | refine blk_alloc ?_ _)); exact BK762.out⟩, ⟨by (with_reducible repeat (first | refine blk_drewN ?_ _ | refine blk_drew ?_ | refine blk_alloc ?_ _)); exact BK773.out⟩, ⟨by (with_reducible repeat (first | refine blk_drewN ?_ _ | refine blk_drew ?_ | refine blk_alloc ?_ _)); exact BK778.out⟩, ⟨by (with_reducible repeat (first | refine blk_drewN ?_ _ | refine blk_drew ?_ | refine blk_alloc ?_ _)); exact BK784.out⟩, ⟨by repeat (first | (with_reducible first | exact HB.out | apply below_alloc | apply pw_below_drewN | apply below_drew1 | refine below_set ?_ GE762.out | refine below_set ?_ GE773.out | refine below_set ?_ GE778.out | refine below_set ?_ GE784.out) | exact HB.out)⟩⟩
            case rest =>
              clear HC63
              try clear c1
              try clear c2
              try clear p2
              try clear c3
              try clear c4
              try clear c4b0
              try clear c5
              try clear c6
              try clear c7
              try clear c8
              try clear c11
              try clear c20
              try clear c21
              try clear c22
              try clear c24
              try clear c27
              try clear c28
              try clear c35
              try clear c36
              try clear c37
              try clear c39
              try clear c40
              try clear c41
              try clear c42
              try clear c43
              try clear c44
              try clear c46
              try clear c47
              try clear c50
              try clear c51
              try clear c52
              try clear c54
              try clear c55
              try clear c58
              try clear c61
              try clear c68
              try clear c69
              try clear c70
              try clear c73
              try clear c73b0
              try clear c75
              try clear c76
              try clear c77
              try clear c78
              try clear c80
              try clear c81
              try clear c84
              try clear c85
              try clear c86
              try clear c88
              try clear c89
              try clear hcz14_0
              try clear hcz14_1
              try clear hcz16_0
              try clear hcz16_1
              try clear hcz22_0
              try clear hcz22_1
              try clear hcz24_0
              try clear hcz24_1
              try clear hcz29_0
              try clear hcz29_1
              try clear hcz32_0
              try clear hcz32_1
              try clear hcz38_0
              try clear hcz38_1
              try clear hcz45_0
              try clear hcz45_1
              try clear hcz48_0
              try clear hcz48_1
              try clear hcz53_0
              try clear hcz53_1
              try clear hcz56_0
              try clear hcz56_1
              try clear hcz6_0
              try clear hcz6_1
              try clear hcz71_0
              try clear hcz71_1
              try clear hcz79_0
              try clear hcz79_1
              try clear hcz82_0
              try clear hcz82_1
              try clear hcz87_0
              try clear hcz87_1
              try clear hcz90_0
              try clear hcz90_1
              try clear hfz14_0
              try clear hfz14_1
              try clear hfz16_0
              try clear hfz16_1
              try clear hfz22_0
              try clear hfz22_1
              try clear hfz24_0
              try clear hfz24_1
              try clear hfz29_0
              try clear hfz29_1
              try clear hfz32_0
              try clear hfz32_1
              try clear hfz38_0
              try clear hfz38_1
              try clear hfz45_0
              try clear hfz45_1
              try clear hfz48_0
              try clear hfz48_1
              try clear hfz53_0
              try clear hfz53_1
              try clear hfz56_0
              try clear hfz56_1
              try clear hfz6_0
              try clear hfz6_1
              try clear hfz71_0
              try clear hfz71_1
              try clear hfz79_0
              try clear hfz79_1
              try clear hfz82_0
              try clear hfz82_1
              try clear hfz87_0
              try clear hfz87_1
              try clear hfz90_0
              try clear hfz90_1
              try clear p2
              obtain ⟨kq, x65_62, rfl, HA, HJ62, HO_774001, HO_779001, HO_785001, BK762, BK773, BK778, BK784, HB⟩ := hcut
              have hl779001_62 := (Kd.R_reads' HO_779001.out).1
              rw [hl779001_62] at HO_779001
              (try simp only [hl779001_62])
              (try simp only [hl779001_62] at BK762)
              (try simp only [hl779001_62] at BK773)
              (try simp only [hl779001_62] at BK778)
              (try simp only [hl779001_62] at BK784)
              (try simp only [hl779001_62] at HO_774001)
              (try simp only [hl779001_62] at HO_785001)
              cases kq with
              | zero => exact absurd HA.out (by simp [laws_FnExactConjugateBraid.j1])
              | succ kj62 =>
                have H := HA.out
                clear HA
                simp only [laws_FnExactConjugateBraid.j1] at H
                by_cases c92 : x65_62 = true
                · subst c92
                  have H1 : (some false) = some r := by rw [if_pos rfl] at H; exact H
                  clear H
                  have H := H1
                  clear H1
                  obtain rfl := Option.some.inj H
                  go_wp2
                  go_ret
                  exact ⟨by first | rfl | (simp [errW_none, errW_some] <;> rfl) | (simp [*, errW_none, errW_some] <;> rfl), by repeat (first | (with_reducible first | exact HB.out | apply below_alloc | apply pw_below_drewN | apply below_drew1 | refine below_set ?_ GE762.out | refine below_set ?_ GE773.out | refine below_set ?_ GE778.out | refine below_set ?_ GE784.out) | exact HB.out)⟩
                · replace c92 := Bool.eq_false_iff.mpr c92
                  subst c92
                  have H1 : ((laws_markBraid.f kj62 t779 t780 1).bind fun bt794 => ((laws_heldBraid.f kj62 t779 bt794.2 1).bind fun t796 => (if t796 < 0 then (some false) else (if t796 = bt794.1 then ((laws_toBraid.f kj62 a0_0 l0_1).bind fun bt797 => ((impl_ConjugateBraid.f kj62 bt797.1 bt797.2 a1).bind fun bt801 => ((laws_eqBraid.f kj62 bt801.1 bt801.2.1 t768 t769).bind fun t807 => (if t807 = true then (laws_FnExactConjugateBraid.j2 kj62 bt794.1 (bt801.2.2 != t772) t779 bt794.2) else (laws_FnExactConjugateBraid.j2 kj62 bt794.1 true t779 bt794.2))))) else (some false))))) = some r := by rw [if_neg (show ¬ (false = true) by decide)] at H; exact H
                  clear H
                  have H := H1
                  clear H1
                  replace H := Option.bind_eq_some_iff.mp H
                  obtain ⟨⟨t794, t795⟩, A930, H⟩ := H
                  replace H : ((laws_heldBraid.f kj62 t779 t795 1).bind fun t796 => (if t796 < 0 then (some false) else (if t796 = t794 then ((laws_toBraid.f kj62 a0_0 l0_1).bind fun bt797 => ((impl_ConjugateBraid.f kj62 bt797.1 bt797.2 a1).bind fun bt801 => ((laws_eqBraid.f kj62 bt801.1 bt801.2.1 t768 t769).bind fun t807 => (if t807 = true then (laws_FnExactConjugateBraid.j2 kj62 t794 (bt801.2.2 != t772) t779 t795) else (laws_FnExactConjugateBraid.j2 kj62 t794 true t779 t795))))) else (some false)))) = some r := H
                  have A93 := Aside0.mk A930
                  clear A930
                  replace H := Option.bind_eq_some_iff.mp H
                  obtain ⟨t796, A940, H⟩ := H
                  replace H : (if t796 < 0 then (some false) else (if t796 = t794 then ((laws_toBraid.f kj62 a0_0 l0_1).bind fun bt797 => ((impl_ConjugateBraid.f kj62 bt797.1 bt797.2 a1).bind fun bt801 => ((laws_eqBraid.f kj62 bt801.1 bt801.2.1 t768 t769).bind fun t807 => (if t807 = true then (laws_FnExactConjugateBraid.j2 kj62 t794 (bt801.2.2 != t772) t779 t795) else (laws_FnExactConjugateBraid.j2 kj62 t794 true t779 t795))))) else (some false))) = some r := H
                  have A94 := Aside0.mk A940
                  clear A940
                  by_cases c95 : t796 < 0
                  · rw [if_pos c95] at H
                    have c95b0 : decide (t796 < 0) = true := decide_eq_true c95
                    clear c95
                    obtain rfl := Option.some.inj H
                    have hnb96 := NB784_762.out
                    have hnc96 := NB762_784.out
                    have hnb97 := NB784_773.out
                    have hnc97 := NB773_784.out
                    have hnb98 := NB784_778.out
                    have hnc98 := NB778_784.out
                    have hcz99_0 : wc.cell? ⟨gb784, 0, none⟩ = some (.int .i64 t779) := (blk_cell BK784.out 0).trans rfl
                    have hcz99_1 : wc.cell? ⟨gb784, 1, none⟩ = some (.slice Ao39 t780.length co39) := (blk_cell BK784.out 1).trans rfl
                    have hfz99_0 := blk_frozen BK784.out 0
                    have hfz99_1 := blk_frozen BK784.out 1
                    go_wp2_with (first | ((with_reducible refine gate_callee (f := 27) rfl ?_); refine goesL_ (some 68) rfl rfl Try.func27 (by kernel_rfl) rfl #[.agg #[.int .i64 t779, .slice Ao39 t780.length co39], .int .i64 1] rfl (by (try simp only [List.map_toArray, List.map_cons, List.map_nil]); first | done | rfl | (simp only [List.length_drop, List.length_take]; rfl)) ?_; (with_reducible refine (laws_markBraid.calls kj62 t779 (fun k_ => some k_ = (.slice Ao39 t780.length co39 : Value).ownBlock) (.slice Ao39 t780.length co39) t780 1 t794 t795 w _ ?side1 ?side2 A93.out).mono ?_); (case side1 => repeat (first | (with_reducible first | exact HB.out | apply below_alloc | apply pw_below_drewN | apply below_drew1 | refine below_set ?_ GE762.out | refine below_set ?_ GE773.out | refine below_set ?_ GE778.out | refine below_set ?_ GE784.out) | exact HB.out)); (case side2 => exact Kd.R_tight rfl HO_785001.out); rintro e w100 ⟨rfl, hy0, hb, hkp⟩; refine ⟨_, rfl, ?_⟩; have n0_ := Aside0.mk (Kd.R_mono (ok' := fun k_ => some k_ ≠ (.slice Ao30 t792.length co30 : Value).ownBlock ∧ some k_ ≠ (.slice Ao39 t780.length co39 : Value).ownBlock) (Kd.R_keptB (HO_774001.out) hkp (fun k_ hk_ hs_ => by first | exact (hk_.2) hs_ | grind)) (fun k_ hk_ => by first | exact ⟨hk_.1.1, hk_.1.2⟩ | grind)); have n1_ := Aside0.mk (Kd.R_mono (ok' := fun k_ => some k_ ≠ (.slice Ao23 t769.length co23 : Value).ownBlock ∧ some k_ ≠ (.slice Ao39 t780.length co39 : Value).ownBlock) (Kd.R_keptB (HO_779001.out) hkp (fun k_ hk_ hs_ => by first | exact (hk_.2) hs_ | grind)) (fun k_ hk_ => by first | exact ⟨hk_.1.1, hk_.1.2⟩ | grind)); have n2_ := Aside0.mk (Kd.R_reok rfl hy0 (fun k_ e_ => HO_785001.out.1 k_ e_)); have n3_ := Aside0.mk (blk_kept (by (with_reducible repeat (first | refine blk_drewN ?_ _ | refine blk_drew ?_ | refine blk_alloc ?_ _)); exact BK762.out) hkp (fun hs_ => (fun e_ => (Kd.R_ne HO_785001.out BK762.out (by decide)) e_) hs_)); have n4_ := Aside0.mk (blk_kept (by (with_reducible repeat (first | refine blk_drewN ?_ _ | refine blk_drew ?_ | refine blk_alloc ?_ _)); exact BK773.out) hkp (fun hs_ => (fun e_ => (Kd.R_ne HO_785001.out BK773.out (by decide)) e_) hs_)); have n5_ := Aside0.mk (blk_kept (by (with_reducible repeat (first | refine blk_drewN ?_ _ | refine blk_drew ?_ | refine blk_alloc ?_ _)); exact BK778.out) hkp (fun hs_ => (fun e_ => (Kd.R_ne HO_785001.out BK778.out (by decide)) e_) hs_)); have n6_ := Aside0.mk (blk_kept (by (with_reducible repeat (first | refine blk_drewN ?_ _ | refine blk_drew ?_ | refine blk_alloc ?_ _)); exact BK784.out) hkp (fun hs_ => (fun e_ => (Kd.R_ne HO_785001.out BK784.out (by decide)) e_) hs_)); have n7_ := Aside0.mk (hb); clear HO_774001; clear HO_779001; clear HO_785001; clear BK762; clear BK773; clear BK778; clear BK784; clear HB; have HO_774001 := n0_; have HO_779001 := n1_; have HO_785001 := n2_; have BK762 := n3_; have BK773 := n4_; have BK778 := n5_; have BK784 := n6_; have HB := n7_; clear n0_ n1_ n2_ n3_ n4_ n5_ n6_ n7_; (try clear hb); (try clear hkp); (try clear hy0); have hcz101_0 : w100.cell? ⟨gb784, 0, none⟩ = some (.int .i64 t779) := (blk_cell BK784.out 0).trans rfl; have hcz101_1 : w100.cell? ⟨gb784, 1, none⟩ = some (.slice Ao39 t780.length co39) := (blk_cell BK784.out 1).trans rfl; have hfz101_0 := blk_frozen BK784.out 0; have hfz101_1 := blk_frozen BK784.out 1) | ((with_reducible refine gate_callee (f := 28) rfl ?_); refine goesL_ (some 71) rfl rfl Try.func28 (by kernel_rfl) rfl #[.agg #[.int .i64 t779, .slice Ao39 t795.length co39], .int .i64 1] rfl (by (try simp only [List.map_toArray, List.map_cons, List.map_nil]); first | done | (rw [show t795.length = t780.length from (Kd.R_reads' HO_785001.out).1.symm] <;> rfl) | rfl | (simp only [List.length_drop, List.length_take]; rfl)) ?_; (with_reducible refine (laws_heldBraid.calls kj62 t779 _ _ t795 1 t796 _ ?side1 ?side2 A94.out).mono ?_); (case side1 => repeat (first | exact (Kd.R_reads' HO_785001.out).2.2 | (with_reducible refine Kd.C_alloc ?_ _) | (with_reducible refine Kd.C_drewN ?_ _) | (with_reducible refine Kd.C_drew ?_))); (case side2 => rw [show t795.length = t780.length from (Kd.R_reads' HO_785001.out).1.symm]; exact (Kd.R_reads' HO_785001.out).2.1); rintro e w102 ⟨rfl, hb⟩; refine ⟨_, rfl, ?_⟩; have n0_ := Aside0.mk (Kd.R_below (by (with_reducible repeat (first | apply Kd.R_alloc | apply Kd.R_drewN | apply Kd.R_drew)); exact HO_774001.out) hb); have n1_ := Aside0.mk (Kd.R_below (by (with_reducible repeat (first | apply Kd.R_alloc | apply Kd.R_drewN | apply Kd.R_drew)); exact HO_779001.out) hb); have n2_ := Aside0.mk (Kd.R_below (by (with_reducible repeat (first | apply Kd.R_alloc | apply Kd.R_drewN | apply Kd.R_drew)); exact HO_785001.out) hb); have n3_ := Aside0.mk (blk_below (g := gb762) (o := .cells #[.int .i64 a0_0, .slice A0_1 l0_1.length c0_1] 30 (0, 0)) (by (with_reducible repeat (first | refine blk_drewN ?_ _ | refine blk_drew ?_ | refine blk_alloc ?_ _)); exact BK762.out) hb); have n4_ := Aside0.mk (blk_below (g := gb773) (o := .cells #[.int .i64 t768, .slice Ao23 t769.length co23] 33 (0, 0)) (by (with_reducible repeat (first | refine blk_drewN ?_ _ | refine blk_drew ?_ | refine blk_alloc ?_ _)); exact BK773.out) hb); have n5_ := Aside0.mk (blk_below (g := gb778) (o := .cells #[.int .i64 t774, .slice Ao30 t792.length co30] 33 (0, 0)) (by (with_reducible repeat (first | refine blk_drewN ?_ _ | refine blk_drew ?_ | refine blk_alloc ?_ _)); exact BK778.out) hb); have n6_ := Aside0.mk (blk_below (g := gb784) (o := .cells #[.int .i64 t779, .slice Ao39 t780.length co39] 33 (0, 0)) (by (with_reducible repeat (first | refine blk_drewN ?_ _ | refine blk_drew ?_ | refine blk_alloc ?_ _)); exact BK784.out) hb); have n7_ := Aside0.mk (below_step (by repeat (first | (with_reducible first | exact HB.out | apply below_alloc | apply pw_below_drewN | apply below_drew1 | refine below_set ?_ GE762.out | refine below_set ?_ GE773.out | refine below_set ?_ GE778.out | refine below_set ?_ GE784.out) | exact HB.out)) hb); clear HO_774001; clear HO_779001; clear HO_785001; clear BK762; clear BK773; clear BK778; clear BK784; clear HB; have HO_774001 := n0_; have HO_779001 := n1_; have HO_785001 := n2_; have BK762 := n3_; have BK773 := n4_; have BK778 := n5_; have BK784 := n6_; have HB := n7_; clear n0_ n1_ n2_ n3_ n4_ n5_ n6_ n7_; (try clear hb); (try clear hb2); (try clear hk); (try clear hi)))
                    go_ret
                    exact ⟨by first | rfl | (simp [errW_none, errW_some] <;> rfl) | (simp [*, errW_none, errW_some] <;> rfl), by repeat (first | (with_reducible first | exact HB.out | apply below_alloc | apply pw_below_drewN | apply below_drew1 | refine below_set ?_ GE762.out | refine below_set ?_ GE773.out | refine below_set ?_ GE778.out | refine below_set ?_ GE784.out) | exact HB.out)⟩
                  · rw [if_neg c95] at H
                    have c95b0 : decide (t796 < 0) = false := decide_eq_false c95
                    clear c95
                    by_cases c103 : t796 = t794
                    · rw [if_pos c103] at H
                      have c103b0 : (t796 == t794) = true := beq_iff_eq.mpr c103
                      have c103b1 : (t796 != t794) = false := bne_eq_false_iff_eq.mpr c103
                      clear c103
                      replace H := Option.bind_eq_some_iff.mp H
                      obtain ⟨⟨t797, t798⟩, A1040, H⟩ := H
                      replace H : ((impl_ConjugateBraid.f kj62 t797 t798 a1).bind fun bt801 => ((laws_eqBraid.f kj62 bt801.1 bt801.2.1 t768 t769).bind fun t807 => (if t807 = true then (laws_FnExactConjugateBraid.j2 kj62 t794 (bt801.2.2 != t772) t779 t795) else (laws_FnExactConjugateBraid.j2 kj62 t794 true t779 t795)))) = some r := H
                      have A104 := Aside0.mk A1040
                      clear A1040
                      replace H := Option.bind_eq_some_iff.mp H
                      obtain ⟨⟨t801, t802, t805⟩, A1050, H⟩ := H
                      replace H : ((laws_eqBraid.f kj62 t801 t802 t768 t769).bind fun t807 => (if t807 = true then (laws_FnExactConjugateBraid.j2 kj62 t794 (t805 != t772) t779 t795) else (laws_FnExactConjugateBraid.j2 kj62 t794 true t779 t795))) = some r := H
                      have A105 := Aside0.mk A1050
                      clear A1050
                      have HC106 := Aside0.mk H
                      clear H
                      have hnb107 := NB784_762.out
                      have hnc107 := NB762_784.out
                      have hnb108 := NB784_773.out
                      have hnc108 := NB773_784.out
                      have hnb109 := NB784_778.out
                      have hnc109 := NB778_784.out
                      have hcz110_0 : wc.cell? ⟨gb784, 0, none⟩ = some (.int .i64 t779) := (blk_cell BK784.out 0).trans rfl
                      have hcz110_1 : wc.cell? ⟨gb784, 1, none⟩ = some (.slice Ao39 t780.length co39) := (blk_cell BK784.out 1).trans rfl
                      have hfz110_0 := blk_frozen BK784.out 0
                      have hfz110_1 := blk_frozen BK784.out 1
                      go_upto_region 25 with (first | ((with_reducible refine gate_callee (f := 27) rfl ?_); refine goesL_ (some 68) rfl rfl Try.func27 (by kernel_rfl) rfl #[.agg #[.int .i64 t779, .slice Ao39 t780.length co39], .int .i64 1] rfl (by (try simp only [List.map_toArray, List.map_cons, List.map_nil]); first | done | rfl | (simp only [List.length_drop, List.length_take]; rfl)) ?_; (with_reducible refine (laws_markBraid.calls kj62 t779 (fun k_ => some k_ = (.slice Ao39 t780.length co39 : Value).ownBlock) (.slice Ao39 t780.length co39) t780 1 t794 t795 w _ ?side1 ?side2 A93.out).mono ?_); (case side1 => repeat (first | (with_reducible first | exact HB.out | apply below_alloc | apply pw_below_drewN | apply below_drew1 | refine below_set ?_ GE762.out | refine below_set ?_ GE773.out | refine below_set ?_ GE778.out | refine below_set ?_ GE784.out) | exact HB.out)); (case side2 => exact Kd.R_tight rfl HO_785001.out); rintro e w111 ⟨rfl, hy0, hb, hkp⟩; refine ⟨_, rfl, ?_⟩; have n0_ := Aside0.mk (Kd.R_mono (ok' := fun k_ => some k_ ≠ (.slice Ao30 t792.length co30 : Value).ownBlock ∧ some k_ ≠ (.slice Ao39 t780.length co39 : Value).ownBlock) (Kd.R_keptB (HO_774001.out) hkp (fun k_ hk_ hs_ => by first | exact (hk_.2) hs_ | grind)) (fun k_ hk_ => by first | exact ⟨hk_.1.1, hk_.1.2⟩ | grind)); have n1_ := Aside0.mk (Kd.R_mono (ok' := fun k_ => some k_ ≠ (.slice Ao23 t769.length co23 : Value).ownBlock ∧ some k_ ≠ (.slice Ao39 t780.length co39 : Value).ownBlock) (Kd.R_keptB (HO_779001.out) hkp (fun k_ hk_ hs_ => by first | exact (hk_.2) hs_ | grind)) (fun k_ hk_ => by first | exact ⟨hk_.1.1, hk_.1.2⟩ | grind)); have n2_ := Aside0.mk (Kd.R_reok rfl hy0 (fun k_ e_ => HO_785001.out.1 k_ e_)); have n3_ := Aside0.mk (blk_kept (by (with_reducible repeat (first | refine blk_drewN ?_ _ | refine blk_drew ?_ | refine blk_alloc ?_ _)); exact BK762.out) hkp (fun hs_ => (fun e_ => (Kd.R_ne HO_785001.out BK762.out (by decide)) e_) hs_)); have n4_ := Aside0.mk (blk_kept (by (with_reducible repeat (first | refine blk_drewN ?_ _ | refine blk_drew ?_ | refine blk_alloc ?_ _)); exact BK773.out) hkp (fun hs_ => (fun e_ => (Kd.R_ne HO_785001.out BK773.out (by decide)) e_) hs_)); have n5_ := Aside0.mk (blk_kept (by (with_reducible repeat (first | refine blk_drewN ?_ _ | refine blk_drew ?_ | refine blk_alloc ?_ _)); exact BK778.out) hkp (fun hs_ => (fun e_ => (Kd.R_ne HO_785001.out BK778.out (by decide)) e_) hs_)); have n6_ := Aside0.mk (blk_kept (by (with_reducible repeat (first | refine blk_drewN ?_ _ | refine blk_drew ?_ | refine blk_alloc ?_ _)); exact BK784.out) hkp (fun hs_ => (fun e_ => (Kd.R_ne HO_785001.out BK784.out (by decide)) e_) hs_)); have n7_ := Aside0.mk (hb); clear HO_774001; clear HO_779001; clear HO_785001; clear BK762; clear BK773; clear BK778; clear BK784; clear HB; have HO_774001 := n0_; have HO_779001 := n1_; have HO_785001 := n2_; have BK762 := n3_; have BK773 := n4_; have BK778 := n5_; have BK784 := n6_; have HB := n7_; clear n0_ n1_ n2_ n3_ n4_ n5_ n6_ n7_; (try clear hb); (try clear hkp); (try clear hy0); have hcz112_0 : w111.cell? ⟨gb784, 0, none⟩ = some (.int .i64 t779) := (blk_cell BK784.out 0).trans rfl; have hcz112_1 : w111.cell? ⟨gb784, 1, none⟩ = some (.slice Ao39 t780.length co39) := (blk_cell BK784.out 1).trans rfl; have hfz112_0 := blk_frozen BK784.out 0; have hfz112_1 := blk_frozen BK784.out 1) | (go_at_call 27; (with_reducible refine (laws_markBraid.calls kj62 t779 (fun k_ => some k_ = (.slice Ao39 t780.length co39 : Value).ownBlock) (.slice Ao39 t780.length co39) t780 1 t794 t795 w _ ?side1 ?side2 A93.out).mono ?_); (case side1 => repeat (first | (with_reducible first | exact HB.out | apply below_alloc | apply pw_below_drewN | apply below_drew1 | refine below_set ?_ GE762.out | refine below_set ?_ GE773.out | refine below_set ?_ GE778.out | refine below_set ?_ GE784.out) | exact HB.out)); (case side2 => exact Kd.R_tight rfl HO_785001.out); rintro e w111 ⟨rfl, hy0, hb, hkp⟩; have n0_ := Aside0.mk (Kd.R_mono (ok' := fun k_ => some k_ ≠ (.slice Ao30 t792.length co30 : Value).ownBlock ∧ some k_ ≠ (.slice Ao39 t780.length co39 : Value).ownBlock) (Kd.R_keptB (HO_774001.out) hkp (fun k_ hk_ hs_ => by first | exact (hk_.2) hs_ | grind)) (fun k_ hk_ => by first | exact ⟨hk_.1.1, hk_.1.2⟩ | grind)); have n1_ := Aside0.mk (Kd.R_mono (ok' := fun k_ => some k_ ≠ (.slice Ao23 t769.length co23 : Value).ownBlock ∧ some k_ ≠ (.slice Ao39 t780.length co39 : Value).ownBlock) (Kd.R_keptB (HO_779001.out) hkp (fun k_ hk_ hs_ => by first | exact (hk_.2) hs_ | grind)) (fun k_ hk_ => by first | exact ⟨hk_.1.1, hk_.1.2⟩ | grind)); have n2_ := Aside0.mk (Kd.R_reok rfl hy0 (fun k_ e_ => HO_785001.out.1 k_ e_)); have n3_ := Aside0.mk (blk_kept (by (with_reducible repeat (first | refine blk_drewN ?_ _ | refine blk_drew ?_ | refine blk_alloc ?_ _)); exact BK762.out) hkp (fun hs_ => (fun e_ => (Kd.R_ne HO_785001.out BK762.out (by decide)) e_) hs_)); have n4_ := Aside0.mk (blk_kept (by (with_reducible repeat (first | refine blk_drewN ?_ _ | refine blk_drew ?_ | refine blk_alloc ?_ _)); exact BK773.out) hkp (fun hs_ => (fun e_ => (Kd.R_ne HO_785001.out BK773.out (by decide)) e_) hs_)); have n5_ := Aside0.mk (blk_kept (by (with_reducible repeat (first | refine blk_drewN ?_ _ | refine blk_drew ?_ | refine blk_alloc ?_ _)); exact BK778.out) hkp (fun hs_ => (fun e_ => (Kd.R_ne HO_785001.out BK778.out (by decide)) e_) hs_)); have n6_ := Aside0.mk (blk_kept (by (with_reducible repeat (first | refine blk_drewN ?_ _ | refine blk_drew ?_ | refine blk_alloc ?_ _)); exact BK784.out) hkp (fun hs_ => (fun e_ => (Kd.R_ne HO_785001.out BK784.out (by decide)) e_) hs_)); have n7_ := Aside0.mk (hb); clear HO_774001; clear HO_779001; clear HO_785001; clear BK762; clear BK773; clear BK778; clear BK784; clear HB; have HO_774001 := n0_; have HO_779001 := n1_; have HO_785001 := n2_; have BK762 := n3_; have BK773 := n4_; have BK778 := n5_; have BK784 := n6_; have HB := n7_; clear n0_ n1_ n2_ n3_ n4_ n5_ n6_ n7_; (try clear hb); (try clear hkp); (try clear hy0); have hcz112_0 : w111.cell? ⟨gb784, 0, none⟩ = some (.int .i64 t779) := (blk_cell BK784.out 0).trans rfl; have hcz112_1 : w111.cell? ⟨gb784, 1, none⟩ = some (.slice Ao39 t780.length co39) := (blk_cell BK784.out 1).trans rfl; have hfz112_0 := blk_frozen BK784.out 0; have hfz112_1 := blk_frozen BK784.out 1) | ((with_reducible refine gate_callee (f := 28) rfl ?_); refine goesL_ (some 71) rfl rfl Try.func28 (by kernel_rfl) rfl #[.agg #[.int .i64 t779, .slice Ao39 t795.length co39], .int .i64 1] rfl (by (try simp only [List.map_toArray, List.map_cons, List.map_nil]); first | done | (rw [show t795.length = t780.length from (Kd.R_reads' HO_785001.out).1.symm] <;> rfl) | rfl | (simp only [List.length_drop, List.length_take]; rfl)) ?_; (with_reducible refine (laws_heldBraid.calls kj62 t779 _ _ t795 1 t796 _ ?side1 ?side2 A94.out).mono ?_); (case side1 => repeat (first | exact (Kd.R_reads' HO_785001.out).2.2 | (with_reducible refine Kd.C_alloc ?_ _) | (with_reducible refine Kd.C_drewN ?_ _) | (with_reducible refine Kd.C_drew ?_))); (case side2 => rw [show t795.length = t780.length from (Kd.R_reads' HO_785001.out).1.symm]; exact (Kd.R_reads' HO_785001.out).2.1); rintro e w113 ⟨rfl, hb⟩; refine ⟨_, rfl, ?_⟩; have n0_ := Aside0.mk (Kd.R_below (by (with_reducible repeat (first | apply Kd.R_alloc | apply Kd.R_drewN | apply Kd.R_drew)); exact HO_774001.out) hb); have n1_ := Aside0.mk (Kd.R_below (by (with_reducible repeat (first | apply Kd.R_alloc | apply Kd.R_drewN | apply Kd.R_drew)); exact HO_779001.out) hb); have n2_ := Aside0.mk (Kd.R_below (by (with_reducible repeat (first | apply Kd.R_alloc | apply Kd.R_drewN | apply Kd.R_drew)); exact HO_785001.out) hb); have n3_ := Aside0.mk (blk_below (g := gb762) (o := .cells #[.int .i64 a0_0, .slice A0_1 l0_1.length c0_1] 30 (0, 0)) (by (with_reducible repeat (first | refine blk_drewN ?_ _ | refine blk_drew ?_ | refine blk_alloc ?_ _)); exact BK762.out) hb); have n4_ := Aside0.mk (blk_below (g := gb773) (o := .cells #[.int .i64 t768, .slice Ao23 t769.length co23] 33 (0, 0)) (by (with_reducible repeat (first | refine blk_drewN ?_ _ | refine blk_drew ?_ | refine blk_alloc ?_ _)); exact BK773.out) hb); have n5_ := Aside0.mk (blk_below (g := gb778) (o := .cells #[.int .i64 t774, .slice Ao30 t792.length co30] 33 (0, 0)) (by (with_reducible repeat (first | refine blk_drewN ?_ _ | refine blk_drew ?_ | refine blk_alloc ?_ _)); exact BK778.out) hb); have n6_ := Aside0.mk (blk_below (g := gb784) (o := .cells #[.int .i64 t779, .slice Ao39 t780.length co39] 33 (0, 0)) (by (with_reducible repeat (first | refine blk_drewN ?_ _ | refine blk_drew ?_ | refine blk_alloc ?_ _)); exact BK784.out) hb); have n7_ := Aside0.mk (below_step (by repeat (first | (with_reducible first | exact HB.out | apply below_alloc | apply pw_below_drewN | apply below_drew1 | refine below_set ?_ GE762.out | refine below_set ?_ GE773.out | refine below_set ?_ GE778.out | refine below_set ?_ GE784.out) | exact HB.out)) hb); clear HO_774001; clear HO_779001; clear HO_785001; clear BK762; clear BK773; clear BK778; clear BK784; clear HB; have HO_774001 := n0_; have HO_779001 := n1_; have HO_785001 := n2_; have BK762 := n3_; have BK773 := n4_; have BK778 := n5_; have BK784 := n6_; have HB := n7_; clear n0_ n1_ n2_ n3_ n4_ n5_ n6_ n7_; (try clear hb); (try clear hb2); (try clear hk); (try clear hi); have hnb114 := NB762_773.out; have hnc114 := NB773_762.out; have hnb115 := NB762_778.out; have hnc115 := NB778_762.out; have hcz116_0 : w113.cell? ⟨gb762, 0, none⟩ = some (.int .i64 a0_0) := (blk_cell BK762.out 0).trans rfl; have hcz116_1 : w113.cell? ⟨gb762, 1, none⟩ = some (.slice A0_1 l0_1.length c0_1) := (blk_cell BK762.out 1).trans rfl; have hfz116_0 := blk_frozen BK762.out 0; have hfz116_1 := blk_frozen BK762.out 1) | (go_at_call 28; (with_reducible refine (laws_heldBraid.calls kj62 t779 _ _ t795 1 t796 _ ?side1 ?side2 A94.out).mono ?_); (case side1 => repeat (first | exact (Kd.R_reads' HO_785001.out).2.2 | (with_reducible refine Kd.C_alloc ?_ _) | (with_reducible refine Kd.C_drewN ?_ _) | (with_reducible refine Kd.C_drew ?_))); (case side2 => rw [show t795.length = t780.length from (Kd.R_reads' HO_785001.out).1.symm]; exact (Kd.R_reads' HO_785001.out).2.1); rintro e w113 ⟨rfl, hb⟩; have n0_ := Aside0.mk (Kd.R_below (by (with_reducible repeat (first | apply Kd.R_alloc | apply Kd.R_drewN | apply Kd.R_drew)); exact HO_774001.out) hb); have n1_ := Aside0.mk (Kd.R_below (by (with_reducible repeat (first | apply Kd.R_alloc | apply Kd.R_drewN | apply Kd.R_drew)); exact HO_779001.out) hb); have n2_ := Aside0.mk (Kd.R_below (by (with_reducible repeat (first | apply Kd.R_alloc | apply Kd.R_drewN | apply Kd.R_drew)); exact HO_785001.out) hb); have n3_ := Aside0.mk (blk_below (g := gb762) (o := .cells #[.int .i64 a0_0, .slice A0_1 l0_1.length c0_1] 30 (0, 0)) (by (with_reducible repeat (first | refine blk_drewN ?_ _ | refine blk_drew ?_ | refine blk_alloc ?_ _)); exact BK762.out) hb); have n4_ := Aside0.mk (blk_below (g := gb773) (o := .cells #[.int .i64 t768, .slice Ao23 t769.length co23] 33 (0, 0)) (by (with_reducible repeat (first | refine blk_drewN ?_ _ | refine blk_drew ?_ | refine blk_alloc ?_ _)); exact BK773.out) hb); have n5_ := Aside0.mk (blk_below (g := gb778) (o := .cells #[.int .i64 t774, .slice Ao30 t792.length co30] 33 (0, 0)) (by (with_reducible repeat (first | refine blk_drewN ?_ _ | refine blk_drew ?_ | refine blk_alloc ?_ _)); exact BK778.out) hb); have n6_ := Aside0.mk (blk_below (g := gb784) (o := .cells #[.int .i64 t779, .slice Ao39 t780.length co39] 33 (0, 0)) (by (with_reducible repeat (first | refine blk_drewN ?_ _ | refine blk_drew ?_ | refine blk_alloc ?_ _)); exact BK784.out) hb); have n7_ := Aside0.mk (below_step (by repeat (first | (with_reducible first | exact HB.out | apply below_alloc | apply pw_below_drewN | apply below_drew1 | refine below_set ?_ GE762.out | refine below_set ?_ GE773.out | refine below_set ?_ GE778.out | refine below_set ?_ GE784.out) | exact HB.out)) hb); clear HO_774001; clear HO_779001; clear HO_785001; clear BK762; clear BK773; clear BK778; clear BK784; clear HB; have HO_774001 := n0_; have HO_779001 := n1_; have HO_785001 := n2_; have BK762 := n3_; have BK773 := n4_; have BK778 := n5_; have BK784 := n6_; have HB := n7_; clear n0_ n1_ n2_ n3_ n4_ n5_ n6_ n7_; (try clear hb); (try clear hb2); (try clear hk); (try clear hi); have hnb114 := NB762_773.out; have hnc114 := NB773_762.out; have hnb115 := NB762_778.out; have hnc115 := NB778_762.out; have hcz116_0 : w113.cell? ⟨gb762, 0, none⟩ = some (.int .i64 a0_0) := (blk_cell BK762.out 0).trans rfl; have hcz116_1 : w113.cell? ⟨gb762, 1, none⟩ = some (.slice A0_1 l0_1.length c0_1) := (blk_cell BK762.out 1).trans rfl; have hfz116_0 := blk_frozen BK762.out 0; have hfz116_1 := blk_frozen BK762.out 1) | ((with_reducible refine gate_callee (f := 22) rfl ?_); refine goesL_ (some 79) rfl rfl Try.func22 (by kernel_rfl) rfl #[.agg #[.int .i64 a0_0, .slice A0_1 l0_1.length c0_1]] rfl (by (try simp only [List.map_toArray, List.map_cons, List.map_nil]); first | done | rfl | (simp only [List.length_drop, List.length_take]; rfl)) ?_; (with_reducible refine (laws_toBraid.calls kj62 a0_0 _ _ l0_1 t797 t798 _ ?side1 ?side2 A104.out).mono ?_); (case side1 => repeat (first | exact (Kd.C_below HR0_1.out HB.out) | (with_reducible refine Kd.C_alloc ?_ _) | (with_reducible refine Kd.C_drewN ?_ _) | (with_reducible refine Kd.C_drew ?_))); (case side2 => exact HC0_1.out); rintro e w117 ⟨v799, rfl, ho0, hb⟩; refine ⟨_, rfl, ?_⟩; have n0_ := Aside0.mk (Kd.R_elder' (by (with_reducible repeat (first | apply Kd.R_alloc | apply Kd.R_drewN | apply Kd.R_drew)); exact HO_774001.out) (Kd.R_base ho0) hb); have n1_ := Aside0.mk (Kd.R_elder' (by (with_reducible repeat (first | apply Kd.R_alloc | apply Kd.R_drewN | apply Kd.R_drew)); exact HO_779001.out) (Kd.R_base ho0) hb); have n2_ := Aside0.mk (Kd.R_elder' (by (with_reducible repeat (first | apply Kd.R_alloc | apply Kd.R_drewN | apply Kd.R_drew)); exact HO_785001.out) (Kd.R_base ho0) hb); have n3_ := Aside0.mk (Kd.R_lower (Kd.R_new' (Kd.R_new' (Kd.R_new' ho0 (Kd.R_lt (by (with_reducible repeat (first | apply Kd.R_alloc | apply Kd.R_drewN | apply Kd.R_drew)); exact HO_774001.out))) (Kd.R_lt (by (with_reducible repeat (first | apply Kd.R_alloc | apply Kd.R_drewN | apply Kd.R_drew)); exact HO_779001.out))) (Kd.R_lt (by (with_reducible repeat (first | apply Kd.R_alloc | apply Kd.R_drewN | apply Kd.R_drew)); exact HO_785001.out))) (below_size (by repeat (first | (with_reducible first | exact HB.out | apply below_alloc | apply pw_below_drewN | apply below_drew1 | refine below_set ?_ GE762.out | refine below_set ?_ GE773.out | refine below_set ?_ GE778.out | refine below_set ?_ GE784.out) | exact HB.out)))); have n4_ := Aside0.mk (blk_below (g := gb762) (o := .cells #[.int .i64 a0_0, .slice A0_1 l0_1.length c0_1] 30 (0, 0)) (by (with_reducible repeat (first | refine blk_drewN ?_ _ | refine blk_drew ?_ | refine blk_alloc ?_ _)); exact BK762.out) hb); have n5_ := Aside0.mk (blk_below (g := gb773) (o := .cells #[.int .i64 t768, .slice Ao23 t769.length co23] 33 (0, 0)) (by (with_reducible repeat (first | refine blk_drewN ?_ _ | refine blk_drew ?_ | refine blk_alloc ?_ _)); exact BK773.out) hb); have n6_ := Aside0.mk (blk_below (g := gb778) (o := .cells #[.int .i64 t774, .slice Ao30 t792.length co30] 33 (0, 0)) (by (with_reducible repeat (first | refine blk_drewN ?_ _ | refine blk_drew ?_ | refine blk_alloc ?_ _)); exact BK778.out) hb); have n7_ := Aside0.mk (blk_below (g := gb784) (o := .cells #[.int .i64 t779, .slice Ao39 t780.length co39] 33 (0, 0)) (by (with_reducible repeat (first | refine blk_drewN ?_ _ | refine blk_drew ?_ | refine blk_alloc ?_ _)); exact BK784.out) hb); have n8_ := Aside0.mk (below_step (by repeat (first | (with_reducible first | exact HB.out | apply below_alloc | apply pw_below_drewN | apply below_drew1 | refine below_set ?_ GE762.out | refine below_set ?_ GE773.out | refine below_set ?_ GE778.out | refine below_set ?_ GE784.out) | exact HB.out)) hb); clear HO_774001; clear HO_779001; clear HO_785001; clear BK762; clear BK773; clear BK778; clear BK784; clear HB; have HO_774001 := n0_; have HO_779001 := n1_; have HO_785001 := n2_; have HO800 := n3_; have BK762 := n4_; have BK773 := n5_; have BK778 := n6_; have BK784 := n7_; have HB := n8_; clear n0_ n1_ n2_ n3_ n4_ n5_ n6_ n7_ n8_; (try clear hb); (try clear hb2); (try clear hk); (try clear hi); (try clear ho0); obtain ⟨Ao118, co118, eo118⟩ := Kd.R_slice HO800.out; subst eo118) | (go_at_call 22; (with_reducible refine (laws_toBraid.calls kj62 a0_0 _ _ l0_1 t797 t798 _ ?side1 ?side2 A104.out).mono ?_); (case side1 => repeat (first | exact (Kd.C_below HR0_1.out HB.out) | (with_reducible refine Kd.C_alloc ?_ _) | (with_reducible refine Kd.C_drewN ?_ _) | (with_reducible refine Kd.C_drew ?_))); (case side2 => exact HC0_1.out); rintro e w117 ⟨v799, rfl, ho0, hb⟩; have n0_ := Aside0.mk (Kd.R_elder' (by (with_reducible repeat (first | apply Kd.R_alloc | apply Kd.R_drewN | apply Kd.R_drew)); exact HO_774001.out) (Kd.R_base ho0) hb); have n1_ := Aside0.mk (Kd.R_elder' (by (with_reducible repeat (first | apply Kd.R_alloc | apply Kd.R_drewN | apply Kd.R_drew)); exact HO_779001.out) (Kd.R_base ho0) hb); have n2_ := Aside0.mk (Kd.R_elder' (by (with_reducible repeat (first | apply Kd.R_alloc | apply Kd.R_drewN | apply Kd.R_drew)); exact HO_785001.out) (Kd.R_base ho0) hb); have n3_ := Aside0.mk (Kd.R_lower (Kd.R_new' (Kd.R_new' (Kd.R_new' ho0 (Kd.R_lt (by (with_reducible repeat (first | apply Kd.R_alloc | apply Kd.R_drewN | apply Kd.R_drew)); exact HO_774001.out))) (Kd.R_lt (by (with_reducible repeat (first | apply Kd.R_alloc | apply Kd.R_drewN | apply Kd.R_drew)); exact HO_779001.out))) (Kd.R_lt (by (with_reducible repeat (first | apply Kd.R_alloc | apply Kd.R_drewN | apply Kd.R_drew)); exact HO_785001.out))) (below_size (by repeat (first | (with_reducible first | exact HB.out | apply below_alloc | apply pw_below_drewN | apply below_drew1 | refine below_set ?_ GE762.out | refine below_set ?_ GE773.out | refine below_set ?_ GE778.out | refine below_set ?_ GE784.out) | exact HB.out)))); have n4_ := Aside0.mk (blk_below (g := gb762) (o := .cells #[.int .i64 a0_0, .slice A0_1 l0_1.length c0_1] 30 (0, 0)) (by (with_reducible repeat (first | refine blk_drewN ?_ _ | refine blk_drew ?_ | refine blk_alloc ?_ _)); exact BK762.out) hb); have n5_ := Aside0.mk (blk_below (g := gb773) (o := .cells #[.int .i64 t768, .slice Ao23 t769.length co23] 33 (0, 0)) (by (with_reducible repeat (first | refine blk_drewN ?_ _ | refine blk_drew ?_ | refine blk_alloc ?_ _)); exact BK773.out) hb); have n6_ := Aside0.mk (blk_below (g := gb778) (o := .cells #[.int .i64 t774, .slice Ao30 t792.length co30] 33 (0, 0)) (by (with_reducible repeat (first | refine blk_drewN ?_ _ | refine blk_drew ?_ | refine blk_alloc ?_ _)); exact BK778.out) hb); have n7_ := Aside0.mk (blk_below (g := gb784) (o := .cells #[.int .i64 t779, .slice Ao39 t780.length co39] 33 (0, 0)) (by (with_reducible repeat (first | refine blk_drewN ?_ _ | refine blk_drew ?_ | refine blk_alloc ?_ _)); exact BK784.out) hb); have n8_ := Aside0.mk (below_step (by repeat (first | (with_reducible first | exact HB.out | apply below_alloc | apply pw_below_drewN | apply below_drew1 | refine below_set ?_ GE762.out | refine below_set ?_ GE773.out | refine below_set ?_ GE778.out | refine below_set ?_ GE784.out) | exact HB.out)) hb); clear HO_774001; clear HO_779001; clear HO_785001; clear BK762; clear BK773; clear BK778; clear BK784; clear HB; have HO_774001 := n0_; have HO_779001 := n1_; have HO_785001 := n2_; have HO800 := n3_; have BK762 := n4_; have BK773 := n5_; have BK778 := n6_; have BK784 := n7_; have HB := n8_; clear n0_ n1_ n2_ n3_ n4_ n5_ n6_ n7_ n8_; (try clear hb); (try clear hb2); (try clear hk); (try clear hi); (try clear ho0); obtain ⟨Ao118, co118, eo118⟩ := Kd.R_slice HO800.out; subst eo118) | ((with_reducible refine gate_callee (f := 40) rfl ?_); refine goesL_ (some 81) rfl rfl Try.func40 (by kernel_rfl) rfl #[.agg #[.int .i64 t797, .slice Ao118 t798.length co118], .int .i64 a1] rfl (by (try simp only [List.map_toArray, List.map_cons, List.map_nil]); first | done | rfl | (simp only [List.length_drop, List.length_take]; rfl)) ?_; (with_reducible refine (impl_ConjugateBraid.calls kj62 t797 (fun k_ => some k_ = (.slice Ao118 t798.length co118 : Value).ownBlock) _ _ t798 a1 t801 t802 t805 _ ?side1 A105.out).mono ?_); (case side1 => exact Kd.R_V (Kd.R_tight rfl (Kd.R_types (Kd.R_types (Kd.R_types (Kd.R_types (HO800.out) BK762.out (by decide)) BK773.out (by decide)) BK778.out (by decide)) BK784.out (by decide)))); rintro e w119 ⟨v803, rfl, ho0, hb⟩; refine ⟨_, rfl, ?_⟩; have n0_ := Aside0.mk (Kd.R_elder' (by (with_reducible repeat (first | apply Kd.R_alloc | apply Kd.R_drewN | apply Kd.R_drew)); exact HO_774001.out) (Kd.R_base ho0) hb); have n1_ := Aside0.mk (Kd.R_elder' (by (with_reducible repeat (first | apply Kd.R_alloc | apply Kd.R_drewN | apply Kd.R_drew)); exact HO_779001.out) (Kd.R_base ho0) hb); have n2_ := Aside0.mk (Kd.R_elder' (by (with_reducible repeat (first | apply Kd.R_alloc | apply Kd.R_drewN | apply Kd.R_drew)); exact HO_785001.out) (Kd.R_base ho0) hb); have n3_ := Aside0.mk (Kd.R_elder' (by (with_reducible repeat (first | apply Kd.R_alloc | apply Kd.R_drewN | apply Kd.R_drew)); exact HO800.out) (Kd.R_base ho0) hb); have n4_ := Aside0.mk (Kd.R_lower (Kd.R_new' (Kd.R_new' (Kd.R_new' (Kd.R_new' (Kd.R_mono (ok' := fun k_ => True) ho0 (fun _ hk_ => trivial)) (Kd.R_lt (by (with_reducible repeat (first | apply Kd.R_alloc | apply Kd.R_drewN | apply Kd.R_drew)); exact HO_774001.out))) (Kd.R_lt (by (with_reducible repeat (first | apply Kd.R_alloc | apply Kd.R_drewN | apply Kd.R_drew)); exact HO_779001.out))) (Kd.R_lt (by (with_reducible repeat (first | apply Kd.R_alloc | apply Kd.R_drewN | apply Kd.R_drew)); exact HO_785001.out))) (Kd.R_lt (by (with_reducible repeat (first | apply Kd.R_alloc | apply Kd.R_drewN | apply Kd.R_drew)); exact HO800.out))) (below_size (by repeat (first | (with_reducible first | exact HB.out | apply below_alloc | apply pw_below_drewN | apply below_drew1 | refine below_set ?_ GE762.out | refine below_set ?_ GE773.out | refine below_set ?_ GE778.out | refine below_set ?_ GE784.out) | exact HB.out)))); have n5_ := Aside0.mk (blk_below (g := gb762) (o := .cells #[.int .i64 a0_0, .slice A0_1 l0_1.length c0_1] 30 (0, 0)) (by (with_reducible repeat (first | refine blk_drewN ?_ _ | refine blk_drew ?_ | refine blk_alloc ?_ _)); exact BK762.out) hb); have n6_ := Aside0.mk (blk_below (g := gb773) (o := .cells #[.int .i64 t768, .slice Ao23 t769.length co23] 33 (0, 0)) (by (with_reducible repeat (first | refine blk_drewN ?_ _ | refine blk_drew ?_ | refine blk_alloc ?_ _)); exact BK773.out) hb); have n7_ := Aside0.mk (blk_below (g := gb778) (o := .cells #[.int .i64 t774, .slice Ao30 t792.length co30] 33 (0, 0)) (by (with_reducible repeat (first | refine blk_drewN ?_ _ | refine blk_drew ?_ | refine blk_alloc ?_ _)); exact BK778.out) hb); have n8_ := Aside0.mk (blk_below (g := gb784) (o := .cells #[.int .i64 t779, .slice Ao39 t780.length co39] 33 (0, 0)) (by (with_reducible repeat (first | refine blk_drewN ?_ _ | refine blk_drew ?_ | refine blk_alloc ?_ _)); exact BK784.out) hb); have n9_ := Aside0.mk (below_step (by repeat (first | (with_reducible first | exact HB.out | apply below_alloc | apply pw_below_drewN | apply below_drew1 | refine below_set ?_ GE762.out | refine below_set ?_ GE773.out | refine below_set ?_ GE778.out | refine below_set ?_ GE784.out) | exact HB.out)) hb); clear HO_774001; clear HO_779001; clear HO_785001; clear HO800; clear BK762; clear BK773; clear BK778; clear BK784; clear HB; have HO_774001 := n0_; have HO_779001 := n1_; have HO_785001 := n2_; have HO800 := n3_; have HO804 := n4_; have BK762 := n5_; have BK773 := n6_; have BK778 := n7_; have BK784 := n8_; have HB := n9_; clear n0_ n1_ n2_ n3_ n4_ n5_ n6_ n7_ n8_ n9_; (try clear hb); (try clear hb2); (try clear hk); (try clear hi); (try clear ho0)) | (go_at_call 40; (with_reducible refine (impl_ConjugateBraid.calls kj62 t797 (fun k_ => some k_ = (.slice Ao118 t798.length co118 : Value).ownBlock) _ _ t798 a1 t801 t802 t805 _ ?side1 A105.out).mono ?_); (case side1 => exact Kd.R_V (Kd.R_tight rfl (Kd.R_types (Kd.R_types (Kd.R_types (Kd.R_types (HO800.out) BK762.out (by decide)) BK773.out (by decide)) BK778.out (by decide)) BK784.out (by decide)))); rintro e w119 ⟨v803, rfl, ho0, hb⟩; have n0_ := Aside0.mk (Kd.R_elder' (by (with_reducible repeat (first | apply Kd.R_alloc | apply Kd.R_drewN | apply Kd.R_drew)); exact HO_774001.out) (Kd.R_base ho0) hb); have n1_ := Aside0.mk (Kd.R_elder' (by (with_reducible repeat (first | apply Kd.R_alloc | apply Kd.R_drewN | apply Kd.R_drew)); exact HO_779001.out) (Kd.R_base ho0) hb); have n2_ := Aside0.mk (Kd.R_elder' (by (with_reducible repeat (first | apply Kd.R_alloc | apply Kd.R_drewN | apply Kd.R_drew)); exact HO_785001.out) (Kd.R_base ho0) hb); have n3_ := Aside0.mk (Kd.R_elder' (by (with_reducible repeat (first | apply Kd.R_alloc | apply Kd.R_drewN | apply Kd.R_drew)); exact HO800.out) (Kd.R_base ho0) hb); have n4_ := Aside0.mk (Kd.R_lower (Kd.R_new' (Kd.R_new' (Kd.R_new' (Kd.R_new' (Kd.R_mono (ok' := fun k_ => True) ho0 (fun _ hk_ => trivial)) (Kd.R_lt (by (with_reducible repeat (first | apply Kd.R_alloc | apply Kd.R_drewN | apply Kd.R_drew)); exact HO_774001.out))) (Kd.R_lt (by (with_reducible repeat (first | apply Kd.R_alloc | apply Kd.R_drewN | apply Kd.R_drew)); exact HO_779001.out))) (Kd.R_lt (by (with_reducible repeat (first | apply Kd.R_alloc | apply Kd.R_drewN | apply Kd.R_drew)); exact HO_785001.out))) (Kd.R_lt (by (with_reducible repeat (first | apply Kd.R_alloc | apply Kd.R_drewN | apply Kd.R_drew)); exact HO800.out))) (below_size (by repeat (first | (with_reducible first | exact HB.out | apply below_alloc | apply pw_below_drewN | apply below_drew1 | refine below_set ?_ GE762.out | refine below_set ?_ GE773.out | refine below_set ?_ GE778.out | refine below_set ?_ GE784.out) | exact HB.out)))); have n5_ := Aside0.mk (blk_below (g := gb762) (o := .cells #[.int .i64 a0_0, .slice A0_1 l0_1.length c0_1] 30 (0, 0)) (by (with_reducible repeat (first | refine blk_drewN ?_ _ | refine blk_drew ?_ | refine blk_alloc ?_ _)); exact BK762.out) hb); have n6_ := Aside0.mk (blk_below (g := gb773) (o := .cells #[.int .i64 t768, .slice Ao23 t769.length co23] 33 (0, 0)) (by (with_reducible repeat (first | refine blk_drewN ?_ _ | refine blk_drew ?_ | refine blk_alloc ?_ _)); exact BK773.out) hb); have n7_ := Aside0.mk (blk_below (g := gb778) (o := .cells #[.int .i64 t774, .slice Ao30 t792.length co30] 33 (0, 0)) (by (with_reducible repeat (first | refine blk_drewN ?_ _ | refine blk_drew ?_ | refine blk_alloc ?_ _)); exact BK778.out) hb); have n8_ := Aside0.mk (blk_below (g := gb784) (o := .cells #[.int .i64 t779, .slice Ao39 t780.length co39] 33 (0, 0)) (by (with_reducible repeat (first | refine blk_drewN ?_ _ | refine blk_drew ?_ | refine blk_alloc ?_ _)); exact BK784.out) hb); have n9_ := Aside0.mk (below_step (by repeat (first | (with_reducible first | exact HB.out | apply below_alloc | apply pw_below_drewN | apply below_drew1 | refine below_set ?_ GE762.out | refine below_set ?_ GE773.out | refine below_set ?_ GE778.out | refine below_set ?_ GE784.out) | exact HB.out)) hb); clear HO_774001; clear HO_779001; clear HO_785001; clear HO800; clear BK762; clear BK773; clear BK778; clear BK784; clear HB; have HO_774001 := n0_; have HO_779001 := n1_; have HO_785001 := n2_; have HO800 := n3_; have HO804 := n4_; have BK762 := n5_; have BK773 := n6_; have BK778 := n7_; have BK784 := n8_; have HB := n9_; clear n0_ n1_ n2_ n3_ n4_ n5_ n6_ n7_ n8_ n9_; (try clear hb); (try clear hb2); (try clear hk); (try clear hi); (try clear ho0)) | ((with_reducible refine gate_dst (N := 14) rfl ?_); refine box_event ?hg (N := 14) ?hd (cs := #[.int .i64 0, .slice none 0 0]) (t := 33) ?hr ?_; (case hd => rfl); (case hg => rfl); (case hr => first | (go_simp; done) | (go_simp; rfl)); intro gb806 hg w120 hbox hb; have n0_ := Aside0.mk (Kd.R_below (by (with_reducible repeat (first | apply Kd.R_alloc | apply Kd.R_drewN | apply Kd.R_drew)); exact HO_774001.out) hb); have n1_ := Aside0.mk (Kd.R_below (by (with_reducible repeat (first | apply Kd.R_alloc | apply Kd.R_drewN | apply Kd.R_drew)); exact HO_779001.out) hb); have n2_ := Aside0.mk (Kd.R_below (by (with_reducible repeat (first | apply Kd.R_alloc | apply Kd.R_drewN | apply Kd.R_drew)); exact HO_785001.out) hb); have n3_ := Aside0.mk (Kd.R_below (by (with_reducible repeat (first | apply Kd.R_alloc | apply Kd.R_drewN | apply Kd.R_drew)); exact HO800.out) hb); have n4_ := Aside0.mk (Kd.R_below (by (with_reducible repeat (first | apply Kd.R_alloc | apply Kd.R_drewN | apply Kd.R_drew)); exact HO804.out) hb); have n5_ := Aside0.mk (blk_below (g := gb762) (o := .cells #[.int .i64 a0_0, .slice A0_1 l0_1.length c0_1] 30 (0, 0)) (by (with_reducible repeat (first | refine blk_drewN ?_ _ | refine blk_drew ?_ | refine blk_alloc ?_ _)); exact BK762.out) hb); have n6_ := Aside0.mk (blk_below (g := gb773) (o := .cells #[.int .i64 t768, .slice Ao23 t769.length co23] 33 (0, 0)) (by (with_reducible repeat (first | refine blk_drewN ?_ _ | refine blk_drew ?_ | refine blk_alloc ?_ _)); exact BK773.out) hb); have n7_ := Aside0.mk (blk_below (g := gb778) (o := .cells #[.int .i64 t774, .slice Ao30 t792.length co30] 33 (0, 0)) (by (with_reducible repeat (first | refine blk_drewN ?_ _ | refine blk_drew ?_ | refine blk_alloc ?_ _)); exact BK778.out) hb); have n8_ := Aside0.mk (blk_below (g := gb784) (o := .cells #[.int .i64 t779, .slice Ao39 t780.length co39] 33 (0, 0)) (by (with_reducible repeat (first | refine blk_drewN ?_ _ | refine blk_drew ?_ | refine blk_alloc ?_ _)); exact BK784.out) hb); have n9_ := Aside0.mk (below_step (by repeat (first | (with_reducible first | exact HB.out | apply below_alloc | apply pw_below_drewN | apply below_drew1 | refine below_set ?_ GE762.out | refine below_set ?_ GE773.out | refine below_set ?_ GE778.out | refine below_set ?_ GE784.out) | exact HB.out)) hb); have n10_ := Aside0.mk (hbox); have n11_ := Aside0.mk ((by rw [hg]; exact (below_size (by repeat (first | (with_reducible first | exact HB.out | apply below_alloc | apply pw_below_drewN | apply below_drew1 | refine below_set ?_ GE762.out | refine below_set ?_ GE773.out | refine below_set ?_ GE778.out | refine below_set ?_ GE784.out) | exact HB.out))) : w.heap.size ≤ gb806)); have n12_ := Aside0.mk ((by rw [hg]; exact (below_size (by repeat (first | (with_reducible first | exact HB.out | apply below_alloc | apply pw_below_drewN | apply below_drew1 | refine below_set ?_ GE762.out | refine below_set ?_ GE773.out | refine below_set ?_ GE778.out | refine below_set ?_ GE784.out) | exact HB.out))) : w.heap.size ≤ gb806)); have n13_ := Aside0.mk ((by rw [hg]; exact Nat.ne_of_lt (blk_lt (g := gb762) (o := .cells #[.int .i64 a0_0, .slice A0_1 l0_1.length c0_1] 30 (0, 0)) (by (with_reducible repeat (first | refine blk_drewN ?_ _ | refine blk_drew ?_ | refine blk_alloc ?_ _)); exact BK762.out)) : gb762 ≠ gb806)); have n14_ := Aside0.mk ((by rw [hg]; exact Nat.ne_of_gt (blk_lt (g := gb762) (o := .cells #[.int .i64 a0_0, .slice A0_1 l0_1.length c0_1] 30 (0, 0)) (by (with_reducible repeat (first | refine blk_drewN ?_ _ | refine blk_drew ?_ | refine blk_alloc ?_ _)); exact BK762.out)) : gb806 ≠ gb762)); have n15_ := Aside0.mk ((by rw [hg]; exact Nat.ne_of_lt (blk_lt (g := gb773) (o := .cells #[.int .i64 t768, .slice Ao23 t769.length co23] 33 (0, 0)) (by (with_reducible repeat (first | refine blk_drewN ?_ _ | refine blk_drew ?_ | refine blk_alloc ?_ _)); exact BK773.out)) : gb773 ≠ gb806)); have n16_ := Aside0.mk ((by rw [hg]; exact Nat.ne_of_gt (blk_lt (g := gb773) (o := .cells #[.int .i64 t768, .slice Ao23 t769.length co23] 33 (0, 0)) (by (with_reducible repeat (first | refine blk_drewN ?_ _ | refine blk_drew ?_ | refine blk_alloc ?_ _)); exact BK773.out)) : gb806 ≠ gb773)); have n17_ := Aside0.mk ((by rw [hg]; exact Nat.ne_of_lt (blk_lt (g := gb778) (o := .cells #[.int .i64 t774, .slice Ao30 t792.length co30] 33 (0, 0)) (by (with_reducible repeat (first | refine blk_drewN ?_ _ | refine blk_drew ?_ | refine blk_alloc ?_ _)); exact BK778.out)) : gb778 ≠ gb806)); have n18_ := Aside0.mk ((by rw [hg]; exact Nat.ne_of_gt (blk_lt (g := gb778) (o := .cells #[.int .i64 t774, .slice Ao30 t792.length co30] 33 (0, 0)) (by (with_reducible repeat (first | refine blk_drewN ?_ _ | refine blk_drew ?_ | refine blk_alloc ?_ _)); exact BK778.out)) : gb806 ≠ gb778)); have n19_ := Aside0.mk ((by rw [hg]; exact Nat.ne_of_lt (blk_lt (g := gb784) (o := .cells #[.int .i64 t779, .slice Ao39 t780.length co39] 33 (0, 0)) (by (with_reducible repeat (first | refine blk_drewN ?_ _ | refine blk_drew ?_ | refine blk_alloc ?_ _)); exact BK784.out)) : gb784 ≠ gb806)); have n20_ := Aside0.mk ((by rw [hg]; exact Nat.ne_of_gt (blk_lt (g := gb784) (o := .cells #[.int .i64 t779, .slice Ao39 t780.length co39] 33 (0, 0)) (by (with_reducible repeat (first | refine blk_drewN ?_ _ | refine blk_drew ?_ | refine blk_alloc ?_ _)); exact BK784.out)) : gb806 ≠ gb784)); clear HO_774001; clear HO_779001; clear HO_785001; clear HO800; clear HO804; clear BK762; clear BK773; clear BK778; clear BK784; clear HB; have HO_774001 := n0_; have HO_779001 := n1_; have HO_785001 := n2_; have HO800 := n3_; have HO804 := n4_; have BK762 := n5_; have BK773 := n6_; have BK778 := n7_; have BK784 := n8_; have HB := n9_; have BK806 := n10_; have GW806 := n11_; have GE806 := n12_; have NB762_806 := n13_; have NB806_762 := n14_; have NB773_806 := n15_; have NB806_773 := n16_; have NB778_806 := n17_; have NB806_778 := n18_; have NB784_806 := n19_; have NB806_784 := n20_; clear n0_ n1_ n2_ n3_ n4_ n5_ n6_ n7_ n8_ n9_ n10_ n11_ n12_ n13_ n14_ n15_ n16_ n17_ n18_ n19_ n20_; clear hb hbox hg; have hnb121 := NB806_762.out; have hnc121 := NB762_806.out; have hnb122 := NB806_773.out; have hnc122 := NB773_806.out; have hnb123 := NB806_778.out; have hnc123 := NB778_806.out; have hnb124 := NB806_784.out; have hnc124 := NB784_806.out; have hcz125_0 : w120.cell? ⟨gb806, 0, none⟩ = some (.int .i64 0) := (blk_cell BK806.out 0).trans rfl; have hcz125_1 : w120.cell? ⟨gb806, 1, none⟩ = some (.slice none 0 0) := (blk_cell BK806.out 1).trans rfl; have hfz125_0 := blk_frozen BK806.out 0; have hfz125_1 := blk_frozen BK806.out 1; obtain ⟨Ao126, co126, eo126⟩ := Kd.R_slice HO804.out; subst eo126))
                      (try simp only [Act.put, List.setIfInBounds_toArray, List.set_cons_zero, List.set_cons_succ])
                      go_cut [92] (fun v92 wc => ∃ (kq : Nat) (x92_105 : Bool), v92 = .bool x92_105 ∧ Aside0 (laws_FnExactConjugateBraid.j2 kq t794 x92_105 t779 t795 = some r) ∧ Aside0 (kq ≤ kj62) ∧ Aside0 (Kd.R (Kd.int .i64) 2 wc w.heap.size (fun k_ => some k_ ≠ ((.slice Ao30 t792.length co30) : Value).ownBlock ∧ some k_ ≠ ((.slice Ao39 t780.length co39) : Value).ownBlock ∧ some k_ ≠ ((.slice Ao126 t802.length co126) : Value).ownBlock) (.slice Ao23 t769.length co23) t769) ∧ Aside0 (Kd.R (Kd.int .i64) 2 wc w.heap.size (fun k_ => some k_ ≠ ((.slice Ao23 t769.length co23) : Value).ownBlock ∧ some k_ ≠ ((.slice Ao39 t780.length co39) : Value).ownBlock ∧ some k_ ≠ ((.slice Ao126 t802.length co126) : Value).ownBlock) (.slice Ao30 t792.length co30) t792) ∧ Aside0 (Kd.R (Kd.int .i64) 2 wc w.heap.size (fun k_ => some k_ ≠ ((.slice Ao23 t769.length co23) : Value).ownBlock ∧ some k_ ≠ ((.slice Ao30 t792.length co30) : Value).ownBlock ∧ some k_ ≠ ((.slice Ao126 t802.length co126) : Value).ownBlock) (.slice Ao39 t780.length co39) t795) ∧ Aside0 (Kd.R (Kd.int .i64) 2 wc w.heap.size (fun k_ => some k_ ≠ ((.slice Ao23 t769.length co23) : Value).ownBlock ∧ some k_ ≠ ((.slice Ao30 t792.length co30) : Value).ownBlock ∧ some k_ ≠ ((.slice Ao39 t780.length co39) : Value).ownBlock) (.slice Ao126 t802.length co126) t802) ∧ Aside0 (wc.heap[gb762]? = some (.cells #[.int .i64 a0_0, (.slice A0_1 l0_1.length c0_1)] 30 (0, 0))) ∧ Aside0 (wc.heap[gb773]? = some (.cells #[.int .i64 t768, (.slice Ao23 t769.length co23)] 33 (0, 0))) ∧ Aside0 (wc.heap[gb778]? = some (.cells #[.int .i64 t774, (.slice Ao30 t792.length co30)] 33 (0, 0))) ∧ Aside0 (wc.heap[gb784]? = some (.cells #[.int .i64 t779, (.slice Ao39 t780.length co39)] 33 (0, 0))) ∧ Aside0 (wc.heap[gb806]? = some (.cells #[.int .i64 t801, (.slice Ao126 t802.length co126)] 33 (0, 0))) ∧ Aside0 (Below w.heap.size w wc))
                      case first =>
                        have H := HC106.out
                        clear HC106
                        replace H := Option.bind_eq_some_iff.mp H
                        obtain ⟨t807, A1270, H⟩ := H
                        replace H : (if t807 = true then (laws_FnExactConjugateBraid.j2 kj62 t794 (t805 != t772) t779 t795) else (laws_FnExactConjugateBraid.j2 kj62 t794 true t779 t795)) = some r := H
                        have A127 := Aside0.mk A1270
                        clear A1270
                        by_cases c128 : t807 = true
                        · subst c128
                          have H1 : (laws_FnExactConjugateBraid.j2 kj62 t794 (t805 != t772) t779 t795) = some r := by rw [if_pos rfl] at H; exact H
                          clear H
                          have H := H1
                          clear H1
                          have H' := Aside0.mk H
                          clear H
                          have hnb129 := NB806_762.out
                          have hnc129 := NB762_806.out
                          have hnb130 := NB806_773.out
                          have hnc130 := NB773_806.out
                          have hnb131 := NB806_778.out
                          have hnc131 := NB778_806.out
                          have hnb132 := NB806_784.out
                          have hnc132 := NB784_806.out
                          have hcz133_0 : w120.cell? ⟨gb806, 0, none⟩ = some (.int .i64 0) := (blk_cell BK806.out 0).trans rfl
                          have hcz133_1 : w120.cell? ⟨gb806, 1, none⟩ = some (.slice none 0 0) := (blk_cell BK806.out 1).trans rfl
                          have hfz133_0 := blk_frozen BK806.out 0
                          have hfz133_1 := blk_frozen BK806.out 1
                          have hnb134 := NB773_762.out
                          have hnc134 := NB762_773.out
                          have hnb135 := NB773_778.out
                          have hnc135 := NB778_773.out
                          have hnb136 := NB773_784.out
                          have hnc136 := NB784_773.out
                          have hcz137_0 : w120.cell? ⟨gb773, 0, none⟩ = some (.int .i64 t768) := (blk_cell BK773.out 0).trans rfl
                          have hcz137_1 : w120.cell? ⟨gb773, 1, none⟩ = some (.slice Ao23 t769.length co23) := (blk_cell BK773.out 1).trans rfl
                          have hfz137_0 := blk_frozen BK773.out 0
                          have hfz137_1 := blk_frozen BK773.out 1
                          go_wp2_with (first | ((with_reducible refine gate_callee (f := 24) rfl ?_); refine goesL_ (some 86) rfl rfl Try.func24 (by kernel_rfl) rfl #[.agg #[.int .i64 t801, .slice Ao126 t802.length co126], .agg #[.int .i64 t768, .slice Ao23 t769.length co23]] rfl (by (try simp only [List.map_toArray, List.map_cons, List.map_nil]); first | done | rfl | (simp only [List.length_drop, List.length_take]; rfl)) ?_; (with_reducible refine (laws_eqBraid.calls kj62 t801 _ _ t802 t768 _ _ t769 true _ ?side1 ?side2 ?side3 ?side4 A127.out).mono ?_); (case side1 => refine (Kd.R_reads' (e := 2) (base := w.heap.size) (ok := fun k_ => ((((True ∧ some k_ ≠ (.slice Ao23 t769.length co23 : Value).ownBlock) ∧ some k_ ≠ (.slice Ao30 t792.length co30 : Value).ownBlock) ∧ some k_ ≠ (.slice Ao39 t780.length co39 : Value).ownBlock) ∧ some k_ ≠ (.slice Ao118 t798.length co118 : Value).ownBlock)) (n := t802.length) (c := co126) ?_).2.2; exact (by (with_reducible repeat (first | apply Kd.R_alloc | apply Kd.R_drewN | apply Kd.R_drew)); exact (Kd.R_mono (Kd.R_far (p := ⟨gb806, 1, none⟩) (Kd.R_far (p := ⟨gb806, 0, none⟩) (Kd.R_types HO804.out BK806.out (by decide)) (fun _ hk => hk.2) (.int .i64 t801)) (fun _ hk => hk.2) (.slice Ao126 t802.length co126)) (fun _ h_ => h_.1)))); (case side2 => exact (Kd.R_reads' HO804.out).2.1); (case side3 => refine (Kd.R_reads' (e := 2) (base := w.heap.size) (ok := fun k_ => (((some k_ ≠ (.slice Ao30 t792.length co30 : Value).ownBlock ∧ some k_ ≠ (.slice Ao39 t780.length co39 : Value).ownBlock) ∧ some k_ ≠ (.slice Ao118 t798.length co118 : Value).ownBlock) ∧ some k_ ≠ (.slice Ao126 t802.length co126 : Value).ownBlock)) (n := t769.length) (c := co23) ?_).2.2; exact (by (with_reducible repeat (first | apply Kd.R_alloc | apply Kd.R_drewN | apply Kd.R_drew)); exact (Kd.R_mono (Kd.R_far (p := ⟨gb806, 1, none⟩) (Kd.R_far (p := ⟨gb806, 0, none⟩) (Kd.R_types HO_774001.out BK806.out (by decide)) (fun _ hk => hk.2) (.int .i64 t801)) (fun _ hk => hk.2) (.slice Ao126 t802.length co126)) (fun _ h_ => h_.1)))); (case side4 => exact (Kd.R_reads' HO_774001.out).2.1); rintro e w138 ⟨rfl, hb⟩; refine ⟨_, rfl, ?_⟩; have n0_ := Aside0.mk (Kd.R_below (by (with_reducible repeat (first | apply Kd.R_alloc | apply Kd.R_drewN | apply Kd.R_drew)); exact (Kd.R_mono (Kd.R_far (p := ⟨gb806, 1, none⟩) (Kd.R_far (p := ⟨gb806, 0, none⟩) (Kd.R_types HO_774001.out BK806.out (by decide)) (fun _ hk => hk.2) (.int .i64 t801)) (fun _ hk => hk.2) (.slice Ao126 t802.length co126)) (fun _ h_ => h_.1))) hb); have n1_ := Aside0.mk (Kd.R_below (by (with_reducible repeat (first | apply Kd.R_alloc | apply Kd.R_drewN | apply Kd.R_drew)); exact (Kd.R_mono (Kd.R_far (p := ⟨gb806, 1, none⟩) (Kd.R_far (p := ⟨gb806, 0, none⟩) (Kd.R_types HO_779001.out BK806.out (by decide)) (fun _ hk => hk.2) (.int .i64 t801)) (fun _ hk => hk.2) (.slice Ao126 t802.length co126)) (fun _ h_ => h_.1))) hb); have n2_ := Aside0.mk (Kd.R_below (by (with_reducible repeat (first | apply Kd.R_alloc | apply Kd.R_drewN | apply Kd.R_drew)); exact (Kd.R_mono (Kd.R_far (p := ⟨gb806, 1, none⟩) (Kd.R_far (p := ⟨gb806, 0, none⟩) (Kd.R_types HO_785001.out BK806.out (by decide)) (fun _ hk => hk.2) (.int .i64 t801)) (fun _ hk => hk.2) (.slice Ao126 t802.length co126)) (fun _ h_ => h_.1))) hb); have n3_ := Aside0.mk (Kd.R_below (by (with_reducible repeat (first | apply Kd.R_alloc | apply Kd.R_drewN | apply Kd.R_drew)); exact (Kd.R_mono (Kd.R_far (p := ⟨gb806, 1, none⟩) (Kd.R_far (p := ⟨gb806, 0, none⟩) (Kd.R_types HO800.out BK806.out (by decide)) (fun _ hk => hk.2) (.int .i64 t801)) (fun _ hk => hk.2) (.slice Ao126 t802.length co126)) (fun _ h_ => h_.1))) hb); have n4_ := Aside0.mk (Kd.R_below (by (with_reducible repeat (first | apply Kd.R_alloc | apply Kd.R_drewN | apply Kd.R_drew)); exact (Kd.R_mono (Kd.R_far (p := ⟨gb806, 1, none⟩) (Kd.R_far (p := ⟨gb806, 0, none⟩) (Kd.R_types HO804.out BK806.out (by decide)) (fun _ hk => hk.2) (.int .i64 t801)) (fun _ hk => hk.2) (.slice Ao126 t802.length co126)) (fun _ h_ => h_.1))) hb); have n5_ := Aside0.mk (blk_below (g := gb762) (o := .cells #[.int .i64 a0_0, .slice A0_1 l0_1.length c0_1] 30 (0, 0)) (by (with_reducible repeat (first | refine blk_drewN ?_ _ | refine blk_drew ?_ | refine blk_alloc ?_ _)); refine blk_far ?_ NB762_806.out _; (with_reducible repeat (first | refine blk_drewN ?_ _ | refine blk_drew ?_ | refine blk_alloc ?_ _)); refine blk_far ?_ NB762_806.out _; (with_reducible repeat (first | refine blk_drewN ?_ _ | refine blk_drew ?_ | refine blk_alloc ?_ _)); exact BK762.out) hb); have n6_ := Aside0.mk (blk_below (g := gb773) (o := .cells #[.int .i64 t768, .slice Ao23 t769.length co23] 33 (0, 0)) (by (with_reducible repeat (first | refine blk_drewN ?_ _ | refine blk_drew ?_ | refine blk_alloc ?_ _)); refine blk_far ?_ NB773_806.out _; (with_reducible repeat (first | refine blk_drewN ?_ _ | refine blk_drew ?_ | refine blk_alloc ?_ _)); refine blk_far ?_ NB773_806.out _; (with_reducible repeat (first | refine blk_drewN ?_ _ | refine blk_drew ?_ | refine blk_alloc ?_ _)); exact BK773.out) hb); have n7_ := Aside0.mk (blk_below (g := gb778) (o := .cells #[.int .i64 t774, .slice Ao30 t792.length co30] 33 (0, 0)) (by (with_reducible repeat (first | refine blk_drewN ?_ _ | refine blk_drew ?_ | refine blk_alloc ?_ _)); refine blk_far ?_ NB778_806.out _; (with_reducible repeat (first | refine blk_drewN ?_ _ | refine blk_drew ?_ | refine blk_alloc ?_ _)); refine blk_far ?_ NB778_806.out _; (with_reducible repeat (first | refine blk_drewN ?_ _ | refine blk_drew ?_ | refine blk_alloc ?_ _)); exact BK778.out) hb); have n8_ := Aside0.mk (blk_below (g := gb784) (o := .cells #[.int .i64 t779, .slice Ao39 t780.length co39] 33 (0, 0)) (by (with_reducible repeat (first | refine blk_drewN ?_ _ | refine blk_drew ?_ | refine blk_alloc ?_ _)); refine blk_far ?_ NB784_806.out _; (with_reducible repeat (first | refine blk_drewN ?_ _ | refine blk_drew ?_ | refine blk_alloc ?_ _)); refine blk_far ?_ NB784_806.out _; (with_reducible repeat (first | refine blk_drewN ?_ _ | refine blk_drew ?_ | refine blk_alloc ?_ _)); exact BK784.out) hb); have n9_ := Aside0.mk (blk_below (g := gb806) (o := .cells #[.int .i64 t801, .slice Ao126 t802.length co126] 33 (0, 0)) (by (with_reducible repeat (first | refine blk_drewN ?_ _ | refine blk_drew ?_ | refine blk_alloc ?_ _)); refine blk_put (cs := #[.int .i64 t801, .slice none 0 0]) ?_ 1 _ rfl; (with_reducible repeat (first | refine blk_drewN ?_ _ | refine blk_drew ?_ | refine blk_alloc ?_ _)); refine blk_put (cs := #[.int .i64 0, .slice none 0 0]) ?_ 0 _ rfl; (with_reducible repeat (first | refine blk_drewN ?_ _ | refine blk_drew ?_ | refine blk_alloc ?_ _)); exact BK806.out) hb); have n10_ := Aside0.mk (below_step (by repeat (first | (with_reducible first | exact HB.out | apply below_alloc | apply pw_below_drewN | apply below_drew1 | refine below_set ?_ GE762.out | refine below_set ?_ GE773.out | refine below_set ?_ GE778.out | refine below_set ?_ GE784.out | refine below_set ?_ GE806.out) | exact HB.out)) hb); clear HO_774001; clear HO_779001; clear HO_785001; clear HO800; clear HO804; clear BK762; clear BK773; clear BK778; clear BK784; clear BK806; clear HB; have HO_774001 := n0_; have HO_779001 := n1_; have HO_785001 := n2_; have HO800 := n3_; have HO804 := n4_; have BK762 := n5_; have BK773 := n6_; have BK778 := n7_; have BK784 := n8_; have BK806 := n9_; have HB := n10_; clear n0_ n1_ n2_ n3_ n4_ n5_ n6_ n7_ n8_ n9_ n10_; (try clear hb); (try clear hb2); (try clear hk); (try clear hi)))
                          go_meet
                          case rel => exact ⟨_, ((t805 != t772)), (by first | rfl | (simp; done) | (simp [*]; done)), H', ⟨by have := HJ11.out; have := HJ62.out; first | omega | exact Nat.le_refl _⟩, ⟨by (try simp only [hl779001_62]); (with_reducible repeat (first | apply Kd.R_alloc | apply Kd.R_drewN | apply Kd.R_drew)); exact Kd.R_mono HO_774001.out (fun _ hk => ⟨hk.1.1.1, ⟨hk.1.1.2, hk.2⟩⟩)⟩, ⟨by (try simp only [hl779001_62]); (with_reducible repeat (first | apply Kd.R_alloc | apply Kd.R_drewN | apply Kd.R_drew)); exact Kd.R_mono HO_779001.out (fun _ hk => ⟨hk.1.1.1, ⟨hk.1.1.2, hk.2⟩⟩)⟩, ⟨by (try simp only [hl779001_62]); (with_reducible repeat (first | apply Kd.R_alloc | apply Kd.R_drewN | apply Kd.R_drew)); exact Kd.R_mono HO_785001.out (fun _ hk => ⟨hk.1.1.1, ⟨hk.1.1.2, hk.2⟩⟩)⟩, ⟨by (try simp only [hl779001_62]); (with_reducible repeat (first | apply Kd.R_alloc | apply Kd.R_drewN | apply Kd.R_drew)); exact Kd.R_mono HO804.out (fun _ hk => ⟨hk.1.1.1.2, ⟨hk.1.1.2, hk.1.2⟩⟩)⟩, ⟨by (try simp only [hl779001_62]); (with_reducible repeat (first | refine blk_drewN ?_ _ | refine blk_drew ?_ | refine blk_alloc ?_ _)); exact BK762.out⟩, ⟨by (try simp only [hl779001_62]); (with_reducible repeat (first | refine blk_drewN ?_ _ | refine blk_drew ?_ | refine blk_alloc ?_ _)); exact BK773.out⟩, ⟨by (try simp only [hl779001_62]); (with_reducible repeat (first | refine blk_drewN ?_ _ | refine blk_drew ?_ | refine blk_alloc ?_ _)); exact BK778.out⟩, ⟨by (try simp only [hl779001_62]); (with_reducible repeat (first | refine blk_drewN ?_ _ | refine blk_drew ?_ | refine blk_alloc ?_ _)); exact BK784.out⟩, ⟨by (try simp only [hl779001_62]); (with_reducible repeat (first | refine blk_drewN ?_ _ | refine blk_drew ?_ | refine blk_alloc ?_ _)); exact BK806.out⟩, ⟨by repeat (first | (with_reducible first | exact HB.out | apply below_alloc | apply pw_below_drewN | apply below_drew1 | refine below_set ?_ GE762.out | refine below_set ?_ GE773.out | refine below_set ?_ GE778.out | refine below_set ?_ GE784.out | refine below_set ?_ GE806.out) | exact HB.out)⟩⟩
                        · replace c128 := Bool.eq_false_iff.mpr c128
                          subst c128
                          have H1 : (laws_FnExactConjugateBraid.j2 kj62 t794 true t779 t795) = some r := by rw [if_neg (show ¬ (false = true) by decide)] at H; exact H
                          clear H
                          have H := H1
                          clear H1
                          have H' := Aside0.mk H
                          clear H
                          have hnb139 := NB806_762.out
                          have hnc139 := NB762_806.out
                          have hnb140 := NB806_773.out
                          have hnc140 := NB773_806.out
                          have hnb141 := NB806_778.out
                          have hnc141 := NB778_806.out
                          have hnb142 := NB806_784.out
                          have hnc142 := NB784_806.out
                          have hcz143_0 : w120.cell? ⟨gb806, 0, none⟩ = some (.int .i64 0) := (blk_cell BK806.out 0).trans rfl
                          have hcz143_1 : w120.cell? ⟨gb806, 1, none⟩ = some (.slice none 0 0) := (blk_cell BK806.out 1).trans rfl
                          have hfz143_0 := blk_frozen BK806.out 0
                          have hfz143_1 := blk_frozen BK806.out 1
                          have hnb144 := NB773_762.out
                          have hnc144 := NB762_773.out
                          have hnb145 := NB773_778.out
                          have hnc145 := NB778_773.out
                          have hnb146 := NB773_784.out
                          have hnc146 := NB784_773.out
                          have hcz147_0 : w120.cell? ⟨gb773, 0, none⟩ = some (.int .i64 t768) := (blk_cell BK773.out 0).trans rfl
                          have hcz147_1 : w120.cell? ⟨gb773, 1, none⟩ = some (.slice Ao23 t769.length co23) := (blk_cell BK773.out 1).trans rfl
                          have hfz147_0 := blk_frozen BK773.out 0
                          have hfz147_1 := blk_frozen BK773.out 1
                          go_wp2_with (first | ((with_reducible refine gate_callee (f := 24) rfl ?_); refine goesL_ (some 86) rfl rfl Try.func24 (by kernel_rfl) rfl #[.agg #[.int .i64 t801, .slice Ao126 t802.length co126], .agg #[.int .i64 t768, .slice Ao23 t769.length co23]] rfl (by (try simp only [List.map_toArray, List.map_cons, List.map_nil]); first | done | rfl | (simp only [List.length_drop, List.length_take]; rfl)) ?_; (with_reducible refine (laws_eqBraid.calls kj62 t801 _ _ t802 t768 _ _ t769 false _ ?side1 ?side2 ?side3 ?side4 A127.out).mono ?_); (case side1 => refine (Kd.R_reads' (e := 2) (base := w.heap.size) (ok := fun k_ => ((((True ∧ some k_ ≠ (.slice Ao23 t769.length co23 : Value).ownBlock) ∧ some k_ ≠ (.slice Ao30 t792.length co30 : Value).ownBlock) ∧ some k_ ≠ (.slice Ao39 t780.length co39 : Value).ownBlock) ∧ some k_ ≠ (.slice Ao118 t798.length co118 : Value).ownBlock)) (n := t802.length) (c := co126) ?_).2.2; exact (by (with_reducible repeat (first | apply Kd.R_alloc | apply Kd.R_drewN | apply Kd.R_drew)); exact (Kd.R_mono (Kd.R_far (p := ⟨gb806, 1, none⟩) (Kd.R_far (p := ⟨gb806, 0, none⟩) (Kd.R_types HO804.out BK806.out (by decide)) (fun _ hk => hk.2) (.int .i64 t801)) (fun _ hk => hk.2) (.slice Ao126 t802.length co126)) (fun _ h_ => h_.1)))); (case side2 => exact (Kd.R_reads' HO804.out).2.1); (case side3 => refine (Kd.R_reads' (e := 2) (base := w.heap.size) (ok := fun k_ => (((some k_ ≠ (.slice Ao30 t792.length co30 : Value).ownBlock ∧ some k_ ≠ (.slice Ao39 t780.length co39 : Value).ownBlock) ∧ some k_ ≠ (.slice Ao118 t798.length co118 : Value).ownBlock) ∧ some k_ ≠ (.slice Ao126 t802.length co126 : Value).ownBlock)) (n := t769.length) (c := co23) ?_).2.2; exact (by (with_reducible repeat (first | apply Kd.R_alloc | apply Kd.R_drewN | apply Kd.R_drew)); exact (Kd.R_mono (Kd.R_far (p := ⟨gb806, 1, none⟩) (Kd.R_far (p := ⟨gb806, 0, none⟩) (Kd.R_types HO_774001.out BK806.out (by decide)) (fun _ hk => hk.2) (.int .i64 t801)) (fun _ hk => hk.2) (.slice Ao126 t802.length co126)) (fun _ h_ => h_.1)))); (case side4 => exact (Kd.R_reads' HO_774001.out).2.1); rintro e w148 ⟨rfl, hb⟩; refine ⟨_, rfl, ?_⟩; have n0_ := Aside0.mk (Kd.R_below (by (with_reducible repeat (first | apply Kd.R_alloc | apply Kd.R_drewN | apply Kd.R_drew)); exact (Kd.R_mono (Kd.R_far (p := ⟨gb806, 1, none⟩) (Kd.R_far (p := ⟨gb806, 0, none⟩) (Kd.R_types HO_774001.out BK806.out (by decide)) (fun _ hk => hk.2) (.int .i64 t801)) (fun _ hk => hk.2) (.slice Ao126 t802.length co126)) (fun _ h_ => h_.1))) hb); have n1_ := Aside0.mk (Kd.R_below (by (with_reducible repeat (first | apply Kd.R_alloc | apply Kd.R_drewN | apply Kd.R_drew)); exact (Kd.R_mono (Kd.R_far (p := ⟨gb806, 1, none⟩) (Kd.R_far (p := ⟨gb806, 0, none⟩) (Kd.R_types HO_779001.out BK806.out (by decide)) (fun _ hk => hk.2) (.int .i64 t801)) (fun _ hk => hk.2) (.slice Ao126 t802.length co126)) (fun _ h_ => h_.1))) hb); have n2_ := Aside0.mk (Kd.R_below (by (with_reducible repeat (first | apply Kd.R_alloc | apply Kd.R_drewN | apply Kd.R_drew)); exact (Kd.R_mono (Kd.R_far (p := ⟨gb806, 1, none⟩) (Kd.R_far (p := ⟨gb806, 0, none⟩) (Kd.R_types HO_785001.out BK806.out (by decide)) (fun _ hk => hk.2) (.int .i64 t801)) (fun _ hk => hk.2) (.slice Ao126 t802.length co126)) (fun _ h_ => h_.1))) hb); have n3_ := Aside0.mk (Kd.R_below (by (with_reducible repeat (first | apply Kd.R_alloc | apply Kd.R_drewN | apply Kd.R_drew)); exact (Kd.R_mono (Kd.R_far (p := ⟨gb806, 1, none⟩) (Kd.R_far (p := ⟨gb806, 0, none⟩) (Kd.R_types HO800.out BK806.out (by decide)) (fun _ hk => hk.2) (.int .i64 t801)) (fun _ hk => hk.2) (.slice Ao126 t802.length co126)) (fun _ h_ => h_.1))) hb); have n4_ := Aside0.mk (Kd.R_below (by (with_reducible repeat (first | apply Kd.R_alloc | apply Kd.R_drewN | apply Kd.R_drew)); exact (Kd.R_mono (Kd.R_far (p := ⟨gb806, 1, none⟩) (Kd.R_far (p := ⟨gb806, 0, none⟩) (Kd.R_types HO804.out BK806.out (by decide)) (fun _ hk => hk.2) (.int .i64 t801)) (fun _ hk => hk.2) (.slice Ao126 t802.length co126)) (fun _ h_ => h_.1))) hb); have n5_ := Aside0.mk (blk_below (g := gb762) (o := .cells #[.int .i64 a0_0, .slice A0_1 l0_1.length c0_1] 30 (0, 0)) (by (with_reducible repeat (first | refine blk_drewN ?_ _ | refine blk_drew ?_ | refine blk_alloc ?_ _)); refine blk_far ?_ NB762_806.out _; (with_reducible repeat (first | refine blk_drewN ?_ _ | refine blk_drew ?_ | refine blk_alloc ?_ _)); refine blk_far ?_ NB762_806.out _; (with_reducible repeat (first | refine blk_drewN ?_ _ | refine blk_drew ?_ | refine blk_alloc ?_ _)); exact BK762.out) hb); have n6_ := Aside0.mk (blk_below (g := gb773) (o := .cells #[.int .i64 t768, .slice Ao23 t769.length co23] 33 (0, 0)) (by (with_reducible repeat (first | refine blk_drewN ?_ _ | refine blk_drew ?_ | refine blk_alloc ?_ _)); refine blk_far ?_ NB773_806.out _; (with_reducible repeat (first | refine blk_drewN ?_ _ | refine blk_drew ?_ | refine blk_alloc ?_ _)); refine blk_far ?_ NB773_806.out _; (with_reducible repeat (first | refine blk_drewN ?_ _ | refine blk_drew ?_ | refine blk_alloc ?_ _)); exact BK773.out) hb); have n7_ := Aside0.mk (blk_below (g := gb778) (o := .cells #[.int .i64 t774, .slice Ao30 t792.length co30] 33 (0, 0)) (by (with_reducible repeat (first | refine blk_drewN ?_ _ | refine blk_drew ?_ | refine blk_alloc ?_ _)); refine blk_far ?_ NB778_806.out _; (with_reducible repeat (first | refine blk_drewN ?_ _ | refine blk_drew ?_ | refine blk_alloc ?_ _)); refine blk_far ?_ NB778_806.out _; (with_reducible repeat (first | refine blk_drewN ?_ _ | refine blk_drew ?_ | refine blk_alloc ?_ _)); exact BK778.out) hb); have n8_ := Aside0.mk (blk_below (g := gb784) (o := .cells #[.int .i64 t779, .slice Ao39 t780.length co39] 33 (0, 0)) (by (with_reducible repeat (first | refine blk_drewN ?_ _ | refine blk_drew ?_ | refine blk_alloc ?_ _)); refine blk_far ?_ NB784_806.out _; (with_reducible repeat (first | refine blk_drewN ?_ _ | refine blk_drew ?_ | refine blk_alloc ?_ _)); refine blk_far ?_ NB784_806.out _; (with_reducible repeat (first | refine blk_drewN ?_ _ | refine blk_drew ?_ | refine blk_alloc ?_ _)); exact BK784.out) hb); have n9_ := Aside0.mk (blk_below (g := gb806) (o := .cells #[.int .i64 t801, .slice Ao126 t802.length co126] 33 (0, 0)) (by (with_reducible repeat (first | refine blk_drewN ?_ _ | refine blk_drew ?_ | refine blk_alloc ?_ _)); refine blk_put (cs := #[.int .i64 t801, .slice none 0 0]) ?_ 1 _ rfl; (with_reducible repeat (first | refine blk_drewN ?_ _ | refine blk_drew ?_ | refine blk_alloc ?_ _)); refine blk_put (cs := #[.int .i64 0, .slice none 0 0]) ?_ 0 _ rfl; (with_reducible repeat (first | refine blk_drewN ?_ _ | refine blk_drew ?_ | refine blk_alloc ?_ _)); exact BK806.out) hb); have n10_ := Aside0.mk (below_step (by repeat (first | (with_reducible first | exact HB.out | apply below_alloc | apply pw_below_drewN | apply below_drew1 | refine below_set ?_ GE762.out | refine below_set ?_ GE773.out | refine below_set ?_ GE778.out | refine below_set ?_ GE784.out | refine below_set ?_ GE806.out) | exact HB.out)) hb); clear HO_774001; clear HO_779001; clear HO_785001; clear HO800; clear HO804; clear BK762; clear BK773; clear BK778; clear BK784; clear BK806; clear HB; have HO_774001 := n0_; have HO_779001 := n1_; have HO_785001 := n2_; have HO800 := n3_; have HO804 := n4_; have BK762 := n5_; have BK773 := n6_; have BK778 := n7_; have BK784 := n8_; have BK806 := n9_; have HB := n10_; clear n0_ n1_ n2_ n3_ n4_ n5_ n6_ n7_ n8_ n9_ n10_; (try clear hb); (try clear hb2); (try clear hk); (try clear hi)))
                          go_meet
                          case rel => exact ⟨_, (true), (by first | rfl | (simp; done) | (simp [*]; done)), H', ⟨by have := HJ11.out; have := HJ62.out; first | omega | exact Nat.le_refl _⟩, ⟨by (try simp only [hl779001_62]); (with_reducible repeat (first | apply Kd.R_alloc | apply Kd.R_drewN | apply Kd.R_drew)); exact Kd.R_mono HO_774001.out (fun _ hk => ⟨hk.1.1.1, ⟨hk.1.1.2, hk.2⟩⟩)⟩, ⟨by (try simp only [hl779001_62]); (with_reducible repeat (first | apply Kd.R_alloc | apply Kd.R_drewN | apply Kd.R_drew)); exact Kd.R_mono HO_779001.out (fun _ hk => ⟨hk.1.1.1, ⟨hk.1.1.2, hk.2⟩⟩)⟩, ⟨by (try simp only [hl779001_62]); (with_reducible repeat (first | apply Kd.R_alloc | apply Kd.R_drewN | apply Kd.R_drew)); exact Kd.R_mono HO_785001.out (fun _ hk => ⟨hk.1.1.1, ⟨hk.1.1.2, hk.2⟩⟩)⟩, ⟨by (try simp only [hl779001_62]); (with_reducible repeat (first | apply Kd.R_alloc | apply Kd.R_drewN | apply Kd.R_drew)); exact Kd.R_mono HO804.out (fun _ hk => ⟨hk.1.1.1.2, ⟨hk.1.1.2, hk.1.2⟩⟩)⟩, ⟨by (try simp only [hl779001_62]); (with_reducible repeat (first | refine blk_drewN ?_ _ | refine blk_drew ?_ | refine blk_alloc ?_ _)); exact BK762.out⟩, ⟨by (try simp only [hl779001_62]); (with_reducible repeat (first | refine blk_drewN ?_ _ | refine blk_drew ?_ | refine blk_alloc ?_ _)); exact BK773.out⟩, ⟨by (try simp only [hl779001_62]); (with_reducible repeat (first | refine blk_drewN ?_ _ | refine blk_drew ?_ | refine blk_alloc ?_ _)); exact BK778.out⟩, ⟨by (try simp only [hl779001_62]); (with_reducible repeat (first | refine blk_drewN ?_ _ | refine blk_drew ?_ | refine blk_alloc ?_ _)); exact BK784.out⟩, ⟨by (try simp only [hl779001_62]); (with_reducible repeat (first | refine blk_drewN ?_ _ | refine blk_drew ?_ | refine blk_alloc ?_ _)); exact BK806.out⟩, ⟨by repeat (first | (with_reducible first | exact HB.out | apply below_alloc | apply pw_below_drewN | apply below_drew1 | refine below_set ?_ GE762.out | refine below_set ?_ GE773.out | refine below_set ?_ GE778.out | refine below_set ?_ GE784.out | refine below_set ?_ GE806.out) | exact HB.out)⟩⟩
                      case rest =>
                        clear HC106
                        try clear c1
                        try clear c2
                        try clear p2
                        try clear c3
                        try clear c4
                        try clear c4b0
                        try clear c5
                        try clear c6
                        try clear c7
                        try clear c8
                        try clear c9
                        try clear c10
                        try clear c11
                        try clear c12
                        try clear c13
                        try clear c14
                        try clear c20
                        try clear c21
                        try clear c22
                        try clear c24
                        try clear c27
                        try clear c28
                        try clear c35
                        try clear c36
                        try clear c37
                        try clear c39
                        try clear c40
                        try clear c41
                        try clear c42
                        try clear c43
                        try clear c44
                        try clear c46
                        try clear c47
                        try clear c50
                        try clear c51
                        try clear c52
                        try clear c54
                        try clear c55
                        try clear c58
                        try clear c61
                        try clear c68
                        try clear c69
                        try clear c70
                        try clear c73
                        try clear c73b0
                        try clear c75
                        try clear c76
                        try clear c77
                        try clear c78
                        try clear c80
                        try clear c81
                        try clear c84
                        try clear c85
                        try clear c86
                        try clear c88
                        try clear c89
                        try clear c92
                        try clear c95
                        try clear c95b0
                        try clear c96
                        try clear c97
                        try clear c98
                        try clear c103
                        try clear c103b0
                        try clear c103b1
                        try clear c107
                        try clear c108
                        try clear c109
                        try clear c114
                        try clear c115
                        try clear c121
                        try clear c122
                        try clear c123
                        try clear c124
                        try clear c128
                        try clear c129
                        try clear c130
                        try clear c131
                        try clear c132
                        try clear c134
                        try clear c135
                        try clear c136
                        try clear c139
                        try clear c140
                        try clear c141
                        try clear c142
                        try clear c144
                        try clear c145
                        try clear c146
                        try clear hcz101_0
                        try clear hcz101_1
                        try clear hcz110_0
                        try clear hcz110_1
                        try clear hcz112_0
                        try clear hcz112_1
                        try clear hcz116_0
                        try clear hcz116_1
                        try clear hcz125_0
                        try clear hcz125_1
                        try clear hcz133_0
                        try clear hcz133_1
                        try clear hcz137_0
                        try clear hcz137_1
                        try clear hcz143_0
                        try clear hcz143_1
                        try clear hcz147_0
                        try clear hcz147_1
                        try clear hcz14_0
                        try clear hcz14_1
                        try clear hcz16_0
                        try clear hcz16_1
                        try clear hcz22_0
                        try clear hcz22_1
                        try clear hcz24_0
                        try clear hcz24_1
                        try clear hcz29_0
                        try clear hcz29_1
                        try clear hcz32_0
                        try clear hcz32_1
                        try clear hcz38_0
                        try clear hcz38_1
                        try clear hcz45_0
                        try clear hcz45_1
                        try clear hcz48_0
                        try clear hcz48_1
                        try clear hcz53_0
                        try clear hcz53_1
                        try clear hcz56_0
                        try clear hcz56_1
                        try clear hcz6_0
                        try clear hcz6_1
                        try clear hcz71_0
                        try clear hcz71_1
                        try clear hcz79_0
                        try clear hcz79_1
                        try clear hcz82_0
                        try clear hcz82_1
                        try clear hcz87_0
                        try clear hcz87_1
                        try clear hcz90_0
                        try clear hcz90_1
                        try clear hcz99_0
                        try clear hcz99_1
                        try clear hfz101_0
                        try clear hfz101_1
                        try clear hfz110_0
                        try clear hfz110_1
                        try clear hfz112_0
                        try clear hfz112_1
                        try clear hfz116_0
                        try clear hfz116_1
                        try clear hfz125_0
                        try clear hfz125_1
                        try clear hfz133_0
                        try clear hfz133_1
                        try clear hfz137_0
                        try clear hfz137_1
                        try clear hfz143_0
                        try clear hfz143_1
                        try clear hfz147_0
                        try clear hfz147_1
                        try clear hfz14_0
                        try clear hfz14_1
                        try clear hfz16_0
                        try clear hfz16_1
                        try clear hfz22_0
                        try clear hfz22_1
                        try clear hfz24_0
                        try clear hfz24_1
                        try clear hfz29_0
                        try clear hfz29_1
                        try clear hfz32_0
                        try clear hfz32_1
                        try clear hfz38_0
                        try clear hfz38_1
                        try clear hfz45_0
                        try clear hfz45_1
                        try clear hfz48_0
                        try clear hfz48_1
                        try clear hfz53_0
                        try clear hfz53_1
                        try clear hfz56_0
                        try clear hfz56_1
                        try clear hfz6_0
                        try clear hfz6_1
                        try clear hfz71_0
                        try clear hfz71_1
                        try clear hfz79_0
                        try clear hfz79_1
                        try clear hfz82_0
                        try clear hfz82_1
                        try clear hfz87_0
                        try clear hfz87_1
                        try clear hfz90_0
                        try clear hfz90_1
                        try clear hfz99_0
                        try clear hfz99_1
                        try clear p2
                        obtain ⟨kq, x92_105, rfl, HA, HJ105, HO_774001, HO_779001, HO_785001, HO_807001, BK762, BK773, BK778, BK784, BK806, HB⟩ := hcut
                        have hl785001_105 := (Kd.R_reads' HO_785001.out).1
                        rw [hl785001_105] at HO_785001
                        (try simp only [hl785001_105])
                        (try simp only [hl785001_105] at BK762)
                        (try simp only [hl785001_105] at BK773)
                        (try simp only [hl785001_105] at BK778)
                        (try simp only [hl785001_105] at BK784)
                        (try simp only [hl785001_105] at BK806)
                        (try simp only [hl785001_105] at HO_774001)
                        (try simp only [hl785001_105] at HO_779001)
                        (try simp only [hl785001_105] at HO_807001)
                        cases kq with
                        | zero => exact absurd HA.out (by simp [laws_FnExactConjugateBraid.j2])
                        | succ kj105 =>
                          have H := HA.out
                          clear HA
                          simp only [laws_FnExactConjugateBraid.j2] at H
                          by_cases c149 : x92_105 = true
                          · subst c149
                            have H1 : (some false) = some r := by rw [if_pos rfl] at H; exact H
                            clear H
                            have H := H1
                            clear H1
                            obtain rfl := Option.some.inj H
                            go_wp2
                            go_ret
                            exact ⟨by first | rfl | (simp [errW_none, errW_some] <;> rfl) | (simp [*, errW_none, errW_some] <;> rfl), by repeat (first | (with_reducible first | exact HB.out | apply below_alloc | apply pw_below_drewN | apply below_drew1 | refine below_set ?_ GE762.out | refine below_set ?_ GE773.out | refine below_set ?_ GE778.out | refine below_set ?_ GE784.out | refine below_set ?_ GE806.out) | exact HB.out)⟩
                          · replace c149 := Bool.eq_false_iff.mpr c149
                            subst c149
                            have H1 : ((laws_heldBraid.f kj105 t779 t795 1).bind fun t808 => (if t808 < 0 then (some false) else (if t808 = t794 then (some true) else (some false)))) = some r := by rw [if_neg (show ¬ (false = true) by decide)] at H; exact H
                            clear H
                            have H := H1
                            clear H1
                            replace H := Option.bind_eq_some_iff.mp H
                            obtain ⟨t808, A1500, H⟩ := H
                            replace H : (if t808 < 0 then (some false) else (if t808 = t794 then (some true) else (some false))) = some r := H
                            have A150 := Aside0.mk A1500
                            clear A1500
                            by_cases c151 : t808 < 0
                            · rw [if_pos c151] at H
                              have c151b0 : decide (t808 < 0) = true := decide_eq_true c151
                              clear c151
                              obtain rfl := Option.some.inj H
                              have hnb152 := NB784_762.out
                              have hnc152 := NB762_784.out
                              have hnb153 := NB784_773.out
                              have hnc153 := NB773_784.out
                              have hnb154 := NB784_778.out
                              have hnc154 := NB778_784.out
                              have hnb155 := NB784_806.out
                              have hnc155 := NB806_784.out
                              have hcz156_0 : wc.cell? ⟨gb784, 0, none⟩ = some (.int .i64 t779) := (blk_cell BK784.out 0).trans rfl
                              have hcz156_1 : wc.cell? ⟨gb784, 1, none⟩ = some (.slice Ao39 t795.length co39) := (blk_cell BK784.out 1).trans rfl
                              have hfz156_0 := blk_frozen BK784.out 0
                              have hfz156_1 := blk_frozen BK784.out 1
                              go_wp2_with (first | ((with_reducible refine gate_callee (f := 28) rfl ?_); refine goesL_ (some 95) rfl rfl Try.func28 (by kernel_rfl) rfl #[.agg #[.int .i64 t779, .slice Ao39 t795.length co39], .int .i64 1] rfl (by (try simp only [List.map_toArray, List.map_cons, List.map_nil]); first | done | rfl | (simp only [List.length_drop, List.length_take]; rfl)) ?_; (with_reducible refine (laws_heldBraid.calls kj105 t779 _ _ t795 1 t808 _ ?side1 ?side2 A150.out).mono ?_); (case side1 => repeat (first | exact (Kd.R_reads' HO_785001.out).2.2 | (with_reducible refine Kd.C_alloc ?_ _) | (with_reducible refine Kd.C_drewN ?_ _) | (with_reducible refine Kd.C_drew ?_))); (case side2 => exact (Kd.R_reads' HO_785001.out).2.1); rintro e w157 ⟨rfl, hb⟩; refine ⟨_, rfl, ?_⟩; have n0_ := Aside0.mk (Kd.R_below (by (with_reducible repeat (first | apply Kd.R_alloc | apply Kd.R_drewN | apply Kd.R_drew)); exact HO_774001.out) hb); have n1_ := Aside0.mk (Kd.R_below (by (with_reducible repeat (first | apply Kd.R_alloc | apply Kd.R_drewN | apply Kd.R_drew)); exact HO_779001.out) hb); have n2_ := Aside0.mk (Kd.R_below (by (with_reducible repeat (first | apply Kd.R_alloc | apply Kd.R_drewN | apply Kd.R_drew)); exact HO_785001.out) hb); have n3_ := Aside0.mk (Kd.R_below (by (with_reducible repeat (first | apply Kd.R_alloc | apply Kd.R_drewN | apply Kd.R_drew)); exact HO_807001.out) hb); have n4_ := Aside0.mk (blk_below (g := gb762) (o := .cells #[.int .i64 a0_0, .slice A0_1 l0_1.length c0_1] 30 (0, 0)) (by (with_reducible repeat (first | refine blk_drewN ?_ _ | refine blk_drew ?_ | refine blk_alloc ?_ _)); exact BK762.out) hb); have n5_ := Aside0.mk (blk_below (g := gb773) (o := .cells #[.int .i64 t768, .slice Ao23 t769.length co23] 33 (0, 0)) (by (with_reducible repeat (first | refine blk_drewN ?_ _ | refine blk_drew ?_ | refine blk_alloc ?_ _)); exact BK773.out) hb); have n6_ := Aside0.mk (blk_below (g := gb778) (o := .cells #[.int .i64 t774, .slice Ao30 t792.length co30] 33 (0, 0)) (by (with_reducible repeat (first | refine blk_drewN ?_ _ | refine blk_drew ?_ | refine blk_alloc ?_ _)); exact BK778.out) hb); have n7_ := Aside0.mk (blk_below (g := gb784) (o := .cells #[.int .i64 t779, .slice Ao39 t795.length co39] 33 (0, 0)) (by (with_reducible repeat (first | refine blk_drewN ?_ _ | refine blk_drew ?_ | refine blk_alloc ?_ _)); exact BK784.out) hb); have n8_ := Aside0.mk (blk_below (g := gb806) (o := .cells #[.int .i64 t801, .slice Ao126 t802.length co126] 33 (0, 0)) (by (with_reducible repeat (first | refine blk_drewN ?_ _ | refine blk_drew ?_ | refine blk_alloc ?_ _)); exact BK806.out) hb); have n9_ := Aside0.mk (below_step (by repeat (first | (with_reducible first | exact HB.out | apply below_alloc | apply pw_below_drewN | apply below_drew1 | refine below_set ?_ GE762.out | refine below_set ?_ GE773.out | refine below_set ?_ GE778.out | refine below_set ?_ GE784.out | refine below_set ?_ GE806.out) | exact HB.out)) hb); clear HO_774001; clear HO_779001; clear HO_785001; clear HO_807001; clear BK762; clear BK773; clear BK778; clear BK784; clear BK806; clear HB; have HO_774001 := n0_; have HO_779001 := n1_; have HO_785001 := n2_; have HO_807001 := n3_; have BK762 := n4_; have BK773 := n5_; have BK778 := n6_; have BK784 := n7_; have BK806 := n8_; have HB := n9_; clear n0_ n1_ n2_ n3_ n4_ n5_ n6_ n7_ n8_ n9_; (try clear hb); (try clear hb2); (try clear hk); (try clear hi)))
                              go_ret
                              exact ⟨by first | rfl | (simp [errW_none, errW_some] <;> rfl) | (simp [*, errW_none, errW_some] <;> rfl), by repeat (first | (with_reducible first | exact HB.out | apply below_alloc | apply pw_below_drewN | apply below_drew1 | refine below_set ?_ GE762.out | refine below_set ?_ GE773.out | refine below_set ?_ GE778.out | refine below_set ?_ GE784.out | refine below_set ?_ GE806.out) | exact HB.out)⟩
                            · rw [if_neg c151] at H
                              have c151b0 : decide (t808 < 0) = false := decide_eq_false c151
                              clear c151
                              by_cases c158 : t808 = t794
                              · rw [if_pos c158] at H
                                have c158b0 : (t808 == t794) = true := beq_iff_eq.mpr c158
                                have c158b1 : (t808 != t794) = false := bne_eq_false_iff_eq.mpr c158
                                clear c158
                                obtain rfl := Option.some.inj H
                                have hnb159 := NB784_762.out
                                have hnc159 := NB762_784.out
                                have hnb160 := NB784_773.out
                                have hnc160 := NB773_784.out
                                have hnb161 := NB784_778.out
                                have hnc161 := NB778_784.out
                                have hnb162 := NB784_806.out
                                have hnc162 := NB806_784.out
                                have hcz163_0 : wc.cell? ⟨gb784, 0, none⟩ = some (.int .i64 t779) := (blk_cell BK784.out 0).trans rfl
                                have hcz163_1 : wc.cell? ⟨gb784, 1, none⟩ = some (.slice Ao39 t795.length co39) := (blk_cell BK784.out 1).trans rfl
                                have hfz163_0 := blk_frozen BK784.out 0
                                have hfz163_1 := blk_frozen BK784.out 1
                                go_wp2_with (first | ((with_reducible refine gate_callee (f := 28) rfl ?_); refine goesL_ (some 95) rfl rfl Try.func28 (by kernel_rfl) rfl #[.agg #[.int .i64 t779, .slice Ao39 t795.length co39], .int .i64 1] rfl (by (try simp only [List.map_toArray, List.map_cons, List.map_nil]); first | done | rfl | (simp only [List.length_drop, List.length_take]; rfl)) ?_; (with_reducible refine (laws_heldBraid.calls kj105 t779 _ _ t795 1 t808 _ ?side1 ?side2 A150.out).mono ?_); (case side1 => repeat (first | exact (Kd.R_reads' HO_785001.out).2.2 | (with_reducible refine Kd.C_alloc ?_ _) | (with_reducible refine Kd.C_drewN ?_ _) | (with_reducible refine Kd.C_drew ?_))); (case side2 => exact (Kd.R_reads' HO_785001.out).2.1); rintro e w164 ⟨rfl, hb⟩; refine ⟨_, rfl, ?_⟩; have n0_ := Aside0.mk (Kd.R_below (by (with_reducible repeat (first | apply Kd.R_alloc | apply Kd.R_drewN | apply Kd.R_drew)); exact HO_774001.out) hb); have n1_ := Aside0.mk (Kd.R_below (by (with_reducible repeat (first | apply Kd.R_alloc | apply Kd.R_drewN | apply Kd.R_drew)); exact HO_779001.out) hb); have n2_ := Aside0.mk (Kd.R_below (by (with_reducible repeat (first | apply Kd.R_alloc | apply Kd.R_drewN | apply Kd.R_drew)); exact HO_785001.out) hb); have n3_ := Aside0.mk (Kd.R_below (by (with_reducible repeat (first | apply Kd.R_alloc | apply Kd.R_drewN | apply Kd.R_drew)); exact HO_807001.out) hb); have n4_ := Aside0.mk (blk_below (g := gb762) (o := .cells #[.int .i64 a0_0, .slice A0_1 l0_1.length c0_1] 30 (0, 0)) (by (with_reducible repeat (first | refine blk_drewN ?_ _ | refine blk_drew ?_ | refine blk_alloc ?_ _)); exact BK762.out) hb); have n5_ := Aside0.mk (blk_below (g := gb773) (o := .cells #[.int .i64 t768, .slice Ao23 t769.length co23] 33 (0, 0)) (by (with_reducible repeat (first | refine blk_drewN ?_ _ | refine blk_drew ?_ | refine blk_alloc ?_ _)); exact BK773.out) hb); have n6_ := Aside0.mk (blk_below (g := gb778) (o := .cells #[.int .i64 t774, .slice Ao30 t792.length co30] 33 (0, 0)) (by (with_reducible repeat (first | refine blk_drewN ?_ _ | refine blk_drew ?_ | refine blk_alloc ?_ _)); exact BK778.out) hb); have n7_ := Aside0.mk (blk_below (g := gb784) (o := .cells #[.int .i64 t779, .slice Ao39 t795.length co39] 33 (0, 0)) (by (with_reducible repeat (first | refine blk_drewN ?_ _ | refine blk_drew ?_ | refine blk_alloc ?_ _)); exact BK784.out) hb); have n8_ := Aside0.mk (blk_below (g := gb806) (o := .cells #[.int .i64 t801, .slice Ao126 t802.length co126] 33 (0, 0)) (by (with_reducible repeat (first | refine blk_drewN ?_ _ | refine blk_drew ?_ | refine blk_alloc ?_ _)); exact BK806.out) hb); have n9_ := Aside0.mk (below_step (by repeat (first | (with_reducible first | exact HB.out | apply below_alloc | apply pw_below_drewN | apply below_drew1 | refine below_set ?_ GE762.out | refine below_set ?_ GE773.out | refine below_set ?_ GE778.out | refine below_set ?_ GE784.out | refine below_set ?_ GE806.out) | exact HB.out)) hb); clear HO_774001; clear HO_779001; clear HO_785001; clear HO_807001; clear BK762; clear BK773; clear BK778; clear BK784; clear BK806; clear HB; have HO_774001 := n0_; have HO_779001 := n1_; have HO_785001 := n2_; have HO_807001 := n3_; have BK762 := n4_; have BK773 := n5_; have BK778 := n6_; have BK784 := n7_; have BK806 := n8_; have HB := n9_; clear n0_ n1_ n2_ n3_ n4_ n5_ n6_ n7_ n8_ n9_; (try clear hb); (try clear hb2); (try clear hk); (try clear hi)))
                                go_ret
                                exact ⟨by first | rfl | (simp [errW_none, errW_some] <;> rfl) | (simp [*, errW_none, errW_some] <;> rfl), by repeat (first | (with_reducible first | exact HB.out | apply below_alloc | apply pw_below_drewN | apply below_drew1 | refine below_set ?_ GE762.out | refine below_set ?_ GE773.out | refine below_set ?_ GE778.out | refine below_set ?_ GE784.out | refine below_set ?_ GE806.out) | exact HB.out)⟩
                              · rw [if_neg c158] at H
                                have c158b0 : (t808 == t794) = false := beq_eq_false_iff_ne.mpr c158
                                have c158b1 : (t808 != t794) = true := bne_iff_ne.mpr c158
                                obtain rfl := Option.some.inj H
                                have hnb165 := NB784_762.out
                                have hnc165 := NB762_784.out
                                have hnb166 := NB784_773.out
                                have hnc166 := NB773_784.out
                                have hnb167 := NB784_778.out
                                have hnc167 := NB778_784.out
                                have hnb168 := NB784_806.out
                                have hnc168 := NB806_784.out
                                have hcz169_0 : wc.cell? ⟨gb784, 0, none⟩ = some (.int .i64 t779) := (blk_cell BK784.out 0).trans rfl
                                have hcz169_1 : wc.cell? ⟨gb784, 1, none⟩ = some (.slice Ao39 t795.length co39) := (blk_cell BK784.out 1).trans rfl
                                have hfz169_0 := blk_frozen BK784.out 0
                                have hfz169_1 := blk_frozen BK784.out 1
                                go_wp2_with (first | ((with_reducible refine gate_callee (f := 28) rfl ?_); refine goesL_ (some 95) rfl rfl Try.func28 (by kernel_rfl) rfl #[.agg #[.int .i64 t779, .slice Ao39 t795.length co39], .int .i64 1] rfl (by (try simp only [List.map_toArray, List.map_cons, List.map_nil]); first | done | rfl | (simp only [List.length_drop, List.length_take]; rfl)) ?_; (with_reducible refine (laws_heldBraid.calls kj105 t779 _ _ t795 1 t808 _ ?side1 ?side2 A150.out).mono ?_); (case side1 => repeat (first | exact (Kd.R_reads' HO_785001.out).2.2 | (with_reducible refine Kd.C_alloc ?_ _) | (with_reducible refine Kd.C_drewN ?_ _) | (with_reducible refine Kd.C_drew ?_))); (case side2 => exact (Kd.R_reads' HO_785001.out).2.1); rintro e w170 ⟨rfl, hb⟩; refine ⟨_, rfl, ?_⟩; have n0_ := Aside0.mk (Kd.R_below (by (with_reducible repeat (first | apply Kd.R_alloc | apply Kd.R_drewN | apply Kd.R_drew)); exact HO_774001.out) hb); have n1_ := Aside0.mk (Kd.R_below (by (with_reducible repeat (first | apply Kd.R_alloc | apply Kd.R_drewN | apply Kd.R_drew)); exact HO_779001.out) hb); have n2_ := Aside0.mk (Kd.R_below (by (with_reducible repeat (first | apply Kd.R_alloc | apply Kd.R_drewN | apply Kd.R_drew)); exact HO_785001.out) hb); have n3_ := Aside0.mk (Kd.R_below (by (with_reducible repeat (first | apply Kd.R_alloc | apply Kd.R_drewN | apply Kd.R_drew)); exact HO_807001.out) hb); have n4_ := Aside0.mk (blk_below (g := gb762) (o := .cells #[.int .i64 a0_0, .slice A0_1 l0_1.length c0_1] 30 (0, 0)) (by (with_reducible repeat (first | refine blk_drewN ?_ _ | refine blk_drew ?_ | refine blk_alloc ?_ _)); exact BK762.out) hb); have n5_ := Aside0.mk (blk_below (g := gb773) (o := .cells #[.int .i64 t768, .slice Ao23 t769.length co23] 33 (0, 0)) (by (with_reducible repeat (first | refine blk_drewN ?_ _ | refine blk_drew ?_ | refine blk_alloc ?_ _)); exact BK773.out) hb); have n6_ := Aside0.mk (blk_below (g := gb778) (o := .cells #[.int .i64 t774, .slice Ao30 t792.length co30] 33 (0, 0)) (by (with_reducible repeat (first | refine blk_drewN ?_ _ | refine blk_drew ?_ | refine blk_alloc ?_ _)); exact BK778.out) hb); have n7_ := Aside0.mk (blk_below (g := gb784) (o := .cells #[.int .i64 t779, .slice Ao39 t795.length co39] 33 (0, 0)) (by (with_reducible repeat (first | refine blk_drewN ?_ _ | refine blk_drew ?_ | refine blk_alloc ?_ _)); exact BK784.out) hb); have n8_ := Aside0.mk (blk_below (g := gb806) (o := .cells #[.int .i64 t801, .slice Ao126 t802.length co126] 33 (0, 0)) (by (with_reducible repeat (first | refine blk_drewN ?_ _ | refine blk_drew ?_ | refine blk_alloc ?_ _)); exact BK806.out) hb); have n9_ := Aside0.mk (below_step (by repeat (first | (with_reducible first | exact HB.out | apply below_alloc | apply pw_below_drewN | apply below_drew1 | refine below_set ?_ GE762.out | refine below_set ?_ GE773.out | refine below_set ?_ GE778.out | refine below_set ?_ GE784.out | refine below_set ?_ GE806.out) | exact HB.out)) hb); clear HO_774001; clear HO_779001; clear HO_785001; clear HO_807001; clear BK762; clear BK773; clear BK778; clear BK784; clear BK806; clear HB; have HO_774001 := n0_; have HO_779001 := n1_; have HO_785001 := n2_; have HO_807001 := n3_; have BK762 := n4_; have BK773 := n5_; have BK778 := n6_; have BK784 := n7_; have BK806 := n8_; have HB := n9_; clear n0_ n1_ n2_ n3_ n4_ n5_ n6_ n7_ n8_ n9_; (try clear hb); (try clear hb2); (try clear hk); (try clear hi)))
                                go_ret
                                exact ⟨by first | rfl | (simp [errW_none, errW_some] <;> rfl) | (simp [*, errW_none, errW_some] <;> rfl), by repeat (first | (with_reducible first | exact HB.out | apply below_alloc | apply pw_below_drewN | apply below_drew1 | refine below_set ?_ GE762.out | refine below_set ?_ GE773.out | refine below_set ?_ GE778.out | refine below_set ?_ GE784.out | refine below_set ?_ GE806.out) | exact HB.out)⟩
                    · rw [if_neg c103] at H
                      have c103b0 : (t796 == t794) = false := beq_eq_false_iff_ne.mpr c103
                      have c103b1 : (t796 != t794) = true := bne_iff_ne.mpr c103
                      obtain rfl := Option.some.inj H
                      have hnb171 := NB784_762.out
                      have hnc171 := NB762_784.out
                      have hnb172 := NB784_773.out
                      have hnc172 := NB773_784.out
                      have hnb173 := NB784_778.out
                      have hnc173 := NB778_784.out
                      have hcz174_0 : wc.cell? ⟨gb784, 0, none⟩ = some (.int .i64 t779) := (blk_cell BK784.out 0).trans rfl
                      have hcz174_1 : wc.cell? ⟨gb784, 1, none⟩ = some (.slice Ao39 t780.length co39) := (blk_cell BK784.out 1).trans rfl
                      have hfz174_0 := blk_frozen BK784.out 0
                      have hfz174_1 := blk_frozen BK784.out 1
                      go_wp2_with (first | ((with_reducible refine gate_callee (f := 27) rfl ?_); refine goesL_ (some 68) rfl rfl Try.func27 (by kernel_rfl) rfl #[.agg #[.int .i64 t779, .slice Ao39 t780.length co39], .int .i64 1] rfl (by (try simp only [List.map_toArray, List.map_cons, List.map_nil]); first | done | rfl | (simp only [List.length_drop, List.length_take]; rfl)) ?_; (with_reducible refine (laws_markBraid.calls kj62 t779 (fun k_ => some k_ = (.slice Ao39 t780.length co39 : Value).ownBlock) (.slice Ao39 t780.length co39) t780 1 t794 t795 w _ ?side1 ?side2 A93.out).mono ?_); (case side1 => repeat (first | (with_reducible first | exact HB.out | apply below_alloc | apply pw_below_drewN | apply below_drew1 | refine below_set ?_ GE762.out | refine below_set ?_ GE773.out | refine below_set ?_ GE778.out | refine below_set ?_ GE784.out) | exact HB.out)); (case side2 => exact Kd.R_tight rfl HO_785001.out); rintro e w175 ⟨rfl, hy0, hb, hkp⟩; refine ⟨_, rfl, ?_⟩; have n0_ := Aside0.mk (Kd.R_mono (ok' := fun k_ => some k_ ≠ (.slice Ao30 t792.length co30 : Value).ownBlock ∧ some k_ ≠ (.slice Ao39 t780.length co39 : Value).ownBlock) (Kd.R_keptB (HO_774001.out) hkp (fun k_ hk_ hs_ => by first | exact (hk_.2) hs_ | grind)) (fun k_ hk_ => by first | exact ⟨hk_.1.1, hk_.1.2⟩ | grind)); have n1_ := Aside0.mk (Kd.R_mono (ok' := fun k_ => some k_ ≠ (.slice Ao23 t769.length co23 : Value).ownBlock ∧ some k_ ≠ (.slice Ao39 t780.length co39 : Value).ownBlock) (Kd.R_keptB (HO_779001.out) hkp (fun k_ hk_ hs_ => by first | exact (hk_.2) hs_ | grind)) (fun k_ hk_ => by first | exact ⟨hk_.1.1, hk_.1.2⟩ | grind)); have n2_ := Aside0.mk (Kd.R_reok rfl hy0 (fun k_ e_ => HO_785001.out.1 k_ e_)); have n3_ := Aside0.mk (blk_kept (by (with_reducible repeat (first | refine blk_drewN ?_ _ | refine blk_drew ?_ | refine blk_alloc ?_ _)); exact BK762.out) hkp (fun hs_ => (fun e_ => (Kd.R_ne HO_785001.out BK762.out (by decide)) e_) hs_)); have n4_ := Aside0.mk (blk_kept (by (with_reducible repeat (first | refine blk_drewN ?_ _ | refine blk_drew ?_ | refine blk_alloc ?_ _)); exact BK773.out) hkp (fun hs_ => (fun e_ => (Kd.R_ne HO_785001.out BK773.out (by decide)) e_) hs_)); have n5_ := Aside0.mk (blk_kept (by (with_reducible repeat (first | refine blk_drewN ?_ _ | refine blk_drew ?_ | refine blk_alloc ?_ _)); exact BK778.out) hkp (fun hs_ => (fun e_ => (Kd.R_ne HO_785001.out BK778.out (by decide)) e_) hs_)); have n6_ := Aside0.mk (blk_kept (by (with_reducible repeat (first | refine blk_drewN ?_ _ | refine blk_drew ?_ | refine blk_alloc ?_ _)); exact BK784.out) hkp (fun hs_ => (fun e_ => (Kd.R_ne HO_785001.out BK784.out (by decide)) e_) hs_)); have n7_ := Aside0.mk (hb); clear HO_774001; clear HO_779001; clear HO_785001; clear BK762; clear BK773; clear BK778; clear BK784; clear HB; have HO_774001 := n0_; have HO_779001 := n1_; have HO_785001 := n2_; have BK762 := n3_; have BK773 := n4_; have BK778 := n5_; have BK784 := n6_; have HB := n7_; clear n0_ n1_ n2_ n3_ n4_ n5_ n6_ n7_; (try clear hb); (try clear hkp); (try clear hy0); have hcz176_0 : w175.cell? ⟨gb784, 0, none⟩ = some (.int .i64 t779) := (blk_cell BK784.out 0).trans rfl; have hcz176_1 : w175.cell? ⟨gb784, 1, none⟩ = some (.slice Ao39 t780.length co39) := (blk_cell BK784.out 1).trans rfl; have hfz176_0 := blk_frozen BK784.out 0; have hfz176_1 := blk_frozen BK784.out 1) | ((with_reducible refine gate_callee (f := 28) rfl ?_); refine goesL_ (some 71) rfl rfl Try.func28 (by kernel_rfl) rfl #[.agg #[.int .i64 t779, .slice Ao39 t795.length co39], .int .i64 1] rfl (by (try simp only [List.map_toArray, List.map_cons, List.map_nil]); first | done | (rw [show t795.length = t780.length from (Kd.R_reads' HO_785001.out).1.symm] <;> rfl) | rfl | (simp only [List.length_drop, List.length_take]; rfl)) ?_; (with_reducible refine (laws_heldBraid.calls kj62 t779 _ _ t795 1 t796 _ ?side1 ?side2 A94.out).mono ?_); (case side1 => repeat (first | exact (Kd.R_reads' HO_785001.out).2.2 | (with_reducible refine Kd.C_alloc ?_ _) | (with_reducible refine Kd.C_drewN ?_ _) | (with_reducible refine Kd.C_drew ?_))); (case side2 => rw [show t795.length = t780.length from (Kd.R_reads' HO_785001.out).1.symm]; exact (Kd.R_reads' HO_785001.out).2.1); rintro e w177 ⟨rfl, hb⟩; refine ⟨_, rfl, ?_⟩; have n0_ := Aside0.mk (Kd.R_below (by (with_reducible repeat (first | apply Kd.R_alloc | apply Kd.R_drewN | apply Kd.R_drew)); exact HO_774001.out) hb); have n1_ := Aside0.mk (Kd.R_below (by (with_reducible repeat (first | apply Kd.R_alloc | apply Kd.R_drewN | apply Kd.R_drew)); exact HO_779001.out) hb); have n2_ := Aside0.mk (Kd.R_below (by (with_reducible repeat (first | apply Kd.R_alloc | apply Kd.R_drewN | apply Kd.R_drew)); exact HO_785001.out) hb); have n3_ := Aside0.mk (blk_below (g := gb762) (o := .cells #[.int .i64 a0_0, .slice A0_1 l0_1.length c0_1] 30 (0, 0)) (by (with_reducible repeat (first | refine blk_drewN ?_ _ | refine blk_drew ?_ | refine blk_alloc ?_ _)); exact BK762.out) hb); have n4_ := Aside0.mk (blk_below (g := gb773) (o := .cells #[.int .i64 t768, .slice Ao23 t769.length co23] 33 (0, 0)) (by (with_reducible repeat (first | refine blk_drewN ?_ _ | refine blk_drew ?_ | refine blk_alloc ?_ _)); exact BK773.out) hb); have n5_ := Aside0.mk (blk_below (g := gb778) (o := .cells #[.int .i64 t774, .slice Ao30 t792.length co30] 33 (0, 0)) (by (with_reducible repeat (first | refine blk_drewN ?_ _ | refine blk_drew ?_ | refine blk_alloc ?_ _)); exact BK778.out) hb); have n6_ := Aside0.mk (blk_below (g := gb784) (o := .cells #[.int .i64 t779, .slice Ao39 t780.length co39] 33 (0, 0)) (by (with_reducible repeat (first | refine blk_drewN ?_ _ | refine blk_drew ?_ | refine blk_alloc ?_ _)); exact BK784.out) hb); have n7_ := Aside0.mk (below_step (by repeat (first | (with_reducible first | exact HB.out | apply below_alloc | apply pw_below_drewN | apply below_drew1 | refine below_set ?_ GE762.out | refine below_set ?_ GE773.out | refine below_set ?_ GE778.out | refine below_set ?_ GE784.out) | exact HB.out)) hb); clear HO_774001; clear HO_779001; clear HO_785001; clear BK762; clear BK773; clear BK778; clear BK784; clear HB; have HO_774001 := n0_; have HO_779001 := n1_; have HO_785001 := n2_; have BK762 := n3_; have BK773 := n4_; have BK778 := n5_; have BK784 := n6_; have HB := n7_; clear n0_ n1_ n2_ n3_ n4_ n5_ n6_ n7_; (try clear hb); (try clear hb2); (try clear hk); (try clear hi)))
                      go_ret
                      exact ⟨by first | rfl | (simp [errW_none, errW_some] <;> rfl) | (simp [*, errW_none, errW_some] <;> rfl), by repeat (first | (with_reducible first | exact HB.out | apply below_alloc | apply pw_below_drewN | apply below_drew1 | refine below_set ?_ GE762.out | refine below_set ?_ GE773.out | refine below_set ?_ GE778.out | refine below_set ?_ GE784.out) | exact HB.out)⟩
          · replace c61 := Bool.eq_false_iff.mpr c61
            subst c61
            have H1 : (some false) = some r := by rw [if_neg (show ¬ (false = true) by decide)] at H; exact H
            clear H
            have H := H1
            clear H1
            obtain rfl := Option.some.inj H
            try go_wp2
            have n0_ := Aside0.mk (Kd.R_drew HO_774001.out)
            have n1_ := Aside0.mk (Kd.R_drew HO_779001.out)
            have n2_ := Aside0.mk (Kd.R_drew HO_785001.out)
            have n3_ := Aside0.mk (blk_drew BK762.out)
            have n4_ := Aside0.mk (blk_drew BK773.out)
            have n5_ := Aside0.mk (blk_drew BK778.out)
            have n6_ := Aside0.mk (blk_drew BK784.out)
            have n7_ := Aside0.mk (below_drew1 HB.out)
            clear HO_774001
            clear HO_779001
            clear HO_785001
            clear BK762
            clear BK773
            clear BK778
            clear BK784
            clear HB
            have HO_774001 := n0_
            have HO_779001 := n1_
            have HO_785001 := n2_
            have BK762 := n3_
            have BK773 := n4_
            have BK778 := n5_
            have BK784 := n6_
            have HB := n7_
            clear n0_ n1_ n2_ n3_ n4_ n5_ n6_ n7_
            refine start_ (n := 5) (S := fun w' => w'.cell? ⟨gb778, 0, none⟩ = some (.int .i64 t774) ∧ w'.cell? ⟨gb778, 1, none⟩ = some (.slice Ao30 t775.length co30) ∧ w'.cell? ⟨gb762, 0, none⟩ = some (.int .i64 a0_0) ∧ w'.cell? ⟨gb762, 1, none⟩ = some (.slice A0_1 l0_1.length c0_1)) (ds := []) #[false, false, false, false, false] (by kernel_rfl) rfl rfl ⟨(blk_cell BK778.out 0).trans rfl, (blk_cell BK778.out 1).trans rfl, (blk_cell BK762.out 0).trans rfl, (blk_cell BK762.out 1).trans rfl⟩ (fun hHeld => ?_)
            generalize wc.drew = w178 at HO_774001 HO_779001 HO_785001 BK762 BK773 BK778 BK784 HB hHeld ⊢
            refine take_ (i := 0) (N := some 45) (v := ?_) (a' := ?_) #[true, false, false, false, false] rfl rfl (by kernel_rfl) (fun _ _ _ h => h) (Or.inl ⟨by rfl, ?_⟩) hHeld ?_ ?_
            rotate_left
            · rintro w' ⟨s0, s1, s2, s3⟩
              go_simp
              with_reducible rfl
            rotate_left
            · simp only [Act.put, List.setIfInBounds_toArray, List.set_cons_zero, List.set_cons_succ, i64_w, i32_w]
              rfl
            refine take_ (i := 1) (N := some 46) (v := ?_) (a' := ?_) #[true, true, false, false, false] rfl rfl (by kernel_rfl) (fun _ _ _ h => h) (Or.inl ⟨by rfl, ?_⟩) hHeld ?_ ?_
            rotate_left
            · rintro w' ⟨s0, s1, s2, s3⟩
              go_simp
              with_reducible rfl
            rotate_left
            · simp only [Act.put, List.setIfInBounds_toArray, List.set_cons_zero, List.set_cons_succ, i64_w, i32_w]
              rfl
            refine one_ (i := 2) (N := some 47) #[true, true, true, false, false] rfl rfl (by kernel_rfl) (by decide) (fun K hK => ?_)
            refine goes_ Try.func22 (by kernel_rfl) rfl #[.agg #[.int .i64 a0_0, .slice A0_1 l0_1.length c0_1]] (by rfl) rfl rfl (by (try simp only [List.map_toArray, List.map_cons, List.map_nil]); first | done | rfl | (simp only [List.length_drop, List.length_take]; rfl)) ?_
            with_reducible refine (laws_toBraid.calls kj11 a0_0 _ _ l0_1 t786 t787 _ ?side1 ?side2 A59.out).mono ?_
            (case side1 => repeat (first | exact (Kd.C_below HR0_1.out HB.out) | (with_reducible refine Kd.C_alloc ?_ _) | (with_reducible refine Kd.C_drewN ?_ _) | (with_reducible refine Kd.C_drew ?_)))
            (case side2 => exact HC0_1.out)
            rintro e w179 ⟨v788, rfl, ho0, hb⟩
            refine ⟨_, rfl, ?_⟩
            have n0_ := Aside0.mk (Kd.R_elder' (by (with_reducible repeat (first | apply Kd.R_alloc | apply Kd.R_drewN | apply Kd.R_drew)); exact HO_774001.out) (Kd.R_base ho0) hb)
            have n1_ := Aside0.mk (Kd.R_elder' (by (with_reducible repeat (first | apply Kd.R_alloc | apply Kd.R_drewN | apply Kd.R_drew)); exact HO_779001.out) (Kd.R_base ho0) hb)
            have n2_ := Aside0.mk (Kd.R_elder' (by (with_reducible repeat (first | apply Kd.R_alloc | apply Kd.R_drewN | apply Kd.R_drew)); exact HO_785001.out) (Kd.R_base ho0) hb)
            have n3_ := Aside0.mk (Kd.R_lower (Kd.R_new' (Kd.R_new' (Kd.R_new' ho0 (Kd.R_lt (by (with_reducible repeat (first | apply Kd.R_alloc | apply Kd.R_drewN | apply Kd.R_drew)); exact HO_774001.out))) (Kd.R_lt (by (with_reducible repeat (first | apply Kd.R_alloc | apply Kd.R_drewN | apply Kd.R_drew)); exact HO_779001.out))) (Kd.R_lt (by (with_reducible repeat (first | apply Kd.R_alloc | apply Kd.R_drewN | apply Kd.R_drew)); exact HO_785001.out))) (below_size (by repeat (first | (with_reducible first | exact HB.out | apply below_alloc | apply pw_below_drewN | apply below_drew1 | refine below_set ?_ GE762.out | refine below_set ?_ GE773.out | refine below_set ?_ GE778.out | refine below_set ?_ GE784.out) | exact HB.out))))
            have n4_ := Aside0.mk (blk_below (g := gb762) (o := .cells #[.int .i64 a0_0, .slice A0_1 l0_1.length c0_1] 30 (0, 0)) (by (with_reducible repeat (first | refine blk_drewN ?_ _ | refine blk_drew ?_ | refine blk_alloc ?_ _)); exact BK762.out) hb)
            have n5_ := Aside0.mk (blk_below (g := gb773) (o := .cells #[.int .i64 t768, .slice Ao23 t769.length co23] 33 (0, 0)) (by (with_reducible repeat (first | refine blk_drewN ?_ _ | refine blk_drew ?_ | refine blk_alloc ?_ _)); exact BK773.out) hb)
            have n6_ := Aside0.mk (blk_below (g := gb778) (o := .cells #[.int .i64 t774, .slice Ao30 t775.length co30] 33 (0, 0)) (by (with_reducible repeat (first | refine blk_drewN ?_ _ | refine blk_drew ?_ | refine blk_alloc ?_ _)); exact BK778.out) hb)
            have n7_ := Aside0.mk (blk_below (g := gb784) (o := .cells #[.int .i64 t779, .slice Ao39 t780.length co39] 33 (0, 0)) (by (with_reducible repeat (first | refine blk_drewN ?_ _ | refine blk_drew ?_ | refine blk_alloc ?_ _)); exact BK784.out) hb)
            have n8_ := Aside0.mk (below_step (by repeat (first | (with_reducible first | exact HB.out | apply below_alloc | apply pw_below_drewN | apply below_drew1 | refine below_set ?_ GE762.out | refine below_set ?_ GE773.out | refine below_set ?_ GE778.out | refine below_set ?_ GE784.out) | exact HB.out)) hb)
            clear HO_774001
            clear HO_779001
            clear HO_785001
            clear BK762
            clear BK773
            clear BK778
            clear BK784
            clear HB
            have HO_774001 := n0_
            have HO_779001 := n1_
            have HO_785001 := n2_
            have HO789 := n3_
            have BK762 := n4_
            have BK773 := n5_
            have BK778 := n6_
            have BK784 := n7_
            have HB := n8_
            clear n0_ n1_ n2_ n3_ n4_ n5_ n6_ n7_ n8_
            (try clear hb)
            (try clear hb2)
            (try clear hk)
            (try clear hi)
            (try clear ho0)
            obtain ⟨Ao180, co180, eo180⟩ := Kd.R_slice HO789.out
            (first | subst eo180 | (injection eo180 with f1_ f2_ f3_; have f4_ := f1_.symm; have f5_ := f3_.symm; clear f1_ f2_ f3_; subst f4_; subst f5_))
            refine hK.out _ _ ⟨(blk_cell BK778.out 0).trans rfl, (blk_cell BK778.out 1).trans rfl, (blk_cell BK762.out 0).trans rfl, (blk_cell BK762.out 1).trans rfl⟩ (fun hHeld => ?_)
            clear hK K
            refine norm_ (a' := ?_) ?_ ?_
            rotate_left
            · show Act.put _ (some 47) _ = _
              simp only [Act.put, List.setIfInBounds_toArray, List.set_cons_zero, List.set_cons_succ, i64_w, i32_w]
              rfl
            refine one_ (i := 3) (N := some 48) #[true, true, true, true, false] rfl rfl (by kernel_rfl) (by decide) (fun K hK => ?_)
            refine goes_ Try.func24 (by kernel_rfl) rfl #[.agg #[.int .i64 t774, .slice Ao30 t775.length co30], .agg #[.int .i64 t786, .slice Ao180 t787.length co180]] (by rfl) rfl rfl (by (try simp only [List.map_toArray, List.map_cons, List.map_nil]); first | done | rfl | (simp only [List.length_drop, List.length_take]; rfl)) ?_
            with_reducible refine (laws_eqBraid.calls kj11 t774 _ _ t775 t786 _ _ t787 false _ ?side1 ?side2 ?side3 ?side4 A60.out).mono ?_
            (case side1 => repeat (first | exact (Kd.R_reads' HO_779001.out).2.2 | (with_reducible refine Kd.C_alloc ?_ _) | (with_reducible refine Kd.C_drewN ?_ _) | (with_reducible refine Kd.C_drew ?_)))
            (case side2 => exact (Kd.R_reads' HO_779001.out).2.1)
            (case side3 => repeat (first | exact (Kd.R_reads' HO789.out).2.2 | (with_reducible refine Kd.C_alloc ?_ _) | (with_reducible refine Kd.C_drewN ?_ _) | (with_reducible refine Kd.C_drew ?_)))
            (case side4 => exact (Kd.R_reads' HO789.out).2.1)
            rintro e w181 ⟨rfl, hb⟩
            refine ⟨_, rfl, ?_⟩
            have n0_ := Aside0.mk (Kd.R_below (by (with_reducible repeat (first | apply Kd.R_alloc | apply Kd.R_drewN | apply Kd.R_drew)); exact HO_774001.out) hb)
            have n1_ := Aside0.mk (Kd.R_below (by (with_reducible repeat (first | apply Kd.R_alloc | apply Kd.R_drewN | apply Kd.R_drew)); exact HO_779001.out) hb)
            have n2_ := Aside0.mk (Kd.R_below (by (with_reducible repeat (first | apply Kd.R_alloc | apply Kd.R_drewN | apply Kd.R_drew)); exact HO_785001.out) hb)
            have n3_ := Aside0.mk (Kd.R_below (by (with_reducible repeat (first | apply Kd.R_alloc | apply Kd.R_drewN | apply Kd.R_drew)); exact HO789.out) hb)
            have n4_ := Aside0.mk (blk_below (g := gb762) (o := .cells #[.int .i64 a0_0, .slice A0_1 l0_1.length c0_1] 30 (0, 0)) (by (with_reducible repeat (first | refine blk_drewN ?_ _ | refine blk_drew ?_ | refine blk_alloc ?_ _)); exact BK762.out) hb)
            have n5_ := Aside0.mk (blk_below (g := gb773) (o := .cells #[.int .i64 t768, .slice Ao23 t769.length co23] 33 (0, 0)) (by (with_reducible repeat (first | refine blk_drewN ?_ _ | refine blk_drew ?_ | refine blk_alloc ?_ _)); exact BK773.out) hb)
            have n6_ := Aside0.mk (blk_below (g := gb778) (o := .cells #[.int .i64 t774, .slice Ao30 t775.length co30] 33 (0, 0)) (by (with_reducible repeat (first | refine blk_drewN ?_ _ | refine blk_drew ?_ | refine blk_alloc ?_ _)); exact BK778.out) hb)
            have n7_ := Aside0.mk (blk_below (g := gb784) (o := .cells #[.int .i64 t779, .slice Ao39 t780.length co39] 33 (0, 0)) (by (with_reducible repeat (first | refine blk_drewN ?_ _ | refine blk_drew ?_ | refine blk_alloc ?_ _)); exact BK784.out) hb)
            have n8_ := Aside0.mk (below_step (by repeat (first | (with_reducible first | exact HB.out | apply below_alloc | apply pw_below_drewN | apply below_drew1 | refine below_set ?_ GE762.out | refine below_set ?_ GE773.out | refine below_set ?_ GE778.out | refine below_set ?_ GE784.out) | exact HB.out)) hb)
            clear HO_774001
            clear HO_779001
            clear HO_785001
            clear HO789
            clear BK762
            clear BK773
            clear BK778
            clear BK784
            clear HB
            have HO_774001 := n0_
            have HO_779001 := n1_
            have HO_785001 := n2_
            have HO789 := n3_
            have BK762 := n4_
            have BK773 := n5_
            have BK778 := n6_
            have BK784 := n7_
            have HB := n8_
            clear n0_ n1_ n2_ n3_ n4_ n5_ n6_ n7_ n8_
            (try clear hb)
            (try clear hb2)
            (try clear hk)
            (try clear hi)
            refine hK.out _ _ ⟨(blk_cell BK778.out 0).trans rfl, (blk_cell BK778.out 1).trans rfl, (blk_cell BK762.out 0).trans rfl, (blk_cell BK762.out 1).trans rfl⟩ (fun hHeld => ?_)
            clear hK K
            refine norm_ (a' := ?_) ?_ ?_
            rotate_left
            · show Act.put _ (some 48) _ = _
              simp only [Act.put, List.setIfInBounds_toArray, List.set_cons_zero, List.set_cons_succ, i64_w, i32_w]
              rfl
            refine pure_ (i := 4) (N := some 49) (v := ?_) (a' := ?_) #[true, true, true, true, true] rfl rfl (by kernel_rfl) (fun _ _ _ h => h) (Or.inl ⟨by rfl, ?_⟩) ?_ ?_
            rotate_left
            · intro w'
              go_simp
              with_reducible rfl
            rotate_left
            · simp only [Act.put, List.setIfInBounds_toArray, List.set_cons_zero, List.set_cons_succ, i64_w, i32_w]
              rfl
            refine done_ (by kernel_rfl) ?_
            try go_wp2
            go_ret
            exact ⟨by first | rfl | (simp [errW_none, errW_some] <;> rfl) | (simp [*, errW_none, errW_some] <;> rfl), by repeat (first | (with_reducible first | exact HB.out | apply below_alloc | apply pw_below_drewN | apply below_drew1 | refine below_set ?_ GE762.out | refine below_set ?_ GE773.out | refine below_set ?_ GE778.out | refine below_set ?_ GE784.out) | exact HB.out)⟩

end Go.Proofs.Ytahjhlcmcnemiaa.PA
