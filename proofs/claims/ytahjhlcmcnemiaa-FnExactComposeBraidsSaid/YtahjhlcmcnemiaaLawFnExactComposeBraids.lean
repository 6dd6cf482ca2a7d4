/- FnExactComposeBraids answers true for every input and leaves its arguments as they were. -/
import Derived.Test.YtahjhlcmcnemiaaRows
import Derived.Test.YtahjhlcmcnemiaaStatFnExactComposeBraids
import Derived.Test.YtahjhlcmcnemiaaPureFnExactComposeBraids
import Derived.WalkKit
import Derived.ProofKit
import Derived.OpenShut
import Derived.ShutString
import Derived.ChangeOld
import Derived.Below
import Derived.SizedLaws
import Derived.Lib.SmallJoins
import Derived.Test.YtahjhlcmcnemiaaWSized
namespace Go.Proofs.Ytahjhlcmcnemiaa.fnExactComposeBraids
open Go.ChangeShapes Go.WideShapes Go.ChangeAt Go.RowKit Go.Joins Go.Proofs.YtahjhlcmcnemiaaW.PrintWords Go.Proofs.YtahjhlcmcnemiaaW.PrintLast
open Go.ChangeMaps (open_string shut_string)
set_option linter.unusedVariables false
theorem own : ownKnob Try.prog.godebug = none := by kernel_rfl
theorem laidOut : laidOutB Try.prog = true := by kernel_rfl
set_option maxRecDepth 100000 in
theorem lifted (os : Os) (started : os.Started) (H : Type) (enc : TypeId × Value → H) :
    ReturnsInHanded {} Try.checked os 9 .any (Rows.fnExactComposeBraidsSpec.pre6 enc Try.prog Try.f9 Rows.fnExactComposeBraidsRow.domain false) (Rows.fnExactComposeBraidsSpec.post enc Try.prog Try.f9 false true false false) := by
  refine returnsInHanded_of_change_sized (C := Try.checked) own started (by kernel_rfl) Try.func9
    (ChangeSpec.witness6 (enc := enc) (C := Try.checked) false ⟨#[], #[.agg #[.int .i64 0, .slice none 0 0], .agg #[.int .i64 0, .slice none 0 0]], []⟩ 8 (by kernel_rfl) (by kernel_rfl) (by kernel_rfl) (by kernel_rfl)) ?_
  intro W base args ds gs before hval0 hW hcnd hsz0 _
  have hval : ∀ (j : Nat) t v, Try.f9.params[j]? = some t → args[j]? = some v → Value.okWide Try.prog W .any base t v := hval0
  have hW' := hW
  obtain ⟨p, q, hA0, hV, rfl, hfz, hnd⟩ := hW
  have hA : DataW.TrodAll enc Try.prog W 0 (fun _ => true) true Try.f9.params.toList args.toList ds p := hA0
  rw [Try.params9] at hA hval
  obtain ⟨v0, vs0, d0, ds0, p0, q0, hargs, rfl, rfl, h0, r0⟩ := trodAll_cons hA
  obtain ⟨v1, vs1, d1, ds1, p1, q1, rfl, rfl, rfl, h1, r1⟩ := trodAll_cons r0
  obtain ⟨rfl, rfl, rfl⟩ := trodAll_nil r1
  obtain rfl : args = #[v0, v1] := by cases args; simp_all
  obtain ⟨rfl, rfl⟩ := trodVars_none hV
  have k0 := h0
  have lt0 : ∀ x ∈ p0, x.block < W.heap.size := by obtain ⟨m, hm⟩ := k0; exact DataW.trod_lt m _ _ _ hm
  obtain ⟨c0_0', c0_1', y0_0, y0_1, m0, rfl, ed0, ep0, g0_0, g0_1⟩ := open_agg2 Try.underlying30 (by kernel_rfl) (show Try.prog.cellsOf 30 = 2 by kernel_rfl) (hval 0 30 v0 rfl rfl) h0
  obtain ⟨a0_0, e0_0, _, w0_0⟩ := DataW.trod_int Try.underlying2 g0_0
  simp at e0_0
  subst e0_0
  obtain ⟨l0_1, ⟨A0_1, c0_1, e0_1, hc0_1, hC0_1⟩, hm0_1, hw0_1⟩ := (@Fits.fits_slice _ _ inferInstance _ _ _ _ Try.underlying22 (Fits.fits_int Try.underlying2) (by kernel_rfl)) g0_1
  simp at e0_1
  subst e0_1
  have k1 := h1
  have lt1 : ∀ x ∈ p1, x.block < W.heap.size := by obtain ⟨m, hm⟩ := k1; exact DataW.trod_lt m _ _ _ hm
  obtain ⟨c1_0', c1_1', y1_0, y1_1, m1, rfl, ed1, ep1, g1_0, g1_1⟩ := open_agg2 Try.underlying30 (by kernel_rfl) (show Try.prog.cellsOf 30 = 2 by kernel_rfl) (hval 1 30 v1 rfl rfl) h1
  obtain ⟨a1_0, e1_0, _, w1_0⟩ := DataW.trod_int Try.underlying2 g1_0
  simp at e1_0
  subst e1_0
  obtain ⟨l1_1, ⟨A1_1, c1_1, e1_1, hc1_1, hC1_1⟩, hm1_1, hw1_1⟩ := (@Fits.fits_slice _ _ inferInstance _ _ _ _ Try.underlying22 (Fits.fits_int Try.underlying2) (by kernel_rfl)) g1_1
  simp at e1_1
  subst e1_1
  clear hA0 hval0 hsz0
  obtain ⟨k, hk⟩ := Pure.FnExactComposeBraids a0_0 l0_1 a1_0 l1_1 w0_0 hm0_1 hw0_1 w1_0 hm1_1 hw1_1
  refine (PA.laws_FnExactComposeBraids.calls k a0_0 A0_1 c0_1 l0_1 a1_0 A1_1 c1_1 l1_1 true W hC0_1 hc0_1 hC1_1 hc1_1 hk).mono fun e W' ⟨he, bel⟩ => ?_
  subst he
  exact ⟨_, rfl, _, _, _, [], _, [], hW', trodAll_mk1 (shut_bool Try.underlying4 _), (trodAll_cons_mk (Below.trod laidOut (by kernel_rfl) (of_decide_eq_true (by kernel_rfl)) k0 bel lt0) (trodAll_cons_mk (Below.trod laidOut (by kernel_rfl) (of_decide_eq_true (by kernel_rfl)) k1 bel lt1) trodAll_mk0)), rfl, bel.frame _, fun h => by cases h⟩
theorem over : Rows.fnExactComposeBraidsRow.holds Try.pinned (OpenSpec.ofChange Rows.fnExactComposeBraidsSpec) :=
  OpenClaim.holds_of_wide 9 Try.f9 rfl rfl rfl rfl rfl rfl rfl ⟨rfl, rfl, rfl, rfl, rfl⟩ rfl rfl rfl rfl rfl (by kernel_rfl) Try.func9 (by kernel_rfl)
    (of_decide_eq_true (by kernel_rfl)) (by unfold Func.isWrapper; first | (rw [if_pos (by decide +kernel)]; kernel_rfl) | (rw [if_neg (by decide +kernel)]; exact ⟨rfl, rfl⟩))
    (fun os started H enc _ => lifted os started H enc)
theorem proved : Rows.FnExactComposeBraidsSaid := over
#print axioms proved
end Go.Proofs.Ytahjhlcmcnemiaa.fnExactComposeBraids
namespace Go.Proofs.Ytahjhlcmcnemiaa
/-- The row, under a short name, for the claim. -/
theorem fnExactComposeBraids_holds : Rows.FnExactComposeBraidsSaid := fnExactComposeBraids.proved
end Go.Proofs.Ytahjhlcmcnemiaa
