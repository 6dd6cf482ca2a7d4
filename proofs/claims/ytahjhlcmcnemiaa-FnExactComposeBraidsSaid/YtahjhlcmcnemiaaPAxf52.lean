/- The functions of this text return what their Lean twins (of the same name, .f) compute; written by a program of this session (wip/hp.py). -/
import Derived.Test.YtahjhlcmcnemiaaPAx0
import Derived.Test.YtahjhlcmcnemiaaPAxf82
namespace Go.Proofs.Ytahjhlcmcnemiaa.PA
open Go.RowKit Go.Proofs.YtahjhlcmcnemiaaW.PrintWords Go.Proofs.YtahjhlcmcnemiaaW.PrintLast Go.Proofs.YtahjhlcmcnemiaaW.PrintMore
attribute [local go_sem] max2_int min2_int max_two min_two max_three min_three max_four min_four   -- for this text's walks alone
set_option linter.unusedVariables false
set_option linter.unusedSimpArgs false

-- HAND slices.ContainsFunc[[]int64,int64]
/-! ### slices_ContainsFunc_int64_int64: function 52 -/
theorem slices_ContainsFunc_int64_int64.any_find (p : Int → Bool) : ∀ (l : List Int) (i : Int), 0 ≤ i → (l.any p = true ↔ 0 ≤ slices_IndexFunc_int64_int64.find p l i)
  | [], i, _ => by simp [slices_IndexFunc_int64_int64.find]
  | x :: xs, i, h => by
    have ih := slices_ContainsFunc_int64_int64.any_find p xs (i + 1) (by omega)
    simp only [slices_IndexFunc_int64_int64.find, List.any_cons]
    cases hx : p x with
    | true => simp [h]
    | false =>
      simp only [Bool.false_or]
      rw [if_neg (by simp)]
      exact ih
theorem slices_ContainsFunc_int64_int64.any_eq (p : Int → Bool) (l : List Int) : decide (0 ≤ slices_IndexFunc_int64_int64.find p l 0) = l.any p := by
  rw [Bool.eq_iff_iff, decide_eq_true_iff]
  exact (slices_ContainsFunc_int64_int64.any_find p l 0 (by omega)).symm
set_option maxHeartbeats 2000000 in
theorem slices_ContainsFunc_int64_int64.calls (g : Nat) (lb : Array Value) (p : Int → Bool) (eg : ∀ args w, (callFunc g args).run Try.prog w = .ok (.enter g args) w) (A0 : Option Addr) (c0 : Nat) (l0 : List Int) (w : World) (hr0 : Kd.C (Kd.int .i64) w A0 l0.length l0)
    (hp : ∀ (W : World) (x : Int), Below w.heap.size w W → Calls Try.prog g (#[.int .i64 x] ++ lb) W fun e w' => e = .returned (.bool (p x)) ∧ Below W.heap.size W w') :
    Calls Try.prog 52 #[.slice A0 l0.length c0, .func (.func g) #[] lb] w fun e w' => e = .returned (.bool (l0.any p)) ∧ Below w.heap.size w w' := by
  have H := Aside0.mk (slices_IndexFunc_int64_int64.calls g lb p eg A0 c0 l0 w hr0 hp)
  have HD := Aside0.mk (slices_ContainsFunc_int64_int64.any_eq p l0)
  clear hr0 hp
  go_enter Try.func52, Try.ntmps52
  go_wp2_with fail
  refine H.out.mono ?_
  rintro e w2 ⟨rfl, hb1⟩
  go_wp2
  go_ret
  exact ⟨by rw [← HD.out]; rfl, hb1⟩


end Go.Proofs.Ytahjhlcmcnemiaa.PA
