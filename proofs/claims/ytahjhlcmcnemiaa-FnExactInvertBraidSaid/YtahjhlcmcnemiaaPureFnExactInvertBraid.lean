/- InvertBraid: program and reference answer alike for all arguments: the pure statement. -/
import Derived.Test.YtahjhlcmcnemiaaStatFnExactInvertBraid
import Derived.Test.YtahjhlcmcnemiaaPerm
namespace Go.Proofs.Ytahjhlcmcnemiaa.fnExactInvertBraid.Pure
open Go.RowKit Go.Proofs.Ytahjhlcmcnemiaa.PA Go.Proofs.YtahjhlcmcnemiaaW.PrintWords Go.Proofs.YtahjhlcmcnemiaaW.PrintLast Go.Proofs.Ytahjhlcmcnemiaa.Base Go.Proofs.Ytahjhlcmcnemiaa.BaseB
set_option linter.unusedVariables false
set_option linter.unusedSimpArgs false
def out (a : Int) (l : List Int) : Int × List Int × Int :=
  if impl_isBraid.b a l = true then (a, impl_inverse.neg (impl_inverse.upto l l.length), 0) else (0, [], 1)
theorem out_len (a : Int) (l : List Int) : (out a l).2.1.length ≤ l.length := by
  unfold out
  split
  · simp [impl_inverse.neg, impl_inverse.upto]
  · simp
theorem back_loop (l : List Int) (hl : l.length ≤ 1000000) : ∀ (d k m : Nat), l.length - m = d → m ≤ l.length → d < k →
    spec_l32Back.l0 k l (impl_inverse.neg (impl_inverse.upto l m)) ((l.length : Int) - 1 - (m : Int)) = some (impl_inverse.neg (impl_inverse.upto l l.length)) := by
  intro d
  induction d with
  | zero =>
    intro k m hd hm hk
    obtain ⟨k, rfl⟩ : ∃ q, k = q + 1 := ⟨k - 1, by omega⟩
    obtain rfl : m = l.length := by omega
    simp only [spec_l32Back.l0]
    rw [if_neg (by omega)]
  | succ d ih =>
    intro k m hd hm hk
    obtain ⟨k, rfl⟩ : ∃ q, k = q + 1 := ⟨k - 1, by omega⟩
    have hlen : (impl_inverse.neg (impl_inverse.upto l m)).length = m := by simp [impl_inverse.neg, impl_inverse.upto]
    simp only [spec_l32Back.l0]
    rw [if_pos (by omega), if_pos (by omega), if_pos (by omega), if_pos (by omega), wrap_of (x := (l.length : Int) - 1 - (m : Int) - 1) (by omega) (by omega)]
    have e : impl_inverse.neg (impl_inverse.upto l m) ++ [wrap64 (-(rd l ((l.length : Int) - 1 - (m : Int))))] = impl_inverse.neg (impl_inverse.upto l (m + 1)) := by
      rw [impl_inverse.upto_succ]
      unfold impl_inverse.neg
      rw [List.map_append, List.map_singleton]
      have h2 : ((l.length - 1 - m : Nat) : Int) = (l.length : Int) - 1 - (m : Int) := by omega
      rw [h2]
    rw [e, show (l.length : Int) - 1 - (m : Int) - 1 = (l.length : Int) - 1 - ((m + 1 : Nat) : Int) by omega]
    exact ih k (m + 1) (by omega) (by omega) (by omega)
theorem back_f (k : Nat) (l : List Int) (hl : l.length ≤ 1000000) (hk : l.length < k) : spec_l32Back.f k l = some (impl_inverse.neg (impl_inverse.upto l l.length)) := by
  unfold spec_l32Back.f
  rw [wrap_of (x := (l.length : Int) - 1) (by omega) (by omega)]
  have := back_loop l hl l.length k 0 (by omega) (by omega) hk
  simpa [impl_inverse.neg, impl_inverse.upto] using this
theorem spec_f (k : Nat) (a : Int) (l : List Int) (hk : 28 < k) (hl : l.length ≤ maxLen) : spec_InvertBraid.f k a l = some (out a l) := by
  unfold spec_InvertBraid.f out
  rw [valid k a l (by omega) hl]
  simp only [Option.bind_some]
  by_cases h : impl_isBraid.b a l = true
  · have g3 := (good_of h).len
    rw [if_pos h, if_pos h, back_f k l (by omega) (by omega)]
    rfl
  · rw [if_neg h, if_neg h]
theorem impl_f (a : Int) (l : List Int) : impl_InvertBraid.f a l = some (out a l) := by
  unfold impl_InvertBraid.f out
  rw [isB]
  simp only [Option.bind_some]
  by_cases h : impl_isBraid.b a l = true
  · have g3 := (good_of h).len
    rw [if_pos h, if_pos h]
    unfold impl_inverse.f
    rw [if_pos (by omega)]
    rfl
  · rw [if_neg h, if_neg h]
theorem FnExactInvertBraid : Pure := by
  intro a l ha hl hw
  refine ⟨(l.length + 30) + 1 + 1 + 1, ?_⟩
  generalize hK : l.length + 30 = K
  unfold laws_FnExactInvertBraid.f
  rw [szB a l 1048576 (by omega) (by omega) hl]
  simp only [Option.bind_some]
  by_cases hb : (1048576 : Int) < l.length
  · rw [if_pos hb, if_pos (by omega)]
  · rw [if_neg hb, if_neg (by omega)]
    have hs : ∀ k, 28 < k → spec_InvertBraid.f k a l = some (out a l) := fun k hk => spec_f k a l hk hl
    have hi : impl_InvertBraid.f a l = some (out a l) := impl_f a l
    have ho := out_len a l
    have ho4 : (out a l).2.1.length ≤ 24 := by
      by_cases h : impl_isBraid.b a l = true
      · have := (good_of h).len; omega
      · unfold out; rw [if_neg h]; simp
    generalize hO : out a l = o at hs hi ho ho4
    obtain ⟨o1, o2, o3⟩ := o
    have ho2 : o2.length ≤ _ := ho
    have ho5 : o2.length ≤ _ := ho4
    simp (disch := omega) only [toB, hs, hi, Option.bind_some, eqB_same, bne_self_eq_false, if_true]
    simp only [laws_FnExactInvertBraid.j0]
    simp (disch := omega) only [if_lt_no, toB, Option.bind_some, eqB_same, markB, bne_self_eq_false, Bool.false_eq_true, if_true, if_false]
    simp only [laws_FnExactInvertBraid.j1]
    simp (disch := omega) only [if_lt_no, toB, hi, Option.bind_some, eqB_same, markB, heldB, bne_self_eq_false, Bool.false_eq_true, if_true, if_false]
    simp only [laws_FnExactInvertBraid.j2]
    simp (disch := omega) only [if_lt_no, Option.bind_some, heldB, Bool.false_eq_true, if_true, if_false]
end Go.Proofs.Ytahjhlcmcnemiaa.fnExactInvertBraid.Pure
