/- ComposeBraids: program and reference answer alike for all arguments: the pure statement. -/
import Derived.Test.YtahjhlcmcnemiaaStatFnExactComposeBraids
import Derived.Test.YtahjhlcmcnemiaaMath
namespace Go.Proofs.Ytahjhlcmcnemiaa.fnExactComposeBraids.Pure
open Go.RowKit Go.Proofs.Ytahjhlcmcnemiaa.PA Go.Proofs.YtahjhlcmcnemiaaW.PrintWords Go.Proofs.YtahjhlcmcnemiaaW.PrintLast Go.Proofs.Ytahjhlcmcnemiaa.Base Go.Proofs.Ytahjhlcmcnemiaa.BaseB
set_option linter.unusedVariables false
set_option linter.unusedSimpArgs false
def out (a : Int) (l : List Int) (b : Int) (m : List Int) : Int × List Int × Int :=
  if impl_isBraid.b a l = true ∧ impl_isBraid.b b m = true ∧ a = b then (if 24 < l.length + m.length then (0, [], 3) else (a, l ++ m, 0)) else (0, [], 1)
theorem out_len (a : Int) (l : List Int) (b : Int) (m : List Int) : (out a l b m).2.1.length ≤ 24 := by
  unfold out
  split
  · split
    · simp
    · simp; omega
  · simp
theorem spec_f (k : Nat) (a : Int) (l : List Int) (b : Int) (m : List Int) (hk : 30 < k) (hl : l.length ≤ maxLen) (hm : m.length ≤ maxLen) : spec_ComposeBraids.f k a l b m = some (out a l b m) := by
  obtain ⟨k, rfl⟩ : ∃ q, k = q + 1 := ⟨k - 1, by omega⟩
  unfold spec_ComposeBraids.f out
  rw [valid (k + 1) a l (by omega) hl, valid (k + 1) b m (by omega) hm]
  simp only [Option.bind_some]
  have jt : spec_ComposeBraids.j0 (k + 1) true a l b m = some (0, [], 1) := by simp only [spec_ComposeBraids.j0, if_true]
  by_cases h : impl_isBraid.b a l = true
  · rw [if_pos h]
    by_cases h2 : impl_isBraid.b b m = true
    · rw [if_pos h2]
      by_cases e : a = b
      · have g3 := (good_of h).len
        have g4 := (good_of h2).len
        subst e
        rw [if_pos ⟨h, h2, rfl⟩, bne_self_eq_false]
        simp only [spec_ComposeBraids.j0]
        rw [if_neg Bool.false_ne_true, wrap_of (x := (l.length : Int) + (m.length : Int)) (by omega) (by omega)]
        by_cases h24 : 24 < l.length + m.length
        · rw [if_pos (by omega), if_pos h24]
        · rw [if_neg (by omega), if_neg h24]
          unfold spec_l32Own.f
          simp only [Option.bind_some, List.length_nil, List.nil_append]
          rw [if_pos (by omega)]
          simp only [Option.bind_some]
          rw [if_pos (by omega)]
      · rw [if_neg (fun q => e q.2.2), show (a != b) = true from bne_iff_ne.mpr e, jt]
    · rw [if_neg h2, if_neg (fun q => h2 q.2.1), jt]
  · rw [if_neg h, if_neg (fun q => h q.1), jt]
theorem impl_f (k : Nat) (a : Int) (l : List Int) (b : Int) (m : List Int) (hk : 30 < k) : impl_ComposeBraids.f k a l b m = some (out a l b m) := by
  obtain ⟨k, rfl⟩ : ∃ q, k = q + 1 := ⟨k - 1, by omega⟩
  unfold impl_ComposeBraids.f out
  rw [isB, isB]
  simp only [Option.bind_some]
  have jt : impl_ComposeBraids.j0 (k + 1) true a l b m = some (0, [], 1) := by simp only [impl_ComposeBraids.j0, if_true]
  by_cases h : impl_isBraid.b a l = true
  · rw [if_pos h]
    by_cases h2 : impl_isBraid.b b m = true
    · rw [if_pos h2]
      by_cases e : a = b
      · have g3 := (good_of h).len
        have g4 := (good_of h2).len
        subst e
        rw [if_pos ⟨h, h2, rfl⟩, bne_self_eq_false]
        simp only [impl_ComposeBraids.j0]
        rw [if_neg Bool.false_ne_true, wrap_of (x := (l.length : Int) + (m.length : Int)) (by omega) (by omega)]
        by_cases h24 : 24 < l.length + m.length
        · rw [if_pos (by omega), if_pos h24]
        · rw [if_neg (by omega), if_neg h24, Concat.concat _ k (by simp) (by simp; omega) (by simp; omega)]
          simp
      · rw [if_neg (fun q => e q.2.2), show (a != b) = true from bne_iff_ne.mpr e, jt]
    · rw [if_neg h2, if_neg (fun q => h2 q.2.1), jt]
  · rw [if_neg h, if_neg (fun q => h q.1), jt]
theorem FnExactComposeBraids : Pure := by
  intro a l b m ha hl hw hb hm hv
  refine ⟨(l.length + m.length + 31) + 1 + 1 + 1, ?_⟩
  generalize hK : l.length + m.length + 31 = K
  unfold laws_FnExactComposeBraids.f
  rw [szB a l 1048576 (by omega) (by omega) hl]
  simp only [Option.bind_some]
  by_cases hb1 : (1048576 : Int) < l.length
  · rw [if_pos hb1, if_pos (by omega)]
  · rw [if_neg hb1, if_neg (by omega), szB b m _ (by omega) (by omega) hm]
    simp only [Option.bind_some]
    by_cases hb2 : (1048576 - (l.length : Int)) < m.length
    · rw [if_pos hb2, if_pos (by omega)]
    · rw [if_neg hb2, if_neg (by omega)]
      have hs : ∀ k, 30 < k → spec_ComposeBraids.f k a l b m = some (out a l b m) := fun k hk => spec_f k a l b m hk hl hm
      have hi : ∀ k, 30 < k → impl_ComposeBraids.f k a l b m = some (out a l b m) := fun k hk => impl_f k a l b m hk
      have ho4 := out_len a l b m
      generalize hO : out a l b m = o at hs hi ho4
      obtain ⟨o1, o2, o3⟩ := o
      have ho5 : o2.length ≤ _ := ho4
      simp (disch := omega) only [toB, hs, hi, Option.bind_some, eqB_same, bne_self_eq_false, if_true]
      simp only [laws_FnExactComposeBraids.j0]
      simp (disch := omega) only [if_lt_no, toB, Option.bind_some, eqB_same, markB, bne_self_eq_false, Bool.false_eq_true, if_true, if_false]
      simp only [laws_FnExactComposeBraids.j1]
      simp (disch := omega) only [if_lt_no, toB, hi, Option.bind_some, eqB_same, markB, heldB, bne_self_eq_false, Bool.false_eq_true, if_true, if_false]
      simp only [laws_FnExactComposeBraids.j2]
      simp (disch := omega) only [if_lt_no, Option.bind_some, heldB, Bool.false_eq_true, if_true, if_false]
end Go.Proofs.Ytahjhlcmcnemiaa.fnExactComposeBraids.Pure
