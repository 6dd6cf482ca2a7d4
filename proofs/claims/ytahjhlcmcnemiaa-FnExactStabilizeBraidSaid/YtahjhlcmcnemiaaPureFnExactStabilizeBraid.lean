/- StabilizeBraid: program and reference answer alike for all arguments: the pure statement. -/
import Derived.Test.YtahjhlcmcnemiaaStatFnExactStabilizeBraid
import Derived.Test.YtahjhlcmcnemiaaPerm
namespace Go.Proofs.Ytahjhlcmcnemiaa.fnExactStabilizeBraid.Pure
open Go.RowKit Go.Proofs.Ytahjhlcmcnemiaa.PA Go.Proofs.YtahjhlcmcnemiaaW.PrintWords Go.Proofs.YtahjhlcmcnemiaaW.PrintLast Go.Proofs.Ytahjhlcmcnemiaa.Base Go.Proofs.Ytahjhlcmcnemiaa.BaseB
set_option linter.unusedVariables false
set_option linter.unusedSimpArgs false
def out (a : Int) (l : List Int) (p : Bool) : Int × List Int × Int :=
  if impl_isBraid.b a l = true then (if a = 6 ∨ (l.length : Int) = 24 then (0, [], 3) else (a + 1, l ++ [if p = true then a else -a], 0)) else (0, [], 1)
theorem out_len (a : Int) (l : List Int) (p : Bool) : (out a l p).2.1.length ≤ l.length + 1 := by
  unfold out
  split
  · split <;> simp
  · simp
theorem spec_f (k : Nat) (a : Int) (l : List Int) (p : Bool) (hk : 28 < k) (hl : l.length ≤ maxLen) : spec_StabilizeBraid.f k a l p = some (out a l p) := by
  obtain ⟨k, rfl⟩ : ∃ m, k = m + 1 := ⟨k - 1, by omega⟩
  unfold spec_StabilizeBraid.f out
  rw [valid (k + 1) a l (by omega) hl]
  simp only [Option.bind_some]
  by_cases h : impl_isBraid.b a l = true
  · have g := good_of h
    have g1 := g.lo
    have g2 := g.hi
    have g3 := g.len
    rw [if_pos h, if_pos h]
    have j0 : ∀ q, spec_StabilizeBraid.j0 (k + 1) p q a l = if q = true then some (0, [], 3) else some (a + 1, l ++ [if p = true then a else -a], 0) := by
      intro q
      simp only [spec_StabilizeBraid.j0, Option.bind_some, List.length_nil, List.nil_append]
      by_cases hq : q = true
      · rw [if_pos hq, if_pos hq]
      · rw [if_neg hq, if_neg hq, if_pos (by omega), wrap_of (x := a + 1) (by omega) (by omega), wrap_of (x := -a) (by omega) (by omega)]
        cases p
        · rw [if_neg Bool.false_ne_true, if_pos (by omega), if_neg Bool.false_ne_true]
        · rw [if_pos rfl, if_pos (by omega), if_pos rfl]
    by_cases h6 : a = 6
    · rw [if_pos h6, j0, if_pos rfl, if_pos (.inl h6)]
    · rw [if_neg h6, j0]
      by_cases h24 : (l.length : Int) = 24
      · rw [beq_iff_eq.2 h24, if_pos rfl, if_pos (.inr h24)]
      · rw [beq_eq_false_iff_ne.2 h24, if_neg Bool.false_ne_true, if_neg (show ¬ (a = 6 ∨ (l.length : Int) = 24) from fun q => q.elim h6 h24)]
  · rw [if_neg h, if_neg h]
theorem impl_f (k : Nat) (a : Int) (l : List Int) (p : Bool) (hk : 28 < k) : impl_StabilizeBraid.f k a l p = some (out a l p) := by
  obtain ⟨k, rfl⟩ : ∃ m, k = m + 1 := ⟨k - 1, by omega⟩
  unfold impl_StabilizeBraid.f out
  rw [isB]
  simp only [Option.bind_some]
  by_cases h : impl_isBraid.b a l = true
  · have g := good_of h
    have g1 := g.lo
    have g2 := g.hi
    have g3 := g.len
    rw [if_pos h, if_pos h]
    have j0 : ∀ q, impl_StabilizeBraid.j0 (k + 1) p q a l = if q = true then some (0, [], 3) else some (a + 1, l ++ [if p = true then a else -a], 0) := by
      intro q
      have hlen : ∀ x : Int, l.length + [x].length < 17592186044416 := fun x => by rw [List.length_singleton]; omega
      simp only [impl_StabilizeBraid.j0, Option.bind_some]
      by_cases hq : q = true
      · rw [if_pos hq, if_pos hq]
      · rw [if_neg hq, if_neg hq, Perm.clone_f l (by omega), wrap_of (x := a + 1) (by omega) (by omega), wrap_of (x := -a) (by omega) (by omega)]
        simp only [Option.bind_some]
        cases p
        · rw [if_neg Bool.false_ne_true, if_pos (hlen _), if_neg Bool.false_ne_true]
        · rw [if_pos rfl, if_pos (hlen _), if_pos rfl]
    by_cases h6 : a = 6
    · rw [if_pos h6, j0, if_pos rfl, if_pos (.inl h6)]
    · rw [if_neg h6, j0]
      by_cases h24 : (l.length : Int) = 24
      · rw [beq_iff_eq.2 h24, if_pos rfl, if_pos (.inr h24)]
      · rw [beq_eq_false_iff_ne.2 h24, if_neg Bool.false_ne_true, if_neg (show ¬ (a = 6 ∨ (l.length : Int) = 24) from fun q => q.elim h6 h24)]
  · rw [if_neg h, if_neg h]
theorem FnExactStabilizeBraid : Pure := by
  intro a l p ha hl hw
  refine ⟨(l.length + 30) + 1 + 1 + 1, ?_⟩
  generalize hK : l.length + 30 = K
  unfold laws_FnExactStabilizeBraid.f
  rw [szB a l 1048576 (by omega) (by omega) hl]
  simp only [Option.bind_some]
  by_cases hb : (1048576 : Int) < l.length
  · rw [if_pos hb, if_pos (by omega)]
  · rw [if_neg hb, if_neg (by omega)]
    have hs : ∀ k, 28 < k → spec_StabilizeBraid.f k a l p = some (out a l p) := fun k hk => spec_f k a l p hk hl
    have hi : ∀ k, 28 < k → impl_StabilizeBraid.f k a l p = some (out a l p) := fun k hk => impl_f k a l p hk
    have ho := out_len a l p
    have ho3 : impl_isBraid.b a l = true → l.length ≤ 24 := fun h => (good_of h).len
    have ho4 : (out a l p).2.1.length ≤ 25 := by
      by_cases h : impl_isBraid.b a l = true
      · have := ho3 h; omega
      · unfold out; rw [if_neg h]; simp
    generalize hO : out a l p = o at hs hi ho ho4
    obtain ⟨o1, o2, o3⟩ := o
    have ho2 : o2.length ≤ _ := ho
    have ho5 : o2.length ≤ _ := ho4
    simp (disch := omega) only [toB, hs, hi, Option.bind_some, eqB_same, bne_self_eq_false, if_true]
    simp only [laws_FnExactStabilizeBraid.j0]
    simp (disch := omega) only [if_lt_no, toB, Option.bind_some, eqB_same, markB, bne_self_eq_false, Bool.false_eq_true, if_true, if_false]
    simp only [laws_FnExactStabilizeBraid.j1]
    simp (disch := omega) only [if_lt_no, toB, hi, Option.bind_some, eqB_same, markB, heldB, bne_self_eq_false, Bool.false_eq_true, if_true, if_false]
    simp only [laws_FnExactStabilizeBraid.j2]
    simp (disch := omega) only [if_lt_no, Option.bind_some, heldB, Bool.false_eq_true, if_true, if_false]
end Go.Proofs.Ytahjhlcmcnemiaa.fnExactStabilizeBraid.Pure
