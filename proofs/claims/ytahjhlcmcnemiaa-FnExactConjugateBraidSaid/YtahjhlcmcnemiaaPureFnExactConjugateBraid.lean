/- ConjugateBraid: program and reference answer alike for all arguments: the pure statement. -/
import Derived.Test.YtahjhlcmcnemiaaStatFnExactConjugateBraid
import Derived.Test.YtahjhlcmcnemiaaConcat
namespace Go.Proofs.Ytahjhlcmcnemiaa.fnExactConjugateBraid.Pure
open Go.RowKit Go.Proofs.Ytahjhlcmcnemiaa.PA Go.Proofs.YtahjhlcmcnemiaaW.PrintWords Go.Proofs.YtahjhlcmcnemiaaW.PrintLast Go.Proofs.Ytahjhlcmcnemiaa.Base Go.Proofs.Ytahjhlcmcnemiaa.BaseB
set_option linter.unusedVariables false
set_option linter.unusedSimpArgs false
def out (a : Int) (l : List Int) (x : Int) : Int × List Int × Int :=
  if impl_isBraid.b a l = true then (if impl_isBraid.letter a x = true then (if 22 < l.length then (0, [], 3) else (a, [x] ++ l ++ [wrap64 (-x)], 0)) else (0, [], 2)) else (0, [], 1)
theorem out_len (a : Int) (l : List Int) (x : Int) : (out a l x).2.1.length ≤ 24 := by
  unfold out
  split
  · split
    · split
      · simp
      · simp; omega
    · simp
  · simp
theorem spec_f (k : Nat) (a : Int) (l : List Int) (x : Int) (hk : 28 < k) (hl : l.length ≤ maxLen) : spec_ConjugateBraid.f k a l x = some (out a l x) := by
  unfold spec_ConjugateBraid.f out
  rw [valid k a l (by omega) hl]
  simp only [Option.bind_some]
  by_cases h : impl_isBraid.b a l = true
  · have g := good_of h
    have g1 := g.lo
    have g2 := g.hi
    have g3 := g.len
    rw [if_pos h, if_pos h, letter_f a x g1 g2]
    simp only [Option.bind_some]
    by_cases hx : impl_isBraid.letter a x = true
    · rw [if_pos hx, if_pos hx, wrap_of (x := (l.length : Int) + 2) (by omega) (by omega)]
      by_cases h22 : 22 < l.length
      · rw [if_pos (by omega), if_pos h22]
      · rw [if_neg (by omega), if_neg h22, if_pos (by simp; omega), if_pos (by simp; omega)]
    · rw [if_neg hx, if_neg hx]
  · rw [if_neg h, if_neg h]
theorem impl_f (k : Nat) (a : Int) (l : List Int) (x : Int) (hk : 28 < k) : impl_ConjugateBraid.f k a l x = some (out a l x) := by
  unfold impl_ConjugateBraid.f out
  rw [isB]
  simp only [Option.bind_some]
  by_cases h : impl_isBraid.b a l = true
  · have g := good_of h
    have g1 := g.lo
    have g2 := g.hi
    have g3 := g.len
    rw [if_pos h, if_pos h, impl_isBraid.letter_f a x g1 g2]
    simp only [Option.bind_some]
    by_cases hx : impl_isBraid.letter a x = true
    · rw [if_pos hx, if_pos hx, wrap_of (x := (l.length : Int) + 2) (by omega) (by omega)]
      by_cases h22 : 22 < l.length
      · rw [if_pos (by omega), if_pos h22]
      · rw [if_neg (by omega), if_neg h22, Concat.concat _ k (by simp) (by simp; omega) (by simp; omega)]
        simp
    · rw [if_neg hx, if_neg hx]
  · rw [if_neg h, if_neg h]
theorem FnExactConjugateBraid : Pure := by
  intro a l p ha hl hw hp
  refine ⟨(l.length + 30) + 1 + 1 + 1, ?_⟩
  generalize hK : l.length + 30 = K
  unfold laws_FnExactConjugateBraid.f
  rw [szB a l 1048576 (by omega) (by omega) hl]
  simp only [Option.bind_some]
  by_cases hb : (1048576 : Int) < l.length
  · rw [if_pos hb, if_pos (by omega)]
  · rw [if_neg hb, if_neg (by omega)]
    have hs : ∀ k, 28 < k → spec_ConjugateBraid.f k a l p = some (out a l p) := fun k hk => spec_f k a l p hk hl
    have hi : ∀ k, 28 < k → impl_ConjugateBraid.f k a l p = some (out a l p) := fun k hk => impl_f k a l p hk
    have ho4 := out_len a l p
    generalize hO : out a l p = o at hs hi ho4
    obtain ⟨o1, o2, o3⟩ := o
    have ho5 : o2.length ≤ _ := ho4
    simp (disch := omega) only [toB, hs, hi, Option.bind_some, eqB_same, bne_self_eq_false, if_true]
    simp only [laws_FnExactConjugateBraid.j0]
    simp (disch := omega) only [if_lt_no, toB, Option.bind_some, eqB_same, markB, bne_self_eq_false, Bool.false_eq_true, if_true, if_false]
    simp only [laws_FnExactConjugateBraid.j1]
    simp (disch := omega) only [if_lt_no, toB, hi, Option.bind_some, eqB_same, markB, heldB, bne_self_eq_false, Bool.false_eq_true, if_true, if_false]
    simp only [laws_FnExactConjugateBraid.j2]
    simp (disch := omega) only [if_lt_no, Option.bind_some, heldB, Bool.false_eq_true, if_true, if_false]
end Go.Proofs.Ytahjhlcmcnemiaa.fnExactConjugateBraid.Pure
