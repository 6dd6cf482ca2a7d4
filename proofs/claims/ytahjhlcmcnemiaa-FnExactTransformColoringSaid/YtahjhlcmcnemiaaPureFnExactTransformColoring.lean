/- TransformColoring: program and reference answer alike for all arguments: the pure statement. -/
import Derived.Test.YtahjhlcmcnemiaaStatFnExactTransformColoring
import Derived.Test.YtahjhlcmcnemiaaBase
namespace Go.Proofs.Ytahjhlcmcnemiaa.fnExactTransformColoring.Pure
open Go.RowKit Go.Proofs.Ytahjhlcmcnemiaa.PA Go.Proofs.YtahjhlcmcnemiaaW.PrintWords Go.Proofs.YtahjhlcmcnemiaaW.PrintLast Go.Proofs.Ytahjhlcmcnemiaa.Base
set_option linter.unusedVariables false
set_option linter.unusedSimpArgs false

theorem in_f (x lo hi : Int) : spec_l01In.f x lo hi = some (decide (lo ≤ x) && decide (x ≤ hi)) := by
  unfold spec_l01In.f
  by_cases h : lo ≤ x <;> simp [h]

theorem loop (m a b : Int) (l : List Int) (hm0 : 1 ≤ m) (hm : m ≤ 30) (hl : l.length ≤ 20) : ∀ (d k i : Nat) (x : List Int), i ≤ l.length → l.length - i = d → d < k → x.length = i →
    spec_TransformColoring.l0 k m l a b x (i : Int) = some (if (l.drop i).any (impl_TransformColoring.bad m) then ([], false) else (x ++ (l.drop i).map (impl_TransformColoring.one m a b), true)) := by
  intro d
  induction d with
  | zero =>
    intro k i x hi hd hk hx
    obtain ⟨k, rfl⟩ : ∃ m, k = m + 1 := ⟨k - 1, by omega⟩
    simp only [spec_TransformColoring.l0]
    rw [if_neg (by omega), List.drop_of_length_le (by omega)]
    simp
  | succ d ih =>
    intro k i x hi hd hk hx
    obtain ⟨k, rfl⟩ : ∃ m, k = m + 1 := ⟨k - 1, by omega⟩
    simp only [spec_TransformColoring.l0]
    rw [if_pos (by omega), if_pos (by omega), wrap_of (by omega) (by omega), in_f, rd_lt l i (by omega), wrap_of (x := (i : Int) + 1) (by omega) (by omega), show ((i : Int) + 1) = ((i + 1 : Nat) : Int) from rfl]
    simp only [Option.bind_some]
    rw [List.drop_eq_getElem_cons (by omega : i < l.length), List.any_cons, List.map_cons]
    by_cases h : (decide (0 ≤ l[i]) && decide (l[i] ≤ m - 1)) = true
    · rw [if_pos h, if_neg (by omega), if_pos (by omega), ih k (i + 1) _ (by omega) (by omega) (by omega) (by simp [hx])]
      have hb : impl_TransformColoring.bad m l[i] = false := by unfold impl_TransformColoring.bad; rw [h]; rfl
      rw [hb, Bool.false_or, List.append_assoc]
      rfl
    · rw [if_neg h]
      have hb : impl_TransformColoring.bad m l[i] = true := by unfold impl_TransformColoring.bad; rw [Bool.eq_false_iff.2 h]; rfl
      rw [hb, Bool.true_or, if_pos rfl]

theorem same (k : Nat) (m a b : Int) (l : List Int) (hk : l.length + 2 < k) (hl : l.length ≤ maxLen) : spec_TransformColoring.f k m l a b = impl_TransformColoring.f m l a b := by
  unfold maxLen at hl
  obtain ⟨k, rfl⟩ : ∃ n, k = n + 1 := ⟨k - 1, by omega⟩
  have j0 : ∀ q, spec_TransformColoring.j0 (k + 1) m l a b q = if q = true then some ([], false) else spec_TransformColoring.l0 k m l a b [] 0 := fun q => rfl
  unfold spec_TransformColoring.f impl_TransformColoring.f impl_TransformColoring.cond
  simp only [in_f, Option.bind_some, j0]
  by_cases h1 : (decide (1 ≤ m) && decide (m ≤ 30)) = true
  · have hm : 1 ≤ m ∧ m ≤ 30 := by simpa using h1
    rw [wrap_of (by omega) (by omega)]
    by_cases h2 : 20 < l.length
    · have h2' : (l.length : Int) > 20 := by omega
      simp [h1, h2, h2']
    · have h2' : ¬ (l.length : Int) > 20 := by omega
      have hlp := loop m a b l hm.1 hm.2 (by omega) l.length k 0 [] (by omega) (by omega) (by omega) rfl
      have e0 : ((0 : Nat) : Int) = 0 := rfl
      rw [e0] at hlp
      rw [hlp]
      by_cases h3 : (decide (0 ≤ a) && decide (a ≤ m - 1)) = true
      · by_cases h4 : (decide (0 ≤ b) && decide (b ≤ m - 1)) = true
        · by_cases h5 : l.any (impl_TransformColoring.bad m) = true
          · simp [h1, h2, h2', h3, h4, h5, impl_TransformColoring.bad]
          · simp [h1, h2, h2', h3, h4, h5, impl_TransformColoring.bad]
        · have h4' := Bool.eq_false_iff.2 h4
          simp [h1, h2, h2', h3, h4', impl_TransformColoring.bad]
      · have h3' := Bool.eq_false_iff.2 h3
        simp [h1, h2, h2', h3', impl_TransformColoring.bad]
  · have h1' := Bool.eq_false_iff.2 h1
    simp [h1']

theorem impl_some (m a b : Int) (l : List Int) : ∃ r1 r2, impl_TransformColoring.f m l a b = some (r1, r2) ∧ r1.length ≤ l.length := by
  unfold impl_TransformColoring.f
  by_cases h : impl_TransformColoring.cond m l a b = true
  · rw [if_pos h]; exact ⟨_, _, rfl, by simp⟩
  · rw [if_neg h]; exact ⟨_, _, rfl, by simp⟩

theorem FnExactTransformColoring : Pure := by
  intro m l a b hm hl hw ha hb
  by_cases hbig : 1048576 < l.length
  · refine ⟨0, ?_⟩
    unfold laws_FnExactTransformColoring.f
    rw [if_pos (by omega)]
  · obtain ⟨r1, r2, hi, hr⟩ := impl_some m a b l
    have hs : ∀ k, l.length + 2 < k → spec_TransformColoring.f k m l a b = some (r1, r2) := fun k hk => (same k m a b l hk hl).trans hi
    refine ⟨(l.length + 3) + 1 + 1 + 1, ?_⟩
    generalize hK : l.length + 3 = K
    unfold laws_FnExactTransformColoring.f
    simp (disch := omega) only [if_gt_no, toInts, hs, hi, Option.bind_some, eqInts_same, bne_self_eq_false, if_true]
    simp only [laws_FnExactTransformColoring.j0]
    simp (disch := omega) only [if_lt_no, toInts, Option.bind_some, eqInts_same, markInts, bne_self_eq_false, Bool.false_eq_true, if_true, if_false]
    simp only [laws_FnExactTransformColoring.j1]
    simp (disch := omega) only [if_lt_no, toInts, hi, Option.bind_some, eqInts_same, markInts, heldInts, bne_self_eq_false, Bool.false_eq_true, if_true, if_false]
    simp only [laws_FnExactTransformColoring.j2]
    simp (disch := omega) only [if_lt_no, Option.bind_some, heldInts, Bool.false_eq_true, if_true, if_false]
end Go.Proofs.Ytahjhlcmcnemiaa.fnExactTransformColoring.Pure
