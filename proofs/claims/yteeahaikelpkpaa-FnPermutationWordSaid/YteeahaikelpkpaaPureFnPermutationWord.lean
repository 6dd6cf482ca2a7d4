/- FnPermutationWord: a permutation braid has its permutation and one letter for each inversion: the pure statement. -/
import Derived.Test.YteeahaikelpkpaaStatFnPermutationWord
import Derived.Test.YteeahaikelpkpaaMath
import Derived.Test.YteeahaikelpkpaaMath
import Derived.Test.YteeahaikelpkpaaPBxf14
import Derived.Test.YteeahaikelpkpaaPBxf71
namespace Go.Proofs.Yteeahaikelpkpaa.fnPermutationWord.Pure
open Go.RowKit Go.Proofs.Yteeahaikelpkpaa.PB Go.Proofs.YteeahaikelpkpaaW.PrintWords Go.Proofs.YteeahaikelpkpaaW.PrintLast Go.Proofs.Yteeahaikelpkpaa.Base Go.Proofs.Yteeahaikelpkpaa.BaseB Go.Proofs.Yteeahaikelpkpaa.Sorts Go.Proofs.Yteeahaikelpkpaa.BPerm Go.Proofs.Yteeahaikelpkpaa.WordMath Go.Proofs.Yteeahaikelpkpaa.Draw
set_option linter.unusedVariables false
set_option linter.unusedSimpArgs false

theorem draw_loop {code : List Int} (hc : Draw.Code code) (st : Int) (h1 : 1 ≤ st) (h6 : st ≤ 6) : ∀ (d k : Nat) (c a s : Int) (x : List Int), 0 ≤ c → c ≤ d → 2 * d + 2 < k → Src code a s → x.length + d ≤ 1000 →
    ∃ y a' s', spec_l32DrawBraid.l0 k c code a s st x = some (st, y, a', s') ∧ Src code a' s' ∧ y.length ≤ x.length + d := by
  intro d
  induction d with
  | zero =>
    intro k c a s x hc0 hc1 hk hs hx
    obtain ⟨k, rfl⟩ : ∃ m, k = m + 1 + 1 := ⟨k - 2, by omega⟩
    simp only [spec_l32DrawBraid.l0]
    rw [if_neg (by omega)]
    simp only [spec_l32DrawBraid.j2]
    exact ⟨x, a, s, by simp, hs, by omega⟩
  | succ d ih =>
    intro k c a s x hc0 hc1 hk hs hx
    obtain ⟨k, rfl⟩ : ∃ m, k = m + 1 + 1 := ⟨k - 2, by omega⟩
    simp only [spec_l32DrawBraid.l0]
    by_cases g : c > 0
    · rw [if_pos g]
      by_cases g2 : st > 1
      · rw [decide_eq_true g2]
        simp only [spec_l32DrawBraid.j2, if_true]
        rw [wrap_of (x := st - 1) (by omega) (by omega)]
        obtain ⟨u, a1, s1, e1, hs1, hu, hu2⟩ := next hc hs (st - 1) (by omega)
        rw [e1]
        simp only [Option.bind_some]
        obtain ⟨v, a2, s2, e2, hs2, hv, hv2⟩ := next hc hs1 2 (by omega)
        rw [e2]
        simp only [Option.bind_some]
        rw [wrap_of (x := c - 1) (by omega) (by omega), wrap_of (x := 1 + u) (by omega) (by omega), wrap_of (x := -(1 + u)) (by omega) (by omega)]
        by_cases g3 : v = 0
        · rw [if_pos g3, if_pos (by omega)]
          obtain ⟨y, a', s', e, h, hy⟩ := ih k (c - 1) a2 s2 (x ++ [-(1 + u)]) (by omega) (by omega) (by omega) hs2 (by simp; omega)
          exact ⟨y, a', s', e, h, by simp at hy; omega⟩
        · rw [if_neg g3, if_pos (by omega)]
          obtain ⟨y, a', s', e, h, hy⟩ := ih k (c - 1) a2 s2 (x ++ [1 + u]) (by omega) (by omega) (by omega) hs2 (by simp; omega)
          exact ⟨y, a', s', e, h, by simp at hy; omega⟩
      · rw [decide_eq_false g2]
        simp only [spec_l32DrawBraid.j2]
        exact ⟨x, a, s, by simp, hs, by omega⟩
    · rw [if_neg g]
      simp only [spec_l32DrawBraid.j2]
      exact ⟨x, a, s, by simp, hs, by omega⟩
theorem draw_j {code : List Int} (hc : Draw.Code code) (st : Int) (h1 : 1 ≤ st) (h6 : st ≤ 6) (k : Nat) (hk : 100 < k) (a s : Int) (hs : Src code a s) :
    ∃ y a' s', spec_l32DrawBraid.j0 k 14 code a s st = some (st, y, a', s') ∧ Src code a' s' ∧ y.length ≤ 14 := by
  obtain ⟨k, rfl⟩ : ∃ m, k = m + 1 := ⟨k - 1, by omega⟩
  simp only [spec_l32DrawBraid.j0]
  rw [wrap_of (by omega) (by omega)]
  obtain ⟨u, a1, s1, e1, hs1, hu, hu2⟩ := next hc hs (14 + 1) (by omega)
  rw [e1]
  simp only [Option.bind_some]
  obtain ⟨y, a', s', e, h, hy⟩ := draw_loop hc st h1 h6 14 k u a1 s1 [] hu (by omega) (by omega) hs1 (by simp)
  exact ⟨y, a', s', e, h, by simpa using hy⟩
theorem draw_b {code : List Int} (hc : Draw.Code code) (k : Nat) (hk : 100 < k) (a s : Int) (hs : Src code a s) :
    ∃ st y a' s', spec_l32DrawBraid.f k code a s 14 = some (st, y, a', s') ∧ Src code a' s' ∧ 1 ≤ st ∧ st ≤ 6 ∧ y.length ≤ 14 := by
  unfold spec_l32DrawBraid.f
  obtain ⟨u, a1, s1, e1, hs1, hu, hu2⟩ := next hc hs 3 (by omega)
  rw [e1]
  simp only [Option.bind_some]
  obtain ⟨v, a2, s2, e2, hs2, hv, hv2⟩ := next hc hs1 8 (by omega)
  rw [e2]
  simp only [Option.bind_some]
  by_cases g : v = 0
  · rw [if_pos g]
    obtain ⟨t, a3, s3, e3, hs3, ht, ht2⟩ := next hc hs2 6 (by omega)
    rw [e3]
    simp only [Option.bind_some]
    rw [wrap_of (x := 1 + t) (by omega) (by omega)]
    obtain ⟨y, a', s', e, h, hy⟩ := draw_j hc (1 + t) (by omega) (by omega) k hk a3 s3 hs3
    exact ⟨_, y, a', s', e, h, by omega, by omega, hy⟩
  · rw [if_neg g, wrap_of (x := 2 + u) (by omega) (by omega)]
    obtain ⟨y, a', s', e, h, hy⟩ := draw_j hc (2 + u) (by omega) (by omega) k hk a2 s2 hs2
    exact ⟨_, y, a', s', e, h, by omega, by omega, hy⟩
theorem draw_p {code : List Int} (hc : Draw.Code code) (k : Nat) (hk : 100 < k) : ∃ p, spec_DrawPermutationBraid.f k code = some p ∧ p.length ≤ 7 := by
  unfold spec_DrawPermutationBraid.f
  obtain ⟨s, e0, hs⟩ := from_f hc k (by omega)
  rw [e0]
  simp only [Option.bind_some]
  obtain ⟨st, y, a1, s1, e1, hs1, h1, h6, hy⟩ := draw_b hc k hk 0 s hs
  rw [e1]
  simp only [Option.bind_some]
  rw [BPerm.spec_f k st y (by omega) (by unfold maxLen; omega)]
  simp only [Option.bind_some]
  obtain ⟨u, a2, s2, e2, hs2, hu, hu2⟩ := next hc hs1 8 (by omega)
  rw [e2]
  simp only [Option.bind_some]
  have ho := BPerm.out_len st y
  by_cases g : u = 0
  · rw [if_pos g]
    obtain ⟨v, a3, s3, e3, hs3, hv, hv2⟩ := next hc hs2 5 (by omega)
    rw [e3]
    simp only [Option.bind_some]
    rw [if_pos (by omega)]
    exact ⟨_, rfl, by simp; omega⟩
  · rw [if_neg g]
    exact ⟨_, rfl, by omega⟩

/-! the pairs -/
theorem pair_inner (st : Int) (w p : List Int) (hp : p.length ≤ 7) (i : Nat) (hi : i < p.length) : ∀ (d k j : Nat) (c : Nat), j ≤ p.length → p.length - j = d → d < k → c + d ≤ 1000 →
    ∃ k', k ≤ k' + d + 1 ∧ laws_FnPermutationWord.l1 k p (c : Int) (i : Int) (j : Int) st w = laws_FnPermutationWord.l0 k' p ((c + cnt (p.getD i 0) (p.drop j) : Nat) : Int) ((i + 1 : Nat) : Int) st w := by
  intro d
  induction d with
  | zero =>
    intro k j c hj hd hk hc
    obtain ⟨k, rfl⟩ : ∃ m, k = m + 1 := ⟨k - 1, by omega⟩
    refine ⟨k, by omega, ?_⟩
    simp only [laws_FnPermutationWord.l1]
    rw [if_neg (by omega), wrap_of (by omega) (by omega), List.drop_of_length_le (by omega)]
    rfl
  | succ d ih =>
    intro k j c hj hd hk hc
    obtain ⟨k, rfl⟩ : ∃ m, k = m + 1 := ⟨k - 1, by omega⟩
    simp only [laws_FnPermutationWord.l1]
    rw [if_pos (by omega), if_pos (by omega), if_pos (by omega), if_pos (by omega), rd_nat, rd_nat, wrap_of (x := (j : Int) + 1) (by omega) (by omega), wrap_of (x := (c : Int) + 1) (by omega) (by omega), show ((j : Int) + 1) = ((j + 1 : Nat) : Int) from rfl, show ((c : Int) + 1) = ((c + 1 : Nat) : Int) from rfl]
    have hjl : j < p.length := by omega
    have e : p.getD j 0 = p[j] := by simp [List.getD_eq_getElem?_getD, List.getElem?_eq_getElem hjl]
    rw [List.drop_eq_getElem_cons hjl]
    unfold cnt
    rw [List.filter_cons, ← e]
    by_cases g : p.getD j 0 < p.getD i 0
    · rw [if_pos g]
      have hcl := cnt_le (p.getD i 0) p
      obtain ⟨k', hk', he⟩ := ih k (j + 1) (c + 1) (by omega) (by omega) (by omega) (by omega)
      refine ⟨k', by omega, ?_⟩
      rw [he, decide_eq_true g, if_pos rfl, List.length_cons]
      unfold cnt
      congr 2
      omega
    · rw [if_neg g]
      obtain ⟨k', hk', he⟩ := ih k (j + 1) c (by omega) (by omega) (by omega) (by omega)
      refine ⟨k', by omega, ?_⟩
      rw [he, decide_eq_false g, if_neg Bool.false_ne_true]
      rfl
theorem pair_outer (st : Int) (w p : List Int) (hp : p.length ≤ 7) (hw : w.length ≤ 24) (ho : BPerm.out st w = p) : ∀ (d k i c : Nat), i ≤ p.length → p.length - i = d → d * 20 + 100 < k → c ≤ 900 → c + inv (p.drop i) = w.length →
    laws_FnPermutationWord.l0 k p (c : Int) (i : Int) st w = some true := by
  intro d
  induction d with
  | zero =>
    intro k i c hi hd hk hc he
    obtain ⟨k, rfl⟩ : ∃ m, k = m + 1 := ⟨k - 1, by omega⟩
    rw [List.drop_of_length_le (by omega)] at he
    simp only [inv, Nat.add_zero] at he
    simp only [laws_FnPermutationWord.l0]
    rw [if_neg (by omega), if_pos (by omega), BPerm.impl_f k st w (by omega)]
    simp only [Option.bind_some]
    rw [ho, like_f p p k (by omega) (by omega)]
    simp
  | succ d ih =>
    intro k i c hi hd hk hc he
    obtain ⟨k, rfl⟩ : ∃ m, k = m + 1 := ⟨k - 1, by omega⟩
    simp only [laws_FnPermutationWord.l0]
    rw [if_pos (by omega), wrap_of (x := (i : Int) + 1) (by omega) (by omega), show ((i : Int) + 1) = ((i + 1 : Nat) : Int) from rfl]
    obtain ⟨k', hk', e⟩ := pair_inner st w p hp i (by omega) (p.length - (i + 1)) k (i + 1) c (by omega) rfl (by omega) (by omega)
    rw [e]
    have hil : i < p.length := by omega
    have e2 : p.getD i 0 = p[i] := by simp [List.getD_eq_getElem?_getD, List.getElem?_eq_getElem hil]
    rw [List.drop_eq_getElem_cons hil] at he
    simp only [inv] at he
    rw [← e2] at he
    have hcl := cnt_le (p.getD i 0) (p.drop (i + 1))
    rw [List.length_drop] at hcl
    exact ih k' (i + 1) _ (by omega) (by omega) (by omega) (by omega) (by omega)

theorem FnPermutationWord : Pure := by
  intro code hl hw
  refine ⟨3000, ?_⟩
  unfold laws_FnPermutationWord.f
  rw [big_f]
  simp only [Option.bind_some]
  by_cases hb : code.length > 4096
  · rw [decide_eq_true (by omega : (code.length : Int) > 4096), if_pos rfl]
  · rw [decide_eq_false (by omega : ¬ (code.length : Int) > 4096), if_neg Bool.false_ne_true]
    have hc := code_of hb hw
    obtain ⟨p, e, hp⟩ := draw_p hc 3000 (by omega)
    rw [e]
    simp only [Option.bind_some, List.length_nil, List.nil_append]
    rw [if_pos (by omega), Perm.impl_f 3000 p (by omega) (by omega), Perm.spec_f 3000 p (by omega) (by omega)]
    simp only [Option.bind_some]
    unfold Perm.out
    by_cases h : (decide (1 ≤ (p.length : Int)) && decide ((p.length : Int) ≤ 6)) = true ∧ chk p.length (List.replicate p.length false) p = true
    · rw [if_pos h]
      have h1 : 1 ≤ (p.length : Int) ∧ (p.length : Int) ≤ 6 := by simpa using h.1
      have hP := isP_of_chk p h.2
      have hle := inv_le p
      obtain ⟨w1, w2⟩ := word_len (p.length * p.length) p hle
      have h15 := inv_15 p (by omega)
      have hgood := word_good (p.length * p.length) p (by omega) (by omega) hle
      have hperm := word_perm (p.length * p.length) p hP hle
      simp only [if_true]
      have ho : BPerm.out (p.length : Int) (word (p.length * p.length + 1) p) = p := by
        unfold BPerm.out
        rw [if_pos hgood, Int.toNat_natCast]
        exact hperm
      have := pair_outer (p.length : Int) (word (p.length * p.length + 1) p) p (by omega) (by omega) ho p.length 3000 0 0 (by omega) (by omega) (by omega) (by omega) (by rw [List.drop_zero]; omega)
      exact this
    · rw [if_neg h]
      rfl
end Go.Proofs.Yteeahaikelpkpaa.fnPermutationWord.Pure
