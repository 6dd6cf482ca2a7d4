/- Permutations and their words: what the program's and the reference's functions come to. -/
import Derived.Test.YtahjhlcmcnemiaaSorts
import Derived.Test.YtahjhlcmcnemiaaBaseB
import Derived.Test.YtahjhlcmcnemiaaPAxf25
import Derived.Test.YtahjhlcmcnemiaaPAxf26
import Derived.Test.YtahjhlcmcnemiaaPAxf50
import Derived.Test.YtahjhlcmcnemiaaPAxf56
import Derived.Test.YtahjhlcmcnemiaaPAxf57
import Derived.Test.YtahjhlcmcnemiaaPAxf59
import Derived.Test.YtahjhlcmcnemiaaPAxf60
import Derived.Test.YtahjhlcmcnemiaaPAxf61
import Derived.Test.YtahjhlcmcnemiaaPAxf62
namespace Go.Proofs.Ytahjhlcmcnemiaa.Perm
open Go.RowKit Go.Proofs.Ytahjhlcmcnemiaa.PA Go.Proofs.YtahjhlcmcnemiaaW.PrintWords Go.Proofs.YtahjhlcmcnemiaaW.PrintLast Go.Proofs.Ytahjhlcmcnemiaa.Base Go.Proofs.Ytahjhlcmcnemiaa.BaseB Go.Proofs.Ytahjhlcmcnemiaa.Sorts
set_option linter.unusedVariables false
set_option linter.unusedSimpArgs false

theorem range_f (x lo hi : Int) : impl_inRange.f x lo hi = some (decide (lo ≤ x) && decide (x ≤ hi)) := by
  unfold impl_inRange.f
  by_cases h : lo ≤ x <;> simp [h]
theorem clone_f (l : List Int) (h : l.length ≤ 1048576) : slices_Clone_int64_int64.f l = some l := by
  unfold slices_Clone_int64_int64.f
  simp only [Option.bind_some, List.length_nil, List.nil_append]
  rw [if_pos (by omega)]
theorem rdB (s : List Bool) (x : Int) : rdOf false s x = s.getD x.toNat false := rfl

theorem sperm_loop (l : List Int) (hl : l.length ≤ 1048576) : ∀ (d k i : Nat) (s : List Bool), i ≤ l.length → l.length - i = d → d < k → s.length = l.length →
    spec_l32Permutation.l0 k l s (i : Int) = some (chk l.length s (l.drop i)) := by
  intro d
  induction d with
  | zero =>
    intro k i s hi hd hk hs
    obtain ⟨k, rfl⟩ : ∃ m, k = m + 1 := ⟨k - 1, by omega⟩
    simp only [spec_l32Permutation.l0]
    rw [if_neg (by omega), List.drop_of_length_le (by omega)]
    rfl
  | succ d ih =>
    intro k i s hi hd hk hs
    obtain ⟨k, rfl⟩ : ∃ m, k = m + 1 := ⟨k - 1, by omega⟩
    simp only [spec_l32Permutation.l0]
    rw [if_pos (by omega), if_pos (by omega), rd_lt l i (by omega), wrap_of (x := (l.length : Int) - 1) (by omega) (by omega), in_f, wrap_of (x := (i : Int) + 1) (by omega) (by omega), show ((i : Int) + 1) = ((i + 1 : Nat) : Int) from rfl]
    simp only [Option.bind_some]
    rw [List.drop_eq_getElem_cons (by omega : i < l.length)]
    simp only [chk]
    by_cases h : (decide (0 ≤ l[i]) && decide (l[i] ≤ (l.length : Int) - 1)) = true
    · have h' : 0 ≤ l[i] ∧ l[i] ≤ (l.length : Int) - 1 := by simpa using h
      rw [if_pos h, if_pos h'.1, if_pos (by omega), h, rdB]
      by_cases hq : s.getD l[i].toNat false = true
      · rw [if_pos hq, hq]; rfl
      · rw [if_neg hq, Bool.eq_false_iff.2 hq, ih k (i + 1) _ (by omega) (by omega) (by omega) (by simpa using hs)]
        rfl
    · rw [if_neg h, Bool.eq_false_iff.2 h]; rfl
theorem sperm_f (l : List Int) (k : Nat) (hl : l.length ≤ 1048576) (hk : l.length < k) : spec_l32Permutation.f k l = some (chk l.length (List.replicate l.length false) l) := by
  unfold spec_l32Permutation.f
  rw [if_pos (by omega), if_pos (by omega), Int.toNat_natCast]
  have := sperm_loop l hl l.length k 0 (List.replicate l.length false) (by omega) (by omega) hk (by simp)
  rwa [show ((0 : Nat) : Int) = 0 from rfl, List.drop_zero] at this
theorem iperm_loop (l : List Int) (hl : l.length ≤ 1048576) : ∀ (d k i : Nat) (s : List Bool), i ≤ l.length → l.length - i = d → d < k → s.length = l.length →
    impl_isPermutation.l0 k l (l.length : Int) s l (l.length : Int) (i : Int) = some (chk l.length s (l.drop i)) := by
  intro d
  induction d with
  | zero =>
    intro k i s hi hd hk hs
    obtain ⟨k, rfl⟩ : ∃ m, k = m + 1 := ⟨k - 1, by omega⟩
    simp only [impl_isPermutation.l0]
    rw [if_neg (by omega), List.drop_of_length_le (by omega)]
    simp [impl_size_int64.f, chk]
  | succ d ih =>
    intro k i s hi hd hk hs
    obtain ⟨k, rfl⟩ : ∃ m, k = m + 1 := ⟨k - 1, by omega⟩
    simp only [impl_isPermutation.l0]
    rw [if_pos (by omega), if_pos (by omega), if_pos (by omega), rd_lt l i (by omega), wrap_of (x := (l.length : Int) - 1) (by omega) (by omega), range_f, wrap_of (x := (i : Int) + 1) (by omega) (by omega), show ((i : Int) + 1) = ((i + 1 : Nat) : Int) from rfl]
    simp only [Option.bind_some]
    rw [List.drop_eq_getElem_cons (by omega : i < l.length)]
    simp only [chk]
    by_cases h : (decide (0 ≤ l[i]) && decide (l[i] ≤ (l.length : Int) - 1)) = true
    · have h' : 0 ≤ l[i] ∧ l[i] ≤ (l.length : Int) - 1 := by simpa using h
      rw [if_pos h, if_pos h'.1, if_pos (by omega), h, rdB]
      by_cases hq : s.getD l[i].toNat false = true
      · rw [if_pos hq, hq]; rfl
      · rw [if_neg hq, Bool.eq_false_iff.2 hq, ih k (i + 1) _ (by omega) (by omega) (by omega) (by simpa using hs)]
        rfl
    · rw [if_neg h, Bool.eq_false_iff.2 h]; rfl
theorem iperm_f (l : List Int) (k : Nat) (hl : l.length ≤ 1048576) (hk : l.length < k) : impl_isPermutation.f k l (l.length : Int) = some (chk l.length (List.replicate l.length false) l) := by
  unfold impl_isPermutation.f
  rw [if_pos (by omega), if_pos (by omega), Int.toNat_natCast]
  have := iperm_loop l hl l.length k 0 (List.replicate l.length false) (by omega) (by omega) hk (by simp)
  rwa [show ((0 : Nat) : Int) = 0 from rfl, List.drop_zero] at this

/-! words -/
theorem start_f (l : List Int) (j : Nat) (hj : 1 ≤ j) (hl : j < l.length) (hm : l.length ≤ 1048576) : spec_l32Start.f l (j : Int) = some (sw l j) := by
  unfold spec_l32Start.f
  simp only [Option.bind_some, List.length_nil, List.nil_append]
  rw [wrap_of (by omega) (by omega), if_pos (by omega), if_pos (by omega), if_pos (by omega), if_pos (by omega), if_pos (by omega), if_pos (by omega), if_pos (by omega), show ((j : Int) - 1) = ((j - 1 : Nat) : Int) by omega, rd_nat, rd_nat, Int.toNat_natCast, Int.toNat_natCast]
  rfl
theorem swap_f (l : List Int) (j : Nat) (hj : 1 ≤ j) (hl : j < l.length) (hm : l.length ≤ 1048576) : impl_swap.f l (j : Int) = some (sw l j) := by
  unfold impl_swap.f
  rw [wrap_of (by omega) (by omega), if_pos (by omega), if_pos (by omega), if_pos (by omega), if_pos (by omega), show ((j : Int) - 1) = ((j - 1 : Nat) : Int) by omega, rd_nat, rd_nat, Int.toNat_natCast, Int.toNat_natCast]
  rfl
theorem first_loop (p : List Int) (hm : p.length ≤ 1048576) : ∀ (d k i : Nat), 1 ≤ i → i + d = p.length ∨ d = 0 ∧ p.length ≤ i → i ≤ 1048577 → d < k → impl_firstCrossing.l0 k p (i : Int) = some ((fd p d i : Nat) : Int) := by
  intro d
  induction d with
  | zero =>
    intro k i hi hd hi2 hk
    obtain ⟨k, rfl⟩ : ∃ m, k = m + 1 := ⟨k - 1, by omega⟩
    simp only [impl_firstCrossing.l0]
    rw [if_neg (by omega)]
    rfl
  | succ d ih =>
    intro k i hi hd hi2 hk
    obtain ⟨k, rfl⟩ : ∃ m, k = m + 1 := ⟨k - 1, by omega⟩
    simp only [impl_firstCrossing.l0, fd]
    rw [wrap_of (x := (i : Int) - 1) (by omega) (by omega), wrap_of (x := (i : Int) + 1) (by omega) (by omega), if_pos (by omega), if_pos (by omega), if_pos (by omega), if_pos (by omega), show ((i : Int) - 1) = ((i - 1 : Nat) : Int) by omega, rd_nat, rd_nat, show ((i : Int) + 1) = ((i + 1 : Nat) : Int) from rfl]
    by_cases c : p.getD i 0 < p.getD (i - 1) 0
    · rw [if_pos c, if_pos c]
    · rw [if_neg c, if_neg c]
      exact ih k (i + 1) (by omega) (by omega) (by omega) (by omega)
theorem first_f (p : List Int) (k : Nat) (hm : p.length ≤ 1048576) (hk : p.length < k) : impl_firstCrossing.f k p = some ((fd p (p.length - 1) 1 : Nat) : Int) := by
  unfold impl_firstCrossing.f
  exact first_loop p hm (p.length - 1) k 1 (by omega) (by omega) (by omega) (by omega)

theorem impl_word (n : Nat) (hn : n ≤ 6) : ∀ (f : Nat) (p : List Int), p.length = n → inv p ≤ f → ∀ (k : Nat) (x : List Int) (s : Int), f + 8 ≤ k → x.length + f ≤ 1000 →
    impl_PermutationBraid.l0 k p ((fd p (p.length - 1) 1 : Nat) : Int) s x = some (s, x ++ word (f + 1) p, 0) := by
  intro f
  induction f with
  | zero =>
    intro p hp hi k x s hk hx
    obtain ⟨k, rfl⟩ : ∃ m, k = m + 1 := ⟨k - 1, by omega⟩
    have h0 : fd p (p.length - 1) 1 = 0 := by
      rcases fd_spec p (p.length - 1) 1 (by omega) with h | ⟨h1, h2, h3⟩
      · exact h
      · have := inv_sw p _ h1 (by omega) h3
        omega
    simp only [impl_PermutationBraid.l0, word]
    rw [h0]
    simp
  | succ f ih =>
    intro p hp hi k x s hk hx
    obtain ⟨k, rfl⟩ : ∃ m, k = m + 1 := ⟨k - 1, by omega⟩
    rcases fd_spec p (p.length - 1) 1 (by omega) with h | ⟨h1, h2, h3⟩
    · simp only [impl_PermutationBraid.l0, word]
      rw [h]
      simp
    · have hs := inv_sw p _ h1 (by omega) h3
      rw [show word (f + 1 + 1) p = if fd p (p.length - 1) 1 = 0 then [] else (fd p (p.length - 1) 1 : Int) :: word (f + 1) (sw p (fd p (p.length - 1) 1)) from rfl]
      simp only [impl_PermutationBraid.l0]
      rw [if_pos (by omega), if_pos (by omega), swap_f p _ h1 (by omega) (by omega)]
      simp only [Option.bind_some]
      rw [first_f _ k (by rw [sw_length]; omega) (by rw [sw_length]; omega)]
      simp only [Option.bind_some]
      rw [ih (sw p (fd p (p.length - 1) 1)) (by rw [sw_length]; exact hp) (by omega) k _ s (by omega) (by simp; omega), if_neg (by omega), List.append_assoc]
      rfl
theorem spec_scan (p : List Int) (hm : p.length ≤ 6) (x : List Int) (hx : x.length ≤ 1000) : ∀ (d k i : Nat), 1 ≤ i → i + d = p.length ∨ d = 0 ∧ p.length ≤ i → i ≤ 7 → d < k →
    (fd p d i = 0 → spec_l32Word.l0 k p x (i : Int) = some x) ∧ (fd p d i ≠ 0 → ∃ k', k ≤ k' + d + 1 ∧ spec_l32Word.l0 k p x (i : Int) = spec_l32Word.l0 k' (sw p (fd p d i)) (x ++ [((fd p d i : Nat) : Int)]) 1) := by
  intro d
  induction d with
  | zero =>
    intro k i hi hd hi2 hk
    obtain ⟨k, rfl⟩ : ∃ m, k = m + 1 := ⟨k - 1, by omega⟩
    refine ⟨fun _ => ?_, fun h => absurd rfl h⟩
    simp only [spec_l32Word.l0]
    rw [if_neg (by omega)]
  | succ d ih =>
    intro k i hi hd hi2 hk
    obtain ⟨k, rfl⟩ : ∃ m, k = m + 1 := ⟨k - 1, by omega⟩
    have e : spec_l32Word.l0 (k + 1) p x (i : Int) = if p.getD i 0 < p.getD (i - 1) 0 then spec_l32Word.l0 k (sw p i) (x ++ [(i : Int)]) 1 else spec_l32Word.l0 k p x ((i + 1 : Nat) : Int) := by
      simp only [spec_l32Word.l0]
      rw [wrap_of (x := (i : Int) - 1) (by omega) (by omega), wrap_of (x := (i : Int) + 1) (by omega) (by omega), if_pos (by omega), if_pos (by omega), if_pos (by omega), if_pos (by omega), show ((i : Int) - 1) = ((i - 1 : Nat) : Int) by omega, rd_nat, rd_nat, show ((i : Int) + 1) = ((i + 1 : Nat) : Int) from rfl]
      by_cases c : p.getD i 0 < p.getD (i - 1) 0
      · rw [if_pos c, if_pos c, if_pos (by omega), start_f p i hi (by omega) (by omega)]
        rfl
      · rw [if_neg c, if_neg c]
    rw [e]
    unfold fd
    by_cases c : p.getD i 0 < p.getD (i - 1) 0
    · rw [if_pos c, if_pos c]
      exact ⟨fun h => by omega, fun _ => ⟨k, by omega, rfl⟩⟩
    · rw [if_neg c, if_neg c]
      obtain ⟨h1, h2⟩ := ih k (i + 1) (by omega) (by omega) (by omega) (by omega)
      refine ⟨h1, fun h => ?_⟩
      obtain ⟨k', hk', he⟩ := h2 h
      exact ⟨k', by omega, he⟩
theorem spec_word (n : Nat) (hn : n ≤ 6) : ∀ (f : Nat) (p : List Int), p.length = n → inv p ≤ f → ∀ (k : Nat) (x : List Int), (f + 1) * 7 < k → x.length + f ≤ 1000 →
    spec_l32Word.l0 k p x 1 = some (x ++ word (f + 1) p) := by
  intro f
  induction f with
  | zero =>
    intro p hp hi k x hk hx
    have h0 : fd p (p.length - 1) 1 = 0 := by
      rcases fd_spec p (p.length - 1) 1 (by omega) with h | ⟨h1, h2, h3⟩
      · exact h
      · have := inv_sw p _ h1 (by omega) h3
        omega
    have := (spec_scan p (by omega) x (by omega) (p.length - 1) k 1 (by omega) (by omega) (by omega) (by omega)).1 h0
    rw [show ((1 : Nat) : Int) = 1 from rfl] at this
    rw [this]
    simp [word, h0]
  | succ f ih =>
    intro p hp hi k x hk hx
    have hsc := spec_scan p (by omega) x (by omega) (p.length - 1) k 1 (by omega) (by omega) (by omega) (by omega)
    rw [show ((1 : Nat) : Int) = 1 from rfl] at hsc
    rw [show word (f + 1 + 1) p = if fd p (p.length - 1) 1 = 0 then [] else (fd p (p.length - 1) 1 : Int) :: word (f + 1) (sw p (fd p (p.length - 1) 1)) from rfl]
    rcases fd_spec p (p.length - 1) 1 (by omega) with h | ⟨h1, h2, h3⟩
    · rw [hsc.1 h, if_pos h]; simp
    · have hs := inv_sw p _ h1 (by omega) h3
      obtain ⟨k', hk', he⟩ := hsc.2 (by omega)
      rw [he, ih (sw p (fd p (p.length - 1) 1)) (by rw [sw_length]; exact hp) (by omega) k' _ (by omega) (by simp; omega), if_neg (by omega), List.append_assoc]
      rfl

def out (l : List Int) : Int × List Int × Int :=
  if (decide (1 ≤ (l.length : Int)) && decide ((l.length : Int) ≤ 6)) = true ∧ chk l.length (List.replicate l.length false) l = true then ((l.length : Int), word (l.length * l.length + 1) l, 0) else (0, [], 1)
theorem out_len (l : List Int) : (out l).2.1.length ≤ 37 := by
  unfold out
  split
  · rename_i h
    have h' : 1 ≤ (l.length : Int) ∧ (l.length : Int) ≤ 6 := by simpa using h.1
    have h6 : l.length ≤ 6 := by omega
    have := word_length (l.length * l.length + 1) l
    have h2 : l.length * l.length ≤ 6 * 6 := Nat.mul_le_mul h6 h6
    simp only
    omega
  · simp
theorem spec_f (k : Nat) (l : List Int) (hk : 1000 + l.length < k) (hl : l.length ≤ 1048576) : spec_PermutationBraid.f k l = some (out l) := by
  unfold spec_PermutationBraid.f out
  rw [in_f]
  simp only [Option.bind_some]
  by_cases h : (decide (1 ≤ (l.length : Int)) && decide ((l.length : Int) ≤ 6)) = true
  · have h' : 1 ≤ (l.length : Int) ∧ (l.length : Int) ≤ 6 := by simpa using h
    have h6 : l.length ≤ 6 := by omega
    have h2 : l.length * l.length ≤ 6 * 6 := Nat.mul_le_mul h6 h6
    rw [if_pos h, sperm_f l k hl (by omega)]
    simp only [Option.bind_some]
    by_cases hc : chk l.length (List.replicate l.length false) l = true
    · rw [if_pos hc, if_pos ⟨h, hc⟩]
      unfold spec_l32Word.f
      rw [spec_word l.length h6 (l.length * l.length) l rfl (inv_le l) k [] (by omega) (by simp; omega)]
      rfl
    · rw [if_neg hc, if_neg (fun q => hc q.2)]
  · rw [if_neg h, if_neg (fun q => h q.1)]
theorem impl_f (k : Nat) (l : List Int) (hk : 1000 + l.length < k) (hl : l.length ≤ 1048576) : impl_PermutationBraid.f k l = some (out l) := by
  obtain ⟨k, rfl⟩ : ∃ m, k = m + 1 := ⟨k - 1, by omega⟩
  have j0 : ∀ q, impl_PermutationBraid.j0 (k + 1) l q = if q = true then (some (0, ([] : List Int), 1)) else ((slices_Clone_int64_int64.f l).bind fun t261 => ((impl_size_int64.f l).bind fun t264 => ((impl_firstCrossing.f k t261).bind fun t266 => (impl_PermutationBraid.l0 k t261 t266 t264 ([] : List Int))))) := fun q => rfl
  unfold impl_PermutationBraid.f out
  simp only [impl_size_int64.f, Option.bind_some, range_f, j0]
  by_cases h : (decide (1 ≤ (l.length : Int)) && decide ((l.length : Int) ≤ 6)) = true
  · have h' : 1 ≤ (l.length : Int) ∧ (l.length : Int) ≤ 6 := by simpa using h
    have h6 : l.length ≤ 6 := by omega
    have h2 : l.length * l.length ≤ 6 * 6 := Nat.mul_le_mul h6 h6
    rw [if_pos h, iperm_f l _ hl (by omega)]
    simp only [Option.bind_some]
    by_cases hc : chk l.length (List.replicate l.length false) l = true
    · rw [hc, if_neg (by simp), if_pos ⟨h, rfl⟩, clone_f l (by omega)]
      simp only [Option.bind_some]
      rw [first_f l k (by omega) (by omega)]
      simp only [Option.bind_some]
      rw [impl_word l.length h6 (l.length * l.length) l rfl (inv_le l) k [] _ (by omega) (by simp; omega)]
      rfl
    · rw [Bool.eq_false_iff.2 hc]
      simp
  · rw [if_neg h, if_pos trivial, if_neg (fun q => h q.1)]
end Go.Proofs.Ytahjhlcmcnemiaa.Perm
