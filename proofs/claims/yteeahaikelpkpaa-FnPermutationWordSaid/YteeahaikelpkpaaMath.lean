/- The plain laws that the rows of this claim lean on: copies, comparisons, marks, braids, permutations, words. -/
import Derived.Test.YteeahaikelpkpaaPBx0
import Derived.Test.YteeahaikelpkpaaPBxf124
import Derived.Test.YteeahaikelpkpaaPBxf125
import Derived.Test.YteeahaikelpkpaaPBxf126
import Derived.Test.YteeahaikelpkpaaPBxf13
import Derived.Test.YteeahaikelpkpaaPBxf15
import Derived.Test.YteeahaikelpkpaaPBxf16
import Derived.Test.YteeahaikelpkpaaPBxf18
import Derived.Test.YteeahaikelpkpaaPBxf29
import Derived.Test.YteeahaikelpkpaaPBxf56
import Derived.Test.YteeahaikelpkpaaPBxf70
import Derived.Test.YteeahaikelpkpaaPBxf72
import Derived.Test.YteeahaikelpkpaaPBxf73
import Derived.Test.YteeahaikelpkpaaPBxf75
import Derived.Test.YteeahaikelpkpaaPBxf76
import Derived.Test.YteeahaikelpkpaaPBxf77
import Derived.Test.YteeahaikelpkpaaPBxf78
import Derived.Test.YteeahaikelpkpaaPBxf80
import Derived.Test.YteeahaikelpkpaaPBxf81
import Derived.Test.YteeahaikelpkpaaPBxf82
import Derived.Test.YteeahaikelpkpaaPBxf83
import Derived.Test.YteeahaikelpkpaaPBxf84
import Derived.Test.YteeahaikelpkpaaPBxf85
/- What the statements' own small functions come to: copies, comparisons, marks. -/

namespace Go.Proofs.Yteeahaikelpkpaa.Base
open Go.RowKit Go.Proofs.Yteeahaikelpkpaa.PB Go.Proofs.YteeahaikelpkpaaW.PrintWords Go.Proofs.YteeahaikelpkpaaW.PrintLast
set_option linter.unusedVariables false
set_option linter.unusedSimpArgs false

theorem wrap_of {x : Int} (h0 : -9223372036854775808 ≤ x) (h1 : x ≤ 9223372036854775807) : wrap64 x = x := by
  unfold wrap64; omega
theorem wf_range {x : Int} (h : (Lit.int .i64 x).wf = true) : -9223372036854775808 ≤ x ∧ x ≤ 9223372036854775807 := by
  have h2 : IntKind.i64.min ≤ x ∧ x ≤ IntKind.i64.max := by simpa [Lit.wf] using h
  have h3 : IntKind.i64.min = -9223372036854775808 := by decide
  have h4 : IntKind.i64.max = 9223372036854775807 := by decide
  omega
theorem rd_lt (l : List Int) (i : Nat) (h : i < l.length) : rd l (i : Int) = l[i] := by
  simp [rd, List.getD_eq_getElem?_getD, h]

/-! marks -/
def from_ (a : Int) : Nat → List Int
  | 0 => []
  | n + 1 => a :: from_ (a + 1) n
theorem from_length (n : Nat) : ∀ a, (from_ a n).length = n := by
  induction n with
  | zero => intro a; rfl
  | succ n ih => intro a; simp [from_, ih]
theorem from_succ (n : Nat) : ∀ a : Int, from_ a (n + 1) = from_ a n ++ [a + n] := by
  induction n with
  | zero => intro a; simp [from_]
  | succ n ih =>
    intro a
    show a :: from_ (a + 1) (n + 1) = a :: (from_ (a + 1) n) ++ [a + (n + 1 : Nat)]
    rw [ih]
    have : a + 1 + (n : Int) = a + ((n + 1 : Nat) : Int) := by omega
    rw [this]; rfl
theorem from_get (n : Nat) : ∀ (a : Int) (i : Nat) (h : i < (from_ a n).length), (from_ a n)[i] = a + i := by
  induction n with
  | zero => intro a i h; simp [from_] at h
  | succ n ih =>
    intro a i h
    cases i with
    | zero => simp [from_]
    | succ i =>
      have h' : i < (from_ (a + 1) n).length := by simpa [from_] using h
      have := ih (a + 1) i h'
      simp only [from_, List.getElem_cons_succ, this]
      omega
theorem if_lt_no {α : Type} {a b : Int} (h : b ≤ a) (x y : α) : (if a < b then x else y) = y := if_neg (by omega)
theorem if_gt_no {α : Type} {a b : Int} (h : a ≤ b) (x y : α) : (if a > b then x else y) = y := if_neg (by omega)
theorem if_lt_yes {α : Type} {a b : Int} (h : a < b) (x y : α) : (if a < b then x else y) = x := if_pos h
theorem if_ge_yes {α : Type} {a b : Int} (h : b ≤ a) (x y : α) : (if a ≥ b then x else y) = x := if_pos h
theorem if_ge_no {α : Type} {a b : Int} (h : a < b) (x y : α) : (if a ≥ b then x else y) = y := if_neg (by omega)
theorem if_le_yes {α : Type} {a b : Int} (h : a ≤ b) (x y : α) : (if a ≤ b then x else y) = x := if_pos h
theorem if_le_no {α : Type} {a b : Int} (h : b < a) (x y : α) : (if a ≤ b then x else y) = y := if_neg (by omega)
end Go.Proofs.Yteeahaikelpkpaa.Base

/- What the statements' own small functions come to at braids; and: program and reference agree on which braids are valid. -/
namespace Go.Proofs.Yteeahaikelpkpaa.BaseB
open Go.RowKit Go.Proofs.Yteeahaikelpkpaa.PB Go.Proofs.YteeahaikelpkpaaW.PrintWords Go.Proofs.YteeahaikelpkpaaW.PrintLast Go.Proofs.Yteeahaikelpkpaa.Base
set_option linter.unusedVariables false
set_option linter.unusedSimpArgs false

theorem in_f (x lo hi : Int) : spec_l01In.f x lo hi = some (decide (lo ≤ x) && decide (x ≤ hi)) := by
  unfold spec_l01In.f
  by_cases h : lo ≤ x <;> simp [h]

/-! valid braids -/
theorem letter_f (a x : Int) (h0 : 1 ≤ a) (h1 : a ≤ 6) : spec_l32Letter.f x a = some (impl_isBraid.letter a x) := by
  unfold spec_l32Letter.f impl_isBraid.letter
  rw [wrap_of (by omega) (by omega), wrap_of (by omega) (by omega), in_f]
  by_cases hx : x = 0 <;> simp [hx]
theorem valid_loop (a : Int) (l : List Int) (h0 : 1 ≤ a) (h1 : a ≤ 6) (hl : l.length ≤ 24) : ∀ (d k i : Nat), i ≤ l.length → l.length - i = d → d < k →
    spec_ValidBraid.l0 k (i : Int) a l = some (!((l.drop i).any fun x => !impl_isBraid.letter a x)) := by
  intro d
  induction d with
  | zero =>
    intro k i hi hd hk
    obtain ⟨k, rfl⟩ : ∃ m, k = m + 1 := ⟨k - 1, by omega⟩
    simp only [spec_ValidBraid.l0]
    rw [if_neg (by omega), List.drop_of_length_le (by omega)]
    rfl
  | succ d ih =>
    intro k i hi hd hk
    obtain ⟨k, rfl⟩ : ∃ m, k = m + 1 := ⟨k - 1, by omega⟩
    simp only [spec_ValidBraid.l0]
    rw [if_pos (by omega), if_pos (by omega), rd_lt l i (by omega), letter_f a _ h0 h1, wrap_of (by omega) (by omega), show ((i : Int) + 1) = ((i + 1 : Nat) : Int) from rfl]
    simp only [Option.bind_some]
    rw [List.drop_eq_getElem_cons (by omega : i < l.length), List.any_cons]
    by_cases h : impl_isBraid.letter a l[i] = true
    · rw [if_pos h, ih k (i + 1) (by omega) (by omega) (by omega), h]
      simp
    · rw [if_neg h, Bool.eq_false_iff.2 h]
      simp
theorem valid (k : Nat) (a : Int) (l : List Int) (hk : 26 < k) (hl : l.length ≤ maxLen) : spec_ValidBraid.f k a l = some (impl_isBraid.b a l) := by
  unfold maxLen at hl
  obtain ⟨k, rfl⟩ : ∃ n, k = n + 1 := ⟨k - 1, by omega⟩
  have j0 : ∀ q, spec_ValidBraid.j0 (k + 1) q a l = if q = true then some false else spec_ValidBraid.l0 k 0 a l := fun q => rfl
  unfold spec_ValidBraid.f impl_isBraid.b
  simp only [in_f, Option.bind_some, j0]
  by_cases h1 : (decide (1 ≤ a) && decide (a ≤ 6)) = true
  · have ha : 1 ≤ a ∧ a ≤ 6 := by simpa using h1
    rw [if_pos h1, h1]
    by_cases h2 : l.length ≤ 24
    · have h2' : decide ((l.length : Int) > 24) = false := decide_eq_false (by omega)
      rw [h2', if_neg (by simp), decide_eq_true h2]
      have := valid_loop a l ha.1 ha.2 h2 l.length k 0 (by omega) (by omega) (by omega)
      rw [show ((0 : Nat) : Int) = 0 from rfl] at this
      rw [this]
      rfl
    · have h2' : decide ((l.length : Int) > 24) = true := decide_eq_true (by omega)
      rw [h2', if_pos rfl, decide_eq_false h2]
      rfl
  · rw [if_neg h1, if_pos trivial, Bool.eq_false_iff.2 h1]
    rfl
theorem isB (a : Int) (l : List Int) : impl_isBraid.f a l = some (impl_isBraid.b a l) := rfl
structure Good (a : Int) (l : List Int) : Prop where
  lo : 1 ≤ a
  hi : a ≤ 6
  len : l.length ≤ 24
  letter : ∀ x ∈ l, x ≠ 0 ∧ 1 - a ≤ x ∧ x ≤ a - 1
theorem good_of {a : Int} {l : List Int} (h : impl_isBraid.b a l = true) : Good a l := by
  unfold impl_isBraid.b at h
  simp only [Bool.and_eq_true, decide_eq_true_eq, Bool.not_eq_true', List.any_eq_false, Bool.not_eq_true, Bool.not_eq_false] at h
  obtain ⟨⟨h0, h1⟩, h2, h3⟩ := h
  refine ⟨h0, h1, h2, fun x hx => ?_⟩
  have := h3 x hx
  unfold impl_isBraid.letter at this
  simpa using this
end Go.Proofs.Yteeahaikelpkpaa.BaseB

/- Plain facts on lists: exchanges of neighbors, inversions, the word of a list of numbers. -/
namespace Go.Proofs.Yteeahaikelpkpaa.Sorts
open Go.RowKit Go.Proofs.YteeahaikelpkpaaW.PrintWords Go.Proofs.Yteeahaikelpkpaa.Base
set_option linter.unusedVariables false
set_option linter.unusedSimpArgs false

def sw (p : List Int) (j : Nat) : List Int := (p.set (j - 1) (p.getD j 0)).set j (p.getD (j - 1) 0)
theorem sw_length (p : List Int) (j : Nat) : (sw p j).length = p.length := by simp [sw]
def cnt (a : Int) (l : List Int) : Nat := (l.filter fun x => decide (x < a)).length
def inv : List Int → Nat
  | [] => 0
  | a :: l => cnt a l + inv l
theorem cnt_le (a : Int) (l : List Int) : cnt a l ≤ l.length := List.length_filter_le _ _
theorem inv_le : ∀ l : List Int, inv l ≤ l.length * l.length
  | [] => by simp [inv]
  | a :: l => by
    have h1 := cnt_le a l
    have h2 := inv_le l
    simp only [inv, List.length_cons]
    have : (l.length + 1) * (l.length + 1) = l.length * l.length + l.length + l.length + 1 := by
      rw [Nat.add_mul, Nat.mul_add]; omega
    omega
theorem sw_cons (a : Int) (l : List Int) (j : Nat) (h : 1 ≤ j) : sw (a :: l) (j + 1) = a :: sw l j := by
  obtain ⟨j, rfl⟩ : ∃ m, j = m + 1 := ⟨j - 1, by omega⟩
  simp [sw]
theorem cnt_sw (a : Int) : ∀ (l : List Int) (j : Nat), 1 ≤ j → j < l.length → cnt a (sw l j) = cnt a l
  | [], j, _, h => absurd h (by simp)
  | [x], j, h1, h => absurd h (by simp; omega)
  | x :: y :: l, 1, _, _ => by
    simp only [sw, cnt]
    by_cases hx : x < a <;> by_cases hy : y < a <;> simp [List.filter_cons, hx, hy]
  | x :: y :: l, j + 2, _, h => by
    rw [sw_cons x (y :: l) (j + 1) (by omega)]
    have ih := cnt_sw a (y :: l) (j + 1) (by omega) (by simpa using h)
    simp only [cnt, List.filter_cons] at ih ⊢
    by_cases hx : x < a <;> simp [hx] at ih ⊢ <;> omega
theorem inv_sw : ∀ (l : List Int) (j : Nat), 1 ≤ j → j < l.length → l.getD j 0 < l.getD (j - 1) 0 → inv (sw l j) + 1 = inv l
  | [], j, _, h, _ => absurd h (by simp)
  | [x], j, h1, h, _ => absurd h (by simp; omega)
  | x :: y :: l, 1, _, _, hd => by
    have hd' : y < x := by simpa using hd
    have hn : ¬ x < y := by omega
    have e : sw (x :: y :: l) 1 = y :: x :: l := by simp [sw]
    rw [e]
    simp only [inv, cnt, List.filter_cons, decide_eq_true hd', decide_eq_false hn, if_true, List.length_cons]
    simp
    omega
  | x :: y :: l, j + 2, _, h, hd => by
    rw [sw_cons x (y :: l) (j + 1) (by omega)]
    have ih := inv_sw (y :: l) (j + 1) (by omega) (by simpa using h) (by simpa using hd)
    simp only [inv] at ih ⊢
    rw [cnt_sw x (y :: l) (j + 1) (by omega) (by simpa using h)]
    omega

/-- The first place from i on, among d places, at which neighbors have to be exchanged; or 0. -/
def fd (p : List Int) : Nat → Nat → Nat
  | 0, _ => 0
  | d + 1, i => if p.getD i 0 < p.getD (i - 1) 0 then i else fd p d (i + 1)
theorem fd_spec (p : List Int) : ∀ (d i : Nat), 1 ≤ i → fd p d i = 0 ∨ (i ≤ fd p d i ∧ fd p d i < i + d ∧ p.getD (fd p d i) 0 < p.getD (fd p d i - 1) 0)
  | 0, i, _ => .inl rfl
  | d + 1, i, h => by
    unfold fd
    by_cases c : p.getD i 0 < p.getD (i - 1) 0
    · rw [if_pos c]; exact .inr ⟨by omega, by omega, c⟩
    · rw [if_neg c]
      rcases fd_spec p d (i + 1) (by omega) with h1 | ⟨h1, h2, h3⟩
      · exact .inl h1
      · exact .inr ⟨by omega, by omega, h3⟩
/-- The letters of a list of numbers: at most f exchanges. -/
def word : Nat → List Int → List Int
  | 0, _ => []
  | f + 1, p => if fd p (p.length - 1) 1 = 0 then [] else (fd p (p.length - 1) 1 : Int) :: word f (sw p (fd p (p.length - 1) 1))
theorem word_length : ∀ (f : Nat) (p : List Int), (word f p).length ≤ f
  | 0, _ => by simp [word]
  | f + 1, p => by
    unfold word
    split
    · simp
    · have := word_length f (sw p (fd p (p.length - 1) 1))
      simp only [List.length_cons]; omega

/-- Is it a permutation? What is seen already stands in a list of marks. -/
def chk (n : Int) : List Bool → List Int → Bool
  | _, [] => true
  | s, x :: l => (decide (0 ≤ x) && decide (x ≤ n - 1)) && (!(s.getD x.toNat false) && chk n (s.set x.toNat true) l)
theorem rd_nat (l : List Int) (i : Nat) : rd l (i : Int) = l.getD i 0 := by simp [rd]
end Go.Proofs.Yteeahaikelpkpaa.Sorts

/- Permutations and their words: what the program's and the reference's functions come to. -/
namespace Go.Proofs.Yteeahaikelpkpaa.Perm
open Go.RowKit Go.Proofs.Yteeahaikelpkpaa.PB Go.Proofs.YteeahaikelpkpaaW.PrintWords Go.Proofs.YteeahaikelpkpaaW.PrintLast Go.Proofs.Yteeahaikelpkpaa.Base Go.Proofs.Yteeahaikelpkpaa.BaseB Go.Proofs.Yteeahaikelpkpaa.Sorts
set_option linter.unusedVariables false
set_option linter.unusedSimpArgs false

theorem range_f (x lo hi : Int) : impl_inRange.f x lo hi = some (decide (lo ≤ x) && decide (x ≤ hi)) := by
  unfold impl_inRange.f
  by_cases h : lo ≤ x <;> simp [h]
theorem clone_f (l : List Int) (h : l.length ≤ 1048576) : slices_Clone_int64_int64.f l = some l := by
  unfold slices_Clone_int64_int64.f
  simp only [Option.bind_some, List.length_nil, List.nil_append]
  rw [if_pos (by omega)]
theorem rdB (s : List Bool) (x : Int) : rdOf false s x = s.getD x.toNat false := rfl

theorem sperm_loop (l : List Int) (hl : l.length ≤ 1048576) : ∀ (d k i : Nat) (s : List Bool), i ≤ l.length → l.length - i = d → d < k → s.length = l.length →
    spec_l32Permutation.l0 k l s (i : Int) = some (chk l.length s (l.drop i)) := by
  intro d
  induction d with
  | zero =>
    intro k i s hi hd hk hs
    obtain ⟨k, rfl⟩ : ∃ m, k = m + 1 := ⟨k - 1, by omega⟩
    simp only [spec_l32Permutation.l0]
    rw [if_neg (by omega), List.drop_of_length_le (by omega)]
    rfl
  | succ d ih =>
    intro k i s hi hd hk hs
    obtain ⟨k, rfl⟩ : ∃ m, k = m + 1 := ⟨k - 1, by omega⟩
    simp only [spec_l32Permutation.l0]
    rw [if_pos (by omega), if_pos (by omega), rd_lt l i (by omega), wrap_of (x := (l.length : Int) - 1) (by omega) (by omega), in_f, wrap_of (x := (i : Int) + 1) (by omega) (by omega), show ((i : Int) + 1) = ((i + 1 : Nat) : Int) from rfl]
    simp only [Option.bind_some]
    rw [List.drop_eq_getElem_cons (by omega : i < l.length)]
    simp only [chk]
    by_cases h : (decide (0 ≤ l[i]) && decide (l[i] ≤ (l.length : Int) - 1)) = true
    · have h' : 0 ≤ l[i] ∧ l[i] ≤ (l.length : Int) - 1 := by simpa using h
      rw [if_pos h, if_pos h'.1, if_pos (by omega), h, rdB]
      by_cases hq : s.getD l[i].toNat false = true
      · rw [if_pos hq, hq]; rfl
      · rw [if_neg hq, Bool.eq_false_iff.2 hq, ih k (i + 1) _ (by omega) (by omega) (by omega) (by simpa using hs)]
        rfl
    · rw [if_neg h, Bool.eq_false_iff.2 h]; rfl
theorem sperm_f (l : List Int) (k : Nat) (hl : l.length ≤ 1048576) (hk : l.length < k) : spec_l32Permutation.f k l = some (chk l.length (List.replicate l.length false) l) := by
  unfold spec_l32Permutation.f
  rw [if_pos (by omega), if_pos (by omega), Int.toNat_natCast]
  have := sperm_loop l hl l.length k 0 (List.replicate l.length false) (by omega) (by omega) hk (by simp)
  rwa [show ((0 : Nat) : Int) = 0 from rfl, List.drop_zero] at this
theorem iperm_loop (l : List Int) (hl : l.length ≤ 1048576) : ∀ (d k i : Nat) (s : List Bool), i ≤ l.length → l.length - i = d → d < k → s.length = l.length →
    impl_isPermutation.l0 k l (l.length : Int) s l (l.length : Int) (i : Int) = some (chk l.length s (l.drop i)) := by
  intro d
  induction d with
  | zero =>
    intro k i s hi hd hk hs
    obtain ⟨k, rfl⟩ : ∃ m, k = m + 1 := ⟨k - 1, by omega⟩
    simp only [impl_isPermutation.l0]
    rw [if_neg (by omega), List.drop_of_length_le (by omega)]
    simp [impl_size_int64.f, chk]
  | succ d ih =>
    intro k i s hi hd hk hs
    obtain ⟨k, rfl⟩ : ∃ m, k = m + 1 := ⟨k - 1, by omega⟩
    simp only [impl_isPermutation.l0]
    rw [if_pos (by omega), if_pos (by omega), if_pos (by omega), rd_lt l i (by omega), wrap_of (x := (l.length : Int) - 1) (by omega) (by omega), range_f, wrap_of (x := (i : Int) + 1) (by omega) (by omega), show ((i : Int) + 1) = ((i + 1 : Nat) : Int) from rfl]
    simp only [Option.bind_some]
    rw [List.drop_eq_getElem_cons (by omega : i < l.length)]
    simp only [chk]
    by_cases h : (decide (0 ≤ l[i]) && decide (l[i] ≤ (l.length : Int) - 1)) = true
    · have h' : 0 ≤ l[i] ∧ l[i] ≤ (l.length : Int) - 1 := by simpa using h
      rw [if_pos h, if_pos h'.1, if_pos (by omega), h, rdB]
      by_cases hq : s.getD l[i].toNat false = true
      · rw [if_pos hq, hq]; rfl
      · rw [if_neg hq, Bool.eq_false_iff.2 hq, ih k (i + 1) _ (by omega) (by omega) (by omega) (by simpa using hs)]
        rfl
    · rw [if_neg h, Bool.eq_false_iff.2 h]; rfl
theorem iperm_f (l : List Int) (k : Nat) (hl : l.length ≤ 1048576) (hk : l.length < k) : impl_isPermutation.f k l (l.length : Int) = some (chk l.length (List.replicate l.length false) l) := by
  unfold impl_isPermutation.f
  rw [if_pos (by omega), if_pos (by omega), Int.toNat_natCast]
  have := iperm_loop l hl l.length k 0 (List.replicate l.length false) (by omega) (by omega) hk (by simp)
  rwa [show ((0 : Nat) : Int) = 0 from rfl, List.drop_zero] at this

/-! words -/
theorem start_f (l : List Int) (j : Nat) (hj : 1 ≤ j) (hl : j < l.length) (hm : l.length ≤ 1048576) : spec_l32Start.f l (j : Int) = some (sw l j) := by
  unfold spec_l32Start.f
  simp only [Option.bind_some, List.length_nil, List.nil_append]
  rw [wrap_of (by omega) (by omega), if_pos (by omega), if_pos (by omega), if_pos (by omega), if_pos (by omega), if_pos (by omega), if_pos (by omega), if_pos (by omega), show ((j : Int) - 1) = ((j - 1 : Nat) : Int) by omega, rd_nat, rd_nat, Int.toNat_natCast, Int.toNat_natCast]
  rfl
theorem swap_f (l : List Int) (j : Nat) (hj : 1 ≤ j) (hl : j < l.length) (hm : l.length ≤ 1048576) : impl_swap.f l (j : Int) = some (sw l j) := by
  unfold impl_swap.f
  rw [wrap_of (by omega) (by omega), if_pos (by omega), if_pos (by omega), if_pos (by omega), if_pos (by omega), show ((j : Int) - 1) = ((j - 1 : Nat) : Int) by omega, rd_nat, rd_nat, Int.toNat_natCast, Int.toNat_natCast]
  rfl
theorem first_loop (p : List Int) (hm : p.length ≤ 1048576) : ∀ (d k i : Nat), 1 ≤ i → i + d = p.length ∨ d = 0 ∧ p.length ≤ i → i ≤ 1048577 → d < k → impl_firstCrossing.l0 k p (i : Int) = some ((fd p d i : Nat) : Int) := by
  intro d
  induction d with
  | zero =>
    intro k i hi hd hi2 hk
    obtain ⟨k, rfl⟩ : ∃ m, k = m + 1 := ⟨k - 1, by omega⟩
    simp only [impl_firstCrossing.l0]
    rw [if_neg (by omega)]
    rfl
  | succ d ih =>
    intro k i hi hd hi2 hk
    obtain ⟨k, rfl⟩ : ∃ m, k = m + 1 := ⟨k - 1, by omega⟩
    simp only [impl_firstCrossing.l0, fd]
    rw [wrap_of (x := (i : Int) - 1) (by omega) (by omega), wrap_of (x := (i : Int) + 1) (by omega) (by omega), if_pos (by omega), if_pos (by omega), if_pos (by omega), if_pos (by omega), show ((i : Int) - 1) = ((i - 1 : Nat) : Int) by omega, rd_nat, rd_nat, show ((i : Int) + 1) = ((i + 1 : Nat) : Int) from rfl]
    by_cases c : p.getD i 0 < p.getD (i - 1) 0
    · rw [if_pos c, if_pos c]
    · rw [if_neg c, if_neg c]
      exact ih k (i + 1) (by omega) (by omega) (by omega) (by omega)
theorem first_f (p : List Int) (k : Nat) (hm : p.length ≤ 1048576) (hk : p.length < k) : impl_firstCrossing.f k p = some ((fd p (p.length - 1) 1 : Nat) : Int) := by
  unfold impl_firstCrossing.f
  exact first_loop p hm (p.length - 1) k 1 (by omega) (by omega) (by omega) (by omega)

theorem impl_word (n : Nat) (hn : n ≤ 6) : ∀ (f : Nat) (p : List Int), p.length = n → inv p ≤ f → ∀ (k : Nat) (x : List Int) (s : Int), f + 8 ≤ k → x.length + f ≤ 1000 →
    impl_PermutationBraid.l0 k p ((fd p (p.length - 1) 1 : Nat) : Int) s x = some (s, x ++ word (f + 1) p, 0) := by
  intro f
  induction f with
  | zero =>
    intro p hp hi k x s hk hx
    obtain ⟨k, rfl⟩ : ∃ m, k = m + 1 := ⟨k - 1, by omega⟩
    have h0 : fd p (p.length - 1) 1 = 0 := by
      rcases fd_spec p (p.length - 1) 1 (by omega) with h | ⟨h1, h2, h3⟩
      · exact h
      · have := inv_sw p _ h1 (by omega) h3
        omega
    simp only [impl_PermutationBraid.l0, word]
    rw [h0]
    simp
  | succ f ih =>
    intro p hp hi k x s hk hx
    obtain ⟨k, rfl⟩ : ∃ m, k = m + 1 := ⟨k - 1, by omega⟩
    rcases fd_spec p (p.length - 1) 1 (by omega) with h | ⟨h1, h2, h3⟩
    · simp only [impl_PermutationBraid.l0, word]
      rw [h]
      simp
    · have hs := inv_sw p _ h1 (by omega) h3
      rw [show word (f + 1 + 1) p = if fd p (p.length - 1) 1 = 0 then [] else (fd p (p.length - 1) 1 : Int) :: word (f + 1) (sw p (fd p (p.length - 1) 1)) from rfl]
      simp only [impl_PermutationBraid.l0]
      rw [if_pos (by omega), if_pos (by omega), swap_f p _ h1 (by omega) (by omega)]
      simp only [Option.bind_some]
      rw [first_f _ k (by rw [sw_length]; omega) (by rw [sw_length]; omega)]
      simp only [Option.bind_some]
      rw [ih (sw p (fd p (p.length - 1) 1)) (by rw [sw_length]; exact hp) (by omega) k _ s (by omega) (by simp; omega), if_neg (by omega), List.append_assoc]
      rfl
theorem spec_scan (p : List Int) (hm : p.length ≤ 6) (x : List Int) (hx : x.length ≤ 1000) : ∀ (d k i : Nat), 1 ≤ i → i + d = p.length ∨ d = 0 ∧ p.length ≤ i → i ≤ 7 → d < k →
    (fd p d i = 0 → spec_l32Word.l0 k p x (i : Int) = some x) ∧ (fd p d i ≠ 0 → ∃ k', k ≤ k' + d + 1 ∧ spec_l32Word.l0 k p x (i : Int) = spec_l32Word.l0 k' (sw p (fd p d i)) (x ++ [((fd p d i : Nat) : Int)]) 1) := by
  intro d
  induction d with
  | zero =>
    intro k i hi hd hi2 hk
    obtain ⟨k, rfl⟩ : ∃ m, k = m + 1 := ⟨k - 1, by omega⟩
    refine ⟨fun _ => ?_, fun h => absurd rfl h⟩
    simp only [spec_l32Word.l0]
    rw [if_neg (by omega)]
  | succ d ih =>
    intro k i hi hd hi2 hk
    obtain ⟨k, rfl⟩ : ∃ m, k = m + 1 := ⟨k - 1, by omega⟩
    have e : spec_l32Word.l0 (k + 1) p x (i : Int) = if p.getD i 0 < p.getD (i - 1) 0 then spec_l32Word.l0 k (sw p i) (x ++ [(i : Int)]) 1 else spec_l32Word.l0 k p x ((i + 1 : Nat) : Int) := by
      simp only [spec_l32Word.l0]
      rw [wrap_of (x := (i : Int) - 1) (by omega) (by omega), wrap_of (x := (i : Int) + 1) (by omega) (by omega), if_pos (by omega), if_pos (by omega), if_pos (by omega), if_pos (by omega), show ((i : Int) - 1) = ((i - 1 : Nat) : Int) by omega, rd_nat, rd_nat, show ((i : Int) + 1) = ((i + 1 : Nat) : Int) from rfl]
      by_cases c : p.getD i 0 < p.getD (i - 1) 0
      · rw [if_pos c, if_pos c, if_pos (by omega), start_f p i hi (by omega) (by omega)]
        rfl
      · rw [if_neg c, if_neg c]
    rw [e]
    unfold fd
    by_cases c : p.getD i 0 < p.getD (i - 1) 0
    · rw [if_pos c, if_pos c]
      exact ⟨fun h => by omega, fun _ => ⟨k, by omega, rfl⟩⟩
    · rw [if_neg c, if_neg c]
      obtain ⟨h1, h2⟩ := ih k (i + 1) (by omega) (by omega) (by omega) (by omega)
      refine ⟨h1, fun h => ?_⟩
      obtain ⟨k', hk', he⟩ := h2 h
      exact ⟨k', by omega, he⟩
theorem spec_word (n : Nat) (hn : n ≤ 6) : ∀ (f : Nat) (p : List Int), p.length = n → inv p ≤ f → ∀ (k : Nat) (x : List Int), (f + 1) * 7 < k → x.length + f ≤ 1000 →
    spec_l32Word.l0 k p x 1 = some (x ++ word (f + 1) p) := by
  intro f
  induction f with
  | zero =>
    intro p hp hi k x hk hx
    have h0 : fd p (p.length - 1) 1 = 0 := by
      rcases fd_spec p (p.length - 1) 1 (by omega) with h | ⟨h1, h2, h3⟩
      · exact h
      · have := inv_sw p _ h1 (by omega) h3
        omega
    have := (spec_scan p (by omega) x (by omega) (p.length - 1) k 1 (by omega) (by omega) (by omega) (by omega)).1 h0
    rw [show ((1 : Nat) : Int) = 1 from rfl] at this
    rw [this]
    simp [word, h0]
  | succ f ih =>
    intro p hp hi k x hk hx
    have hsc := spec_scan p (by omega) x (by omega) (p.length - 1) k 1 (by omega) (by omega) (by omega) (by omega)
    rw [show ((1 : Nat) : Int) = 1 from rfl] at hsc
    rw [show word (f + 1 + 1) p = if fd p (p.length - 1) 1 = 0 then [] else (fd p (p.length - 1) 1 : Int) :: word (f + 1) (sw p (fd p (p.length - 1) 1)) from rfl]
    rcases fd_spec p (p.length - 1) 1 (by omega) with h | ⟨h1, h2, h3⟩
    · rw [hsc.1 h, if_pos h]; simp
    · have hs := inv_sw p _ h1 (by omega) h3
      obtain ⟨k', hk', he⟩ := hsc.2 (by omega)
      rw [he, ih (sw p (fd p (p.length - 1) 1)) (by rw [sw_length]; exact hp) (by omega) k' _ (by omega) (by simp; omega), if_neg (by omega), List.append_assoc]
      rfl

def out (l : List Int) : Int × List Int × Int :=
  if (decide (1 ≤ (l.length : Int)) && decide ((l.length : Int) ≤ 6)) = true ∧ chk l.length (List.replicate l.length false) l = true then ((l.length : Int), word (l.length * l.length + 1) l, 0) else (0, [], 1)
theorem out_len (l : List Int) : (out l).2.1.length ≤ 37 := by
  unfold out
  split
  · rename_i h
    have h' : 1 ≤ (l.length : Int) ∧ (l.length : Int) ≤ 6 := by simpa using h.1
    have h6 : l.length ≤ 6 := by omega
    have := word_length (l.length * l.length + 1) l
    have h2 : l.length * l.length ≤ 6 * 6 := Nat.mul_le_mul h6 h6
    simp only
    omega
  · simp
theorem spec_f (k : Nat) (l : List Int) (hk : 1000 + l.length < k) (hl : l.length ≤ 1048576) : spec_PermutationBraid.f k l = some (out l) := by
  unfold spec_PermutationBraid.f out
  rw [in_f]
  simp only [Option.bind_some]
  by_cases h : (decide (1 ≤ (l.length : Int)) && decide ((l.length : Int) ≤ 6)) = true
  · have h' : 1 ≤ (l.length : Int) ∧ (l.length : Int) ≤ 6 := by simpa using h
    have h6 : l.length ≤ 6 := by omega
    have h2 : l.length * l.length ≤ 6 * 6 := Nat.mul_le_mul h6 h6
    rw [if_pos h, sperm_f l k hl (by omega)]
    simp only [Option.bind_some]
    by_cases hc : chk l.length (List.replicate l.length false) l = true
    · rw [if_pos hc, if_pos ⟨h, hc⟩]
      unfold spec_l32Word.f
      rw [spec_word l.length h6 (l.length * l.length) l rfl (inv_le l) k [] (by omega) (by simp; omega)]
      rfl
    · rw [if_neg hc, if_neg (fun q => hc q.2)]
  · rw [if_neg h, if_neg (fun q => h q.1)]
theorem impl_f (k : Nat) (l : List Int) (hk : 1000 + l.length < k) (hl : l.length ≤ 1048576) : impl_PermutationBraid.f k l = some (out l) := by
  obtain ⟨k, rfl⟩ : ∃ m, k = m + 1 := ⟨k - 1, by omega⟩
  have j0 : ∀ q, impl_PermutationBraid.j0 (k + 1) l q = if q = true then (some (0, ([] : List Int), 1)) else ((slices_Clone_int64_int64.f l).bind fun t261 => ((impl_size_int64.f l).bind fun t264 => ((impl_firstCrossing.f k t261).bind fun t266 => (impl_PermutationBraid.l0 k t261 t266 t264 ([] : List Int))))) := fun q => rfl
  unfold impl_PermutationBraid.f out
  simp only [impl_size_int64.f, Option.bind_some, range_f, j0]
  by_cases h : (decide (1 ≤ (l.length : Int)) && decide ((l.length : Int) ≤ 6)) = true
  · have h' : 1 ≤ (l.length : Int) ∧ (l.length : Int) ≤ 6 := by simpa using h
    have h6 : l.length ≤ 6 := by omega
    have h2 : l.length * l.length ≤ 6 * 6 := Nat.mul_le_mul h6 h6
    rw [if_pos h, iperm_f l _ hl (by omega)]
    simp only [Option.bind_some]
    by_cases hc : chk l.length (List.replicate l.length false) l = true
    · rw [hc, if_neg (by simp), if_pos ⟨h, rfl⟩, clone_f l (by omega)]
      simp only [Option.bind_some]
      rw [first_f l k (by omega) (by omega)]
      simp only [Option.bind_some]
      rw [impl_word l.length h6 (l.length * l.length) l rfl (inv_le l) k [] _ (by omega) (by simp; omega)]
      rfl
    · rw [Bool.eq_false_iff.2 hc]
      simp
  · rw [if_neg h, if_pos trivial, if_neg (fun q => h q.1)]
end Go.Proofs.Yteeahaikelpkpaa.Perm

/- The permutation of a braid: what the program's and the reference's function come to. -/
namespace Go.Proofs.Yteeahaikelpkpaa.BPerm
open Go.RowKit Go.Proofs.Yteeahaikelpkpaa.PB Go.Proofs.YteeahaikelpkpaaW.PrintWords Go.Proofs.YteeahaikelpkpaaW.PrintLast Go.Proofs.Yteeahaikelpkpaa.Base Go.Proofs.Yteeahaikelpkpaa.BaseB Go.Proofs.Yteeahaikelpkpaa.Sorts
set_option linter.unusedVariables false
set_option linter.unusedSimpArgs false
def ab (x : Int) : Int := if x < 0 then -x else x
theorem sabs_f (x : Int) (h0 : -100 ≤ x) (h1 : x ≤ 100) : spec_l32Abs.f x = some (ab x) := by
  unfold spec_l32Abs.f ab
  rw [wrap_of (by omega) (by omega)]
  unfold mx
  by_cases h : x < 0
  · rw [if_pos h, if_pos (by omega)]
  · rw [if_neg h]
    by_cases h2 : x < -x
    · omega
    · rw [if_neg h2]
theorem iabs_f (x : Int) (h0 : -100 ≤ x) (h1 : x ≤ 100) : impl_abs.f x = some (ab x) := by
  unfold impl_abs.f ab
  rw [wrap_of (by omega) (by omega)]
  by_cases h : x < 0
  · rw [if_pos h, if_pos h]
  · rw [if_neg h, if_neg h]
/-- 0, 1, .., n - 1 -/
def idl (n : Nat) : List Int := (List.range n).map (fun i : Nat => (i : Int))
theorem idl_length (n : Nat) : (idl n).length = n := by simp [idl]
theorem idl_succ (n : Nat) : idl (n + 1) = idl n ++ [(n : Int)] := by simp [idl, List.range_succ]
theorem idl_get (n i : Nat) (h : i < n) : (idl n).getD i 0 = i := by simp [idl, List.getD_eq_getElem?_getD, h]
theorem sid_loop (n : Nat) (hn : n ≤ 1000) : ∀ (d k i : Nat), i ≤ n → n - i = d → d < k → spec_l32Identity.l0 k (n : Int) (idl i) (i : Int) = some (idl n) := by
  intro d
  induction d with
  | zero =>
    intro k i hi hd hk
    obtain ⟨k, rfl⟩ : ∃ m, k = m + 1 := ⟨k - 1, by omega⟩
    simp only [spec_l32Identity.l0]
    rw [if_neg (by omega), show i = n by omega]
  | succ d ih =>
    intro k i hi hd hk
    obtain ⟨k, rfl⟩ : ∃ m, k = m + 1 := ⟨k - 1, by omega⟩
    simp only [spec_l32Identity.l0]
    rw [if_pos (by omega), if_pos (by rw [idl_length]; omega), wrap_of (by omega) (by omega), show ((i : Int) + 1) = ((i + 1 : Nat) : Int) from rfl, ← idl_succ]
    exact ih k (i + 1) (by omega) (by omega) (by omega)
theorem cnt_loop (n : Nat) (hn : n ≤ 1000) : ∀ (d k i : Nat), i ≤ n → n - i = d → d < k → impl_counting.l0 k (idl i) (n : Int) (i : Int) = some (idl n) := by
  intro d
  induction d with
  | zero =>
    intro k i hi hd hk
    obtain ⟨k, rfl⟩ : ∃ m, k = m + 1 := ⟨k - 1, by omega⟩
    simp only [impl_counting.l0]
    rw [if_neg (by omega), show i = n by omega]
  | succ d ih =>
    intro k i hi hd hk
    obtain ⟨k, rfl⟩ : ∃ m, k = m + 1 := ⟨k - 1, by omega⟩
    simp only [impl_counting.l0]
    rw [if_pos (by omega), if_pos (by rw [idl_length]; omega), wrap_of (by omega) (by omega), show ((i : Int) + 1) = ((i + 1 : Nat) : Int) from rfl, ← idl_succ]
    exact ih k (i + 1) (by omega) (by omega) (by omega)
/-- The exchange of two neighboring numbers. -/
def sg (j : Int) (v : Int) : Int := if v = j - 1 then j else if v = j then j - 1 else v
theorem end_loop (p : List Int) (j : Int) (h0 : -100 ≤ j) (h1 : j ≤ 100) (hl : p.length ≤ 1000) : ∀ (d k i : Nat) (x : List Int), i ≤ p.length → p.length - i = d → d < k → x.length = i →
    spec_l32End.l0 k p j x (i : Int) = some (x ++ (p.drop i).map (sg j)) := by
  intro d
  induction d with
  | zero =>
    intro k i x hi hd hk hx
    obtain ⟨k, rfl⟩ : ∃ m, k = m + 1 := ⟨k - 1, by omega⟩
    simp only [spec_l32End.l0]
    rw [if_neg (by omega), List.drop_of_length_le (by omega)]
    simp
  | succ d ih =>
    intro k i x hi hd hk hx
    obtain ⟨k, rfl⟩ : ∃ m, k = m + 1 := ⟨k - 1, by omega⟩
    simp only [spec_l32End.l0]
    rw [if_pos (by omega), if_pos (by omega), rd_lt p i (by omega), wrap_of (x := j - 1) (by omega) (by omega), wrap_of (x := (i : Int) + 1) (by omega) (by omega), show ((i : Int) + 1) = ((i + 1 : Nat) : Int) from rfl]
    rw [List.drop_eq_getElem_cons (by omega : i < p.length), List.map_cons]
    unfold sg
    by_cases e1 : p[i] = j - 1
    · rw [if_pos e1, if_pos (by omega), ih k (i + 1) _ (by omega) (by omega) (by omega) (by simp [hx]), if_pos e1, List.append_assoc]
      rfl
    · rw [if_neg e1, if_neg e1]
      by_cases e2 : p[i] = j
      · rw [if_pos e2, if_pos (by omega), ih k (i + 1) _ (by omega) (by omega) (by omega) (by simp [hx]), if_pos e2, List.append_assoc]
        rfl
      · rw [if_neg e2, if_pos (by omega), ih k (i + 1) _ (by omega) (by omega) (by omega) (by simp [hx]), if_neg e2, List.append_assoc]
        rfl
theorem end_f (p : List Int) (j : Int) (k : Nat) (h0 : -100 ≤ j) (h1 : j ≤ 100) (hl : p.length ≤ 1000) (hk : p.length < k) : spec_l32End.f k p j = some (p.map (sg j)) := by
  unfold spec_l32End.f
  have := end_loop p j h0 h1 hl p.length k 0 [] (by omega) (by omega) hk rfl
  rwa [show ((0 : Nat) : Int) = 0 from rfl, List.drop_zero, List.nil_append] at this

/-- One list of n numbers is the inverse of another one. -/
structure Inv (n : Nat) (at_ p : List Int) : Prop where
  la : at_.length = n
  lp : p.length = n
  a0 : ∀ j, j < n → 0 ≤ at_.getD j 0 ∧ at_.getD j 0 < n
  ap : ∀ j, j < n → p.getD (at_.getD j 0).toNat 0 = j
  p0 : ∀ v, v < n → 0 ≤ p.getD v 0 ∧ p.getD v 0 < n
  pa : ∀ v, v < n → at_.getD (p.getD v 0).toNat 0 = v
theorem inv_id (n : Nat) : Inv n (idl n) (idl n) := by
  refine ⟨idl_length n, idl_length n, fun j hj => ?_, fun j hj => ?_, fun v hv => ?_, fun v hv => ?_⟩
  · rw [idl_get n j hj]; omega
  · rw [idl_get n j hj, Int.toNat_natCast, idl_get n j hj]
  · rw [idl_get n v hv]; omega
  · rw [idl_get n v hv, Int.toNat_natCast, idl_get n v hv]
theorem sw_get (l : List Int) (j i : Nat) (hj : 1 ≤ j) (hl : j < l.length) (hi : i < l.length) : (sw l j).getD i 0 = if i = j then l.getD (j - 1) 0 else if i = j - 1 then l.getD j 0 else l.getD i 0 := by
  unfold sw
  simp only [List.getD_eq_getElem?_getD, List.getElem?_set, List.length_set]
  by_cases h1 : j = i
  · subst h1
    rw [if_pos rfl, if_pos hl, if_pos (show j = j from rfl)]
    rfl
  · have h1' : ¬ i = j := fun h => h1 h.symm
    by_cases h2 : j - 1 = i
    · have h2' : i = j - 1 := h2.symm
      rw [if_neg h1, if_pos h2, if_pos (by omega), if_neg h1', if_pos h2']
      rfl
    · have h2' : ¬ i = j - 1 := fun h => h2 h.symm
      rw [if_neg h1, if_neg h2, if_neg h1', if_neg h2']
theorem map_get (f : Int → Int) (l : List Int) (i : Nat) (hi : i < l.length) : (l.map f).getD i 0 = f (l.getD i 0) := by
  simp [List.getD_eq_getElem?_getD, List.getElem?_eq_getElem hi]
theorem inv_step {n : Nat} {at_ p : List Int} (h : Inv n at_ p) (j : Nat) (hj : 1 ≤ j) (hn : j < n) : Inv n (sw at_ j) (p.map (sg j)) := by
  have hla := h.la
  have hlp := h.lp
  refine ⟨by rw [sw_length]; exact hla, by rw [List.length_map]; exact hlp, fun i hi => ?_, fun i hi => ?_, fun v hv => ?_, fun v hv => ?_⟩
  · rw [sw_get at_ j i hj (by omega) (by omega)]
    have h1 := h.a0 (j - 1) (by omega)
    have h2 := h.a0 j hn
    have h3 := h.a0 i hi
    split
    · exact h1
    · split
      · exact h2
      · exact h3
  · rw [sw_get at_ j i hj (by omega) (by omega)]
    have q : ∀ m, m < n → (p.map (sg j)).getD (at_.getD m 0).toNat 0 = sg j m := fun m hm => by
      have := h.a0 m hm
      rw [map_get _ _ _ (by omega), h.ap m hm]
    by_cases e1 : i = j
    · rw [if_pos e1, q (j - 1) (by omega)]; unfold sg; rw [if_pos (by omega)]; omega
    · rw [if_neg e1]
      by_cases e2 : i = j - 1
      · rw [if_pos e2, q j hn]; unfold sg; rw [if_neg (by omega), if_pos rfl]; omega
      · rw [if_neg e2, q i hi]; unfold sg; rw [if_neg (by omega), if_neg (by omega)]
  · rw [map_get _ _ _ (by omega)]
    have := h.p0 v hv
    unfold sg
    split
    · omega
    · split
      · omega
      · exact this
  · rw [map_get _ _ _ (by omega)]
    have h0 := h.p0 v hv
    have h1 := h.pa v hv
    unfold sg
    by_cases e1 : p.getD v 0 = (j : Int) - 1
    · rw [if_pos e1, Int.toNat_natCast, sw_get at_ j j hj (by omega) (by omega), if_pos rfl, ← h1, e1, show ((j : Int) - 1).toNat = j - 1 by omega]
    · rw [if_neg e1]
      by_cases e2 : p.getD v 0 = (j : Int)
      · rw [if_pos e2, show ((j : Int) - 1).toNat = j - 1 by omega, sw_get at_ j (j - 1) hj (by omega) (by omega), if_neg (by omega), if_pos rfl, ← h1, e2, Int.toNat_natCast]
      · rw [if_neg e2, sw_get at_ j _ hj (by omega) (by omega), if_neg (by omega), if_neg (by omega), h1]

theorem ip_loop {n : Nat} (hn : n ≤ 1000) {at_ p : List Int} (h : Inv n at_ p) : ∀ (d k i : Nat) (x : List Int), i ≤ n → n - i = d → d < k → x.length = n → (∀ m, m < i → x.getD (at_.getD m 0).toNat 0 = m) →
    impl_inversePermutation.l0 k x at_ (at_.length : Int) (i : Int) = some p := by
  have hla := h.la
  intro d
  induction d with
  | zero =>
    intro k i x hi hd hk hx hm
    obtain ⟨k, rfl⟩ : ∃ m, k = m + 1 := ⟨k - 1, by omega⟩
    simp only [impl_inversePermutation.l0]
    rw [if_neg (by omega)]
    congr 1
    apply List.ext_getElem (by rw [hx, h.lp])
    intro v hv1 hv2
    have hv : v < n := by omega
    have g0 := h.p0 v hv
    have g1 := h.pa v hv
    have g2 := hm (p.getD v 0).toNat (by omega)
    rw [g1, Int.toNat_natCast] at g2
    have e1 : x.getD v 0 = x[v] := by simp [List.getD_eq_getElem?_getD, List.getElem?_eq_getElem hv1]
    have e2 : p.getD v 0 = p[v] := by simp [List.getD_eq_getElem?_getD, List.getElem?_eq_getElem hv2]
    rw [← e1, ← e2, g2]
    omega
  | succ d ih =>
    intro k i x hi hd hk hx hm
    obtain ⟨k, rfl⟩ : ∃ m, k = m + 1 := ⟨k - 1, by omega⟩
    have g0 := h.a0 i (by omega)
    simp only [impl_inversePermutation.l0]
    rw [if_pos (by omega), if_pos (by omega), if_pos (by omega), rd_nat, if_pos g0.1, if_pos (by omega), wrap_of (by omega) (by omega), show ((i : Int) + 1) = ((i + 1 : Nat) : Int) from rfl]
    refine ih k (i + 1) _ (by omega) (by omega) (by omega) (by simpa using hx) fun m hm2 => ?_
    have q0 := h.a0 m (by omega)
    rw [List.getD_eq_getElem?_getD, List.getElem?_set]
    by_cases e : (at_.getD i 0).toNat = (at_.getD m 0).toNat
    · have e' : at_.getD i 0 = at_.getD m 0 := by omega
      have : (i : Int) = m := by rw [← h.ap i (by omega), ← h.ap m (by omega), e']
      rw [if_pos e, if_pos (by omega)]
      simp
      omega
    · rw [if_neg e, ← List.getD_eq_getElem?_getD]
      refine hm m ?_
      have : m ≠ i := fun q => e (by rw [q])
      omega
theorem ip_f {n : Nat} (hn : n ≤ 1000) {at_ p : List Int} (h : Inv n at_ p) (k : Nat) (hk : n < k) : impl_inversePermutation.f k at_ = some p := by
  have hla := h.la
  unfold impl_inversePermutation.f
  rw [if_pos (by omega), if_pos (by omega), Int.toNat_natCast]
  have := ip_loop hn h n k 0 (List.replicate at_.length 0) (by omega) (by omega) hk (by simpa using hla) (fun m hm => absurd hm (by omega))
  rwa [show ((0 : Nat) : Int) = 0 from rfl] at this

def step (p : List Int) (x : Int) : List Int := p.map (sg (ab x))
theorem spec_loop (a : Int) (l : List Int) (hl : l.length ≤ 24) (hw : ∀ x ∈ l, -6 ≤ x ∧ x ≤ 6) : ∀ (d k i : Nat) (p : List Int), p.length ≤ 6 → i ≤ l.length → l.length - i = d → d + 7 < k →
    spec_BraidPermutation.l0 k p (i : Int) a l = some ((l.drop i).foldl step p) := by
  intro d
  induction d with
  | zero =>
    intro k i p hp hi hd hk
    obtain ⟨k, rfl⟩ : ∃ m, k = m + 1 := ⟨k - 1, by omega⟩
    simp only [spec_BraidPermutation.l0]
    rw [if_neg (by omega), List.drop_of_length_le (by omega)]
    rfl
  | succ d ih =>
    intro k i p hp hi hd hk
    obtain ⟨k, rfl⟩ : ∃ m, k = m + 1 := ⟨k - 1, by omega⟩
    have hx := hw l[i] (List.getElem_mem _)
    have ha : -6 ≤ ab l[i] ∧ ab l[i] ≤ 6 := by unfold ab; split <;> omega
    simp only [spec_BraidPermutation.l0]
    rw [if_pos (by omega), if_pos (by omega), rd_lt l i (by omega), sabs_f _ (by omega) (by omega), wrap_of (x := (i : Int) + 1) (by omega) (by omega), show ((i : Int) + 1) = ((i + 1 : Nat) : Int) from rfl]
    simp only [Option.bind_some]
    rw [end_f p _ k (by omega) (by omega) (by omega) (by omega)]
    simp only [Option.bind_some]
    rw [ih k (i + 1) _ (by rw [List.length_map]; exact hp) (by omega) (by omega) (by omega), List.drop_eq_getElem_cons (by omega : i < l.length), List.foldl_cons]
    rfl
theorem impl_loop (n : Nat) (hn : n ≤ 6) (l : List Int) (hl : l.length ≤ 24) (hw : ∀ x ∈ l, x ≠ 0 ∧ 1 - (n : Int) ≤ x ∧ x ≤ (n : Int) - 1) : ∀ (d k i : Nat) (at_ p : List Int), Inv n at_ p → i ≤ l.length → l.length - i = d → d + 7 < k →
    impl_BraidPermutation.l0 k at_ l (l.length : Int) (i : Int) = some ((l.drop i).foldl step p) := by
  intro d
  induction d with
  | zero =>
    intro k i at_ p h hi hd hk
    obtain ⟨k, rfl⟩ : ∃ m, k = m + 1 := ⟨k - 1, by omega⟩
    simp only [impl_BraidPermutation.l0]
    rw [if_neg (by omega), List.drop_of_length_le (by omega), ip_f (by omega) h k (by omega)]
    rfl
  | succ d ih =>
    intro k i at_ p h hi hd hk
    obtain ⟨k, rfl⟩ : ∃ m, k = m + 1 := ⟨k - 1, by omega⟩
    have hx := hw l[i] (List.getElem_mem _)
    obtain ⟨j, hj⟩ : ∃ j : Nat, ab l[i] = j := ⟨(ab l[i]).toNat, by unfold ab; split <;> omega⟩
    have hj1 : 1 ≤ j ∧ j < n := by
      have : 1 ≤ ab l[i] ∧ ab l[i] < n := by unfold ab; split <;> omega
      omega
    have hla := h.la
    simp only [impl_BraidPermutation.l0]
    rw [if_pos (by omega), if_pos (by omega), if_pos (by omega), rd_lt l i (by omega), iabs_f _ (by omega) (by omega), wrap_of (x := (i : Int) + 1) (by omega) (by omega), show ((i : Int) + 1) = ((i + 1 : Nat) : Int) from rfl]
    simp only [Option.bind_some]
    rw [hj, Perm.swap_f at_ j hj1.1 (by omega) (by omega)]
    simp only [Option.bind_some]
    rw [ih k (i + 1) _ _ (inv_step h j hj1.1 hj1.2) (by omega) (by omega) (by omega), List.drop_eq_getElem_cons (by omega : i < l.length), List.foldl_cons]
    unfold step
    rw [hj]
def out (a : Int) (l : List Int) : List Int := if impl_isBraid.b a l = true then l.foldl step (idl a.toNat) else []
theorem fold_len (l : List Int) : ∀ p, (l.foldl step p).length = p.length := by
  induction l with
  | nil => intro p; rfl
  | cons x l ih => intro p; rw [List.foldl_cons, ih]; simp [step]
theorem out_len (a : Int) (l : List Int) : (out a l).length ≤ 6 := by
  unfold out
  split
  · rename_i h
    have g := good_of h
    have := g.hi
    rw [fold_len, idl_length]; omega
  · simp
theorem spec_f (k : Nat) (a : Int) (l : List Int) (hk : 50 < k) (hl : l.length ≤ maxLen) : spec_BraidPermutation.f k a l = some (out a l) := by
  unfold spec_BraidPermutation.f out
  rw [valid k a l (by omega) hl]
  simp only [Option.bind_some]
  by_cases h : impl_isBraid.b a l = true
  · have g := good_of h
    have g1 := g.lo
    have g2 := g.hi
    have g3 := g.len
    rw [if_pos h, if_pos h]
    unfold spec_l32Identity.f
    obtain ⟨n, rfl⟩ := Int.eq_ofNat_of_zero_le (by omega : 0 ≤ a)
    have h1 := sid_loop n (by omega) n k 0 (by omega) (by omega) (by omega)
    have e0 : idl 0 = [] := rfl
    rw [show ((0 : Nat) : Int) = 0 from rfl, e0] at h1
    rw [h1]
    simp only [Option.bind_some]
    have h2 := spec_loop n l g3 (fun x hx => by have := g.letter x hx; omega) l.length k 0 (idl n) (by rw [idl_length]; omega) (by omega) (by omega) (by omega)
    rw [show ((0 : Nat) : Int) = 0 from rfl, List.drop_zero] at h2
    rw [h2, Int.toNat_natCast]
  · rw [if_neg h, if_neg h]
theorem impl_f (k : Nat) (a : Int) (l : List Int) (hk : 50 < k) : impl_BraidPermutation.f k a l = some (out a l) := by
  unfold impl_BraidPermutation.f out
  rw [isB]
  simp only [Option.bind_some]
  by_cases h : impl_isBraid.b a l = true
  · have g := good_of h
    have g1 := g.lo
    have g2 := g.hi
    have g3 := g.len
    rw [if_pos h, if_pos h]
    unfold impl_counting.f
    obtain ⟨n, rfl⟩ := Int.eq_ofNat_of_zero_le (by omega : 0 ≤ a)
    have h1 := cnt_loop n (by omega) n k 0 (by omega) (by omega) (by omega)
    have e0 : idl 0 = [] := rfl
    rw [show ((0 : Nat) : Int) = 0 from rfl, e0] at h1
    rw [h1]
    simp only [Option.bind_some]
    have h2 := impl_loop n (by omega) l g3 g.letter l.length k 0 (idl n) (idl n) (inv_id n) (by omega) (by omega) (by omega)
    rw [show ((0 : Nat) : Int) = 0 from rfl, List.drop_zero] at h2
    rw [h2, Int.toNat_natCast]
  · rw [if_neg h, if_neg h]
end Go.Proofs.Yteeahaikelpkpaa.BPerm

/- The word of a permutation: it has one letter for each inversion, and its braid has this permutation. -/
namespace Go.Proofs.Yteeahaikelpkpaa.WordMath
open Go.RowKit Go.Proofs.Yteeahaikelpkpaa.PB Go.Proofs.YteeahaikelpkpaaW.PrintWords Go.Proofs.Yteeahaikelpkpaa.Base Go.Proofs.Yteeahaikelpkpaa.BaseB Go.Proofs.Yteeahaikelpkpaa.Sorts Go.Proofs.Yteeahaikelpkpaa.BPerm
set_option linter.unusedVariables false
set_option linter.unusedSimpArgs false

/-- A permutation of 0, .., n - 1, by its list. -/
structure IsP (n : Nat) (p : List Int) : Prop where
  len : p.length = n
  rng : ∀ i, i < n → 0 ≤ p.getD i 0 ∧ p.getD i 0 < n
  inj : ∀ i j, i < n → j < n → p.getD i 0 = p.getD j 0 → i = j

theorem chk_sound (n : Nat) : ∀ (l : List Int) (s : List Bool), s.length = n → chk n s l = true →
    (∀ i, i < l.length → 0 ≤ l.getD i 0 ∧ l.getD i 0 < n ∧ s.getD (l.getD i 0).toNat false = false) ∧ (∀ i j, i < l.length → j < l.length → l.getD i 0 = l.getD j 0 → i = j)
  | [], s, _, _ => ⟨fun i h => absurd h (by simp), fun i j h => absurd h (by simp)⟩
  | x :: l, s, hs, h => by
    simp only [chk, Bool.and_eq_true, decide_eq_true_eq, Bool.not_eq_true'] at h
    obtain ⟨⟨h0, h1⟩, h2, h3⟩ := h
    obtain ⟨r, q⟩ := chk_sound n l (s.set x.toNat true) (by simpa using hs) h3
    have hne : ∀ i, i < l.length → l.getD i 0 ≠ x := fun i hi he => by
      obtain ⟨_, _, r3⟩ := r i hi
      rw [he, List.getD_eq_getElem?_getD, List.getElem?_set, if_pos rfl, if_pos (by omega)] at r3
      cases r3
    refine ⟨fun i hi => ?_, fun i j hi hj he => ?_⟩
    · cases i with
      | zero => exact ⟨h0, by simp only [List.getD_cons_zero]; omega, h2⟩
      | succ i =>
        have hi' : i < l.length := by simpa using hi
        obtain ⟨r1, r2, r3⟩ := r i hi'
        rw [List.getD_cons_succ]
        refine ⟨r1, r2, ?_⟩
        have hx : x.toNat ≠ (l.getD i 0).toNat := fun e => hne i hi' (by omega)
        rw [List.getD_eq_getElem?_getD, List.getElem?_set, if_neg hx, ← List.getD_eq_getElem?_getD] at r3
        exact r3
    · cases i with
      | zero =>
        cases j with
        | zero => rfl
        | succ j =>
          rw [List.getD_cons_zero, List.getD_cons_succ] at he
          exact absurd he.symm (hne j (by simpa using hj))
      | succ i =>
        cases j with
        | zero =>
          rw [List.getD_cons_zero, List.getD_cons_succ] at he
          exact absurd he (hne i (by simpa using hi))
        | succ j =>
          rw [List.getD_cons_succ, List.getD_cons_succ] at he
          rw [q i j (by simpa using hi) (by simpa using hj) he]
theorem isP_of_chk (l : List Int) (h : chk l.length (List.replicate l.length false) l = true) : IsP l.length l := by
  obtain ⟨r, q⟩ := chk_sound l.length l _ (by simp) h
  exact ⟨rfl, fun i hi => ⟨(r i hi).1, (r i hi).2.1⟩, q⟩
theorem isP_sw {n : Nat} {p : List Int} (h : IsP n p) (j : Nat) (h1 : 1 ≤ j) (h2 : j < n) : IsP n (sw p j) := by
  have hl := h.len
  have g : ∀ i, i < n → ∃ m, m < n ∧ (sw p j).getD i 0 = p.getD m 0 ∧ m = (if i = j then j - 1 else if i = j - 1 then j else i) := fun i hi => by
    rw [sw_get p j i h1 (by omega) (by omega)]
    by_cases e1 : i = j
    · exact ⟨j - 1, by omega, by rw [if_pos e1], by rw [if_pos e1]⟩
    · by_cases e2 : i = j - 1
      · exact ⟨j, h2, by rw [if_neg e1, if_pos e2], by rw [if_neg e1, if_pos e2]⟩
      · exact ⟨i, hi, by rw [if_neg e1, if_neg e2], by rw [if_neg e1, if_neg e2]⟩
  refine ⟨by rw [sw_length]; exact hl, fun i hi => ?_, fun i k hi hk he => ?_⟩
  · obtain ⟨m, hm, e, _⟩ := g i hi
    rw [e]
    exact h.rng m hm
  · obtain ⟨m, hm, e, em⟩ := g i hi
    obtain ⟨m', hm', e', em'⟩ := g k hk
    rw [e, e'] at he
    have := h.inj m m' hm hm' he
    split at em <;> split at em' <;> (try split at em) <;> (try split at em') <;> omega
theorem fd_zero (p : List Int) : ∀ (d i : Nat), 1 ≤ i → fd p d i = 0 → ∀ m, i ≤ m → m < i + d → ¬ p.getD m 0 < p.getD (m - 1) 0
  | 0, i, _, _, m, h1, h2 => by omega
  | d + 1, i, hi, h, m, h1, h2 => by
    unfold fd at h
    by_cases c : p.getD i 0 < p.getD (i - 1) 0
    · rw [if_pos c] at h; omega
    · rw [if_neg c] at h
      by_cases e : m = i
      · rw [e]; exact c
      · exact fd_zero p d (i + 1) (by omega) h m (by omega) (by omega)
theorem ident {n : Nat} {p : List Int} (h : IsP n p) (h0 : fd p (p.length - 1) 1 = 0) : p = idl n := by
  have hl := h.len
  have up : ∀ m, m + 1 < n → p.getD m 0 < p.getD (m + 1) 0 := fun m hm => by
    have h1 := fd_zero p (p.length - 1) 1 (by omega) h0 (m + 1) (by omega) (by omega)
    rw [Nat.add_sub_cancel] at h1
    have h2 : p.getD m 0 ≠ p.getD (m + 1) 0 := fun e => by have := h.inj m (m + 1) (by omega) hm e; omega
    omega
  have low : ∀ m, m < n → (m : Int) ≤ p.getD m 0 := by
    intro m
    induction m with
    | zero => intro hm; exact (h.rng 0 hm).1
    | succ m ih =>
      intro hm
      have := ih (by omega)
      have := up m hm
      omega
  have high : ∀ d m, m < n → n - 1 - m = d → p.getD m 0 ≤ m := by
    intro d
    induction d with
    | zero =>
      intro m hm hd
      have := (h.rng m hm).2
      omega
    | succ d ih =>
      intro m hm hd
      have := ih (m + 1) (by omega) (by omega)
      have := up m (by omega)
      omega
  apply List.ext_getElem (by rw [hl, idl_length])
  intro i h1 h2
  have hi : i < n := by omega
  have e1 : p.getD i 0 = p[i] := by simp [List.getD_eq_getElem?_getD, List.getElem?_eq_getElem h1]
  have e2 : (idl n).getD i 0 = (idl n)[i] := by simp [List.getD_eq_getElem?_getD, List.getElem?_eq_getElem h2]
  rw [← e1, ← e2, idl_get n i hi]
  have := low i hi
  have := high _ i hi rfl
  omega
/-- Where the letters of a word lead a number. -/
def comp (v : Int) (w : List Int) : Int := w.foldl (fun v c => sg (ab c) v) v
theorem fold_map (w : List Int) : ∀ x : List Int, w.foldl BPerm.step x = x.map fun v => comp v w := by
  induction w with
  | nil => intro x; simp [comp]
  | cons c w ih =>
    intro x
    rw [List.foldl_cons, ih]
    unfold BPerm.step
    rw [List.map_map]
    rfl
theorem ab_nat (i : Nat) : ab (i : Int) = i := by unfold ab; rw [if_neg (by omega)]
theorem word_comp {n : Nat} : ∀ (f : Nat) (p : List Int), IsP n p → inv p ≤ f → ∀ v, v < n → comp (v : Int) (word (f + 1) p) = p.getD v 0 := by
  intro f
  induction f with
  | zero =>
    intro p hp hi v hv
    have hl := hp.len
    have h0 : fd p (p.length - 1) 1 = 0 := by
      rcases fd_spec p (p.length - 1) 1 (by omega) with h | ⟨h1, h2, h3⟩
      · exact h
      · have := inv_sw p _ h1 (by omega) h3
        omega
    rw [show word (0 + 1) p = [] from by simp [word, h0]]
    rw [ident hp h0, idl_get n v hv]
    rfl
  | succ f ih =>
    intro p hp hi v hv
    have hl := hp.len
    rw [show word (f + 1 + 1) p = if fd p (p.length - 1) 1 = 0 then [] else (fd p (p.length - 1) 1 : Int) :: word (f + 1) (sw p (fd p (p.length - 1) 1)) from rfl]
    rcases fd_spec p (p.length - 1) 1 (by omega) with h | ⟨h1, h2, h3⟩
    · rw [if_pos h, ident hp h, idl_get n v hv]
      rfl
    · have hs := inv_sw p _ h1 (by omega) h3
      rw [if_neg (by omega)]
      generalize hj : fd p (p.length - 1) 1 = j at *
      have ihs := ih (sw p j) (isP_sw hp j h1 (by omega)) (by omega)
      show comp (sg (ab (j : Int)) (v : Int)) (word (f + 1) (sw p j)) = _
      rw [ab_nat]
      unfold sg
      by_cases e1 : (v : Int) = (j : Int) - 1
      · rw [if_pos e1, ihs j (by omega), sw_get p j j h1 (by omega) (by omega), if_pos rfl, show j - 1 = v by omega]
      · rw [if_neg e1]
        by_cases e2 : (v : Int) = (j : Int)
        · rw [if_pos e2, show ((j : Int) - 1) = ((j - 1 : Nat) : Int) by omega, ihs (j - 1) (by omega), sw_get p j (j - 1) h1 (by omega) (by omega), if_neg (by omega), if_pos rfl, show v = j by omega]
        · rw [if_neg e2, ihs v hv, sw_get p j v h1 (by omega) (by omega), if_neg (by omega), if_neg (by omega)]
theorem word_perm {n : Nat} (f : Nat) (p : List Int) (hp : IsP n p) (hi : inv p ≤ f) : (word (f + 1) p).foldl BPerm.step (idl n) = p := by
  have hl := hp.len
  rw [fold_map]
  apply List.ext_getElem (by rw [List.length_map, idl_length, hl])
  intro i h1 h2
  have hin : i < n := by omega
  have e2 : p.getD i 0 = p[i] := by simp [List.getD_eq_getElem?_getD, List.getElem?_eq_getElem h2]
  have e3 : (idl n)[i]'(by rw [idl_length]; exact hin) = (i : Int) := by
    have := idl_get n i hin
    rw [List.getD_eq_getElem?_getD, List.getElem?_eq_getElem (by rw [idl_length]; exact hin)] at this
    simpa using this
  rw [List.getElem_map, e3, word_comp f p hp hi i hin, e2]
theorem word_len : ∀ (f : Nat) (p : List Int), inv p ≤ f → (word (f + 1) p).length = inv p ∧ ∀ c ∈ word (f + 1) p, 1 ≤ c ∧ c < p.length := by
  intro f
  induction f with
  | zero =>
    intro p hi
    have h0 : fd p (p.length - 1) 1 = 0 := by
      rcases fd_spec p (p.length - 1) 1 (by omega) with h | ⟨h1, h2, h3⟩
      · exact h
      · have := inv_sw p _ h1 (by omega) h3
        omega
    rw [show word (0 + 1) p = [] from by simp [word, h0]]
    exact ⟨by simp; omega, fun c hc => by simp at hc⟩
  | succ f ih =>
    intro p hi
    rw [show word (f + 1 + 1) p = if fd p (p.length - 1) 1 = 0 then [] else (fd p (p.length - 1) 1 : Int) :: word (f + 1) (sw p (fd p (p.length - 1) 1)) from rfl]
    rcases fd_spec p (p.length - 1) 1 (by omega) with h | ⟨h1, h2, h3⟩
    · rw [if_pos h]
      refine ⟨?_, fun c hc => by simp at hc⟩
      have hz := fd_zero p (p.length - 1) 1 (by omega) h
      have : ∀ (q : List Int), (∀ m, 1 ≤ m → m < q.length → ¬ q.getD m 0 < q.getD (m - 1) 0) → inv q = 0 := by
        intro q
        induction q with
        | nil => intro _; rfl
        | cons a q ihq =>
          intro hq
          have hq2 : inv q = 0 := ihq fun m hm1 hm2 => by
            have := hq (m + 1) (by omega) (by simpa using hm2)
            obtain ⟨m, rfl⟩ : ∃ k, m = k + 1 := ⟨m - 1, by omega⟩
            simpa using this
          have hc : ∀ i, i < q.length → a ≤ q.getD i 0 := by
            intro i
            induction i with
            | zero =>
              intro hi0
              have := hq 1 (by omega) (by simpa using hi0)
              simp only [List.getD_cons_succ, Nat.sub_self, List.getD_cons_zero] at this
              omega
            | succ i ihi =>
              intro hi1
              have h4 := ihi (by omega)
              have := hq (i + 2) (by omega) (by rw [List.length_cons]; omega)
              rw [List.getD_cons_succ, show i + 2 - 1 = i + 1 by omega, List.getD_cons_succ] at this
              omega
          have hc2 : cnt a q = 0 := by
            unfold cnt
            rw [List.length_eq_zero_iff, List.filter_eq_nil_iff]
            intro x hx
            obtain ⟨i, hi1, rfl⟩ := List.getElem_of_mem hx
            have := hc i hi1
            simp only [List.getD_eq_getElem?_getD, List.getElem?_eq_getElem hi1, Option.getD_some] at this
            simp
            omega
          simp [inv, hc2, hq2]
      rw [this p fun m hm1 hm2 => hz m hm1 (by omega)]
      rfl
    · have hs := inv_sw p _ h1 (by omega) h3
      rw [if_neg (by omega)]
      obtain ⟨i1, i2⟩ := ih (sw p (fd p (p.length - 1) 1)) (by omega)
      refine ⟨by rw [List.length_cons, i1]; omega, fun c hc => ?_⟩
      rcases List.mem_cons.1 hc with rfl | hc
      · omega
      · have := i2 c hc
        rw [sw_length] at this
        exact this
theorem inv_two : ∀ l : List Int, 2 * inv l ≤ l.length * (l.length - 1)
  | [] => by simp [inv]
  | a :: l => by
    have h1 := cnt_le a l
    have h2 := inv_two l
    simp only [inv, List.length_cons, Nat.add_sub_cancel]
    cases hl : l.length with
    | zero => rw [hl] at h1 h2; simp at h2; omega
    | succ m =>
      rw [hl] at h1 h2
      simp only [Nat.add_sub_cancel] at h2
      have e : (m + 1 + 1) * (m + 1) = (m + 1) * m + (m + 1) + (m + 1) := by
        rw [Nat.add_mul, Nat.mul_add]; omega
      omega
theorem inv_15 (l : List Int) (h : l.length ≤ 6) : inv l ≤ 15 := by
  have h1 := inv_two l
  have h2 : l.length * (l.length - 1) ≤ 6 * 5 := Nat.mul_le_mul h (by omega)
  omega
theorem word_good (f : Nat) (p : List Int) (h1 : 1 ≤ p.length) (h6 : p.length ≤ 6) (hi : inv p ≤ f) : impl_isBraid.b p.length (word (f + 1) p) = true := by
  obtain ⟨g1, g2⟩ := word_len f p hi
  have h15 := inv_15 p h6
  unfold impl_isBraid.b
  rw [decide_eq_true (by omega : (1 : Int) ≤ p.length), decide_eq_true (by omega : (p.length : Int) ≤ 6), decide_eq_true (by omega : (word (f + 1) p).length ≤ 24)]
  simp only [Bool.true_and, Bool.not_eq_true', List.any_eq_false, Bool.not_eq_true, Bool.not_eq_false]
  intro c hc
  have := g2 c hc
  unfold impl_isBraid.letter
  simp only [Bool.and_eq_true, decide_eq_true_eq]
  simp
  omega
end Go.Proofs.Yteeahaikelpkpaa.WordMath

/- The source of draws: its numbers lie where they should. -/
namespace Go.Proofs.Yteeahaikelpkpaa.Draw
open Go.RowKit Go.Proofs.Yteeahaikelpkpaa.PB Go.Proofs.YteeahaikelpkpaaW.PrintWords Go.Proofs.YteeahaikelpkpaaW.PrintLast Go.Proofs.Yteeahaikelpkpaa.Base
set_option linter.unusedVariables false
set_option linter.unusedSimpArgs false

/-- A source in order. -/
structure Src (code : List Int) (at_ seed : Int) : Prop where
  a0 : 0 ≤ at_
  a1 : at_ ≤ code.length
  s0 : 0 ≤ seed
  s1 : seed < 2147483647
structure Code (code : List Int) : Prop where
  len : code.length ≤ 4096
  byte : ∀ x ∈ code, 0 ≤ x ∧ x ≤ 255
theorem rd_byte {code : List Int} (h : Code code) (i : Int) : 0 ≤ rd code i ∧ rd code i ≤ 255 := by
  unfold rd
  rw [List.getD_eq_getElem?_getD]
  cases hc : code[i.toNat]? with
  | none => simp
  | some x =>
    have := h.byte x (List.mem_of_getElem? hc)
    simpa using this
theorem tmod_pos {x n : Int} (hx : 0 ≤ x) (hn : 0 < n) : 0 ≤ Int.tmod x n ∧ Int.tmod x n < n := by
  rw [Int.tmod_eq_emod_of_nonneg hx]
  exact ⟨Int.emod_nonneg _ (by omega), Int.emod_lt_of_pos _ hn⟩
theorem tdiv_pos {x n : Int} (hx : 0 ≤ x) (hn : 0 < n) : 0 ≤ Int.tdiv x n ∧ Int.tdiv x n ≤ x := by
  rw [Int.tdiv_eq_ediv_of_nonneg hx]
  exact ⟨Int.ediv_nonneg hx (by omega), Int.ediv_le_self n hx⟩
theorem seed_next {s : Int} (h0 : 0 ≤ s) (h1 : s < 2147483647) : 0 ≤ Int.tmod (wrap64 ((wrap64 (s * 48271)) + 11)) 2147483647 ∧ Int.tmod (wrap64 ((wrap64 (s * 48271)) + 11)) 2147483647 < 2147483647 := by
  rw [wrap_of (x := s * 48271) (by omega) (by omega), wrap_of (by omega) (by omega)]
  exact tmod_pos (by omega) (by omega)
/-- The next number: from 0 to n - 1. -/
theorem next {code : List Int} (hc : Code code) {a s : Int} (h : Src code a s) (n : Int) (hn : n ≤ 1000000) : ∃ x a' s', spec_l01Next.f code a s n = some (x, a', s') ∧ Src code a' s' ∧ 0 ≤ x ∧ (x < n ∨ n ≤ 1 ∧ x = 0) := by
  unfold spec_l01Next.f
  have q := seed_next h.s0 h.s1
  have h0 := h.a0
  have h1 := h.a1
  have hl := hc.len
  generalize Int.tmod (wrap64 ((wrap64 (s * 48271)) + 11)) 2147483647 = t at q ⊢
  by_cases c1 : n ≤ 1
  · rw [if_pos c1]
    exact ⟨0, a, s, rfl, h, by omega, .inr ⟨c1, rfl⟩⟩
  · rw [if_neg c1]
    have d := tdiv_pos q.1 (show (0 : Int) < 11 by omega)
    by_cases c2 : a < (code.length : Int)
    · have b := rd_byte hc a
      rw [if_pos c2, if_pos h0, wrap_of (x := a + 1) (by omega) (by omega), wrap_of (x := a + 1 - 1) (by omega) (by omega), show a + 1 - 1 = a by omega, wrap_of (x := Int.tdiv t 11) (by omega) (by omega), wrap_of (x := rd code a) (by omega) (by omega), wrap_of (x := Int.tdiv t 11 + rd code a) (by omega) (by omega), if_neg (show ¬ n = 0 by omega)]
      have hs : Src code (a + 1) t := ⟨by omega, by omega, q.1, q.2⟩
      have m1 := tmod_pos (x := rd code a) b.1 (show 0 < n by omega)
      have m2 := tmod_pos (x := Int.tdiv t 11 + rd code a) (by omega) (show 0 < n by omega)
      by_cases c3 : n ≤ 256
      · rw [if_pos c3]
        by_cases c4 : Int.tmod (a + 1) 2 = 0
        · rw [if_pos c4, if_pos h0, if_pos c2]
          exact ⟨_, _, _, (by first | rfl | rw [if_neg (show ¬ n = 0 by omega)]), hs, m1.1, .inl m1.2⟩
        · rw [if_neg c4]
          exact ⟨_, _, _, (by first | rfl | rw [if_neg (show ¬ n = 0 by omega)]), hs, m2.1, .inl m2.2⟩
      · rw [if_neg c3]
        exact ⟨_, _, _, (by first | rfl | rw [if_neg (show ¬ n = 0 by omega)]), hs, m2.1, .inl m2.2⟩
    · rw [if_neg c2, if_neg (show ¬ n = 0 by omega), wrap_of (x := Int.tdiv t 11) (by omega) (by omega)]
      have m := tmod_pos (x := Int.tdiv t 11) d.1 (show 0 < n by omega)
      exact ⟨_, _, _, rfl, ⟨h0, h1, q.1, q.2⟩, m.1, .inl m.2⟩
theorem from_loop {code : List Int} (hc : Code code) : ∀ (d k : Nat) (i s : Int), 0 ≤ i → i ≤ 64 → 64 - i = d → d < k → 0 ≤ s → s < 2147483647 →
    ∃ s', spec_l01From.l0 k code i code 0 s = some (code, 0, s') ∧ 0 ≤ s' ∧ s' < 2147483647 := by
  intro d
  induction d with
  | zero =>
    intro k i s h0 h1 hd hk hs0 hs1
    obtain ⟨k, rfl⟩ : ∃ m, k = m + 1 := ⟨k - 1, by omega⟩
    simp only [spec_l01From.l0]
    by_cases c : i < (code.length : Int)
    · rw [if_pos c, if_neg (by omega)]; exact ⟨s, rfl, hs0, hs1⟩
    · rw [if_neg c]; exact ⟨s, rfl, hs0, hs1⟩
  | succ d ih =>
    intro k i s h0 h1 hd hk hs0 hs1
    obtain ⟨k, rfl⟩ : ∃ m, k = m + 1 := ⟨k - 1, by omega⟩
    simp only [spec_l01From.l0]
    by_cases c : i < (code.length : Int)
    · have b := rd_byte hc i
      rw [if_pos c, if_pos (by omega), if_pos h0, wrap_of (x := i + 1) (by omega) (by omega), wrap_of (x := s * 37) (by omega) (by omega), wrap_of (x := rd code i) (by omega) (by omega), wrap_of (x := s * 37 + rd code i) (by omega) (by omega)]
      have m := tmod_pos (x := s * 37 + rd code i) (by omega) (show (0 : Int) < 2147483647 by omega)
      exact ih k (i + 1) _ (by omega) (by omega) (by omega) (by omega) m.1 m.2
    · rw [if_neg c]; exact ⟨s, rfl, hs0, hs1⟩
theorem from_f {code : List Int} (hc : Code code) (k : Nat) (hk : 70 < k) : ∃ s, spec_l01From.f k code = some (code, 0, s) ∧ Src code 0 s := by
  unfold spec_l01From.f
  obtain ⟨s, h, h0, h1⟩ := from_loop hc 64 k 0 97531 (by omega) (by omega) (by omega) (by omega) (by omega) (by omega)
  exact ⟨s, h, ⟨by omega, by omega, h0, h1⟩⟩
theorem big_f (code : List Int) : laws_big.f code = some (decide ((code.length : Int) > 4096)) := rfl
theorem like_loop (l m : List Int) (hlen : l.length = m.length) (hm : l.length ≤ 9223372036854775806) : ∀ (d k i : Nat), i ≤ l.length → l.length - i = d → d < k → laws_likeInts.l0 k l m (i : Int) = some (decide (l.drop i = m.drop i)) := by
  intro d
  induction d with
  | zero =>
    intro k i hi hd hk
    obtain ⟨k, rfl⟩ : ∃ m, k = m + 1 := ⟨k - 1, by omega⟩
    simp only [laws_likeInts.l0]
    rw [if_neg (by omega), List.drop_of_length_le (by omega), List.drop_of_length_le (by omega)]
    simp
  | succ d ih =>
    intro k i hi hd hk
    obtain ⟨k, rfl⟩ : ∃ m, k = m + 1 := ⟨k - 1, by omega⟩
    simp only [laws_likeInts.l0]
    rw [if_pos (by omega), if_pos (by omega), if_pos (by omega), wrap_of (by omega) (by omega), show ((i : Int) + 1) = ((i + 1 : Nat) : Int) from rfl, rd_lt l i (by omega), rd_lt m i (by omega)]
    rw [List.drop_eq_getElem_cons (by omega : i < l.length), List.drop_eq_getElem_cons (by omega : i < m.length)]
    by_cases e : l[i] = m[i]
    · rw [if_pos e, ih k (i + 1) (by omega) (by omega) (by omega), e]
      have h2 : (m[i] :: List.drop (i + 1) l = m[i] :: List.drop (i + 1) m) ↔ (List.drop (i + 1) l = List.drop (i + 1) m) := ⟨fun h => by injection h, fun h => by rw [h]⟩
      rw [decide_eq_decide.2 h2]
    · rw [if_neg e]
      have h2 : ¬ (l[i] :: List.drop (i + 1) l = m[i] :: List.drop (i + 1) m) := fun h => e (by injection h)
      rw [decide_eq_false h2]
theorem like_f (l m : List Int) (k : Nat) (hm : l.length ≤ 1048576) (hk : l.length < k) : laws_likeInts.f k l m = some (decide (l = m)) := by
  unfold laws_likeInts.f
  by_cases h : l.length = m.length
  · rw [if_pos (by omega)]
    have := like_loop l m h (by omega) l.length k 0 (by omega) (by omega) hk
    simpa using this
  · rw [if_neg (by omega)]
    have : l ≠ m := fun e => h (by rw [e])
    simp [this]
theorem code_of {code : List Int} (h : ¬ code.length > 4096) (hw : ∀ x ∈ code, (Lit.int .u8 x).wf = true) : Code code := by
  refine ⟨by omega, fun x hx => ?_⟩
  have h2 : IntKind.u8.min ≤ x ∧ x ≤ IntKind.u8.max := by simpa [Lit.wf] using hw x hx
  have h3 : IntKind.u8.min = 0 := by decide
  have h4 : IntKind.u8.max = 255 := by decide
  omega
end Go.Proofs.Yteeahaikelpkpaa.Draw

