/- What the statements' own small functions come to at braids; and: program and reference agree on which braids are valid. -/
import Derived.Test.YtahjhlcmcnemiaaBase
import Derived.Test.YtahjhlcmcnemiaaPAxf15
import Derived.Test.YtahjhlcmcnemiaaPAxf21
import Derived.Test.YtahjhlcmcnemiaaPAxf55
namespace Go.Proofs.Ytahjhlcmcnemiaa.BaseB
open Go.RowKit Go.Proofs.Ytahjhlcmcnemiaa.PA Go.Proofs.YtahjhlcmcnemiaaW.PrintWords Go.Proofs.YtahjhlcmcnemiaaW.PrintLast Go.Proofs.Ytahjhlcmcnemiaa.Base
set_option linter.unusedVariables false
set_option linter.unusedSimpArgs false

theorem szB (a : Int) (l : List Int) (left : Int) (h0 : 0 ≤ left) (h1 : left ≤ 1099511627776) (hl : l.length ≤ maxLen) : laws_szBraid.f a l left = some (if left < l.length then -1 else left - l.length) := by
  unfold laws_szBraid.f
  rw [szInts l left h0 h1 hl]
  simp only [Option.bind_some]
  by_cases h : left < l.length
  · rw [if_pos h]; rfl
  · rw [if_neg h, if_neg (by omega)]
theorem toB (a : Int) (l : List Int) (k : Nat) (hl : l.length ≤ 1048576) (hk : l.length < k) : laws_toBraid.f k a l = some (a, l) := by
  unfold laws_toBraid.f
  rw [toInts l k hl hk]
  rfl
theorem eqB_same (a : Int) (l : List Int) (k : Nat) (hl : l.length ≤ 1048576) (hk : l.length < k) : laws_eqBraid.f k a l a l = some true := by
  unfold laws_eqBraid.f
  rw [if_pos rfl, eqInts_same l k hl hk]
  rfl
theorem markB (a b : Int) (l : List Int) (k : Nat) (hb : 0 ≤ b) (hb2 : b ≤ 1099511627776) (hl : l.length ≤ 1048576) (hk : l.length < k) : laws_markBraid.f k a l b = some (b + l.length, from_ b l.length) := by
  unfold laws_markBraid.f
  rw [markInts l b k hb hb2 (by omega) hk]
  rfl
theorem heldB (n : Nat) (a b : Int) (k : Nat) (hb : 0 ≤ b) (hb2 : b ≤ 1099511627776) (hl : n ≤ 1048576) (hk : n < k) : laws_heldBraid.f k a (from_ b n) b = some (b + n) := by
  unfold laws_heldBraid.f
  rw [heldInts n b k hb hb2 (by omega) hk]
  simp only [Option.bind_some]
  rw [if_neg (by omega)]
theorem in_f (x lo hi : Int) : spec_l01In.f x lo hi = some (decide (lo ≤ x) && decide (x ≤ hi)) := by
  unfold spec_l01In.f
  by_cases h : lo ≤ x <;> simp [h]

/-! valid braids -/
theorem letter_f (a x : Int) (h0 : 1 ≤ a) (h1 : a ≤ 6) : spec_l32Letter.f x a = some (impl_isBraid.letter a x) := by
  unfold spec_l32Letter.f impl_isBraid.letter
  rw [wrap_of (by omega) (by omega), wrap_of (by omega) (by omega), in_f]
  by_cases hx : x = 0 <;> simp [hx]
theorem valid_loop (a : Int) (l : List Int) (h0 : 1 ≤ a) (h1 : a ≤ 6) (hl : l.length ≤ 24) : ∀ (d k i : Nat), i ≤ l.length → l.length - i = d → d < k →
    spec_ValidBraid.l0 k (i : Int) a l = some (!((l.drop i).any fun x => !impl_isBraid.letter a x)) := by
  intro d
  induction d with
  | zero =>
    intro k i hi hd hk
    obtain ⟨k, rfl⟩ : ∃ m, k = m + 1 := ⟨k - 1, by omega⟩
    simp only [spec_ValidBraid.l0]
    rw [if_neg (by omega), List.drop_of_length_le (by omega)]
    rfl
  | succ d ih =>
    intro k i hi hd hk
    obtain ⟨k, rfl⟩ : ∃ m, k = m + 1 := ⟨k - 1, by omega⟩
    simp only [spec_ValidBraid.l0]
    rw [if_pos (by omega), if_pos (by omega), rd_lt l i (by omega), letter_f a _ h0 h1, wrap_of (by omega) (by omega), show ((i : Int) + 1) = ((i + 1 : Nat) : Int) from rfl]
    simp only [Option.bind_some]
    rw [List.drop_eq_getElem_cons (by omega : i < l.length), List.any_cons]
    by_cases h : impl_isBraid.letter a l[i] = true
    · rw [if_pos h, ih k (i + 1) (by omega) (by omega) (by omega), h]
      simp
    · rw [if_neg h, Bool.eq_false_iff.2 h]
      simp
theorem valid (k : Nat) (a : Int) (l : List Int) (hk : 26 < k) (hl : l.length ≤ maxLen) : spec_ValidBraid.f k a l = some (impl_isBraid.b a l) := by
  unfold maxLen at hl
  obtain ⟨k, rfl⟩ : ∃ n, k = n + 1 := ⟨k - 1, by omega⟩
  have j0 : ∀ q, spec_ValidBraid.j0 (k + 1) q a l = if q = true then some false else spec_ValidBraid.l0 k 0 a l := fun q => rfl
  unfold spec_ValidBraid.f impl_isBraid.b
  simp only [in_f, Option.bind_some, j0]
  by_cases h1 : (decide (1 ≤ a) && decide (a ≤ 6)) = true
  · have ha : 1 ≤ a ∧ a ≤ 6 := by simpa using h1
    rw [if_pos h1, h1]
    by_cases h2 : l.length ≤ 24
    · have h2' : decide ((l.length : Int) > 24) = false := decide_eq_false (by omega)
      rw [h2', if_neg (by simp), decide_eq_true h2]
      have := valid_loop a l ha.1 ha.2 h2 l.length k 0 (by omega) (by omega) (by omega)
      rw [show ((0 : Nat) : Int) = 0 from rfl] at this
      rw [this]
      rfl
    · have h2' : decide ((l.length : Int) > 24) = true := decide_eq_true (by omega)
      rw [h2', if_pos rfl, decide_eq_false h2]
      rfl
  · rw [if_neg h1, if_pos trivial, Bool.eq_false_iff.2 h1]
    rfl
theorem isB (a : Int) (l : List Int) : impl_isBraid.f a l = some (impl_isBraid.b a l) := rfl
structure Good (a : Int) (l : List Int) : Prop where
  lo : 1 ≤ a
  hi : a ≤ 6
  len : l.length ≤ 24
  letter : ∀ x ∈ l, x ≠ 0 ∧ 1 - a ≤ x ∧ x ≤ a - 1
theorem good_of {a : Int} {l : List Int} (h : impl_isBraid.b a l = true) : Good a l := by
  unfold impl_isBraid.b at h
  simp only [Bool.and_eq_true, decide_eq_true_eq, Bool.not_eq_true', List.any_eq_false, Bool.not_eq_true, Bool.not_eq_false] at h
  obtain ⟨⟨h0, h1⟩, h2, h3⟩ := h
  refine ⟨h0, h1, h2, fun x hx => ?_⟩
  have := h3 x hx
  unfold impl_isBraid.letter at this
  simpa using this
end Go.Proofs.Ytahjhlcmcnemiaa.BaseB
