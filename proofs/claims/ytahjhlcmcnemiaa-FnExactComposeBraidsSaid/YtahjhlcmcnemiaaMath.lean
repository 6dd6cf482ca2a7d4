/- The plain laws that the rows of this claim lean on: copies, comparisons, marks, braids, permutations, words. -/
import Derived.Test.YtahjhlcmcnemiaaPAx0
import Derived.Test.YtahjhlcmcnemiaaPAxf21
import Derived.Test.YtahjhlcmcnemiaaPAxf53
import Derived.Test.YtahjhlcmcnemiaaPAxf55
import Derived.Test.YtahjhlcmcnemiaaPAxf67
/- What the statements' own small functions come to: copies, comparisons, marks. -/
namespace Go.Proofs.Ytahjhlcmcnemiaa.Base
open Go.RowKit Go.Proofs.Ytahjhlcmcnemiaa.PA Go.Proofs.YtahjhlcmcnemiaaW.PrintWords Go.Proofs.YtahjhlcmcnemiaaW.PrintLast
set_option linter.unusedVariables false
set_option linter.unusedSimpArgs false

theorem wrap_of {x : Int} (h0 : -9223372036854775808 ≤ x) (h1 : x ≤ 9223372036854775807) : wrap64 x = x := by
  unfold wrap64; omega
theorem wf_range {x : Int} (h : (Lit.int .i64 x).wf = true) : -9223372036854775808 ≤ x ∧ x ≤ 9223372036854775807 := by
  have h2 : IntKind.i64.min ≤ x ∧ x ≤ IntKind.i64.max := by simpa [Lit.wf] using h
  have h3 : IntKind.i64.min = -9223372036854775808 := by decide
  have h4 : IntKind.i64.max = 9223372036854775807 := by decide
  omega
theorem rd_lt (l : List Int) (i : Nat) (h : i < l.length) : rd l (i : Int) = l[i] := by
  simp [rd, List.getD_eq_getElem?_getD, h]

/-! copies -/
theorem copy_loop (l : List Int) (hl : l.length ≤ 35184372088832) : ∀ (d k i : Nat) (x : List Int), x.length = l.length → x.take i = l.take i → i ≤ l.length → l.length - i = d → d < k → laws_toInt64S.l0 k l x (i : Int) = some l := by
  intro d
  induction d with
  | zero =>
    intro k i x hx ht hi hd hk
    obtain ⟨k, rfl⟩ : ∃ m, k = m + 1 := ⟨k - 1, by omega⟩
    simp only [laws_toInt64S.l0]
    rw [if_neg (by omega)]
    have : i = l.length := by omega
    subst this
    rw [List.take_length, ← hx, List.take_length] at ht
    rw [ht]
  | succ d ih =>
    intro k i x hx ht hi hd hk
    obtain ⟨k, rfl⟩ : ∃ m, k = m + 1 := ⟨k - 1, by omega⟩
    simp only [laws_toInt64S.l0]
    rw [if_pos (by omega), if_pos (by omega), if_pos (by omega), wrap_of (by omega) (by omega), show ((i : Int) + 1) = ((i + 1 : Nat) : Int) from rfl, rd_lt l i (by omega), Int.toNat_natCast]
    refine ih k (i + 1) _ (by simpa using hx) ?_ (by omega) (by omega) (by omega)
    rw [List.take_succ_eq_append_getElem (by rw [List.length_set]; omega), List.take_succ_eq_append_getElem (by omega), List.take_set_of_le (Nat.le_refl _), ht, List.getElem_set_self]
theorem toInts (l : List Int) (k : Nat) (hl : l.length ≤ 1048576) (hk : l.length < k) : laws_toInt64S.f k l = some l := by
  unfold laws_toInt64S.f
  rw [if_pos (by omega), if_pos (by omega)]
  exact copy_loop l (by omega) l.length k 0 _ (by simp) (by simp) (by omega) (by omega) hk

/-! comparisons -/
theorem eq_loop (l m : List Int) (hlen : l.length = m.length) (hm : l.length ≤ 9223372036854775806) : ∀ (d k i : Nat), i ≤ l.length → l.length - i = d → d < k → laws_eqInt64S.l0 k l m (i : Int) = some (decide (l.drop i = m.drop i)) := by
  intro d
  induction d with
  | zero =>
    intro k i hi hd hk
    obtain ⟨k, rfl⟩ : ∃ m, k = m + 1 := ⟨k - 1, by omega⟩
    simp only [laws_eqInt64S.l0]
    rw [if_neg (by omega), List.drop_of_length_le (by omega), List.drop_of_length_le (by omega)]
    simp
  | succ d ih =>
    intro k i hi hd hk
    obtain ⟨k, rfl⟩ : ∃ m, k = m + 1 := ⟨k - 1, by omega⟩
    simp only [laws_eqInt64S.l0]
    rw [if_pos (by omega), if_pos (by omega), if_pos (by omega), wrap_of (by omega) (by omega), show ((i : Int) + 1) = ((i + 1 : Nat) : Int) from rfl, rd_lt l i (by omega), rd_lt m i (by omega)]
    rw [List.drop_eq_getElem_cons (by omega : i < l.length), List.drop_eq_getElem_cons (by omega : i < m.length)]
    by_cases e : l[i] = m[i]
    · rw [if_pos e, ih k (i + 1) (by omega) (by omega) (by omega), e]
      have h2 : (m[i] :: List.drop (i + 1) l = m[i] :: List.drop (i + 1) m) ↔ (List.drop (i + 1) l = List.drop (i + 1) m) := ⟨fun h => by injection h, fun h => by rw [h]⟩
      rw [decide_eq_decide.2 h2]
    · rw [if_neg e]
      have h2 : ¬ (l[i] :: List.drop (i + 1) l = m[i] :: List.drop (i + 1) m) := fun h => e (by injection h)
      rw [decide_eq_false h2]
theorem eqInts (l m : List Int) (k : Nat) (hm : l.length ≤ 1048576) (hk : l.length < k) : laws_eqInt64S.f k l m = some (decide (l = m)) := by
  unfold laws_eqInt64S.f
  by_cases h : l.length = m.length
  · rw [if_pos (by omega)]
    have := eq_loop l m h (by omega) l.length k 0 (by omega) (by omega) hk
    simpa using this
  · rw [if_neg (by omega)]
    have : l ≠ m := fun e => h (by rw [e])
    simp [this]
theorem eqInts_same (l : List Int) (k : Nat) (hm : l.length ≤ 1048576) (hk : l.length < k) : laws_eqInt64S.f k l l = some true := by
  rw [eqInts l l k hm hk]; simp

/-! marks -/
def from_ (a : Int) : Nat → List Int
  | 0 => []
  | n + 1 => a :: from_ (a + 1) n
theorem from_length (n : Nat) : ∀ a, (from_ a n).length = n := by
  induction n with
  | zero => intro a; rfl
  | succ n ih => intro a; simp [from_, ih]
theorem from_succ (n : Nat) : ∀ a : Int, from_ a (n + 1) = from_ a n ++ [a + n] := by
  induction n with
  | zero => intro a; simp [from_]
  | succ n ih =>
    intro a
    show a :: from_ (a + 1) (n + 1) = a :: (from_ (a + 1) n) ++ [a + (n + 1 : Nat)]
    rw [ih]
    have : a + 1 + (n : Int) = a + ((n + 1 : Nat) : Int) := by omega
    rw [this]; rfl
theorem from_get (n : Nat) : ∀ (a : Int) (i : Nat) (h : i < (from_ a n).length), (from_ a n)[i] = a + i := by
  induction n with
  | zero => intro a i h; simp [from_] at h
  | succ n ih =>
    intro a i h
    cases i with
    | zero => simp [from_]
    | succ i =>
      have h' : i < (from_ (a + 1) n).length := by simpa [from_] using h
      have := ih (a + 1) i h'
      simp only [from_, List.getElem_cons_succ, this]
      omega
theorem mark_loop (n : Nat) (a : Int) (ha : 0 ≤ a) (hm : a + n ≤ 9223372036854775806) : ∀ (d k i : Nat) (x : List Int), x.length = n → x.take i = from_ a i → i ≤ n → n - i = d → d < k → laws_markInt64S.l0 k x (a + i) (i : Int) = some (a + n, from_ a n) := by
  intro d
  induction d with
  | zero =>
    intro k i x hx ht hi hd hk
    obtain ⟨k, rfl⟩ : ∃ m, k = m + 1 := ⟨k - 1, by omega⟩
    simp only [laws_markInt64S.l0]
    have : i = n := by omega
    subst this
    rw [if_neg (by omega)]
    rw [← hx, List.take_length] at ht
    rw [ht, hx]
  | succ d ih =>
    intro k i x hx ht hi hd hk
    obtain ⟨k, rfl⟩ : ∃ m, k = m + 1 := ⟨k - 1, by omega⟩
    simp only [laws_markInt64S.l0]
    rw [if_pos (by omega), if_pos (by omega), wrap_of (by omega) (by omega), wrap_of (by omega) (by omega), show ((i : Int) + 1) = ((i + 1 : Nat) : Int) from rfl, show a + (i : Int) + 1 = a + ((i + 1 : Nat) : Int) by omega, Int.toNat_natCast]
    refine ih k (i + 1) _ (by simpa using hx) ?_ (by omega) (by omega) (by omega)
    rw [List.take_succ_eq_append_getElem (by rw [List.length_set]; omega), List.take_set_of_le (Nat.le_refl _), ht, List.getElem_set_self, from_succ]
theorem markInts (l : List Int) (a : Int) (k : Nat) (ha : 0 ≤ a) (ha2 : a ≤ 1099511627776) (hl : l.length ≤ 1099511627776) (hk : l.length < k) : laws_markInt64S.f k l a = some (a + l.length, from_ a l.length) := by
  unfold laws_markInt64S.f
  have := mark_loop l.length a ha (by omega) l.length k 0 l rfl (by simp [from_]) (by omega) (by omega) hk
  simpa using this
theorem held_loop (n : Nat) (a : Int) (ha : 0 ≤ a) (hm : a + n ≤ 9223372036854775806) : ∀ (d k i : Nat), i ≤ n → n - i = d → d < k → laws_heldInt64S.l0 k (from_ a n) (a + i) (i : Int) = some (a + n) := by
  intro d
  induction d with
  | zero =>
    intro k i hi hd hk
    obtain ⟨k, rfl⟩ : ∃ m, k = m + 1 := ⟨k - 1, by omega⟩
    simp only [laws_heldInt64S.l0]
    have : i = n := by omega
    subst this
    rw [if_neg (by rw [from_length]; omega)]
  | succ d ih =>
    intro k i hi hd hk
    obtain ⟨k, rfl⟩ : ∃ m, k = m + 1 := ⟨k - 1, by omega⟩
    simp only [laws_heldInt64S.l0]
    rw [if_pos (by rw [from_length]; omega), if_pos (by omega), rd_lt _ i (by rw [from_length]; omega), from_get, if_pos rfl, wrap_of (by omega) (by omega), wrap_of (by omega) (by omega), show ((i : Int) + 1) = ((i + 1 : Nat) : Int) from rfl, show a + (i : Int) + 1 = a + ((i + 1 : Nat) : Int) by omega]
    exact ih k (i + 1) (by omega) (by omega) (by omega)
theorem heldInts (n : Nat) (a : Int) (k : Nat) (ha : 0 ≤ a) (ha2 : a ≤ 1099511627776) (hl : n ≤ 1099511627776) (hk : n < k) : laws_heldInt64S.f k (from_ a n) a = some (a + n) := by
  unfold laws_heldInt64S.f
  have := held_loop n a ha (by omega) n k 0 (by omega) (by omega) hk
  simpa using this
theorem szInts (l : List Int) (left : Int) (h0 : 0 ≤ left) (h1 : left ≤ 1099511627776) (hl : l.length ≤ maxLen) : laws_szInt64S.f l left = some (if left < l.length then -1 else left - l.length) := by
  unfold maxLen at hl
  unfold laws_szInt64S.f
  rw [wrap_of (by omega) (by omega)]
  by_cases h : left < l.length
  · rw [if_pos h, if_pos (by omega)]
  · rw [if_neg h, if_neg (by omega)]
theorem if_lt_no {α : Type} {a b : Int} (h : b ≤ a) (x y : α) : (if a < b then x else y) = y := if_neg (by omega)
theorem if_gt_no {α : Type} {a b : Int} (h : a ≤ b) (x y : α) : (if a > b then x else y) = y := if_neg (by omega)
theorem if_lt_yes {α : Type} {a b : Int} (h : a < b) (x y : α) : (if a < b then x else y) = x := if_pos h
theorem if_ge_yes {α : Type} {a b : Int} (h : b ≤ a) (x y : α) : (if a ≥ b then x else y) = x := if_pos h
theorem if_ge_no {α : Type} {a b : Int} (h : a < b) (x y : α) : (if a ≥ b then x else y) = y := if_neg (by omega)
theorem if_le_yes {α : Type} {a b : Int} (h : a ≤ b) (x y : α) : (if a ≤ b then x else y) = x := if_pos h
theorem if_le_no {α : Type} {a b : Int} (h : b < a) (x y : α) : (if a ≤ b then x else y) = y := if_neg (by omega)
end Go.Proofs.Ytahjhlcmcnemiaa.Base

/- What the statements' own small functions come to at braids; and: program and reference agree on which braids are valid. -/
namespace Go.Proofs.Ytahjhlcmcnemiaa.BaseB
open Go.RowKit Go.Proofs.Ytahjhlcmcnemiaa.PA Go.Proofs.YtahjhlcmcnemiaaW.PrintWords Go.Proofs.YtahjhlcmcnemiaaW.PrintLast Go.Proofs.Ytahjhlcmcnemiaa.Base
set_option linter.unusedVariables false
set_option linter.unusedSimpArgs false

theorem szB (a : Int) (l : List Int) (left : Int) (h0 : 0 ≤ left) (h1 : left ≤ 1099511627776) (hl : l.length ≤ maxLen) : laws_szBraid.f a l left = some (if left < l.length then -1 else left - l.length) := by
  unfold laws_szBraid.f
  rw [szInts l left h0 h1 hl]
  simp only [Option.bind_some]
  by_cases h : left < l.length
  · rw [if_pos h]; rfl
  · rw [if_neg h, if_neg (by omega)]
theorem toB (a : Int) (l : List Int) (k : Nat) (hl : l.length ≤ 1048576) (hk : l.length < k) : laws_toBraid.f k a l = some (a, l) := by
  unfold laws_toBraid.f
  rw [toInts l k hl hk]
  rfl
theorem eqB_same (a : Int) (l : List Int) (k : Nat) (hl : l.length ≤ 1048576) (hk : l.length < k) : laws_eqBraid.f k a l a l = some true := by
  unfold laws_eqBraid.f
  rw [if_pos rfl, eqInts_same l k hl hk]
  rfl
theorem markB (a b : Int) (l : List Int) (k : Nat) (hb : 0 ≤ b) (hb2 : b ≤ 1099511627776) (hl : l.length ≤ 1048576) (hk : l.length < k) : laws_markBraid.f k a l b = some (b + l.length, from_ b l.length) := by
  unfold laws_markBraid.f
  rw [markInts l b k hb hb2 (by omega) hk]
  rfl
theorem heldB (n : Nat) (a b : Int) (k : Nat) (hb : 0 ≤ b) (hb2 : b ≤ 1099511627776) (hl : n ≤ 1048576) (hk : n < k) : laws_heldBraid.f k a (from_ b n) b = some (b + n) := by
  unfold laws_heldBraid.f
  rw [heldInts n b k hb hb2 (by omega) hk]
  simp only [Option.bind_some]
  rw [if_neg (by omega)]
theorem in_f (x lo hi : Int) : spec_l01In.f x lo hi = some (decide (lo ≤ x) && decide (x ≤ hi)) := by
  unfold spec_l01In.f
  by_cases h : lo ≤ x <;> simp [h]

/-! valid braids -/
theorem letter_f (a x : Int) (h0 : 1 ≤ a) (h1 : a ≤ 6) : spec_l32Letter.f x a = some (impl_isBraid.letter a x) := by
  unfold spec_l32Letter.f impl_isBraid.letter
  rw [wrap_of (by omega) (by omega), wrap_of (by omega) (by omega), in_f]
  by_cases hx : x = 0 <;> simp [hx]
theorem valid_loop (a : Int) (l : List Int) (h0 : 1 ≤ a) (h1 : a ≤ 6) (hl : l.length ≤ 24) : ∀ (d k i : Nat), i ≤ l.length → l.length - i = d → d < k →
    spec_ValidBraid.l0 k (i : Int) a l = some (!((l.drop i).any fun x => !impl_isBraid.letter a x)) := by
  intro d
  induction d with
  | zero =>
    intro k i hi hd hk
    obtain ⟨k, rfl⟩ : ∃ m, k = m + 1 := ⟨k - 1, by omega⟩
    simp only [spec_ValidBraid.l0]
    rw [if_neg (by omega), List.drop_of_length_le (by omega)]
    rfl
  | succ d ih =>
    intro k i hi hd hk
    obtain ⟨k, rfl⟩ : ∃ m, k = m + 1 := ⟨k - 1, by omega⟩
    simp only [spec_ValidBraid.l0]
    rw [if_pos (by omega), if_pos (by omega), rd_lt l i (by omega), letter_f a _ h0 h1, wrap_of (by omega) (by omega), show ((i : Int) + 1) = ((i + 1 : Nat) : Int) from rfl]
    simp only [Option.bind_some]
    rw [List.drop_eq_getElem_cons (by omega : i < l.length), List.any_cons]
    by_cases h : impl_isBraid.letter a l[i] = true
    · rw [if_pos h, ih k (i + 1) (by omega) (by omega) (by omega), h]
      simp
    · rw [if_neg h, Bool.eq_false_iff.2 h]
      simp
theorem valid (k : Nat) (a : Int) (l : List Int) (hk : 26 < k) (hl : l.length ≤ maxLen) : spec_ValidBraid.f k a l = some (impl_isBraid.b a l) := by
  unfold maxLen at hl
  obtain ⟨k, rfl⟩ : ∃ n, k = n + 1 := ⟨k - 1, by omega⟩
  have j0 : ∀ q, spec_ValidBraid.j0 (k + 1) q a l = if q = true then some false else spec_ValidBraid.l0 k 0 a l := fun q => rfl
  unfold spec_ValidBraid.f impl_isBraid.b
  simp only [in_f, Option.bind_some, j0]
  by_cases h1 : (decide (1 ≤ a) && decide (a ≤ 6)) = true
  · have ha : 1 ≤ a ∧ a ≤ 6 := by simpa using h1
    rw [if_pos h1, h1]
    by_cases h2 : l.length ≤ 24
    · have h2' : decide ((l.length : Int) > 24) = false := decide_eq_false (by omega)
      rw [h2', if_neg (by simp), decide_eq_true h2]
      have := valid_loop a l ha.1 ha.2 h2 l.length k 0 (by omega) (by omega) (by omega)
      rw [show ((0 : Nat) : Int) = 0 from rfl] at this
      rw [this]
      rfl
    · have h2' : decide ((l.length : Int) > 24) = true := decide_eq_true (by omega)
      rw [h2', if_pos rfl, decide_eq_false h2]
      rfl
  · rw [if_neg h1, if_pos trivial, Bool.eq_false_iff.2 h1]
    rfl
theorem isB (a : Int) (l : List Int) : impl_isBraid.f a l = some (impl_isBraid.b a l) := rfl
structure Good (a : Int) (l : List Int) : Prop where
  lo : 1 ≤ a
  hi : a ≤ 6
  len : l.length ≤ 24
  letter : ∀ x ∈ l, x ≠ 0 ∧ 1 - a ≤ x ∧ x ≤ a - 1
theorem good_of {a : Int} {l : List Int} (h : impl_isBraid.b a l = true) : Good a l := by
  unfold impl_isBraid.b at h
  simp only [Bool.and_eq_true, decide_eq_true_eq, Bool.not_eq_true', List.any_eq_false, Bool.not_eq_true, Bool.not_eq_false] at h
  obtain ⟨⟨h0, h1⟩, h2, h3⟩ := h
  refine ⟨h0, h1, h2, fun x hx => ?_⟩
  have := h3 x hx
  unfold impl_isBraid.letter at this
  simpa using this
end Go.Proofs.Ytahjhlcmcnemiaa.BaseB

/- The library's Concat over lists of letters comes to the rows one behind the other. -/
namespace Go.Proofs.Ytahjhlcmcnemiaa.Concat
open Go.RowKit Go.Proofs.Ytahjhlcmcnemiaa.PA Go.Proofs.YtahjhlcmcnemiaaW.PrintWords Go.Proofs.YtahjhlcmcnemiaaW.PrintLast Go.Proofs.Ytahjhlcmcnemiaa.Base Go.Proofs.Ytahjhlcmcnemiaa.BaseB
set_option linter.unusedVariables false
set_option linter.unusedSimpArgs false
theorem rd2 (ls : List (List Int)) (i : Nat) (h : i < ls.length) : rd_L1 ls (i : Int) = ls[i] := by
  unfold rd_L1
  rw [Int.toNat_natCast, List.getD_eq_getElem?_getD, List.getElem?_eq_getElem h]
  rfl
theorem second (ls : List (List Int)) (hn : ls.length ≤ 1000) : ∀ (d k i : Nat) (acc : List Int), ls.length - i = d → i ≤ ls.length → d < k → acc.length + (ls.drop i).flatten.length ≤ 1000000 →
    slices_Concat_int64_int64.l1 k acc ls (ls.length : Int) (i : Int) = some (acc ++ (ls.drop i).flatten) := by
  intro d
  induction d with
  | zero =>
    intro k i acc hd hi hk hs
    obtain ⟨k, rfl⟩ : ∃ q, k = q + 1 := ⟨k - 1, by omega⟩
    simp only [slices_Concat_int64_int64.l1]
    rw [if_neg (by omega), List.drop_of_length_le (by omega)]
    simp
  | succ d ih =>
    intro k i acc hd hi hk hs
    obtain ⟨k, rfl⟩ : ∃ q, k = q + 1 := ⟨k - 1, by omega⟩
    have hil : i < ls.length := by omega
    rw [List.drop_eq_getElem_cons hil, List.flatten_cons] at hs ⊢
    rw [List.length_append] at hs
    simp only [slices_Concat_int64_int64.l1]
    rw [if_pos (by omega), if_pos (by omega), if_pos (by omega), rd2 ls i hil, if_pos (by omega), wrap_of (x := (i : Int) + 1) (by omega) (by omega), show ((i : Int) + 1) = ((i + 1 : Nat) : Int) from rfl]
    rw [ih k (i + 1) _ (by omega) (by omega) (by omega) (by rw [List.length_append]; omega), List.append_assoc]
theorem first (ls : List (List Int)) (hn : ls.length ≤ 1000) (ht : ls.flatten.length ≤ 1000000) : ∀ (d k i : Nat) (s : Int), ls.length - i = d → i ≤ ls.length → d + ls.length + 1 < k → 0 ≤ s → s + (ls.drop i).flatten.length ≤ 1000000 →
    slices_Concat_int64_int64.l0 k ls s ls (ls.length : Int) (i : Int) = some ls.flatten := by
  intro d
  induction d with
  | zero =>
    intro k i s hd hi hk h0 hs
    obtain ⟨k, rfl⟩ : ∃ q, k = q + 1 := ⟨k - 1, by omega⟩
    rw [List.drop_of_length_le (by omega)] at hs
    simp only [List.flatten_nil, List.length_nil] at hs
    simp only [slices_Concat_int64_int64.l0]
    rw [if_neg (by omega)]
    unfold slices_Grow_int64_int64.f
    rw [if_pos (by omega)]
    simp only [Option.bind_some]
    have := second ls hn ls.length k 0 [] (by omega) (by omega) (by omega) (by simpa using ht)
    simpa using this
  | succ d ih =>
    intro k i s hd hi hk h0 hs
    obtain ⟨k, rfl⟩ : ∃ q, k = q + 1 := ⟨k - 1, by omega⟩
    have hil : i < ls.length := by omega
    rw [List.drop_eq_getElem_cons hil, List.flatten_cons, List.length_append] at hs
    simp only [slices_Concat_int64_int64.l0]
    rw [if_pos (by omega), if_pos (by omega), if_pos (by omega), rd2 ls i hil, wrap_of (x := s + (ls[i].length : Int)) (by omega) (by omega), if_neg (by omega), wrap_of (x := (i : Int) + 1) (by omega) (by omega), show ((i : Int) + 1) = ((i + 1 : Nat) : Int) from rfl]
    exact ih k (i + 1) _ (by omega) (by omega) (by omega) (by omega) (by omega)
theorem concat (ls : List (List Int)) (k : Nat) (hn : ls.length ≤ 1000) (ht : ls.flatten.length ≤ 1000000) (hk : 2 * ls.length + 1 < k) : slices_Concat_int64_int64.f k ls = some ls.flatten := by
  unfold slices_Concat_int64_int64.f
  exact first ls hn ht ls.length k 0 0 (by omega) (by omega) (by omega) (by omega) (by rw [List.drop_zero]; omega)
end Go.Proofs.Ytahjhlcmcnemiaa.Concat

