/- The library's Concat over lists of letters comes to the rows one behind the other. -/
import Derived.Test.YtahjhlcmcnemiaaPerm
import Derived.Test.YtahjhlcmcnemiaaPAxf67
namespace Go.Proofs.Ytahjhlcmcnemiaa.Concat
open Go.RowKit Go.Proofs.Ytahjhlcmcnemiaa.PA Go.Proofs.YtahjhlcmcnemiaaW.PrintWords Go.Proofs.YtahjhlcmcnemiaaW.PrintLast Go.Proofs.Ytahjhlcmcnemiaa.Base Go.Proofs.Ytahjhlcmcnemiaa.BaseB
set_option linter.unusedVariables false
set_option linter.unusedSimpArgs false
theorem rd2 (ls : List (List Int)) (i : Nat) (h : i < ls.length) : rd_L2 ls (i : Int) = ls[i] := by
  unfold rd_L2
  rw [Int.toNat_natCast, List.getD_eq_getElem?_getD, List.getElem?_eq_getElem h]
  rfl
theorem second (ls : List (List Int)) (hn : ls.length ≤ 1000) : ∀ (d k i : Nat) (acc : List Int), ls.length - i = d → i ≤ ls.length → d < k → acc.length + (ls.drop i).flatten.length ≤ 1000000 →
    slices_Concat_int64_int64.l1 k acc ls (ls.length : Int) (i : Int) = some (acc ++ (ls.drop i).flatten) := by
  intro d
  induction d with
  | zero =>
    intro k i acc hd hi hk hs
    obtain ⟨k, rfl⟩ : ∃ q, k = q + 1 := ⟨k - 1, by omega⟩
    simp only [slices_Concat_int64_int64.l1]
    rw [if_neg (by omega), List.drop_of_length_le (by omega)]
    simp
  | succ d ih =>
    intro k i acc hd hi hk hs
    obtain ⟨k, rfl⟩ : ∃ q, k = q + 1 := ⟨k - 1, by omega⟩
    have hil : i < ls.length := by omega
    rw [List.drop_eq_getElem_cons hil, List.flatten_cons] at hs ⊢
    rw [List.length_append] at hs
    simp only [slices_Concat_int64_int64.l1]
    rw [if_pos (by omega), if_pos (by omega), if_pos (by omega), rd2 ls i hil, if_pos (by omega), wrap_of (x := (i : Int) + 1) (by omega) (by omega), show ((i : Int) + 1) = ((i + 1 : Nat) : Int) from rfl]
    rw [ih k (i + 1) _ (by omega) (by omega) (by omega) (by rw [List.length_append]; omega), List.append_assoc]
theorem first (ls : List (List Int)) (hn : ls.length ≤ 1000) (ht : ls.flatten.length ≤ 1000000) : ∀ (d k i : Nat) (s : Int), ls.length - i = d → i ≤ ls.length → d + ls.length + 1 < k → 0 ≤ s → s + (ls.drop i).flatten.length ≤ 1000000 →
    slices_Concat_int64_int64.l0 k ls s ls (ls.length : Int) (i : Int) = some ls.flatten := by
  intro d
  induction d with
  | zero =>
    intro k i s hd hi hk h0 hs
    obtain ⟨k, rfl⟩ : ∃ q, k = q + 1 := ⟨k - 1, by omega⟩
    rw [List.drop_of_length_le (by omega)] at hs
    simp only [List.flatten_nil, List.length_nil] at hs
    simp only [slices_Concat_int64_int64.l0]
    rw [if_neg (by omega)]
    unfold slices_Grow_int64_int64.f
    rw [if_pos (by omega)]
    simp only [Option.bind_some]
    have := second ls hn ls.length k 0 [] (by omega) (by omega) (by omega) (by simpa using ht)
    simpa using this
  | succ d ih =>
    intro k i s hd hi hk h0 hs
    obtain ⟨k, rfl⟩ : ∃ q, k = q + 1 := ⟨k - 1, by omega⟩
    have hil : i < ls.length := by omega
    rw [List.drop_eq_getElem_cons hil, List.flatten_cons, List.length_append] at hs
    simp only [slices_Concat_int64_int64.l0]
    rw [if_pos (by omega), if_pos (by omega), if_pos (by omega), rd2 ls i hil, wrap_of (x := s + (ls[i].length : Int)) (by omega) (by omega), if_neg (by omega), wrap_of (x := (i : Int) + 1) (by omega) (by omega), show ((i : Int) + 1) = ((i + 1 : Nat) : Int) from rfl]
    exact ih k (i + 1) _ (by omega) (by omega) (by omega) (by omega) (by omega)
theorem concat (ls : List (List Int)) (k : Nat) (hn : ls.length ≤ 1000) (ht : ls.flatten.length ≤ 1000000) (hk : 2 * ls.length + 1 < k) : slices_Concat_int64_int64.f k ls = some ls.flatten := by
  unfold slices_Concat_int64_int64.f
  exact first ls hn ht ls.length k 0 0 (by omega) (by omega) (by omega) (by omega) (by rw [List.drop_zero]; omega)
end Go.Proofs.Ytahjhlcmcnemiaa.Concat
