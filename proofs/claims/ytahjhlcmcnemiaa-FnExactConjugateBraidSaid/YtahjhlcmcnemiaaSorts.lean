/- Plain facts on lists: exchanges of neighbors, inversions, the word of a list of numbers. -/
import Derived.Test.YtahjhlcmcnemiaaBase
namespace Go.Proofs.Ytahjhlcmcnemiaa.Sorts
open Go.RowKit Go.Proofs.YtahjhlcmcnemiaaW.PrintWords Go.Proofs.Ytahjhlcmcnemiaa.Base
set_option linter.unusedVariables false
set_option linter.unusedSimpArgs false

def sw (p : List Int) (j : Nat) : List Int := (p.set (j - 1) (p.getD j 0)).set j (p.getD (j - 1) 0)
theorem sw_length (p : List Int) (j : Nat) : (sw p j).length = p.length := by simp [sw]
def cnt (a : Int) (l : List Int) : Nat := (l.filter fun x => decide (x < a)).length
def inv : List Int → Nat
  | [] => 0
  | a :: l => cnt a l + inv l
theorem cnt_le (a : Int) (l : List Int) : cnt a l ≤ l.length := List.length_filter_le _ _
theorem inv_le : ∀ l : List Int, inv l ≤ l.length * l.length
  | [] => by simp [inv]
  | a :: l => by
    have h1 := cnt_le a l
    have h2 := inv_le l
    simp only [inv, List.length_cons]
    have : (l.length + 1) * (l.length + 1) = l.length * l.length + l.length + l.length + 1 := by
      rw [Nat.add_mul, Nat.mul_add]; omega
    omega
theorem sw_cons (a : Int) (l : List Int) (j : Nat) (h : 1 ≤ j) : sw (a :: l) (j + 1) = a :: sw l j := by
  obtain ⟨j, rfl⟩ : ∃ m, j = m + 1 := ⟨j - 1, by omega⟩
  simp [sw]
theorem cnt_sw (a : Int) : ∀ (l : List Int) (j : Nat), 1 ≤ j → j < l.length → cnt a (sw l j) = cnt a l
  | [], j, _, h => absurd h (by simp)
  | [x], j, h1, h => absurd h (by simp; omega)
  | x :: y :: l, 1, _, _ => by
    simp only [sw, cnt]
    by_cases hx : x < a <;> by_cases hy : y < a <;> simp [List.filter_cons, hx, hy]
  | x :: y :: l, j + 2, _, h => by
    rw [sw_cons x (y :: l) (j + 1) (by omega)]
    have ih := cnt_sw a (y :: l) (j + 1) (by omega) (by simpa using h)
    simp only [cnt, List.filter_cons] at ih ⊢
    by_cases hx : x < a <;> simp [hx] at ih ⊢ <;> omega
theorem inv_sw : ∀ (l : List Int) (j : Nat), 1 ≤ j → j < l.length → l.getD j 0 < l.getD (j - 1) 0 → inv (sw l j) + 1 = inv l
  | [], j, _, h, _ => absurd h (by simp)
  | [x], j, h1, h, _ => absurd h (by simp; omega)
  | x :: y :: l, 1, _, _, hd => by
    have hd' : y < x := by simpa using hd
    have hn : ¬ x < y := by omega
    have e : sw (x :: y :: l) 1 = y :: x :: l := by simp [sw]
    rw [e]
    simp only [inv, cnt, List.filter_cons, decide_eq_true hd', decide_eq_false hn, if_true, List.length_cons]
    simp
    omega
  | x :: y :: l, j + 2, _, h, hd => by
    rw [sw_cons x (y :: l) (j + 1) (by omega)]
    have ih := inv_sw (y :: l) (j + 1) (by omega) (by simpa using h) (by simpa using hd)
    simp only [inv] at ih ⊢
    rw [cnt_sw x (y :: l) (j + 1) (by omega) (by simpa using h)]
    omega

/-- The first place from i on, among d places, at which neighbors have to be exchanged; or 0. -/
def fd (p : List Int) : Nat → Nat → Nat
  | 0, _ => 0
  | d + 1, i => if p.getD i 0 < p.getD (i - 1) 0 then i else fd p d (i + 1)
theorem fd_spec (p : List Int) : ∀ (d i : Nat), 1 ≤ i → fd p d i = 0 ∨ (i ≤ fd p d i ∧ fd p d i < i + d ∧ p.getD (fd p d i) 0 < p.getD (fd p d i - 1) 0)
  | 0, i, _ => .inl rfl
  | d + 1, i, h => by
    unfold fd
    by_cases c : p.getD i 0 < p.getD (i - 1) 0
    · rw [if_pos c]; exact .inr ⟨by omega, by omega, c⟩
    · rw [if_neg c]
      rcases fd_spec p d (i + 1) (by omega) with h1 | ⟨h1, h2, h3⟩
      · exact .inl h1
      · exact .inr ⟨by omega, by omega, h3⟩
/-- The letters of a list of numbers: at most f exchanges. -/
def word : Nat → List Int → List Int
  | 0, _ => []
  | f + 1, p => if fd p (p.length - 1) 1 = 0 then [] else (fd p (p.length - 1) 1 : Int) :: word f (sw p (fd p (p.length - 1) 1))
theorem word_length : ∀ (f : Nat) (p : List Int), (word f p).length ≤ f
  | 0, _ => by simp [word]
  | f + 1, p => by
    unfold word
    split
    · simp
    · have := word_length f (sw p (fd p (p.length - 1) 1))
      simp only [List.length_cons]; omega

/-- Is it a permutation? What is seen already stands in a list of marks. -/
def chk (n : Int) : List Bool → List Int → Bool
  | _, [] => true
  | s, x :: l => (decide (0 ≤ x) && decide (x ≤ n - 1)) && (!(s.getD x.toNat false) && chk n (s.set x.toNat true) l)
theorem rd_nat (l : List Int) (i : Nat) : rd l (i : Int) = l.getD i 0 := by simp [rd]
end Go.Proofs.Ytahjhlcmcnemiaa.Sorts
