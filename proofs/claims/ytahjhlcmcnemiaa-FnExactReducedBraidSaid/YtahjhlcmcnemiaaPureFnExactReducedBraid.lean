/- ReducedBraid: program and reference answer alike for all arguments: the pure statement. -/
import Derived.Test.YtahjhlcmcnemiaaStatFnExactReducedBraid
import Derived.Test.YtahjhlcmcnemiaaBaseB
namespace Go.Proofs.Ytahjhlcmcnemiaa.fnExactReducedBraid.Pure
open Go.RowKit Go.Proofs.Ytahjhlcmcnemiaa.PA Go.Proofs.YtahjhlcmcnemiaaW.PrintWords Go.Proofs.YtahjhlcmcnemiaaW.PrintLast Go.Proofs.Ytahjhlcmcnemiaa.Base Go.Proofs.Ytahjhlcmcnemiaa.BaseB
set_option linter.unusedVariables false
set_option linter.unusedSimpArgs false

/-- Letters that undo each other removed: the stack behind the letters of l. -/
def red : List Int → List Int → List Int
  | x, [] => x
  | x, c :: l => red (if 0 < x.length ∧ x.getLast? = some (-c) then x.dropLast else x ++ [c]) l
theorem red_len (l : List Int) : ∀ x, (red x l).length ≤ x.length + l.length := by
  induction l with
  | nil => intro x; simp [red]
  | cons c l ih =>
    intro x
    simp only [red]
    refine Nat.le_trans (ih _) ?_
    split
    · simp only [List.length_dropLast, List.length_cons]; omega
    · simp only [List.length_append, List.length_cons, List.length_nil]; omega
theorem rd_last (x : List Int) (h : 0 < x.length) : x.getLast? = some (rd x ((x.length : Int) - 1)) := by
  rw [List.getLast?_eq_getElem?, show ((x.length : Int) - 1) = ((x.length - 1 : Nat) : Int) by omega, rd_lt x _ (by omega), List.getElem?_eq_getElem (by omega)]

theorem spec_loop (a : Int) (l : List Int) (hl : l.length ≤ 24) (hw : ∀ x ∈ l, -6 ≤ x ∧ x ≤ 6) : ∀ (d k i : Nat) (x : List Int), i ≤ l.length → l.length - i = d → d < k → x.length ≤ i →
    spec_ReducedBraid.l0 k x (i : Int) a l = some (a, red x (l.drop i), 0) := by
  intro d
  induction d with
  | zero =>
    intro k i x hi hd hk hx
    obtain ⟨k, rfl⟩ : ∃ m, k = m + 1 := ⟨k - 1, by omega⟩
    simp only [spec_ReducedBraid.l0]
    rw [if_neg (by omega), List.drop_of_length_le (by omega)]
    rfl
  | succ d ih =>
    intro k i x hi hd hk hx
    obtain ⟨k, rfl⟩ : ∃ m, k = m + 1 := ⟨k - 1, by omega⟩
    have hc := hw l[i] (List.getElem_mem _)
    simp only [spec_ReducedBraid.l0]
    rw [if_pos (by omega), List.drop_eq_getElem_cons (by omega : i < l.length)]
    simp only [red]
    rw [wrap_of (x := (i : Int) + 1) (by omega) (by omega), show ((i : Int) + 1) = ((i + 1 : Nat) : Int) from rfl, rd_lt l i (by omega), wrap_of (x := (x.length : Int) - 1) (by omega) (by omega), wrap_of (x := -l[i]) (by omega) (by omega)]
    by_cases h0 : 0 < x.length
    · rw [if_pos (by omega), if_pos (by omega), if_pos (by omega), if_pos (by omega)]
      by_cases he : rd x ((x.length : Int) - 1) = -l[i]
      · rw [if_pos he, if_pos (by omega), ih k (i + 1) _ (by omega) (by omega) (by omega) (by rw [List.length_take]; omega), if_pos ⟨h0, by rw [rd_last x h0, he]⟩]
        rw [List.dropLast_eq_take, show ((x.length : Int) - 1).toNat = x.length - 1 by omega]
      · rw [if_neg he, if_pos (by omega), ih k (i + 1) _ (by omega) (by omega) (by omega) (by simp; omega), if_neg (by
          rintro ⟨_, h⟩
          rw [rd_last x h0] at h
          exact he (by injection h))]
    · rw [if_neg (by omega), if_pos (by omega), if_pos (by omega), ih k (i + 1) _ (by omega) (by omega) (by omega) (by simp; omega), if_neg (by rintro ⟨h, _⟩; exact h0 h)]
theorem impl_loop (l : List Int) (hl : l.length ≤ 24) (hw : ∀ x ∈ l, -6 ≤ x ∧ x ≤ 6) : ∀ (d k i : Nat) (x : List Int), i ≤ l.length → l.length - i = d → d < k → x.length ≤ i →
    impl_reduced.l0 k x l (l.length : Int) (i : Int) = some (red x (l.drop i)) := by
  intro d
  induction d with
  | zero =>
    intro k i x hi hd hk hx
    obtain ⟨k, rfl⟩ : ∃ m, k = m + 1 := ⟨k - 1, by omega⟩
    simp only [impl_reduced.l0]
    rw [if_neg (by omega), List.drop_of_length_le (by omega)]
    rfl
  | succ d ih =>
    intro k i x hi hd hk hx
    obtain ⟨k, rfl⟩ : ∃ m, k = m + 1 := ⟨k - 1, by omega⟩
    have hc := hw l[i] (List.getElem_mem _)
    simp only [impl_reduced.l0]
    rw [if_pos (by omega), if_pos (by omega), if_pos (by omega), List.drop_eq_getElem_cons (by omega : i < l.length)]
    simp only [red]
    rw [wrap_of (x := (i : Int) + 1) (by omega) (by omega), show ((i : Int) + 1) = ((i + 1 : Nat) : Int) from rfl, rd_lt l i (by omega), wrap_of (x := (x.length : Int) - 1) (by omega) (by omega), wrap_of (x := -l[i]) (by omega) (by omega)]
    by_cases h0 : 0 < x.length
    · rw [if_pos (by omega), if_pos (by omega), if_pos (by omega)]
      by_cases he : rd x ((x.length : Int) - 1) = -l[i]
      · rw [if_pos he, if_pos (by omega), ih k (i + 1) _ (by omega) (by omega) (by omega) (by rw [List.length_take]; omega), if_pos ⟨h0, by rw [rd_last x h0, he]⟩]
        rw [List.dropLast_eq_take, show ((x.length : Int) - 1).toNat = x.length - 1 by omega]
      · rw [if_neg he, if_pos (by omega), ih k (i + 1) _ (by omega) (by omega) (by omega) (by simp; omega), if_neg (by
          rintro ⟨_, h⟩
          rw [rd_last x h0] at h
          exact he (by injection h))]
    · rw [if_neg (by omega), if_pos (by omega), ih k (i + 1) _ (by omega) (by omega) (by omega) (by simp; omega), if_neg (by rintro ⟨h, _⟩; exact h0 h)]
def out (a : Int) (l : List Int) : Int × List Int × Int := if impl_isBraid.b a l = true then (a, red [] l, 0) else (0, [], 1)
theorem out_len (a : Int) (l : List Int) : (out a l).2.1.length ≤ l.length := by
  unfold out
  split
  · have := red_len l []; simpa using this
  · simp
theorem spec_f (k : Nat) (a : Int) (l : List Int) (hk : 26 < k) (hl : l.length ≤ maxLen) : spec_ReducedBraid.f k a l = some (out a l) := by
  unfold spec_ReducedBraid.f out
  rw [valid k a l hk hl]
  simp only [Option.bind_some]
  by_cases h : impl_isBraid.b a l = true
  · have g := good_of h
    rw [if_pos h, if_pos h]
    have := spec_loop a l g.len (fun x hx => by have := g.letter x hx; have := g.lo; have := g.hi; omega) l.length k 0 [] (by omega) (by omega) (by have := g.len; omega) (by simp)
    rwa [show ((0 : Nat) : Int) = 0 from rfl] at this
  · rw [if_neg h, if_neg h]
theorem impl_f (k : Nat) (a : Int) (l : List Int) (hk : 26 < k) : impl_ReducedBraid.f k a l = some (out a l) := by
  unfold impl_ReducedBraid.f out
  rw [isB]
  simp only [Option.bind_some]
  by_cases h : impl_isBraid.b a l = true
  · have g := good_of h
    rw [if_pos h, if_pos h]
    unfold impl_reduced.f
    have := impl_loop l g.len (fun x hx => by have := g.letter x hx; have := g.lo; have := g.hi; omega) l.length k 0 [] (by omega) (by omega) (by have := g.len; omega) (by simp)
    rw [show ((0 : Nat) : Int) = 0 from rfl] at this
    rw [this]
    rfl
  · rw [if_neg h, if_neg h]

theorem FnExactReducedBraid : Pure := by
  intro a l ha hl hw
  refine ⟨(l.length + 27) + 1 + 1 + 1, ?_⟩
  generalize hK : l.length + 27 = K
  unfold laws_FnExactReducedBraid.f
  rw [szB a l 1048576 (by omega) (by omega) hl]
  simp only [Option.bind_some]
  by_cases hb : (1048576 : Int) < l.length
  · rw [if_pos hb, if_pos (by omega)]
  · rw [if_neg hb, if_neg (by omega)]
    have hs : ∀ k, 26 < k → spec_ReducedBraid.f k a l = some (out a l) := fun k hk => spec_f k a l hk hl
    have hi : ∀ k, 26 < k → impl_ReducedBraid.f k a l = some (out a l) := fun k hk => impl_f k a l hk
    have ho := out_len a l
    generalize hO : out a l = o at hs hi ho
    obtain ⟨o1, o2, o3⟩ := o
    have ho2 : o2.length ≤ _ := ho
    simp (disch := omega) only [toB, hs, hi, Option.bind_some, eqB_same, bne_self_eq_false, if_true]
    simp only [laws_FnExactReducedBraid.j0]
    simp (disch := omega) only [if_lt_no, toB, Option.bind_some, eqB_same, markB, bne_self_eq_false, Bool.false_eq_true, if_true, if_false]
    simp only [laws_FnExactReducedBraid.j1]
    simp (disch := omega) only [if_lt_no, toB, hi, Option.bind_some, eqB_same, markB, heldB, bne_self_eq_false, Bool.false_eq_true, if_true, if_false]
    simp only [laws_FnExactReducedBraid.j2]
    simp (disch := omega) only [if_lt_no, Option.bind_some, heldB, Bool.false_eq_true, if_true, if_false]
end Go.Proofs.Ytahjhlcmcnemiaa.fnExactReducedBraid.Pure
