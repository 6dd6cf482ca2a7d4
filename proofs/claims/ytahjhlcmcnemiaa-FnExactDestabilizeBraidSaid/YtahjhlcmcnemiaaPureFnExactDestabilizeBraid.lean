/- DestabilizeBraid: program and reference answer alike for all arguments: the pure statement. -/
import Derived.Test.YtahjhlcmcnemiaaStatFnExactDestabilizeBraid
import Derived.Test.YtahjhlcmcnemiaaPerm
namespace Go.Proofs.Ytahjhlcmcnemiaa.fnExactDestabilizeBraid.Pure
open Go.RowKit Go.Proofs.Ytahjhlcmcnemiaa.PA Go.Proofs.YtahjhlcmcnemiaaW.PrintWords Go.Proofs.YtahjhlcmcnemiaaW.PrintLast Go.Proofs.Ytahjhlcmcnemiaa.Base Go.Proofs.Ytahjhlcmcnemiaa.BaseB
set_option linter.unusedVariables false
set_option linter.unusedSimpArgs false
def ab (x : Int) : Int := if x < 0 then -x else x
theorem sabs_f (x : Int) (h0 : -100 ≤ x) (h1 : x ≤ 100) : spec_l32Abs.f x = some (ab x) := by
  unfold spec_l32Abs.f ab
  rw [wrap_of (by omega) (by omega)]
  unfold mx
  by_cases h : x < 0
  · rw [if_pos h, if_pos (by omega)]
  · rw [if_neg h]
    by_cases h2 : x < -x
    · omega
    · rw [if_neg h2]
theorem iabs_f (x : Int) (h0 : -100 ≤ x) (h1 : x ≤ 100) : impl_abs.f x = some (ab x) := by
  unfold impl_abs.f ab
  rw [wrap_of (by omega) (by omega)]
  by_cases h : x < 0
  · rw [if_pos h, if_pos h]
  · rw [if_neg h, if_neg h]
def cA (g : Int) (l : List Int) : Nat := (l.filter fun x => decide (ab x = g)).length
theorem cA_le (g : Int) (l : List Int) : cA g l ≤ l.length := List.length_filter_le _ _
theorem occ_loop (g : Int) (l : List Int) (hl : l.length ≤ 24) (hw : ∀ x ∈ l, -6 ≤ x ∧ x ≤ 6) : ∀ (d k i c : Nat), i ≤ l.length → l.length - i = d → d < k → c ≤ i →
    impl_occurrences.l0 k g (c : Int) l (l.length : Int) (i : Int) = some ((c + cA g (l.drop i) : Nat) : Int) := by
  intro d
  induction d with
  | zero =>
    intro k i c hi hd hk hc
    obtain ⟨k, rfl⟩ : ∃ m, k = m + 1 := ⟨k - 1, by omega⟩
    simp only [impl_occurrences.l0]
    rw [if_neg (by omega), List.drop_of_length_le (by omega)]
    rfl
  | succ d ih =>
    intro k i c hi hd hk hc
    obtain ⟨k, rfl⟩ : ∃ m, k = m + 1 := ⟨k - 1, by omega⟩
    have hx := hw l[i] (List.getElem_mem _)
    simp only [impl_occurrences.l0]
    rw [if_pos (by omega), if_pos (by omega), if_pos (by omega), rd_lt l i (by omega), iabs_f _ (by omega) (by omega), wrap_of (x := (i : Int) + 1) (by omega) (by omega), wrap_of (x := (c : Int) + 1) (by omega) (by omega), show ((i : Int) + 1) = ((i + 1 : Nat) : Int) from rfl, show ((c : Int) + 1) = ((c + 1 : Nat) : Int) from rfl]
    simp only [Option.bind_some]
    rw [List.drop_eq_getElem_cons (by omega : i < l.length)]
    unfold cA
    rw [List.filter_cons]
    by_cases he : ab l[i] = g
    · rw [if_pos he, ih k (i + 1) (c + 1) (by omega) (by omega) (by omega) (by omega), decide_eq_true he, if_pos rfl, List.length_cons]
      unfold cA
      congr 2
      omega
    · rw [if_neg he, ih k (i + 1) c (by omega) (by omega) (by omega) (by omega), decide_eq_false he, if_neg (by simp)]
      rfl
def out (a : Int) (l : List Int) : Int × List Int × Int :=
  if impl_isBraid.b a l = true then (if a ≠ 1 ∧ 0 < l.length ∧ ab (l.getD (l.length - 1) 0) = a - 1 ∧ cA (a - 1) (l.take (l.length - 1)) = 0 then (a - 1, l.take (l.length - 1), 0) else (0, [], 5)) else (0, [], 1)
theorem out_len (a : Int) (l : List Int) : (out a l).2.1.length ≤ l.length := by
  unfold out
  split
  · split
    · simp
    · simp
  · simp
theorem spec_loop (a : Int) (l : List Int) (h0 : 1 ≤ a) (h1 : a ≤ 6) (hpos : 0 < l.length) (hl : l.length ≤ 24) (hw : ∀ x ∈ l, -6 ≤ x ∧ x ≤ 6) : ∀ (d k i : Nat), i ≤ l.length - 1 → l.length - 1 - i = d → d < k →
    spec_DestabilizeBraid.l0 k ((l.length : Int) - 1) (i : Int) a l = some (if cA (a - 1) ((l.take (l.length - 1)).drop i) = 0 then (a - 1, l.take (l.length - 1), 0) else (0, [], 5)) := by
  intro d
  induction d with
  | zero =>
    intro k i hi hd hk
    obtain ⟨k, rfl⟩ : ∃ m, k = m + 1 := ⟨k - 1, by omega⟩
    simp only [spec_DestabilizeBraid.l0, Option.bind_some, List.length_nil, List.nil_append]
    rw [if_neg (by omega), if_pos (by omega), if_pos (by omega), if_pos (by rw [List.length_take]; omega), wrap_of (by omega) (by omega), List.drop_of_length_le (by rw [List.length_take]; omega), show ((l.length : Int) - 1).toNat = l.length - 1 by omega]
    rfl
  | succ d ih =>
    intro k i hi hd hk
    obtain ⟨k, rfl⟩ : ∃ m, k = m + 1 := ⟨k - 1, by omega⟩
    have hx := hw l[i] (List.getElem_mem _)
    simp only [spec_DestabilizeBraid.l0]
    rw [if_pos (by omega), if_pos (by omega), if_pos (by omega), rd_lt l i (by omega), sabs_f _ (by omega) (by omega), wrap_of (x := (i : Int) + 1) (by omega) (by omega), wrap_of (x := a - 1) (by omega) (by omega), show ((i : Int) + 1) = ((i + 1 : Nat) : Int) from rfl]
    simp only [Option.bind_some]
    have hlt : i < (l.take (l.length - 1)).length := by rw [List.length_take]; omega
    rw [List.drop_eq_getElem_cons hlt]
    unfold cA
    rw [List.filter_cons, List.getElem_take]
    by_cases he : ab l[i] = a - 1
    · rw [if_pos he, decide_eq_true he, if_pos rfl, List.length_cons, if_neg (Nat.succ_ne_zero _)]
    · rw [if_neg he, ih k (i + 1) (by omega) (by omega) (by omega), decide_eq_false he, if_neg Bool.false_ne_true]
      rfl
theorem spec_f (k : Nat) (a : Int) (l : List Int) (hk : 28 < k) (hl : l.length ≤ maxLen) : spec_DestabilizeBraid.f k a l = some (out a l) := by
  obtain ⟨k, rfl⟩ : ∃ m, k = m + 1 := ⟨k - 1, by omega⟩
  have j0 : ∀ x q, spec_DestabilizeBraid.j0 (k + 1) x q a l = if q = true then some (0, [], 5) else spec_DestabilizeBraid.l0 k x 0 a l := fun x q => rfl
  unfold spec_DestabilizeBraid.f out
  rw [valid (k + 1) a l (by omega) hl]
  simp only [Option.bind_some, j0]
  by_cases h : impl_isBraid.b a l = true
  · have g := good_of h
    have g1 := g.lo
    have g2 := g.hi
    have g3 := g.len
    have hw : ∀ x ∈ l, -6 ≤ x ∧ x ≤ 6 := fun x hx => by have := g.letter x hx; omega
    rw [if_pos h, if_pos h, wrap_of (x := (l.length : Int) - 1) (by omega) (by omega)]
    by_cases ha : a = 1
    · rw [if_pos ha, if_pos trivial, if_neg (fun q => q.1 ha)]
    · rw [if_neg ha]
      by_cases hz : l.length = 0
      · rw [if_pos (by omega), if_pos trivial, if_neg (fun q => by omega)]
      · have hx := hw l[l.length - 1] (List.getElem_mem _)
        rw [if_neg (by omega), if_pos (by omega), if_pos (by omega), show ((l.length : Int) - 1) = ((l.length - 1 : Nat) : Int) by omega, rd_lt l _ (by omega), sabs_f _ (by omega) (by omega)]
        simp only [Option.bind_some]
        rw [wrap_of (by omega) (by omega)]
        have hgd : l.getD (l.length - 1) 0 = l[l.length - 1] := by simp [List.getD_eq_getElem?_getD, List.getElem?_eq_getElem (show l.length - 1 < l.length by omega)]
        rw [hgd]
        by_cases he : ab l[l.length - 1] = a - 1
        · rw [bne_eq_false_iff_eq.2 he, if_neg (by simp), show ((l.length - 1 : Nat) : Int) = (l.length : Int) - 1 by omega]
          have := spec_loop a l g1 g2 (by omega) g3 hw (l.length - 1) k 0 (by omega) (by omega) (by omega)
          rw [show ((0 : Nat) : Int) = 0 from rfl] at this
          rw [this, List.drop_zero]
          by_cases hc : cA (a - 1) (l.take (l.length - 1)) = 0
          · rw [if_pos hc, if_pos ⟨ha, by omega, he, hc⟩]
          · rw [if_neg hc, if_neg (fun q => hc q.2.2.2)]
        · rw [bne_iff_ne.2 he, if_pos rfl, if_neg (fun q => he q.2.2.1)]
  · rw [if_neg h, if_neg h]
theorem impl_f (k : Nat) (a : Int) (l : List Int) (hk : 28 < k) : impl_DestabilizeBraid.f k a l = some (out a l) := by
  unfold impl_DestabilizeBraid.f out
  rw [isB]
  simp only [Option.bind_some]
  by_cases h : impl_isBraid.b a l = true
  · have g := good_of h
    have g1 := g.lo
    have g2 := g.hi
    have g3 := g.len
    have hw : ∀ x ∈ l, -6 ≤ x ∧ x ≤ 6 := fun x hx => by have := g.letter x hx; omega
    rw [if_pos h, if_pos h, wrap_of (x := (l.length : Int) - 1) (by omega) (by omega), wrap_of (x := a - 1) (by omega) (by omega)]
    by_cases ha : a = 1
    · rw [if_pos (by omega), if_neg (fun q => q.1 ha)]
    · rw [if_neg (by omega)]
      by_cases hz : l.length = 0
      · rw [if_pos (by omega), if_neg (fun q => by omega)]
      · have hx := hw l[l.length - 1] (List.getElem_mem _)
        rw [if_neg (by omega), if_pos (by omega), if_pos (by omega), show ((l.length : Int) - 1) = ((l.length - 1 : Nat) : Int) by omega, rd_lt l _ (by omega), iabs_f _ (by omega) (by omega)]
        simp only [Option.bind_some]
        have hgd : l.getD (l.length - 1) 0 = l[l.length - 1] := by simp [List.getD_eq_getElem?_getD, List.getElem?_eq_getElem (show l.length - 1 < l.length by omega)]
        rw [hgd]
        by_cases he : ab l[l.length - 1] = a - 1
        · rw [if_pos he]
          unfold impl_occurrences.f
          have ho := occ_loop (a - 1) l g3 hw l.length k 0 0 (by omega) (by omega) (by omega) (by omega)
          rw [show ((0 : Nat) : Int) = 0 from rfl, Nat.zero_add, List.drop_zero] at ho
          rw [ho]
          simp only [Option.bind_some]
          have hsplit : cA (a - 1) l = cA (a - 1) (l.take (l.length - 1)) + 1 := by
            have e : l = l.take (l.length - 1) ++ [l[l.length - 1]] := by
              rw [← List.take_succ_eq_append_getElem (by omega), show l.length - 1 + 1 = l.length by omega, List.take_length]
            conv => lhs; rw [e]
            unfold cA
            rw [List.filter_append, List.length_append, List.filter_cons, decide_eq_true he, if_pos rfl]
            rfl
          rw [Int.toNat_natCast, Perm.clone_f _ (by rw [List.length_take]; omega)]
          simp only [Option.bind_some]
          by_cases hc : cA (a - 1) (l.take (l.length - 1)) = 0
          · rw [if_pos (by omega), if_pos (by omega), if_pos ⟨ha, by omega, he, hc⟩]
          · rw [if_neg (by omega), if_neg (fun q => hc q.2.2.2)]
        · rw [if_neg he, if_neg (fun q => he q.2.2.1)]
  · rw [if_neg h, if_neg h]
theorem FnExactDestabilizeBraid : Pure := by
  intro a l ha hl hw
  refine ⟨(l.length + 30) + 1 + 1 + 1, ?_⟩
  generalize hK : l.length + 30 = K
  unfold laws_FnExactDestabilizeBraid.f
  rw [szB a l 1048576 (by omega) (by omega) hl]
  simp only [Option.bind_some]
  by_cases hb : (1048576 : Int) < l.length
  · rw [if_pos hb, if_pos (by omega)]
  · rw [if_neg hb, if_neg (by omega)]
    have hs : ∀ k, 28 < k → spec_DestabilizeBraid.f k a l = some (out a l) := fun k hk => spec_f k a l hk hl
    have hi : ∀ k, 28 < k → impl_DestabilizeBraid.f k a l = some (out a l) := fun k hk => impl_f k a l hk
    have ho := out_len a l
    generalize hO : out a l = o at hs hi ho
    obtain ⟨o1, o2, o3⟩ := o
    have ho2 : o2.length ≤ _ := ho
    simp (disch := omega) only [toB, hs, hi, Option.bind_some, eqB_same, bne_self_eq_false, if_true]
    simp only [laws_FnExactDestabilizeBraid.j0]
    simp (disch := omega) only [if_lt_no, toB, Option.bind_some, eqB_same, markB, bne_self_eq_false, Bool.false_eq_true, if_true, if_false]
    simp only [laws_FnExactDestabilizeBraid.j1]
    simp (disch := omega) only [if_lt_no, toB, hi, Option.bind_some, eqB_same, markB, heldB, bne_self_eq_false, Bool.false_eq_true, if_true, if_false]
    simp only [laws_FnExactDestabilizeBraid.j2]
    simp (disch := omega) only [if_lt_no, Option.bind_some, heldB, Bool.false_eq_true, if_true, if_false]
end Go.Proofs.Ytahjhlcmcnemiaa.fnExactDestabilizeBraid.Pure
