/- BraidPermutation: program and reference answer alike for all arguments: the pure statement. -/
import Derived.Test.YtahjhlcmcnemiaaStatFnExactBraidPermutation
import Derived.Test.YtahjhlcmcnemiaaPerm
namespace Go.Proofs.Ytahjhlcmcnemiaa.fnExactBraidPermutation.Pure
open Go.RowKit Go.Proofs.Ytahjhlcmcnemiaa.PA Go.Proofs.YtahjhlcmcnemiaaW.PrintWords Go.Proofs.YtahjhlcmcnemiaaW.PrintLast Go.Proofs.Ytahjhlcmcnemiaa.Base Go.Proofs.Ytahjhlcmcnemiaa.BaseB Go.Proofs.Ytahjhlcmcnemiaa.Sorts
set_option linter.unusedVariables false
set_option linter.unusedSimpArgs false
def ab (x : Int) : Int := if x < 0 then -x else x
theorem sabs_f (x : Int) (h0 : -100 ≤ x) (h1 : x ≤ 100) : spec_l32Abs.f x = some (ab x) := by
  unfold spec_l32Abs.f ab
  rw [wrap_of (by omega) (by omega)]
  unfold mx
  by_cases h : x < 0
  · rw [if_pos h, if_pos (by omega)]
  · rw [if_neg h]
    by_cases h2 : x < -x
    · omega
    · rw [if_neg h2]
theorem iabs_f (x : Int) (h0 : -100 ≤ x) (h1 : x ≤ 100) : impl_abs.f x = some (ab x) := by
  unfold impl_abs.f ab
  rw [wrap_of (by omega) (by omega)]
  by_cases h : x < 0
  · rw [if_pos h, if_pos h]
  · rw [if_neg h, if_neg h]
/-- 0, 1, .., n - 1 -/
def idl (n : Nat) : List Int := (List.range n).map (fun i : Nat => (i : Int))
theorem idl_length (n : Nat) : (idl n).length = n := by simp [idl]
theorem idl_succ (n : Nat) : idl (n + 1) = idl n ++ [(n : Int)] := by simp [idl, List.range_succ]
theorem idl_get (n i : Nat) (h : i < n) : (idl n).getD i 0 = i := by simp [idl, List.getD_eq_getElem?_getD, h]
theorem sid_loop (n : Nat) (hn : n ≤ 1000) : ∀ (d k i : Nat), i ≤ n → n - i = d → d < k → spec_l32Identity.l0 k (n : Int) (idl i) (i : Int) = some (idl n) := by
  intro d
  induction d with
  | zero =>
    intro k i hi hd hk
    obtain ⟨k, rfl⟩ : ∃ m, k = m + 1 := ⟨k - 1, by omega⟩
    simp only [spec_l32Identity.l0]
    rw [if_neg (by omega), show i = n by omega]
  | succ d ih =>
    intro k i hi hd hk
    obtain ⟨k, rfl⟩ : ∃ m, k = m + 1 := ⟨k - 1, by omega⟩
    simp only [spec_l32Identity.l0]
    rw [if_pos (by omega), if_pos (by rw [idl_length]; omega), wrap_of (by omega) (by omega), show ((i : Int) + 1) = ((i + 1 : Nat) : Int) from rfl, ← idl_succ]
    exact ih k (i + 1) (by omega) (by omega) (by omega)
theorem cnt_loop (n : Nat) (hn : n ≤ 1000) : ∀ (d k i : Nat), i ≤ n → n - i = d → d < k → impl_counting.l0 k (idl i) (n : Int) (i : Int) = some (idl n) := by
  intro d
  induction d with
  | zero =>
    intro k i hi hd hk
    obtain ⟨k, rfl⟩ : ∃ m, k = m + 1 := ⟨k - 1, by omega⟩
    simp only [impl_counting.l0]
    rw [if_neg (by omega), show i = n by omega]
  | succ d ih =>
    intro k i hi hd hk
    obtain ⟨k, rfl⟩ : ∃ m, k = m + 1 := ⟨k - 1, by omega⟩
    simp only [impl_counting.l0]
    rw [if_pos (by omega), if_pos (by rw [idl_length]; omega), wrap_of (by omega) (by omega), show ((i : Int) + 1) = ((i + 1 : Nat) : Int) from rfl, ← idl_succ]
    exact ih k (i + 1) (by omega) (by omega) (by omega)
/-- The exchange of two neighboring numbers. -/
def sg (j : Int) (v : Int) : Int := if v = j - 1 then j else if v = j then j - 1 else v
theorem end_loop (p : List Int) (j : Int) (h0 : -100 ≤ j) (h1 : j ≤ 100) (hl : p.length ≤ 1000) : ∀ (d k i : Nat) (x : List Int), i ≤ p.length → p.length - i = d → d < k → x.length = i →
    spec_l32End.l0 k p j x (i : Int) = some (x ++ (p.drop i).map (sg j)) := by
  intro d
  induction d with
  | zero =>
    intro k i x hi hd hk hx
    obtain ⟨k, rfl⟩ : ∃ m, k = m + 1 := ⟨k - 1, by omega⟩
    simp only [spec_l32End.l0]
    rw [if_neg (by omega), List.drop_of_length_le (by omega)]
    simp
  | succ d ih =>
    intro k i x hi hd hk hx
    obtain ⟨k, rfl⟩ : ∃ m, k = m + 1 := ⟨k - 1, by omega⟩
    simp only [spec_l32End.l0]
    rw [if_pos (by omega), if_pos (by omega), rd_lt p i (by omega), wrap_of (x := j - 1) (by omega) (by omega), wrap_of (x := (i : Int) + 1) (by omega) (by omega), show ((i : Int) + 1) = ((i + 1 : Nat) : Int) from rfl]
    rw [List.drop_eq_getElem_cons (by omega : i < p.length), List.map_cons]
    unfold sg
    by_cases e1 : p[i] = j - 1
    · rw [if_pos e1, if_pos (by omega), ih k (i + 1) _ (by omega) (by omega) (by omega) (by simp [hx]), if_pos e1, List.append_assoc]
      rfl
    · rw [if_neg e1, if_neg e1]
      by_cases e2 : p[i] = j
      · rw [if_pos e2, if_pos (by omega), ih k (i + 1) _ (by omega) (by omega) (by omega) (by simp [hx]), if_pos e2, List.append_assoc]
        rfl
      · rw [if_neg e2, if_pos (by omega), ih k (i + 1) _ (by omega) (by omega) (by omega) (by simp [hx]), if_neg e2, List.append_assoc]
        rfl
theorem end_f (p : List Int) (j : Int) (k : Nat) (h0 : -100 ≤ j) (h1 : j ≤ 100) (hl : p.length ≤ 1000) (hk : p.length < k) : spec_l32End.f k p j = some (p.map (sg j)) := by
  unfold spec_l32End.f
  have := end_loop p j h0 h1 hl p.length k 0 [] (by omega) (by omega) hk rfl
  rwa [show ((0 : Nat) : Int) = 0 from rfl, List.drop_zero, List.nil_append] at this

/-- One list of n numbers is the inverse of another one. -/
structure Inv (n : Nat) (at_ p : List Int) : Prop where
  la : at_.length = n
  lp : p.length = n
  a0 : ∀ j, j < n → 0 ≤ at_.getD j 0 ∧ at_.getD j 0 < n
  ap : ∀ j, j < n → p.getD (at_.getD j 0).toNat 0 = j
  p0 : ∀ v, v < n → 0 ≤ p.getD v 0 ∧ p.getD v 0 < n
  pa : ∀ v, v < n → at_.getD (p.getD v 0).toNat 0 = v
theorem inv_id (n : Nat) : Inv n (idl n) (idl n) := by
  refine ⟨idl_length n, idl_length n, fun j hj => ?_, fun j hj => ?_, fun v hv => ?_, fun v hv => ?_⟩
  · rw [idl_get n j hj]; omega
  · rw [idl_get n j hj, Int.toNat_natCast, idl_get n j hj]
  · rw [idl_get n v hv]; omega
  · rw [idl_get n v hv, Int.toNat_natCast, idl_get n v hv]
theorem sw_get (l : List Int) (j i : Nat) (hj : 1 ≤ j) (hl : j < l.length) (hi : i < l.length) : (sw l j).getD i 0 = if i = j then l.getD (j - 1) 0 else if i = j - 1 then l.getD j 0 else l.getD i 0 := by
  unfold sw
  simp only [List.getD_eq_getElem?_getD, List.getElem?_set, List.length_set]
  by_cases h1 : j = i
  · subst h1
    rw [if_pos rfl, if_pos hl, if_pos (show j = j from rfl)]
    rfl
  · have h1' : ¬ i = j := fun h => h1 h.symm
    by_cases h2 : j - 1 = i
    · have h2' : i = j - 1 := h2.symm
      rw [if_neg h1, if_pos h2, if_pos (by omega), if_neg h1', if_pos h2']
      rfl
    · have h2' : ¬ i = j - 1 := fun h => h2 h.symm
      rw [if_neg h1, if_neg h2, if_neg h1', if_neg h2']
theorem map_get (f : Int → Int) (l : List Int) (i : Nat) (hi : i < l.length) : (l.map f).getD i 0 = f (l.getD i 0) := by
  simp [List.getD_eq_getElem?_getD, List.getElem?_eq_getElem hi]
theorem inv_step {n : Nat} {at_ p : List Int} (h : Inv n at_ p) (j : Nat) (hj : 1 ≤ j) (hn : j < n) : Inv n (sw at_ j) (p.map (sg j)) := by
  have hla := h.la
  have hlp := h.lp
  refine ⟨by rw [sw_length]; exact hla, by rw [List.length_map]; exact hlp, fun i hi => ?_, fun i hi => ?_, fun v hv => ?_, fun v hv => ?_⟩
  · rw [sw_get at_ j i hj (by omega) (by omega)]
    have h1 := h.a0 (j - 1) (by omega)
    have h2 := h.a0 j hn
    have h3 := h.a0 i hi
    split
    · exact h1
    · split
      · exact h2
      · exact h3
  · rw [sw_get at_ j i hj (by omega) (by omega)]
    have q : ∀ m, m < n → (p.map (sg j)).getD (at_.getD m 0).toNat 0 = sg j m := fun m hm => by
      have := h.a0 m hm
      rw [map_get _ _ _ (by omega), h.ap m hm]
    by_cases e1 : i = j
    · rw [if_pos e1, q (j - 1) (by omega)]; unfold sg; rw [if_pos (by omega)]; omega
    · rw [if_neg e1]
      by_cases e2 : i = j - 1
      · rw [if_pos e2, q j hn]; unfold sg; rw [if_neg (by omega), if_pos rfl]; omega
      · rw [if_neg e2, q i hi]; unfold sg; rw [if_neg (by omega), if_neg (by omega)]
  · rw [map_get _ _ _ (by omega)]
    have := h.p0 v hv
    unfold sg
    split
    · omega
    · split
      · omega
      · exact this
  · rw [map_get _ _ _ (by omega)]
    have h0 := h.p0 v hv
    have h1 := h.pa v hv
    unfold sg
    by_cases e1 : p.getD v 0 = (j : Int) - 1
    · rw [if_pos e1, Int.toNat_natCast, sw_get at_ j j hj (by omega) (by omega), if_pos rfl, ← h1, e1, show ((j : Int) - 1).toNat = j - 1 by omega]
    · rw [if_neg e1]
      by_cases e2 : p.getD v 0 = (j : Int)
      · rw [if_pos e2, show ((j : Int) - 1).toNat = j - 1 by omega, sw_get at_ j (j - 1) hj (by omega) (by omega), if_neg (by omega), if_pos rfl, ← h1, e2, Int.toNat_natCast]
      · rw [if_neg e2, sw_get at_ j _ hj (by omega) (by omega), if_neg (by omega), if_neg (by omega), h1]

theorem ip_loop {n : Nat} (hn : n ≤ 1000) {at_ p : List Int} (h : Inv n at_ p) : ∀ (d k i : Nat) (x : List Int), i ≤ n → n - i = d → d < k → x.length = n → (∀ m, m < i → x.getD (at_.getD m 0).toNat 0 = m) →
    impl_inversePermutation.l0 k x at_ (at_.length : Int) (i : Int) = some p := by
  have hla := h.la
  intro d
  induction d with
  | zero =>
    intro k i x hi hd hk hx hm
    obtain ⟨k, rfl⟩ : ∃ m, k = m + 1 := ⟨k - 1, by omega⟩
    simp only [impl_inversePermutation.l0]
    rw [if_neg (by omega)]
    congr 1
    apply List.ext_getElem (by rw [hx, h.lp])
    intro v hv1 hv2
    have hv : v < n := by omega
    have g0 := h.p0 v hv
    have g1 := h.pa v hv
    have g2 := hm (p.getD v 0).toNat (by omega)
    rw [g1, Int.toNat_natCast] at g2
    have e1 : x.getD v 0 = x[v] := by simp [List.getD_eq_getElem?_getD, List.getElem?_eq_getElem hv1]
    have e2 : p.getD v 0 = p[v] := by simp [List.getD_eq_getElem?_getD, List.getElem?_eq_getElem hv2]
    rw [← e1, ← e2, g2]
    omega
  | succ d ih =>
    intro k i x hi hd hk hx hm
    obtain ⟨k, rfl⟩ : ∃ m, k = m + 1 := ⟨k - 1, by omega⟩
    have g0 := h.a0 i (by omega)
    simp only [impl_inversePermutation.l0]
    rw [if_pos (by omega), if_pos (by omega), if_pos (by omega), rd_nat, if_pos g0.1, if_pos (by omega), wrap_of (by omega) (by omega), show ((i : Int) + 1) = ((i + 1 : Nat) : Int) from rfl]
    refine ih k (i + 1) _ (by omega) (by omega) (by omega) (by simpa using hx) fun m hm2 => ?_
    have q0 := h.a0 m (by omega)
    rw [List.getD_eq_getElem?_getD, List.getElem?_set]
    by_cases e : (at_.getD i 0).toNat = (at_.getD m 0).toNat
    · have e' : at_.getD i 0 = at_.getD m 0 := by omega
      have : (i : Int) = m := by rw [← h.ap i (by omega), ← h.ap m (by omega), e']
      rw [if_pos e, if_pos (by omega)]
      simp
      omega
    · rw [if_neg e, ← List.getD_eq_getElem?_getD]
      refine hm m ?_
      have : m ≠ i := fun q => e (by rw [q])
      omega
theorem ip_f {n : Nat} (hn : n ≤ 1000) {at_ p : List Int} (h : Inv n at_ p) (k : Nat) (hk : n < k) : impl_inversePermutation.f k at_ = some p := by
  have hla := h.la
  unfold impl_inversePermutation.f
  rw [if_pos (by omega), if_pos (by omega), Int.toNat_natCast]
  have := ip_loop hn h n k 0 (List.replicate at_.length 0) (by omega) (by omega) hk (by simpa using hla) (fun m hm => absurd hm (by omega))
  rwa [show ((0 : Nat) : Int) = 0 from rfl] at this

def step (p : List Int) (x : Int) : List Int := p.map (sg (ab x))
theorem spec_loop (a : Int) (l : List Int) (hl : l.length ≤ 24) (hw : ∀ x ∈ l, -6 ≤ x ∧ x ≤ 6) : ∀ (d k i : Nat) (p : List Int), p.length ≤ 6 → i ≤ l.length → l.length - i = d → d + 7 < k →
    spec_BraidPermutation.l0 k p (i : Int) a l = some ((l.drop i).foldl step p) := by
  intro d
  induction d with
  | zero =>
    intro k i p hp hi hd hk
    obtain ⟨k, rfl⟩ : ∃ m, k = m + 1 := ⟨k - 1, by omega⟩
    simp only [spec_BraidPermutation.l0]
    rw [if_neg (by omega), List.drop_of_length_le (by omega)]
    rfl
  | succ d ih =>
    intro k i p hp hi hd hk
    obtain ⟨k, rfl⟩ : ∃ m, k = m + 1 := ⟨k - 1, by omega⟩
    have hx := hw l[i] (List.getElem_mem _)
    have ha : -6 ≤ ab l[i] ∧ ab l[i] ≤ 6 := by unfold ab; split <;> omega
    simp only [spec_BraidPermutation.l0]
    rw [if_pos (by omega), if_pos (by omega), rd_lt l i (by omega), sabs_f _ (by omega) (by omega), wrap_of (x := (i : Int) + 1) (by omega) (by omega), show ((i : Int) + 1) = ((i + 1 : Nat) : Int) from rfl]
    simp only [Option.bind_some]
    rw [end_f p _ k (by omega) (by omega) (by omega) (by omega)]
    simp only [Option.bind_some]
    rw [ih k (i + 1) _ (by rw [List.length_map]; exact hp) (by omega) (by omega) (by omega), List.drop_eq_getElem_cons (by omega : i < l.length), List.foldl_cons]
    rfl
theorem impl_loop (n : Nat) (hn : n ≤ 6) (l : List Int) (hl : l.length ≤ 24) (hw : ∀ x ∈ l, x ≠ 0 ∧ 1 - (n : Int) ≤ x ∧ x ≤ (n : Int) - 1) : ∀ (d k i : Nat) (at_ p : List Int), Inv n at_ p → i ≤ l.length → l.length - i = d → d + 7 < k →
    impl_BraidPermutation.l0 k at_ l (l.length : Int) (i : Int) = some ((l.drop i).foldl step p) := by
  intro d
  induction d with
  | zero =>
    intro k i at_ p h hi hd hk
    obtain ⟨k, rfl⟩ : ∃ m, k = m + 1 := ⟨k - 1, by omega⟩
    simp only [impl_BraidPermutation.l0]
    rw [if_neg (by omega), List.drop_of_length_le (by omega), ip_f (by omega) h k (by omega)]
    rfl
  | succ d ih =>
    intro k i at_ p h hi hd hk
    obtain ⟨k, rfl⟩ : ∃ m, k = m + 1 := ⟨k - 1, by omega⟩
    have hx := hw l[i] (List.getElem_mem _)
    obtain ⟨j, hj⟩ : ∃ j : Nat, ab l[i] = j := ⟨(ab l[i]).toNat, by unfold ab; split <;> omega⟩
    have hj1 : 1 ≤ j ∧ j < n := by
      have : 1 ≤ ab l[i] ∧ ab l[i] < n := by unfold ab; split <;> omega
      omega
    have hla := h.la
    simp only [impl_BraidPermutation.l0]
    rw [if_pos (by omega), if_pos (by omega), if_pos (by omega), rd_lt l i (by omega), iabs_f _ (by omega) (by omega), wrap_of (x := (i : Int) + 1) (by omega) (by omega), show ((i : Int) + 1) = ((i + 1 : Nat) : Int) from rfl]
    simp only [Option.bind_some]
    rw [hj, Perm.swap_f at_ j hj1.1 (by omega) (by omega)]
    simp only [Option.bind_some]
    rw [ih k (i + 1) _ _ (inv_step h j hj1.1 hj1.2) (by omega) (by omega) (by omega), List.drop_eq_getElem_cons (by omega : i < l.length), List.foldl_cons]
    unfold step
    rw [hj]
def out (a : Int) (l : List Int) : List Int := if impl_isBraid.b a l = true then l.foldl step (idl a.toNat) else []
theorem fold_len (l : List Int) : ∀ p, (l.foldl step p).length = p.length := by
  induction l with
  | nil => intro p; rfl
  | cons x l ih => intro p; rw [List.foldl_cons, ih]; simp [step]
theorem out_len (a : Int) (l : List Int) : (out a l).length ≤ 6 := by
  unfold out
  split
  · rename_i h
    have g := good_of h
    have := g.hi
    rw [fold_len, idl_length]; omega
  · simp
theorem spec_f (k : Nat) (a : Int) (l : List Int) (hk : 50 < k) (hl : l.length ≤ maxLen) : spec_BraidPermutation.f k a l = some (out a l) := by
  unfold spec_BraidPermutation.f out
  rw [valid k a l (by omega) hl]
  simp only [Option.bind_some]
  by_cases h : impl_isBraid.b a l = true
  · have g := good_of h
    have g1 := g.lo
    have g2 := g.hi
    have g3 := g.len
    rw [if_pos h, if_pos h]
    unfold spec_l32Identity.f
    obtain ⟨n, rfl⟩ := Int.eq_ofNat_of_zero_le (by omega : 0 ≤ a)
    have h1 := sid_loop n (by omega) n k 0 (by omega) (by omega) (by omega)
    have e0 : idl 0 = [] := rfl
    rw [show ((0 : Nat) : Int) = 0 from rfl, e0] at h1
    rw [h1]
    simp only [Option.bind_some]
    have h2 := spec_loop n l g3 (fun x hx => by have := g.letter x hx; omega) l.length k 0 (idl n) (by rw [idl_length]; omega) (by omega) (by omega) (by omega)
    rw [show ((0 : Nat) : Int) = 0 from rfl, List.drop_zero] at h2
    rw [h2, Int.toNat_natCast]
  · rw [if_neg h, if_neg h]
theorem impl_f (k : Nat) (a : Int) (l : List Int) (hk : 50 < k) : impl_BraidPermutation.f k a l = some (out a l) := by
  unfold impl_BraidPermutation.f out
  rw [isB]
  simp only [Option.bind_some]
  by_cases h : impl_isBraid.b a l = true
  · have g := good_of h
    have g1 := g.lo
    have g2 := g.hi
    have g3 := g.len
    rw [if_pos h, if_pos h]
    unfold impl_counting.f
    obtain ⟨n, rfl⟩ := Int.eq_ofNat_of_zero_le (by omega : 0 ≤ a)
    have h1 := cnt_loop n (by omega) n k 0 (by omega) (by omega) (by omega)
    have e0 : idl 0 = [] := rfl
    rw [show ((0 : Nat) : Int) = 0 from rfl, e0] at h1
    rw [h1]
    simp only [Option.bind_some]
    have h2 := impl_loop n (by omega) l g3 g.letter l.length k 0 (idl n) (idl n) (inv_id n) (by omega) (by omega) (by omega)
    rw [show ((0 : Nat) : Int) = 0 from rfl, List.drop_zero] at h2
    rw [h2, Int.toNat_natCast]
  · rw [if_neg h, if_neg h]
theorem FnExactBraidPermutation : Pure := by
  intro a l ha hl hw
  refine ⟨(l.length + 60) + 1, ?_⟩
  generalize hK : l.length + 60 = K
  unfold laws_FnExactBraidPermutation.f
  rw [szB a l 1048576 (by omega) (by omega) hl]
  simp only [Option.bind_some]
  by_cases hb : (1048576 : Int) < l.length
  · rw [if_pos hb, if_pos (by omega)]
  · rw [if_neg hb, if_neg (by omega)]
    have hs : ∀ k, 50 < k → spec_BraidPermutation.f k a l = some (out a l) := fun k hk => spec_f k a l hk hl
    have hi : ∀ k, 50 < k → impl_BraidPermutation.f k a l = some (out a l) := fun k hk => impl_f k a l hk
    have ho := out_len a l
    generalize hO : out a l = o at hs hi ho
    simp (disch := omega) only [if_lt_no, toB, hs, hi, Option.bind_some, eqInts_same, eqB_same, markB, bne_self_eq_false, Bool.not_true, Bool.false_eq_true, if_true, if_false]
    simp only [laws_FnExactBraidPermutation.j0]
    simp (disch := omega) only [if_lt_no, toB, hi, Option.bind_some, eqInts_same, markInts, heldInts, bne_self_eq_false, Bool.false_eq_true, if_true, if_false]
end Go.Proofs.Ytahjhlcmcnemiaa.fnExactBraidPermutation.Pure
