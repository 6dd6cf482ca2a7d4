import Derived.Test.YtahjhlcmcnemiaaP1
set_option linter.unusedVariables false
set_option linter.unusedSimpArgs false
section
namespace Go.Proofs.Ytahjhlcmcnemiaa.AE
open Go Go.AE Go.Proofs
variable {F : Nat}
section
variable {α : Type} [Inhabited α]
theorem gset_eq {l : List α} {n : Nat} {x : α} (h : n < l.length) : gt (l.set n x) n = x := by
  unfold gt; rw [List.getD_eq_getElem?_getD, List.getElem?_set_self h]; rfl
theorem gset_ne {l : List α} {n m : Nat} {x : α} (h : n ≠ m) : gt (l.set n x) m = gt l m := by
  unfold gt; rw [List.getD_eq_getElem?_getD, List.getD_eq_getElem?_getD, List.getElem?_set_ne h]
theorem gt_out {l : List α} {n : Nat} (h : l.length ≤ n) : gt l n = default := by
  unfold gt; rw [List.getD_eq_getElem?_getD, List.getElem?_eq_none h]; rfl
theorem gext {l m : List α} (h : l.length = m.length) (hh : ∀ n : Nat, n < l.length → gt l n = gt m n) : l = m := by
  apply List.ext_getElem?
  intro n
  by_cases hn : n < l.length
  · rw [gt_get hn, gt_get (by omega), hh n hn]
  · rw [List.getElem?_eq_none (by omega), List.getElem?_eq_none (by omega)]
theorem gmem {l : List α} {n : Nat} (h : n < l.length) : gt l n ∈ l := List.mem_of_getElem? (gt_get h)
theorem gapp_lt {l m : List α} {n : Nat} (h : n < l.length) : gt (l ++ m) n = gt l n := by
  unfold gt; rw [List.getD_eq_getElem?_getD, List.getD_eq_getElem?_getD, List.getElem?_append_left h]
theorem gapp_eq {l : List α} {x : α} : gt (l ++ [x]) l.length = x := by
  unfold gt; rw [List.getD_eq_getElem?_getD, List.getElem?_append_right (Nat.le_refl _), Nat.sub_self]; rfl
theorem grep {n m : Nat} {x : α} (h : m < n) : gt (List.replicate n x) m = x := by
  unfold gt; rw [List.getD_eq_getElem?_getD, List.getElem?_replicate, if_pos h]; rfl
theorem mem_gt {l : List α} {x : α} (h : x ∈ l) : ∃ n, n < l.length ∧ gt l n = x := by
  obtain ⟨n, hn⟩ := List.getElem?_of_mem h
  have hl := (List.getElem?_eq_some_iff.1 hn).1
  refine ⟨n, hl, ?_⟩
  rw [gt_get hl] at hn; exact Option.some.inj hn
end
section
variable {α : Type}
theorem ix_of {l : List α} {i : Int} (h0 : 0 ≤ i) (h : i < l.length) : ix l i = some i.toNat := by
  unfold ix; rw [if_pos ⟨h0, h⟩]
theorem ixn {l : List α} {n : Nat} (h : n < l.length) : ix l (n : Int) = some n := by
  rw [ix_of (by omega) (by omega)]; simp
theorem apn_of {l m : List α} (h : l.length + m.length ≤ 4294967296) : apn l m = some (l ++ m) := by unfold apn; rw [if_pos h]
theorem mkn_of {n : Nat} {x : α} (h : n ≤ 4294967296) : mkn (n : Int) x = some (List.replicate n x) := by
  unfold mkn; rw [if_pos (by omega)]; simp
end
theorem wn {i : Nat} (h : i ≤ 4294967296) : IntKind.i64.wrap (i : Int) = (i : Int) := w64_in (by omega) (by omega)
theorem ws {i : Nat} (h : i ≤ 4294967296) : IntKind.i64.wrap ((i : Int) + 1) = ((i + 1 : Nat) : Int) := by rw [w64_in (by omega) (by omega)]; omega
theorem dT {i n : Nat} (h : i < n) : decide ((i : Int) < (n : Int)) = true := decide_eq_true (by omega)
theorem dF {i n : Nat} (h : n ≤ i) : decide ((i : Int) < (n : Int)) = false := decide_eq_false (by omega)
abbrev Cr := Int × Int × Int × Int × Int
theorem eqCr_l {l : List Cr} (hl : l.length ≤ 2000000) : ∀ (n g : Nat) (i : Nat), l.length - i = n → n < g → aq.pl29 F g l l (i : Int) = some true := by
  intro n
  induction n with
  | zero =>
    intro g i hn hg
    obtain ⟨g, rfl⟩ : ∃ g', g = g' + 1 := ⟨g - 1, by omega⟩
    rw [aq.pl29, dF (by omega), cond_false]
  | succ n ih =>
    intro g i hn hg
    obtain ⟨g, rfl⟩ : ∃ g', g = g' + 1 := ⟨g - 1, by omega⟩
    rw [aq.pl29, dT (by omega), cond_true, ixn (by omega), ws (by omega)]
    simp only [Option.bind_some, aW.p, bne_self_eq_false, cond_false, Bool.not_true]
    exact ih g (i + 1) (by omega) (by omega)
theorem eqDg {l : List Cr} {c : Int} (hF : 5000000 < F) (hl : l.length ≤ 2000000) : aI.p F l c l c = some true := by
  unfold aI.p aq.p
  have := eqCr_l (F := F) hl l.length F 0 (by omega) (by omega)
  rw [show ((0 : Nat) : Int) = 0 from rfl] at this
  simp only [bne_self_eq_false, cond_false, this, Option.bind_some, Bool.not_true]
theorem maxLen_le : maxLen ≤ 9223372036854775807 := by decide
theorem jn {x a b : Int} : aD.p F x a b = some (decide (a ≤ x ∧ x ≤ b)) := by
  unfold aD.p
  by_cases h : x ≥ a
  · rw [decide_eq_true h, cond_true]; congr 1; simp only [ge_iff_le] at h; simp [h]
  · rw [decide_eq_false h, cond_false]; congr 1; simp only [ge_iff_le] at h; simp [h]
theorem jo {x a b : Int} : aE.p F x a b = some (decide (a ≤ x ∧ x ≤ b)) := by
  unfold aE.p
  by_cases h : a ≤ x
  · rw [decide_eq_true h, cond_true]; congr 1; simp [h]
  · rw [decide_eq_false h, cond_false]; congr 1; simp [h]
theorem eqInt_l {l : List Int} (hl : l.length ≤ 2000000) : ∀ (n g : Nat) (i : Nat), l.length - i = n → n < g → ar.pl29 F g l l (i : Int) = some true := by
  intro n
  induction n with
  | zero =>
    intro g i hn hg
    obtain ⟨g, rfl⟩ : ∃ g', g = g' + 1 := ⟨g - 1, by omega⟩
    rw [ar.pl29, dF (by omega), cond_false]
  | succ n ih =>
    intro g i hn hg
    obtain ⟨g, rfl⟩ : ∃ g', g = g' + 1 := ⟨g - 1, by omega⟩
    rw [ar.pl29, dT (by omega), cond_true, ixn (by omega), Option.bind_some, Option.bind_some, bne_self_eq_false, cond_false, ws (by omega)]
    exact ih g (i + 1) (by omega) (by omega)
theorem eqInt {l : List Int} (hF : 5000000 < F) (hl : l.length ≤ 2000000) : ar.p F l l = some true := by
  unfold ar.p
  rw [bne_self_eq_false, cond_false]
  exact eqInt_l hl l.length F 0 (by omega) (by omega)
def Cnt (l : List Int) (k : Nat) : Prop := ∀ n : Nat, n < l.length → gt l n = ((k + n : Nat) : Int)
theorem mark_l : ∀ (n g : Nat) (l : List Int) (i k : Nat), l.length ≤ 2000000 → l.length - i = n → n < g → i ≤ l.length → k ≤ 100000000 →
    ∃ l', au.pl13 F g l ((k + i : Nat) : Int) (i : Int) = some (((k + l.length : Nat) : Int), l') ∧ l'.length = l.length ∧ (∀ a : Nat, a < i → gt l' a = gt l a) ∧ (∀ a : Nat, i ≤ a → a < l.length → gt l' a = ((k + a : Nat) : Int)) := by
  intro n
  induction n with
  | zero =>
    intro g l i k hl hn hg hi hk
    obtain ⟨g, rfl⟩ : ∃ g', g = g' + 1 := ⟨g - 1, by omega⟩
    rw [au.pl13, dF (by omega), cond_false]
    refine ⟨l, ?_, rfl, fun _ _ => rfl, fun a h1 h2 => by omega⟩
    rw [show l.length = i by omega]
  | succ n ih =>
    intro g l i k hl hn hg hi hk
    obtain ⟨g, rfl⟩ : ∃ g', g = g' + 1 := ⟨g - 1, by omega⟩
    rw [au.pl13, dT (by omega), cond_true, ixn (by omega), Option.bind_some, Option.bind_some, ws (by omega), ws (by omega), Nat.add_assoc]
    obtain ⟨l', e1, e2, e3, e4⟩ := ih g (l.set i ((k + i : Nat) : Int)) (i + 1) k (by rw [List.length_set]; exact hl) (by rw [List.length_set]; omega) (by omega) (by rw [List.length_set]; omega) hk
    rw [List.length_set] at e1 e2 e4
    refine ⟨l', e1, e2, fun a h => ?_, fun a h1 h2 => ?_⟩
    · rw [e3 a (by omega), gset_ne (by omega)]
    · by_cases e : a = i
      · rw [e3 a (by omega), e, gset_eq (by omega)]
      · exact e4 a (by omega) h2
theorem mark {l : List Int} {k : Nat} (hF : 5000000 < F) (hl : l.length ≤ 2000000) (hk2 : k ≤ 100000000) :
    ∃ l', au.p F l (k : Int) = some (((k + l.length : Nat) : Int), l') ∧ l'.length = l.length ∧ Cnt l' k := by
  obtain ⟨l', e1, e2, e3, e4⟩ := mark_l (F := F) l.length F l 0 k hl (by omega) (by omega) (by omega) hk2
  exact ⟨l', e1, e2, fun n hn => e4 n (by omega) (by omega)⟩
theorem toInt_l {l : List Int} (hl : l.length ≤ 2000000) : ∀ (n g : Nat) (m : List Int) (i : Nat), l.length - i = n → n < g → i ≤ l.length → m.length = l.length → (∀ a : Nat, a < i → gt m a = gt l a) →
    aw.pl29 F g l m (i : Int) = some l := by
  intro n
  induction n with
  | zero =>
    intro g m i hn hg hi hm hh
    obtain ⟨g, rfl⟩ : ∃ g', g = g' + 1 := ⟨g - 1, by omega⟩
    rw [aw.pl29, dF (by omega), cond_false]
    rw [gext hm (fun a h => hh a (by omega))]
  | succ n ih =>
    intro g m i hn hg hi hm hh
    obtain ⟨g, rfl⟩ : ∃ g', g = g' + 1 := ⟨g - 1, by omega⟩
    rw [aw.pl29, dT (by omega), cond_true, ixn (by omega), ixn (by omega), ws (by omega)]
    simp only [Option.bind_some]
    refine ih g _ (i + 1) (by omega) (by omega) (by omega) (by simp only [List.length_set]; exact hm) fun a ha => ?_
    by_cases e : a = i
    · subst e
      have h1 : a < m.length := by omega
      simp only [gset_eq, h1]
    · simp only [gset_ne (Ne.symm e)]; exact hh a (by omega)
theorem toBr {l : List Int} {c : Int} (hF : 5000000 < F) (hl : l.length ≤ 2000000) : aH.p F c l = some (c, l) := by
  unfold aH.p aw.p
  rw [mkn_of (by omega), Option.bind_some]
  have := toInt_l (F := F) hl l.length F (List.replicate l.length 0) 0 (by omega) (by omega) (by omega) (by simp) (fun a h => by omega)
  rw [show ((0 : Nat) : Int) = 0 from rfl] at this
  rw [this]; rfl
theorem szBr {l : List Int} (hm : l.length ≤ maxLen) : aO.p F l 1048576 = some (if 1048576 < l.length then (-1 : Int) else (1048576 : Int) - (l.length : Int)) := by
  unfold aO.p aX.p
  have := maxLen_le
  rw [w64_in (by omega) (by omega)]
  by_cases h : 1048576 < l.length
  · rw [decide_eq_true (show (1048576 : Int) - l.length < 0 by omega), cond_true, Option.bind_some, if_pos h]; rfl
  · rw [decide_eq_false (show ¬ (1048576 : Int) - l.length < 0 by omega), cond_false, Option.bind_some, if_neg h, decide_eq_false (by omega), cond_false]
def CntC (l : List Cr) (k : Nat) : Prop := ∀ n : Nat, n < l.length → gt l n = (((k + 5 * n : Nat) : Int), ((k + 5 * n + 1 : Nat) : Int), ((k + 5 * n + 2 : Nat) : Int), ((k + 5 * n + 3 : Nat) : Int), ((k + 5 * n + 4 : Nat) : Int))
theorem markCr_l : ∀ (n g : Nat) (l : List Cr) (i k N : Nat), l.length = N → N ≤ 2000000 → N - i = n → n < g → i ≤ N → k ≤ 1000000 →
    (∀ a : Nat, a < i → gt l a = (((k + 5 * a : Nat) : Int), ((k + 5 * a + 1 : Nat) : Int), ((k + 5 * a + 2 : Nat) : Int), ((k + 5 * a + 3 : Nat) : Int), ((k + 5 * a + 4 : Nat) : Int))) →
    ∃ l', av.pl13 F g l ((k + 5 * i : Nat) : Int) (i : Int) = some (((k + 5 * N : Nat) : Int), l') ∧ l'.length = N ∧ CntC l' k := by
  intro n
  induction n with
  | zero =>
    intro g l i k N hN hl hn hg hi hk hh
    obtain ⟨g, rfl⟩ : ∃ g', g = g' + 1 := ⟨g - 1, by omega⟩
    rw [av.pl13, dF (by omega), cond_false]
    exact ⟨l, by rw [show i = N by omega], hN, fun a ha => hh a (by omega)⟩
  | succ n ih =>
    intro g l i k N hN hl hn hg hi0 hk hh
    obtain ⟨g, rfl⟩ : ∃ g', g = g' + 1 := ⟨g - 1, by omega⟩
    have hi : i < l.length := by omega
    rw [av.pl13, dT (by omega), cond_true, ixn hi]
    simp only [Option.bind_some]
    have e1 : IntKind.i64.wrap (((k + 5 * i : Nat) : Int) + 1) = ((k + 5 * i + 1 : Nat) : Int) := ws (by omega)
    have e2 : IntKind.i64.wrap (((k + 5 * i + 1 : Nat) : Int) + 1) = ((k + 5 * i + 2 : Nat) : Int) := ws (by omega)
    have e3 : IntKind.i64.wrap (((k + 5 * i + 2 : Nat) : Int) + 1) = ((k + 5 * i + 3 : Nat) : Int) := ws (by omega)
    have e4 : IntKind.i64.wrap (((k + 5 * i + 3 : Nat) : Int) + 1) = ((k + 5 * i + 4 : Nat) : Int) := ws (by omega)
    have e5 : IntKind.i64.wrap (((k + 5 * i + 4 : Nat) : Int) + 1) = ((k + 5 * (i + 1) : Nat) : Int) := ws (by omega)
    simp only [e1, e2, e3, e4, e5, ws (show i ≤ 4294967296 by omega)]
    rw [ixn (by simp only [List.length_set]; exact hi), Option.bind_some, ixn (by simp only [List.length_set]; exact hi), Option.bind_some, ixn (by simp only [List.length_set]; exact hi), Option.bind_some, ixn (by simp only [List.length_set]; exact hi), Option.bind_some]
    refine ih g _ (i + 1) k N (by simp only [List.length_set]; exact hN) hl (by omega) (by omega) (by omega) hk (fun a ha => ?_)
    by_cases e : a = i
    · subst e
      simp only [gset_eq, List.length_set, hi]
    · simp only [gset_ne (Ne.symm e)]; exact hh a (by omega)
theorem markDg {l : List Cr} (hF : 5000000 < F) (hl : l.length ≤ 2000000) : ∃ l', aU.p F l 1 = some (((1 + 5 * l.length : Nat) : Int), l') ∧ l'.length = l.length ∧ CntC l' 1 := by
  obtain ⟨l', e, e2, e3⟩ := markCr_l (F := F) l.length F l 0 1 l.length rfl hl (by omega) (by omega) (by omega) (by omega) (fun a h => by omega)
  have e : av.pl13 F F l 1 0 = _ := e
  refine ⟨l', ?_, e2, e3⟩
  unfold aU.p av.p
  rw [e]; rfl
theorem heldCr_l {l : List Cr} {k : Nat} (hl : l.length ≤ 2000000) (hk2 : k ≤ 100000000) (hc : CntC l k) : ∀ (n g : Nat) (i : Nat), l.length - i = n → n < g → i ≤ l.length →
    ax.pl13 F g l ((k + 5 * i : Nat) : Int) (i : Int) = some ((k + 5 * l.length : Nat) : Int) := by
  intro n
  induction n with
  | zero =>
    intro g i hn hg hi
    obtain ⟨g, rfl⟩ : ∃ g', g = g' + 1 := ⟨g - 1, by omega⟩
    rw [ax.pl13, dF (by omega), cond_false, show l.length = i by omega]
  | succ n ih =>
    intro g i hn hg hi
    obtain ⟨g, rfl⟩ : ∃ g', g = g' + 1 := ⟨g - 1, by omega⟩
    have e1 : IntKind.i64.wrap (((k + 5 * i : Nat) : Int) + 1) = ((k + 5 * i + 1 : Nat) : Int) := ws (by omega)
    have e2 : IntKind.i64.wrap (((k + 5 * i + 1 : Nat) : Int) + 1) = ((k + 5 * i + 2 : Nat) : Int) := ws (by omega)
    have e3 : IntKind.i64.wrap (((k + 5 * i + 2 : Nat) : Int) + 1) = ((k + 5 * i + 3 : Nat) : Int) := ws (by omega)
    have e4 : IntKind.i64.wrap (((k + 5 * i + 3 : Nat) : Int) + 1) = ((k + 5 * i + 4 : Nat) : Int) := ws (by omega)
    have e5 : IntKind.i64.wrap (((k + 5 * i + 4 : Nat) : Int) + 1) = ((k + 5 * (i + 1) : Nat) : Int) := ws (by omega)
    rw [ax.pl13, dT (by omega), cond_true]
    simp only [ixn (show i < l.length by omega), Option.bind_some, e1, e2, e3, e4, e5, ws (show i ≤ 4294967296 by omega)]
    simp only [hc i (by omega), bne_self_eq_false, cond_false]
    exact ih g (i + 1) (by omega) (by omega) (by omega)
theorem heldDg {l : List Cr} {k : Nat} (hF : 5000000 < F) (hl : l.length ≤ 2000000) (hk2 : k ≤ 100000000) (hc : CntC l k) : aL.p F l (k : Int) = some ((k + 5 * l.length : Nat) : Int) := by
  unfold aL.p ax.p
  have := heldCr_l (F := F) hl hk2 hc l.length F 0 (by omega) (by omega) (by omega)
  rw [Nat.mul_zero, Nat.add_zero, show ((0 : Nat) : Int) = 0 from rfl] at this
  rw [this, Option.bind_some, decide_eq_false (by omega), cond_false]
end Go.Proofs.Ytahjhlcmcnemiaa.AE
end
section
namespace Go.Proofs.Ytahjhlcmcnemiaa.AE
open Go Go.AE Go.Proofs
variable {F : Nat}
def ltr (s x : Int) : Bool := decide (x ≠ 0 ∧ 1 - s ≤ x ∧ x ≤ s - 1)
theorem kk {s x : Int} (h1 : 1 ≤ s) (h2 : s ≤ 6) : aM.p F x s = some (ltr s x) := by
  unfold aM.p ltr
  rw [w64_in (by omega) (by omega), w64_in (by omega) (by omega), jn, Option.bind_some]
  by_cases h : x = 0
  · subst h; rfl
  · rw [show (x != 0) = true by simpa using h, cond_true]; congr 1; simp [h]
theorem kl {s x : Int} (h1 : 1 ≤ s) (h2 : s ≤ 6) : aQ.p F s x = some (ltr s x) := by
  unfold aQ.p ltr
  rw [w64_in (by omega) (by omega), w64_in (by omega) (by omega), jo, Option.bind_some]
  by_cases h : x = 0
  · subst h; rfl
  · rw [show (x != 0) = true by simpa using h, cond_true]; congr 1; simp [h]
theorem drop_gt {α : Type} [Inhabited α] {l : List α} {i : Nat} (h : i < l.length) : l.drop i = gt l i :: l.drop (i + 1) := by
  rw [List.drop_eq_getElem_cons h]; congr 1
  have := gt_get h; rw [List.getElem?_eq_getElem h] at this; exact Option.some.inj this
theorem sval_l {s : Int} (h1 : 1 ≤ s) (h2 : s ≤ 6) {W : List Int} (hW : W.length ≤ 1000) : ∀ (m g i : Nat), W.length - i = m → m < g → i ≤ W.length →
    ak.pl29 F g s W (i : Int) = some ((W.drop i).all (ltr s)) := by
  intro m
  induction m with
  | zero =>
    intro g i hm hg hi
    obtain ⟨g, rfl⟩ : ∃ g', g = g' + 1 := ⟨g - 1, by omega⟩
    rw [ak.pl29, dF (by omega), cond_false, List.drop_eq_nil_of_le (by omega)]; rfl
  | succ m ih =>
    intro g i hm hg hi
    obtain ⟨g, rfl⟩ : ∃ g', g = g' + 1 := ⟨g - 1, by omega⟩
    rw [ak.pl29, dT (by omega), cond_true, ixn (by omega), Option.bind_some, kk h1 h2, Option.bind_some, drop_gt (by omega), List.all_cons, ws (by omega), ih g (i + 1) (by omega) (by omega) (by omega)]
    cases ltr s (gt W i) <;> rfl
theorem ival_l {s : Int} (h1 : 1 ≤ s) (h2 : s ≤ 6) {W : List Int} (hW : W.length ≤ 1000) : ∀ (m g i : Nat), W.length - i = m → m < g → i ≤ W.length →
    ∃ r, ap.pl13 F g W s (W.length : Int) (i : Int) = some r ∧ (!decide (r ≥ 0)) = (W.drop i).all (ltr s) := by
  intro m
  induction m with
  | zero =>
    intro g i hm hg hi
    obtain ⟨g, rfl⟩ : ∃ g', g = g' + 1 := ⟨g - 1, by omega⟩
    rw [ap.pl13, dF (by omega), cond_false, List.drop_eq_nil_of_le (by omega)]; exact ⟨_, rfl, rfl⟩
  | succ m ih =>
    intro g i hm hg hi
    obtain ⟨g, rfl⟩ : ∃ g', g = g' + 1 := ⟨g - 1, by omega⟩
    rw [ap.pl13, dT (by omega), cond_true, ixn (by omega), Option.bind_some]
    unfold aR.p
    rw [kl h1 h2, Option.bind_some, Option.bind_some, drop_gt (by omega), List.all_cons, ws (by omega)]
    cases ltr s (gt W i)
    · exact ⟨_, rfl, by simp⟩
    · obtain ⟨r, e1, e2⟩ := ih g (i + 1) (by omega) (by omega) (by omega)
      exact ⟨r, e1, by rw [e2]; rfl⟩
def vb (s : Int) (W : List Int) : Bool := decide (1 ≤ s ∧ s ≤ 6) && (decide (W.length ≤ 24) && W.all (ltr s))
theorem km {s : Int} {W : List Int} (hF : 1000 < F) : ak.p F s W = some (vb s W) := by
  unfold ak.p vb
  rw [jn, Option.bind_some]
  by_cases h : 1 ≤ s ∧ s ≤ 6
  · rw [decide_eq_true h, Bool.not_true, cond_false, Bool.true_and]
    by_cases h2 : W.length ≤ 24
    · rw [decide_eq_false (show ¬ (W.length : Int) > 24 by omega), cond_false, decide_eq_true h2, Bool.true_and]
      exact sval_l h.1 h.2 (by omega) W.length F 0 (by omega) (by omega) (by omega)
    · rw [decide_eq_true (show (W.length : Int) > 24 by omega), cond_true, decide_eq_false h2, Bool.false_and]
  · rw [decide_eq_false h, Bool.not_false, cond_true, Bool.false_and]
theorem kn {s : Int} {W : List Int} (hF : 1000 < F) : aK.p F s W = some (vb s W) := by
  unfold aK.p vb
  rw [jo, Option.bind_some]
  by_cases h : 1 ≤ s ∧ s ≤ 6
  · rw [decide_eq_true h, cond_true, Bool.true_and]
    by_cases h2 : W.length ≤ 24
    · rw [decide_eq_true (show (W.length : Int) ≤ 24 by omega), cond_true, decide_eq_true h2, Bool.true_and]
      unfold aV.p ap.p
      obtain ⟨r, e1, e2⟩ := ival_l (F := F) h.1 h.2 (W := W) (by omega) W.length F 0 (by omega) (by omega) (by omega)
      rw [show ((0 : Nat) : Int) = 0 from rfl] at e1
      rw [e1, Option.bind_some, Option.bind_some, e2, List.drop_zero]
    · rw [decide_eq_false (show ¬ (W.length : Int) ≤ 24 by omega), cond_false, decide_eq_false h2, Bool.false_and]
  · rw [decide_eq_false h, cond_false, Bool.false_and]
theorem vb_of {s : Int} {W : List Int} (h : vb s W = true) : 1 ≤ s ∧ s ≤ 6 ∧ W.length ≤ 24 ∧ ∀ i : Nat, i < W.length → 1 ≤ (gt W i).natAbs ∧ ((gt W i).natAbs : Int) < s := by
  unfold vb at h
  simp only [Bool.and_eq_true, decide_eq_true_eq, List.all_eq_true] at h
  obtain ⟨⟨a, b⟩, c, d⟩ := h
  refine ⟨a, b, c, fun i hi => ?_⟩
  have := d (gt W i) (gmem hi)
  unfold ltr at this
  simp only [decide_eq_true_eq] at this
  omega
def ab (W : List Int) (k : Nat) : Nat := (gt W k).natAbs
def st (s : Nat) (W : List Int) : Nat → List Int
  | 0 => List.replicate s (-1)
  | t + 1 => ((st s W t).set (ab W (t % W.length) - 1) ((2 * (t % W.length) : Nat) : Int)).set (ab W (t % W.length)) ((2 * (t % W.length) + 1 : Nat) : Int)
theorem st_len {s : Nat} {W : List Int} (t : Nat) : (st s W t).length = s := by
  induction t with
  | zero => simp [st]
  | succ t ih => simp [st, ih]
def gl (W : List Int) (p t : Nat) : Option Int :=
  if ab W (t % W.length) = p then some ((2 * (t % W.length) + 1 : Nat) : Int) else if ab W (t % W.length) - 1 = p then some ((2 * (t % W.length) : Nat) : Int) else none
def lbk (g : Nat → Option Int) : Nat → Nat → Int
  | 0, _ => -1
  | d + 1, t => match g (t - 1) with | some v => v | none => lbk g d (t - 1)
theorem lbk_none {g : Nat → Option Int} : ∀ (d t : Nat), d ≤ t → (∀ i, i < d → g (t - 1 - i) = none) → lbk g d t = -1 := by
  intro d
  induction d with
  | zero => intro t _ _; rfl
  | succ d ih =>
    intro t hd h
    have := h 0 (by omega)
    rw [Nat.sub_zero] at this
    rw [lbk, this]
    exact ih (t - 1) (by omega) fun i hi => by have := h (i + 1) (by omega); rw [show t - 1 - 1 - i = t - 1 - (i + 1) by omega]; exact this
theorem lbk_some {g : Nat → Option Int} : ∀ (d e t i : Nat), d ≤ e → e ≤ t → i < d → g (t - 1 - i) ≠ none → lbk g d t = lbk g e t := by
  intro d
  induction d with
  | zero => intro e t i _ _ h; omega
  | succ d ih =>
    intro e t i hd he hi h
    obtain ⟨e, rfl⟩ : ∃ e', e = e' + 1 := ⟨e - 1, by omega⟩
    rw [lbk, lbk]
    cases c : g (t - 1) with
    | some v => rfl
    | none =>
      cases i with
      | zero => rw [Nat.sub_zero] at h; exact absurd c h
      | succ i => exact ih e (t - 1) i (by omega) (by omega) (by omega) (by rw [show t - 1 - 1 - i = t - 1 - (i + 1) by omega]; exact h)
theorem lbk_far {g : Nat → Option Int} {n : Nat} (hp : ∀ t, g (t + n) = g t) {t : Nat} (ht : n ≤ t) (hn : 0 < n) : lbk g n t = lbk g t t := by
  by_cases h : ∀ i, i < n → g (t - 1 - i) = none
  · rw [lbk_none n t ht h, lbk_none t t (Nat.le_refl t)]
    have key : ∀ i, i < t → g (t - 1 - i) = none := by
      intro i
      induction i using Nat.strongRecOn with
      | ind i ih =>
        intro hi
        by_cases c : i < n
        · exact h i c
        · have := ih (i - n) (by omega) (by omega)
          rw [show t - 1 - (i - n) = t - 1 - i + n by omega, hp] at this
          exact this
    exact key
  · obtain ⟨i, hi⟩ := Classical.not_forall.mp h
    obtain ⟨h1, h2⟩ := Classical.not_imp.mp hi
    exact lbk_some n t t i ht (Nat.le_refl t) h1 h2
theorem gl_per {W : List Int} {p : Nat} (t : Nat) : gl W p (t + W.length) = gl W p t := by
  unfold gl; rw [Nat.add_mod_right]
theorem st_gt {s : Nat} {W : List Int} (h : ∀ i : Nat, i < W.length → 1 ≤ ab W i ∧ ab W i < s) (hW : 0 < W.length) {p : Nat} (hp : p < s) (t : Nat) : gt (st s W t) p = lbk (gl W p) t t := by
  induction t with
  | zero => unfold st lbk; exact grep hp
  | succ t ih =>
    obtain ⟨h1, h2⟩ := h (t % W.length) (Nat.mod_lt _ hW)
    rw [st, lbk]
    simp only [Nat.add_sub_cancel]
    unfold gl
    by_cases c : ab W (t % W.length) = p
    · rw [if_pos c, c, gset_eq (by rw [List.length_set, st_len]; exact hp)]
    · rw [if_neg c, gset_ne c]
      by_cases c2 : ab W (t % W.length) - 1 = p
      · rw [if_pos c2, c2, gset_eq (by rw [st_len]; exact hp)]
      · rw [if_neg c2, gset_ne c2, ih]; rfl
end Go.Proofs.Ytahjhlcmcnemiaa.AE
end
section
namespace Go.Proofs.Ytahjhlcmcnemiaa.AE
open Go Go.AE Go.Proofs
variable {F : Nat}
theorem jp {x : Int} (h : x.natAbs ≤ 1000) : aA.p F x = some ((x.natAbs : Nat) : Int) := by
  unfold aA.p
  rw [w64_in (by omega) (by omega)]
  congr 1; split <;> omega
theorem jq {x : Int} (h : x.natAbs ≤ 1000) : aF.p F x = some ((x.natAbs : Nat) : Int) := by
  unfold aF.p
  rw [w64_in (by omega) (by omega)]
  by_cases c : x < 0
  · rw [decide_eq_true c, cond_true]; congr 1; omega
  · rw [decide_eq_false c, cond_false]; congr 1; omega
structure Br (s : Nat) (W : List Int) : Prop where
  s6 : s ≤ 6
  len : W.length ≤ 24
  lt : ∀ i : Nat, i < W.length → 1 ≤ ab W i ∧ ab W i < s
theorem arc_l {s : Nat} {W : List Int} (h : Br s W) {k p : Nat} (hk : k < W.length) (hp : p < s) : ∀ (m g i : Nat), W.length - i = m → m < g → i ≤ W.length →
    aj.pl13 F g W (k : Int) (p : Int) ((i + 1 : Nat) : Int) = some (lbk (gl W p) m (k + W.length - i)) := by
  intro m
  induction m with
  | zero =>
    intro g i hm hg hi
    obtain ⟨g, rfl⟩ : ∃ g', g = g' + 1 := ⟨g - 1, by omega⟩
    rw [aj.pl13, show decide (((i + 1 : Nat) : Int) ≤ (W.length : Int)) = false from decide_eq_false (by omega), cond_false]; rfl
  | succ m ih =>
    intro g i hm hg hi
    obtain ⟨g, rfl⟩ : ∃ g', g = g' + 1 := ⟨g - 1, by omega⟩
    have hl := h.len
    have hs := h.s6
    have e : Int.tmod (IntKind.i64.wrap ((IntKind.i64.wrap ((k : Int) - ((i + 1 : Nat) : Int))) + (W.length : Int))) (W.length : Int) = (((k + W.length - i - 1) % W.length : Nat) : Int) := by
      rw [w64_in (x := (k : Int) - ((i + 1 : Nat) : Int)) (by omega) (by omega), w64_in (by omega) (by omega), show (k : Int) - ((i + 1 : Nat) : Int) + (W.length : Int) = ((k + W.length - i - 1 : Nat) : Int) by omega]
      rfl
    have hq : (k + W.length - i - 1) % W.length < W.length := Nat.mod_lt _ (by omega)
    obtain ⟨h1, h2⟩ := h.lt _ hq
    rw [aj.pl13, show decide (((i + 1 : Nat) : Int) ≤ (W.length : Int)) = true from decide_eq_true (by omega), cond_true, if_neg (by omega), e, ixn hq, Option.bind_some, jp (by unfold ab at h2; omega), Option.bind_some, lbk]
    unfold gl
    generalize hat : (k + W.length - i - 1) % W.length = at' at *
    have ha : (gt W at').natAbs = ab W at' := rfl
    rw [ha]
    by_cases c : ab W at' = p
    · rw [if_pos c]
      rw [w64_in (x := ((ab W at' : Nat) : Int) - 1) (by omega) (by omega), show ((((ab W at' : Nat) : Int) - 1) == (p : Int)) = false from beq_eq_false_iff_ne.mpr (by omega), cond_false, show (((ab W at' : Nat) : Int) == (p : Int)) = true from beq_iff_eq.mpr (by omega), cond_true, w64_in (x := 2 * (at' : Int)) (by omega) (by omega), w64_in (by omega) (by omega)]
      congr 1
    · rw [if_neg c]
      by_cases c2 : ab W at' - 1 = p
      · rw [if_pos c2, w64_in (x := ((ab W at' : Nat) : Int) - 1) (by omega) (by omega), show ((((ab W at' : Nat) : Int) - 1) == (p : Int)) = true from beq_iff_eq.mpr (by omega), cond_true, w64_in (by omega) (by omega)]
        congr 1
      · rw [if_neg c2, w64_in (x := ((ab W at' : Nat) : Int) - 1) (by omega) (by omega), show ((((ab W at' : Nat) : Int) - 1) == (p : Int)) = false from beq_eq_false_iff_ne.mpr (by omega), cond_false, show (((ab W at' : Nat) : Int) == (p : Int)) = false from beq_eq_false_iff_ne.mpr (by omega), cond_false, ws (by omega), ih g (i + 1) (by omega) (by omega) (by omega)]
        rfl
theorem arc_at {s : Nat} {W : List Int} (h : Br s W) (hF : 1000 < F) {k p : Nat} (hk : k < W.length) (hp : p < s) : aj.p F W (k : Int) (p : Int) = some (gt (st s W (W.length + k)) p) := by
  unfold aj.p
  have := arc_l (F := F) h hk hp W.length F 0 (by omega) (by have := h.len; omega) (by omega)
  rw [Nat.zero_add] at this
  rw [show ((1 : Nat) : Int) = 1 from rfl] at this
  rw [this, Nat.sub_zero, lbk_far (n := W.length) (fun t => gl_per t) (by omega) (by omega), st_gt h.lt (by omega) hp, Nat.add_comm]
def crs (s : Nat) (W : List Int) (k : Nat) : Cr :=
  if gt W k < 0 then (gt (st s W (W.length + k)) (ab W k - 1), gt (st s W (W.length + k)) (ab W k), ((2 * k + 1 : Nat) : Int), ((2 * k : Nat) : Int), -1)
  else (gt (st s W (W.length + k)) (ab W k), ((2 * k + 1 : Nat) : Int), ((2 * k : Nat) : Int), gt (st s W (W.length + k)) (ab W k - 1), 1)
theorem crs_n {s : Nat} {W : List Int} {k : Nat} (h : gt W k < 0) : crs s W k = (gt (st s W (W.length + k)) (ab W k - 1), gt (st s W (W.length + k)) (ab W k), ((2 * k + 1 : Nat) : Int), ((2 * k : Nat) : Int), -1) := by
  unfold crs; rw [if_pos h]
theorem crs_p {s : Nat} {W : List Int} {k : Nat} (h : ¬ gt W k < 0) : crs s W k = (gt (st s W (W.length + k)) (ab W k), ((2 * k + 1 : Nat) : Int), ((2 * k : Nat) : Int), gt (st s W (W.length + k)) (ab W k - 1), 1) := by
  unfold crs; rw [if_neg h]
def crl (s : Nat) (W : List Int) (k : Nat) : List Cr := (List.range k).map (crs s W)
theorem crl_len {s : Nat} {W : List Int} {k : Nat} : (crl s W k).length = k := by simp [crl]
theorem crl_succ {s : Nat} {W : List Int} {k : Nat} : crl s W k ++ [crs s W k] = crl s W (k + 1) := by simp [crl, List.range_succ]
def cir (s : Nat) (W : List Int) : Nat → Nat
  | 0 => 0
  | p + 1 => cir s W p + (if gt (st s W W.length) p < 0 then 1 else 0)
theorem cir_le {s : Nat} {W : List Int} (p : Nat) : cir s W p ≤ p := by
  induction p with
  | zero => simp [cir]
  | succ p ih => rw [cir]; split <;> omega
theorem st_step {s : Nat} {W : List Int} {t k : Nat} (hk : t % W.length = k) : st s W (t + 1) = ((st s W t).set (ab W k - 1) ((2 * k : Nat) : Int)).set (ab W k) ((2 * k + 1 : Nat) : Int) := by
  rw [st, hk]
theorem i_cross {s : Nat} {W : List Int} (h : Br s W) {c : Int} : ∀ (m g k : Nat), W.length - k = m → m < g → k ≤ W.length →
    ag.pl509 F g (st s W (W.length + k)) (crl s W k) c W (W.length : Int) (k : Int) = some (crl s W W.length, c, 0) := by
  intro m
  induction m with
  | zero =>
    intro g k hm hg hk
    obtain ⟨g, rfl⟩ : ∃ g', g = g' + 1 := ⟨g - 1, by omega⟩
    rw [ag.pl509, dF (by omega), cond_false, show k = W.length by omega]
  | succ m ih =>
    intro g k hm hg hk
    obtain ⟨g, rfl⟩ : ∃ g', g = g' + 1 := ⟨g - 1, by omega⟩
    have hl := h.len
    have hs := h.s6
    have hk' : k < W.length := by omega
    obtain ⟨h1, h2⟩ := h.lt k hk'
    have e2 : IntKind.i64.wrap (2 * (k : Int)) = ((2 * k : Nat) : Int) := by rw [w64_in (by omega) (by omega)]; omega
    have e3 : IntKind.i64.wrap (((2 * k : Nat) : Int) + 1) = ((2 * k + 1 : Nat) : Int) := ws (by omega)
    have e4 : IntKind.i64.wrap (((ab W k : Nat) : Int) - 1) = ((ab W k - 1 : Nat) : Int) := by rw [w64_in (by omega) (by omega)]; omega
    have ha : (gt W k).natAbs = ab W k := rfl
    rw [ag.pl509, dT hk', cond_true, ixn hk', Option.bind_some, jq (by rw [ha]; omega), Option.bind_some, ha, e4, ixn (by rw [st_len]; omega), Option.bind_some, Option.bind_some, ixn (by rw [st_len]; exact h2), Option.bind_some, e2, e3]
    have hst := st_step (s := s) (W := W) (t := W.length + k) (k := k) (by rw [Nat.add_mod_left]; exact Nat.mod_eq_of_lt hk')
    have ih := ih g (k + 1) (by omega) (by omega) (by omega)
    rw [← Nat.add_assoc, hst] at ih
    by_cases c1 : gt W k < 0
    · rw [decide_eq_true c1, cond_true, apn_of (by rw [crl_len]; simp; omega), Option.bind_some, Option.bind_some, Option.bind_some, ws (by omega), ← crs_n c1, crl_succ]
      exact ih
    · rw [decide_eq_false c1, cond_false, apn_of (by rw [crl_len]; simp; omega), Option.bind_some, Option.bind_some, Option.bind_some, ws (by omega), ← crs_p c1, crl_succ]
      exact ih
theorem i_circ {s : Nat} {W : List Int} (h : Br s W) (hF : 1000 < F) : ∀ (m g p : Nat), s - p = m → m < g → p ≤ s →
    ag.pl253 F g W (st s W W.length) ([] : List Cr) ((cir s W p : Nat) : Int) (s : Int) (p : Int) = some (crl s W W.length, ((cir s W s : Nat) : Int), 0) := by
  intro m
  induction m with
  | zero =>
    intro g p hm hg hp
    obtain ⟨g, rfl⟩ : ∃ g', g = g' + 1 := ⟨g - 1, by omega⟩
    have hl := h.len
    rw [ag.pl253, dF (by omega), cond_false, show p = s by omega]
    exact i_cross (F := F) h W.length F 0 (by omega) (by omega) (by omega)
  | succ m ih =>
    intro g p hm hg hp
    obtain ⟨g, rfl⟩ : ∃ g', g = g' + 1 := ⟨g - 1, by omega⟩
    have hs := h.s6
    have := cir_le (s := s) (W := W) p
    have ih := ih g (p + 1) (by omega) (by omega) (by omega)
    rw [ag.pl253, dT (by omega), cond_true, ixn (by rw [st_len]; omega), Option.bind_some]
    unfold aN.p
    rw [cir] at ih
    by_cases c : gt (st s W W.length) p < 0
    · rw [if_pos c] at ih
      rw [decide_eq_true c, cond_true, Option.bind_some, ws (by omega), ws (by omega)]
      exact ih
    · rw [if_neg c] at ih
      rw [decide_eq_false c, cond_false, Option.bind_some, Int.add_zero, wn (by omega), ws (by omega)]
      exact ih
theorem i_first {s : Nat} {W : List Int} (h : Br s W) (hF : 1000 < F) : ∀ (m g k : Nat), W.length - k = m → m < g → k ≤ W.length →
    ag.pl61 F g W (st s W k) (W.length : Int) (k : Int) = some (crl s W W.length, ((cir s W s : Nat) : Int), 0) := by
  intro m
  induction m with
  | zero =>
    intro g k hm hg hk
    obtain ⟨g, rfl⟩ : ∃ g', g = g' + 1 := ⟨g - 1, by omega⟩
    have := h.s6
    rw [ag.pl61, dF (by omega), cond_false, show k = W.length by omega, st_len]
    exact i_circ h hF s F 0 (by omega) (by omega) (by omega)
  | succ m ih =>
    intro g k hm hg hk
    obtain ⟨g, rfl⟩ : ∃ g', g = g' + 1 := ⟨g - 1, by omega⟩
    have hl := h.len
    have hs := h.s6
    have hk' : k < W.length := by omega
    obtain ⟨h1, h2⟩ := h.lt k hk'
    have e2 : IntKind.i64.wrap (2 * (k : Int)) = ((2 * k : Nat) : Int) := by rw [w64_in (by omega) (by omega)]; omega
    have e3 : IntKind.i64.wrap (((2 * k : Nat) : Int) + 1) = ((2 * k + 1 : Nat) : Int) := ws (by omega)
    have e4 : IntKind.i64.wrap (((ab W k : Nat) : Int) - 1) = ((ab W k - 1 : Nat) : Int) := by rw [w64_in (by omega) (by omega)]; omega
    have ha : (gt W k).natAbs = ab W k := rfl
    rw [ag.pl61, dT hk', cond_true, ixn hk', Option.bind_some, jq (by rw [ha]; omega), Option.bind_some, Option.bind_some, ha, e4, ixn (by rw [st_len]; omega), Option.bind_some, e2, e3, Option.bind_some, ixn (by rw [List.length_set, st_len]; exact h2), Option.bind_some, Option.bind_some, ws (by omega)]
    have ih := ih g (k + 1) (by omega) (by omega) (by omega)
    rw [st_step (k := k) (Nat.mod_eq_of_lt hk')] at ih
    exact ih
def usd (s : Nat) (W : List Int) (k : Nat) : List Bool := (st s W k).map fun v => decide (0 ≤ v)
theorem usd_gt {s : Nat} {W : List Int} {k p : Nat} (hp : p < s) : gt (usd s W k) p = decide (0 ≤ gt (st s W k) p) := by
  unfold usd gt
  rw [List.getD_eq_getElem?_getD, List.getD_eq_getElem?_getD, List.getElem?_map, List.getElem?_eq_getElem (by rw [st_len]; exact hp)]; rfl
theorem usd_len {s : Nat} {W : List Int} {k : Nat} : (usd s W k).length = s := by simp [usd, st_len]
theorem usd_step {s : Nat} {W : List Int} {k : Nat} (hk : k < W.length) : usd s W (k + 1) = ((usd s W k).set (ab W k - 1) true).set (ab W k) true := by
  unfold usd
  rw [st_step (k := k) (Nat.mod_eq_of_lt hk), List.map_set, List.map_set]
  rw [decide_eq_true (show 0 ≤ ((2 * k + 1 : Nat) : Int) by omega), decide_eq_true (show 0 ≤ ((2 * k : Nat) : Int) by omega)]
theorem s_circ {s : Nat} {W : List Int} (h : Br s W) {l : List Cr} : ∀ (m g p : Nat), s - p = m → m < g → p ≤ s →
    ae.pl125 F g l ((cir s W p : Nat) : Int) (usd s W W.length) (p : Int) = some (l, ((cir s W s : Nat) : Int)) := by
  intro m
  induction m with
  | zero =>
    intro g p hm hg hp
    obtain ⟨g, rfl⟩ : ∃ g', g = g' + 1 := ⟨g - 1, by omega⟩
    rw [ae.pl125, dF (by rw [usd_len]; omega), cond_false, show p = s by omega]
  | succ m ih =>
    intro g p hm hg hp
    obtain ⟨g, rfl⟩ : ∃ g', g = g' + 1 := ⟨g - 1, by omega⟩
    have hs := h.s6
    have := cir_le (s := s) (W := W) p
    have ih := ih g (p + 1) (by omega) (by omega) (by omega)
    rw [ae.pl125, dT (by rw [usd_len]; omega), cond_true, ixn (by rw [usd_len]; omega), Option.bind_some, usd_gt (by omega)]
    unfold ae.pj3
    rw [cir] at ih
    by_cases c : gt (st s W W.length) p < 0
    · rw [if_pos c] at ih
      rw [decide_eq_false (by omega), Bool.not_false, cond_true, ws (by omega), ws (by omega)]
      exact ih
    · rw [if_neg c] at ih
      rw [decide_eq_true (by omega), Bool.not_true, cond_false, ws (by omega)]
      exact ih
theorem s_main {s : Nat} {W : List Int} (h : Br s W) (hF : 1000 < F) : ∀ (m g k : Nat), W.length - k = m → m < g → k ≤ W.length →
    ae.pl61 F g W (crl s W k) 0 (usd s W k) (k : Int) = some (crl s W W.length, ((cir s W s : Nat) : Int)) := by
  intro m
  induction m with
  | zero =>
    intro g k hm hg hk
    obtain ⟨g, rfl⟩ : ∃ g', g = g' + 1 := ⟨g - 1, by omega⟩
    have := h.s6
    rw [ae.pl61, dF (by omega), cond_false, show k = W.length by omega]
    exact s_circ (F := F) h s F 0 (by omega) (by omega) (by omega)
  | succ m ih =>
    intro g k hm hg hk
    obtain ⟨g, rfl⟩ : ∃ g', g = g' + 1 := ⟨g - 1, by omega⟩
    have hl := h.len
    have hs := h.s6
    have hk' : k < W.length := by omega
    obtain ⟨h1, h2⟩ := h.lt k hk'
    have e2 : IntKind.i64.wrap (2 * (k : Int)) = ((2 * k : Nat) : Int) := by rw [w64_in (by omega) (by omega)]; omega
    have e3 : IntKind.i64.wrap (((2 * k : Nat) : Int) + 1) = ((2 * k + 1 : Nat) : Int) := ws (by omega)
    have e4 : IntKind.i64.wrap (((ab W k : Nat) : Int) - 1) = ((ab W k - 1 : Nat) : Int) := by rw [w64_in (by omega) (by omega)]; omega
    have ha : (gt W k).natAbs = ab W k := rfl
    have ih := ih g (k + 1) (by omega) (by omega) (by omega)
    rw [usd_step hk'] at ih
    rw [ae.pl61, dT hk', cond_true, ixn hk', Option.bind_some, jp (by rw [ha]; omega), Option.bind_some, ha, e4, ixn (by rw [usd_len]; omega), Option.bind_some, Option.bind_some, ixn (by rw [List.length_set, usd_len]; exact h2), Option.bind_some, Option.bind_some, arc_at h hF hk' (by omega), Option.bind_some, arc_at h hF hk' h2, Option.bind_some, Option.bind_some, e2, e3]
    unfold ae.pj5
    by_cases c1 : gt W k < 0
    · rw [decide_eq_true c1, cond_true, apn_of (by rw [crl_len]; simp; omega), Option.bind_some, ws (by omega), ← crs_n c1, crl_succ]
      exact ih
    · rw [decide_eq_false c1, cond_false, apn_of (by rw [crl_len]; simp; omega), Option.bind_some, ws (by omega), ← crs_p c1, crl_succ]
      exact ih
theorem mul1 : ∀ m : Nat, m < 64 → IntKind.u64.wrap (m : Int) = (m : Int) ∧ bits_Mul64.p 0 1 (m : Int) = some (0, (m : Int)) := by decide
theorem rep_m1 {m : Nat} (hm : m < 64) (hF : 100 < F) : ah.p F [-1] (m : Int) = some (List.replicate m (-1)) := by
  obtain ⟨h1, h2⟩ := mul1 m hm
  unfold ah.p ah.pj2
  rw [show decide ((m : Int) < 0) = false from decide_eq_false (by omega), cond_false, h1, show IntKind.u64.wrap (([(-1 : Int)].length : Nat) : Int) = 1 by decide]
  have h3 : bits_Mul.p F 1 (m : Int) = some (0, (m : Int)) := by
    unfold bits_Mul.p
    rw [show bits_Mul64.p F 1 (m : Int) = bits_Mul64.p 0 1 (m : Int) from rfl, h2]; rfl
  rw [h3, Option.bind_some]
  simp only [show decide ((0 : Int) > 0) = false by decide, cond_false, show decide ((m : Int) > 9223372036854775807) = false from decide_eq_false (by omega)]
  unfold ah.pj1
  rw [wn (by omega), mkn_of (by omega), Option.bind_some, Option.bind_some]
  unfold rept cpl
  cases m with
  | zero => simp; omega
  | succ m =>
    have hl : ([(-1 : Int)].take (List.replicate (m + 1) (0 : Int)).length ++ (List.replicate (m + 1) (0 : Int)).drop [(-1 : Int)].length) = (-1) :: List.replicate m 0 := by simp
    rw [hl, if_pos ⟨by simp, by left; simp, by simp; omega⟩]
    simp [gt, List.replicate_succ]
theorem closure_both {s : Int} {W : List Int} (hF : 1000 < F) : ∃ D c e, D.length ≤ 24 ∧ aP.p F s W = some (D, c, e) ∧ ag.p F s W = some (D, c, e) := by
  unfold aP.p ag.p
  rw [km hF, kn hF]
  simp only [Option.bind_some]
  cases hv : vb s W with
  | false => exact ⟨_, _, _, by simp, rfl, rfl⟩
  | true =>
    obtain ⟨h1, h2, h3, h4⟩ := vb_of hv
    obtain ⟨n, rfl⟩ : ∃ n : Nat, s = (n : Int) := ⟨s.toNat, by omega⟩
    have h : Br n W := ⟨by omega, h3, fun i hi => by have := h4 i hi; unfold ab; omega⟩
    simp only [Bool.not_true, cond_false]
    by_cases c : (W.length : Int) > 10
    · rw [decide_eq_true c, cond_true, cond_true]; exact ⟨_, _, _, by simp, rfl, rfl⟩
    · rw [decide_eq_false c, cond_false, cond_false]
      refine ⟨crl n W W.length, (cir n W n : Nat), 0, by rw [crl_len]; omega, ?_, ?_⟩
      · unfold ae.p
        rw [mkn_of (by omega), Option.bind_some]
        have e := s_main (F := F) h hF W.length F 0 (by omega) (by omega) (by omega)
        have e0 : usd n W 0 = List.replicate n false := by simp [usd, st]
        rw [e0] at e
        have e : ae.pl61 F F W [] 0 (List.replicate n false) 0 = _ := e
        rw [e]; rfl
      · rw [rep_m1 (by omega) (by omega), Option.bind_some]
        exact i_first (F := F) h hF W.length F 0 (by omega) (by omega) (by omega)
theorem FnExactClosureOf_pure : ∀ (aa : Int) (aC : List Int), (Lit.int .i64 aa).wf = true → aC.length ≤ maxLen → (∀ x ∈ aC, (Lit.int .i64 x).wf = true) → ∃ F, aY.p F aa aC = some true := by
  intro s W _ hm _
  obtain ⟨F, hF⟩ : ∃ F : Nat, F = 1000000000000000 := ⟨_, rfl⟩
  refine ⟨F, ?_⟩
  unfold aY.p
  rw [szBr hm, Option.bind_some]
  by_cases hl : W.length ≤ 1048576
  · rw [if_neg (by omega), decide_eq_false (by omega), cond_false]
    have hF5 : 5000000 < F := by omega
    have hW : W.length ≤ 2000000 := by omega
    obtain ⟨D, c, e, hD, e1, e2⟩ := closure_both (F := F) (s := s) (W := W) (by omega)
    obtain ⟨W', m0, _, _⟩ := mark (F := F) (l := W) (k := 1) hF5 hW (by omega)
    have m0 : au.p F W 1 = _ := m0
    obtain ⟨D', m1, m2, m3⟩ := markDg (F := F) (l := D) hF5 (by omega)
    have h1 := heldDg (F := F) (l := D') (k := 1) hF5 (by omega) (by omega) m3
    rw [m2] at h1
    have h1 : aL.p F D' 1 = _ := h1
    have eb : aS.p F s W s W = some true := by
      unfold aS.p; rw [bne_self_eq_false, cond_false, eqInt hF5 hW]; rfl
    have mb : aT.p F W 1 = some (((1 + W.length : Nat) : Int), W') := by
      unfold aT.p; rw [m0]; rfl
    simp only [toBr hF5 hW, Option.bind_some, e1, e2, eqDg hF5 (show D.length ≤ 2000000 by omega), Bool.not_true, cond_false, bne_self_eq_false, eb, mb, m1, h1, decide_eq_false (show ¬ (((1 + W.length : Nat) : Int) < 0) by omega), decide_eq_false (show ¬ (((1 + 5 * D.length : Nat) : Int) < 0) by omega)]
  · rw [if_pos (by omega)]; rfl
end Go.Proofs.Ytahjhlcmcnemiaa.AE
end
