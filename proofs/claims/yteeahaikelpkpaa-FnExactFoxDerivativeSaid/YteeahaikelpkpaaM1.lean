import Derived.Test.YteeahaikelpkpaaE2
import Derived.Test.YteeahaikelpkpaaP1
set_option linter.unusedVariables false
set_option linter.unusedSimpArgs false
section
namespace Go.AE
def co (low : Int) (l : List Int) (e : Int) : Int := if low ≤ e then l.getD (e - low).toNat 0 else 0
structure Trim (low : Int) (l : List Int) : Prop where
  nil : l = [] → low = 0
  first : l ≠ [] → l.getD 0 0 ≠ 0
  last : l ≠ [] → l.getD (l.length - 1) 0 ≠ 0
theorem co_at (low : Int) (l : List Int) (i : Nat) : co low l (low + i) = l.getD i 0 := by
  unfold co; rw [if_pos (by omega)]; congr 1; omega
theorem co_low {low : Int} {l : List Int} {e : Int} (h : e < low) : co low l e = 0 := by unfold co; rw [if_neg (by omega)]
theorem co_high {low : Int} {l : List Int} {e : Int} (h : low + l.length ≤ e) : co low l e = 0 := by
  unfold co; split
  · rw [List.getD_eq_getElem?_getD, List.getElem?_eq_none (by omega)]; rfl
  · rfl
theorem co_nil (low e : Int) : co low [] e = 0 := by unfold co; split <;> rfl
theorem Trim.le {low low' : Int} {l l' : List Int} (h : Trim low l) (he : ∀ e, co low l e = co low' l' e) (hl : l ≠ []) : low' ≤ low ∧ low + l.length ≤ low' + l'.length := by
  have hpos : 0 < l.length := List.length_pos_iff.2 hl
  constructor
  · rcases Int.lt_or_le low low' with c | c
    · exfalso
      have := he (low + (0 : Nat))
      rw [co_at, co_low (by omega)] at this
      exact h.first hl this
    · exact c
  · rcases Int.lt_or_le (low' + l'.length) (low + l.length) with c | c
    · exfalso
      have := he (low + ((l.length - 1 : Nat) : Int))
      rw [co_at, co_high (by omega)] at this
      exact h.last hl this
    · exact c
theorem Trim.unique {low low' : Int} {l l' : List Int} (h : Trim low l) (h' : Trim low' l') (he : ∀ e, co low l e = co low' l' e) : low = low' ∧ l = l' := by
  by_cases c : l = []
  · by_cases c' : l' = []
    · exact ⟨by rw [h.nil c, h'.nil c'], by rw [c, c']⟩
    · exfalso
      have := he (low' + (0 : Nat))
      rw [co_at, c, co_nil] at this
      exact h'.first c' this.symm
  · by_cases c' : l' = []
    · exfalso
      have := he (low + (0 : Nat))
      rw [co_at, c', co_nil] at this
      exact h.first c this
    · have a := h.le he c
      have b := h'.le (fun e => (he e).symm) c'
      have e1 : low = low' := by omega
      have e2 : l.length = l'.length := by omega
      refine ⟨e1, List.ext_getElem e2 fun i h1 h2 => ?_⟩
      have := he (low + (i : Nat))
      rw [co_at, e1, co_at] at this
      simpa [List.getD_eq_getElem?_getD, List.getElem?_eq_getElem h1, List.getElem?_eq_getElem h2] using this
theorem co_cut {low : Int} {l : List Int} {a b : Nat} (hab : a ≤ b) (hb : b ≤ l.length) (h1 : ∀ i, i < a → l.getD i 0 = 0) (h2 : ∀ i, b ≤ i → l.getD i 0 = 0) (e : Int) : co (low + a) ((l.take b).drop a) e = co low l e := by
  rcases Int.lt_or_le e low with c | c
  · rw [co_low (by omega), co_low c]
  · obtain ⟨i, rfl⟩ : ∃ i : Nat, e = low + i := ⟨(e - low).toNat, by omega⟩
    rw [co_at]
    by_cases ca : i < a
    · rw [co_low (by omega), h1 i ca]
    · by_cases cb : b ≤ i
      · rw [co_high (by simp; omega), h2 i cb]
      · have : low + (i : Int) = (low + (a : Int)) + ((i - a : Nat) : Int) := by omega
        rw [this, co_at]
        simp only [List.getD_eq_getElem?_getD, List.getElem?_drop, List.getElem?_take]
        rw [show a + (i - a) = i by omega, if_pos (by omega)]
end Go.AE
end
section
namespace Go.Proofs.Yteeahaikelpkpaa.AE
open Go Go.AE Go.Proofs
variable {F : Nat} {i j k : Int}
theorem gt_set_eq {l : List Int} {n : Nat} {x : Int} (h : n < l.length) : gt (l.set n x) n = x := by
  unfold gt; rw [List.getD_eq_getElem?_getD, List.getElem?_set_self h]; rfl
theorem gt_set_ne {l : List Int} {n m : Nat} {x : Int} (h : n ≠ m) : gt (l.set n x) m = gt l m := by
  unfold gt; rw [List.getD_eq_getElem?_getD, List.getD_eq_getElem?_getD, List.getElem?_set_ne h]
theorem ext_gt {l m : List Int} (h : l.length = m.length) (hh : ∀ n : Nat, n < l.length → gt l n = gt m n) : l = m := by
  apply List.ext_getElem?
  intro n
  by_cases hn : n < l.length
  · rw [gt_get hn, gt_get (by omega), hh n hn]
  · rw [List.getElem?_eq_none (by omega), List.getElem?_eq_none (by omega)]
theorem ix_of {l : List Int} (h0 : 0 ≤ i) (h : i < l.length) : ix l i = some i.toNat := by
  unfold ix; rw [if_pos ⟨h0, h⟩]
theorem toInt_l {l : List Int} (hl : l.length ≤ 2000000) : ∀ (n g : Nat) (m : List Int) (i : Int), l.length - i = n → n < g → 0 ≤ i → m.length = l.length → (∀ a : Nat, (a : Int) < i → gt m a = gt l a) →
    ar.pl29 F g l m i = some l := by
  intro n
  induction n with
  | zero =>
    intro g m i hn hg hi hm hh
    obtain ⟨g, rfl⟩ : ∃ g', g = g' + 1 := ⟨g - 1, by omega⟩
    rw [ar.pl29, decide_eq_false (by omega), cond_false]
    rw [ext_gt hm (fun a h => hh a (by omega))]
  | succ n ih =>
    intro g m i hn hg hi hm hh
    obtain ⟨g, rfl⟩ : ∃ g', g = g' + 1 := ⟨g - 1, by omega⟩
    rw [ar.pl29, decide_eq_true (by omega), cond_true, ix_of hi (by omega), ix_of hi (by omega), Option.bind_some, Option.bind_some, Option.bind_some, w64_in (by omega) (by omega)]
    refine ih g _ (i + 1) (by omega) (by omega) (by omega) (by rw [List.length_set]; exact hm) fun a ha => ?_
    by_cases e : a = i.toNat
    · subst e; exact gt_set_eq (by omega)
    · rw [gt_set_ne (Ne.symm e)]; exact hh a (by omega)
theorem toInt {l : List Int} (hF : 5000000 < F) (hl : l.length ≤ 2000000) : ar.p F l = some l := by
  unfold ar.p mkn
  rw [if_pos (by omega), Option.bind_some, toInt_l hl l.length F _ 0 (by omega) (by omega) (by omega) (by simp) (fun a h => by omega)]
theorem eqInt_l {l : List Int} (hl : l.length ≤ 2000000) : ∀ (n g : Nat) (i : Int), l.length - i = n → n < g → 0 ≤ i → ap.pl29 F g l l i = some true := by
  intro n
  induction n with
  | zero =>
    intro g i hn hg hi
    obtain ⟨g, rfl⟩ : ∃ g', g = g' + 1 := ⟨g - 1, by omega⟩
    rw [ap.pl29, decide_eq_false (by omega), cond_false]
  | succ n ih =>
    intro g i hn hg hi
    obtain ⟨g, rfl⟩ : ∃ g', g = g' + 1 := ⟨g - 1, by omega⟩
    rw [ap.pl29, decide_eq_true (by omega), cond_true, ix_of hi (by omega), Option.bind_some, Option.bind_some, bne_self_eq_false, cond_false, w64_in (by omega) (by omega)]
    exact ih g (i + 1) (by omega) (by omega) (by omega)
theorem eqInt {l : List Int} (hF : 5000000 < F) (hl : l.length ≤ 2000000) : ap.p F l l = some true := by
  unfold ap.p
  rw [bne_self_eq_false, cond_false]
  exact eqInt_l hl l.length F 0 (by omega) (by omega) (by omega)
def Cnt (l : List Int) (k : Int) : Prop := ∀ n : Nat, n < l.length → gt l n = k + n
theorem mark_l : ∀ (n g : Nat) (l : List Int) (i k : Int), l.length ≤ 2000000 → l.length - i = n → n < g → 0 ≤ i → 0 ≤ k → k ≤ 100000000 →
    ∃ l', aq.pl13 F g l (k + i) i = some (k + l.length, l') ∧ l'.length = l.length ∧ (∀ a : Nat, (a : Int) < i → gt l' a = gt l a) ∧ (∀ a : Nat, i ≤ a → a < l.length → gt l' a = k + a) := by
  intro n
  induction n with
  | zero =>
    intro g l i k hl hn hg hi hk hk2
    obtain ⟨g, rfl⟩ : ∃ g', g = g' + 1 := ⟨g - 1, by omega⟩
    rw [aq.pl13, decide_eq_false (by omega), cond_false]
    refine ⟨l, ?_, rfl, fun _ _ => rfl, fun a h1 h2 => by omega⟩
    rw [show (l.length : Int) = i by omega]
  | succ n ih =>
    intro g l i k hl hn hg hi hk hk2
    obtain ⟨g, rfl⟩ : ∃ g', g = g' + 1 := ⟨g - 1, by omega⟩
    rw [aq.pl13, decide_eq_true (by omega), cond_true, ix_of hi (by omega), Option.bind_some, Option.bind_some, w64_in (x := k + i + 1) (by omega) (by omega), w64_in (by omega) (by omega), Int.add_assoc]
    obtain ⟨l', e1, e2, e3, e4⟩ := ih g (l.set i.toNat (k + i)) (i + 1) k (by rw [List.length_set]; exact hl) (by rw [List.length_set]; omega) (by omega) (by omega) hk hk2
    rw [List.length_set] at e1 e2 e4
    refine ⟨l', e1, e2, fun a h => ?_, fun a h1 h2 => ?_⟩
    · rw [e3 a (by omega), gt_set_ne (by omega)]
    · by_cases e : a = i.toNat
      · rw [e3 a (by omega), e, gt_set_eq (by omega)]; omega
      · exact e4 a (by omega) h2
theorem mark {l : List Int} (hF : 5000000 < F) (hl : l.length ≤ 2000000) (hk : 0 ≤ k) (hk2 : k ≤ 100000000) :
    ∃ l', aq.p F l k = some (k + l.length, l') ∧ l'.length = l.length ∧ Cnt l' k := by
  obtain ⟨l', e1, e2, e3, e4⟩ := mark_l (F := F) l.length F l 0 k hl (by omega) (by omega) (by omega) hk hk2
  unfold aq.p
  rw [Int.add_zero] at e1
  exact ⟨l', e1, e2, fun n hn => e4 n (by omega) (by omega)⟩
theorem held_l {l : List Int} (hl : l.length ≤ 2000000) (hk : 0 ≤ k) (hk2 : k ≤ 100000000) (hc : Cnt l k) : ∀ (n g : Nat) (i : Int), l.length - i = n → n < g → 0 ≤ i →
    ax.pl13 F g l (k + i) i = some (k + l.length) := by
  intro n
  induction n with
  | zero =>
    intro g i hn hg hi
    obtain ⟨g, rfl⟩ : ∃ g', g = g' + 1 := ⟨g - 1, by omega⟩
    rw [ax.pl13, decide_eq_false (by omega), cond_false, show (l.length : Int) = i by omega]
  | succ n ih =>
    intro g i hn hg hi
    obtain ⟨g, rfl⟩ : ∃ g', g = g' + 1 := ⟨g - 1, by omega⟩
    rw [ax.pl13, decide_eq_true (by omega), cond_true, ix_of hi (by omega), Option.bind_some, hc i.toNat (by omega), Int.toNat_of_nonneg hi, bne_self_eq_false, cond_false, w64_in (x := k + i + 1) (by omega) (by omega), w64_in (by omega) (by omega), Int.add_assoc]
    exact ih g (i + 1) (by omega) (by omega) (by omega)
theorem held {l : List Int} (hF : 5000000 < F) (hl : l.length ≤ 2000000) (hk : 0 ≤ k) (hk2 : k ≤ 100000000) (hc : Cnt l k) : ax.p F l k = some (k + l.length) := by
  unfold ax.p
  have := held_l (F := F) hl hk hk2 hc l.length F 0 (by omega) (by omega) (by omega)
  rw [Int.add_zero] at this
  exact this
def InR (x a b : Int) : Prop := a ≤ x ∧ x ≤ b
instance (x a b : Int) : Decidable (InR x a b) := by unfold InR; infer_instance
theorem pu {x a b : Int} : aB.p F x a b = some (decide (InR x a b)) := by
  unfold aB.p InR
  by_cases h : x ≥ a
  · rw [decide_eq_true h, cond_true]; congr 1; simp only [ge_iff_le] at h; simp [h]
  · rw [decide_eq_false h, cond_false]; congr 1; simp only [ge_iff_le] at h; simp [h]
theorem pv {x a b : Int} : aD.p F x a b = some (decide (InR x a b)) := by
  unfold aD.p InR
  by_cases h : a ≤ x
  · rw [decide_eq_true h, cond_true]; congr 1; simp [h]
  · rw [decide_eq_false h, cond_false]; congr 1; simp [h]
end Go.Proofs.Yteeahaikelpkpaa.AE
end
section
namespace Go.Proofs.Yteeahaikelpkpaa.AE
open Go Go.AE Go.Proofs
variable {F : Nat} {i j k : Int}
theorem gt_def (l : List Int) (n : Nat) : gt l n = l.getD n 0 := rfl
theorem cutf_of {l : List Int} {a b : Int} (h0 : 0 ≤ a) (h1 : a ≤ b) (h2 : b ≤ l.length) : cutf l a b = some ((l.take b.toNat).drop a.toNat) := by
  unfold cutf; rw [if_pos ⟨h0, h1, h2⟩]
theorem apn_nil {l : List Int} (h : l.length ≤ 1000000) : apn ([] : List Int) l = some l := by
  unfold apn; rw [if_pos (by simp; omega), List.nil_append]
def Form (low : Int) (l : List Int) (r : Int × List Int) : Prop := Trim r.1 r.2 ∧ (∀ e, co r.1 r.2 e = co low l e) ∧ r.2.length ≤ l.length
theorem form_cut {low : Int} {l : List Int} {a b : Int} (ha : 0 ≤ a) (hab : a < b) (hb : b ≤ l.length) (h1 : ∀ n : Nat, (n : Int) < a → gt l n = 0) (h2 : ∀ n : Nat, b ≤ n → gt l n = 0) (h3 : gt l a.toNat ≠ 0) (h4 : gt l (b - 1).toNat ≠ 0) :
    Form low l (low + a, (l.take b.toNat).drop a.toNat) := by
  have hlen : ((l.take b.toNat).drop a.toNat).length = b.toNat - a.toNat := by rw [List.length_drop, List.length_take]; omega
  have get : ∀ n : Nat, n < b.toNat - a.toNat → ((l.take b.toNat).drop a.toNat).getD n 0 = l.getD (a.toNat + n) 0 := by
    intro n hn
    simp only [List.getD_eq_getElem?_getD, List.getElem?_drop, List.getElem?_take]
    rw [if_pos (by omega)]
  refine ⟨⟨fun h => ?_, fun _ => ?_, fun _ => ?_⟩, fun e => ?_, ?_⟩
  · have := congrArg List.length h
    rw [hlen, List.length_nil] at this; omega
  · show ((l.take b.toNat).drop a.toNat).getD 0 0 ≠ 0
    rw [get 0 (by omega)]; exact h3
  · show ((l.take b.toNat).drop a.toNat).getD (((l.take b.toNat).drop a.toNat).length - 1) 0 ≠ 0
    rw [hlen, get _ (by omega), show a.toNat + (b.toNat - a.toNat - 1) = (b - 1).toNat by omega]; exact h4
  · have := co_cut (low := low) (l := l) (a := a.toNat) (b := b.toNat) (by omega) (by omega) (fun n h => h1 n (by omega)) (fun n h => h2 n (by omega)) e
    rw [Int.toNat_of_nonneg ha] at this
    exact this
  · show ((l.take b.toNat).drop a.toNat).length ≤ _
    rw [hlen]; omega
theorem form_nil {low : Int} {l : List Int} (h : ∀ n : Nat, gt l n = 0) : Form low l (0, []) := by
  refine ⟨⟨fun _ => rfl, fun h => absurd rfl h, fun h => absurd rfl h⟩, fun e => ?_, Nat.zero_le _⟩
  show co 0 [] e = _
  rw [co_nil]
  unfold co; split
  · exact (h _).symm
  · rfl
theorem gt_out {l : List Int} {n : Nat} (h : l.length ≤ n) : gt l n = 0 := by
  unfold gt; rw [List.getD_eq_getElem?_getD, List.getElem?_eq_none h]; rfl
theorem specForm_b {low : Int} {l : List Int} (hl : l.length ≤ 2000) (hlow : -1000000 ≤ low ∧ low ≤ 1000000) {a : Int} (ha : 0 ≤ a) (h1 : ∀ n : Nat, (n : Int) < a → gt l n = 0) (h3 : a < l.length → gt l a.toNat ≠ 0) : ∀ (n g : Nat) (b : Int), b - a = n → n < g → b ≤ l.length → (∀ n : Nat, b ≤ n → gt l n = 0) →
    ∃ r, af.pl30 F g low l a b = some r ∧ Form low l r := by
  intro n
  induction n with
  | zero =>
    intro g b hn hg hb h2
    obtain ⟨g, rfl⟩ : ∃ g', g = g' + 1 := ⟨g - 1, by omega⟩
    rw [af.pl30, decide_eq_false (by omega), cond_false]
    unfold af.pj1
    rw [show (a == b) = true from beq_iff_eq.2 (by omega), cond_true]
    refine ⟨_, rfl, form_nil fun n => ?_⟩
    by_cases h : (n : Int) < a
    · exact h1 n h
    · exact h2 n (by omega)
  | succ n ih =>
    intro g b hn hg hb h2
    obtain ⟨g, rfl⟩ : ∃ g', g = g' + 1 := ⟨g - 1, by omega⟩
    rw [af.pl30, decide_eq_true (by omega), cond_true, w64_in (by omega) (by omega), ix_of (by omega) (by omega), Option.bind_some]
    by_cases h : gt l (b - 1).toNat = 0
    · rw [h, show ((0 : Int) == 0) = true from rfl, cond_true]
      refine ih g (b - 1) (by omega) (by omega) (by omega) fun m hm => ?_
      by_cases e : m = (b - 1).toNat
      · subst e; exact h
      · exact h2 m (by omega)
    · rw [show (gt l (b - 1).toNat == 0) = false from beq_eq_false_iff_ne.2 h, cond_false]
      unfold af.pj1
      rw [show (a == b) = false from beq_eq_false_iff_ne.2 (by omega), cond_false, cutf_of ha (by omega) hb, Option.bind_some, apn_nil (by rw [List.length_drop, List.length_take]; omega), Option.bind_some, w64_in (by omega) (by omega)]
      exact ⟨_, rfl, form_cut ha (by omega) hb h1 h2 (h3 (by omega)) h⟩
theorem specForm_a {low : Int} {l : List Int} (hF : 5000000 < F) (hl : l.length ≤ 2000) (hlow : -1000000 ≤ low ∧ low ≤ 1000000) : ∀ (n g : Nat) (a : Int), l.length - a = n → n < g → 0 ≤ a → (∀ n : Nat, (n : Int) < a → gt l n = 0) →
    ∃ r, af.pl14 F g low l a l.length = some r ∧ Form low l r := by
  intro n
  induction n with
  | zero =>
    intro g a hn hg ha h1
    obtain ⟨g, rfl⟩ : ∃ g', g = g' + 1 := ⟨g - 1, by omega⟩
    rw [af.pl14, decide_eq_false (by omega), cond_false]
    exact specForm_b hl hlow ha h1 (fun h => by omega) 0 F l.length (by omega) (by omega) (by omega) (fun n h => gt_out (by omega))
  | succ n ih =>
    intro g a hn hg ha h1
    obtain ⟨g, rfl⟩ : ∃ g', g = g' + 1 := ⟨g - 1, by omega⟩
    rw [af.pl14, decide_eq_true (by omega), cond_true, ix_of (by omega) (by omega), Option.bind_some]
    by_cases h : gt l a.toNat = 0
    · rw [h, show ((0 : Int) == 0) = true from rfl, cond_true, w64_in (by omega) (by omega)]
      refine ih g (a + 1) (by omega) (by omega) (by omega) fun m hm => ?_
      by_cases e : m = a.toNat
      · subst e; exact h
      · exact h1 m (by omega)
    · rw [show (gt l a.toNat == 0) = false from beq_eq_false_iff_ne.2 h, cond_false]
      exact specForm_b hl hlow ha h1 (fun _ => h) (l.length - a).toNat F l.length (by omega) (by omega) (by omega) (fun n h => gt_out (by omega))
theorem specForm {low : Int} {l : List Int} (hF : 5000000 < F) (hl : l.length ≤ 2000) (hlow : -1000000 ≤ low ∧ low ≤ 1000000) : ∃ r, af.p F low l = some r ∧ Form low l r :=
  specForm_a hF hl hlow l.length F 0 (by omega) (by omega) (by omega) (fun n h => by omega)
theorem Form.trans {low low' : Int} {l l' : List Int} {r : Int × List Int} (h : Form low' l' r) (he : ∀ e, co low' l' e = co low l e) (hl : l'.length ≤ l.length) : Form low l r :=
  ⟨h.1, fun e => (h.2.1 e).trans (he e), by have := h.2.2; omega⟩
theorem implNorm_b {low : Int} (hlow : -2000000 ≤ low ∧ low ≤ 2000000) : ∀ (n g : Nat) (l : List Int), l.length = n → n < g → n ≤ 2000 → (l ≠ [] → gt l 0 ≠ 0) →
    ∃ r, ae.pl14 F g low l = some r ∧ Form low l r := by
  intro n
  induction n with
  | zero =>
    intro g l hn hg hl h0
    obtain ⟨g, rfl⟩ : ∃ g', g = g' + 1 := ⟨g - 1, by omega⟩
    obtain rfl := List.length_eq_zero_iff.1 hn
    rw [ae.pl14, decide_eq_false (by decide), cond_false]
    exact ⟨_, rfl, form_nil fun n => gt_out (Nat.zero_le _)⟩
  | succ n ih =>
    intro g l hn hg hl h0
    obtain ⟨g, rfl⟩ : ∃ g', g = g' + 1 := ⟨g - 1, by omega⟩
    rw [ae.pl14, decide_eq_true (by omega), cond_true, w64_in (by omega) (by omega), ix_of (by omega) (by omega), Option.bind_some]
    have hne : l ≠ [] := fun h => by rw [h] at hn; cases hn
    by_cases h : gt l ((l.length : Int) - 1).toNat = 0
    · rw [h, show ((0 : Int) == 0) = true from rfl, cond_true, cutf_of (by omega) (by omega) (by omega), Option.bind_some]
      have hh : ((l.take ((l.length : Int) - 1).toNat).drop (0 : Int).toNat) = l.take n := by rw [show ((l.length : Int) - 1).toNat = n by omega]; rfl
      rw [hh]
      obtain ⟨r, e, hr⟩ := ih g (l.take n) (by rw [List.length_take]; omega) (by omega) (by omega) (fun hne2 => by
        have : gt (l.take n) 0 = gt l 0 := by
          have hn0 : 0 < n := by
            rcases Nat.eq_zero_or_pos n with e | e
            · exact absurd (by rw [e]; rfl) hne2
            · exact e
          unfold gt; simp only [List.getD_eq_getElem?_getD]; rw [List.getElem?_take_of_lt hn0]
        rw [this]; exact h0 hne)
      refine ⟨r, e, hr.trans (fun x => ?_) (by rw [List.length_take]; omega)⟩
      have := co_cut (low := low) (l := l) (a := 0) (b := n) (by omega) (by omega) (fun i hi => by omega) (fun i hi => by
        by_cases e : i = n
        · subst e; rw [show ((l.length : Int) - 1).toNat = i by omega] at h; exact h
        · exact gt_out (by omega)) x
      rw [show low + ((0 : Nat) : Int) = low by omega, List.drop_zero] at this
      exact this
    · rw [show (gt l ((l.length : Int) - 1).toNat == 0) = false from beq_eq_false_iff_ne.2 h, cond_false]
      unfold ae.pj1 aM.p
      rw [show ((l.length : Int) == 0) = false from beq_eq_false_iff_ne.2 (by omega), cond_false, apn_nil (by omega), Option.bind_some]
      refine ⟨_, rfl, ?_⟩
      have := form_cut (low := low) (l := l) (a := 0) (b := l.length) (by omega) (by omega) (by omega) (fun n h => by omega) (fun n h => gt_out (by omega)) (h0 hne) h
      rw [Int.add_zero, Int.toNat_natCast, List.take_length] at this
      exact this
theorem implNorm_a (hF : 5000000 < F) : ∀ (n g : Nat) (low : Int) (l : List Int), l.length = n → n < g → n ≤ 2000 → -1000000 ≤ low → low + n ≤ 1002000 →
    ∃ r, ae.pl6 F g low l = some r ∧ Form low l r := by
  intro n
  induction n with
  | zero =>
    intro g low l hn hg hl h0 h1
    obtain ⟨g, rfl⟩ : ∃ g', g = g' + 1 := ⟨g - 1, by omega⟩
    rw [ae.pl6, decide_eq_false (by omega), cond_false]
    exact implNorm_b ⟨by omega, by omega⟩ 0 F l hn (by omega) (by omega) (fun h => absurd (List.length_eq_zero_iff.1 hn) h)
  | succ n ih =>
    intro g low l hn hg hl h0 h1
    obtain ⟨g, rfl⟩ : ∃ g', g = g' + 1 := ⟨g - 1, by omega⟩
    rw [ae.pl6, decide_eq_true (by omega), cond_true, ix_of (by omega) (by omega), Option.bind_some]
    by_cases h : gt l (0 : Int).toNat = 0
    · rw [h, show ((0 : Int) == 0) = true from rfl, cond_true, cutf_of (by omega) (by omega) (by omega), Option.bind_some, w64_in (by omega) (by omega), Int.toNat_natCast, List.take_length]
      obtain ⟨r, e, hr⟩ := ih g (low + 1) (l.drop (1 : Int).toNat) (by rw [List.length_drop, hn]; rfl) (by omega) (by omega) (by omega) (by omega)
      refine ⟨r, e, hr.trans (fun x => ?_) (by rw [List.length_drop]; omega)⟩
      have := co_cut (low := low) (l := l) (a := 1) (b := l.length) (by omega) (by omega) (fun i hi => by rw [show i = 0 by omega]; exact h) (fun i hi => gt_out (by omega)) x
      rw [List.take_length] at this
      exact this
    · rw [show (gt l (0 : Int).toNat == 0) = false from beq_eq_false_iff_ne.2 h, cond_false]
      exact implNorm_b ⟨by omega, by omega⟩ (n + 1) F l hn (by omega) (by omega) (fun _ => h)
theorem implNorm {low : Int} {l : List Int} (hF : 5000000 < F) (hl : l.length ≤ 2000) (hlow : -1000000 ≤ low ∧ low ≤ 1000000) : ∃ r, ae.p F low l = some r ∧ Form low l r :=
  implNorm_a hF l.length F low l rfl (by omega) (by omega) (by omega) (by omega)
end Go.Proofs.Yteeahaikelpkpaa.AE
end
section
namespace Go.Proofs.Yteeahaikelpkpaa.AE
open Go Go.AE Go.Proofs
variable {F : Nat} {i j k : Int}
def adl (x : List Int) (off : Int) (y : List Int) (i0 : Int) (n : Nat) : Int := gt x n + (if off + i0 ≤ n ∧ (n : Int) < off + y.length then gt y (n - off).toNat else 0)
def Sm (x : List Int) (m : Int) : Prop := ∀ n : Nat, -m ≤ gt x n ∧ gt x n ≤ m
theorem Sm.le {x : List Int} {m m' : Int} (h : Sm x m) (hm : m ≤ m') : Sm x m' := fun n => by have := h n; omega
theorem adl_step {x y : List Int} {off i0 v : Int} (ho : 0 ≤ off) (hi : 0 ≤ i0) (hiy : i0 < y.length) (hx : off + y.length ≤ x.length) (hv : v = gt x (off + i0).toNat + gt y i0.toNat) (n : Nat) :
    adl (x.set (off + i0).toNat v) off y (i0 + 1) n = adl x off y i0 n := by
  unfold adl
  by_cases e : n = (off + i0).toNat
  · subst e
    rw [gt_set_eq (by omega), if_neg (by omega), if_pos (by omega), hv, show (((off + i0).toNat : Int) - off).toNat = i0.toNat by omega]; omega
  · rw [gt_set_ne (Ne.symm e)]
    by_cases c : off + (i0 + 1) ≤ n ∧ (n : Int) < off + y.length
    · rw [if_pos c, if_pos (by omega)]
    · rw [if_neg c, if_neg (by omega)]
theorem adl_end {x y : List Int} {off i0 : Int} (h : y.length ≤ i0) (n : Nat) : adl x off y i0 n = gt x n := by
  unfold adl; rw [if_neg (by omega)]; omega
theorem rO {plow low : Int} {y : List Int} {ql : Int} {q : List Int} (h0 : 0 ≤ plow - low) (h1 : plow - low ≤ 100000) (hp : -1000000 ≤ plow ∧ plow ≤ 1000000) (hlow : -1000000 ≤ low ∧ low ≤ 1000000) (hy : y.length ≤ 2000) (hys : Sm y 4000000000000) : ∀ (n g : Nat) (x : List Int) (i0 : Int), y.length - i0 = n → n < g → 0 ≤ i0 → plow - low + y.length ≤ x.length → (∀ n : Nat, (-4000000000000 ≤ gt x n ∧ gt x n ≤ 4000000000000) ∨ (n : Int) < plow - low + i0) →
    ∃ x', ag.pl509 F g plow y ql q low x i0 = ag.pj2 F ql q low x' ∧ x'.length = x.length ∧ ∀ n, gt x' n = adl x (plow - low) y i0 n := by
  intro n
  induction n with
  | zero =>
    intro g x i0 hn hg hi hx hs
    obtain ⟨g, rfl⟩ : ∃ g', g = g' + 1 := ⟨g - 1, by omega⟩
    rw [ag.pl509, decide_eq_false (by omega), cond_false]
    exact ⟨x, rfl, rfl, fun n => (adl_end (by omega) n).symm⟩
  | succ n ih =>
    intro g x i0 hn hg hi hx hs
    obtain ⟨g, rfl⟩ : ∃ g', g = g' + 1 := ⟨g - 1, by omega⟩
    rw [ag.pl509, decide_eq_true (by omega), cond_true]
    have s1 := hys i0.toNat
    have s2 : -4000000000000 ≤ gt x (plow - low + i0).toNat ∧ gt x (plow - low + i0).toNat ≤ 4000000000000 := by
      rcases hs (plow - low + i0).toNat with h | h
      · exact h
      · omega
    rw [w64_in (x := plow - low) (by omega) (by omega), w64_in (x := plow - low + i0) (by omega) (by omega), ix_of (by omega) (by omega), Option.bind_some, ix_of (by omega) (by omega), Option.bind_some, Option.bind_some, Option.bind_some, w64_in (x := i0 + 1) (by omega) (by omega), w64_in (by omega) (by omega)]
    obtain ⟨x', e, e1, e2⟩ := ih g (x.set (plow - low + i0).toNat (gt x (plow - low + i0).toNat + gt y i0.toNat)) (i0 + 1) (by omega) (by omega) (by omega) (by rw [List.length_set]; omega) (fun m => by
      by_cases c : m = (plow - low + i0).toNat
      · exact .inr (by omega)
      · rw [gt_set_ne (Ne.symm c)]; rcases hs m with h | h
        · exact .inl h
        · exact .inr (by omega))
    exact ⟨x', e, by rw [e1, List.length_set], fun m => by rw [e2 m, adl_step h0 hi (by omega) hx rfl]⟩
theorem rP {plow low : Int} {y : List Int} (h0 : 0 ≤ plow - low) (h1 : plow - low ≤ 100000) (hp : -1000000 ≤ plow ∧ plow ≤ 1000000) (hlow : -1000000 ≤ low ∧ low ≤ 1000000) (hy : y.length ≤ 2000) (hys : Sm y 4000000000000) : ∀ (n g : Nat) (x : List Int) (i0 : Int), y.length - i0 = n → n < g → 0 ≤ i0 → plow - low + y.length ≤ x.length → (∀ n : Nat, (-8000000000000 ≤ gt x n ∧ gt x n ≤ 8000000000000) ∨ (n : Int) < plow - low + i0) →
    ∃ x', ag.pl1021 F g plow y low x i0 = ag.pj1 F low x' ∧ x'.length = x.length ∧ ∀ n, gt x' n = adl x (plow - low) y i0 n := by
  intro n
  induction n with
  | zero =>
    intro g x i0 hn hg hi hx hs
    obtain ⟨g, rfl⟩ : ∃ g', g = g' + 1 := ⟨g - 1, by omega⟩
    rw [ag.pl1021, decide_eq_false (by omega), cond_false]
    exact ⟨x, rfl, rfl, fun n => (adl_end (by omega) n).symm⟩
  | succ n ih =>
    intro g x i0 hn hg hi hx hs
    obtain ⟨g, rfl⟩ : ∃ g', g = g' + 1 := ⟨g - 1, by omega⟩
    rw [ag.pl1021, decide_eq_true (by omega), cond_true]
    have s1 := hys i0.toNat
    have s2 : -8000000000000 ≤ gt x (plow - low + i0).toNat ∧ gt x (plow - low + i0).toNat ≤ 8000000000000 := by
      rcases hs (plow - low + i0).toNat with h | h
      · exact h
      · omega
    rw [w64_in (x := plow - low) (by omega) (by omega), w64_in (x := plow - low + i0) (by omega) (by omega), ix_of (by omega) (by omega), Option.bind_some, ix_of (by omega) (by omega), Option.bind_some, Option.bind_some, Option.bind_some, w64_in (x := i0 + 1) (by omega) (by omega), w64_in (by omega) (by omega)]
    obtain ⟨x', e, e1, e2⟩ := ih g (x.set (plow - low + i0).toNat (gt x (plow - low + i0).toNat + gt y i0.toNat)) (i0 + 1) (by omega) (by omega) (by omega) (by rw [List.length_set]; omega) (fun m => by
      by_cases c : m = (plow - low + i0).toNat
      · exact .inr (by omega)
      · rw [gt_set_ne (Ne.symm c)]; rcases hs m with h | h
        · exact .inl h
        · exact .inr (by omega))
    exact ⟨x', e, by rw [e1, List.length_set], fun m => by rw [e2 m, adl_step h0 hi (by omega) hx rfl]⟩
theorem pw {plow low c1 : Int} {y : List Int} {v : List (Int × List Int)} {a b : Int} {pC} (h0 : 0 ≤ plow - low) (h1 : plow - low ≤ 100000) (hp : -1000000 ≤ plow ∧ plow ≤ 1000000) (hlow : -1000000 ≤ low ∧ low ≤ 1000000) (hy : y.length ≤ 2000) (hys : Sm y 4000000000000) : ∀ (n g : Nat) (x : List Int) (i0 : Int), y.length - i0 = n → n < g → 0 ≤ i0 → plow - low + y.length ≤ x.length → (∀ n : Nat, (-8000000000000 ≤ gt x n ∧ gt x n ≤ 8000000000000) ∨ (n : Int) < plow - low + i0) →
    ∃ x', ad.pl8027 F pC g low c1 x v a b plow y y.length i0 = pC low c1 x' v a (IntKind.i64.wrap (b + 1)) ∧ x'.length = x.length ∧ ∀ n, gt x' n = adl x (plow - low) y i0 n := by
  intro n
  induction n with
  | zero =>
    intro g x i0 hn hg hi hx hs
    obtain ⟨g, rfl⟩ : ∃ g', g = g' + 1 := ⟨g - 1, by omega⟩
    rw [ad.pl8027, decide_eq_false (by omega), cond_false]
    exact ⟨x, rfl, rfl, fun n => (adl_end (by omega) n).symm⟩
  | succ n ih =>
    intro g x i0 hn hg hi hx hs
    obtain ⟨g, rfl⟩ : ∃ g', g = g' + 1 := ⟨g - 1, by omega⟩
    rw [ad.pl8027, decide_eq_true (by omega), cond_true]
    have s1 := hys i0.toNat
    have s2 : -8000000000000 ≤ gt x (plow - low + i0).toNat ∧ gt x (plow - low + i0).toNat ≤ 8000000000000 := by
      rcases hs (plow - low + i0).toNat with h | h
      · exact h
      · omega
    rw [w64_in (x := plow - low) (by omega) (by omega), w64_in (x := plow - low + i0) (by omega) (by omega), ix_of (by omega) (by omega), Option.bind_some, ix_of (by omega) (by omega), Option.bind_some, Option.bind_some, Option.bind_some, w64_in (x := i0 + 1) (by omega) (by omega), w64_in (by omega) (by omega)]
    obtain ⟨x', e, e1, e2⟩ := ih g (x.set (plow - low + i0).toNat (gt x (plow - low + i0).toNat + gt y i0.toNat)) (i0 + 1) (by omega) (by omega) (by omega) (by rw [List.length_set]; omega) (fun m => by
      by_cases c : m = (plow - low + i0).toNat
      · exact .inr (by omega)
      · rw [gt_set_ne (Ne.symm c)]; rcases hs m with h | h
        · exact .inl h
        · exact .inr (by omega))
    exact ⟨x', e, by rw [e1, List.length_set], fun m => by rw [e2 m, adl_step h0 hi (by omega) hx rfl]⟩
theorem co_adl {x x' y : List Int} {low plow : Int} (h0 : 0 ≤ plow - low) (hx' : ∀ n, gt x' n = adl x (plow - low) y 0 n) (e : Int) : co low x' e = co low x e + co plow y e := by
  by_cases c : low ≤ e
  · obtain ⟨n, rfl⟩ : ∃ n : Nat, e = low + n := ⟨(e - low).toNat, by omega⟩
    rw [co_at, co_at, ← gt_def, ← gt_def, hx' n]
    unfold adl
    congr 1
    by_cases h : plow - low + 0 ≤ n ∧ (n : Int) < plow - low + y.length
    · rw [if_pos h]
      unfold co
      rw [if_pos (by omega), gt_def, show ((n : Int) - (plow - low)).toNat = (low + n - plow).toNat by omega]
    · rw [if_neg h]
      by_cases h2 : plow ≤ low + n
      · rw [co_high (by omega)]
      · rw [co_low (by omega)]
  · rw [co_low (by omega), co_low (by omega), co_low (by omega)]; rfl
theorem co_zero (low : Int) (n : Nat) (e : Int) : co low (List.replicate n (0 : Int)) e = 0 := by
  unfold co; split
  · rw [List.getD_eq_getElem?_getD, List.getElem?_replicate]; split <;> rfl
  · rfl
theorem gt_zero (n m : Nat) : gt (List.replicate n (0 : Int)) m = 0 := by
  unfold gt; rw [List.getD_eq_getElem?_getD, List.getElem?_replicate]; split <;> rfl
theorem Sm.adl {x x' y : List Int} {off a b : Int} (hx : Sm x a) (hy : Sm y b) (hb : 0 ≤ b) (h : ∀ n, gt x' n = adl x off y 0 n) : Sm x' (a + b) := by
  intro n
  rw [h n]
  have := hx n
  unfold AE.adl
  split
  · have := hy (n - off).toNat; omega
  · omega
def SumOf (p : Int) (x : List Int) (q : Int) (y : List Int) (r : Int × List Int) : Prop := Trim r.1 r.2 ∧ ∀ e, co r.1 r.2 e = co p x e + co q y e
theorem specSum {p q : Int} {x y : List Int} (hF : 5000000 < F) (hx : x.length ≤ 500) (hy : y.length ≤ 500) (hp : -600 ≤ p ∧ p ≤ 600) (hq : -600 ≤ q ∧ q ≤ 600) (hxs : Sm x 1000000000000) (hys : Sm y 1000000000000) :
    ∃ r, ag.p F p x q y = some r ∧ SumOf p x q y r := by
  unfold ag.p
  by_cases h1 : x.length = 0
  · rw [show ((x.length : Int) == 0) = true from beq_iff_eq.2 (by omega), cond_true]
    obtain ⟨r, e, hr⟩ := specForm (F := F) (low := q) (l := y) hF (by omega) (by omega)
    rw [e, Option.bind_some]
    obtain rfl := List.length_eq_zero_iff.1 h1
    exact ⟨_, rfl, hr.1, fun e => by rw [hr.2.1 e, co_nil]; omega⟩
  · rw [show ((x.length : Int) == 0) = false from beq_eq_false_iff_ne.2 (by omega), cond_false]
    by_cases h2 : y.length = 0
    · rw [show ((y.length : Int) == 0) = true from beq_iff_eq.2 (by omega), cond_true]
      obtain ⟨r, e, hr⟩ := specForm (F := F) (low := p) (l := x) hF (by omega) (by omega)
      rw [e, Option.bind_some]
      obtain rfl := List.length_eq_zero_iff.1 h2
      exact ⟨_, rfl, hr.1, fun e => by rw [hr.2.1 e, co_nil]; omega⟩
    · rw [show ((y.length : Int) == 0) = false from beq_eq_false_iff_ne.2 (by omega), cond_false]
      rw [w64_in (x := q + y.length) (by omega) (by omega), w64_in (x := p + x.length) (by omega) (by omega)]
      obtain ⟨low, hlow⟩ : ∃ low, low = if q < p then q else p := ⟨_, rfl⟩
      obtain ⟨hi, hhi⟩ : ∃ hi, hi = if q + (y.length : Int) > p + x.length then q + (y.length : Int) else p + x.length := ⟨_, rfl⟩
      rw [← hlow, ← hhi]
      have g1 : low ≤ q ∧ low ≤ p ∧ -600 ≤ low := by rw [hlow]; split <;> omega
      have g2 : q + (y.length : Int) ≤ hi ∧ p + (x.length : Int) ≤ hi ∧ hi ≤ 1100 := by rw [hhi]; split <;> omega
      rw [w64_in (x := hi - low) (by omega) (by omega)]
      unfold mkn
      rw [if_pos (by omega), Option.bind_some]
      obtain ⟨z1, f1, f2, f3⟩ := rO (F := F) (ql := q) (q := y) (plow := p) (low := low) (y := x) (by omega) (by omega) (by omega) (by omega) (by omega) (hxs.le (by omega)) x.length F (List.replicate (hi - low).toNat 0) 0 (by omega) (by omega) (by omega) (by rw [List.length_replicate]; omega) (fun n => .inl (by rw [gt_zero]; omega))
      have sz1 : Sm z1 1000000000000 := by
        have := Sm.adl (x := List.replicate (hi - low).toNat 0) (a := 0) (fun n => by rw [gt_zero]; omega) hxs (by omega) f3
        exact this.le (by omega)
      rw [f1]
      unfold ag.pj2
      obtain ⟨z2, e1, e2, e3⟩ := rP (F := F) (plow := q) (low := low) (y := y) (by omega) (by omega) (by omega) (by omega) (by omega) (hys.le (by omega)) y.length F z1 0 (by omega) (by omega) (by omega) (by rw [f2, List.length_replicate]; omega) (fun n => .inl (by have := sz1 n; omega))
      rw [e1]
      unfold ag.pj1
      obtain ⟨r, e, hr⟩ := specForm (F := F) (low := low) (l := z2) hF (by rw [e2, f2, List.length_replicate]; omega) (by omega)
      rw [e, Option.bind_some]
      exact ⟨_, rfl, hr.1, fun e => by rw [hr.2.1 e, co_adl (by omega) e3 e, co_adl (by omega) f3 e, co_zero]; omega⟩
end Go.Proofs.Yteeahaikelpkpaa.AE
end
section
namespace Go.Proofs.Yteeahaikelpkpaa.AE
open Go Go.AE Go.Proofs
variable {F : Nat} {i j k : Int}
def Lau (low : Int) (l : List Int) : Prop := (l.length = 0 → low = 0) ∧ l.length ≤ 160 ∧ -240 ≤ low ∧ low + l.length ≤ 241 ∧ low ≤ 240 ∧ Sm l 1000000000000 ∧ (l.length ≠ 0 → gt l 0 ≠ 0 ∧ gt l (l.length - 1) ≠ 0)
theorem ix_of' {α : Type} {l : List α} {i : Int} (h : 0 ≤ i ∧ i < l.length) : ix l i = some i.toNat := by
  unfold ix; rw [if_pos h]
theorem idx_226 {l : List Int} (hl : l.length ≤ 160) (hs : Sm l 1000000000000) : ∀ (n g : Nat) (i : Int), l.length - i = n → n < g → 0 ≤ i → aw.pl13 F g l l.length i = some (-1) := by
  intro n
  induction n with
  | zero =>
    intro g i hn hg hi
    obtain ⟨g, rfl⟩ : ∃ g', g = g' + 1 := ⟨g - 1, by omega⟩
    rw [aw.pl13, decide_eq_false (by omega), cond_false]
  | succ n ih =>
    intro g i hn hg hi
    obtain ⟨g, rfl⟩ : ∃ g', g = g' + 1 := ⟨g - 1, by omega⟩
    rw [aw.pl13, decide_eq_true (by omega), cond_true, ix_of hi (by omega), Option.bind_some]
    unfold aT.p
    rw [pv, Option.bind_some, Option.bind_some, decide_eq_true (show InR _ _ _ from hs i.toNat), Bool.not_true, cond_false, w64_in (by omega) (by omega)]
    exact ih g (i + 1) (by omega) (by omega) (by omega)
theorem high_of {low : Int} {l : List Int} (hl : l.length ≤ 2000) (h : -1000000 ≤ low ∧ low ≤ 1000000) : aA.p F low l = some (low + l.length - 1) := by
  unfold aA.p a_.p
  rw [Option.bind_some, w64_in (x := low + l.length) (by omega) (by omega), w64_in (by omega) (by omega)]
theorem isLau {low : Int} {l : List Int} (hF : 5000000 < F) (h : Lau low l) : aC.p F low l = some true := by
  obtain ⟨h1, h2, h3, h4, h5, h6, h7⟩ := h
  unfold aC.p
  by_cases h0 : l.length = 0
  · rw [show ((l.length : Int) == 0) = true from beq_iff_eq.2 (by omega), cond_true, h1 h0]; rfl
  · obtain ⟨a, b⟩ := h7 h0
    rw [show ((l.length : Int) == 0) = false from beq_eq_false_iff_ne.2 (by omega), cond_false, decide_eq_true (by omega), cond_true, ix_of (by omega) (by omega), Option.bind_some]
    rw [show (gt l (0 : Int).toNat != 0) = true from bne_iff_ne.2 a, cond_true, w64_in (by omega) (by omega), ix_of (by omega) (by omega), Option.bind_some]
    rw [show (gt l ((l.length : Int) - 1).toNat != 0) = true from bne_iff_ne.2 (by rw [show ((l.length : Int) - 1).toNat = l.length - 1 by omega]; exact b), cond_true, decide_eq_true (by omega), cond_true, high_of (by omega) (by omega), Option.bind_some, decide_eq_true (by omega), cond_true, decide_eq_true (by omega), cond_true]
    unfold aW.p aw.p
    rw [idx_226 h2 h6 l.length F 0 (by omega) (by omega) (by omega)]
    rfl
theorem areLau {p q : Int} {x y : List Int} (hF : 5000000 < F) (h1 : Lau p x) (h2 : Lau q y) : aG.p F [(p, x), (q, y)] = some true := by
  unfold aG.p aX.p au.p
  obtain ⟨f, rfl⟩ : ∃ f, F = f + 3 := ⟨F - 3, by omega⟩
  have e1 := isLau (F := f + 3) (by omega) h1
  have e2 := isLau (F := f + 3) (by omega) h2
  have hx : au.pl13 (f + 3) (f + 3) [(p, x), (q, y)] (([(p, x), (q, y)] : List (Int × List Int)).length : Int) 0 = some (-1) := by
    rw [au.pl13, decide_eq_true (by simp), cond_true, ix_of' (by simp), Option.bind_some]
    unfold aP.p
    rw [show gt [(p, x), (q, y)] (0 : Int).toNat = (p, x) from rfl]
    simp only []
    rw [e1, Option.bind_some, Option.bind_some, Bool.not_true, cond_false, w64_in (by omega) (by omega)]
    rw [au.pl13, decide_eq_true (by simp), cond_true, ix_of' (by simp), Option.bind_some]
    unfold aP.p
    rw [show gt [(p, x), (q, y)] (0 + 1 : Int).toNat = (q, y) from rfl]
    simp only []
    rw [e2, Option.bind_some, Option.bind_some, Bool.not_true, cond_false, w64_in (by omega) (by omega)]
    rw [au.pl13, decide_eq_false (by simp), cond_false]
  rw [hx]; rfl
theorem implSum {p q : Int} {x y : List Int} (hF : 5000000 < F) (h1 : Lau p x) (h2 : Lau q y) (H : ∀ r, SumOf p x q y r → Lau r.1 r.2) :
    ∃ r, aF.p F p x q y = some r ∧ SumOf p x q y r := by
  have a := areLau hF h1 h2
  obtain ⟨a1, a2, a3, a4, a5, a6, a7⟩ := h1
  obtain ⟨b1, b2, b3, b4, b5, b6, b7⟩ := h2
  unfold aF.p ad.p
  rw [a, Option.bind_some, Bool.not_true, cond_false, high_of (by omega) (by omega), Option.bind_some, high_of (by omega) (by omega), Option.bind_some]
  obtain ⟨low, hlow⟩ : ∃ low, low = if q < p then q else p := ⟨_, rfl⟩
  obtain ⟨hi, hhi⟩ : ∃ hi, hi = if q + (y.length : Int) - 1 > p + x.length - 1 then q + (y.length : Int) - 1 else p + x.length - 1 := ⟨_, rfl⟩
  rw [← hlow, ← hhi]
  have g1 : low ≤ q ∧ low ≤ p ∧ -240 ≤ low := by rw [hlow]; split <;> omega
  have g2 : q + (y.length : Int) - 1 ≤ hi ∧ p + (x.length : Int) - 1 ≤ hi ∧ hi ≤ 240 := by rw [hhi]; split <;> omega
  obtain ⟨top, htop⟩ : ∃ top, top = if low > hi then low else hi := ⟨_, rfl⟩
  rw [← htop]
  have g3 : low ≤ top ∧ hi ≤ top ∧ top ≤ 240 := by rw [htop]; split <;> omega
  rw [w64_in (x := top - low) (by omega) (by omega), w64_in (x := top - low + 1) (by omega) (by omega)]
  unfold mkn
  rw [if_pos (by omega), Option.bind_some]
  obtain ⟨f, hf⟩ : ∃ f, F = f + 3 := ⟨F - 3, by omega⟩
  have lp : ∃ z2, ad.pl125 F F low low (List.replicate (top - low + 1).toNat 0) [(p, x), (q, y)] 2 0 = ad.pj3 F low z2 ∧ z2.length = (top - low + 1).toNat ∧ ∀ e, co low z2 e = co p x e + co q y e := by
    rw [show ad.pl125 F F low low (List.replicate (top - low + 1).toNat 0) [(p, x), (q, y)] 2 0 = ad.pl125 F (f + 3) low low (List.replicate (top - low + 1).toNat 0) [(p, x), (q, y)] 2 0 by rw [hf]]
    rw [ad.pl125, decide_eq_true (by omega), cond_true, ix_of' (by simp), Option.bind_some]
    rw [show gt [(p, x), (q, y)] (0 : Int).toNat = (p, x) from rfl]
    simp only []
    obtain ⟨z1, f1, f2, f3⟩ := pw (F := F) (c1 := low) (v := [(p, x), (q, y)]) (a := 2) (b := 0) (pC := ad.pl125 F (f + 2)) (plow := p) (low := low) (y := x) (by omega) (by omega) (by omega) (by omega) (by omega) (a6.le (by omega)) x.length F (List.replicate (top - low + 1).toNat 0) 0 (by omega) (by omega) (by omega) (by rw [List.length_replicate]; omega) (fun n => .inl (by rw [gt_zero]; omega))
    have sz1 : Sm z1 1000000000000 := by
      have := Sm.adl (x := List.replicate (top - low + 1).toNat 0) (a := 0) (fun n => by rw [gt_zero]; omega) a6 (by omega) f3
      exact this.le (by omega)
    rw [f1, w64_in (by omega) (by omega)]
    rw [ad.pl125, decide_eq_true (by omega), cond_true, ix_of' (by simp), Option.bind_some]
    rw [show gt [(p, x), (q, y)] (0 + 1 : Int).toNat = (q, y) from rfl]
    simp only []
    obtain ⟨z2, e1, e2, e3⟩ := pw (F := F) (c1 := low) (v := [(p, x), (q, y)]) (a := 2) (b := 0 + 1) (pC := ad.pl125 F (f + 1)) (plow := q) (low := low) (y := y) (by omega) (by omega) (by omega) (by omega) (by omega) (b6.le (by omega)) y.length F z1 0 (by omega) (by omega) (by omega) (by rw [f2, List.length_replicate]; omega) (fun n => .inl (by have := sz1 n; omega))
    rw [e1, w64_in (by omega) (by omega)]
    rw [ad.pl125, decide_eq_false (by omega), cond_false]
    exact ⟨z2, rfl, by rw [e2, f2, List.length_replicate], fun e => by rw [co_adl (by omega) e3 e, co_adl (by omega) f3 e, co_zero]; omega⟩
  obtain ⟨z2, e1, e2, e3⟩ := lp
  rw [e1]
  unfold ad.pj3 aI.p
  obtain ⟨r, e, hr⟩ := implNorm (F := F) (low := low) (l := z2) hF (by omega) (by omega)
  have hs : SumOf p x q y r := ⟨hr.1, fun e => by rw [hr.2.1 e, e3 e]⟩
  rw [e, Option.bind_some, isLau hF (H r hs), Option.bind_some]
  exact ⟨_, rfl, hs⟩
theorem Trim.one {e c : Int} (hc : c ≠ 0) : Trim e [c] := ⟨fun h => (by cases h), fun _ => hc, fun _ => hc⟩
theorem mono_of {e c : Int} (hF : 5000000 < F) (hc : c ≠ 0) (he : -1000 ≤ e ∧ e ≤ 1000) : aE.p F c e = some (e, [c]) := by
  unfold aE.p
  obtain ⟨r, h, hr⟩ := implNorm (F := F) (low := e) (l := [c]) hF (by simp) (by omega)
  rw [h, Option.bind_some]
  obtain ⟨q1, q2⟩ := hr.1.unique (Trim.one hc) hr.2.1
  rw [q1, q2]
end Go.Proofs.Yteeahaikelpkpaa.AE
end
section
namespace Go.Proofs.Yteeahaikelpkpaa.AE
open Go Go.AE Go.Proofs
variable {F : Nat} {i j k : Int}
def Letter (x : Int) : Prop := x ≠ 0 ∧ -24 ≤ x ∧ x ≤ 24
def Letters (l : List Int) (i : Int) : Prop := ∀ n : Nat, i ≤ n → n < l.length → Letter (gt l n)
theorem rQ {l : List Int} (hl : l.length ≤ 2000000) : ∀ (n g : Nat) (i : Int), l.length - i = n → n < g → 0 ≤ i →
    ∃ b, ao.pl13 F g l i = some b ∧ (b = true ↔ Letters l i ∧ l.length ≤ 120) := by
  intro n
  induction n with
  | zero =>
    intro g i hn hg hi
    obtain ⟨g, rfl⟩ : ∃ g', g = g' + 1 := ⟨g - 1, by omega⟩
    rw [ao.pl13, decide_eq_false (by omega), cond_false]
    unfold ao.pj1
    exact ⟨_, rfl, by rw [decide_eq_true_iff]; exact ⟨fun h => ⟨fun n h1 h2 => by omega, by omega⟩, fun h => by omega⟩⟩
  | succ n ih =>
    intro g i hn hg hi
    obtain ⟨g, rfl⟩ : ∃ g', g = g' + 1 := ⟨g - 1, by omega⟩
    rw [ao.pl13, decide_eq_true (by omega), cond_true, ix_of hi (by omega), Option.bind_some]
    by_cases h0 : gt l i.toNat = 0
    · rw [show (gt l i.toNat == 0) = true from beq_iff_eq.2 h0, cond_true]
      exact ⟨_, rfl, ⟨fun h => (by cases h), fun h => absurd h0 (h.1 i.toNat (by omega) (by omega)).1⟩⟩
    · rw [show (gt l i.toNat == 0) = false from beq_eq_false_iff_ne.2 h0, cond_false, Option.bind_some, pu, Option.bind_some]
      by_cases h : InR (gt l i.toNat) (-24) 24
      · rw [decide_eq_true h, Bool.not_true, cond_false, w64_in (by omega) (by omega)]
        obtain ⟨b, e, hb⟩ := ih g (i + 1) (by omega) (by omega) (by omega)
        refine ⟨b, e, hb.trans ⟨fun ⟨h1, h2⟩ => ⟨fun a h3 h4 => ?_, h2⟩, fun ⟨h1, h2⟩ => ⟨fun a h3 h4 => h1 a (by omega) h4, h2⟩⟩⟩
        by_cases e : a = i.toNat
        · subst e; exact ⟨h0, h.1, h.2⟩
        · exact h1 a (by omega) h4
      · rw [decide_eq_false h, Bool.not_false, cond_true]
        exact ⟨_, rfl, ⟨fun h => (by cases h), fun h1 => absurd (h1.1 i.toNat (by omega) (by omega)).2 h⟩⟩
theorem letter_p {x : Int} (hx : -9223372036854775808 ≤ x ∧ x ≤ 9223372036854775807) : ∃ b, aO.p F x 24 = some b ∧ (b = true ↔ ¬ Letter x) := by
  unfold aO.p
  by_cases h0 : x = 0
  · rw [show (x == 0) = true from beq_iff_eq.2 h0, cond_true]
    exact ⟨_, rfl, ⟨fun _ h => h.1 h0, fun _ => rfl⟩⟩
  · rw [show (x == 0) = false from beq_eq_false_iff_ne.2 h0, cond_false]
    unfold aZ.p
    by_cases hn : x < 0
    · rw [decide_eq_true hn, cond_true, Option.bind_some]
      by_cases hm : x = -9223372036854775808
      · subst hm
        exact ⟨true, by decide, ⟨fun _ h => by have := h.2.1; omega, fun _ => rfl⟩⟩
      · rw [w64_in (x := 0 - x) (by omega) (by omega), w64_in (x := 0 - 24) (by omega) (by omega)]
        by_cases hb : 0 - x > 24
        · rw [decide_eq_true hb, cond_true]
          exact ⟨_, rfl, ⟨fun _ h => by have := h.2.1; omega, fun _ => rfl⟩⟩
        · rw [decide_eq_false hb, cond_false]
          exact ⟨_, rfl, by rw [decide_eq_true_iff]; exact ⟨fun h => by omega, fun h => absurd ⟨h0, by omega, by omega⟩ h⟩⟩
    · rw [decide_eq_false hn, cond_false, Option.bind_some, w64_in (x := 0 - 24) (by omega) (by omega)]
      by_cases hb : x > 24
      · rw [decide_eq_true hb, cond_true]
        exact ⟨_, rfl, ⟨fun _ h => by have := h.2.2; omega, fun _ => rfl⟩⟩
      · rw [decide_eq_false hb, cond_false]
        exact ⟨_, rfl, by rw [decide_eq_true_iff]; exact ⟨fun h => by omega, fun h => absurd ⟨h0, by omega, by omega⟩ h⟩⟩
theorem rR {l : List Int} (hl : l.length ≤ 2000000) (hw : ∀ n : Nat, -9223372036854775808 ≤ gt l n ∧ gt l n ≤ 9223372036854775807) : ∀ (n g : Nat) (i : Int), l.length - i = n → n < g → 0 ≤ i →
    ∃ r : Int, av.pl13 F g l 24 l.length i = some r ∧ (¬ r ≥ 0 ↔ Letters l i) := by
  intro n
  induction n with
  | zero =>
    intro g i hn hg hi
    obtain ⟨g, rfl⟩ : ∃ g', g = g' + 1 := ⟨g - 1, by omega⟩
    rw [av.pl13, decide_eq_false (by omega), cond_false]
    exact ⟨_, rfl, ⟨fun _ n h1 h2 => by omega, fun _ => by decide⟩⟩
  | succ n ih =>
    intro g i hn hg hi
    obtain ⟨g, rfl⟩ : ∃ g', g = g' + 1 := ⟨g - 1, by omega⟩
    rw [av.pl13, decide_eq_true (by omega), cond_true, ix_of hi (by omega), Option.bind_some]
    obtain ⟨b, e, hb⟩ := letter_p (F := F) (hw i.toNat)
    rw [e, Option.bind_some]
    cases b with
    | true =>
      rw [cond_true]
      exact ⟨_, rfl, ⟨fun h => absurd hi h, fun h => absurd (h i.toNat (by omega) (by omega)) (hb.1 rfl)⟩⟩
    | false =>
      rw [cond_false, w64_in (by omega) (by omega)]
      have hlet : Letter (gt l i.toNat) := Classical.byContradiction fun h => by have := hb.2 h; cases this
      obtain ⟨r, e, hr⟩ := ih g (i + 1) (by omega) (by omega) (by omega)
      refine ⟨r, e, hr.trans ⟨fun h1 a h3 h4 => ?_, fun h1 a h3 h4 => h1 a (by omega) h4⟩⟩
      by_cases e : a = i.toNat
      · subst e; exact hlet
      · exact h1 a (by omega) h4
theorem word_both {l : List Int} (hF : 5000000 < F) (hl : l.length ≤ 2000000) (hw : ∀ n : Nat, -9223372036854775808 ≤ gt l n ∧ gt l n ≤ 9223372036854775807) :
    ∃ b, ao.p F l = some b ∧ aS.p F l = some b ∧ (b = true → Letters l 0 ∧ l.length ≤ 120) := by
  obtain ⟨b, e, hb⟩ := rQ (F := F) hl l.length F 0 (by omega) (by omega) (by omega)
  unfold ao.p aS.p aV.p aU.p av.p
  rw [e]
  refine ⟨b, rfl, ?_, hb.1⟩
  by_cases h : l.length ≤ 120
  · obtain ⟨r, e2, hr⟩ := rR (F := F) hl hw l.length F 0 (by omega) (by omega) (by omega)
    rw [decide_eq_true (by omega), cond_true, e2, Option.bind_some, Option.bind_some, Option.bind_some]
    congr 1
    rw [Bool.eq_iff_iff, hb, ← hr]
    simp [h]
  · rw [decide_eq_false (by omega), cond_false, Option.bind_some]
    congr 1
    cases b with
    | false => rfl
    | true => exact absurd (hb.1 rfl).2 h
structure Inv (low : Int) (l : List Int) (e : Int) (n : Nat) : Prop where
  trim : Trim low l
  box : ∃ a b : Int, a ≤ 0 ∧ 0 ≤ b ∧ a ≤ e ∧ e ≤ b ∧ b - a ≤ n ∧ ∀ x, co low l x ≠ 0 → a - 1 ≤ x ∧ x ≤ b
  bd : ∀ x, -(n : Int) ≤ co low l x ∧ co low l x ≤ n
theorem Inv.lau_of {low : Int} {l : List Int} (ht : Trim low l) {a b : Int} (ha : -121 ≤ a) (ha0 : a ≤ 0) (hb0 : 0 ≤ b) (hb : b ≤ 121) (hab : b - a ≤ 121) (hbox : ∀ x, co low l x ≠ 0 → a - 1 ≤ x ∧ x ≤ b) {n : Nat} (hn : n ≤ 1000) (hbd : ∀ x, -(n : Int) ≤ co low l x ∧ co low l x ≤ n) : Lau low l := by
  have hsm : Sm l 1000000000000 := by
    intro m
    have := hbd (low + m)
    rw [co_at, ← gt_def] at this
    omega
  by_cases h0 : l.length = 0
  · have hl := List.length_eq_zero_iff.1 h0
    have := ht.nil hl
    exact ⟨fun _ => this, by omega, by omega, by omega, by omega, hsm, fun h => absurd h0 h⟩
  · have hne : l ≠ [] := fun h => h0 (by rw [h]; rfl)
    have h1 := ht.first hne
    have h2 := ht.last hne
    have g1 := hbox (low + (0 : Nat)) (by rw [co_at]; exact h1)
    have g2 := hbox (low + ((l.length - 1 : Nat) : Int)) (by rw [co_at]; exact h2)
    exact ⟨fun h => absurd h h0, by omega, by omega, by omega, by omega, hsm, fun _ => ⟨h1, h2⟩⟩
theorem Inv.lau {low : Int} {l : List Int} {e : Int} {n : Nat} (h : Inv low l e n) (hn : n ≤ 120) : Lau low l := by
  obtain ⟨a, b, h1, h2, h3, h4, h5, h6⟩ := h.box
  exact lau_of h.trim (a := a) (b := b) (by omega) h1 h2 (by omega) (by omega) h6 (n := n) (by omega) h.bd
theorem co_one (e c x : Int) : co e [c] x = if x = e then c else 0 := by
  by_cases h : x = e
  · subst h
    have := co_at x [c] 0
    rw [show x + ((0 : Nat) : Int) = x by omega] at this
    rw [this, if_pos rfl]; rfl
  · rw [if_neg h]
    by_cases h2 : x < e
    · exact co_low h2
    · exact co_high (by simp; omega)
theorem Inv.sum {low : Int} {l : List Int} {e e' e0 c : Int} {n : Nat} (h : Inv low l e n) (hn : n + 1 ≤ 120) (he : e' = e + 1 ∨ e' = e - 1) (he0 : e0 = e ∨ e0 = e - 1) (hc : c = 1 ∨ c = -1) {r : Int × List Int} (hr : SumOf low l e0 [c] r) : Lau r.1 r.2 ∧ Inv r.1 r.2 e' (n + 1) := by
  obtain ⟨a, b, h1, h2, h3, h4, h5, h6⟩ := h.box
  have hco : ∀ x, co r.1 r.2 x = co low l x + if x = e0 then c else 0 := fun x => by rw [hr.2 x, co_one]
  have hb : ∀ x, co r.1 r.2 x ≠ 0 → a - 1 ≤ x ∧ x ≤ b := by
    intro x hx
    rw [hco] at hx
    by_cases hxe : x = e0
    · omega
    · rw [if_neg hxe, Int.add_zero] at hx
      exact h6 x hx
  have hbd : ∀ x, -((n + 1 : Nat) : Int) ≤ co r.1 r.2 x ∧ co r.1 r.2 x ≤ ((n + 1 : Nat) : Int) := by
    intro x
    have := h.bd x
    rw [hco]
    split <;> omega
  refine ⟨lau_of hr.1 (a := a) (b := b) (by omega) h1 h2 (by omega) (by omega) hb (n := n + 1) (by omega) hbd, hr.1, ?_, hbd⟩
  rcases he with he | he
  · by_cases c : e' ≤ b
    · exact ⟨a, b, h1, h2, by omega, c, by omega, hb⟩
    · exact ⟨a, e', h1, by omega, by omega, by omega, by omega, fun x hx => by have := hb x hx; omega⟩
  · by_cases c : a ≤ e'
    · exact ⟨a, b, h1, h2, c, by omega, by omega, hb⟩
    · exact ⟨e', b, by omega, h2, by omega, by omega, by omega, fun x hx => by have := hb x hx; omega⟩
theorem Inv.skip {low : Int} {l : List Int} {e e' : Int} {n : Nat} (h : Inv low l e n) (he : e' = e + 1 ∨ e' = e - 1) : Inv low l e' (n + 1) := by
  obtain ⟨a, b, h1, h2, h3, h4, h5, h6⟩ := h.box
  refine ⟨h.trim, ?_, fun x => by have := h.bd x; omega⟩
  rcases he with he | he
  · by_cases c : e' ≤ b
    · exact ⟨a, b, h1, h2, by omega, c, by omega, h6⟩
    · exact ⟨a, e', h1, by omega, by omega, by omega, by omega, fun x hx => by have := h6 x hx; omega⟩
  · by_cases c : a ≤ e'
    · exact ⟨a, b, h1, h2, c, by omega, by omega, h6⟩
    · exact ⟨e', b, by omega, h2, by omega, by omega, by omega, fun x hx => by have := h6 x hx; omega⟩
theorem Inv.e_bd {low : Int} {l : List Int} {e : Int} {n : Nat} (h : Inv low l e n) : -(n : Int) ≤ e ∧ e ≤ n := by
  obtain ⟨a, b, h1, h2, h3, h4, h5, h6⟩ := h.box
  omega
theorem Sm.one {c : Int} (hc : c = 1 ∨ c = -1) : Sm [c] 1000000000000 := by
  intro n
  match n with
  | 0 => show -1000000000000 ≤ c ∧ c ≤ 1000000000000; omega
  | n + 1 => rw [gt_out (by simp)]; omega
theorem Lau.one {e c : Int} (hc : c = 1 ∨ c = -1) (he : -200 ≤ e ∧ e ≤ 200) : Lau e [c] :=
  ⟨fun h => (by cases h), by simp, by omega, by simp; omega, by omega, Sm.one hc, fun _ => ⟨show c ≠ 0 by omega, show c ≠ 0 by omega⟩⟩
theorem term_both {low : Int} {l : List Int} {e e' e0 c : Int} {n : Nat} (hF : 5000000 < F) (h : Inv low l e n) (hn : n + 1 ≤ 120) (he : e' = e + 1 ∨ e' = e - 1) (he0 : e0 = e ∨ e0 = e - 1) (hc : c = 1 ∨ c = -1) :
    ∃ r : Int × List Int, ag.p F low l e0 [c] = some r ∧ aE.p F c e0 = some (e0, [c]) ∧ aF.p F low l e0 [c] = some r ∧ Inv r.1 r.2 e' (n + 1) := by
  have hl := h.lau (by omega)
  have heb := h.e_bd
  obtain ⟨a1, a2, a3, a4, a5, a6, a7⟩ := hl
  obtain ⟨r, e1, hr⟩ := specSum (F := F) (p := low) (x := l) (q := e0) (y := [c]) hF (by omega) (by simp) (by omega) (by omega) a6 (Sm.one hc)
  obtain ⟨r', e2, hr'⟩ := implSum (F := F) (p := low) (x := l) (q := e0) (y := [c]) hF ⟨a1, a2, a3, a4, a5, a6, a7⟩ (Lau.one hc (by omega)) (fun r hr => (h.sum hn he he0 hc hr).1)
  have : r = r' := by
    obtain ⟨q1, q2⟩ := hr.1.unique hr'.1 (fun x => by rw [hr.2 x, hr'.2 x])
    exact Prod.ext q1 q2
  subst this
  exact ⟨r, e1, mono_of hF (by omega) (by omega), e2, (h.sum hn he he0 hc hr).2⟩
theorem fox_l {w : List Int} {g : Int} (hF : 5000000 < F) (hw : Letters w 0) (hl : w.length ≤ 120) (hg : 1 ≤ g ∧ g ≤ 24) : ∀ (n gs gi : Nat) (low : Int) (l : List Int) (e i : Int), w.length - i = n → n < gs → n < gi → 0 ≤ i → Inv low l e i.toNat →
    ∃ (r : Int × List Int) (e' : Int), ah.pl61 F gs w g low l e i = some r ∧ ai.pl61 F gi g low l e w w.length i = some r ∧ Inv r.1 r.2 e' w.length := by
  intro n
  induction n with
  | zero =>
    intro gs gi low l e i hn h1 h2 hi h
    obtain ⟨gs, rfl⟩ : ∃ g', gs = g' + 1 := ⟨gs - 1, by omega⟩
    obtain ⟨gi, rfl⟩ : ∃ g', gi = g' + 1 := ⟨gi - 1, by omega⟩
    rw [ah.pl61, ai.pl61, decide_eq_false (by omega), cond_false, cond_false]
    rw [show i.toNat = w.length by omega] at h
    exact ⟨_, e, rfl, rfl, h⟩
  | succ n ih =>
    intro gs gi low l e i hn h1 h2 hi h
    obtain ⟨gs, rfl⟩ : ∃ g', gs = g' + 1 := ⟨gs - 1, by omega⟩
    obtain ⟨gi, rfl⟩ : ∃ g', gi = g' + 1 := ⟨gi - 1, by omega⟩
    have hx := hw i.toNat (by omega) (by omega)
    have heb := h.e_bd
    rw [ah.pl61, ai.pl61, decide_eq_true (by omega), cond_true, cond_true, ix_of hi (by omega), Option.bind_some, Option.bind_some, w64_in (x := 0 - g) (by omega) (by omega)]
    generalize hxe : gt w i.toNat = x at hx
    obtain ⟨hx0, hx1, hx2⟩ := hx
    obtain ⟨e', he', heq⟩ : ∃ e', (e' = e + 1 ∨ e' = e - 1) ∧ e' = if x > 0 then e + 1 else e - 1 := ⟨if x > 0 then e + 1 else e - 1, by split <;> simp, rfl⟩
    -- what comes behind the terms
    have tailS : ∀ (a : Int) (b : List Int), ah.pj5 F (ah.pl61 F gs) w g a b e i = ah.pl61 F gs w g a b e' (i + 1) := by
      intro a b
      unfold ah.pj5 ah.pj4
      rw [ix_of hi (by omega), Option.bind_some, hxe, w64_in (x := i + 1) (by omega) (by omega), w64_in (x := e + 1) (by omega) (by omega), w64_in (x := e - 1) (by omega) (by omega), heq]
      by_cases c : x > 0
      · rw [decide_eq_true c, cond_true, if_pos c]
      · rw [decide_eq_false c, cond_false, if_neg c]
    have sg : aH.p F x = some (e' - e) := by
      unfold aH.p
      by_cases c : x < 0
      · rw [decide_eq_true c, cond_true, heq, if_neg (by omega)]; congr 1; omega
      · rw [decide_eq_false c, cond_false, heq, if_pos (by omega)]; congr 1; omega
    have tail4 : ∀ (a : Int) (b : List Int), ai.pj4 F (ai.pl61 F gi) g a b e x w w.length i = ai.pl61 F gi g a b e' w w.length (i + 1) := by
      intro a b
      unfold ai.pj4
      rw [sg, Option.bind_some, w64_in (x := i + 1) (by omega) (by omega), w64_in (by omega) (by omega), show e + (e' - e) = e' by omega]
    have tail6 : ∀ (a : Int) (b : List Int), ai.pj6 F (ai.pl61 F gi) g a b e x w w.length i = ai.pl61 F gi g a b e' w w.length (i + 1) := by
      intro a b
      unfold ai.pj6 ai.pj5
      rw [sg, Option.bind_some, w64_in (x := i + 1) (by omega) (by omega), w64_in (by omega) (by omega), show e + (e' - e) = e' by omega]
    have six : ∀ (a : Int) (b : List Int), x ≠ -g → ah.pj6 F (ah.pl61 F gs) w g a b e i = ah.pl61 F gs w g a b e' (i + 1) := by
      intro a b hne
      unfold ah.pj6
      rw [ix_of hi (by omega), Option.bind_some, hxe, w64_in (x := 0 - g) (by omega) (by omega), show (x == 0 - g) = false from beq_eq_false_iff_ne.2 (by omega), cond_false]
      exact tailS a b
    have hi1 : (i + 1).toNat = i.toNat + 1 := by omega
    by_cases c1 : x = g
    · rw [show (x == g) = true from beq_iff_eq.2 c1, cond_true, cond_true]
      obtain ⟨r, f1, f2, f3, f4⟩ := term_both (F := F) (e0 := e) (c := 1) (e' := e') hF h (by omega) he' (.inl rfl) (.inl rfl)
      rw [f1, f2, Option.bind_some, Option.bind_some]
      simp only []
      rw [f3, Option.bind_some, six _ _ (by omega), tail4]
      exact ih gs gi r.1 r.2 e' (i + 1) (by omega) (by omega) (by omega) (by omega) (by rw [hi1]; exact f4)
    · rw [show (x == g) = false from beq_eq_false_iff_ne.2 c1, cond_false, cond_false]
      by_cases c2 : x = -g
      · rw [show (x == 0 - g) = true from beq_iff_eq.2 (by omega), cond_true, w64_in (x := e - 1) (by omega) (by omega)]
        obtain ⟨r, f1, f2, f3, f4⟩ := term_both (F := F) (e0 := e - 1) (c := -1) (e' := e') hF h (by omega) he' (.inr rfl) (.inr rfl)
        unfold ah.pj6
        rw [ix_of hi (by omega), Option.bind_some, hxe, w64_in (x := 0 - g) (by omega) (by omega), show (x == 0 - g) = true from beq_iff_eq.2 (by omega), cond_true, w64_in (x := e - 1) (by omega) (by omega)]
        rw [f1, f2, Option.bind_some, Option.bind_some]
        simp only []
        rw [f3, Option.bind_some, tailS, tail6]
        exact ih gs gi r.1 r.2 e' (i + 1) (by omega) (by omega) (by omega) (by omega) (by rw [hi1]; exact f4)
      · rw [show (x == 0 - g) = false from beq_eq_false_iff_ne.2 (by omega), cond_false, six _ _ c2, tail6]
        exact ih gs gi low l e' (i + 1) (by omega) (by omega) (by omega) (by omega) (by rw [hi1]; exact h.skip he')
theorem fox_both {w : List Int} {g : Int} (hF : 5000000 < F) (hl : w.length ≤ 2000000) (hw : ∀ n : Nat, -9223372036854775808 ≤ gt w n ∧ gt w n ≤ 9223372036854775807) :
    ∃ low l c, l.length ≤ 2000000 ∧ aR.p F w g = some (low, l, c) ∧ aN.p F w g = some (low, l, c) := by
  unfold aR.p aN.p
  obtain ⟨b, e1, e2, hb⟩ := word_both hF hl hw
  rw [e1, e2, Option.bind_some, Option.bind_some]
  cases b with
  | false => exact ⟨0, [], 1, by simp, rfl, rfl⟩
  | true =>
    obtain ⟨h1, h2⟩ := hb rfl
    rw [Bool.not_true, cond_false, cond_false, pu, pv, Option.bind_some, Option.bind_some]
    by_cases hg : InR g 1 24
    · rw [decide_eq_true hg, Bool.not_true, cond_false, cond_false]
      unfold ah.p ai.p
      have hinv : Inv 0 [] 0 (0 : Int).toNat := ⟨⟨fun _ => rfl, fun h => absurd rfl h, fun h => absurd rfl h⟩, ⟨0, 0, by omega, by omega, by omega, by omega, by omega, fun x hx => absurd (co_nil 0 x) hx⟩, fun x => by rw [co_nil]; omega⟩
      obtain ⟨r, e', f1, f2, f3⟩ := fox_l (F := F) hF h1 h2 hg w.length F F 0 [] 0 0 (by omega) (by omega) (by omega) (by omega) hinv
      rw [f1, f2]
      have := (f3.lau h2).2.1
      exact ⟨r.1, r.2, 0, by omega, rfl, rfl⟩
    · rw [decide_eq_false hg]
      exact ⟨0, [], 2, by simp, rfl, rfl⟩
theorem eqLau {low : Int} {l : List Int} (hF : 5000000 < F) (hl : l.length ≤ 2000000) : aJ.p F low l low l = some true := by
  unfold aJ.p
  rw [bne_self_eq_false, cond_false, eqInt hF hl]
  rfl
end Go.Proofs.Yteeahaikelpkpaa.AE
end
section
namespace Go.Proofs.Yteeahaikelpkpaa.AE
open Go Go.AE Go.Proofs
variable {F : Nat}
theorem wf_gt {l : List Int} (h : ∀ x ∈ l, (Lit.int .i64 x).wf = true) (n : Nat) : -9223372036854775808 ≤ gt l n ∧ gt l n ≤ 9223372036854775807 := by
  by_cases hn : n < l.length
  · have hm := List.mem_of_getElem? (gt_get hn)
    have := h _ hm
    have h2 : IntKind.i64.min ≤ gt l n ∧ gt l n ≤ IntKind.i64.max := by simpa [Lit.wf] using this
    have h3 : IntKind.i64.min = -9223372036854775808 := by decide
    have h4 : IntKind.i64.max = 9223372036854775807 := by decide
    omega
  · rw [gt_out (by omega)]; omega
theorem FnExactFoxDerivative_pure : ∀ (ak : List Int) (ab : Int), ak.length ≤ maxLen → (∀ x ∈ ak, (Lit.int .i64 x).wf = true) → (Lit.int .i64 ab).wf = true → ∃ F, bc.p F ak ab = some true := by
  intro w g hm hwf _
  obtain ⟨F, hF⟩ : ∃ F : Nat, F = 1000000000000000 := ⟨_, rfl⟩
  refine ⟨F, ?_⟩
  unfold bc.p
  by_cases h : (w.length : Int) > 1048576
  · rw [decide_eq_true h, cond_true]
  · have hl : w.length ≤ 2000000 := by omega
    have hF5 : 5000000 < F := by omega
    obtain ⟨low, l, c, hl2, e1, e2⟩ := fox_both (F := F) (w := w) (g := g) hF5 hl (wf_gt hwf)
    obtain ⟨w', m1, m2, m3⟩ := mark (F := F) (l := w) (k := 1) hF5 hl (by omega) (by omega)
    obtain ⟨l', n1, n2, n3⟩ := mark (F := F) (l := l) (k := 1) hF5 hl2 (by omega) (by omega)
    have h1 := held (F := F) (l := l') (k := 1) hF5 (by omega) (by omega) (by omega) n3
    rw [n2] at h1
    unfold aY.p aQ.p
    rw [decide_eq_false h, cond_false]
    simp only [toInt hF5 hl, Option.bind_some, e1, e2, eqInt hF5 hl, eqLau hF5 hl2, m1, n1, h1, bne_self_eq_false, cond_false, Bool.not_true, decide_eq_false (show ¬ (1 + (w.length : Int) < 0) by omega), decide_eq_false (show ¬ (1 + (l.length : Int) < 0) by omega)]
end Go.Proofs.Yteeahaikelpkpaa.AE
end
