import Derived.Test.YtppbogklbhfboaaP2
set_option linter.unusedVariables false
set_option linter.unusedSimpArgs false
section
namespace Go.Proofs.Ytppbogklbhfboaa.AE
open Go Go.AE Go.Proofs
variable {F : Nat}
section
variable {α : Type} [Inhabited α]
theorem gset_eq {l : List α} {n : Nat} {x : α} (h : n < l.length) : gt (l.set n x) n = x := by
  unfold gt; rw [List.getD_eq_getElem?_getD, List.getElem?_set_self h]; rfl
theorem gset_ne {l : List α} {n m : Nat} {x : α} (h : n ≠ m) : gt (l.set n x) m = gt l m := by
  unfold gt; rw [List.getD_eq_getElem?_getD, List.getD_eq_getElem?_getD, List.getElem?_set_ne h]
theorem gext {l m : List α} (h : l.length = m.length) (hh : ∀ n : Nat, n < l.length → gt l n = gt m n) : l = m := by
  apply List.ext_getElem?
  intro n
  by_cases hn : n < l.length
  · rw [gt_get hn, gt_get (by omega), hh n hn]
  · rw [List.getElem?_eq_none (by omega), List.getElem?_eq_none (by omega)]
theorem gmem {l : List α} {n : Nat} (h : n < l.length) : gt l n ∈ l := List.mem_of_getElem? (gt_get h)
theorem gapp_lt {l m : List α} {n : Nat} (h : n < l.length) : gt (l ++ m) n = gt l n := by
  unfold gt; rw [List.getD_eq_getElem?_getD, List.getD_eq_getElem?_getD, List.getElem?_append_left h]
theorem gapp_eq {l : List α} {x : α} : gt (l ++ [x]) l.length = x := by
  unfold gt; rw [List.getD_eq_getElem?_getD, List.getElem?_append_right (Nat.le_refl _), Nat.sub_self]; rfl
theorem grep {n m : Nat} {x : α} (h : m < n) : gt (List.replicate n x) m = x := by
  unfold gt; rw [List.getD_eq_getElem?_getD, List.getElem?_replicate, if_pos h]; rfl
theorem mem_gt {l : List α} {x : α} (h : x ∈ l) : ∃ n, n < l.length ∧ gt l n = x := by
  obtain ⟨n, hn⟩ := List.getElem?_of_mem h
  have hl := (List.getElem?_eq_some_iff.1 hn).1
  refine ⟨n, hl, ?_⟩
  rw [gt_get hl] at hn; exact Option.some.inj hn
end
section
variable {α : Type}
theorem ix_of {l : List α} {i : Int} (h0 : 0 ≤ i) (h : i < l.length) : ix l i = some i.toNat := by
  unfold ix; rw [if_pos ⟨h0, h⟩]
theorem ixn {l : List α} {n : Nat} (h : n < l.length) : ix l (n : Int) = some n := by
  rw [ix_of (by omega) (by omega)]; simp
theorem apn_of {l m : List α} (h : l.length + m.length ≤ 4294967296) : apn l m = some (l ++ m) := by unfold apn; rw [if_pos h]
theorem mkn_of {n : Nat} {x : α} (h : n ≤ 4294967296) : mkn (n : Int) x = some (List.replicate n x) := by
  unfold mkn; rw [if_pos (by omega)]; simp
end
theorem wn {i : Nat} (h : i ≤ 4294967296) : IntKind.i64.wrap (i : Int) = (i : Int) := w64_in (by omega) (by omega)
theorem ws {i : Nat} (h : i ≤ 4294967296) : IntKind.i64.wrap ((i : Int) + 1) = ((i + 1 : Nat) : Int) := by rw [w64_in (by omega) (by omega)]; omega
theorem dT {i n : Nat} (h : i < n) : decide ((i : Int) < (n : Int)) = true := decide_eq_true (by omega)
theorem dF {i n : Nat} (h : n ≤ i) : decide ((i : Int) < (n : Int)) = false := decide_eq_false (by omega)
abbrev Cr := Int × Int × Int × Int × Int
theorem toCr_l {l : List Cr} (hl : l.length ≤ 2000000) : ∀ (n g : Nat) (m : List Cr) (i : Nat), l.length - i = n → n < g → i ≤ l.length → m.length = l.length → (∀ a : Nat, a < i → gt m a = gt l a) →
    bg.pl29 F g l m (i : Int) = some l := by
  intro n
  induction n with
  | zero =>
    intro g m i hn hg hi hm hh
    obtain ⟨g, rfl⟩ : ∃ g', g = g' + 1 := ⟨g - 1, by omega⟩
    rw [bg.pl29, dF (by omega), cond_false]
    rw [gext hm (fun a h => hh a (by omega))]
  | succ n ih =>
    intro g m i hn hg hi hm hh
    obtain ⟨g, rfl⟩ : ∃ g', g = g' + 1 := ⟨g - 1, by omega⟩
    rw [bg.pl29, dT (by omega), cond_true, ixn (by omega), ixn (by omega), ws (by omega)]
    simp only [Option.bind_some, cd.p]
    refine ih g _ (i + 1) (by omega) (by omega) (by omega) (by simp only [List.length_set]; exact hm) fun a ha => ?_
    by_cases e : a = i
    · subst e
      have h1 : a < m.length := by omega
      simp only [gset_eq, List.length_set, h1]
    · simp only [gset_ne (Ne.symm e)]; exact hh a (by omega)
theorem toDg {l : List Cr} {c : Int} (hF : 5000000 < F) (hl : l.length ≤ 2000000) : bS.p F l c = some (l, c) := by
  unfold bS.p bg.p
  rw [mkn_of (by omega), Option.bind_some]
  have := toCr_l (F := F) hl l.length F (List.replicate l.length (0, 0, 0, 0, 0)) 0 (by omega) (by omega) (by omega) (by simp) (fun a h => by omega)
  rw [show ((0 : Nat) : Int) = 0 from rfl] at this
  rw [this]; rfl
theorem eqCr_l {l : List Cr} (hl : l.length ≤ 2000000) : ∀ (n g : Nat) (i : Nat), l.length - i = n → n < g → bk.pl29 F g l l (i : Int) = some true := by
  intro n
  induction n with
  | zero =>
    intro g i hn hg
    obtain ⟨g, rfl⟩ : ∃ g', g = g' + 1 := ⟨g - 1, by omega⟩
    rw [bk.pl29, dF (by omega), cond_false]
  | succ n ih =>
    intro g i hn hg
    obtain ⟨g, rfl⟩ : ∃ g', g = g' + 1 := ⟨g - 1, by omega⟩
    rw [bk.pl29, dT (by omega), cond_true, ixn (by omega), ws (by omega)]
    simp only [Option.bind_some, cn.p, bne_self_eq_false, cond_false, Bool.not_true]
    exact ih g (i + 1) (by omega) (by omega)
theorem eqDg {l : List Cr} {c : Int} (hF : 5000000 < F) (hl : l.length ≤ 2000000) : b_.p F l c l c = some true := by
  unfold b_.p bk.p
  have := eqCr_l (F := F) hl l.length F 0 (by omega) (by omega)
  rw [show ((0 : Nat) : Int) = 0 from rfl] at this
  simp only [bne_self_eq_false, cond_false, this, Option.bind_some, Bool.not_true]
theorem szDg {l : List Cr} (hl : l.length ≤ 2000000) : bV.p F l 1048576 = some (if 1048576 < l.length then (-1 : Int) else (1048576 : Int) - (l.length : Int)) := by
  unfold bV.p cc.p
  rw [w64_in (by omega) (by omega)]
  by_cases h : 1048576 < l.length
  · rw [decide_eq_true (show (1048576 : Int) - l.length < 0 by omega), cond_true, Option.bind_some, if_pos h]; rfl
  · rw [decide_eq_false (show ¬ (1048576 : Int) - l.length < 0 by omega), cond_false, Option.bind_some, if_neg h, decide_eq_false (by omega), cond_false]
theorem maxLen_le : maxLen ≤ 9223372036854775807 := by decide
theorem szBig {l : List Cr} (hm : l.length ≤ maxLen) (h : 1048576 < l.length) : bV.p F l 1048576 = some (-1) := by
  unfold bV.p cc.p
  have := maxLen_le
  rw [w64_in (by omega) (by omega), decide_eq_true (by omega), cond_true]; rfl
theorem abg {x a b : Int} : bz.p F x a b = some (decide (a ≤ x ∧ x ≤ b)) := by
  unfold bz.p
  by_cases h : x ≥ a
  · rw [decide_eq_true h, cond_true]; congr 1; simp only [ge_iff_le] at h; simp [h]
  · rw [decide_eq_false h, cond_false]; congr 1; simp only [ge_iff_le] at h; simp [h]
theorem zX {x a b : Int} : bD.p F x a b = some (decide (a ≤ x ∧ x ≤ b)) := by
  unfold bD.p
  by_cases h : a ≤ x
  · rw [decide_eq_true h, cond_true]; congr 1; simp [h]
  · rw [decide_eq_false h, cond_false]; congr 1; simp [h]
end Go.Proofs.Ytppbogklbhfboaa.AE
end
section
namespace Go.Proofs.Ytppbogklbhfboaa.AE
open Go Go.AE Go.Proofs
variable {F : Nat}
def en (x : Cr) (p : Nat) : Int := gt [x.1, x.2.1, x.2.2.1, x.2.2.2.1] p
def sg (x : Cr) : Int := x.2.2.2.2
def ent (x : Cr) (p : Nat) : Bool := p == 0 || (p : Int) == 2 + sg x
def SgOk (x : Cr) : Prop := sg x = 1 ∨ sg x = -1
instance (x : Cr) : Decidable (SgOk x) := by unfold SgOk; infer_instance
abbrev Tb := List (Int × Int) × List (Int × Int)
def stp (x : Cr) (i p : Nat) (t : Tb) : Option Tb :=
  bif ent x p then (if 0 ≤ en x p ∧ en x p < t.2.length ∧ (gt t.2 (en x p).toNat).1 < 0 then some (t.1, t.2.set (en x p).toNat ((i : Int), (p : Int))) else none)
  else (if 0 ≤ en x p ∧ en x p < t.1.length ∧ (gt t.1 (en x p).toNat).1 < 0 then some (t.1.set (en x p).toNat ((i : Int), (p : Int)), t.2) else none)
theorem i_ent {x : Cr} {p : Nat} (hs : SgOk x) : bB.p F (sg x) (p : Int) = some (ent x p) := by
  have hw : IntKind.i64.wrap (2 + sg x) = 2 + sg x := by rcases hs with h | h <;> rw [h] <;> decide
  unfold bB.p ent
  rw [hw]
  by_cases h : p = 0
  · subst h; simp
  · have e : ((p : Int) == 0) = false := by simpa using h
    have e' : (p == 0) = false := by simpa using h
    rw [e, e', cond_false, Bool.false_or]
theorem s_ent {x : Cr} {p : Nat} (hs : SgOk x) (hp : p < 4) : bo.p F (sg x) (p : Int) = some (ent x p) := by
  unfold bo.p ent
  have : p = 0 ∨ p = 1 ∨ p = 2 ∨ p = 3 := by omega
  rcases hs with h | h <;> rw [h] <;> rcases this with rfl | rfl | rfl | rfl <;> rfl
theorem s_end {x : Cr} {p : Nat} (hp : p < 4) : bn.p F x.1 x.2.1 x.2.2.1 x.2.2.2.1 (p : Int) = some (en x p) := by
  unfold bn.p
  rw [ixn (by simpa using hp)]; rfl
theorem i_has {l : List (Int × Int)} {a : Int} (hl : l.length ≤ 1000) : bT.p F l a = some (decide (0 ≤ a ∧ a < l.length)) := by
  unfold bT.p co.p
  rw [Option.bind_some, w64_in (by omega) (by omega), zX, Option.bind_some]
  congr 1
  apply decide_eq_decide.2
  omega
theorem set2 {l : List (Int × Int)} {n : Nat} {i p : Int} (h : n < l.length) : (l.set n (i, (gt l n).2)).set n ((gt (l.set n (i, (gt l n).2)) n).1, p) = l.set n (i, p) := by
  rw [gset_eq h, List.set_set]
theorem arr_step {C : List (Int × Int) → List (Int × Int) → List Cr → Int → Int → Option (List (Int × Int) × List (Int × Int) × Bool)} {k : Nat} {t : Tb} {D : List Cr} {y : Int} {i p : Nat} {x : Cr} (hs : SgOk x) (hp : p < 4) (h1 : t.1.length ≤ 1000) (h2 : t.2.length ≤ 1000) :
    aI.pl3931 F C (k + 1) t.1 t.2 D y (i : Int) (sg x) (i : Int) x.1 x.2.1 x.2.2.1 x.2.2.2.1 (p : Int) =
      match stp x i p t with | none => some (t.1, t.2, false) | some t' => aI.pl3931 F C k t'.1 t'.2 D y (i : Int) (sg x) (i : Int) x.1 x.2.1 x.2.2.1 x.2.2.2.1 ((p + 1 : Nat) : Int) := by
  rw [aI.pl3931, show decide ((p : Int) < 4) = true from decide_eq_true (by omega), cond_true, if_pos ⟨by omega, by omega⟩, i_ent hs, Option.bind_some, ws (by omega)]
  have he : gt [x.1, x.2.1, x.2.2.1, x.2.2.2.1] ((p : Int)).toNat = en x p := by rw [Int.toNat_natCast]; rfl
  simp only [he]
  unfold stp
  cases ent x p with
  | true =>
    rw [cond_true, cond_true, i_has h2, Option.bind_some]
    by_cases c1 : 0 ≤ en x p ∧ en x p < t.2.length
    · rw [decide_eq_true c1, Bool.not_true, cond_false, ix_of c1.1 c1.2]
      simp only [Option.bind_some]
      by_cases c2 : (gt t.2 (en x p).toNat).1 < 0
      · rw [if_pos ⟨c1.1, c1.2, c2⟩, decide_eq_false (show ¬ (gt t.2 (en x p).toNat).1 ≥ 0 by omega), cond_false]
        simp only [set2 (show (en x p).toNat < t.2.length by omega)]
      · rw [if_neg (fun h => c2 h.2.2), decide_eq_true (show (gt t.2 (en x p).toNat).1 ≥ 0 by omega), cond_true]
    · rw [decide_eq_false c1, Bool.not_false, cond_true, if_neg (fun h => c1 ⟨h.1, h.2.1⟩)]
  | false =>
    rw [cond_false, cond_false, i_has h1, Option.bind_some]
    by_cases c1 : 0 ≤ en x p ∧ en x p < t.1.length
    · rw [decide_eq_true c1, Bool.not_true, cond_false, ix_of c1.1 c1.2]
      simp only [Option.bind_some]
      by_cases c2 : (gt t.1 (en x p).toNat).1 < 0
      · rw [if_pos ⟨c1.1, c1.2, c2⟩, decide_eq_false (show ¬ (gt t.1 (en x p).toNat).1 ≥ 0 by omega), cond_false]
        simp only [set2 (show (en x p).toNat < t.1.length by omega)]
      · rw [if_neg (fun h => c2 h.2.2), decide_eq_true (show (gt t.1 (en x p).toNat).1 ≥ 0 by omega), cond_true]
    · rw [decide_eq_false c1, Bool.not_false, cond_true, if_neg (fun h => c1 ⟨h.1, h.2.1⟩)]
theorem stp_len {x : Cr} {i p : Nat} {t t' : Tb} (h : stp x i p t = some t') : t'.1.length = t.1.length ∧ t'.2.length = t.2.length := by
  unfold stp at h
  cases e : ent x p with
  | true => rw [e, cond_true] at h; obtain ⟨_, h⟩ := ifs_p h; cases h; simp
  | false => rw [e, cond_false] at h; obtain ⟨_, h⟩ := ifs_p h; cases h; simp
def Mk (u : List Bool) (t : List (Int × Int)) : Prop := u.length = t.length ∧ ∀ a : Nat, a < t.length → gt u a = decide (0 ≤ (gt t a).1)
theorem Mk.set {u : List Bool} {t : List (Int × Int)} (h : Mk u t) {a i p : Nat} (ha : a < t.length) : Mk (u.set a true) (t.set a ((i : Int), (p : Int))) := by
  refine ⟨by simpa using h.1, fun b hb => ?_⟩
  rw [List.length_set] at hb
  by_cases e : a = b
  · subst e
    rw [gset_eq (by rw [h.1]; exact ha), gset_eq ha]
    exact (decide_eq_true (Int.natCast_nonneg i)).symm
  · rw [gset_ne e, gset_ne e]; exact h.2 b hb
theorem cnt_step {C : List Cr → Int → List Bool → List Bool → Int → Option Bool} {k : Nat} {t : Tb} {u v : List Bool} {D : List Cr} {y : Int} {i p : Nat} {x : Cr} (hs : SgOk x) (hp : p < 4) (h1 : t.1.length ≤ 1000) (h12 : t.2.length = t.1.length) (hu : Mk u t.2) (hv : Mk v t.1) :
    (stp x i p t = none ∧ aD.pl3927 F C (k + 1) D (t.1.length : Int) u v y x.1 x.2.1 x.2.2.1 x.2.2.2.1 (sg x) (p : Int) = some false) ∨
    (∃ t' u' v', stp x i p t = some t' ∧ Mk u' t'.2 ∧ Mk v' t'.1 ∧ aD.pl3927 F C (k + 1) D (t.1.length : Int) u v y x.1 x.2.1 x.2.2.1 x.2.2.2.1 (sg x) (p : Int) = aD.pl3927 F C k D (t.1.length : Int) u' v' y x.1 x.2.1 x.2.2.1 x.2.2.2.1 (sg x) ((p + 1 : Nat) : Int)) := by
  rw [aD.pl3927, show decide ((p : Int) < 4) = true from decide_eq_true (by omega), cond_true, s_end hp, Option.bind_some, w64_in (x := (t.1.length : Int) - 1) (by omega) (by omega), abg, Option.bind_some, s_ent hs hp, Option.bind_some, ws (by omega)]
  unfold stp
  by_cases c1 : 0 ≤ en x p ∧ en x p < t.1.length
  · rw [decide_eq_true (show 0 ≤ en x p ∧ en x p ≤ (t.1.length : Int) - 1 by omega), Bool.not_true, cond_false]
    cases ent x p with
    | true =>
      simp only [cond_true]
      rw [ix_of c1.1 (by rw [hu.1, h12]; exact c1.2)]
      simp only [Option.bind_some]
      rw [hu.2 _ (by omega)]
      by_cases c2 : (gt t.2 (en x p).toNat).1 < 0
      · right
        refine ⟨_, u.set (en x p).toNat true, v, if_pos ⟨c1.1, by rw [h12]; exact c1.2, c2⟩, hu.set (by omega), hv, ?_⟩
        rw [decide_eq_false (by omega), cond_false]
      · left
        exact ⟨if_neg (fun h => c2 h.2.2), by rw [decide_eq_true (by omega), cond_true]⟩
    | false =>
      simp only [cond_false]
      rw [ix_of c1.1 (by rw [hv.1]; exact c1.2)]
      simp only [Option.bind_some]
      rw [hv.2 _ (by omega)]
      by_cases c2 : (gt t.1 (en x p).toNat).1 < 0
      · right
        refine ⟨_, u, v.set (en x p).toNat true, if_pos ⟨c1.1, c1.2, c2⟩, hu, hv.set (by omega), ?_⟩
        rw [decide_eq_false (by omega), cond_false]
      · left
        exact ⟨if_neg (fun h => c2 h.2.2), by rw [decide_eq_true (by omega), cond_true]⟩
  · left
    rw [decide_eq_false (show ¬ (0 ≤ en x p ∧ en x p ≤ (t.1.length : Int) - 1) by omega), Bool.not_false, cond_true]
    refine ⟨?_, rfl⟩
    cases ent x p with
    | true => rw [cond_true]; exact if_neg (fun h => c1 ⟨h.1, by rw [← h12]; exact h.2.1⟩)
    | false => rw [cond_false]; exact if_neg (fun h => c1 ⟨h.1, h.2.1⟩)
end Go.Proofs.Ytppbogklbhfboaa.AE
end
section
namespace Go.Proofs.Ytppbogklbhfboaa.AE
open Go Go.AE Go.Proofs
variable {F : Nat}
def stp4 (x : Cr) (i : Nat) (t : Tb) : Option Tb := (stp x i 0 t).bind fun t => (stp x i 1 t).bind fun t => (stp x i 2 t).bind fun t => stp x i 3 t
def run (i : Nat) : List Cr → Tb → Option Tb
  | [], t => some t
  | x :: D, t => (stp4 x i t).bind (run (i + 1) D)
theorem stp4_len {x : Cr} {i : Nat} {t t' : Tb} (h : stp4 x i t = some t') : t'.1.length = t.1.length ∧ t'.2.length = t.2.length := by
  unfold stp4 at h
  obtain ⟨a, h1, h⟩ := bind_some' h
  obtain ⟨b, h2, h⟩ := bind_some' h
  obtain ⟨c, h3, h⟩ := bind_some' h
  have e1 := stp_len h1; have e2 := stp_len h2; have e3 := stp_len h3; have e4 := stp_len h
  omega
theorem arr4 {C : List (Int × Int) → List (Int × Int) → List Cr → Int → Int → Option (List (Int × Int) × List (Int × Int) × Bool)} {k : Nat} {t : Tb} {D : List Cr} {y : Int} {i : Nat} {x : Cr} (hs : SgOk x) (hi : i ≤ 1000) (h1 : t.1.length ≤ 1000) (h2 : t.2.length ≤ 1000) :
    (stp4 x i t = none ∧ ∃ a b, aI.pl3931 F C (k + 5) t.1 t.2 D y (i : Int) (sg x) (i : Int) x.1 x.2.1 x.2.2.1 x.2.2.2.1 0 = some (a, b, false)) ∨
    (∃ t', stp4 x i t = some t' ∧ aI.pl3931 F C (k + 5) t.1 t.2 D y (i : Int) (sg x) (i : Int) x.1 x.2.1 x.2.2.1 x.2.2.2.1 0 = C t'.1 t'.2 D y ((i + 1 : Nat) : Int)) := by
  unfold stp4
  have s0 := arr_step (F := F) (C := C) (k := k + 4) (t := t) (D := D) (y := y) (i := i) (p := 0) hs (by decide) h1 h2
  rw [show ((0 : Nat) : Int) = 0 from rfl] at s0
  rw [s0]
  cases e0 : stp x i 0 t with
  | none => exact .inl ⟨rfl, _, _, rfl⟩
  | some a =>
    have l0 := stp_len e0
    have s1 := arr_step (F := F) (C := C) (k := k + 3) (t := a) (D := D) (y := y) (i := i) (p := 1) hs (by decide) (by omega) (by omega)
    simp only [Option.bind_some]
    rw [show ((0 + 1 : Nat) : Int) = ((1 : Nat) : Int) from rfl, s1]
    cases e1 : stp x i 1 a with
    | none => exact .inl ⟨rfl, _, _, rfl⟩
    | some b =>
      have l1 := stp_len e1
      have s2 := arr_step (F := F) (C := C) (k := k + 2) (t := b) (D := D) (y := y) (i := i) (p := 2) hs (by decide) (by omega) (by omega)
      simp only [Option.bind_some]
      rw [show ((1 + 1 : Nat) : Int) = ((2 : Nat) : Int) from rfl, s2]
      cases e2 : stp x i 2 b with
      | none => exact .inl ⟨rfl, _, _, rfl⟩
      | some c =>
        have l2 := stp_len e2
        have s3 := arr_step (F := F) (C := C) (k := k + 1) (t := c) (D := D) (y := y) (i := i) (p := 3) hs (by decide) (by omega) (by omega)
        simp only [Option.bind_some]
        rw [show ((2 + 1 : Nat) : Int) = ((3 : Nat) : Int) from rfl, s3]
        cases e3 : stp x i 3 c with
        | none => exact .inl ⟨rfl, _, _, rfl⟩
        | some d =>
          right
          refine ⟨d, rfl, ?_⟩
          show aI.pl3931 F C (k + 1) d.1 d.2 D y (i : Int) (sg x) (i : Int) x.1 x.2.1 x.2.2.1 x.2.2.2.1 ((3 + 1 : Nat) : Int) = _
          rw [aI.pl3931, show decide (((3 + 1 : Nat) : Int) < 4) = false by decide, cond_false, ws (by omega)]
theorem arr_run {D : List Cr} (hD : D.length ≤ 100) (hs : ∀ x ∈ D, SgOk x) (hF : 100 < F) : ∀ (n g i : Nat) (t : Tb), D.length - i = n → n < g → i ≤ D.length → t.1.length ≤ 1000 → t.2.length ≤ 1000 →
    (run i (D.drop i) t = none ∧ ∃ a b, aI.pl61 F g t.1 t.2 D (D.length : Int) (i : Int) = some (a, b, false)) ∨
    (∃ t', run i (D.drop i) t = some t' ∧ aI.pl61 F g t.1 t.2 D (D.length : Int) (i : Int) = some (t'.1, t'.2, true)) := by
  intro n
  induction n with
  | zero =>
    intro g i t hn hg hi h1 h2
    obtain ⟨g, rfl⟩ : ∃ g', g = g' + 1 := ⟨g - 1, by omega⟩
    right
    refine ⟨t, ?_, ?_⟩
    · rw [List.drop_eq_nil_of_le (by omega)]; rfl
    · rw [aI.pl61, dF (by omega), cond_false]
  | succ n ih =>
    intro g i t hn hg hi h1 h2
    obtain ⟨g, rfl⟩ : ∃ g', g = g' + 1 := ⟨g - 1, by omega⟩
    have hlt : i < D.length := by omega
    rw [aI.pl61, dT hlt, cond_true, ixn hlt, Option.bind_some]
    unfold bA.p
    rw [Option.bind_some]
    have hd : D.drop i = gt D i :: D.drop (i + 1) := by
      rw [List.drop_eq_getElem_cons hlt]
      congr 1
      have := gt_get hlt
      rw [List.getElem?_eq_getElem hlt] at this
      exact Option.some.inj this
    rw [hd]
    obtain ⟨f, rfl⟩ : ∃ f, F = f + 5 := ⟨F - 5, by omega⟩
    rcases arr4 (F := f + 5) (C := aI.pl61 (f + 5) g) (k := f) (t := t) (D := D) (y := (D.length : Int)) (i := i) (hs _ (gmem hlt)) (by omega) h1 h2 with ⟨e, a, b, r⟩ | ⟨t', e, r⟩
    · left
      refine ⟨by unfold run; rw [e]; rfl, a, b, r⟩
    · have hl := stp4_len e
      have hr : run i (gt D i :: D.drop (i + 1)) t = run (i + 1) (D.drop (i + 1)) t' := by rw [run, e]; rfl
      rw [hr]
      show (_ ∧ ∃ a b, aI.pl3931 (f + 5) (aI.pl61 (f + 5) g) (f + 5) t.1 t.2 D (D.length : Int) (i : Int) (sg (gt D i)) (i : Int) (gt D i).1 (gt D i).2.1 (gt D i).2.2.1 (gt D i).2.2.2.1 0 = _) ∨ (∃ t', _ ∧ aI.pl3931 (f + 5) (aI.pl61 (f + 5) g) (f + 5) t.1 t.2 D (D.length : Int) (i : Int) (sg (gt D i)) (i : Int) (gt D i).1 (gt D i).2.1 (gt D i).2.2.1 (gt D i).2.2.2.1 0 = _)
      rw [r]
      exact ih g (i + 1) t' (by omega) (by omega) (by omega) (by omega) (by omega)
theorem cnt4 {C : List Cr → Int → List Bool → List Bool → Int → Option Bool} {k : Nat} {t : Tb} {u v : List Bool} {D : List Cr} {y : Nat} {i : Nat} {x : Cr} (hs : SgOk x) (hy : y ≤ 1000) (h1 : t.1.length ≤ 1000) (h12 : t.2.length = t.1.length) (hu : Mk u t.2) (hv : Mk v t.1) :
    (stp4 x i t = none ∧ aD.pl3927 F C (k + 5) D (t.1.length : Int) u v (y : Int) x.1 x.2.1 x.2.2.1 x.2.2.2.1 (sg x) 0 = some false) ∨
    (∃ t' u' v', stp4 x i t = some t' ∧ Mk u' t'.2 ∧ Mk v' t'.1 ∧ aD.pl3927 F C (k + 5) D (t.1.length : Int) u v (y : Int) x.1 x.2.1 x.2.2.1 x.2.2.2.1 (sg x) 0 = C D (t.1.length : Int) u' v' ((y + 1 : Nat) : Int)) := by
  unfold stp4
  rcases cnt_step (F := F) (C := C) (k := k + 4) (t := t) (D := D) (y := (y : Int)) (i := i) (p := 0) hs (by decide) h1 h12 hu hv with ⟨e, r⟩ | ⟨a, u1, v1, e, hu1, hv1, r⟩
  · exact .inl ⟨by rw [e]; rfl, r⟩
  have r : aD.pl3927 F C (k + 5) D (t.1.length : Int) u v (y : Int) x.1 x.2.1 x.2.2.1 x.2.2.2.1 (sg x) 0 = _ := r
  rw [r, e]
  have l0 := stp_len e
  simp only [Option.bind_some]
  rcases cnt_step (F := F) (C := C) (k := k + 3) (t := a) (D := D) (y := (y : Int)) (i := i) (p := 1) hs (by decide) (by omega) (by omega) hu1 hv1 with ⟨e, r⟩ | ⟨b, u2, v2, e, hu2, hv2, r⟩
  · rw [l0.1] at r
    exact .inl ⟨by rw [e]; rfl, r⟩
  rw [l0.1] at r
  rw [show ((0 + 1 : Nat) : Int) = ((1 : Nat) : Int) from rfl, r, e]
  have l1 := stp_len e
  simp only [Option.bind_some]
  rcases cnt_step (F := F) (C := C) (k := k + 2) (t := b) (D := D) (y := (y : Int)) (i := i) (p := 2) hs (by decide) (by omega) (by omega) hu2 hv2 with ⟨e, r⟩ | ⟨c, u3, v3, e, hu3, hv3, r⟩
  · rw [l1.1, l0.1] at r
    exact .inl ⟨by rw [e]; rfl, r⟩
  rw [l1.1, l0.1] at r
  rw [show ((1 + 1 : Nat) : Int) = ((2 : Nat) : Int) from rfl, r, e]
  have l2 := stp_len e
  simp only [Option.bind_some]
  rcases cnt_step (F := F) (C := C) (k := k + 1) (t := c) (D := D) (y := (y : Int)) (i := i) (p := 3) hs (by decide) (by omega) (by omega) hu3 hv3 with ⟨e, r⟩ | ⟨d, u4, v4, e, hu4, hv4, r⟩
  · rw [l2.1, l1.1, l0.1] at r
    exact .inl ⟨e, r⟩
  rw [l2.1, l1.1, l0.1] at r
  rw [show ((2 + 1 : Nat) : Int) = ((3 : Nat) : Int) from rfl, r]
  refine .inr ⟨d, u4, v4, e, hu4, hv4, ?_⟩
  rw [aD.pl3927, show decide (((3 + 1 : Nat) : Int) < 4) = false by decide, cond_false, ws (by omega)]
theorem cnt_run {D : List Cr} {N : Nat} (hD : D.length ≤ 100) (hN : N ≤ 1000) (hF : 100 < F) : ∀ (n g i : Nat) (t : Tb) (u v : List Bool), D.length - i = n → n < g → i ≤ D.length → t.1.length = N → t.2.length = N → Mk u t.2 → Mk v t.1 →
    ∃ b, aD.pl61 F g D (N : Int) u v (i : Int) = some b ∧ (b = true ↔ (∀ x ∈ D.drop i, SgOk x) ∧ ∃ t', run i (D.drop i) t = some t') := by
  intro n
  induction n with
  | zero =>
    intro g i t u v hn hg hi h1 h2 hu hv
    obtain ⟨g, rfl⟩ : ∃ g', g = g' + 1 := ⟨g - 1, by omega⟩
    refine ⟨true, ?_, ?_⟩
    · rw [aD.pl61, dF (by omega), cond_false]
    · rw [List.drop_eq_nil_of_le (by omega)]
      simp [run]
  | succ n ih =>
    intro g i t u v hn hg hi h1 h2 hu hv
    obtain ⟨g, rfl⟩ : ∃ g', g = g' + 1 := ⟨g - 1, by omega⟩
    have hlt : i < D.length := by omega
    have hd : D.drop i = gt D i :: D.drop (i + 1) := by
      rw [List.drop_eq_getElem_cons hlt]
      congr 1
      have := gt_get hlt
      rw [List.getElem?_eq_getElem hlt] at this
      exact Option.some.inj this
    rw [aD.pl61, dT hlt, cond_true, ixn hlt, Option.bind_some, hd]
    obtain ⟨f, rfl⟩ : ∃ f, F = f + 5 := ⟨F - 5, by omega⟩
    by_cases hs : SgOk (gt D i)
    · have key : aD.pl3927 (f + 5) (aD.pl61 (f + 5) g) (f + 5) D (N : Int) u v (i : Int) (gt D i).1 (gt D i).2.1 (gt D i).2.2.1 (gt D i).2.2.2.1 (sg (gt D i)) 0 = (bif sg (gt D i) != 1 then (bif sg (gt D i) != -1 then (some false) else aD.pl3927 (f + 5) (aD.pl61 (f + 5) g) (f + 5) D (N : Int) u v (i : Int) (gt D i).1 (gt D i).2.1 (gt D i).2.2.1 (gt D i).2.2.2.1 (sg (gt D i)) 0) else aD.pl3927 (f + 5) (aD.pl61 (f + 5) g) (f + 5) D (N : Int) u v (i : Int) (gt D i).1 (gt D i).2.1 (gt D i).2.2.1 (gt D i).2.2.2.1 (sg (gt D i)) 0) := by
        rcases hs with h | h <;> rw [h] <;> rfl
      have key := key.symm
      unfold sg at key
      rw [key]
      subst h1
      rcases cnt4 (F := f + 5) (C := aD.pl61 (f + 5) g) (k := f) (t := t) (D := D) (y := i) (i := i) hs (by omega) hN h2 hu hv with ⟨e, r⟩ | ⟨t', u', v', e, hu', hv', r⟩
      · refine ⟨false, r, ?_⟩
        constructor
        · intro h; cases h
        · rintro ⟨_, t', h⟩
          rw [run, e] at h; cases h
      · have hl := stp4_len e
        obtain ⟨b, q1, q2⟩ := ih g (i + 1) t' u' v' (by omega) (by omega) (by omega) hl.1 (by omega) hu' hv'
        refine ⟨b, r.trans q1, q2.trans ?_⟩
        have hr : run i (gt D i :: D.drop (i + 1)) t = run (i + 1) (D.drop (i + 1)) t' := by rw [run, e]; rfl
        rw [hr]
        constructor
        · rintro ⟨a, b⟩; exact ⟨List.forall_mem_cons.2 ⟨hs, a⟩, b⟩
        · rintro ⟨a, b⟩; exact ⟨(List.forall_mem_cons.1 a).2, b⟩
    · refine ⟨false, ?_, ?_⟩
      · have hs' : ¬ (sg (gt D i) = 1 ∨ sg (gt D i) = -1) := hs
        unfold sg at hs'
        rw [show ((gt D i).2.2.2.2 != 1) = true by simp; omega, cond_true, show ((gt D i).2.2.2.2 != -1) = true by simp; omega, cond_true]
      · constructor
        · intro h; cases h
        · rintro ⟨a, _⟩; exact absurd ((List.forall_mem_cons.1 a).1) hs
end Go.Proofs.Ytppbogklbhfboaa.AE
end
section
namespace Go.Proofs.Ytppbogklbhfboaa.AE
open Go Go.AE Go.Proofs
variable {F : Nat}
def ce (b : Bool) (x : Cr) : Nat → Nat
  | 0 => 0
  | p + 1 => ce b x p + (bif ent x p == b then 1 else 0)
theorem ce4 {b : Bool} {x : Cr} (hs : SgOk x) : ce b x 4 = 2 := by
  rcases hs with h | h <;> cases b <;> simp only [ce, ent, h] <;> rfl
structure PS (b : Bool) (D : List Cr) (N i0 p0 : Nat) (l : List (Int × Int)) : Prop where
  len : l.length = N
  put : ∀ i p : Nat, i < D.length → p < 4 → (i < i0 ∨ i = i0 ∧ p < p0) → ent (gt D i) p = b → 0 ≤ en (gt D i) p ∧ en (gt D i) p < N ∧ gt l (en (gt D i) p).toNat = ((i : Int), (p : Int))
  get : ∀ a : Nat, a < N → (gt l a).1 < 0 ∨ ∃ i p : Nat, i < D.length ∧ p < 4 ∧ (i < i0 ∨ i = i0 ∧ p < p0) ∧ ent (gt D i) p = b ∧ en (gt D i) p = a
  cnt : l.countP (fun q => decide (0 ≤ q.1)) = 2 * i0 + ce b (gt D i0) p0
variable {b : Bool} {D : List Cr} {N i0 p0 : Nat} {l : List (Int × Int)}
theorem PS.put_step (h : PS b D N i0 p0 l) (hi : i0 < D.length) (hp : p0 < 4) (he : ent (gt D i0) p0 = b) (h0 : 0 ≤ en (gt D i0) p0) (h1 : en (gt D i0) p0 < l.length) (h2 : (gt l (en (gt D i0) p0).toNat).1 < 0) :
    PS b D N i0 (p0 + 1) (l.set (en (gt D i0) p0).toNat ((i0 : Int), (p0 : Int))) where
  len := by rw [List.length_set]; exact h.len
  put := fun i p hi' hp' hpr he' => by
    by_cases e : i = i0 ∧ p = p0
    · obtain ⟨rfl, rfl⟩ := e
      exact ⟨h0, by rw [← h.len]; exact h1, gset_eq (by omega)⟩
    · obtain ⟨q1, q2, q3⟩ := h.put i p hi' hp' (by omega) he'
      refine ⟨q1, q2, ?_⟩
      rw [gset_ne, q3]
      intro e2
      rw [e2, q3] at h2
      simp only at h2; omega
  get := fun a ha => by
    by_cases e : a = (en (gt D i0) p0).toNat
    · right; exact ⟨i0, p0, hi, hp, by omega, he, by omega⟩
    · rw [gset_ne (Ne.symm e)]
      rcases h.get a ha with q | ⟨i, p, q1, q2, q3, q4, q5⟩
      · exact .inl q
      · exact .inr ⟨i, p, q1, q2, by omega, q4, q5⟩
  cnt := by
    have hlt : (en (gt D i0) p0).toNat < l.length := by omega
    rw [List.countP_set hlt, h.cnt]
    have e : l[(en (gt D i0) p0).toNat] = gt l (en (gt D i0) p0).toNat := by
      have := gt_get hlt
      rw [List.getElem?_eq_getElem hlt] at this
      exact Option.some.inj this
    rw [e, if_neg (by simp; omega), if_pos (by simp), ce, he]
    simp only [beq_self_eq_true, cond_true]
    omega
theorem PS.skip_step (h : PS b D N i0 p0 l) (he : ent (gt D i0) p0 = !b) : PS b D N i0 (p0 + 1) l where
  len := h.len
  put := fun i p hi' hp' hpr he' => by
    refine h.put i p hi' hp' ?_ he'
    by_cases e : i = i0 ∧ p = p0
    · obtain ⟨rfl, rfl⟩ := e
      rw [he] at he'; cases b <;> simp at he'
    · omega
  get := fun a ha => by
    rcases h.get a ha with q | ⟨i, p, q1, q2, q3, q4, q5⟩
    · exact .inl q
    · exact .inr ⟨i, p, q1, q2, by omega, q4, q5⟩
  cnt := by
    rw [h.cnt, ce, he]
    cases b <;> simp
theorem PS.next (h : PS b D N i0 4 l) (hs : SgOk (gt D i0)) : PS b D N (i0 + 1) 0 l where
  len := h.len
  put := fun i p hi' hp' hpr he' => h.put i p hi' hp' (by omega) he'
  get := fun a ha => by
    rcases h.get a ha with q | ⟨i, p, q1, q2, q3, q4, q5⟩
    · exact .inl q
    · exact .inr ⟨i, p, q1, q2, by omega, q4, q5⟩
  cnt := by rw [h.cnt, ce4 hs]; simp only [ce]; omega
def PT (D : List Cr) (N i0 p0 : Nat) (t : Tb) : Prop := PS false D N i0 p0 t.1 ∧ PS true D N i0 p0 t.2
theorem PT.stp {t t' : Tb} (h : PT D N i0 p0 t) (hi : i0 < D.length) (hp : p0 < 4) (e : stp (gt D i0) i0 p0 t = some t') : PT D N i0 (p0 + 1) t' := by
  unfold AE.stp at e
  cases he : ent (gt D i0) p0 with
  | true =>
    rw [he, cond_true] at e
    obtain ⟨⟨c0, c1, c2⟩, e⟩ := ifs_p e
    cases e
    exact ⟨h.1.skip_step he, h.2.put_step hi hp he c0 c1 c2⟩
  | false =>
    rw [he, cond_false] at e
    obtain ⟨⟨c0, c1, c2⟩, e⟩ := ifs_p e
    cases e
    exact ⟨h.1.put_step hi hp he c0 c1 c2, h.2.skip_step he⟩
theorem PT.stp4 {t t' : Tb} (h : PT D N i0 0 t) (hi : i0 < D.length) (hs : SgOk (gt D i0)) (e : stp4 (gt D i0) i0 t = some t') : PT D N (i0 + 1) 0 t' := by
  unfold AE.stp4 at e
  obtain ⟨a, h1, e⟩ := bind_some' e
  obtain ⟨b, h2, e⟩ := bind_some' e
  obtain ⟨c, h3, e⟩ := bind_some' e
  have := (((h.stp hi (by decide) h1).stp hi (by decide) h2).stp hi (by decide) h3).stp hi (by decide) e
  exact ⟨this.1.next hs, this.2.next hs⟩
theorem drop_cons {D : List Cr} {i : Nat} (hlt : i < D.length) : D.drop i = gt D i :: D.drop (i + 1) := by
  rw [List.drop_eq_getElem_cons hlt]
  congr 1
  have := gt_get hlt
  rw [List.getElem?_eq_getElem hlt] at this
  exact Option.some.inj this
theorem PT.run (hs : ∀ x ∈ D, SgOk x) : ∀ (n i : Nat) (t t' : Tb), D.length - i = n → i ≤ D.length → PT D N i 0 t → run i (D.drop i) t = some t' → PT D N D.length 0 t' := by
  intro n
  induction n with
  | zero =>
    intro i t t' hn hi h e
    rw [List.drop_eq_nil_of_le (by omega)] at e
    cases e
    obtain rfl : i = D.length := by omega
    exact h
  | succ n ih =>
    intro i t t' hn hi h e
    have hlt : i < D.length := by omega
    rw [drop_cons hlt, AE.run] at e
    obtain ⟨a, h1, e⟩ := bind_some' e
    exact ih (i + 1) a t' (by omega) (by omega) (h.stp4 hlt (hs _ (gmem hlt)) h1) e
theorem PS.start (b : Bool) (D : List Cr) (N : Nat) : PS b D N 0 0 (List.replicate N (-1, 0)) where
  len := by simp
  put := fun i p _ _ h => by omega
  get := fun a ha => .inl (by rw [grep ha]; decide)
  cnt := by rw [List.countP_replicate]; simp [ce]
structure TS (b : Bool) (D : List Cr) (l : List (Int × Int)) : Prop where
  len : l.length = 2 * D.length
  put : ∀ i p : Nat, i < D.length → p < 4 → ent (gt D i) p = b → 0 ≤ en (gt D i) p ∧ en (gt D i) p < (2 * D.length : Nat) ∧ gt l (en (gt D i) p).toNat = ((i : Int), (p : Int))
  get : ∀ a : Nat, a < 2 * D.length → ∃ i p : Nat, i < D.length ∧ p < 4 ∧ ent (gt D i) p = b ∧ en (gt D i) p = a ∧ gt l a = ((i : Int), (p : Int))
theorem PS.whole (h : PS b D (2 * D.length) D.length 0 l) : TS b D l where
  len := h.len
  put := fun i p hi hp he => h.put i p hi hp (.inl hi) he
  get := fun a ha => by
    have hc := h.cnt
    rw [ce, Nat.add_zero, ← h.len, List.countP_eq_length] at hc
    have hm := hc _ (gmem (by rw [h.len]; exact ha : a < l.length))
    simp only [decide_eq_true_eq] at hm
    rcases h.get a ha with q | ⟨i, p, q1, q2, q3, q4, q5⟩
    · omega
    · refine ⟨i, p, q1, q2, q4, q5, ?_⟩
      obtain ⟨_, _, q⟩ := h.put i p q1 q2 q3 q4
      rw [q5, Int.toNat_natCast] at q
      exact q
structure TB (D : List Cr) (t : Tb) : Prop where
  sg : ∀ x ∈ D, SgOk x
  fr : TS false D t.1
  to_ : TS true D t.2
theorem run_TB {t : Tb} (hs : ∀ x ∈ D, SgOk x) (h : run 0 D (List.replicate (2 * D.length) (-1, 0), List.replicate (2 * D.length) (-1, 0)) = some t) : TB D t := by
  have := PT.run (N := 2 * D.length) hs D.length 0 _ t (by omega) (by omega) ⟨PS.start _ _ _, PS.start _ _ _⟩ (by rw [List.drop_zero]; exact h)
  exact ⟨hs, this.1.whole, this.2.whole⟩
end Go.Proofs.Ytppbogklbhfboaa.AE
end
section
namespace Go.Proofs.Ytppbogklbhfboaa.AE
open Go Go.AE Go.Proofs
variable {F : Nat}
theorem mul1 : ∀ m : Nat, m < 64 → IntKind.u64.wrap (m : Int) = (m : Int) ∧ bits_Mul64.p 0 1 (m : Int) = some (0, (m : Int)) := by decide
theorem rep_end {m : Nat} (hm : m < 64) (hF : 100 < F) : aT.p F [((-1), 0)] (m : Int) = some (List.replicate m (-1, 0)) := by
  obtain ⟨h1, h2⟩ := mul1 m hm
  unfold aT.p aT.pj2
  rw [show decide ((m : Int) < 0) = false from decide_eq_false (by omega), cond_false, h1, show IntKind.u64.wrap (([((-1 : Int), (0 : Int))].length : Nat) : Int) = 1 by decide]
  have h3 : bits_Mul.p F 1 (m : Int) = some (0, (m : Int)) := by
    unfold bits_Mul.p
    rw [show bits_Mul64.p F 1 (m : Int) = bits_Mul64.p 0 1 (m : Int) from rfl, h2]; rfl
  rw [h3, Option.bind_some]
  simp only [show decide ((0 : Int) > 0) = false by decide, cond_false, show decide ((m : Int) > 9223372036854775807) = false from decide_eq_false (by omega)]
  unfold aT.pj1
  rw [wn (by omega), mkn_of (by omega), Option.bind_some, Option.bind_some]
  unfold rept cpl
  cases m with
  | zero => simp; omega
  | succ m =>
    have hl : ([((-1 : Int), (0 : Int))].take (List.replicate (m + 1) ((0 : Int), (0 : Int))).length ++ (List.replicate (m + 1) ((0 : Int), (0 : Int))).drop [((-1 : Int), (0 : Int))].length) = (-1, 0) :: List.replicate m (0, 0) := by simp
    rw [hl, if_pos ⟨by simp, by left; simp, by simp; omega, by simp; omega⟩]
    simp [gt, List.replicate_succ]
theorem arrows_whole {D : List Cr} (hD : D.length ≤ 30) (hs : ∀ x ∈ D, SgOk x) (hF : 1000 < F) :
    (run 0 D (List.replicate (2 * D.length) (-1, 0), List.replicate (2 * D.length) (-1, 0)) = none ∧ ∃ a b, aI.p F D = some (a, b, false)) ∨
    (∃ t, run 0 D (List.replicate (2 * D.length) (-1, 0), List.replicate (2 * D.length) (-1, 0)) = some t ∧ aI.p F D = some (t.1, t.2, true)) := by
  unfold aI.p
  rw [show (2 : Int) * (D.length : Int) = ((2 * D.length : Nat) : Int) by omega, wn (by omega), rep_end (by omega) (by omega), Option.bind_some, Option.bind_some]
  have := arr_run (F := F) (by omega) hs (by omega) D.length F 0 (List.replicate (2 * D.length) (-1, 0), List.replicate (2 * D.length) (-1, 0)) (by omega) (by omega) (by omega) (by simp; omega) (by simp; omega)
  rw [List.drop_zero] at this
  exact this
theorem counts_whole {D : List Cr} (hD : D.length ≤ 30) (hF : 1000 < F) :
    ∃ b, aD.p F D = some b ∧ (b = true ↔ (∀ x ∈ D, SgOk x) ∧ ∃ t, run 0 D (List.replicate (2 * D.length) (-1, 0), List.replicate (2 * D.length) (-1, 0)) = some t) := by
  unfold aD.p
  rw [show (2 : Int) * (D.length : Int) = ((2 * D.length : Nat) : Int) by omega, wn (by omega), mkn_of (by omega), Option.bind_some, Option.bind_some]
  have hm : Mk (List.replicate (2 * D.length) false) (List.replicate (2 * D.length) ((-1 : Int), (0 : Int))) := ⟨by simp, fun a ha => by rw [List.length_replicate] at ha; rw [grep ha, grep ha]; decide⟩
  have := cnt_run (F := F) (D := D) (N := 2 * D.length) (by omega) (by omega) (by omega) D.length F 0 (List.replicate (2 * D.length) (-1, 0), List.replicate (2 * D.length) (-1, 0)) _ _ (by omega) (by omega) (by omega) (by simp) (by simp) hm hm
  rw [List.drop_zero] at this
  exact this
variable {D : List Cr} {l : List (Int × Int)} {b : Bool}
theorem place_step {C : Int → Bool → List Cr → Int → Option (Int × Int)} {k c p : Nat} {a : Int} (hs : ∀ x ∈ D, SgOk x) (hc : c < D.length) (hp : p < 4) :
    aA.pl213 F C (k + 1) a b D (c : Int) (p : Int) = (bif en (gt D c) p == a && ent (gt D c) p == b then some ((c : Int), (p : Int)) else aA.pl213 F C k a b D (c : Int) ((p + 1 : Nat) : Int)) := by
  rw [aA.pl213, show decide ((p : Int) < 4) = true from decide_eq_true (by omega), cond_true, ixn hc, Option.bind_some, s_end hp, Option.bind_some, ws (by omega), Option.bind_some]
  have := s_ent (F := F) (x := gt D c) (p := p) (hs _ (gmem hc)) hp
  unfold sg at this
  rw [this, Option.bind_some]
  cases en (gt D c) p == a with
  | true => rw [cond_true, Bool.true_and]
  | false => rw [cond_false, Bool.false_and, cond_false]
theorem place_row {C : Int → Bool → List Cr → Int → Option (Int × Int)} {c : Nat} {a : Int} (hs : ∀ x ∈ D, SgOk x) (hc : c < D.length) (hD : D.length ≤ 100) (hno : ∀ p : Nat, p < 4 → ent (gt D c) p = b → en (gt D c) p ≠ a) : ∀ (m k p : Nat), 4 - p = m → p ≤ 4 → m < k →
    aA.pl213 F C k a b D (c : Int) (p : Int) = C a b D ((c + 1 : Nat) : Int) := by
  intro m
  induction m with
  | zero =>
    intro k p hm hp hk
    obtain ⟨k, rfl⟩ : ∃ k', k = k' + 1 := ⟨k - 1, by omega⟩
    obtain rfl : p = 4 := by omega
    rw [aA.pl213, show decide (((4 : Nat) : Int) < 4) = false by decide, cond_false]
    unfold aA.pj4 aA.pj3
    rw [ws (by omega)]
  | succ m ih =>
    intro k p hm hp hk
    obtain ⟨k, rfl⟩ : ∃ k', k = k' + 1 := ⟨k - 1, by omega⟩
    rw [place_step hs hc (by omega)]
    have : (en (gt D c) p == a && ent (gt D c) p == b) = false := by
      cases h : (en (gt D c) p == a && ent (gt D c) p == b) with
      | false => rfl
      | true =>
        simp only [Bool.and_eq_true, beq_iff_eq] at h
        exact absurd h.1 (hno p (by omega) h.2)
    rw [this, cond_false]
    exact ih k (p + 1) (by omega) (by omega) (by omega)
theorem place_hit {C : Int → Bool → List Cr → Int → Option (Int × Int)} {c p0 : Nat} {a : Int} (hs : ∀ x ∈ D, SgOk x) (hc : c < D.length) (hp0 : p0 < 4) (hy : en (gt D c) p0 = a) (hb : ent (gt D c) p0 = b) (hno : ∀ p : Nat, p < p0 → ent (gt D c) p = b → en (gt D c) p ≠ a) : ∀ (m k p : Nat), p0 - p = m → p ≤ p0 → m < k →
    aA.pl213 F C k a b D (c : Int) (p : Int) = some ((c : Int), (p0 : Int)) := by
  intro m
  induction m with
  | zero =>
    intro k p hm hp hk
    obtain ⟨k, rfl⟩ : ∃ k', k = k' + 1 := ⟨k - 1, by omega⟩
    obtain rfl : p = p0 := by omega
    rw [place_step hs hc hp0, hy, hb]
    simp
  | succ m ih =>
    intro k p hm hp hk
    obtain ⟨k, rfl⟩ : ∃ k', k = k' + 1 := ⟨k - 1, by omega⟩
    rw [place_step hs hc (by omega)]
    have : (en (gt D c) p == a && ent (gt D c) p == b) = false := by
      cases h : (en (gt D c) p == a && ent (gt D c) p == b) with
      | false => rfl
      | true =>
        simp only [Bool.and_eq_true, beq_iff_eq] at h
        exact absurd h.1 (hno p (by omega) h.2)
    rw [this, cond_false]
    exact ih k (p + 1) (by omega) (by omega) (by omega)
theorem place_of {a : Nat} (hs : ∀ x ∈ D, SgOk x) (h : TS b D l) (ha : a < 2 * D.length) (hD : D.length ≤ 30) (hF : 1000 < F) : aA.p F D (a : Int) b = some (gt l a) := by
  obtain ⟨i0, p0, hi, hp, hb, hy, e⟩ := h.get a ha
  rw [e]
  have uniq : ∀ i p : Nat, i < D.length → p < 4 → ent (gt D i) p = b → en (gt D i) p = a → i = i0 ∧ p = p0 := fun i p q1 q2 q3 q4 => by
    obtain ⟨_, _, q⟩ := h.put i p q1 q2 q3
    rw [q4, Int.toNat_natCast, e] at q
    simp only [Prod.mk.injEq] at q
    omega
  unfold aA.p
  have key : ∀ (m g c : Nat), i0 - c = m → c ≤ i0 → m < g → aA.pl13 F g (a : Int) b D (c : Int) = some ((i0 : Int), (p0 : Int)) := by
    intro m
    induction m with
    | zero =>
      intro g c hm hc hg
      obtain ⟨g, rfl⟩ : ∃ k', g = k' + 1 := ⟨g - 1, by omega⟩
      obtain rfl : c = i0 := by omega
      rw [aA.pl13, dT hi, cond_true]
      exact place_hit hs hi hp hy hb (fun p q1 q2 q3 => by have := uniq c p hi (by omega) q2 q3; omega) p0 F 0 (by omega) (by omega) (by omega)
    | succ m ih =>
      intro g c hm hc hg
      obtain ⟨g, rfl⟩ : ∃ k', g = k' + 1 := ⟨g - 1, by omega⟩
      rw [aA.pl13, dT (by omega), cond_true]
      have := place_row (F := F) (C := aA.pl13 F g) (c := c) (a := (a : Int)) hs (by omega) (by omega) (fun p q1 q2 q3 => by have := uniq c p (by omega) q1 q2 q3; omega) 4 F 0 (by omega) (by omega) (by omega)
      have this : aA.pl213 F (aA.pl13 F g) F (a : Int) b D (c : Int) 0 = _ := this
      rw [this]
      exact ih g (c + 1) (by omega) (by omega) (by omega)
  exact key i0 F 0 (by omega) (by omega) (by omega)
def oth (D : List Cr) (t : Tb) (c p : Nat) : Int × Int := bif ent (gt D c) p then gt t.1 (en (gt D c) p).toNat else gt t.2 (en (gt D c) p).toNat
def suc (D : List Cr) (t : Tb) (k : Nat) : Nat := 4 * (oth D t (k / 4) ((k + 1) % 4)).1.toNat + (oth D t (k / 4) ((k + 1) % 4)).2.toNat
theorem oth_is {t : Tb} (h : TB D t) {c p : Nat} (hc : c < D.length) (hp : p < 4) : ∃ i q : Nat, oth D t c p = ((i : Int), (q : Int)) ∧ i < D.length ∧ q < 4 ∧ ent (gt D i) q = !(ent (gt D c) p) ∧ en (gt D i) q = en (gt D c) p := by
  unfold oth
  cases he : ent (gt D c) p with
  | true =>
    obtain ⟨h0, h1, _⟩ := h.to_.put c p hc hp he
    obtain ⟨i, q, a1, a2, a3, a4, a5⟩ := h.fr.get (en (gt D c) p).toNat (by omega)
    exact ⟨i, q, a5, a1, a2, a3, by omega⟩
  | false =>
    obtain ⟨h0, h1, _⟩ := h.fr.put c p hc hp he
    obtain ⟨i, q, a1, a2, a3, a4, a5⟩ := h.to_.get (en (gt D c) p).toNat (by omega)
    exact ⟨i, q, a5, a1, a2, a3, by omega⟩
theorem oth_oth {t : Tb} (h : TB D t) {c p i q : Nat} (hc : c < D.length) (hp : p < 4) (e : oth D t c p = ((i : Int), (q : Int))) (hi : i < D.length) (hq : q < 4) : oth D t i q = ((c : Int), (p : Int)) := by
  obtain ⟨i', q', e', _, _, e3, e4⟩ := oth_is h hc hp
  rw [e] at e'
  simp only [Prod.mk.injEq, Int.natCast_inj] at e'
  obtain ⟨rfl, rfl⟩ := e'
  unfold oth
  rw [e3, e4]
  cases he : ent (gt D c) p with
  | true => exact (h.to_.put c p hc hp he).2.2
  | false => exact (h.fr.put c p hc hp he).2.2
theorem suc_lt {t : Tb} (h : TB D t) {k : Nat} (hk : k < 4 * D.length) : suc D t k < 4 * D.length := by
  obtain ⟨i, q, e, h1, h2, _⟩ := oth_is h (c := k / 4) (p := (k + 1) % 4) (by omega) (by omega)
  unfold suc
  rw [e]; simp only [Int.toNat_natCast]; omega
theorem suc_inj {t : Tb} (h : TB D t) {k k' : Nat} (hk : k < 4 * D.length) (hk' : k' < 4 * D.length) (e : suc D t k = suc D t k') : k = k' := by
  obtain ⟨i, q, e1, h1, h2, _⟩ := oth_is h (c := k / 4) (p := (k + 1) % 4) (by omega) (by omega)
  obtain ⟨i', q', e1', h1', h2', _⟩ := oth_is h (c := k' / 4) (p := (k' + 1) % 4) (by omega) (by omega)
  unfold suc at e
  rw [e1, e1'] at e
  simp only [Int.toNat_natCast] at e
  obtain rfl : i = i' := by omega
  obtain rfl : q = q' := by omega
  have a := oth_oth h (by omega) (by omega) e1 h1 h2
  have b := oth_oth h (by omega) (by omega) e1' h1 h2
  rw [a] at b
  simp only [Prod.mk.injEq, Int.natCast_inj] at b
  omega
theorem tdiv4 (k : Nat) : Int.tdiv (k : Int) 4 = ((k / 4 : Nat) : Int) := by
  rw [Int.tdiv_eq_ediv_of_nonneg (by omega)]; omega
theorem tmod4 (k : Nat) : Int.tmod (k : Int) 4 = ((k % 4 : Nat) : Int) := by
  rw [Int.tmod_eq_emod_of_nonneg (by omega)]; omega
theorem aj_ {t : Tb} (h : TB D t) {k : Nat} (hk : k < 4 * D.length) (hD : D.length ≤ 30) (hF : 1000 < F) : bR.p F D (k : Int) = some ((suc D t k : Nat) : Int) := by
  have hc : k / 4 < D.length := by omega
  unfold bR.p
  rw [tdiv4, tmod4, ws (by omega), tmod4, wn (by omega), ixn hc, Option.bind_some, show (k % 4 + 1) % 4 = (k + 1) % 4 by omega, s_end (by omega), Option.bind_some]
  have := s_ent (F := F) (x := gt D (k / 4)) (p := (k + 1) % 4) (h.sg _ (gmem hc)) (by omega)
  unfold sg at this
  rw [this, Option.bind_some]
  obtain ⟨i, q, e, h1, h2, _⟩ := oth_is h (c := k / 4) (p := (k + 1) % 4) hc (by omega)
  have hpl : aA.p F D (en (gt D (k / 4)) ((k + 1) % 4)) (!(ent (gt D (k / 4)) ((k + 1) % 4))) = some (oth D t (k / 4) ((k + 1) % 4)) := by
    unfold oth
    cases he : ent (gt D (k / 4)) ((k + 1) % 4) with
    | true =>
      obtain ⟨h0, h1, _⟩ := h.to_.put _ _ hc (by omega) he
      have := place_of (F := F) (a := (en (gt D (k / 4)) ((k + 1) % 4)).toNat) h.sg h.fr (by omega) hD hF
      rw [Int.toNat_of_nonneg h0] at this
      exact this
    | false =>
      obtain ⟨h0, h1, _⟩ := h.fr.put _ _ hc (by omega) he
      have := place_of (F := F) (a := (en (gt D (k / 4)) ((k + 1) % 4)).toNat) h.sg h.to_ (by omega) hD hF
      rw [Int.toNat_of_nonneg h0] at this
      exact this
  rw [hpl, Option.bind_some]
  unfold suc
  rw [e]
  simp only [Int.toNat_natCast]
  rw [w64_in (x := 4 * (i : Int)) (by omega) (by omega), w64_in (by omega) (by omega)]
  congr 1
theorem aka {t : Tb} (h : TB D t) {c p : Nat} (hc : c < D.length) (hp : p < 4) : bL.p F D t.1 t.2 (c : Int) (p : Int) = some (oth D t c p) := by
  unfold bL.p bA.p
  rw [ixn hc, Option.bind_some, Option.bind_some, if_pos ⟨by omega, by omega⟩]
  have := i_ent (F := F) (x := gt D c) (p := p) (h.sg _ (gmem hc))
  unfold sg at this
  rw [this, Option.bind_some]
  have he : gt [(gt D c).1, (gt D c).2.1, (gt D c).2.2.1, (gt D c).2.2.2.1] ((p : Int)).toNat = en (gt D c) p := by rw [Int.toNat_natCast]; rfl
  simp only [he]
  unfold oth
  cases hb : ent (gt D c) p with
  | true =>
    obtain ⟨h0, h1, _⟩ := h.to_.put c p hc hp hb
    rw [cond_true, cond_true, ix_of h0 (by rw [h.fr.len]; exact h1), Option.bind_some]
  | false =>
    obtain ⟨h0, h1, _⟩ := h.fr.put c p hc hp hb
    rw [cond_false, cond_false, ix_of h0 (by rw [h.to_.len]; exact h1), Option.bind_some]
end Go.Proofs.Ytppbogklbhfboaa.AE
end
section
namespace Go.Proofs.Ytppbogklbhfboaa.AE
open Go Go.AE Go.Proofs
inductive Orb (σ : Nat → Nat) : List Bool → Nat → List Int → List Bool → List Int → Prop where
  | stop {done : List Bool} {k : Nat} {acc : List Int} (h : gt done k = true) : Orb σ done k acc done acc
  | go {done done' : List Bool} {k : Nat} {acc acc' : List Int} (h : gt done k = false) (t : Orb σ (done.set k true) (σ k) (acc ++ [(k : Int)]) done' acc') : Orb σ done k acc done' acc'
inductive Orbs (σ : Nat → Nat) (M : Nat) : List Bool → Nat → List (List Int) → List (List Int) → Prop where
  | fin {done : List Bool} {k : Nat} {out : List (List Int)} (h : M ≤ k) : Orbs σ M done k out out
  | skip {done : List Bool} {k : Nat} {out R : List (List Int)} (h : k < M) (hd : gt done k = true) (t : Orbs σ M done (k + 1) out R) : Orbs σ M done k out R
  | go {done done' : List Bool} {k : Nat} {acc : List Int} {out R : List (List Int)} (h : k < M) (hd : gt done k = false) (o : Orb σ done k [] done' acc) (t : Orbs σ M done' (k + 1) (out ++ [acc]) R) : Orbs σ M done k out R
def nf (done : List Bool) : Nat := done.countP (fun b => !b)
theorem gt_eq {α : Type} [Inhabited α] {l : List α} {n : Nat} (h : n < l.length) : l[n] = gt l n := by
  have := gt_get h
  rw [List.getElem?_eq_getElem h] at this
  exact Option.some.inj this
theorem nf_set {done : List Bool} {k : Nat} (hk : k < done.length) (h : gt done k = false) : nf (done.set k true) + 1 = nf done := by
  unfold nf
  rw [List.countP_set hk, gt_eq hk, h]
  have : 0 < done.countP (fun b => !b) := List.countP_pos_iff.2 ⟨false, by rw [← h]; exact gmem hk, rfl⟩
  simp; omega
theorem nf_le (done : List Bool) : nf done ≤ done.length := List.countP_le_length
def Con (σ : Nat → Nat) (M x y : Nat) : Prop := ∀ S : Nat → Prop, (∀ k, k < M → (S k ↔ S (σ k))) → (S x ↔ S y)
section
variable {σ : Nat → Nat} {M : Nat}
theorem orb_spec (hlt : ∀ x, x < M → σ x < M) (hinj : ∀ x y, x < M → y < M → σ x = σ y → x = y) {done : List Bool} {k : Nat} (hl : done.length = M) (hk : k < M) (hd : gt done k = false) (hc : ∀ x, x < M → (gt done x = true ↔ gt done (σ x) = true)) :
    ∀ (n : Nat) (dn : List Bool) (at_ : Nat) (acc : List Int), nf dn = n → dn.length = M → at_ < M → (∀ x, x < M → (gt dn x = true ↔ gt done x = true ∨ (x : Int) ∈ acc)) →
      (∀ z ∈ acc, ∃ x : Nat, x < M ∧ z = x ∧ gt done x = false ∧ Con σ M k x) → Con σ M k at_ → (∀ x, x < M → (x : Int) ∈ acc → gt dn (σ x) = true ∨ σ x = at_) → (∀ x, x < M → gt dn (σ x) = true → gt dn x = true ∨ σ x = k) →
      (gt dn at_ = true → at_ = k) → ((acc = [] ∧ at_ = k) ∨ ∃ y, y < M ∧ gt dn y = true ∧ σ y = at_) → acc.length + nf dn ≤ M →
      ∃ done' acc', Orb σ dn at_ acc done' acc' ∧ done'.length = M ∧ (∀ x, x < M → (gt done' x = true ↔ gt done x = true ∨ (x : Int) ∈ acc')) ∧ (∀ z ∈ acc', ∃ x : Nat, x < M ∧ z = x ∧ gt done x = false ∧ Con σ M k x) ∧ (k : Int) ∈ acc' ∧ (∀ x : Nat, x < M → (x : Int) ∈ acc' → ((σ x : Nat) : Int) ∈ acc') ∧ (∀ x, x < M → (gt done' x = true ↔ gt done' (σ x) = true)) ∧ acc'.length ≤ M := by
  have fin_ : ∀ (dn : List Bool) (acc : List Int) (k' : Nat), dn.length = M → gt dn k' = true → (k' : Int) ∈ acc → (∀ x, x < M → (gt dn x = true ↔ gt done x = true ∨ (x : Int) ∈ acc)) → (∀ z ∈ acc, ∃ x : Nat, x < M ∧ z = x ∧ gt done x = false ∧ Con σ M k' x) →
      (∀ x, x < M → (x : Int) ∈ acc → gt dn (σ x) = true ∨ σ x = k') → (∀ x, x < M → gt dn (σ x) = true → gt dn x = true ∨ σ x = k') → ((acc = [] ∧ k' = k') ∨ ∃ y, y < M ∧ gt dn y = true ∧ σ y = k') → acc.length ≤ M →
      ∃ done' acc', Orb σ dn k' acc done' acc' ∧ done'.length = M ∧ (∀ x, x < M → (gt done' x = true ↔ gt done x = true ∨ (x : Int) ∈ acc')) ∧ (∀ z ∈ acc', ∃ x : Nat, x < M ∧ z = x ∧ gt done x = false ∧ Con σ M k' x) ∧ (k' : Int) ∈ acc' ∧ (∀ x : Nat, x < M → (x : Int) ∈ acc' → ((σ x : Nat) : Int) ∈ acc') ∧ (∀ x, x < M → (gt done' x = true ↔ gt done' (σ x) = true)) ∧ acc'.length ≤ M := by
    intro dn acc k' h1 hat hka i2 i3 i5 i6 i8 i9
    have hs : ∀ x, x < M → (x : Int) ∈ acc → gt dn (σ x) = true := fun x hx hxa => by
      rcases i5 x hx hxa with q | q
      · exact q
      · rw [q]; exact hat
    refine ⟨dn, acc, .stop hat, h1, i2, i3, hka, fun x hx hxa => ?_, fun x hx => ⟨fun q => ?_, fun q => ?_⟩, i9⟩
    · rcases (i2 _ (hlt x hx)).1 (hs x hx hxa) with q | q
      · obtain ⟨y, hy, e, hf, _⟩ := i3 _ hxa
        obtain rfl : x = y := by omega
        rw [(hc x hx).2 q] at hf; cases hf
      · exact q
    · rcases (i2 x hx).1 q with q | q
      · exact (i2 _ (hlt x hx)).2 (.inl ((hc x hx).1 q))
      · exact hs x hx q
    · rcases i6 x hx q with q | q
      · exact q
      · rcases i8 with ⟨e, _⟩ | ⟨y, hy, hyd, e⟩
        · rw [e] at hka; cases hka
        · rw [hinj x y hx hy (q.trans e.symm)]; exact hyd
  intro n
  induction n with
  | zero =>
    intro dn at_ acc hn h1 h2 i2 i3 i4 i5 i6 i7 i8 i9
    have hat : gt dn at_ = true := by
      cases h : gt dn at_ with
      | true => rfl
      | false => have := nf_set (by omega) h; omega
    obtain rfl := i7 hat
    have hka : (at_ : Int) ∈ acc := by rcases (i2 at_ hk).1 hat with q | q; (rw [hd] at q; cases q); exact q
    exact fin_ dn acc at_ h1 hat hka i2 i3 i5 i6 i8 (by omega)
  | succ n ih =>
    intro dn at_ acc hn h1 h2 i2 i3 i4 i5 i6 i7 i8 i9
    cases hat : gt dn at_ with
    | true =>
      obtain rfl := i7 hat
      have hka : (at_ : Int) ∈ acc := by rcases (i2 at_ hk).1 hat with q | q; (rw [hd] at q; cases q); exact q
      exact fin_ dn acc at_ h1 hat hka i2 i3 i5 i6 i8 (by omega)
    | false =>
      have hset : ∀ x, x < M → (gt (dn.set at_ true) x = true ↔ gt dn x = true ∨ x = at_) := fun x hx => by
        by_cases e : at_ = x
        · subst e; rw [gset_eq (by omega)]; simp
        · rw [gset_ne e]; constructor
          · exact .inl
          · rintro (q | q); exact q; exact absurd q.symm e
      have hnd : gt done at_ = false := by
        cases h : gt done at_ with
        | false => rfl
        | true => rw [(i2 at_ h2).2 (.inl h)] at hat; cases hat
      have hstep : Con σ M k (σ at_) := fun S hS => (i4 S hS).trans (hS at_ h2)
      obtain ⟨done', acc', o, q1, q2, q3, q4, q5⟩ := ih (dn.set at_ true) (σ at_) (acc ++ [(at_ : Int)]) (by have := nf_set (by omega) hat; omega) (by rw [List.length_set]; exact h1) (hlt _ h2)
        (fun x hx => by
          rw [hset x hx, i2 x hx]
          simp only [List.mem_append, List.mem_singleton, Int.natCast_inj, or_assoc])
        (fun z hz => by
          rcases List.mem_append.1 hz with hz | hz
          · exact i3 z hz
          · exact ⟨at_, h2, by simpa using hz, hnd, i4⟩)
        hstep
        (fun x hx hxa => by
          rcases List.mem_append.1 hxa with hxa | hxa
          · left; rw [hset _ (hlt x hx)]
            rcases i5 x hx hxa with q | q
            · exact .inl q
            · exact .inr q
          · right; obtain rfl : x = at_ := by have := List.mem_singleton.1 hxa; omega
            rfl)
        (fun x hx hs => by
          rw [hset _ (hlt x hx)] at hs
          rw [hset x hx]
          rcases hs with q | q
          · rcases i6 x hx q with q | q
            · exact .inl (.inl q)
            · exact .inr q
          · rcases i8 with ⟨_, e⟩ | ⟨y, hy, hyd, e⟩
            · exact .inr (q.trans e)
            · exact .inl (.inl (by rw [hinj x y hx hy (q.trans e.symm)]; exact hyd)))
        (fun hs => by
          rw [hset _ (hlt _ h2)] at hs
          rcases hs with q | q
          · rcases i6 at_ h2 q with q | q
            · rw [hat] at q; cases q
            · exact q
          · rcases i8 with ⟨_, e⟩ | ⟨y, hy, hyd, e⟩
            · exact q.trans e
            · have := hinj y at_ hy h2 (e.trans q.symm)
              rw [this, hat] at hyd; cases hyd)
        (.inr ⟨at_, h2, by rw [hset _ h2]; exact .inr rfl, rfl⟩)
        (by have := nf_set (by omega) hat; rw [List.length_append, List.length_singleton]; omega)
      exact ⟨done', acc', .go hat o, q1, q2, q3, q4, q5⟩
theorem orb_one (hlt : ∀ x, x < M → σ x < M) (hinj : ∀ x y, x < M → y < M → σ x = σ y → x = y) {done : List Bool} {k : Nat} (hl : done.length = M) (hk : k < M) (hd : gt done k = false) (hc : ∀ x, x < M → (gt done x = true ↔ gt done (σ x) = true)) :
    ∃ done' acc', Orb σ done k [] done' acc' ∧ done'.length = M ∧ (∀ x, x < M → (gt done' x = true ↔ gt done x = true ∨ (x : Int) ∈ acc')) ∧ (∀ z ∈ acc', ∃ x : Nat, x < M ∧ z = x ∧ gt done x = false ∧ Con σ M k x) ∧ (k : Int) ∈ acc' ∧ (∀ x : Nat, x < M → (x : Int) ∈ acc' → ((σ x : Nat) : Int) ∈ acc') ∧ (∀ x, x < M → (gt done' x = true ↔ gt done' (σ x) = true)) ∧ acc'.length ≤ M :=
  orb_spec hlt hinj hl hk hd hc (nf done) done k [] rfl hl hk (fun x hx => by simp) (fun z hz => by cases hz) (fun S hS => Iff.rfl) (fun x hx h => by cases h) (fun x hx h => .inl ((hc x hx).2 h)) (fun h => absurd (hd.symm.trans h) (by decide)) (.inl ⟨rfl, rfl⟩) (by have := nf_le done; simp; omega)
structure Part (σ : Nat → Nat) (M : Nat) (R : List (List Int)) (done : List Bool) : Prop where
  len : done.length = M
  mem : ∀ x : Nat, x < M → (gt done x = true ↔ ∃ j, j < R.length ∧ (x : Int) ∈ gt R j)
  elt : ∀ j, j < R.length → ∀ z ∈ gt R j, ∃ x : Nat, x < M ∧ z = x
  one : ∀ (x : Nat) (j j' : Nat), j < R.length → j' < R.length → (x : Int) ∈ gt R j → (x : Int) ∈ gt R j' → j = j'
  suc : ∀ (x : Nat) (j : Nat), x < M → j < R.length → (x : Int) ∈ gt R j → ((σ x : Nat) : Int) ∈ gt R j
  con : ∀ (x y : Nat) (j : Nat), j < R.length → (x : Int) ∈ gt R j → (y : Int) ∈ gt R j → Con σ M x y
  ne : ∀ j, j < R.length → gt R j ≠ []
  clo : ∀ x, x < M → (gt done x = true ↔ gt done (σ x) = true)
  sz : ∀ j, j < R.length → (gt R j).length ≤ M
theorem Con.symm {x y : Nat} (h : Con σ M x y) : Con σ M y x := fun S hS => (h S hS).symm
theorem Con.trans {x y z : Nat} (h : Con σ M x y) (h' : Con σ M y z) : Con σ M x z := fun S hS => (h S hS).trans (h' S hS)
theorem Part.start (hlt : ∀ x, x < M → σ x < M) : Part σ M [] (List.replicate M false) where
  len := by simp
  mem := fun x hx => by rw [grep hx]; simp
  elt := fun j hj => by simp at hj
  one := fun x j j' hj => by simp at hj
  suc := fun x j _ hj => by simp at hj
  con := fun x y j hj => by simp at hj
  ne := fun j hj => by simp at hj
  clo := fun x hx => by rw [grep hx, grep (hlt x hx)]
  sz := fun j hj => by simp at hj
theorem Part.add {R : List (List Int)} {done done' : List Bool} {k : Nat} {acc : List Int} (h : Part σ M R done) (q1 : done'.length = M) (q2 : ∀ x, x < M → (gt done' x = true ↔ gt done x = true ∨ (x : Int) ∈ acc)) (q3 : ∀ z ∈ acc, ∃ x : Nat, x < M ∧ z = x ∧ gt done x = false ∧ Con σ M k x) (q4 : (k : Int) ∈ acc)
    (q5 : ∀ x : Nat, x < M → (x : Int) ∈ acc → ((σ x : Nat) : Int) ∈ acc) (q6 : ∀ x, x < M → (gt done' x = true ↔ gt done' (σ x) = true)) (q7 : acc.length ≤ M) : Part σ M (R ++ [acc]) done' := by
  have hg : ∀ j, j < (R ++ [acc]).length → (j < R.length ∧ gt (R ++ [acc]) j = gt R j) ∨ (j = R.length ∧ gt (R ++ [acc]) j = acc) := fun j hj => by
    simp only [List.length_append, List.length_singleton] at hj
    by_cases e : j < R.length
    · exact .inl ⟨e, gapp_lt e⟩
    · obtain rfl : j = R.length := by omega
      exact .inr ⟨rfl, gapp_eq⟩
  have hlast : R.length < (R ++ [acc]).length := by simp
  refine ⟨q1, fun x hx => ?_, fun j hj z hz => ?_, fun x j j' hj hj' hm hm' => ?_, fun x j hx hj hm => ?_, fun x y j hj hx hy => ?_, fun j hj => ?_, q6, fun j hj => ?_⟩
  · rw [q2 x hx, h.mem x hx]
    constructor
    · rintro (⟨j, hj, hm⟩ | hm)
      · exact ⟨j, by simp; omega, by rw [gapp_lt hj]; exact hm⟩
      · exact ⟨R.length, hlast, by rw [gapp_eq]; exact hm⟩
    · rintro ⟨j, hj, hm⟩
      rcases hg j hj with ⟨e, g⟩ | ⟨e, g⟩
      · exact .inl ⟨j, e, by rw [← g]; exact hm⟩
      · exact .inr (by rw [← g]; exact hm)
  · rcases hg j hj with ⟨e, g⟩ | ⟨e, g⟩
    · rw [g] at hz; exact h.elt j e z hz
    · rw [g] at hz; obtain ⟨x, a, b, _⟩ := q3 z hz; exact ⟨x, a, b⟩
  · have cross : ∀ j, j < R.length → (x : Int) ∈ gt R j → (x : Int) ∈ acc → False := fun j hj h1 h2 => by
      obtain ⟨y, a, b, c, _⟩ := q3 _ h2
      obtain rfl : x = y := by omega
      have := (h.mem x a).2 ⟨j, hj, h1⟩
      rw [c] at this; cases this
    rcases hg j hj with ⟨e, g⟩ | ⟨e, g⟩ <;> rcases hg j' hj' with ⟨e', g'⟩ | ⟨e', g'⟩ <;> rw [g] at hm <;> rw [g'] at hm'
    · exact h.one x j j' e e' hm hm'
    · exact (cross j e hm hm').elim
    · exact (cross j' e' hm' hm).elim
    · omega
  · rcases hg j hj with ⟨e, g⟩ | ⟨e, g⟩ <;> rw [g] at hm ⊢
    · exact h.suc x j hx e hm
    · exact q5 x hx hm
  · rcases hg j hj with ⟨e, g⟩ | ⟨e, g⟩ <;> rw [g] at hx hy
    · exact h.con x y j e hx hy
    · obtain ⟨x', _, e1, _, c1⟩ := q3 _ hx
      obtain ⟨y', _, e2, _, c2⟩ := q3 _ hy
      obtain rfl : x = x' := by omega
      obtain rfl : y = y' := by omega
      exact c1.symm.trans c2
  · rcases hg j hj with ⟨e, g⟩ | ⟨e, g⟩ <;> rw [g]
    · exact h.ne j e
    · intro e2; rw [e2] at q4; cases q4
  · rcases hg j hj with ⟨e, g⟩ | ⟨e, g⟩ <;> rw [g]
    · exact h.sz j e
    · exact q7
theorem orbs_all (hlt : ∀ x, x < M → σ x < M) (hinj : ∀ x y, x < M → y < M → σ x = σ y → x = y) : ∀ (n k : Nat) (done : List Bool) (out : List (List Int)), M - k = n → k ≤ M → Part σ M out done → (∀ x, x < k → gt done x = true) →
    ∃ R done', Orbs σ M done k out R ∧ Part σ M R done' ∧ (∀ x, x < M → gt done' x = true) ∧ R.length ≤ out.length + n := by
  intro n
  induction n with
  | zero =>
    intro k done out hn hk h hd
    exact ⟨out, done, .fin (by omega), h, fun x hx => hd x (by omega), by omega⟩
  | succ n ih =>
    intro k done out hn hk h hd
    cases hdk : gt done k with
    | true =>
      obtain ⟨R, done', o, q1, q2, q3⟩ := ih (k + 1) done out (by omega) (by omega) h (fun x hx => by
        by_cases e : x = k
        · subst e; exact hdk
        · exact hd x (by omega))
      exact ⟨R, done', .skip (by omega) hdk o, q1, q2, by omega⟩
    | false =>
      obtain ⟨d', acc, o, q1, q2, q3, q4, q5, q6, q7⟩ := orb_one hlt hinj h.len (by omega) hdk h.clo
      obtain ⟨R, done', o', r1, r2, r3⟩ := ih (k + 1) d' (out ++ [acc]) (by omega) (by omega) (h.add q1 q2 q3 q4 q5 q6 q7) (fun x hx => by
        rw [q2 x (by omega)]
        by_cases e : x = k
        · subst e; exact .inr q4
        · exact .inl (hd x (by omega)))
      rw [List.length_append, List.length_singleton] at r3
      exact ⟨R, done', .go (by omega) hdk o o', r1, r2, by omega⟩
theorem orbs_whole (hlt : ∀ x, x < M → σ x < M) (hinj : ∀ x y, x < M → y < M → σ x = σ y → x = y) :
    ∃ R done', Orbs σ M (List.replicate M false) 0 [] R ∧ Part σ M R done' ∧ (∀ x, x < M → gt done' x = true) ∧ R.length ≤ M := by
  obtain ⟨R, d, o, q1, q2, q3⟩ := orbs_all hlt hinj M 0 _ [] (by omega) (by omega) (Part.start hlt) (fun x hx => by omega)
  exact ⟨R, d, o, q1, q2, by simpa using q3⟩
theorem Orb.acc_ne {done done' : List Bool} {k : Nat} {acc acc' : List Int} (h : Orb σ done k acc done' acc') : acc ≠ [] → acc' ≠ [] := by
  induction h with
  | stop h => exact id
  | go h t ih => exact fun _ => ih (by simp)
theorem Orb.len {done done' : List Bool} {k : Nat} {acc acc' : List Int} (h : Orb σ done k acc done' acc') : done'.length = done.length := by
  induction h with
  | stop h => rfl
  | go h t ih => rw [ih, List.length_set]
end
end Go.Proofs.Ytppbogklbhfboaa.AE
end
section
namespace Go.Proofs.Ytppbogklbhfboaa.AE
open Go Go.AE Go.Proofs
variable {F : Nat} {D : List Cr} {t : Tb}
theorem s_orb {C : List Cr → List (List Int) → List Bool → Int → Option (List (List Int))} (h : TB D t) (hD : D.length ≤ 30) (hF : 1000 < F) {out : List (List Int)} {k0 : Int} {dn dn' : List Bool} {at_ : Nat} {acc acc' : List Int} (o : Orb (suc D t) dn at_ acc dn' acc') :
    ∀ g, dn.length = 4 * D.length → at_ < 4 * D.length → nf dn < g → acc.length + nf dn ≤ 1000 → ap.pl7853 F C g D out dn k0 acc (at_ : Int) = ap.pj6 F C D out dn' k0 acc' := by
  induction o with
  | stop hd =>
    intro g hl hat hg hb
    obtain ⟨g, rfl⟩ : ∃ g', g = g' + 1 := ⟨g - 1, by omega⟩
    rw [ap.pl7853, ixn (by omega), Option.bind_some, hd, Bool.not_true, cond_false]
  | @go done done' k acc acc' hd t' ih =>
    intro g hl hat hg hb
    obtain ⟨g, rfl⟩ : ∃ g', g = g' + 1 := ⟨g - 1, by omega⟩
    have hn := nf_set (by omega : k < done.length) hd
    rw [ap.pl7853, ixn (by omega), Option.bind_some, hd, Bool.not_false, cond_true, Option.bind_some, Option.bind_some, apn_of (by simp; omega), Option.bind_some, aj_ h hat hD hF, Option.bind_some]
    exact ih g (by rw [List.length_set]; exact hl) (suc_lt h hat) (by omega) (by rw [List.length_append, List.length_singleton]; omega)
theorem s_orbs (h : TB D t) (hD : D.length ≤ 30) (hF : 1000 < F) {dn : List Bool} {k : Nat} {out R : List (List Int)} (o : Orbs (suc D t) (4 * D.length) dn k out R) :
    ∀ g, dn.length = 4 * D.length → 4 * D.length - k < g → out.length ≤ k → ap.pl61 F g D out dn (k : Int) = some R := by
  induction o with
  | fin hk =>
    intro g hl hg hb
    obtain ⟨g, rfl⟩ : ∃ g', g = g' + 1 := ⟨g - 1, by omega⟩
    rw [ap.pl61, dF (by omega), cond_false]
  | skip hk hd t' ih =>
    intro g hl hg hb
    obtain ⟨g, rfl⟩ : ∃ g', g = g' + 1 := ⟨g - 1, by omega⟩
    rw [ap.pl61, dT (by omega), cond_true, ixn (by omega), Option.bind_some, hd, cond_true]
    unfold ap.pj4
    rw [ws (by omega)]
    exact ih g hl (by omega) (by omega)
  | @go done done' k acc out R hk hd o' t' ih =>
    intro g hl hg hb
    obtain ⟨g, rfl⟩ : ∃ g', g = g' + 1 := ⟨g - 1, by omega⟩
    have := nf_le done
    rw [ap.pl61, dT (by omega), cond_true, ixn (by omega), Option.bind_some, hd, cond_false, s_orb h hD hF o' F hl hk (by omega) (by simp; omega)]
    unfold ap.pj6 ap.pj5
    rw [apn_of (by simp; omega), Option.bind_some, ws (by omega)]
    exact ih g (by rw [o'.len]; exact hl) (by omega) (by rw [List.length_append, List.length_singleton]; omega)
theorem i_next (h : TB D t) {k : Nat} (hk : k < 4 * D.length) (hD : D.length ≤ 30) {β : Type} (f : Int → Option β) :
    ((bL.p F D t.1 t.2 (IntKind.i64.wrap (Int.tdiv (k : Int) 4)) (Int.tmod (IntKind.i64.wrap ((k : Int) + 1)) 4)).bind fun r => f (IntKind.i64.wrap ((IntKind.i64.wrap (4 * r.1)) + r.2))) = f ((suc D t k : Nat) : Int) := by
  rw [tdiv4, ws (by omega), tmod4, wn (by omega), aka h (by omega) (by omega), Option.bind_some]
  obtain ⟨i, q, e, h1, h2, _⟩ := oth_is h (c := k / 4) (p := (k + 1) % 4) (by omega) (by omega)
  unfold suc
  rw [e]
  simp only [Int.toNat_natCast]
  rw [w64_in (x := 4 * (i : Int)) (by omega) (by omega), w64_in (by omega) (by omega)]
  congr 1
theorem i_orb {C : List Cr → List (Int × Int) → List (Int × Int) → List (List Int) → List Bool → Int → Int → Option (List (List Int))} (h : TB D t) (hD : D.length ≤ 30) (hF : 1000 < F) {out : List (List Int)} {n k0 : Int} {dn dn' : List Bool} {at_ : Nat} {acc acc' : List Int} (o : Orb (suc D t) dn at_ acc dn' acc') :
    ∀ g, dn.length = 4 * D.length → at_ < 4 * D.length → nf dn < g → acc.length + nf dn ≤ 1000 → aq.pl15725 F C g D t.1 t.2 out dn n k0 acc (at_ : Int) = aq.pj6 F C D t.1 t.2 out dn' acc' n k0 := by
  induction o with
  | stop hd =>
    intro g hl hat hg hb
    obtain ⟨g, rfl⟩ : ∃ g', g = g' + 1 := ⟨g - 1, by omega⟩
    rw [aq.pl15725, ixn (by omega), Option.bind_some, hd, Bool.not_true, cond_false]
  | @go done done' k acc acc' hd t' ih =>
    intro g hl hat hg hb
    obtain ⟨g, rfl⟩ : ∃ g', g = g' + 1 := ⟨g - 1, by omega⟩
    have hn := nf_set (by omega : k < done.length) hd
    rw [aq.pl15725, ixn (by omega), Option.bind_some, hd, Bool.not_false, cond_true, Option.bind_some, Option.bind_some, apn_of (by simp; omega), Option.bind_some, i_next h hat hD]
    exact ih g (by rw [List.length_set]; exact hl) (suc_lt h hat) (by omega) (by rw [List.length_append, List.length_singleton]; omega)
theorem i_orbs (h : TB D t) (hD : D.length ≤ 30) (hF : 1000 < F) {dn : List Bool} {k : Nat} {out R : List (List Int)} (o : Orbs (suc D t) (4 * D.length) dn k out R) :
    ∀ g, dn.length = 4 * D.length → 4 * D.length - k < g → out.length ≤ k → aq.pl61 F g D t.1 t.2 out dn ((4 * D.length : Nat) : Int) (k : Int) = some R := by
  induction o with
  | fin hk =>
    intro g hl hg hb
    obtain ⟨g, rfl⟩ : ∃ g', g = g' + 1 := ⟨g - 1, by omega⟩
    rw [aq.pl61, dF (by omega), cond_false]
  | @skip done k out R hk hd t' ih =>
    intro g hl hg hb
    obtain ⟨g, rfl⟩ : ∃ g', g = g' + 1 := ⟨g - 1, by omega⟩
    have := nf_le done
    rw [aq.pl61, dT (by omega), cond_true, i_orb h hD hF (.stop hd) F hl hk (by omega) (by simp; omega)]
    unfold aq.pj6 aq.pj5 aq.pj4
    rw [show decide ((([] : List Int).length : Int) > 0) = false by decide, cond_false, ws (by omega)]
    exact ih g hl (by omega) (by omega)
  | @go done done' k acc out R hk hd o' t' ih =>
    intro g hl hg hb
    obtain ⟨g, rfl⟩ : ∃ g', g = g' + 1 := ⟨g - 1, by omega⟩
    have := nf_le done
    have hne : acc ≠ [] := by
      cases o' with
      | stop hd' => rw [hd] at hd'; cases hd'
      | go _ t2 => exact t2.acc_ne (by simp)
    have := List.length_pos_iff.2 hne
    rw [aq.pl61, dT (by omega), cond_true, i_orb h hD hF o' F hl hk (by omega) (by simp; omega)]
    unfold aq.pj6 aq.pj5 aq.pj4
    rw [decide_eq_true (by omega), cond_true, apn_of (by simp; omega), Option.bind_some, ws (by omega)]
    exact ih g (by rw [o'.len]; exact hl) (by omega) (by rw [List.length_append, List.length_singleton]; omega)
structure Rg (D : List Cr) (t : Tb) (R : List (List Int)) : Prop where
  part : ∃ done, Part (suc D t) (4 * D.length) R done ∧ ∀ x, x < 4 * D.length → gt done x = true
  le : R.length ≤ 4 * D.length
theorem regions_both (h : TB D t) (hD : D.length ≤ 30) (hF : 1000 < F) : ∃ R, Rg D t R ∧ ap.p F D = some R ∧ aq.p F D t.1 t.2 = some R := by
  obtain ⟨R, done, o, q1, q2, q3⟩ := orbs_whole (σ := suc D t) (M := 4 * D.length) (fun x hx => suc_lt h hx) (fun x y hx hy e => suc_inj h hx hy e)
  refine ⟨R, ⟨⟨done, q1, q2⟩, q3⟩, ?_, ?_⟩
  · unfold ap.p
    rw [show (4 : Int) * (D.length : Int) = ((4 * D.length : Nat) : Int) by omega, wn (by omega), mkn_of (by omega), Option.bind_some]
    exact s_orbs h hD hF o F (by simp) (by omega) (by simp)
  · unfold aq.p
    rw [show (4 : Int) * (D.length : Int) = ((4 * D.length : Nat) : Int) by omega, wn (by omega), mkn_of (by omega), Option.bind_some, List.length_replicate]
    exact i_orbs h hD hF o F (by simp) (by omega) (by simp)
end Go.Proofs.Ytppbogklbhfboaa.AE
end
section
namespace Go.Proofs.Ytppbogklbhfboaa.AE
open Go Go.AE Go.Proofs
variable {F : Nat}
structure UF (s t : List Int) (n : Nat) : Prop where
  ls : s.length = n
  lt : t.length = n
  eq : ∀ i j : Nat, i < n → j < n → (gt s i = gt s j ↔ gt t i = gt t j)
  low : ∀ i : Nat, i < n → ∃ r : Nat, gt t i = (r : Int) ∧ r ≤ i ∧ gt t r = (r : Int)
  sr : ∀ i : Nat, i < n → 0 ≤ gt s i ∧ gt s i < (n : Int)
def cntg (n : Nat) : List Int := (List.range n).map fun k : Nat => (k : Int)
theorem cntg_len (n : Nat) : (cntg n).length = n := by simp [cntg]
theorem gt_cntg {n k : Nat} (h : k < n) : gt (cntg n) k = (k : Int) := by
  have := gt_get (l := cntg n) (n := k) (by rw [cntg_len]; exact h)
  unfold cntg at this ⊢
  rw [List.getElem?_map, List.getElem?_range h] at this
  exact (Option.some.inj this).symm
theorem cntg_succ (n : Nat) : cntg (n + 1) = cntg n ++ [(n : Int)] := by simp [cntg, List.range_succ]
theorem UF.start (n : Nat) : UF (cntg n) (cntg n) n where
  ls := cntg_len n
  lt := cntg_len n
  eq := fun i j hi hj => Iff.rfl
  low := fun i hi => ⟨i, gt_cntg hi, Nat.le_refl _, gt_cntg hi⟩
  sr := fun i hi => by rw [gt_cntg hi]; omega
def rel (l : List Int) (a b : Int) : List Int := l.map fun x => if x = a then b else x
theorem rel_len (l : List Int) (a b : Int) : (rel l a b).length = l.length := by simp [rel]
theorem gt_rel {l : List Int} {a b : Int} {j : Nat} (h : j < l.length) : gt (rel l a b) j = if gt l j = a then b else gt l j := by
  have := gt_get (l := rel l a b) (n := j) (by rw [rel_len]; exact h)
  unfold rel at this ⊢
  rw [List.getElem?_map, gt_get h] at this
  exact (Option.some.inj this).symm
theorem UF.union {s t : List Int} {n i k : Nat} (h : UF s t n) (hi : i < n) (hk : k < n) {hi_ lo : Int} (hx : (hi_ = gt t i ∧ lo = gt t k) ∨ (hi_ = gt t k ∧ lo = gt t i)) (hle : lo ≤ hi_) : UF (rel s (gt s k) (gt s i)) (rel t hi_ lo) n := by
  have gs : ∀ j, j < n → gt (rel s (gt s k) (gt s i)) j = if gt s j = gt s k then gt s i else gt s j := fun j hj => gt_rel (by rw [h.ls]; exact hj)
  have gtt : ∀ j, j < n → gt (rel t hi_ lo) j = if gt t j = hi_ then lo else gt t j := fun j hj => gt_rel (by rw [h.lt]; exact hj)
  have mem : ∀ j, j < n → ((gt s j = gt s i ∨ gt s j = gt s k) ↔ (gt t j = hi_ ∨ gt t j = lo)) := fun j hj => by
    rw [h.eq j i hj hi, h.eq j k hj hk]
    rcases hx with ⟨a, b⟩ | ⟨a, b⟩ <;> rw [a, b]
    exact or_comm
  have sA : ∀ j, j < n → (gt s j = gt s i ∨ gt s j = gt s k) → gt (rel s (gt s k) (gt s i)) j = gt s i := fun j hj hA => by
    rw [gs j hj]; split
    · rfl
    · rename_i q; exact hA.resolve_right q
  have sN : ∀ j, j < n → ¬ (gt s j = gt s i ∨ gt s j = gt s k) → gt (rel s (gt s k) (gt s i)) j = gt s j := fun j hj hA => by
    rw [gs j hj, if_neg (fun q => hA (.inr q))]
  have tA : ∀ j, j < n → (gt s j = gt s i ∨ gt s j = gt s k) → gt (rel t hi_ lo) j = lo := fun j hj hA => by
    rw [gtt j hj]; split
    · rfl
    · rename_i q; exact ((mem j hj).1 hA).resolve_left q
  have tN : ∀ j, j < n → ¬ (gt s j = gt s i ∨ gt s j = gt s k) → gt (rel t hi_ lo) j = gt t j := fun j hj hA => by
    rw [gtt j hj, if_neg (fun q => hA ((mem j hj).2 (.inl q)))]
  refine ⟨by rw [rel_len]; exact h.ls, by rw [rel_len]; exact h.lt, fun a b ha hb => ?_, fun a ha => ?_, fun a ha => ?_⟩
  · by_cases qa : gt s a = gt s i ∨ gt s a = gt s k <;> by_cases qb : gt s b = gt s i ∨ gt s b = gt s k
    · rw [sA a ha qa, sA b hb qb, tA a ha qa, tA b hb qb]; simp
    · rw [sA a ha qa, sN b hb qb, tA a ha qa, tN b hb qb]
      constructor
      · intro e; exact absurd (.inl e.symm) qb
      · intro e; exact absurd ((mem b hb).2 (.inr e.symm)) qb
    · rw [sN a ha qa, sA b hb qb, tN a ha qa, tA b hb qb]
      constructor
      · intro e; exact absurd (.inl e) qa
      · intro e; exact absurd ((mem a ha).2 (.inr e)) qa
    · rw [sN a ha qa, sN b hb qb, tN a ha qa, tN b hb qb]; exact h.eq a b ha hb
  · by_cases qa : gt s a = gt s i ∨ gt s a = gt s k
    · rw [tA a ha qa]
      obtain ⟨r, e1, e2, e3⟩ := h.low a ha
      have hlo : ∃ m : Nat, m < n ∧ lo = gt t m ∧ (gt s m = gt s i ∨ gt s m = gt s k) := by
        rcases hx with ⟨_, b⟩ | ⟨_, b⟩
        · exact ⟨k, hk, b, .inr rfl⟩
        · exact ⟨i, hi, b, .inl rfl⟩
      obtain ⟨m, hm, em, qm⟩ := hlo
      obtain ⟨r', f1, f2, f3⟩ := h.low m hm
      have hl : lo = (r' : Int) := em.trans f1
      have hle2 : lo ≤ gt t a := by
        rcases (mem a ha).1 qa with q | q
        · rw [q]; exact hle
        · rw [q]; exact Int.le_refl _
      refine ⟨r', hl, by omega, ?_⟩
      rw [tA r' (by omega) ?_, hl]
      rw [h.eq r' i (by omega) hi, h.eq r' k (by omega) hk, f3, ← f1]
      rcases hx with ⟨a1, b⟩ | ⟨a1, b⟩
      · right; rw [← b]; exact em.symm
      · left; rw [← b]; exact em.symm
    · rw [tN a ha qa]
      obtain ⟨r, e1, e2, e3⟩ := h.low a ha
      refine ⟨r, e1, e2, ?_⟩
      rw [tN r (by omega), e3]
      intro q
      have : gt s r = gt s a := (h.eq r a (by omega) ha).2 (e3.trans e1.symm)
      rw [this] at q; exact qa q
  · rw [gs a ha]; split
    · exact h.sr i hi
    · exact h.sr a ha
structure Cls (u : List Int) (n : Nat) (E : Nat → Nat → Prop) : Prop where
  sound : ∀ a b : Nat, E a b → a < n → b < n → gt u a = gt u b
  least : ∀ S : Nat → Prop, (∀ a b, E a b → (S a ↔ S b)) → ∀ i j : Nat, i < n → j < n → gt u i = gt u j → (S i ↔ S j)
theorem Cls.start (n : Nat) : Cls (cntg n) n (fun _ _ => False) where
  sound := fun a b h => h.elim
  least := fun S hS i j hi hj h => by rw [gt_cntg hi, gt_cntg hj] at h; rw [show i = j by omega]
theorem Cls.union {u : List Int} {n i k : Nat} {E E' : Nat → Nat → Prop} (h : Cls u n E) (hl : u.length = n) (hi : i < n) (hk : k < n) (hE : ∀ a b, E' a b ↔ E a b ∨ (a = i ∧ b = k)) {hi_ lo : Int} (hx : (hi_ = gt u i ∧ lo = gt u k) ∨ (hi_ = gt u k ∧ lo = gt u i)) : Cls (rel u hi_ lo) n E' := by
  have g : ∀ j, j < n → gt (rel u hi_ lo) j = if gt u j = hi_ then lo else gt u j := fun j hj => gt_rel (by rw [hl]; exact hj)
  refine ⟨fun a b e ha hb => ?_, fun S hS x y hx' hy' e => ?_⟩
  · rw [g a ha, g b hb]
    rcases (hE a b).1 e with q | ⟨rfl, rfl⟩
    · rw [h.sound a b q ha hb]
    · rcases hx with ⟨q1, q2⟩ | ⟨q1, q2⟩ <;> subst q1 q2 <;> split <;> split <;> simp_all
  · have hS0 : ∀ a b, E a b → (S a ↔ S b) := fun a b q => hS a b ((hE a b).2 (.inl q))
    have hik : S i ↔ S k := hS i k ((hE i k).2 (.inr ⟨rfl, rfl⟩))
    have L := h.least S hS0
    have toi : ∀ z, z < n → (gt u z = hi_ ∨ gt u z = lo) → (S z ↔ S i) := fun z hz q => by
      have : gt u z = gt u i ∨ gt u z = gt u k := by
        rcases hx with ⟨q1, q2⟩ | ⟨q1, q2⟩ <;> rw [q1, q2] at q
        · exact q
        · exact q.symm
      rcases this with q | q
      · exact L z i hz hi q
      · exact (L z k hz hk q).trans hik.symm
    rw [g x hx', g y hy'] at e
    by_cases cx : gt u x = hi_ <;> by_cases cy : gt u y = hi_
    · exact L x y hx' hy' (cx.trans cy.symm)
    · rw [if_pos cx, if_neg cy] at e
      exact (toi x hx' (.inl cx)).trans (toi y hy' (.inr e.symm)).symm
    · rw [if_neg cx, if_pos cy] at e
      exact (toi x hx' (.inr e)).trans (toi y hy' (.inl cy)).symm
    · rw [if_neg cx, if_neg cy] at e
      exact L x y hx' hy' e
def rk (t : List Int) : Nat → Nat
  | 0 => 0
  | k + 1 => rk t k + (bif gt t k == (k : Int) then 1 else 0)
def num (t : List Int) (n : Nat) : List Int := (List.range n).map fun j => ((rk t (gt t j).toNat : Nat) : Int)
theorem num_len (t : List Int) (n : Nat) : (num t n).length = n := by simp [num]
theorem num_succ (t : List Int) (n : Nat) : num t (n + 1) = num t n ++ [((rk t (gt t n).toNat : Nat) : Int)] := by simp [num, List.range_succ]
theorem gt_num {t : List Int} {n k : Nat} (h : k < n) : gt (num t n) k = ((rk t (gt t k).toNat : Nat) : Int) := by
  have := gt_get (l := num t n) (n := k) (by rw [num_len]; exact h)
  unfold num at this ⊢
  rw [List.getElem?_map, List.getElem?_range h] at this
  exact (Option.some.inj this).symm
theorem rk_le (t : List Int) : ∀ k, rk t k ≤ k
  | 0 => Nat.le_refl _
  | k + 1 => by have := rk_le t k; unfold rk; cases gt t k == (k : Int) <;> simp <;> omega
theorem rk_mono (t : List Int) {a b : Nat} (h : a ≤ b) : rk t a ≤ rk t b := by
  induction h with
  | refl => exact Nat.le_refl _
  | step _ ih => exact Nat.le_trans ih (by rw [rk]; omega)
theorem rk_root {t : List Int} {r k : Nat} (h : gt t r = (r : Int)) (hk : r < k) : rk t r < rk t k := by
  have : rk t (r + 1) = rk t r + 1 := by rw [rk, h]; simp
  have := rk_mono t (show r + 1 ≤ k by omega)
  omega
def rts (s t : List Int) : Nat → List Int
  | 0 => []
  | k + 1 => bif gt t k == (k : Int) then rts s t k ++ [gt s k] else rts s t k
theorem rts_len (s t : List Int) : ∀ k, (rts s t k).length = rk t k
  | 0 => rfl
  | k + 1 => by unfold rts rk; cases gt t k == (k : Int) <;> simp [rts_len s t k]
theorem rts_mem {s t : List Int} {n : Nat} (h : UF s t n) : ∀ k, k ≤ n → ∀ i : Nat, i < n → (gt s i ∈ rts s t k ↔ (gt t i).toNat < k)
  | 0, _, i, hi => by simp [rts]
  | k + 1, hk, i, hi => by
    obtain ⟨r, e1, e2, e3⟩ := h.low i hi
    have ih := rts_mem h k (by omega) i hi
    have hrk : (gt t i).toNat = r := by rw [e1]; simp
    rw [hrk] at ih ⊢
    unfold rts
    cases hq : gt t k == (k : Int) with
    | true =>
      have hq : gt t k = (k : Int) := by simpa using hq
      rw [cond_true, List.mem_append, ih, List.mem_singleton, h.eq i k hi (by omega), e1, hq]
      omega
    | false =>
      have hq : gt t k ≠ (k : Int) := by simpa using hq
      rw [cond_false, ih]
      constructor
      · omega
      · intro q
        have : r ≠ k := fun e => hq (by rw [e] at e3; exact e3)
        omega
theorem rts_idx {s t : List Int} {n : Nat} (h : UF s t n) : ∀ k, k ≤ n → ∀ i : Nat, i < n → (gt t i).toNat < k → (rts s t k).idxOf (gt s i) = rk t (gt t i).toNat
  | 0, _, i, hi, hlt => absurd hlt (Nat.not_lt_zero _)
  | k + 1, hk, i, hi, hlt => by
    obtain ⟨r, e1, e2, e3⟩ := h.low i hi
    have hrk : (gt t i).toNat = r := by rw [e1]; simp
    by_cases c : (gt t i).toNat < k
    · have ih := rts_idx h k (by omega) i hi c
      have hm := (rts_mem h k (by omega) i hi).2 c
      unfold rts
      cases gt t k == (k : Int) with
      | true => rw [cond_true, List.idxOf_append, if_pos hm, ih]
      | false => rw [cond_false, ih]
    · have hm : gt s i ∉ rts s t k := fun q => c ((rts_mem h k (by omega) i hi).1 q)
      obtain rfl : r = k := by omega
      have hs : gt s i = gt s r := (h.eq i r hi (by omega)).2 (e1.trans e3.symm)
      unfold rts
      rw [e3, beq_self_eq_true, cond_true, List.idxOf_append, if_neg hm, hs, hrk, rts_len]
      simp
theorem nst_is {s t : List Int} {n : Nat} (h : UF s t n) : ∀ k, k ≤ n → nst s k = (rts s t k, num t k)
  | 0, _ => rfl
  | k + 1, hk => by
    have ih := nst_is h k (by omega)
    have hks : k < n := by omega
    have hg : s.getD k 0 = gt s k := rfl
    obtain ⟨r, e1, e2, e3⟩ := h.low k hks
    have hrk : (gt t k).toNat = r := by rw [e1]; simp
    unfold nst
    simp only [hg, ih]
    have hc : (rts s t k).contains (gt s k) = decide (r < k) := by
      have := rts_mem h k (by omega) k hks
      rw [hrk] at this
      rw [Bool.eq_iff_iff, decide_eq_true_eq, ← this]; simp
    rw [hc, num_succ]
    have hr : (bif decide (r < k) then rts s t k else rts s t k ++ [gt s k]) = rts s t (k + 1) := by
      conv => rhs; unfold rts
      by_cases c : r < k
      · rw [decide_eq_true c, cond_true, show (gt t k == (k : Int)) = false by rw [e1]; simp; omega, cond_false]
      · rw [decide_eq_false c, cond_false, show (gt t k == (k : Int)) = true by rw [e1]; simp; omega, cond_true]
    rw [hr, rts_idx h (k + 1) hk k hks (by omega)]
theorem nums_is {s t : List Int} {n : Nat} (h : UF s t n) : nums s = num t n := by
  unfold nums
  rw [h.ls, nst_is h n (Nat.le_refl _)]
theorem i_numbered {s t : List Int} {n : Nat} (h : UF s t n) (hn : n ≤ 1000) : dv.p F s = some (num t n) := by
  unfold dv.p
  rw [if_pos, nums_is h]
  refine ⟨by rw [h.ls]; omega, ?_⟩
  unfold wfs
  rw [List.all_eq_true]
  intro x hx
  obtain ⟨j, hj, rfl⟩ := mem_gt hx
  have := h.sr j (by rw [← h.ls]; exact hj)
  have h3 : IntKind.i64.min = -9223372036854775808 := by decide
  have h4 : IntKind.i64.max = 9223372036854775807 := by decide
  simp only [Lit.wf, Bool.and_eq_true, decide_eq_true_eq]
  omega
theorem max_l {t : List Int} {n : Nat} (hl : ∀ i : Nat, i < n → ∃ r : Nat, gt t i = (r : Int) ∧ r ≤ i ∧ gt t r = (r : Int)) (hn : n ≤ 1000) : ∀ (m g i : Nat), n - i = m → m < g → 1 ≤ i → i ≤ n →
    aX.pl61 F g (num t n) ((rk t i : Nat) - 1 : Int) (i : Int) = some ((rk t n : Nat) - 1 : Int) := by
  intro m
  induction m with
  | zero =>
    intro g i hm hg h1 hi
    obtain ⟨g, rfl⟩ : ∃ g', g = g' + 1 := ⟨g - 1, by omega⟩
    rw [aX.pl61, dF (by rw [num_len]; omega), cond_false, show i = n by omega]
  | succ m ih =>
    intro g i hm hg h1 hi
    obtain ⟨g, rfl⟩ : ∃ g', g = g' + 1 := ⟨g - 1, by omega⟩
    rw [aX.pl61, dT (by rw [num_len]; omega), cond_true, ixn (by rw [num_len]; omega), Option.bind_some, gt_num (by omega), ws (by omega)]
    obtain ⟨r, e1, e2, e3⟩ := hl i (by omega)
    have hrk : (gt t i).toNat = r := by rw [e1]; simp
    rw [hrk]
    have key : (if ((rk t r : Nat) : Int) > ((rk t i : Nat) : Int) - 1 then ((rk t r : Nat) : Int) else ((rk t i : Nat) : Int) - 1) = ((rk t (i + 1) : Nat) : Int) - 1 := by
      by_cases c : r = i
      · subst c
        have : rk t (r + 1) = rk t r + 1 := by rw [rk, e3]; simp
        rw [if_pos (by omega), this]; omega
      · have h5 : rk t (i + 1) = rk t i := by rw [rk, show (gt t i == (i : Int)) = false by rw [e1]; simp; omega]; rfl
        have := rk_root e3 (show r < i by omega)
        rw [if_neg (by omega), h5]
    rw [key]
    exact ih g (i + 1) (by omega) (by omega) (by omega) (by omega)
theorem i_classCount {t : List Int} {n : Nat} (hl : ∀ i : Nat, i < n → ∃ r : Nat, gt t i = (r : Int) ∧ r ≤ i ∧ gt t r = (r : Int)) (hn : n ≤ 1000) (hF : 2000 < F) : bj.p F (num t n) = some ((rk t n : Nat) : Int) := by
  unfold bj.p
  rw [num_len]
  cases n with
  | zero => simp [rk]
  | succ n =>
    rw [show (((n + 1 : Nat) : Int) == 0) = false by simp; omega, cond_false]
    unfold aX.p aX.pj1
    rw [num_len, decide_eq_false (by omega), cond_false, show (0 : Int) = ((0 : Nat) : Int) from rfl, ixn (by rw [num_len]; omega), Option.bind_some, gt_num (by omega)]
    obtain ⟨r, e1, e2, e3⟩ := hl 0 (by omega)
    have h0 : gt t 0 = 0 := by rw [e1]; omega
    have := max_l (F := F) hl hn n F 1 (by omega) (by omega) (Nat.le_refl _) (by omega)
    have hr1 : rk t 1 = 1 := by rw [rk, rk, h0]; rfl
    rw [hr1] at this
    rw [h0]
    have this : aX.pl61 F F (num t (n + 1)) (((rk t (0 : Int).toNat : Nat) : Int)) 1 = _ := this
    have := rk_le t (n + 1)
    rw [‹aX.pl61 F F _ _ _ = _›, Option.bind_some, w64_in (by omega) (by omega)]
    congr 1; omega
end Go.Proofs.Ytppbogklbhfboaa.AE
end
section
namespace Go.Proofs.Ytppbogklbhfboaa.AE
open Go Go.AE Go.Proofs
variable {F : Nat}
def RelTo (l0 : List Int) (a b : Int) (k : Nat) (l : List Int) : Prop := l.length = l0.length ∧ (∀ j, j < k → gt l j = if gt l0 j = a then b else gt l0 j) ∧ (∀ j, k ≤ j → gt l j = gt l0 j)
theorem RelTo.start (l0 : List Int) (a b : Int) : RelTo l0 a b 0 l0 := ⟨rfl, fun j hj => by omega, fun j hj => rfl⟩
theorem RelTo.fin {l0 l : List Int} {a b : Int} {k : Nat} (h : RelTo l0 a b k l) (hk : l0.length ≤ k) : l = rel l0 a b := by
  refine gext (by rw [rel_len]; exact h.1) fun n hn => ?_
  rw [gt_rel (by rw [← h.1]; exact hn), h.2.1 n (by have := h.1; omega)]
theorem RelTo.hit {l0 l : List Int} {a b : Int} {k : Nat} (h : RelTo l0 a b k l) (hk : k < l0.length) (e : gt l k = a) : RelTo l0 a b (k + 1) (l.set k b) := by
  refine ⟨by rw [List.length_set]; exact h.1, fun j hj => ?_, fun j hj => ?_⟩
  · by_cases c : k = j
    · subst c; rw [gset_eq (by rw [h.1]; exact hk), if_pos (by rw [← h.2.2 k (Nat.le_refl _)]; exact e)]
    · rw [gset_ne c]; exact h.2.1 j (by omega)
  · rw [gset_ne (by omega)]; exact h.2.2 j (by omega)
theorem RelTo.miss {l0 l : List Int} {a b : Int} {k : Nat} (h : RelTo l0 a b k l) (e : gt l k ≠ a) : RelTo l0 a b (k + 1) l := by
  refine ⟨h.1, fun j hj => ?_, fun j hj => h.2.2 j (by omega)⟩
  by_cases c : j = k
  · subst c; rw [if_neg (by rw [← h.2.2 j (Nat.le_refl _)]; exact e)]; exact h.2.2 j (Nat.le_refl _)
  · exact h.2.1 j (by omega)
theorem union_l {l0 : List Int} {a b : Int} (hl : l0.length ≤ 1000) : ∀ (m g k : Nat) (l : List Int), l0.length - k = m → m < g → k ≤ l0.length → RelTo l0 a b k l →
    aQ.pl7 F g l a b ((l0.length : Nat) : Int) (k : Int) = some (rel l0 a b) := by
  intro m
  induction m with
  | zero =>
    intro g k l hm hg hk h
    obtain ⟨g, rfl⟩ : ∃ g', g = g' + 1 := ⟨g - 1, by omega⟩
    rw [aQ.pl7, dF (by omega), cond_false, h.fin (by omega)]
  | succ m ih =>
    intro g k l hm hg hk h
    obtain ⟨g, rfl⟩ : ∃ g', g = g' + 1 := ⟨g - 1, by omega⟩
    rw [aQ.pl7, dT (by omega), cond_true, ixn (by rw [h.1]; omega), Option.bind_some]
    unfold aQ.pj2
    rw [ws (by omega)]
    by_cases e : gt l k = a
    · rw [show (gt l k == a) = true by simpa using e, cond_true, Option.bind_some, Option.bind_some]
      exact ih g (k + 1) _ (by omega) (by omega) (by omega) (h.hit (by omega) e)
    · rw [show (gt l k == a) = false by simpa using e, cond_false]
      exact ih g (k + 1) _ (by omega) (by omega) (by omega) (h.miss e)
theorem i_union {s : List Int} {i k : Nat} (hi : i < s.length) (hk : k < s.length) (hl : s.length ≤ 1000) (hF : 2000 < F) : aQ.p F s (i : Int) (k : Int) = some (rel s (gt s k) (gt s i)) := by
  unfold aQ.p
  rw [ixn hk, Option.bind_some, ixn hi, Option.bind_some]
  exact union_l hl s.length F 0 s (by omega) (by omega) (by omega) (.start _ _ _)
theorem counting_l {n : Nat} (hn : n ≤ 1000) : ∀ (m g k : Nat), n - k = m → m < g → k ≤ n → bf.pl29 F g (cntg k) (n : Int) (k : Int) = some (cntg n) := by
  intro m
  induction m with
  | zero =>
    intro g k hm hg hk
    obtain ⟨g, rfl⟩ : ∃ g', g = g' + 1 := ⟨g - 1, by omega⟩
    rw [bf.pl29, dF (by omega), cond_false, show k = n by omega]
  | succ m ih =>
    intro g k hm hg hk
    obtain ⟨g, rfl⟩ : ∃ g', g = g' + 1 := ⟨g - 1, by omega⟩
    rw [bf.pl29, dT (by omega), cond_true, apn_of (by rw [cntg_len]; simp; omega), Option.bind_some, ws (by omega), ← cntg_succ]
    exact ih g (k + 1) (by omega) (by omega) (by omega)
theorem i_counting {n : Nat} (hn : n ≤ 1000) (hF : 2000 < F) : bf.p F (n : Int) = some (cntg n) := by
  unfold bf.p
  exact counting_l hn n F 0 (by omega) (by omega) (by omega)
theorem ifmax (x y : Int) : (if y > x then y else x) = max x y := by
  rw [Int.max_def]; split <;> split <;> omega
theorem ifmin (x y : Int) : (if y < x then y else x) = min x y := by
  rw [Int.min_def]; split <;> split <;> omega
theorem sparts_in {C : List Cr → List Int → Int → Option (List Int)} {D : List Cr} {y5 : Nat} {x y : Int} {l0 : List Int} (hl : l0.length ≤ 1000) (hy : y5 ≤ 1000) : ∀ (m g k : Nat) (l : List Int), l0.length - k = m → m < g → k ≤ l0.length → RelTo l0 (max x y) (min x y) k l →
    ao.pl7855 F C g D l (y5 : Int) x y (k : Int) = C D (rel l0 (max x y) (min x y)) ((y5 + 1 : Nat) : Int) := by
  intro m
  induction m with
  | zero =>
    intro g k l hm hg hk h
    obtain ⟨g, rfl⟩ : ∃ g', g = g' + 1 := ⟨g - 1, by omega⟩
    rw [ao.pl7855, dF (by rw [h.1]; omega), cond_false, h.fin (by omega)]
    unfold ao.pj7 ao.pj6
    rw [ws (by omega)]
  | succ m ih =>
    intro g k l hm hg hk h
    obtain ⟨g, rfl⟩ : ∃ g', g = g' + 1 := ⟨g - 1, by omega⟩
    rw [ao.pl7855, dT (by rw [h.1]; omega), cond_true, ixn (by rw [h.1]; omega), Option.bind_some, ifmax, ifmin]
    unfold ao.pj8
    rw [ws (by omega)]
    by_cases e : gt l k = max x y
    · rw [show (gt l k == max x y) = true by simpa using e, cond_true, Option.bind_some, Option.bind_some]
      exact ih g (k + 1) _ (by omega) (by omega) (by omega) (h.hit (by omega) e)
    · rw [show (gt l k == max x y) = false by simpa using e, cond_false]
      exact ih g (k + 1) _ (by omega) (by omega) (by omega) (h.miss e)
theorem fr_get {D : List Cr} {t : Tb} (h : TB D t) {a : Nat} (ha : a < 2 * D.length) : ∃ i p : Nat, gt t.1 a = ((i : Int), (p : Int)) ∧ i < D.length ∧ p < 4 := by
  obtain ⟨i, p, q1, q2, _, _, q5⟩ := h.fr.get a ha; exact ⟨i, p, q5, q1, q2⟩
theorem to_get {D : List Cr} {t : Tb} (h : TB D t) {a : Nat} (ha : a < 2 * D.length) : ∃ i p : Nat, gt t.2 a = ((i : Int), (p : Int)) ∧ i < D.length ∧ p < 4 := by
  obtain ⟨i, p, q1, q2, _, _, q5⟩ := h.to_.get a ha; exact ⟨i, p, q5, q1, q2⟩
def Ep (t : Tb) (k : Nat) (a b : Nat) : Prop := ∃ x : Nat, x < k ∧ (gt t.1 x).1 = (a : Int) ∧ (gt t.2 x).1 = (b : Int)
theorem parts_l {D : List Cr} {t : Tb} (h : TB D t) (hD : D.length ≤ 30) (hF : 5000 < F) : ∀ (m g k : Nat) (s u : List Int), 2 * D.length - k = m → m < g → k ≤ 2 * D.length → UF s u D.length → Cls u D.length (Ep t k) →
    ∃ s' u', UF s' u' D.length ∧ Cls u' D.length (Ep t (2 * D.length)) ∧ aK.pl29 F g t.1 t.2 s ((2 * D.length : Nat) : Int) (k : Int) = some (num u' D.length) ∧ ao.pl61 F g D u (k : Int) = some u' := by
  intro m
  induction m with
  | zero =>
    intro g k s u hm hg hk hu hc
    obtain ⟨g, rfl⟩ : ∃ g', g = g' + 1 := ⟨g - 1, by omega⟩
    refine ⟨s, u, hu, by rw [show 2 * D.length = k by omega]; exact hc, ?_, ?_⟩
    · rw [aK.pl29, dF (by omega), cond_false, i_numbered hu (by omega), Option.bind_some]
    · rw [ao.pl61, show (2 : Int) * (D.length : Int) = ((2 * D.length : Nat) : Int) by omega, wn (by omega), dF (by omega), cond_false]
  | succ m ih =>
    intro g k s u hm hg hk hu hc
    obtain ⟨g, rfl⟩ : ∃ g', g = g' + 1 := ⟨g - 1, by omega⟩
    have hkl : k < 2 * D.length := by omega
    obtain ⟨i, p, e1, hi, _⟩ := fr_get h hkl
    obtain ⟨j, q, e2, hj, _⟩ := to_get h hkl
    have hu' := hu.union hi hj (hi_ := max (gt u j) (gt u i)) (lo := min (gt u j) (gt u i)) (by omega) (by omega)
    have hc' := hc.union hu.lt hi hj (E' := Ep t (k + 1)) (fun a b => by
      constructor
      · rintro ⟨x, hx, a1, a2⟩
        by_cases e : x = k
        · subst e; rw [e1] at a1; rw [e2] at a2; exact .inr ⟨by simp only at a1; omega, by simp only at a2; omega⟩
        · exact .inl ⟨x, by omega, a1, a2⟩
      · rintro (⟨x, hx, a1, a2⟩ | ⟨rfl, rfl⟩)
        · exact ⟨x, by omega, a1, a2⟩
        · exact ⟨k, by omega, by rw [e1], by rw [e2]⟩) (hi_ := max (gt u j) (gt u i)) (lo := min (gt u j) (gt u i)) (by omega)
    obtain ⟨s', u', q1, qc, q2, q3⟩ := ih g (k + 1) _ _ (by omega) (by omega) (by omega) hu' hc'
    refine ⟨s', u', q1, qc, ?_, ?_⟩
    · rw [aK.pl29, dT hkl, cond_true, ixn (by rw [h.fr.len]; exact hkl), Option.bind_some, ixn (by rw [h.to_.len]; exact hkl), Option.bind_some, e1, e2]
      simp only
      rw [i_union (by rw [hu.ls]; exact hi) (by rw [hu.ls]; exact hj) (by rw [hu.ls]; omega) (by omega), Option.bind_some, ws (by omega)]
      exact q2
    · rw [ao.pl61, show (2 : Int) * (D.length : Int) = ((2 * D.length : Nat) : Int) by omega, wn (by omega), dT hkl, cond_true, place_of h.sg h.to_ hkl hD (by omega), Option.bind_some, place_of h.sg h.fr hkl hD (by omega), Option.bind_some, e1, e2]
      simp only
      rw [ixn (by rw [hu.lt]; exact hj), Option.bind_some, ixn (by rw [hu.lt]; exact hi), Option.bind_some]
      have := sparts_in (F := F) (C := ao.pl61 F g) (D := D) (y5 := k) (x := gt u j) (y := gt u i) (l0 := u) (by rw [hu.lt]; omega) (by omega) u.length F 0 u (by omega) (by rw [hu.lt]; omega) (by omega) (.start _ _ _)
      have this : ao.pl7855 F (ao.pl61 F g) F D u (k : Int) (gt u j) (gt u i) 0 = _ := this
      rw [this]
      exact q3
theorem sparts_start {D : List Cr} (hD : D.length ≤ 30) : ∀ (m g k : Nat), D.length - k = m → m < g → k ≤ D.length → ao.pl29 F g D (cntg k) (k : Int) = ao.pl61 F F D (cntg D.length) 0 := by
  intro m
  induction m with
  | zero =>
    intro g k hm hg hk
    obtain ⟨g, rfl⟩ : ∃ g', g = g' + 1 := ⟨g - 1, by omega⟩
    rw [ao.pl29, dF (by omega), cond_false, show k = D.length by omega]
    rfl
  | succ m ih =>
    intro g k hm hg hk
    obtain ⟨g, rfl⟩ : ∃ g', g = g' + 1 := ⟨g - 1, by omega⟩
    rw [ao.pl29, dT (by omega), cond_true, apn_of (by rw [cntg_len]; simp; omega), Option.bind_some, ws (by omega), ← cntg_succ]
    exact ih g (k + 1) (by omega) (by omega) (by omega)
theorem parts_both {D : List Cr} {t : Tb} (h : TB D t) (hD : D.length ≤ 30) (hF : 5000 < F) : ∃ s u, UF s u D.length ∧ Cls u D.length (Ep t (2 * D.length)) ∧ aK.p F D t.1 t.2 = some (num u D.length) ∧ ao.p F D = some u := by
  obtain ⟨s, u, q1, qc, q2, q3⟩ := parts_l h hD hF (2 * D.length) F 0 (cntg D.length) (cntg D.length) (by omega) (by omega) (by omega) (UF.start _) (by
    have := Cls.start D.length
    rw [show (fun _ _ => False) = Ep t 0 from by funext a b; exact propext ⟨fun q => q.elim, fun ⟨x, hx, _⟩ => absurd hx (Nat.not_lt_zero _)⟩] at this
    exact this)
  refine ⟨s, u, q1, qc, ?_, ?_⟩
  · unfold aK.p bx.p
    rw [Option.bind_some, i_counting (by omega) (by omega), Option.bind_some, h.fr.len]
    exact q2
  · unfold ao.p
    have := sparts_start (F := F) hD D.length F 0 (by omega) (by omega) (by omega)
    exact this.trans q3
theorem pcount_l {u : List Int} (hn : u.length ≤ 1000) : ∀ (m g k : Nat), u.length - k = m → m < g → k ≤ u.length → aL.pl61 F g ((rk u k : Nat) : Int) u (k : Int) = some ((rk u u.length : Nat) : Int) := by
  intro m
  induction m with
  | zero =>
    intro g k hm hg hk
    obtain ⟨g, rfl⟩ : ∃ g', g = g' + 1 := ⟨g - 1, by omega⟩
    rw [aL.pl61, dF (by omega), cond_false, show k = u.length by omega]
  | succ m ih =>
    intro g k hm hg hk
    obtain ⟨g, rfl⟩ : ∃ g', g = g' + 1 := ⟨g - 1, by omega⟩
    have := rk_le u k
    rw [aL.pl61, dT (by omega), cond_true, ixn (by omega), Option.bind_some]
    unfold aL.pj2
    rw [ws (i := k) (by omega), ws (by omega)]
    have := ih g (k + 1) (by omega) (by omega) (by omega)
    rw [rk] at this
    cases hb : gt u k == (k : Int) with
    | true => rw [hb] at this; rw [cond_true]; exact this
    | false => rw [hb] at this; rw [cond_false]; exact this
end Go.Proofs.Ytppbogklbhfboaa.AE
end
section
namespace Go.Proofs.Ytppbogklbhfboaa.AE
open Go Go.AE Go.Proofs
variable {F : Nat}
theorem sgn_l {D : List Cr} (hD : D.length ≤ 1000) : ∀ (m g k : Nat), D.length - k = m → m < g → k ≤ D.length →
    ∃ r : Int, bd.pl13 F g D (D.length : Int) (k : Int) = some r ∧ (r ≥ 0 ↔ ¬ ∀ x ∈ D.drop k, SgOk x) := by
  intro m
  induction m with
  | zero =>
    intro g k hm hg hk
    obtain ⟨g, rfl⟩ : ∃ g', g = g' + 1 := ⟨g - 1, by omega⟩
    refine ⟨-1, ?_, ?_⟩
    · rw [bd.pl13, dF (by omega), cond_false]
    · rw [List.drop_eq_nil_of_le (by omega)]; simp
  | succ m ih =>
    intro g k hm hg hk
    obtain ⟨g, rfl⟩ : ∃ g', g = g' + 1 := ⟨g - 1, by omega⟩
    have hlt : k < D.length := by omega
    rw [bd.pl13, dT hlt, cond_true, ixn hlt, Option.bind_some, drop_cons hlt]
    unfold cg.p
    by_cases c : SgOk (gt D k)
    · have : (bif ((gt D k).2.2.2.2 != 1) then (some ((gt D k).2.2.2.2 != (-1))) else (some false)) = some false := by
        have c' : sg (gt D k) = 1 ∨ sg (gt D k) = -1 := c
        unfold sg at c'
        rcases c' with e | e <;> rw [e] <;> rfl
      rw [this, Option.bind_some, cond_false, ws (by omega)]
      obtain ⟨r, q1, q2⟩ := ih g (k + 1) (by omega) (by omega) (by omega)
      refine ⟨r, q1, q2.trans (not_congr ?_)⟩
      constructor
      · exact fun a => List.forall_mem_cons.2 ⟨c, a⟩
      · exact fun a => (List.forall_mem_cons.1 a).2
    · have : (bif ((gt D k).2.2.2.2 != 1) then (some ((gt D k).2.2.2.2 != (-1))) else (some false)) = some true := by
        have c' : ¬ (sg (gt D k) = 1 ∨ sg (gt D k) = -1) := c
        unfold sg at c'
        rw [show ((gt D k).2.2.2.2 != 1) = true by simp; omega, cond_true, show ((gt D k).2.2.2.2 != -1) = true by simp; omega]
      rw [this, Option.bind_some, cond_true]
      refine ⟨(k : Int), rfl, ⟨fun _ a => c (List.forall_mem_cons.1 a).1, fun _ => by omega⟩⟩
theorem sgn_all {D : List Cr} (hD : D.length ≤ 1000) (hF : 2000 < F) : bY.p F D = some (decide (¬ ∀ x ∈ D, SgOk x)) := by
  unfold bY.p bd.p
  obtain ⟨r, q1, q2⟩ := sgn_l (F := F) hD D.length F 0 (by omega) (by omega) (by omega)
  have q1 : bd.pl13 F F D (D.length : Int) 0 = some r := q1
  rw [q1, Option.bind_some]
  rw [List.drop_zero] at q2
  congr 1
  exact decide_eq_decide.2 q2
structure DG (F : Nat) (D : List Cr) (c : Int) (t : Tb) (R : List (List Int)) (s u : List Int) : Prop where
  len : D.length ≤ 10
  c0 : 0 ≤ c
  c8 : c ≤ 8
  tb : TB D t
  rg : Rg D t R
  sR : ap.p F D = some R
  iR : aq.p F D t.1 t.2 = some R
  uf : UF s u D.length
  cls : Cls u D.length (Ep t (2 * D.length))
  iP : aK.p F D t.1 t.2 = some (num u D.length)
  sP : ao.p F D = some u
  euler : R.length = D.length + 2 * rk u D.length
  draw : bv.p F D c = some (t.1, t.2, true)
theorem partCount {D : List Cr} {u : List Int} (hu : u.length ≤ 1000) (hF : 2000 < F) (e : ao.p F D = some u) : aL.p F D = some ((rk u u.length : Nat) : Int) := by
  unfold aL.p
  rw [e, Option.bind_some]
  exact pcount_l (F := F) hu u.length F 0 (by omega) (by omega) (by omega)
theorem isDr {D : List Cr} {c : Int} (hl : D.length ≤ 2000000) (hF : 5000000 < F) :
    (bU.p F D c = some false ∧ ∃ x y, bv.p F D c = some (x, y, false)) ∨ (bU.p F D c = some true ∧ ∃ t R s u, DG F D c t R s u) := by
  unfold bU.p
  by_cases h1 : D.length ≤ 10
  · rw [decide_eq_false (by omega), cond_false, abg, Option.bind_some]
    by_cases h2 : 0 ≤ c ∧ c ≤ 8
    · rw [decide_eq_true h2, Bool.not_true, cond_false]
      obtain ⟨b, q1, q2⟩ := counts_whole (F := F) (D := D) (by omega) (by omega)
      rw [q1, Option.bind_some]
      by_cases hs : ∀ x ∈ D, SgOk x
      · rcases arrows_whole (F := F) (by omega) hs (by omega) with ⟨e, x, y, r⟩ | ⟨t, e, r⟩
        · left
          have hb : b = false := by
            cases b with
            | false => rfl
            | true => obtain ⟨_, t, e'⟩ := q2.1 rfl; rw [e] at e'; cases e'
          subst hb
          refine ⟨rfl, [], [], ?_⟩
          unfold bv.p bx.p
          rw [Option.bind_some, decide_eq_false (by omega), cond_false, zX, Option.bind_some, decide_eq_true h2, Bool.not_true, cond_false, sgn_all (by omega) (by omega), Option.bind_some, decide_eq_false (fun q => q hs), cond_false, r, Option.bind_some]
          rfl
        · have hb : b = true := q2.2 ⟨hs, t, e⟩
          subst hb
          have tb := run_TB hs e
          obtain ⟨R, rg, e1, e2⟩ := regions_both (F := F) tb (by omega) (by omega)
          obtain ⟨s, u, uf, cls, e3, e4⟩ := parts_both (F := F) tb (by omega) (by omega)
          have hRl := rg.le
          have hk := rk_le u D.length
          rw [Bool.not_true, cond_false, e1, Option.bind_some, partCount (by rw [uf.lt]; omega) (by omega) e4, Option.bind_some, uf.lt, w64_in (x := 2 * ((rk u D.length : Nat) : Int)) (by omega) (by omega), w64_in (by omega) (by omega)]
          have hd : bv.p F D c = (bif ((R.length : Int) != (D.length : Int) + 2 * ((rk u D.length : Nat) : Int)) then (some (([] : List (Int × Int)), ([] : List (Int × Int)), false)) else (some (t.1, t.2, true))) := by
            unfold bv.p bx.p
            rw [Option.bind_some, decide_eq_false (by omega), cond_false, zX, Option.bind_some, decide_eq_true h2, Bool.not_true, cond_false, sgn_all (by omega) (by omega), Option.bind_some, decide_eq_false (fun q => q hs), cond_false, r, Option.bind_some]
            simp only [Bool.not_true, cond_false]
            rw [e2, Option.bind_some]
            unfold cp.p
            rw [Option.bind_some, e3, Option.bind_some, i_classCount uf.low (by omega) (by omega), Option.bind_some, w64_in (x := 2 * ((rk u D.length : Nat) : Int)) (by omega) (by omega), w64_in (by omega) (by omega)]
          by_cases he : R.length = D.length + 2 * rk u D.length
          · right
            refine ⟨by congr 1; simp; omega, t, R, s, u, ⟨h1, h2.1, h2.2, tb, rg, e1, e2, uf, cls, e3, e4, he, ?_⟩⟩
            rw [hd, show ((R.length : Int) != (D.length : Int) + 2 * ((rk u D.length : Nat) : Int)) = false by simp; omega, cond_false]
          · left
            refine ⟨by congr 1; simp; omega, [], [], ?_⟩
            rw [hd, show ((R.length : Int) != (D.length : Int) + 2 * ((rk u D.length : Nat) : Int)) = true by simp; omega, cond_true]
      · left
        have hb : b = false := by
          cases b with
          | false => rfl
          | true => exact absurd (q2.1 rfl).1 hs
        subst hb
        refine ⟨rfl, [], [], ?_⟩
        unfold bv.p bx.p
        rw [Option.bind_some, decide_eq_false (by omega), cond_false, zX, Option.bind_some, decide_eq_true h2, Bool.not_true, cond_false, sgn_all (by omega) (by omega), Option.bind_some, decide_eq_true hs, cond_true]
    · left
      rw [decide_eq_false h2, Bool.not_false, cond_true]
      refine ⟨rfl, [], [], ?_⟩
      unfold bv.p bx.p
      rw [Option.bind_some, decide_eq_false (by omega), cond_false, zX, Option.bind_some, decide_eq_false h2, Bool.not_false, cond_true]
  · left
    rw [decide_eq_true (by omega), cond_true]
    refine ⟨rfl, [], [], ?_⟩
    unfold bv.p bx.p
    rw [Option.bind_some, decide_eq_true (by omega), cond_true]
end Go.Proofs.Ytppbogklbhfboaa.AE
end
section
namespace Go.Proofs.Ytppbogklbhfboaa.AE
open Go Go.AE Go.Proofs
variable {F : Nat}
theorem isD {D : List Cr} {c : Int} (hl : D.length ≤ 2000000) (hF : 5000000 < F) :
    (bU.p F D c = some false ∧ bW.p F D c = some false ∧ ∃ x y, bv.p F D c = some (x, y, false)) ∨
    (bU.p F D c = some true ∧ bW.p F D c = some true ∧ ∃ t R s u, DG F D c t R s u) := by
  have key := isDr (F := F) (c := c) hl hF
  rcases key with ⟨a, x, y, e⟩ | ⟨a, t, R, s, u, h⟩
  · left
    refine ⟨a, ?_, x, y, e⟩
    unfold bW.p
    rw [e, Option.bind_some]
  · right
    refine ⟨a, ?_, t, R, s, u, h⟩
    unfold bW.p
    rw [h.draw, Option.bind_some]
end Go.Proofs.Ytppbogklbhfboaa.AE
end
section
namespace Go.Proofs.Ytppbogklbhfboaa.AE
open Go Go.AE Go.Proofs
theorem perm_of {α : Type} [BEq α] [LawfulBEq α] : ∀ (l m : List α), l.Nodup → (∀ x ∈ l, x ∈ m) → m.length ≤ l.length → l.Perm m := by
  intro l
  induction l with
  | nil => intro m _ _ h; have e : m = [] := List.eq_nil_of_length_eq_zero (by simpa using h); rw [e]
  | cons a t ih =>
    intro m hn hm hl
    have ha : a ∈ m := hm a (by simp)
    obtain ⟨h1, h2⟩ := List.nodup_cons.1 hn
    refine ((ih (m.erase a) h2 (fun x hx => ?_) ?_).cons a).trans (List.perm_cons_erase ha).symm
    · exact (List.mem_erase_of_ne (show x ≠ a from fun e => h1 (by rw [← e]; exact hx))).2 (hm x (by simp [hx]))
    · rw [List.length_erase_of_mem ha]; simp at hl; omega
theorem nodup_map {α β : Type} {f : α → β} : ∀ {l : List α}, l.Nodup → (∀ x ∈ l, ∀ y ∈ l, f x = f y → x = y) → (l.map f).Nodup := by
  intro l
  induction l with
  | nil => intro _ _; simp
  | cons a t ih =>
    intro hn hi
    obtain ⟨h1, h2⟩ := List.nodup_cons.1 hn
    rw [List.map_cons]
    refine List.nodup_cons.2 ⟨fun hm => ?_, ih h2 fun x hx y hy => hi x (by simp [hx]) y (by simp [hy])⟩
    obtain ⟨b, hb, e⟩ := List.mem_map.1 hm
    exact h1 (hi b (by simp [hb]) a (by simp) e ▸ hb)
def bl : Nat → List (List Bool)
  | 0 => [[]]
  | m + 1 => (bl m).map (true :: ·) ++ (bl m).map (false :: ·)
theorem bl_mem : ∀ (m : Nat) (l : List Bool), l ∈ bl m ↔ l.length = m := by
  intro m
  induction m with
  | zero => intro l; simp [bl]
  | succ m ih =>
    intro l
    cases l with
    | nil => simp [bl]
    | cons b l => cases b <;> simp [bl, ih]
theorem bl_nodup : ∀ m : Nat, (bl m).Nodup := by
  intro m
  induction m with
  | zero => simp [bl]
  | succ m ih =>
    rw [bl, List.nodup_append]
    refine ⟨nodup_map ih (fun x _ y _ e => by simpa using e), nodup_map ih (fun x _ y _ e => by simpa using e), fun x hx y hy e => ?_⟩
    obtain ⟨a, _, rfl⟩ := List.mem_map.1 hx
    obtain ⟨b, _, rfl⟩ := List.mem_map.1 hy
    simp at e
theorem bsurj {m : Nat} (f : List Bool → List Bool) (hl : ∀ l, l.length = m → (f l).length = m) (hi : ∀ l l', l.length = m → l'.length = m → f l = f l' → l = l') {y : List Bool} (hy : y.length = m) : ∃ l, l.length = m ∧ f l = y := by
  have p : ((bl m).map f).Perm (bl m) := perm_of _ _ (nodup_map (bl_nodup m) fun x hx y hy e => hi x y ((bl_mem m x).1 hx) ((bl_mem m y).1 hy) e) (fun x hx => by
    obtain ⟨a, ha, rfl⟩ := List.mem_map.1 hx
    exact (bl_mem m _).2 (hl a ((bl_mem m a).1 ha))) (by simp)
  obtain ⟨a, ha, e⟩ := List.mem_map.1 (p.mem_iff.2 ((bl_mem m y).2 hy))
  exact ⟨a, (bl_mem m a).1 ha, e⟩
structure Ends (n : Nat) (tl hd ar : Nat → Nat) : Prop where
  tlt : ∀ x, x < 2 * n → tl x < 4 * n
  hlt : ∀ x, x < 2 * n → hd x < 4 * n
  ta : ∀ x, x < 2 * n → ar (tl x) = x
  ha : ∀ x, x < 2 * n → ar (hd x) = x
  ne : ∀ x, x < 2 * n → tl x ≠ hd x
def el (tl hd : Nat → Nat) : Nat → List Nat
  | 0 => []
  | m + 1 => tl m :: hd m :: el tl hd m
section
variable {n : Nat} {tl hd ar fc : Nat → Nat}
theorem el_len : ∀ m, (el tl hd m).length = 2 * m := by
  intro m
  induction m with
  | zero => rfl
  | succ m ih => simp [el, ih]; omega
theorem el_mem : ∀ m e, e ∈ el tl hd m ↔ ∃ x, x < m ∧ (e = tl x ∨ e = hd x) := by
  intro m
  induction m with
  | zero => intro e; simp [el]
  | succ m ih =>
    intro e
    simp only [el, List.mem_cons, ih]
    constructor
    · rintro (h | h | ⟨x, hx, h⟩)
      · exact ⟨m, by omega, .inl h⟩
      · exact ⟨m, by omega, .inr h⟩
      · exact ⟨x, by omega, h⟩
    · rintro ⟨x, hx, h⟩
      by_cases c : x = m
      · subst c; rcases h with h | h
        · exact .inl h
        · exact .inr (.inl h)
      · exact .inr (.inr ⟨x, by omega, h⟩)
theorem el_nodup (h : Ends n tl hd ar) : ∀ m, m ≤ 2 * n → (el tl hd m).Nodup := by
  intro m
  induction m with
  | zero => intro _; simp [el]
  | succ m ih =>
    intro hm
    have no : ∀ e, e = tl m ∨ e = hd m → e ∉ el tl hd m := fun e he hme => by
      obtain ⟨x, hx, q⟩ := (el_mem m e).1 hme
      have h1 : ar e = m := he.elim (fun q => by rw [q]; exact h.ta m (by omega)) (fun q => by rw [q]; exact h.ha m (by omega))
      have h2 : ar e = x := q.elim (fun q => by rw [q]; exact h.ta x (by omega)) (fun q => by rw [q]; exact h.ha x (by omega))
      omega
    rw [el, List.nodup_cons, List.nodup_cons]
    refine ⟨fun q => ?_, no _ (.inr rfl), ih (by omega)⟩
    rcases List.mem_cons.1 q with q | q
    · exact h.ne m (by omega) q
    · exact no _ (.inl rfl) q
theorem el_perm (h : Ends n tl hd ar) : (el tl hd (2 * n)).Perm (List.range (4 * n)) := by
  refine perm_of _ _ (el_nodup h _ (Nat.le_refl _)) (fun e he => ?_) (by rw [el_len]; simp; omega)
  obtain ⟨x, hx, q⟩ := (el_mem _ e).1 he
  rcases q with rfl | rfl
  · exact List.mem_range.2 (h.tlt x hx)
  · exact List.mem_range.2 (h.hlt x hx)
theorem end_is (h : Ends n tl hd ar) {e : Nat} (he : e < 4 * n) : ∃ x, x < 2 * n ∧ (e = tl x ∨ e = hd x) :=
  (el_mem _ e).1 ((el_perm h).mem_iff.2 (List.mem_range.2 he))
def VC (n : Nat) (ar : Nat → Nat) (h : Nat → Bool) : Prop := ∀ v, v < n → xor (xor (h (ar (4 * v))) (h (ar (4 * v + 1)))) (xor (h (ar (4 * v + 2))) (h (ar (4 * v + 3)))) = false
theorem vtx {ψ : Nat → Bool} : ∀ m, (∀ v, v < m → xor (xor (ψ (4 * v)) (ψ (4 * v + 1))) (xor (ψ (4 * v + 2)) (ψ (4 * v + 3))) = false) → (List.range (4 * m)).countP ψ % 2 = 0 := by
  intro m
  induction m with
  | zero => intro _; rfl
  | succ m ih =>
    intro h
    have h1 := ih fun v hv => h v (by omega)
    have h2 := h m (by omega)
    rw [show 4 * (m + 1) = 4 * m + 1 + 1 + 1 + 1 by omega, List.range_succ, List.range_succ, List.range_succ, List.range_succ]
    simp only [List.countP_append, List.countP_singleton]
    rw [show 4 * m + 1 + 1 = 4 * m + 2 by omega, show 4 * m + 2 + 1 = 4 * m + 3 by omega]
    revert h2
    cases ψ (4 * m) <;> cases ψ (4 * m + 1) <;> cases ψ (4 * m + 2) <;> cases ψ (4 * m + 3) <;> simp <;> omega
theorem el_even {ψ : Nat → Bool} : ∀ m, (∀ x, x < m → ψ (tl x) = ψ (hd x)) → (el tl hd m).countP ψ % 2 = 0 := by
  intro m
  induction m with
  | zero => intro _; rfl
  | succ m ih =>
    intro h
    have h1 := ih fun v hv => h v (by omega)
    have h2 := h m (by omega)
    rw [el, List.countP_cons, List.countP_cons, h2]
    cases ψ (hd m) <;> simp <;> omega
theorem el_odd {ψ : Nat → Bool} {k : Nat} (hk : ψ (tl k) ≠ ψ (hd k)) : ∀ m, k < m → (∀ x, x < m → x ≠ k → ψ (tl x) = ψ (hd x)) → (el tl hd m).countP ψ % 2 = 1 := by
  intro m
  induction m with
  | zero => intro h; omega
  | succ m ih =>
    intro hm h
    rw [el, List.countP_cons, List.countP_cons]
    by_cases c : k = m
    · subst c
      have h1 := el_even (ψ := ψ) k fun x hx => h x (by omega) (by omega)
      revert hk
      cases ψ (tl k) <;> cases ψ (hd k) <;> simp <;> omega
    · have h1 := ih (by omega) fun x hx hx2 => h x (by omega) hx2
      have h2 := h m (by omega) (Ne.symm c)
      rw [h2]
      cases ψ (hd m) <;> simp <;> omega
def Eb (tl hd : Nat → Nat) (k a b : Nat) : Prop := ∃ x, x < k ∧ tl x / 4 = a ∧ hd x / 4 = b
theorem cut_zero (he : Ends n tl hd ar) {h : Nat → Bool} (hv : VC n ar h) {k : Nat} (hk : k < 2 * n) (hz : ∀ x, k < x → x < 2 * n → h x = false) {A : Nat → Bool} (hA : ∀ x, x < k → A (tl x / 4) = A (hd x / 4)) (hAk : A (tl k / 4) ≠ A (hd k / 4)) : h k = false := by
  cases c : h k with
  | false => rfl
  | true =>
    exfalso
    have h1 := vtx (ψ := fun e => A (e / 4) && h (ar e)) n (fun v hv' => by
      have := hv v hv'
      show xor (xor (A (4 * v / 4) && _) (A ((4 * v + 1) / 4) && _)) (xor (A ((4 * v + 2) / 4) && _) (A ((4 * v + 3) / 4) && _)) = false
      rw [show 4 * v / 4 = v by omega, show (4 * v + 1) / 4 = v by omega, show (4 * v + 2) / 4 = v by omega, show (4 * v + 3) / 4 = v by omega]
      cases A v
      · rfl
      · simpa using this)
    have h2 := el_odd (tl := tl) (hd := hd) (ψ := fun e => A (e / 4) && h (ar e)) (k := k) (by
      show ((A (tl k / 4) && h (ar (tl k))) ≠ (A (hd k / 4) && h (ar (hd k))))
      rw [he.ta k hk, he.ha k hk, c]; simpa using hAk) (2 * n) hk (fun x hx hne => by
      show (A (tl x / 4) && h (ar (tl x))) = (A (hd x / 4) && h (ar (hd x)))
      rw [he.ta x hx, he.ha x hx]
      rcases Nat.lt_or_ge x k with q | q
      · rw [hA x q]
      · rw [hz x (by omega) hx]; simp)
    rw [(el_perm he).countP_eq] at h2
    omega
theorem rk_cntg (n : Nat) : ∀ m, m ≤ n → rk (cntg n) m = m := by
  intro m
  induction m with
  | zero => intro _; rfl
  | succ m ih => intro h; rw [rk, ih (by omega), gt_cntg (by omega)]; simp
theorem rk_rel {u : List Int} {a b : Nat} (hb : b < a) (hu : gt u a = (a : Int)) (hub : gt u b = (b : Int)) : ∀ m, m ≤ u.length → rk (rel u a b) m + (if a < m then 1 else 0) = rk u m := by
  intro m
  induction m with
  | zero => intro _; simp [rk]
  | succ m ih =>
    intro h
    have ih := ih (by omega)
    rw [rk, rk, ← ih, gt_rel (by omega)]
    by_cases c : gt u m = (a : Int)
    · rw [if_pos c]
      have hbm : b ≠ m := fun e => by subst e; rw [hub] at c; omega
      rw [show (((b : Nat) : Int) == (m : Int)) = false from beq_eq_false_iff_ne.mpr (by omega), cond_false]
      by_cases d : a = m
      · subst d
        rw [c, beq_self_eq_true, cond_true, if_pos (show a < a + 1 by omega), if_neg (show ¬ a < a by omega)]
      · rw [c, show (((a : Nat) : Int) == (m : Int)) = false from beq_eq_false_iff_ne.mpr (by omega), cond_false]
        by_cases d2 : a < m
        · rw [if_pos d2, if_pos (by omega)]
        · rw [if_neg d2, if_neg (by omega)]
    · rw [if_neg c]
      have d : a ≠ m := fun e => by subst e; exact c hu
      by_cases d2 : a < m
      · rw [if_pos d2, if_pos (by omega)]; omega
      · rw [if_neg d2, if_neg (by omega)]; omega
theorem rel_same {u : List Int} {a : Int} : rel u a a = u := by
  unfold rel
  have e : (fun x => if x = a then a else x) = (id : Int → Int) := by
    funext x; split
    · rename_i h; exact h.symm
    · rfl
  rw [e, List.map_id]
theorem forest (he : Ends n tl hd ar) : ∀ k, k ≤ 2 * n → ∃ (s u : List Int) (nt : List Nat), UF s u n ∧ Cls u n (Eb tl hd k) ∧ nt.length + n = k + rk u n ∧
    ∀ h, VC n ar h → (∀ x, k ≤ x → x < 2 * n → h x = false) → (∀ x ∈ nt, h x = false) → ∀ x, x < 2 * n → h x = false := by
  intro k
  induction k with
  | zero =>
    intro _
    refine ⟨cntg n, cntg n, [], UF.start n, ?_, by rw [rk_cntg n n (Nat.le_refl n)]; simp, fun h _ h1 _ x hx => h1 x (by omega) hx⟩
    have e : Eb tl hd 0 = fun _ _ => False := by
      funext a b; exact propext ⟨fun ⟨x, hx, _⟩ => by omega, fun h => h.elim⟩
    rw [e]; exact Cls.start n
  | succ k ih =>
    intro hk
    obtain ⟨s, u, nt, h1, h2, h3, h4⟩ := ih (by omega)
    have hi : tl k / 4 < n := by have := he.tlt k (by omega); omega
    have hj : hd k / 4 < n := by have := he.hlt k (by omega); omega
    have hE : ∀ a b, Eb tl hd (k + 1) a b ↔ Eb tl hd k a b ∨ (a = tl k / 4 ∧ b = hd k / 4) := fun a b => by
      constructor
      · rintro ⟨x, hx, q1, q2⟩
        by_cases c : x = k
        · subst c; exact .inr ⟨q1.symm, q2.symm⟩
        · exact .inl ⟨x, by omega, q1, q2⟩
      · rintro (⟨x, hx, q⟩ | ⟨q1, q2⟩)
        · exact ⟨x, by omega, q⟩
        · exact ⟨k, by omega, q1.symm, q2.symm⟩
    by_cases c : gt u (tl k / 4) = gt u (hd k / 4)
    · refine ⟨s, u, k :: nt, h1, ?_, by simp; omega, fun h hv hz hn => h4 h hv (fun x q1 q2 => ?_) fun x hx => hn x (by simp [hx])⟩
      · have := h2.union h1.lt hi hj hE (.inl ⟨rfl, rfl⟩)
        rw [c, rel_same] at this; exact this
      · by_cases d : x = k
        · subst d; exact hn x (by simp)
        · exact hz x (by omega) q2
    · obtain ⟨a, e1, e2, e3⟩ := h1.low _ hi
      obtain ⟨b, f1, f2, f3⟩ := h1.low _ hj
      have hdet : ∀ h, VC n ar h → (∀ x, k + 1 ≤ x → x < 2 * n → h x = false) → (∀ x ∈ nt, h x = false) → ∀ x, x < 2 * n → h x = false := fun h hv hz hn => by
        have hk0 : h k = false := cut_zero he hv (by omega) (fun x q1 q2 => hz x q1 q2) (A := fun v => decide (gt u v = gt u (tl k / 4))) (fun x hx => by
          have hx1 : tl x / 4 < n := by have := he.tlt x (by omega); omega
          have hx2 : hd x / 4 < n := by have := he.hlt x (by omega); omega
          have := h2.sound _ _ ⟨x, hx, rfl, rfl⟩ hx1 hx2
          simp only [this]) (by
          simp only [decide_true]
          intro q
          exact c (of_decide_eq_true q.symm).symm)
        exact h4 h hv (fun x q1 q2 => by
          by_cases d : x = k
          · subst d; exact hk0
          · exact hz x (by omega) q2) hn
      rcases Nat.lt_trichotomy a b with q | q | q
      · refine ⟨_, _, nt, h1.union hi hj (.inr ⟨rfl, rfl⟩) (by rw [e1, f1]; omega), h2.union h1.lt hi hj hE (.inr ⟨rfl, rfl⟩), ?_, hdet⟩
        have := rk_rel (u := u) q f3 e3 n (by rw [h1.lt]; exact Nat.le_refl n)
        rw [if_pos (by omega)] at this
        rw [e1, f1]; omega
      · exfalso; subst q; exact c (e1.trans f1.symm)
      · refine ⟨_, _, nt, h1.union hi hj (.inl ⟨rfl, rfl⟩) (by rw [e1, f1]; omega), h2.union h1.lt hi hj hE (.inl ⟨rfl, rfl⟩), ?_, hdet⟩
        have := rk_rel (u := u) q e3 f3 n (by rw [h1.lt]; exact Nat.le_refl n)
        rw [if_pos (by omega)] at this
        rw [e1, f1]; omega
end
end Go.Proofs.Ytppbogklbhfboaa.AE
end
section
namespace Go.Proofs.Ytppbogklbhfboaa.AE
open Go Go.AE Go.Proofs
def rot (k : Nat) : Nat := 4 * (k / 4) + (k + 1) % 4
def rinv (k : Nat) : Nat := 4 * (k / 4) + (k + 3) % 4
theorem rinv_rot (k : Nat) : rinv (rot k) = k := by unfold rinv rot; omega
theorem rot_rinv (k : Nat) : rot (rinv k) = k := by unfold rinv rot; omega
theorem rot_lt {n k : Nat} (h : k < 4 * n) : rot k < 4 * n := by unfold rot; omega
theorem rinv_lt {n k : Nat} (h : k < 4 * n) : rinv k < 4 * n := by unfold rinv; omega
structure Faces (n N : Nat) (tl hd fc : Nat → Nat) : Prop where
  lt : ∀ k, k < 4 * n → fc k < N
  sur : ∀ j, j < N → ∃ k, k < 4 * n ∧ fc k = j
  at_tl : ∀ x, x < 2 * n → fc (rinv (tl x)) = fc (hd x)
  at_hd : ∀ x, x < 2 * n → fc (rinv (hd x)) = fc (tl x)
def roots (u : List Int) (n : Nat) : List Nat := (List.range n).filter fun c => gt u c == (c : Int)
theorem roots_len (u : List Int) : ∀ n, (roots u n).length = rk u n := by
  intro n
  induction n with
  | zero => rfl
  | succ n ih =>
    unfold roots at ih ⊢
    rw [List.range_succ, List.filter_append, List.length_append, ih, rk]
    congr 1
    by_cases c : gt u n = (n : Int)
    · simp [c]
    · rw [show (gt u n == (n : Int)) = false from beq_eq_false_iff_ne.mpr c]; simp [c]
theorem uf_same {n : Nat} {E : Nat → Nat → Prop} {s s' u u' : List Int} (h : UF s u n) (h' : UF s' u' n) (c : Cls u n E) (c' : Cls u' n E) (hE : ∀ a b, E a b → a < n ∧ b < n) : u = u' := by
  have key : ∀ {u u' : List Int}, Cls u n E → Cls u' n E → ∀ i j, i < n → j < n → gt u i = gt u j → gt u' i = gt u' j := fun {u u'} c c' i j hi hj e =>
    (((c.least (fun x => gt u' x = gt u' j) (fun a b q => by rw [c'.sound a b q (hE a b q).1 (hE a b q).2]) i j hi hj e).2 rfl))
  refine gext (by rw [h.lt, h'.lt]) fun i hi => ?_
  rw [h.lt] at hi
  obtain ⟨r, e1, e2, e3⟩ := h.low i hi
  obtain ⟨r', f1, f2, f3⟩ := h'.low i hi
  have k1 := key c c' i r hi (by omega) (e1.trans e3.symm)
  have k2 := key c' c i r' hi (by omega) (f1.trans f3.symm)
  obtain ⟨q, g1, g2, g3⟩ := h'.low r (by omega)
  obtain ⟨q', g1', g2', g3'⟩ := h.low r' (by omega)
  rw [f1, g1] at k1
  rw [e1, g1'] at k2
  rw [e1, f1]; omega
section
variable {n N : Nat} {tl hd ar fc : Nat → Nat}
def dif (tl hd fc : Nat → Nat) (g : Nat → Bool) (x : Nat) : Bool := xor (g (fc (hd x))) (g (fc (tl x)))
theorem dif_end (he : Ends n tl hd ar) (hf : Faces n N tl hd fc) (g : Nat → Bool) {e : Nat} (h : e < 4 * n) : dif tl hd fc g (ar e) = xor (g (fc (rinv e))) (g (fc e)) := by
  obtain ⟨x, hx, q⟩ := end_is he h
  unfold dif
  rcases q with rfl | rfl
  · rw [he.ta x hx, hf.at_tl x hx]
  · rw [he.ha x hx, hf.at_hd x hx]; cases g (fc (hd x)) <;> cases g (fc (tl x)) <;> rfl
theorem four {b0 b1 b2 b3 : Bool} (c : Bool) : xor (xor (xor c (xor b3 b0)) (xor c (xor b0 b1))) (xor (xor c (xor b1 b2)) (xor c (xor b2 b3))) = false := by
  cases b0 <;> cases b1 <;> cases b2 <;> cases b3 <;> cases c <;> rfl
theorem dif_vc (he : Ends n tl hd ar) (hf : Faces n N tl hd fc) (g : Nat → Bool) (c : Bool) : VC n ar fun x => xor c (dif tl hd fc g x) := by
  intro v hv
  show xor (xor (xor c (dif tl hd fc g (ar (4 * v)))) (xor c (dif tl hd fc g (ar (4 * v + 1))))) (xor (xor c (dif tl hd fc g (ar (4 * v + 2)))) (xor c (dif tl hd fc g (ar (4 * v + 3))))) = false
  rw [dif_end he hf g (by omega), dif_end he hf g (by omega), dif_end he hf g (by omega), dif_end he hf g (by omega),
    show rinv (4 * v) = 4 * v + 3 by unfold rinv; omega, show rinv (4 * v + 1) = 4 * v by unfold rinv; omega, show rinv (4 * v + 2) = 4 * v + 1 by unfold rinv; omega, show rinv (4 * v + 3) = 4 * v + 2 by unfold rinv; omega]
  exact four c
theorem dif_xor (g g' : Nat → Bool) (x : Nat) : dif tl hd fc (fun j => xor (g j) (g' j)) x = xor (dif tl hd fc g x) (dif tl hd fc g' x) := by
  unfold dif
  dsimp only
  cases g (fc (hd x)) <;> cases g (fc (tl x)) <;> cases g' (fc (hd x)) <;> cases g' (fc (tl x)) <;> rfl
theorem flat_zero (he : Ends n tl hd ar) (hf : Faces n N tl hd fc) {s u : List Int} (hu : UF s u n) (hc : Cls u n (Eb tl hd (2 * n))) {δ : Nat → Bool} (h0 : ∀ x, x < 2 * n → dif tl hd fc δ x = false) (hr : ∀ c ∈ roots u n, δ (fc (4 * c)) = false) : ∀ j, j < N → δ j = false := by
  have h1 : ∀ e, e < 4 * n → δ (fc (rinv e)) = δ (fc e) := fun e h => by
    obtain ⟨x, hx, q⟩ := end_is he h
    have e1 : ar e < 2 * n := by rcases q with rfl | rfl; · rw [he.ta x hx]; exact hx
                                 · rw [he.ha x hx]; exact hx
    have := h0 _ e1
    rw [dif_end he hf δ h] at this
    revert this; cases δ (fc (rinv e)) <;> cases δ (fc e) <;> simp
  have h2 : ∀ v, v < n → ∀ p, p < 4 → δ (fc (4 * v + p)) = δ (fc (4 * v)) := fun v hv p hp => by
    have a1 := h1 (4 * v + 1) (by omega)
    have a2 := h1 (4 * v + 2) (by omega)
    have a3 := h1 (4 * v + 3) (by omega)
    rw [show rinv (4 * v + 1) = 4 * v by unfold rinv; omega] at a1
    rw [show rinv (4 * v + 2) = 4 * v + 1 by unfold rinv; omega] at a2
    rw [show rinv (4 * v + 3) = 4 * v + 2 by unfold rinv; omega] at a3
    have : p = 0 ∨ p = 1 ∨ p = 2 ∨ p = 3 := by omega
    rcases this with rfl | rfl | rfl | rfl
    · rfl
    · exact a1.symm
    · exact a2.symm.trans a1.symm
    · exact a3.symm.trans (a2.symm.trans a1.symm)
  have h3 : ∀ k, k < 4 * n → δ (fc k) = δ (fc (4 * (k / 4))) := fun k hk => by
    have := h2 (k / 4) (by omega) (k % 4) (by omega)
    rwa [show 4 * (k / 4) + k % 4 = k by omega] at this
  have h4 : ∀ c, c < n → δ (fc (4 * c)) = false := fun c hcn => by
    obtain ⟨r, e1, e2, e3⟩ := hu.low c hcn
    have h5 := hc.least (fun c => δ (fc (4 * c)) = true) (fun a b q => by
      obtain ⟨x, hx, rfl, rfl⟩ := q
      rw [← h3 _ (he.tlt x hx), ← h3 _ (he.hlt x hx), ← hf.at_tl x hx, h1 _ (he.tlt x hx)]) c r hcn (by omega) (e1.trans e3.symm)
    have h6 := hr r (List.mem_filter.2 ⟨List.mem_range.2 (by omega), by simpa using e3⟩)
    cases q : δ (fc (4 * c)) with
    | false => rfl
    | true => rw [h5.1 q] at h6; cases h6
  intro j hj
  obtain ⟨k, hk, rfl⟩ := hf.sur j hj
  rw [h3 k hk]; exact h4 _ (by omega)
theorem checker (he : Ends n tl hd ar) (hf : Faces n N tl hd fc) {s u : List Int} (hu : UF s u n) (hc : Cls u n (Eb tl hd (2 * n))) (eu : N = n + 2 * rk u n) : ∃ f : Nat → Bool, ∀ k, k < 4 * n → f (fc (rot k)) = !(f (fc k)) := by
  obtain ⟨s', u', nt, h1, h2, h3, h4⟩ := forest he (2 * n) (Nat.le_refl _)
  have hE : ∀ a b, Eb tl hd (2 * n) a b → a < n ∧ b < n := fun a b ⟨x, hx, q1, q2⟩ => by
    have := he.tlt x hx
    have := he.hlt x hx
    omega
  obtain rfl := uf_same hu h1 hc h2 hE
  have hnt : nt.length = n + rk u n := by omega
  obtain ⟨g, hg, e⟩ := bsurj (m := N) (fun g => nt.map (dif tl hd fc (gt g)) ++ (roots u n).map (fun c => gt g (fc (4 * c)))) (fun g _ => by simp [roots_len]; omega) (fun g g' hg hg' e => by
    obtain ⟨e1, e2⟩ := List.append_inj e (by simp)
    rw [List.map_inj_left] at e1 e2
    have z := flat_zero he hf hu hc (δ := fun j => xor (gt g j) (gt g' j)) (fun x hx => by
      have := h4 (dif tl hd fc fun j => xor (gt g j) (gt g' j)) (by
        have := dif_vc he hf (fun j => xor (gt g j) (gt g' j)) false
        simpa using this) (fun x q1 q2 => by omega) (fun x hx => by rw [dif_xor, e1 x hx]; simp) x hx
      exact this) (fun c hc' => by show xor (gt g (fc (4 * c))) (gt g' (fc (4 * c))) = false; rw [e2 c hc']; simp)
    refine gext (by rw [hg, hg']) fun j hj => ?_
    have := z j (by omega)
    revert this; cases gt g j <;> cases gt g' j <;> simp) (y := nt.map (fun _ => true) ++ (roots u n).map (fun _ => false)) (by simp [roots_len]; omega)
  obtain ⟨e1, e2⟩ := List.append_inj e (by simp)
  rw [List.map_inj_left] at e1
  have key := h4 (fun x => xor true (dif tl hd fc (gt g) x)) (dif_vc he hf (gt g) true) (fun x q1 q2 => by omega) (fun x hx => by rw [e1 x hx]; rfl)
  refine ⟨gt g, fun k hk => ?_⟩
  obtain ⟨x, hx, q⟩ := end_is he (rot_lt hk)
  have e3 : ar (rot k) < 2 * n := by
    rcases q with q | q
    · rw [q, he.ta x hx]; exact hx
    · rw [q, he.ha x hx]; exact hx
  have := key _ e3
  rw [dif_end he hf (gt g) (rot_lt hk), rinv_rot] at this
  revert this
  cases gt g (fc k) <;> cases gt g (fc (rot k)) <;> simp
end
end Go.Proofs.Ytppbogklbhfboaa.AE
end
section
namespace Go.Proofs.Ytppbogklbhfboaa.AE
open Go Go.AE Go.Proofs
structure Asg (G : Nat → Int) (f : Nat → Nat) (S : Nat → Prop) (N : Nat) (out : List Int) : Prop where
  len : out.length = N
  hit : ∀ x, S x → f x < N → gt out (f x) = G (f x)
  miss : ∀ k, k < N → (∀ x, S x → f x ≠ k) → gt out k = 0
theorem Asg.start (G : Nat → Int) (f : Nat → Nat) (N : Nat) : Asg G f (fun _ => False) N (List.replicate N 0) :=
  ⟨by simp, fun x h => h.elim, fun k hk _ => grep hk⟩
theorem Asg.congr {G : Nat → Int} {f : Nat → Nat} {S S' : Nat → Prop} {N : Nat} {out : List Int} (h : Asg G f S N out) (e : ∀ x, S x ↔ S' x) : Asg G f S' N out := by
  rw [show S' = S from funext fun x => propext (e x).symm]; exact h
theorem Asg.step {G : Nat → Int} {f : Nat → Nat} {S : Nat → Prop} {N : Nat} {out : List Int} (h : Asg G f S N out) {x : Nat} (hx : f x < N) {v : Int} (hv : v = G (f x)) : Asg G f (fun y => S y ∨ y = x) N (out.set (f x) v) where
  len := by rw [List.length_set]; exact h.len
  hit := fun y hy hlt => by
    by_cases e : f x = f y
    · rw [← e, gset_eq (by rw [h.len]; exact hx)]; exact hv
    · rw [gset_ne e]
      rcases hy with q | q
      · exact h.hit y q hlt
      · exact absurd (by rw [q]) e
  miss := fun k hk hn => by
    rw [gset_ne (hn x (.inr rfl))]
    exact h.miss k hk (fun y hy => hn y (.inl hy))
theorem Asg.unique {G : Nat → Int} {f : Nat → Nat} {S S' : Nat → Prop} {N : Nat} {o1 o2 : List Int} (h1 : Asg G f S N o1) (h2 : Asg G f S' N o2) (e : ∀ x, S x ↔ S' x) : o1 = o2 := by
  have h2 := h2.congr (fun x => (e x).symm)
  refine gext (by rw [h1.len, h2.len]) fun k hk => ?_
  have hk : k < N := by rw [← h1.len]; exact hk
  by_cases c : ∃ x, S x ∧ f x = k
  · obtain ⟨x, a, rfl⟩ := c
    rw [h1.hit x a hk, h2.hit x a hk]
  · have : ∀ x, S x → f x ≠ k := fun x a b => c ⟨x, a, b⟩
    rw [h1.miss k hk this, h2.miss k hk this]
noncomputable def cix (R : List (List Int)) (a : Nat) : Nat := open Classical in if h : ∃ j, j < R.length ∧ (a : Int) ∈ gt R j then Classical.choose h else 0
section
variable {σ : Nat → Nat} {M : Nat} {R : List (List Int)} {done : List Bool}
theorem cix_spec (h : Part σ M R done) (hd : ∀ x, x < M → gt done x = true) {a : Nat} (ha : a < M) : cix R a < R.length ∧ (a : Int) ∈ gt R (cix R a) := by
  have q := (h.mem a ha).1 (hd a ha)
  unfold cix
  rw [dif_pos q]
  exact Classical.choose_spec q
theorem cix_eq (h : Part σ M R done) (hd : ∀ x, x < M → gt done x = true) {a j : Nat} (ha : a < M) (hj : j < R.length) (hm : (a : Int) ∈ gt R j) : cix R a = j := by
  obtain ⟨q1, q2⟩ := cix_spec h hd ha
  exact h.one a _ _ q1 hj q2 hm
theorem cix_suc (h : Part σ M R done) (hd : ∀ x, x < M → gt done x = true) (hlt : ∀ x, x < M → σ x < M) {a : Nat} (ha : a < M) : cix R (σ a) = cix R a := by
  obtain ⟨q1, q2⟩ := cix_spec h hd ha
  exact cix_eq h hd (hlt a ha) q1 (h.suc a _ ha q1 q2)
def Sj (R : List (List Int)) (j q : Nat) (a : Nat) : Prop := (∃ j', j' < j ∧ j' < R.length ∧ (a : Int) ∈ gt R j') ∨ (j < R.length ∧ ∃ q', q' < q ∧ q' < (gt R j).length ∧ gt (gt R j) q' = (a : Int))
theorem Sj_next (R : List (List Int)) {j q : Nat} (hj : j < R.length) (hq : (gt R j).length ≤ q) (a : Nat) : Sj R j q a ↔ Sj R (j + 1) 0 a := by
  constructor
  · rintro (⟨j', h1, h2, h3⟩ | ⟨h1, q', h2, h3, h4⟩)
    · exact .inl ⟨j', by omega, h2, h3⟩
    · exact .inl ⟨j, by omega, h1, by rw [← h4]; exact gmem h3⟩
  · rintro (⟨j', h1, h2, h3⟩ | ⟨h1, q', h2, _⟩)
    · by_cases e : j' = j
      · subst e
        obtain ⟨q', h4, h5⟩ := mem_gt h3
        exact .inr ⟨h2, q', by omega, h4, h5⟩
      · exact .inl ⟨j', by omega, h2, h3⟩
    · omega
theorem Sj_step (R : List (List Int)) {j q x : Nat} (hj : j < R.length) (hq : q < (gt R j).length) (hx : gt (gt R j) q = (x : Int)) (a : Nat) : (Sj R j q a ∨ a = x) ↔ Sj R j (q + 1) a := by
  constructor
  · rintro ((⟨j', h1, h2, h3⟩ | ⟨h1, q', h2, h3, h4⟩) | rfl)
    · exact .inl ⟨j', h1, h2, h3⟩
    · exact .inr ⟨h1, q', by omega, h3, h4⟩
    · exact .inr ⟨hj, q, by omega, hq, hx⟩
  · rintro (⟨j', h1, h2, h3⟩ | ⟨h1, q', h2, h3, h4⟩)
    · exact .inl (.inl ⟨j', h1, h2, h3⟩)
    · by_cases e : q' = q
      · subst e; right; rw [hx] at h4; omega
      · exact .inl (.inr ⟨h1, q', by omega, h3, h4⟩)
theorem Sj_all (h : Part σ M R done) (hd : ∀ x, x < M → gt done x = true) {j : Nat} (hj : R.length ≤ j) (a : Nat) : Sj R j 0 a ↔ a < M := by
  constructor
  · rintro (⟨j', h1, h2, h3⟩ | ⟨h1, q', h2, _⟩)
    · obtain ⟨x, h4, h5⟩ := h.elt j' h2 _ h3; omega
    · omega
  · intro ha
    obtain ⟨j', h1, h2⟩ := (h.mem a ha).1 (hd a ha)
    exact .inl ⟨j', by omega, h1, h2⟩
theorem Sj_none (R : List (List Int)) (a : Nat) : Sj R 0 0 a ↔ False := by
  constructor
  · rintro (⟨j', h1, _⟩ | ⟨_, q', h1, _⟩) <;> omega
  · exact False.elim
end
end Go.Proofs.Ytppbogklbhfboaa.AE
end
section
namespace Go.Proofs.Ytppbogklbhfboaa.AE
open Go Go.AE Go.Proofs
variable {F : Nat}
theorem icr_in {C : List Int → List (List Int) → Int → Int → Option (List Int)} {R : List (List Int)} {σ : Nat → Nat} {M : Nat} {done : List Bool} (h : Part σ M R done) (hd : ∀ x, x < M → gt done x = true) {n : Int} {j : Nat} (hj : j < R.length) (hjl : j ≤ 1000) (hlen : (gt R j).length ≤ 1000) : ∀ (d g q : Nat) (out : List Int), (gt R j).length - q = d → d < g → q ≤ (gt R j).length → Asg (fun a => (cix R a : Int)) id (Sj R j q) M out →
    ∃ out', av.pl1883 F C g out R n (j : Int) (j : Int) (gt R j) ((gt R j).length : Int) (q : Int) = C out' R n ((j + 1 : Nat) : Int) ∧ Asg (fun a => (cix R a : Int)) id (Sj R (j + 1) 0) M out' := by
  intro d
  induction d with
  | zero =>
    intro g q out hdd hg hq ha
    obtain ⟨g, rfl⟩ : ∃ g', g = g' + 1 := ⟨g - 1, by omega⟩
    refine ⟨out, ?_, ha.congr (Sj_next R hj (by omega))⟩
    rw [av.pl1883, dF (by omega), cond_false]
    unfold av.pj4 av.pj3
    rw [ws (by omega)]
  | succ d ih =>
    intro g q out hdd hg hq ha
    obtain ⟨g, rfl⟩ : ∃ g', g = g' + 1 := ⟨g - 1, by omega⟩
    have hql : q < (gt R j).length := by omega
    obtain ⟨x, hx, e⟩ := h.elt j hj _ (gmem hql)
    have hc : cix R x = j := cix_eq h hd hx hj (by rw [← e]; exact gmem hql)
    obtain ⟨out', q1, q2⟩ := ih g (q + 1) (out.set x (j : Int)) (by omega) (by omega) (by omega) ((ha.step (x := x) (v := (j : Int)) hx (by simp only [id]; rw [hc])).congr (Sj_step R hj hql e))
    refine ⟨out', ?_, q2⟩
    rw [av.pl1883, dT hql, cond_true, ixn hql, Option.bind_some, e, ixn (by rw [ha.len]; exact hx), Option.bind_some, Option.bind_some, ws (by omega)]
    exact q1
theorem icr_out {R : List (List Int)} {σ : Nat → Nat} {M : Nat} {done : List Bool} (h : Part σ M R done) (hd : ∀ x, x < M → gt done x = true) (hR : R.length ≤ 1000) (hlen : ∀ j, j < R.length → (gt R j).length ≤ 1000) (hF : 2000 < F) : ∀ (d g j : Nat) (out : List Int), R.length - j = d → d < g → j ≤ R.length → Asg (fun a => (cix R a : Int)) id (Sj R j 0) M out →
    ∃ out', av.pl29 F g out R (R.length : Int) (j : Int) = some out' ∧ Asg (fun a => (cix R a : Int)) id (fun a => a < M) M out' := by
  intro d
  induction d with
  | zero =>
    intro g j out hdd hg hj ha
    obtain ⟨g, rfl⟩ : ∃ g', g = g' + 1 := ⟨g - 1, by omega⟩
    refine ⟨out, by rw [av.pl29, dF (by omega), cond_false], ha.congr (Sj_all h hd (by omega))⟩
  | succ d ih =>
    intro g j out hdd hg hj ha
    obtain ⟨g, rfl⟩ : ∃ g', g = g' + 1 := ⟨g - 1, by omega⟩
    have hjl : j < R.length := by omega
    obtain ⟨o1, q1, q2⟩ := icr_in (F := F) (C := av.pl29 F g) (n := (R.length : Int)) h hd hjl (by omega) (hlen j hjl) (gt R j).length F 0 out (by omega) (by have := hlen j hjl; omega) (by omega) ha
    obtain ⟨o2, r1, r2⟩ := ih g (j + 1) o1 (by omega) (by omega) (by omega) q2
    refine ⟨o2, ?_, r2⟩
    rw [av.pl29, dT hjl, cond_true, ixn hjl, Option.bind_some]
    exact q1.trans r1
theorem scr_in {C : List Int → List (List Int) → Int → Option (List Int)} {R : List (List Int)} {σ : Nat → Nat} {M : Nat} {done : List Bool} (h : Part σ M R done) (hd : ∀ x, x < M → gt done x = true) {j : Nat} (hj : j < R.length) (hjl : j ≤ 1000) (hlen : (gt R j).length ≤ 1000) : ∀ (d g q : Nat) (out : List Int), (gt R j).length - q = d → d < g → q ≤ (gt R j).length → Asg (fun a => (cix R a : Int)) id (Sj R j q) M out →
    ∃ out', aw.pl981 F C g out R (j : Int) (q : Int) = C out' R ((j + 1 : Nat) : Int) ∧ Asg (fun a => (cix R a : Int)) id (Sj R (j + 1) 0) M out' := by
  intro d
  induction d with
  | zero =>
    intro g q out hdd hg hq ha
    obtain ⟨g, rfl⟩ : ∃ g', g = g' + 1 := ⟨g - 1, by omega⟩
    refine ⟨out, ?_, ha.congr (Sj_next R hj (by omega))⟩
    rw [aw.pl981, ixn hj, Option.bind_some, dF (by omega), cond_false]
    unfold aw.pj4 aw.pj3
    rw [ws (by omega)]
  | succ d ih =>
    intro g q out hdd hg hq ha
    obtain ⟨g, rfl⟩ : ∃ g', g = g' + 1 := ⟨g - 1, by omega⟩
    have hql : q < (gt R j).length := by omega
    obtain ⟨x, hx, e⟩ := h.elt j hj _ (gmem hql)
    have hc : cix R x = j := cix_eq h hd hx hj (by rw [← e]; exact gmem hql)
    obtain ⟨out', q1, q2⟩ := ih g (q + 1) (out.set x (j : Int)) (by omega) (by omega) (by omega) ((ha.step (x := x) (v := (j : Int)) hx (by simp only [id]; rw [hc])).congr (Sj_step R hj hql e))
    refine ⟨out', ?_, q2⟩
    rw [aw.pl981, ixn hj, Option.bind_some, dT hql, cond_true, Option.bind_some, ixn hql, Option.bind_some, e, ixn (by rw [ha.len]; exact hx), Option.bind_some, Option.bind_some, ws (by omega)]
    exact q1
theorem scr_out {R : List (List Int)} {σ : Nat → Nat} {M : Nat} {done : List Bool} (h : Part σ M R done) (hd : ∀ x, x < M → gt done x = true) (hR : R.length ≤ 1000) (hlen : ∀ j, j < R.length → (gt R j).length ≤ 1000) (hF : 2000 < F) : ∀ (d g j : Nat) (out : List Int), R.length - j = d → d < g → j ≤ R.length → Asg (fun a => (cix R a : Int)) id (Sj R j 0) M out →
    ∃ out', aw.pl61 F g out R (j : Int) = some out' ∧ Asg (fun a => (cix R a : Int)) id (fun a => a < M) M out' := by
  intro d
  induction d with
  | zero =>
    intro g j out hdd hg hj ha
    obtain ⟨g, rfl⟩ : ∃ g', g = g' + 1 := ⟨g - 1, by omega⟩
    refine ⟨out, by rw [aw.pl61, dF (by omega), cond_false], ha.congr (Sj_all h hd (by omega))⟩
  | succ d ih =>
    intro g j out hdd hg hj ha
    obtain ⟨g, rfl⟩ : ∃ g', g = g' + 1 := ⟨g - 1, by omega⟩
    have hjl : j < R.length := by omega
    obtain ⟨o1, q1, q2⟩ := scr_in (F := F) (C := aw.pl61 F g) h hd hjl (by omega) (hlen j hjl) (gt R j).length F 0 out (by omega) (by have := hlen j hjl; omega) (by omega) ha
    obtain ⟨o2, r1, r2⟩ := ih g (j + 1) o1 (by omega) (by omega) (by omega) q2
    refine ⟨o2, ?_, r2⟩
    rw [aw.pl61, dT hjl, cond_true]
    exact q1.trans r1
theorem crs_both {D : List Cr} {c : Int} {t : Tb} {R : List (List Int)} {s u : List Int} (h : DG F D c t R s u) (hF : 2000 < F) : ∃ reg : List Int, reg.length = 4 * D.length ∧ (∀ k, k < 4 * D.length → gt reg k = (cix R k : Int)) ∧ aw.p F D = some reg ∧ av.p F D t.1 t.2 = some reg := by
  have hl := h.len
  obtain ⟨done, hp, hd⟩ := h.rg.part
  have hR := h.rg.le
  have hlen : ∀ j, j < R.length → (gt R j).length ≤ 1000 := fun j hj => by have := hp.sz j hj; omega
  have e4 : IntKind.i64.wrap (4 * (D.length : Int)) = ((4 * D.length : Nat) : Int) := by rw [w64_in (by omega) (by omega)]; omega
  obtain ⟨o, q1, q2⟩ := icr_out (F := F) hp hd (by omega) hlen hF R.length F 0 (List.replicate (4 * D.length) 0) (by omega) (by omega) (by omega) ((Asg.start _ _ _).congr fun a => (Sj_none R a).symm)
  obtain ⟨o', r1, r2⟩ := scr_out (F := F) hp hd (by omega) hlen hF R.length F 0 (List.replicate (4 * D.length) 0) (by omega) (by omega) (by omega) ((Asg.start _ _ _).congr fun a => (Sj_none R a).symm)
  obtain rfl := q2.unique r2 (fun x => Iff.rfl)
  refine ⟨o, q2.len, fun a ha => q2.hit a ha ha, ?_, ?_⟩
  · unfold aw.p
    rw [e4, mkn_of (by omega), Option.bind_some, h.sR, Option.bind_some]; exact r1
  · unfold av.p
    rw [e4, mkn_of (by omega), Option.bind_some, h.iR, Option.bind_some]; exact q1
end Go.Proofs.Ytppbogklbhfboaa.AE
end
section
namespace Go.Proofs.Ytppbogklbhfboaa.AE
open Go Go.AE Go.Proofs
variable {F : Nat}
structure Chk (n N : Nat) (fc : Nat → Nat) (u : List Int) (g : Nat → Bool) : Prop where
  lt : ∀ k, k < 4 * n → fc k < N
  flip : ∀ k, k < 4 * n → g (fc (rot k)) = !(g (fc k))
  root : ∀ r : Nat, r < n → gt u r = (r : Int) → g (fc (4 * r)) = false
  all : ∀ S : Nat → Prop, (∀ k, k < 4 * n → S (fc k) → S (fc (rot k))) → (∀ r : Nat, r < n → gt u r = (r : Int) → S (fc (4 * r))) → ∀ j, j < N → S j
theorem rot4 (k : Nat) : rot (rot (rot (rot k))) = k := by unfold rot; omega
theorem chk_of {n N : Nat} {tl hd ar fc : Nat → Nat} (he : Ends n tl hd ar) (hf : Faces n N tl hd fc) {s u : List Int} (hu : UF s u n) (hc : Cls u n (Eb tl hd (2 * n))) (eu : N = n + 2 * rk u n)
    (hcon : ∀ k k', k < 4 * n → k' < 4 * n → fc k = fc k' → ∀ S : Nat → Prop, (∀ x, x < 2 * n → (S (rinv (tl x)) ↔ S (hd x)) ∧ (S (rinv (hd x)) ↔ S (tl x))) → (S k ↔ S k')) : ∃ g, Chk n N fc u g := by
  obtain ⟨f, hfl⟩ := checker he hf hu hc eu
  have d4 : ∀ k, rinv k / 4 = k / 4 := fun k => by unfold rinv; omega
  have r4 : ∀ k, rot k / 4 = k / 4 := fun k => by unfold rot; omega
  have harc : ∀ x, x < 2 * n → gt u (tl x / 4) = gt u (hd x / 4) := fun x hx => hc.sound _ _ ⟨x, hx, rfl, rfl⟩ (by have := he.tlt x hx; omega) (by have := he.hlt x hx; omega)
  have hcl : ∀ k k', k < 4 * n → k' < 4 * n → fc k = fc k' → gt u (k / 4) = gt u (k' / 4) := fun k k' hk hk' e => by
    have := hcon k k' hk hk' e (fun z => gt u (z / 4) = gt u (k' / 4)) (fun x hx => by
      have h := harc x hx
      simp only [d4]
      rw [h]; exact ⟨Iff.rfl, Iff.rfl⟩)
    exact this.2 rfl
  have hk : ∀ j, ∃ k, j < N → (k < 4 * n ∧ fc k = j) := fun j => by
    by_cases h : j < N
    · obtain ⟨k, q⟩ := hf.sur j h; exact ⟨k, fun _ => q⟩
    · exact ⟨0, fun q => absurd q h⟩
  obtain ⟨kc, hkc⟩ := Classical.axiomOfChoice hk
  let b : Nat → Bool := fun k => f (fc (4 * (gt u (k / 4)).toNat))
  have hb : ∀ k, k < 4 * n → b (kc (fc k)) = b k := fun k hk => by
    obtain ⟨h1, h2⟩ := hkc (fc k) (hf.lt k hk)
    show f (fc (4 * (gt u (kc (fc k) / 4)).toNat)) = f (fc (4 * (gt u (k / 4)).toNat))
    rw [hcl _ _ h1 hk h2]
  refine ⟨fun j => xor (f j) (b (kc j)), hf.lt, fun k hk => ?_, fun r hr hr2 => ?_, fun S hS hR => ?_⟩
  · show xor (f (fc (rot k))) (b (kc (fc (rot k)))) = !(xor (f (fc k)) (b (kc (fc k))))
    rw [hb _ (rot_lt hk), hb k hk, hfl k hk, show b (rot k) = b k by show f (fc (4 * (gt u (rot k / 4)).toNat)) = _; rw [r4]]
    cases f (fc k) <;> cases b k <;> rfl
  · show xor (f (fc (4 * r))) (b (kc (fc (4 * r)))) = false
    rw [hb _ (by omega), show b (4 * r) = f (fc (4 * r)) by show f (fc (4 * (gt u (4 * r / 4)).toNat)) = _; rw [show 4 * r / 4 = r by omega, hr2]; rfl]
    cases f (fc (4 * r)) <;> rfl
  · have h1 : ∀ k, k < 4 * n → (S (fc (rot k)) ↔ S (fc k)) := fun k hk => ⟨fun h => by
      have h2 := hS _ (rot_lt hk) h
      have h3 := hS _ (rot_lt (rot_lt hk)) h2
      have h4 := hS _ (rot_lt (rot_lt (rot_lt hk))) h3
      rwa [rot4] at h4, hS k hk⟩
    have h2 : ∀ v, v < n → ∀ p, p < 4 → (S (fc (4 * v + p)) ↔ S (fc (4 * v))) := fun v hv p hp => by
      have a0 := h1 (4 * v) (by omega)
      have a1 := h1 (4 * v + 1) (by omega)
      have a2 := h1 (4 * v + 2) (by omega)
      rw [show rot (4 * v) = 4 * v + 1 by unfold rot; omega] at a0
      rw [show rot (4 * v + 1) = 4 * v + 2 by unfold rot; omega] at a1
      rw [show rot (4 * v + 2) = 4 * v + 3 by unfold rot; omega] at a2
      have : p = 0 ∨ p = 1 ∨ p = 2 ∨ p = 3 := by omega
      rcases this with rfl | rfl | rfl | rfl
      · exact Iff.rfl
      · exact a0
      · exact a1.trans a0
      · exact a2.trans (a1.trans a0)
    have h3 : ∀ k, k < 4 * n → (S (fc k) ↔ S (fc (4 * (k / 4)))) := fun k hk => by
      have := h2 (k / 4) (by omega) (k % 4) (by omega)
      rwa [show 4 * (k / 4) + k % 4 = k by omega] at this
    have h4 : ∀ c, c < n → S (fc (4 * c)) := fun c hcn => by
      obtain ⟨r, e1, e2, e3⟩ := hu.low c hcn
      refine (hc.least (fun c => S (fc (4 * c))) (fun a b q => ?_) c r hcn (by omega) (e1.trans e3.symm)).2 (hR r (by omega) e3)
      obtain ⟨x, hx, rfl, rfl⟩ := q
      have ht := he.tlt x hx
      have := h1 (rinv (tl x)) (rinv_lt ht)
      rw [rot_rinv, hf.at_tl x hx] at this
      exact (h3 _ ht).symm.trans (this.trans (h3 _ (he.hlt x hx)))
    intro j hj
    obtain ⟨k, hk, rfl⟩ := hf.sur j hj
    exact (h3 k hk).2 (h4 _ (by omega))
def ptl (t : Tb) (x : Nat) : Nat := 4 * (gt t.1 x).1.toNat + (gt t.1 x).2.toNat
def phd (t : Tb) (x : Nat) : Nat := 4 * (gt t.2 x).1.toNat + (gt t.2 x).2.toNat
def par (D : List Cr) (e : Nat) : Nat := (en (gt D (e / 4)) (e % 4)).toNat
theorem tl_is {D : List Cr} {t : Tb} (h : TB D t) {x : Nat} (hx : x < 2 * D.length) : ∃ i p : Nat, i < D.length ∧ p < 4 ∧ ent (gt D i) p = false ∧ en (gt D i) p = (x : Int) ∧ gt t.1 x = ((i : Int), (p : Int)) ∧ ptl t x = 4 * i + p := by
  obtain ⟨i, p, h1, h2, h3, h4, h5⟩ := h.fr.get x hx
  exact ⟨i, p, h1, h2, h3, h4, h5, by unfold ptl; rw [h5]; rfl⟩
theorem hd_is {D : List Cr} {t : Tb} (h : TB D t) {x : Nat} (hx : x < 2 * D.length) : ∃ i p : Nat, i < D.length ∧ p < 4 ∧ ent (gt D i) p = true ∧ en (gt D i) p = (x : Int) ∧ gt t.2 x = ((i : Int), (p : Int)) ∧ phd t x = 4 * i + p := by
  obtain ⟨i, p, h1, h2, h3, h4, h5⟩ := h.to_.get x hx
  exact ⟨i, p, h1, h2, h3, h4, h5, by unfold phd; rw [h5]; rfl⟩
theorem ends_of {D : List Cr} {t : Tb} (h : TB D t) : Ends D.length (ptl t) (phd t) (par D) where
  tlt := fun x hx => by obtain ⟨i, p, h1, h2, _, _, _, e⟩ := tl_is h hx; omega
  hlt := fun x hx => by obtain ⟨i, p, h1, h2, _, _, _, e⟩ := hd_is h hx; omega
  ta := fun x hx => by
    obtain ⟨i, p, h1, h2, _, h4, _, e⟩ := tl_is h hx
    unfold par; rw [e, show (4 * i + p) / 4 = i by omega, show (4 * i + p) % 4 = p by omega, h4]; rfl
  ha := fun x hx => by
    obtain ⟨i, p, h1, h2, _, h4, _, e⟩ := hd_is h hx
    unfold par; rw [e, show (4 * i + p) / 4 = i by omega, show (4 * i + p) % 4 = p by omega, h4]; rfl
  ne := fun x hx => by
    obtain ⟨i, p, h1, h2, h3, _, _, e⟩ := tl_is h hx
    obtain ⟨i', p', g1, g2, g3, _, _, e'⟩ := hd_is h hx
    intro q
    rw [e, e'] at q
    obtain ⟨rfl, rfl⟩ : i = i' ∧ p = p' := by omega
    rw [h3] at g3; cases g3
theorem suc_tl {D : List Cr} {t : Tb} (h : TB D t) {x : Nat} (hx : x < 2 * D.length) : suc D t (rinv (ptl t x)) = phd t x := by
  obtain ⟨i, p, h1, h2, h3, h4, _, e⟩ := tl_is h hx
  rw [e]; unfold suc
  rw [show rinv (4 * i + p) / 4 = i by unfold rinv; omega, show (rinv (4 * i + p) + 1) % 4 = p by unfold rinv; omega]
  unfold oth
  rw [h3, cond_false, h4]; rfl
theorem suc_hd {D : List Cr} {t : Tb} (h : TB D t) {x : Nat} (hx : x < 2 * D.length) : suc D t (rinv (phd t x)) = ptl t x := by
  obtain ⟨i, p, h1, h2, h3, h4, _, e⟩ := hd_is h hx
  rw [e]; unfold suc
  rw [show rinv (4 * i + p) / 4 = i by unfold rinv; omega, show (rinv (4 * i + p) + 1) % 4 = p by unfold rinv; omega]
  unfold oth
  rw [h3, cond_true, h4]; rfl
theorem dg_chk {D : List Cr} {c : Int} {t : Tb} {R : List (List Int)} {s u : List Int} (h : DG F D c t R s u) : ∃ g, Chk D.length R.length (cix R) u g := by
  obtain ⟨done, hp, hd⟩ := h.rg.part
  have he := ends_of h.tb
  have hsl : ∀ x, x < 4 * D.length → suc D t x < 4 * D.length := fun x hx => suc_lt h.tb hx
  have hf : Faces D.length R.length (ptl t) (phd t) (cix R) := ⟨fun k hk => (cix_spec hp hd hk).1, fun j hj => by
      obtain ⟨z, l, e⟩ := List.exists_cons_of_ne_nil (hp.ne j hj)
      have hz : z ∈ gt R j := by rw [e]; simp
      obtain ⟨x, hx, rfl⟩ := hp.elt j hj z hz
      exact ⟨x, hx, cix_eq hp hd hx hj hz⟩,
    fun x hx => by rw [← suc_tl h.tb hx, cix_suc hp hd hsl (rinv_lt (he.tlt x hx))],
    fun x hx => by rw [← suc_hd h.tb hx, cix_suc hp hd hsl (rinv_lt (he.hlt x hx))]⟩
  have hE : Ep t (2 * D.length) = Eb (ptl t) (phd t) (2 * D.length) := by
    funext a b
    refine propext ⟨fun ⟨x, hx, q1, q2⟩ => ⟨x, hx, ?_, ?_⟩, fun ⟨x, hx, q1, q2⟩ => ⟨x, hx, ?_, ?_⟩⟩
    · obtain ⟨i, p, _, h2, _, _, e0, e⟩ := tl_is h.tb hx
      rw [e0] at q1; simp only at q1; omega
    · obtain ⟨i, p, _, h2, _, _, e0, e⟩ := hd_is h.tb hx
      rw [e0] at q2; simp only at q2; omega
    · obtain ⟨i, p, _, h2, _, _, e0, e⟩ := tl_is h.tb hx
      rw [e0]; simp only; omega
    · obtain ⟨i, p, _, h2, _, _, e0, e⟩ := hd_is h.tb hx
      rw [e0]; simp only; omega
  have hc := h.cls
  rw [hE] at hc
  refine chk_of he hf h.uf hc h.euler fun k k' hk hk' e S hS => ?_
  obtain ⟨a1, a2⟩ := cix_spec hp hd hk
  obtain ⟨b1, b2⟩ := cix_spec hp hd hk'
  rw [← e] at b2
  refine hp.con k k' _ a1 a2 b2 S fun z hz => ?_
  obtain ⟨x, hx, q⟩ := end_is he (rot_lt hz)
  rcases q with q | q
  · have := (hS x hx).1
    rw [← suc_tl h.tb hx, ← q, rinv_rot] at this
    exact this
  · have := (hS x hx).2
    rw [← suc_hd h.tb hx, ← q, rinv_rot] at this
    exact this
end Go.Proofs.Ytppbogklbhfboaa.AE
end
section
namespace Go.Proofs.Ytppbogklbhfboaa.AE
open Go Go.AE Go.Proofs
variable {F : Nat}
def ci (b : Bool) : Int := bif b then 1 else 0
theorem ci_not (b : Bool) : 1 - ci b = ci (!b) := by cases b <;> rfl
theorem ci_01 (b : Bool) : 0 ≤ ci b ∧ ci b ≤ 1 := by cases b <;> decide
def full (N : Nat) (g : Nat → Bool) : List Int := (List.range N).map fun j => ci (g j)
theorem full_len {N : Nat} {g : Nat → Bool} : (full N g).length = N := by simp [full]
theorem gt_full {N : Nat} {g : Nat → Bool} {j : Nat} (h : j < N) : gt (full N g) j = ci (g j) := by
  have := gt_get (l := full N g) (n := j) (by rw [full_len]; exact h)
  unfold full at this ⊢
  rw [List.getElem?_map, List.getElem?_range h] at this
  exact (Option.some.inj this).symm
def Okc (N : Nat) (g : Nat → Bool) (out : List Int) : Prop := out.length = N ∧ ∀ j, j < N → gt out j = -1 ∨ gt out j = ci (g j)
def unc (out : List Int) : Nat := out.countP fun v => decide (v < 0)
theorem set_gt_same {l : List Int} {j : Nat} {v : Int} (h : gt l j = v) : l.set j v = l := by
  refine gext (by simp) fun i hi => ?_
  by_cases e : j = i
  · subst e; rw [gset_eq (by simpa using hi), h]
  · rw [gset_ne e]
section
variable {N : Nat} {g : Nat → Bool} {out : List Int}
theorem Okc.val (h : Okc N g out) {j : Nat} (hj : j < N) (h0 : 0 ≤ gt out j) : gt out j = ci (g j) := (h.2 j hj).resolve_left (by omega)
theorem Okc.rng (h : Okc N g out) {j : Nat} (hj : j < N) : -1 ≤ gt out j ∧ gt out j ≤ 1 := by
  have := ci_01 (g j)
  rcases h.2 j hj with e | e <;> omega
theorem Okc.put (h : Okc N g out) {j : Nat} (hj : j < N) {v : Int} (hv : v = ci (g j)) : Okc N g (out.set j v) ∧ (∀ i, 0 ≤ gt out i → 0 ≤ gt (out.set j v) i) ∧ 0 ≤ gt (out.set j v) j := by
  have hl := h.1
  have := ci_01 (g j)
  have hs : gt (out.set j v) j = v := gset_eq (by omega)
  refine ⟨⟨by simp [hl], fun i hi => ?_⟩, fun i hi => ?_, by omega⟩
  · by_cases e : j = i
    · subst e; rw [hs]; exact .inr hv
    · rw [gset_ne e]; exact h.2 i hi
  · by_cases e : j = i
    · subst e; rw [hs]; omega
    · rw [gset_ne e]; exact hi
theorem unc_put (h : Okc N g out) {j : Nat} (hj : j < N) (hn : gt out j < 0) {v : Int} (hv : v = ci (g j)) : unc (out.set j v) + 1 = unc out := by
  have hjl : j < out.length := by rw [h.1]; exact hj
  have := ci_01 (g j)
  unfold unc
  rw [List.countP_set hjl, gt_eq hjl, decide_eq_true hn, decide_eq_false (show ¬ v < 0 by omega)]
  have : 0 < out.countP (fun v => decide (v < 0)) := List.countP_pos_iff.2 ⟨gt out j, gmem hjl, decide_eq_true hn⟩
  simp; omega
theorem unc_le (h : Okc N g out) : unc out ≤ N := by rw [← h.1]; exact List.countP_le_length
theorem unc_zero (h : Okc N g out) (hz : unc out = 0) {j : Nat} (hj : j < N) : 0 ≤ gt out j := by
  unfold unc at hz
  rw [List.countP_eq_zero] at hz
  have := hz _ (gmem (show j < out.length by rw [h.1]; exact hj))
  simp at this; exact this
theorem Okc.fin (h : Okc N g out) (ha : ∀ j, j < N → 0 ≤ gt out j) : out = full N g := by
  refine gext (by rw [h.1, full_len]) fun j hj => ?_
  rw [h.1] at hj
  rw [gt_full hj, h.val hj (ha j hj)]
theorem zero_unc (ha : ∀ j, j < out.length → 0 ≤ gt out j) : unc out = 0 := by
  unfold unc
  rw [List.countP_eq_zero]
  intro a hm
  obtain ⟨n, hn, rfl⟩ := mem_gt hm
  have := ha n hn
  simp; exact this
end
structure Ps (n N : Nat) (fc : Nat → Nat) (g : Nat → Bool) (k : Nat) (out out' : List Int) : Prop where
  ok : Okc N g out'
  mono : ∀ i, 0 ≤ gt out i → 0 ≤ gt out' i
  res : unc out' < unc out ∨ (out' = out ∧ ∀ k', k ≤ k' → k' < 4 * n → 0 ≤ gt out (fc k') → 0 ≤ gt out (fc (rot k')))
section
variable {n N : Nat} {fc : Nat → Nat} {g : Nat → Bool} {u reg : List Int}
theorem Ps.le {k : Nat} {out out' : List Int} (h : Ps n N fc g k out out') : unc out' ≤ unc out := by
  rcases h.res with q | ⟨q, _⟩
  · omega
  · rw [q]; exact Nat.le_refl _
theorem Ps.skip {k : Nat} {out out' : List Int} (h : Ps n N fc g (k + 1) out out') (hk : 0 ≤ gt out (fc k) → 0 ≤ gt out (fc (rot k))) : Ps n N fc g k out out' := by
  refine ⟨h.ok, h.mono, h.res.imp id fun ⟨q1, q2⟩ => ⟨q1, fun k' a b => ?_⟩⟩
  by_cases e : k' = k
  · subst e; exact hk
  · exact q2 k' (by omega) b
theorem Ps.put {k j : Nat} {v : Int} {out out' : List Int} (ho : Okc N g out) (hj : j < N) (hn : gt out j < 0) (hv : v = ci (g j)) (h : Ps n N fc g (k + 1) (out.set j v) out') : Ps n N fc g k out out' := by
  have h1 := unc_put ho hj hn hv
  have h2 := h.le
  exact ⟨h.ok, fun i hi => h.mono i ((ho.put hj hv).2.1 i hi), .inl (by omega)⟩
def Rts (n : Nat) (fc : Nat → Nat) (u out : List Int) (c : Nat) : Prop := ∀ r : Nat, r < c → r < n → gt u r = (r : Int) → 0 ≤ gt out (fc (4 * r))
theorem Chk.closed (hc : Chk n N fc u g) {out : List Int} (hr : Rts n fc u out n) (h : ∀ k, k < 4 * n → 0 ≤ gt out (fc k) → 0 ≤ gt out (fc (rot k))) : ∀ j, j < N → 0 ≤ gt out j :=
  hc.all (fun j => 0 ≤ gt out j) h fun r hr1 hr2 => hr r hr1 hr1 hr2
structure Rgl (n : Nat) (fc : Nat → Nat) (reg : List Int) : Prop where
  len : reg.length = 4 * n
  at_ : ∀ k, k < 4 * n → gt reg k = (fc k : Int)
theorem i_pass {C : List Int → List Int → Int → Int → Option (List Int)} (hc : Chk n N fc u g) (hg : Rgl n fc reg) (hn : n ≤ 100) {b : Nat} (hb : b ≤ 1000) {A : Int} : ∀ (d gg k : Nat) (out : List Int), 4 * n - k = d → d < gg → k ≤ 4 * n → Okc N g out →
    ∃ out', aj.pl16301 F C gg reg out A (b : Int) ((4 * n : Nat) : Int) (k : Int) = C reg out' A ((b + 1 : Nat) : Int) ∧ Ps n N fc g k out out' := by
  intro d
  induction d with
  | zero =>
    intro gg k out hd hgg hk ho
    obtain ⟨gg, rfl⟩ : ∃ g', gg = g' + 1 := ⟨gg - 1, by omega⟩
    refine ⟨out, ?_, ho, fun i hi => hi, .inr ⟨rfl, fun k' q1 q2 => by omega⟩⟩
    rw [aj.pl16301, dF (by omega), cond_false]
    unfold aj.pj8 aj.pj7
    rw [ws (by omega)]
  | succ d ih =>
    intro gg k out hd hgg hk ho
    obtain ⟨gg, rfl⟩ : ∃ g', gg = g' + 1 := ⟨gg - 1, by omega⟩
    have hk' : k < 4 * n := by omega
    have hf := hc.lt k hk'
    have hfr := hc.lt _ (rot_lt hk')
    have er : IntKind.i64.wrap ((IntKind.i64.wrap ((k : Int) - Int.tmod (k : Int) 4)) + Int.tmod (((k + 1 : Nat) : Int)) 4) = ((rot k : Nat) : Int) := by
      rw [tmod4, tmod4, w64_in (x := (k : Int) - ((k % 4 : Nat) : Int)) (by omega) (by omega), w64_in (by omega) (by omega)]; unfold rot; omega
    rw [aj.pl16301, dT hk', cond_true, ixn (by rw [hg.len]; exact hk'), Option.bind_some, hg.at_ k hk', ixn (by rw [ho.1]; exact hf), Option.bind_some, ws (i := k) (by omega), er]
    have hnext : ∀ o1 : List Int, aj.pj9 F (aj.pl16301 F C gg) reg o1 A (b : Int) ((4 * n : Nat) : Int) (k : Int) = aj.pl16301 F C gg reg o1 A (b : Int) ((4 * n : Nat) : Int) ((k + 1 : Nat) : Int) := fun o1 => by
      unfold aj.pj9; rw [ws (by omega)]
    by_cases c : 0 ≤ gt out (fc k)
    · have hv : 1 - gt out (fc k) = ci (g (fc (rot k))) := by rw [ho.val hf c, ci_not, hc.flip k hk']
      have := ho.rng hf
      rw [decide_eq_true (show gt out (fc k) ≥ 0 from c), cond_true, ixn (by rw [hg.len]; exact rot_lt hk'), Option.bind_some, hg.at_ _ (rot_lt hk'), ixn (by rw [ho.1]; exact hfr), Option.bind_some, Option.bind_some, w64_in (by omega) (by omega), hnext]
      obtain ⟨p1, _, _⟩ := ho.put hfr hv
      obtain ⟨out', q1, q2⟩ := ih gg (k + 1) _ (by omega) (by omega) (by omega) p1
      refine ⟨out', q1, ?_⟩
      by_cases c2 : 0 ≤ gt out (fc (rot k))
      · rw [set_gt_same ((ho.val hfr c2).trans hv.symm)] at q2
        exact q2.skip fun _ => c2
      · exact Ps.put ho hfr (by omega) hv q2
    · rw [decide_eq_false (show ¬ gt out (fc k) ≥ 0 from c), cond_false, hnext]
      obtain ⟨out', q1, q2⟩ := ih gg (k + 1) out (by omega) (by omega) (by omega) ho
      exact ⟨out', q1, q2.skip fun q => absurd q c⟩
theorem i_rounds (hc : Chk n N fc u g) (hg : Rgl n fc reg) (hn : n ≤ 100) (hN : N ≤ 400) (hF : 2000 < F) : ∀ (d gg b : Nat) (out : List Int), N - b = d → d < gg → b ≤ N → Okc N g out → Rts n fc u out n → unc out ≤ N - b →
    aj.pl509 F gg reg out (N : Int) (b : Int) = some (full N g) := by
  intro d
  induction d with
  | zero =>
    intro gg b out hd hgg hb ho hr hu
    obtain ⟨gg, rfl⟩ : ∃ g', gg = g' + 1 := ⟨gg - 1, by omega⟩
    rw [aj.pl509, dF (by omega), cond_false, ho.fin fun j hj => unc_zero ho (by omega) hj]
  | succ d ih =>
    intro gg b out hd hgg hb ho hr hu
    obtain ⟨gg, rfl⟩ : ∃ g', gg = g' + 1 := ⟨gg - 1, by omega⟩
    rw [aj.pl509, dT (by omega), cond_true, show (reg.length : Int) = ((4 * n : Nat) : Int) by rw [hg.len]]
    obtain ⟨out', q1, q2⟩ := i_pass (F := F) (C := aj.pl509 F gg) (A := (N : Int)) (b := b) hc hg hn (by omega) (4 * n) F 0 out (by omega) (by omega) (by omega) ho
    rw [show ((0 : Nat) : Int) = 0 from rfl] at q1
    rw [q1]
    refine ih gg (b + 1) out' (by omega) (by omega) (by omega) q2.ok (fun r h1 h2 h3 => q2.mono _ (hr r h1 h2 h3)) ?_
    rcases q2.res with q | ⟨e, q⟩
    · omega
    · have := zero_unc (out := out) (by rw [ho.1]; exact hc.closed hr fun k hk => q k (by omega) hk)
      rw [e]; omega
theorem i_start (hc : Chk n N fc u g) (hg : Rgl n fc reg) (hn : n ≤ 100) (hN : N ≤ 400) (hF : 2000 < F) {s : List Int} (hu : UF s u n) : ∀ (d gg c : Nat) (out : List Int) (seen : List Bool), n - c = d → d < gg → c ≤ n → Okc N g out → Rts n fc u out c → seen.length = rk u n → (∀ m, m < rk u n → gt seen m = decide (m < rk u c)) →
    aj.pl253 F gg reg out seen (num u n) (n : Int) (c : Int) = some (full N g) := by
  intro d
  induction d with
  | zero =>
    intro gg c out seen hd hgg hcn ho hr hl hs
    obtain ⟨gg, rfl⟩ : ∃ g', gg = g' + 1 := ⟨gg - 1, by omega⟩
    rw [aj.pl253, dF (by omega), cond_false]
    unfold aj.pj10
    rw [ho.1]
    exact i_rounds hc hg hn hN hF N F 0 out (by omega) (by omega) (by omega) ho (by rw [show n = c by omega]; rw [show n = c by omega] at hr; exact hr) (by have := unc_le ho; omega)
  | succ d ih =>
    intro gg c out seen hd hgg hcn ho hr hl hs
    obtain ⟨gg, rfl⟩ : ∃ g', gg = g' + 1 := ⟨gg - 1, by omega⟩
    have hc' : c < n := by omega
    obtain ⟨r, e1, e2, e3⟩ := hu.low c hc'
    have hrn : rk u r < rk u n := rk_root e3 (by omega)
    have e5 : gt (num u n) c = ((rk u r : Nat) : Int) := by rw [gt_num hc', e1]; rfl
    have e4 : IntKind.i64.wrap (4 * (c : Int)) = ((4 * c : Nat) : Int) := by rw [w64_in (by omega) (by omega)]; omega
    rw [aj.pl253, dT hc', cond_true, ixn (by rw [num_len]; exact hc'), Option.bind_some, e5, ixn (by rw [hl]; exact hrn), Option.bind_some, hs _ hrn, e4]
    unfold aj.pj11
    rw [ws (i := c) (by omega)]
    by_cases e : r = c
    · subst e
      have hf := hc.lt (4 * r) (by omega)
      obtain ⟨p1, p2, p3⟩ := ho.put hf (v := 0) (by rw [hc.root r hc' e3]; rfl)
      rw [decide_eq_false (by omega), Bool.not_false, cond_true, Option.bind_some, Option.bind_some, ixn (by rw [hg.len]; omega), Option.bind_some, hg.at_ _ (by omega), ixn (by rw [ho.1]; exact hf), Option.bind_some, Option.bind_some]
      have hk1 : rk u (r + 1) = rk u r + 1 := by rw [rk, e3]; simp
      refine ih gg (r + 1) _ _ (by omega) (by omega) (by omega) p1 (fun r' h1 h2 h3 => ?_) (by simp [hl]) fun m hm => ?_
      · by_cases q : r' = r
        · subst q; exact p3
        · exact p2 _ (hr r' (by omega) h2 h3)
      · rw [hk1]
        by_cases q : rk u r = m
        · subst q; rw [gset_eq (by omega), decide_eq_true (by omega)]
        · rw [gset_ne q, hs m hm]; exact decide_eq_decide.2 (by omega)
    · have hrc : rk u r < rk u c := rk_root e3 (by omega)
      have hk1 : rk u (c + 1) = rk u c := by rw [rk, e1, show (((r : Nat) : Int) == (c : Int)) = false from beq_eq_false_iff_ne.mpr (by omega)]; rfl
      rw [decide_eq_true hrc, Bool.not_true, cond_false]
      refine ih gg (c + 1) _ _ (by omega) (by omega) (by omega) ho (fun r' h1 h2 h3 => ?_) hl fun m hm => by rw [hk1]; exact hs m hm
      by_cases q : r' = c
      · subst q; rw [h3] at e1; omega
      · exact hr r' (by omega) h2 h3
end
end Go.Proofs.Ytppbogklbhfboaa.AE
end
section
namespace Go.Proofs.Ytppbogklbhfboaa.AE
open Go Go.AE Go.Proofs
variable {F : Nat}
section
variable {n N : Nat} {fc : Nat → Nat} {g : Nat → Bool} {u reg : List Int}
theorem s_pass {C : List Int → List Int → Bool → Option (List Int)} (hc : Chk n N fc u g) (hg : Rgl n fc reg) (hn : n ≤ 100) : ∀ (d gg k : Nat) (out : List Int) (ch : Bool), 4 * n - k = d → d < gg → k ≤ 4 * n → Okc N g out →
    ∃ out' ch', ac.pl8151 F C gg reg out ch (k : Int) = C reg out' ch' ∧ Ps n N fc g k out out' ∧ ((ch' = ch ∧ out' = out ∧ ∀ k', k ≤ k' → k' < 4 * n → 0 ≤ gt out (fc k') → 0 ≤ gt out (fc (rot k'))) ∨ (ch' = true ∧ unc out' < unc out)) := by
  intro d
  induction d with
  | zero =>
    intro gg k out ch hd hgg hk ho
    obtain ⟨gg, rfl⟩ : ∃ g', gg = g' + 1 := ⟨gg - 1, by omega⟩
    refine ⟨out, ch, ?_, ⟨ho, fun i hi => hi, .inr ⟨rfl, fun k' q1 q2 => by omega⟩⟩, .inl ⟨rfl, rfl, fun k' q1 q2 => by omega⟩⟩
    rw [ac.pl8151, dF (by rw [hg.len]; omega), cond_false]
    unfold ac.pj21 ac.pj20
    rfl
  | succ d ih =>
    intro gg k out ch hd hgg hk ho
    obtain ⟨gg, rfl⟩ : ∃ g', gg = g' + 1 := ⟨gg - 1, by omega⟩
    have hk' : k < 4 * n := by omega
    have hf := hc.lt k hk'
    have hfr := hc.lt _ (rot_lt hk')
    have er : IntKind.i64.wrap ((IntKind.i64.wrap ((IntKind.i64.wrap (Int.tdiv (k : Int) 4)) * 4)) + (Int.tmod (((k + 1 : Nat) : Int)) 4)) = ((rot k : Nat) : Int) := by
      rw [tdiv4, tmod4, wn (by omega), w64_in (x := ((k / 4 : Nat) : Int) * 4) (by omega) (by omega), w64_in (by omega) (by omega)]; unfold rot; omega
    have wk : IntKind.i64.wrap ((k : Int) + 1) = ((k + 1 : Nat) : Int) := ws (by omega)
    have xk : ix reg (k : Int) = some k := ixn (by rw [hg.len]; exact hk')
    have xr : ix reg ((rot k : Nat) : Int) = some (rot k) := ixn (by rw [hg.len]; exact rot_lt hk')
    have gk := hg.at_ k hk'
    have gr := hg.at_ _ (rot_lt hk')
    have yk : ∀ o : List Int, o.length = N → ix o ((fc k : Nat) : Int) = some (fc k) := fun o h => ixn (by rw [h]; exact hf)
    have yr : ∀ o : List Int, o.length = N → ix o ((fc (rot k) : Nat) : Int) = some (fc (rot k)) := fun o h => ixn (by rw [h]; exact hfr)
    rw [ac.pl8151, dT (by rw [hg.len]; exact hk'), cond_true, wk, er, xr, Option.bind_some, xk, Option.bind_some, gk, yk out ho.1, Option.bind_some, gr]
    -- the second question, where both have a color
    have snd : ∀ (o : List Int) (b : Bool), o.length = N → 0 ≤ gt o (fc (rot k)) → 0 ≤ gt o (fc k) → ac.pj24 F (ac.pl8151 F C gg) reg o b (k : Int) ((fc (rot k) : Nat) : Int) = ac.pl8151 F C gg reg o b ((k + 1 : Nat) : Int) := fun o b h1 h2 h3 => by
      unfold ac.pj24
      rw [yr o h1, Option.bind_some, decide_eq_true (show gt o (fc (rot k)) ≥ 0 from h2), cond_true, xk, Option.bind_some, gk, yk o h1, Option.bind_some, decide_eq_false (show ¬ gt o (fc k) < 0 by omega), cond_false]
      unfold ac.pj23
      rw [wk]
    by_cases c : 0 ≤ gt out (fc k)
    · have := ho.rng hf
      rw [decide_eq_true (show gt out (fc k) ≥ 0 from c), cond_true, yr out ho.1, Option.bind_some]
      by_cases c2 : 0 ≤ gt out (fc (rot k))
      · rw [decide_eq_false (show ¬ gt out (fc (rot k)) < 0 by omega), cond_false, snd out ch ho.1 c2 c]
        obtain ⟨out', ch', q1, q2, q3⟩ := ih gg (k + 1) out ch (by omega) (by omega) (by omega) ho
        refine ⟨out', ch', q1, q2.skip fun _ => c2, q3.imp (fun ⟨a1, a2, a3⟩ => ⟨a1, a2, fun k' b1 b2 => ?_⟩) id⟩
        by_cases e : k' = k
        · subst e; exact fun _ => c2
        · exact a3 k' (by omega) b2
      · have hv : 1 - gt out (fc k) = ci (g (fc (rot k))) := by rw [ho.val hf c, ci_not, hc.flip k hk']
        obtain ⟨p1, p2, p3⟩ := ho.put hfr hv
        rw [decide_eq_true (show gt out (fc (rot k)) < 0 by omega), cond_true]
        simp only [Option.bind_some, gk, yk out ho.1]
        rw [w64_in (by omega) (by omega), snd _ true p1.1 p3 (p2 _ c)]
        obtain ⟨out', ch', q1, q2, q3⟩ := ih gg (k + 1) _ true (by omega) (by omega) (by omega) p1
        have h1 := unc_put ho hfr (by omega) hv
        have h2 := q2.le
        refine ⟨out', ch', q1, Ps.put ho hfr (by omega) hv q2, .inr ⟨?_, by omega⟩⟩
        rcases q3 with ⟨a, _⟩ | ⟨a, _⟩ <;> exact a
    · rw [decide_eq_false (show ¬ gt out (fc k) ≥ 0 from c), cond_false, yr out ho.1, Option.bind_some]
      by_cases c2 : 0 ≤ gt out (fc (rot k))
      · have := ho.rng hfr
        have hv : 1 - gt out (fc (rot k)) = ci (g (fc k)) := by rw [ho.val hfr c2, ci_not, hc.flip k hk', Bool.not_not]
        obtain ⟨p1, p2, p3⟩ := ho.put hf hv
        rw [decide_eq_true (show gt out (fc (rot k)) ≥ 0 from c2), cond_true]
        simp only [Option.bind_some, gk, yk out ho.1]
        rw [decide_eq_true (show gt out (fc k) < 0 by omega), cond_true, w64_in (by omega) (by omega)]
        unfold ac.pj25
        rw [wk]
        obtain ⟨out', ch', q1, q2, q3⟩ := ih gg (k + 1) _ true (by omega) (by omega) (by omega) p1
        have h1 := unc_put ho hf (by omega) hv
        have h2 := q2.le
        refine ⟨out', ch', q1, Ps.put ho hf (by omega) hv q2, .inr ⟨?_, by omega⟩⟩
        rcases q3 with ⟨a, _⟩ | ⟨a, _⟩ <;> exact a
      · rw [decide_eq_false (show ¬ gt out (fc (rot k)) ≥ 0 from c2), cond_false]
        obtain ⟨out', ch', q1, q2, q3⟩ := ih gg (k + 1) out ch (by omega) (by omega) (by omega) ho
        refine ⟨out', ch', q1, q2.skip fun q => absurd q c, q3.imp (fun ⟨a1, a2, a3⟩ => ⟨a1, a2, fun k' b1 b2 => ?_⟩) id⟩
        by_cases e : k' = k
        · subst e; exact fun q => absurd q c
        · exact a3 k' (by omega) b2
theorem s_rounds (hc : Chk n N fc u g) (hg : Rgl n fc reg) (hn : n ≤ 100) (hF : 2000 < F) : ∀ (d gg : Nat) (out : List Int), unc out ≤ d → d + 2 ≤ gg → Okc N g out → Rts n fc u out n →
    ac.pl509 F gg reg out true = some (full N g) := by
  intro d
  induction d with
  | zero =>
    intro gg out hd hgg ho hr
    obtain ⟨gg, rfl⟩ : ∃ g', gg = g' + 2 := ⟨gg - 2, by omega⟩
    rw [ac.pl509, cond_true]
    obtain ⟨out', ch', q1, q2, q3⟩ := s_pass (F := F) (C := ac.pl509 F (gg + 1)) hc hg hn (4 * n) F 0 out false (by omega) (by omega) (by omega) ho
    rw [show ((0 : Nat) : Int) = 0 from rfl] at q1
    rw [q1]
    rcases q3 with ⟨rfl, rfl, a⟩ | ⟨_, a⟩
    · rw [ac.pl509, cond_false, ho.fin fun j hj => unc_zero ho (by omega) hj]
    · omega
  | succ d ih =>
    intro gg out hd hgg ho hr
    obtain ⟨gg, rfl⟩ : ∃ g', gg = g' + 2 := ⟨gg - 2, by omega⟩
    rw [ac.pl509, cond_true]
    obtain ⟨out', ch', q1, q2, q3⟩ := s_pass (F := F) (C := ac.pl509 F (gg + 1)) hc hg hn (4 * n) F 0 out false (by omega) (by omega) (by omega) ho
    rw [show ((0 : Nat) : Int) = 0 from rfl] at q1
    rw [q1]
    rcases q3 with ⟨rfl, rfl, a⟩ | ⟨rfl, a⟩
    · rw [ac.pl509, cond_false, ho.fin (hc.closed hr fun k hk => a k (by omega) hk)]
    · exact ih (gg + 1) out' (by omega) (by omega) q2.ok fun r h1 h2 h3 => q2.mono _ (hr r h1 h2 h3)
theorem s_start (hc : Chk n N fc u g) (hg : Rgl n fc reg) (hn : n ≤ 100) (hN : N ≤ 400) (hF : 2000 < F) {s : List Int} (hu : UF s u n) : ∀ (d gg c : Nat) (out : List Int), n - c = d → d < gg → c ≤ n → Okc N g out → Rts n fc u out c →
    ac.pl253 F gg reg u out (c : Int) = some (full N g) := by
  intro d
  induction d with
  | zero =>
    intro gg c out hd hgg hcn ho hr
    obtain ⟨gg, rfl⟩ : ∃ g', gg = g' + 1 := ⟨gg - 1, by omega⟩
    rw [ac.pl253, dF (by rw [hu.lt]; omega), cond_false]
    unfold ac.pj27
    have := unc_le ho
    exact s_rounds hc hg hn hF N F out this (by omega) ho (by rw [show n = c by omega]; rw [show n = c by omega] at hr; exact hr)
  | succ d ih =>
    intro gg c out hd hgg hcn ho hr
    obtain ⟨gg, rfl⟩ : ∃ g', gg = g' + 1 := ⟨gg - 1, by omega⟩
    have hc' : c < n := by omega
    have e4 : IntKind.i64.wrap (4 * (c : Int)) = ((4 * c : Nat) : Int) := by rw [w64_in (by omega) (by omega)]; omega
    rw [ac.pl253, dT (by rw [hu.lt]; exact hc'), cond_true, ixn (by rw [hu.lt]; exact hc'), Option.bind_some, e4]
    by_cases e : gt u c = (c : Int)
    · have hf := hc.lt (4 * c) (by omega)
      obtain ⟨p1, p2, p3⟩ := ho.put hf (v := 0) (by rw [hc.root c hc' e]; rfl)
      rw [e, beq_self_eq_true, cond_true, ixn (by rw [hg.len]; omega), Option.bind_some, hg.at_ _ (by omega), ixn (by rw [ho.1]; exact hf), Option.bind_some, Option.bind_some]
      unfold ac.pj28
      rw [ws (by omega)]
      refine ih gg (c + 1) _ (by omega) (by omega) (by omega) p1 (fun r' h1 h2 h3 => ?_)
      by_cases q : r' = c
      · subst q; exact p3
      · exact p2 _ (hr r' (by omega) h2 h3)
    · rw [show (gt u c == (c : Int)) = false from beq_eq_false_iff_ne.mpr e, cond_false]
      unfold ac.pj29
      rw [ws (by omega)]
      refine ih gg (c + 1) _ (by omega) (by omega) (by omega) ho (fun r' h1 h2 h3 => ?_)
      by_cases q : r' = c
      · subst q; exact absurd h3 e
      · exact hr r' (by omega) h2 h3
theorem s_neg (hc : Chk n N fc u g) (hg : Rgl n fc reg) (hn : n ≤ 100) (hN : N ≤ 400) (hF : 2000 < F) {s : List Int} (hu : UF s u n) : ∀ (d gg j : Nat) (out : List Int), N - j = d → d < gg → j ≤ N → out.length = N → (∀ i, i < j → gt out i = -1) →
    ac.pl125 F gg reg u out (j : Int) = some (full N g) := by
  intro d
  induction d with
  | zero =>
    intro gg j out hd hgg hj hl hm
    obtain ⟨gg, rfl⟩ : ∃ g', gg = g' + 1 := ⟨gg - 1, by omega⟩
    rw [ac.pl125, dF (by omega), cond_false]
    unfold ac.pj30
    exact s_start hc hg hn hN hF hu n F 0 out (by omega) (by omega) (by omega) ⟨hl, fun i hi => .inl (hm i (by omega))⟩ fun r h => by omega
  | succ d ih =>
    intro gg j out hd hgg hj hl hm
    obtain ⟨gg, rfl⟩ : ∃ g', gg = g' + 1 := ⟨gg - 1, by omega⟩
    rw [ac.pl125, dT (by omega), cond_true, ixn (by omega), Option.bind_some, Option.bind_some, ws (by omega)]
    refine ih gg (j + 1) _ (by omega) (by omega) (by omega) (by simp [hl]) fun i hi => ?_
    by_cases e : j = i
    · subst e; exact gset_eq (by omega)
    · rw [gset_ne e]; exact hm i (by omega)
end
theorem rep_m1 {m : Nat} (hm : m < 64) (hF : 100 < F) : aR.p F [-1] (m : Int) = some (List.replicate m (-1)) := by
  obtain ⟨h1, h2⟩ := mul1 m hm
  unfold aR.p aR.pj2
  rw [show decide ((m : Int) < 0) = false from decide_eq_false (by omega), cond_false, h1, show IntKind.u64.wrap (([(-1 : Int)].length : Nat) : Int) = 1 by decide]
  have h3 : bits_Mul.p F 1 (m : Int) = some (0, (m : Int)) := by
    unfold bits_Mul.p
    rw [show bits_Mul64.p F 1 (m : Int) = bits_Mul64.p 0 1 (m : Int) from rfl, h2]; rfl
  rw [h3, Option.bind_some]
  simp only [show decide ((0 : Int) > 0) = false by decide, cond_false, show decide ((m : Int) > 9223372036854775807) = false from decide_eq_false (by omega)]
  unfold aR.pj1
  rw [wn (by omega), mkn_of (by omega), Option.bind_some, Option.bind_some]
  unfold rept cpl
  cases m with
  | zero => simp; omega
  | succ m =>
    have hl : ([(-1 : Int)].take (List.replicate (m + 1) (0 : Int)).length ++ (List.replicate (m + 1) (0 : Int)).drop [(-1 : Int)].length) = (-1) :: List.replicate m 0 := by simp
    rw [hl, if_pos ⟨by simp, by left; simp, by simp; omega⟩]
    simp [gt, List.replicate_succ]
theorem colors_both {D : List Cr} {c : Int} {t : Tb} {R : List (List Int)} {s u : List Int} (h : DG F D c t R s u) (hF : 5000 < F) : ∃ g reg, Chk D.length R.length (cix R) u g ∧ Rgl D.length (cix R) reg ∧ aw.p F D = some reg ∧ av.p F D t.1 t.2 = some reg ∧
    ac.p F D = some (full R.length g) ∧ aj.p F D t.1 t.2 = some (full R.length g) := by
  obtain ⟨g, hc⟩ := dg_chk h
  obtain ⟨reg, r1, r2, r3, r4⟩ := crs_both h (by omega)
  have hg : Rgl D.length (cix R) reg := ⟨r1, r2⟩
  have hl := h.len
  have hR := h.rg.le
  refine ⟨g, reg, hc, hg, r3, r4, ?_, ?_⟩
  · unfold ac.p
    rw [r3, Option.bind_some, h.sP, Option.bind_some, h.sR, Option.bind_some, mkn_of (by omega), Option.bind_some]
    exact s_neg hc hg (by omega) (by omega) (by omega) h.uf R.length F 0 _ (by omega) (by omega) (by omega) (by simp) fun i hi => by omega
  · unfold aj.p
    rw [r4, Option.bind_some, h.iP, Option.bind_some, h.iR, Option.bind_some, rep_m1 (by omega) (by omega), Option.bind_some, i_classCount h.uf.low (by omega) (by omega), Option.bind_some, mkn_of (by have := rk_le u D.length; omega), Option.bind_some, num_len]
    refine i_start hc hg (by omega) (by omega) (by omega) h.uf D.length F 0 _ _ (by omega) (by omega) (by omega) ⟨by simp, fun j hj => .inl (grep hj)⟩ (fun r h => by omega) (by simp) fun m hm => ?_
    rw [grep hm]; rw [rk, decide_eq_false (by omega)]
end Go.Proofs.Ytppbogklbhfboaa.AE
end
section
namespace Go.Proofs.Ytppbogklbhfboaa.AE
open Go Go.AE Go.Proofs
variable {F : Nat}
def tw (fc : Nat → Nat) (g : Nat → Bool) (color : Int) (k : Nat) : Int := if ci (g (fc (4 * k + 1))) = color then 1 else -1
section
variable {n N : Nat} {fc : Nat → Nat} {g : Nat → Bool} {u reg : List Int} {col : Int}
theorem s_twist (hc : Chk n N fc u g) (hg : Rgl n fc reg) (hn : n ≤ 100) {k : Nat} (hk : k < n) : bC.p F reg (full N g) (k : Int) col = some (tw fc g col k) := by
  unfold bC.p tw
  have hf := hc.lt (4 * k + 1) (by omega)
  rw [w64_in (x := 4 * (k : Int)) (by omega) (by omega), w64_in (by omega) (by omega), show 4 * (k : Int) + 1 = ((4 * k + 1 : Nat) : Int) by omega, ixn (by rw [hg.len]; omega), Option.bind_some, hg.at_ _ (by omega), ixn (by rw [full_len]; exact hf), Option.bind_some, gt_full hf]
  by_cases c : ci (g (fc (4 * k + 1))) = col
  · rw [if_pos c, c, beq_self_eq_true, cond_true]
  · rw [if_neg c, show (ci (g (fc (4 * k + 1))) == col) = false from beq_eq_false_iff_ne.mpr c, cond_false]
def twl (fc : Nat → Nat) (g : Nat → Bool) (color : Int) (m : Nat) : List Int := (List.range m).map (tw fc g color)
theorem twl_len {m : Nat} : (twl fc g col m).length = m := by simp [twl]
theorem twl_succ {m : Nat} : twl fc g col m ++ [tw fc g col m] = twl fc g col (m + 1) := by simp [twl, List.range_succ]
theorem gt_twl {m k : Nat} (h : k < m) : gt (twl fc g col m) k = tw fc g col k := by
  have := gt_get (l := twl fc g col m) (n := k) (by rw [twl_len]; exact h)
  unfold twl at this ⊢
  rw [List.getElem?_map, List.getElem?_range h] at this
  exact (Option.some.inj this).symm
theorem i_twl (hc : Chk n N fc u g) (hg : Rgl n fc reg) (hn : n ≤ 100) : ∀ (d gg k : Nat), n - k = d → d < gg → k ≤ n →
    aW.pl61 F gg col reg (full N g) (twl fc g col k) (n : Int) (k : Int) = some (twl fc g col n) := by
  intro d
  induction d with
  | zero =>
    intro gg k hd hgg hk
    obtain ⟨gg, rfl⟩ : ∃ g', gg = g' + 1 := ⟨gg - 1, by omega⟩
    rw [aW.pl61, dF (by omega), cond_false, show k = n by omega]
  | succ d ih =>
    intro gg k hd hgg hk
    obtain ⟨gg, rfl⟩ : ∃ g', gg = g' + 1 := ⟨gg - 1, by omega⟩
    have hk' : k < n := by omega
    have hf := hc.lt (4 * k + 1) (by omega)
    have ih := ih gg (k + 1) (by omega) (by omega) (by omega)
    rw [aW.pl61, dT hk', cond_true, w64_in (x := 4 * (k : Int)) (by omega) (by omega), w64_in (x := 4 * (k : Int) + 1) (by omega) (by omega), show 4 * (k : Int) + 1 = ((4 * k + 1 : Nat) : Int) by omega, ixn (by rw [hg.len]; omega), Option.bind_some, hg.at_ _ (by omega), ixn (by rw [full_len]; exact hf), Option.bind_some, gt_full hf]
    rw [← twl_succ] at ih
    unfold tw at ih
    unfold cl.p
    by_cases c : ci (g (fc (4 * k + 1))) = col
    · rw [if_pos c] at ih
      rw [c, beq_self_eq_true, cond_true, Option.bind_some, show IntKind.i64.wrap (IntKind.i64.wrap (2 * 1) - 1) = 1 by decide, apn_of (by rw [twl_len]; simp; omega), Option.bind_some, ws (by omega)]
      exact ih
    · rw [if_neg c] at ih
      rw [show (ci (g (fc (4 * k + 1))) == col) = false from beq_eq_false_iff_ne.mpr c, cond_false, Option.bind_some, show IntKind.i64.wrap (IntKind.i64.wrap (2 * 0) - 1) = -1 by decide, apn_of (by rw [twl_len]; simp; omega), Option.bind_some, ws (by omega)]
      exact ih
end
structure Tw2 (F : Nat) (D : List Cr) (t : Tb) (col : Int) (g : Nat → Bool) (R : List (List Int)) (reg colors : List Int) : Prop where
  sr : aw.p F D = some reg
  sc : ac.p F D = some colors
  st : ∀ k : Nat, k < D.length → bC.p F reg colors (k : Int) col = some (tw (cix R) g col k)
  it : aW.p F D t.1 t.2 col = some (twl (cix R) g col D.length)
end Go.Proofs.Ytppbogklbhfboaa.AE
end
section
namespace Go.Proofs.Ytppbogklbhfboaa.AE
open Go Go.AE Go.Proofs
variable {F : Nat}
def cw (g : Nat → Bool) (col : Int) : Nat → Nat
  | 0 => 0
  | j + 1 => cw g col j + (if ci (g j) = col then 0 else 1)
theorem cw_le {g : Nat → Bool} {col : Int} : ∀ j, cw g col j ≤ j
  | 0 => Nat.le_refl _
  | j + 1 => by have := cw_le (g := g) (col := col) j; rw [cw]; split <;> omega
theorem cw_mono {g : Nat → Bool} {col : Int} {a b : Nat} (h : a ≤ b) : cw g col a ≤ cw g col b := by
  induction h with
  | refl => exact Nat.le_refl _
  | step _ ih => rw [cw]; omega
theorem cw_lt {g : Nat → Bool} {col : Int} {a b : Nat} (h : a < b) (hw : ci (g a) ≠ col) : cw g col a < cw g col b := by
  have h1 : cw g col (a + 1) = cw g col a + 1 := by rw [cw, if_neg hw]
  have := cw_mono (g := g) (col := col) (show a + 1 ≤ b by omega)
  omega
def Nm (N : Nat) (g : Nat → Bool) (col : Int) (k : Nat) (l : List Int) : Prop := ∀ j, j < k → j < N → ci (g j) ≠ col → gt l j = (cw g col j : Int) - 1
section
variable {N : Nat} {g : Nat → Bool} {reg : List Int} {col : Int} {D : List Cr}
theorem s_nums {Z : Option (Int × Int × List Int)} (hN : N ≤ 400) (hz : ∀ l : List Int, l.length = N → Nm N g col N l → ai.pj14 F col D reg (full N g) l ((cw g col N : Int) - 1) = Z) : ∀ (d gg k : Nat) (l : List Int), N - k = d → d < gg → k ≤ N → l.length = k → Nm N g col k l →
    ai.pl125 F gg col D reg (full N g) l ((cw g col k : Int) - 1) (k : Int) = Z := by
  intro d
  induction d with
  | zero =>
    intro gg k l hd hgg hk hl hm
    obtain ⟨gg, rfl⟩ : ∃ g', gg = g' + 1 := ⟨gg - 1, by omega⟩
    rw [ai.pl125, dF (by rw [full_len]; omega), cond_false]
    obtain rfl : k = N := by omega
    exact hz l hl hm
  | succ d ih =>
    intro gg k l hd hgg hk hl hm
    obtain ⟨gg, rfl⟩ : ∃ g', gg = g' + 1 := ⟨gg - 1, by omega⟩
    have hk' : k < N := by omega
    have := cw_le (g := g) (col := col) k
    rw [ai.pl125, dT (by rw [full_len]; exact hk'), cond_true, ixn (by rw [full_len]; exact hk'), Option.bind_some, gt_full hk']
    unfold ai.pj15
    rw [ws (i := k) (by omega)]
    by_cases c : ci (g k) = col
    · rw [c, beq_self_eq_true, cond_true, apn_of (by simp; omega), Option.bind_some]
      have ih := ih gg (k + 1) (l ++ [-2]) (by omega) (by omega) (by omega) (by simp [hl]) (fun j h1 h2 h3 => by
        by_cases e : j = k
        · subst e; exact absurd c h3
        · rw [gapp_lt (by omega)]; exact hm j (by omega) h2 h3)
      rw [cw, if_pos c, Nat.add_zero] at ih
      exact ih
    · rw [show (ci (g k) == col) = false from beq_eq_false_iff_ne.mpr c, cond_false, apn_of (by simp; omega), Option.bind_some, w64_in (by omega) (by omega)]
      have ih := ih gg (k + 1) (l ++ [(cw g col k : Int) - 1]) (by omega) (by omega) (by omega) (by simp [hl]) (fun j h1 h2 h3 => by
        by_cases e : j = k
        · rw [e]; have h := gapp_eq (l := l) (x := (cw g col k : Int) - 1); rw [hl] at h; exact h
        · rw [gapp_lt (by omega)]; exact hm j (by omega) h2 h3)
      rw [cw, if_neg c, show (((cw g col k + 1 : Nat) : Int) - 1) = (cw g col k : Int) - 1 + 1 by omega] at ih
      exact ih
theorem i_nums {Z : Option (Int × Int × List Int)} {a b : List (Int × Int)} (hN : N ≤ 400) (hz : ∀ l : List Int, l.length = N → Nm N g col N l → ag.pj16 F col D a b reg l ((cw g col N : Int) - 1) = Z) : ∀ (d gg k : Nat) (l : List Int), N - k = d → d < gg → k ≤ N → l.length = N → Nm N g col k l →
    ag.pl125 F gg col D a b reg l ((cw g col k : Int) - 1) (full N g) (N : Int) (k : Int) = Z := by
  intro d
  induction d with
  | zero =>
    intro gg k l hd hgg hk hl hm
    obtain ⟨gg, rfl⟩ : ∃ g', gg = g' + 1 := ⟨gg - 1, by omega⟩
    rw [ag.pl125, dF (by omega), cond_false]
    obtain rfl : k = N := by omega
    exact hz l hl hm
  | succ d ih =>
    intro gg k l hd hgg hk hl hm
    obtain ⟨gg, rfl⟩ : ∃ g', gg = g' + 1 := ⟨gg - 1, by omega⟩
    have hk' : k < N := by omega
    have := cw_le (g := g) (col := col) k
    rw [ag.pl125, dT hk', cond_true, ixn (by rw [full_len]; exact hk'), Option.bind_some, gt_full hk']
    unfold ag.pj17
    rw [ws (i := k) (by omega)]
    by_cases c : ci (g k) = col
    · rw [c, bne_self_eq_false, cond_false]
      have ih := ih gg (k + 1) l (by omega) (by omega) (by omega) hl (fun j h1 h2 h3 => by
        by_cases e : j = k
        · subst e; exact absurd c h3
        · exact hm j (by omega) h2 h3)
      rw [cw, if_pos c, Nat.add_zero] at ih
      exact ih
    · rw [show (ci (g k) != col) = true by simpa using c, cond_true, ixn (by omega), Option.bind_some, Option.bind_some, w64_in (by omega) (by omega)]
      have ih := ih gg (k + 1) (l.set k ((cw g col k : Int) - 1)) (by omega) (by omega) (by omega) (by simp [hl]) (fun j h1 h2 h3 => by
        by_cases e : k = j
        · subst e; rw [gset_eq (by omega)]
        · rw [gset_ne e]; exact hm j (by omega) h2 h3)
      rw [cw, if_neg c, show (((cw g col k + 1 : Nat) : Int) - 1) = (cw g col k : Int) - 1 + 1 by omega] at ih
      exact ih
end
end Go.Proofs.Ytppbogklbhfboaa.AE
end
section
namespace Go.Proofs.Ytppbogklbhfboaa.AE
open Go Go.AE Go.Proofs
variable {F : Nat}
theorem ixm {E : List Int} {m a b : Nat} (hm : m ≤ 400) (ha : a < m) (hb : b < m) (hE : E.length = m * m) : ix E (IntKind.i64.wrap ((IntKind.i64.wrap ((a : Int) * (m : Int))) + (b : Int))) = some (a * m + b) := by
  have h1 : a * m + m ≤ m * m := by have := Nat.mul_le_mul_right m (show a + 1 ≤ m by omega); rw [Nat.add_mul, Nat.one_mul] at this; exact this
  have h2 : m * m ≤ 160000 := Nat.mul_le_mul hm hm
  have e : (a : Int) * (m : Int) = ((a * m : Nat) : Int) := by rw [Int.natCast_mul]
  rw [e, wn (by omega), show ((a * m : Nat) : Int) + (b : Int) = ((a * m + b : Nat) : Int) by omega, wn (by omega), ixn (by omega)]
def ad (E : List Int) (k : Nat) (v : Int) : List Int := E.set k (IntKind.i64.wrap (gt E k + v))
def sb (E : List Int) (k : Nat) (v : Int) : List Int := E.set k (IntKind.i64.wrap (gt E k - v))
theorem ad_len {E : List Int} {k : Nat} {v : Int} : (ad E k v).length = E.length := by simp [ad]
theorem sb_len {E : List Int} {k : Nat} {v : Int} : (sb E k v).length = E.length := by simp [sb]
section
variable {col : Int} {D : List Cr} {reg colors nums nums' tws : List Int} {m k : Nat} {tv : Int}
abbrev SC := Int → List Cr → List Int → List Int → List Int → Int → Int → Int → List Int → Int → Option (Int × Int × List Int)
abbrev IC := List Int → List Int → Int → Int → List Int → List Int → Int → Int → Option (Int × Int × List Int)
theorem s_add {C : SC} {a b : Int} (hm : m ≤ 400) (ha : -1 ≤ a ∧ a < m) (hb : -1 ≤ b ∧ b < m) {E : List Int} (hE : E.length = m * m) :
    ∃ E', E'.length = m * m ∧ (bif (decide (a ≥ 0)) then ((ix E (IntKind.i64.wrap ((IntKind.i64.wrap (a * (m : Int))) + a))).bind fun n5 => (ix E (IntKind.i64.wrap ((IntKind.i64.wrap (a * (m : Int))) + a))).bind fun n6 => (some (E.set n6 (IntKind.i64.wrap (gt E n5 + tv)))).bind fun l7 => ai.pj12 F C col D reg colors nums (m : Int) (m : Int) (m : Int) l7 (k : Int) tv a b) else (ai.pj12 F C col D reg colors nums (m : Int) (m : Int) (m : Int) E (k : Int) tv a b)) = C col D reg colors nums (m : Int) (m : Int) (m : Int) E' (IntKind.i64.wrap ((k : Int) + 1)) ∧
      ∀ (C' : IC) (gg : Nat) (tn : Int), ag.pl1043325 F C' (gg + 3) reg nums' (m : Int) (m : Int) E tws tn (k : Int) tv a b [(a, a), (b, b)] 2 0 = C' reg nums' (m : Int) (m : Int) E' tws tn (IntKind.i64.wrap ((k : Int) + 1)) := by
  have q0 : ix [(a, a), (b, b)] 0 = some 0 := rfl
  have q1 : ix [(a, a), (b, b)] 1 = some 1 := rfl
  have g0 : gt [(a, a), (b, b)] 0 = (a, a) := rfl
  have g1 : gt [(a, a), (b, b)] 1 = (b, b) := rfl
  have u1 : IntKind.i64.wrap ((0 : Int) + 1) = 1 := by decide
  have u2 : IntKind.i64.wrap ((1 : Int) + 1) = 2 := by decide
  have t0 : decide ((0 : Int) < 2) = true := by decide
  have t1 : decide ((1 : Int) < 2) = true := by decide
  have t2 : decide ((2 : Int) < 2) = false := by decide
  by_cases ca : a ≥ 0
  · obtain ⟨x, rfl⟩ : ∃ x : Nat, a = (x : Int) := ⟨a.toNat, by omega⟩
    have hx : x < m := by omega
    by_cases cb : b ≥ 0
    · obtain ⟨y, rfl⟩ : ∃ y : Nat, b = (y : Int) := ⟨b.toNat, by omega⟩
      have hy : y < m := by omega
      refine ⟨sb (sb (ad (ad E (x * m + x) tv) (y * m + y) tv) (x * m + y) tv) (y * m + x) tv, by simp only [sb_len, ad_len, hE], ?_, fun C' gg tn => ?_⟩
      · rw [decide_eq_true ca, cond_true, ixm hm hx hx hE, Option.bind_some, Option.bind_some, Option.bind_some]
        unfold ai.pj12
        have e1 : (E.set (x * m + x) (IntKind.i64.wrap (gt E (x * m + x) + tv))) = ad E (x * m + x) tv := rfl
        rw [e1, decide_eq_true cb, cond_true, ixm hm hy hy (by rw [ad_len, hE]), Option.bind_some, Option.bind_some, Option.bind_some]
        unfold ai.pj11
        have e2 : ((ad E (x * m + x) tv).set (y * m + y) (IntKind.i64.wrap (gt (ad E (x * m + x) tv) (y * m + y) + tv))) = ad (ad E (x * m + x) tv) (y * m + y) tv := rfl
        rw [e2, decide_eq_true ca, cond_true, decide_eq_true cb, cond_true, ixm hm hx hy (by rw [ad_len, ad_len, hE]), Option.bind_some, Option.bind_some, Option.bind_some]
        rw [ixm hm hy hx (by rw [List.length_set, ad_len, ad_len, hE]), Option.bind_some, Option.bind_some, Option.bind_some]
        unfold ai.pj10 ai.pj9
        rfl
      · rw [ag.pl1043325, t0, cond_true, q0, Option.bind_some, g0, decide_eq_true ca, cond_true, ixm hm hx hx hE, Option.bind_some, Option.bind_some]
        unfold ag.pj14
        have e1 : (E.set (x * m + x) (IntKind.i64.wrap (gt E (x * m + x) + tv))) = ad E (x * m + x) tv := rfl
        rw [u1, e1, ag.pl1043325, t1, cond_true, q1, Option.bind_some, g1, decide_eq_true cb, cond_true, ixm hm hy hy (by rw [ad_len, hE]), Option.bind_some, Option.bind_some]
        unfold ag.pj14
        have e2 : ((ad E (x * m + x) tv).set (y * m + y) (IntKind.i64.wrap (gt (ad E (x * m + x) tv) (y * m + y) + tv))) = ad (ad E (x * m + x) tv) (y * m + y) tv := rfl
        rw [u2, e2, ag.pl1043325, t2, cond_false]
        unfold ag.pj13
        rw [decide_eq_true ca, cond_true, decide_eq_true cb, cond_true, ixm hm hx hy (by rw [ad_len, ad_len, hE]), Option.bind_some, Option.bind_some]
        rw [ixm hm hy hx (by rw [List.length_set, ad_len, ad_len, hE]), Option.bind_some, Option.bind_some]
        unfold ag.pj12 ag.pj11
        rfl
    · refine ⟨ad E (x * m + x) tv, by simp only [ad_len, hE], ?_, fun C' gg tn => ?_⟩
      · rw [decide_eq_true ca, cond_true, ixm hm hx hx hE, Option.bind_some, Option.bind_some, Option.bind_some]
        unfold ai.pj12
        rw [decide_eq_false cb, cond_false]
        unfold ai.pj11
        rw [decide_eq_true ca, cond_true, decide_eq_false cb, cond_false]
        unfold ai.pj10 ai.pj9
        rfl
      · rw [ag.pl1043325, t0, cond_true, q0, Option.bind_some, g0, decide_eq_true ca, cond_true, ixm hm hx hx hE, Option.bind_some, Option.bind_some]
        unfold ag.pj14
        rw [u1, ag.pl1043325, t1, cond_true, q1, Option.bind_some, g1, decide_eq_false cb, cond_false]
        unfold ag.pj14
        rw [u2, ag.pl1043325, t2, cond_false]
        unfold ag.pj13
        rw [decide_eq_true ca, cond_true, decide_eq_false cb, cond_false]
        unfold ag.pj12 ag.pj11
        rfl
  · by_cases cb : b ≥ 0
    · obtain ⟨y, rfl⟩ : ∃ y : Nat, b = (y : Int) := ⟨b.toNat, by omega⟩
      have hy : y < m := by omega
      refine ⟨ad E (y * m + y) tv, by simp only [ad_len, hE], ?_, fun C' gg tn => ?_⟩
      · rw [decide_eq_false ca, cond_false]
        unfold ai.pj12
        rw [decide_eq_true cb, cond_true, ixm hm hy hy hE, Option.bind_some, Option.bind_some, Option.bind_some]
        unfold ai.pj11
        rw [decide_eq_false ca, cond_false]
        unfold ai.pj9
        rfl
      · rw [ag.pl1043325, t0, cond_true, q0, Option.bind_some, g0, decide_eq_false ca, cond_false]
        unfold ag.pj14
        rw [u1, ag.pl1043325, t1, cond_true, q1, Option.bind_some, g1, decide_eq_true cb, cond_true, ixm hm hy hy hE, Option.bind_some, Option.bind_some]
        unfold ag.pj14
        rw [u2, ag.pl1043325, t2, cond_false]
        unfold ag.pj13
        rw [decide_eq_false ca, cond_false]
        unfold ag.pj11
        rfl
    · refine ⟨E, hE, ?_, fun C' gg tn => ?_⟩
      · rw [decide_eq_false ca, cond_false]
        unfold ai.pj12
        rw [decide_eq_false cb, cond_false]
        unfold ai.pj11
        rw [decide_eq_false ca, cond_false]
        unfold ai.pj9
        rfl
      · rw [ag.pl1043325, t0, cond_true, q0, Option.bind_some, g0, decide_eq_false ca, cond_false]
        unfold ag.pj14
        rw [u1, ag.pl1043325, t1, cond_true, q1, Option.bind_some, g1, decide_eq_false cb, cond_false]
        unfold ag.pj14
        rw [u2, ag.pl1043325, t2, cond_false]
        unfold ag.pj13
        rw [decide_eq_false ca, cond_false]
        unfold ag.pj11
        rfl
end
end Go.Proofs.Ytppbogklbhfboaa.AE
end
section
namespace Go.Proofs.Ytppbogklbhfboaa.AE
open Go Go.AE Go.Proofs
variable {F : Nat}
section
variable {n N m : Nat} {fc : Nat → Nat} {g : Nat → Bool} {u reg nums nums' : List Int} {col : Int} {D : List Cr}
theorem g_step (hc : Chk n N fc u g) (hg : Rgl n fc reg) (hn : n ≤ 100) (hm : m ≤ 400) (hcw : m + 1 = cw g col N) (h1 : nums.length = N) (h2 : Nm N g col N nums) (h3 : nums'.length = N) (h4 : Nm N g col N nums') (hF : 100 < F)
    {C : SC} {C' : IC} {tv tn p : Int} {tws : List Int} {k e : Nat} (he : e + 2 < 4 * n) (hp : IntKind.i64.wrap ((IntKind.i64.wrap (4 * (k : Int))) + p) = (e : Int)) (hw : ci (g (fc e)) ≠ col) (hw2 : ci (g (fc (e + 2))) ≠ col) {E : List Int} (hE : E.length = m * m) :
    ∃ E', E'.length = m * m ∧ ai.pj13 F C col D reg (full N g) nums (m : Int) (m : Int) (m : Int) E (k : Int) tv p = C col D reg (full N g) nums (m : Int) (m : Int) (m : Int) E' (IntKind.i64.wrap ((k : Int) + 1)) ∧
      ag.pj15 F C' reg nums' (m : Int) (m : Int) E tv (e : Int) tws tn (k : Int) = C' reg nums' (m : Int) (m : Int) E' tws tn (IntKind.i64.wrap ((k : Int) + 1)) := by
  have f1 := hc.lt e (by omega)
  have f2 := hc.lt (e + 2) he
  have n1 : gt nums (fc e) = (cw g col (fc e) : Int) - 1 := h2 _ f1 f1 hw
  have n2 : gt nums (fc (e + 2)) = (cw g col (fc (e + 2)) : Int) - 1 := h2 _ f2 f2 hw2
  have n3 : gt nums' (fc e) = (cw g col (fc e) : Int) - 1 := h4 _ f1 f1 hw
  have n4 : gt nums' (fc (e + 2)) = (cw g col (fc (e + 2)) : Int) - 1 := h4 _ f2 f2 hw2
  have b1 := cw_lt (g := g) (col := col) f1 hw
  have b2 := cw_lt (g := g) (col := col) f2 hw2
  have e2 : IntKind.i64.wrap ((e : Int) + 2) = ((e + 2 : Nat) : Int) := by rw [w64_in (by omega) (by omega)]; omega
  unfold ai.pj13 ag.pj15
  rw [hp, e2, ixn (by rw [hg.len]; omega), Option.bind_some, Option.bind_some, hg.at_ e (by omega), ixn (l := nums) (by rw [h1]; exact f1), ixn (l := nums') (by rw [h3]; exact f1), Option.bind_some, Option.bind_some, ixn (l := reg) (n := e + 2) (by rw [hg.len]; omega), Option.bind_some, Option.bind_some, hg.at_ (e + 2) he, ixn (l := nums) (by rw [h1]; exact f2), ixn (l := nums') (by rw [h3]; exact f2), Option.bind_some, Option.bind_some, n1, n2, n3, n4]
  obtain ⟨a, ha⟩ : ∃ a : Int, a = (cw g col (fc e) : Int) - 1 := ⟨_, rfl⟩
  obtain ⟨b, hb⟩ : ∃ b : Int, b = (cw g col (fc (e + 2)) : Int) - 1 := ⟨_, rfl⟩
  rw [← ha, ← hb]
  by_cases c : a = b
  · rw [c, beq_self_eq_true, cond_true, cond_true]
    exact ⟨E, hE, by unfold ai.pj8; rfl, by unfold ag.pj9; rfl⟩
  · rw [show (a == b) = false from beq_eq_false_iff_ne.mpr c, cond_false, cond_false]
    obtain ⟨E', q1, q2, q3⟩ := s_add (F := F) (C := C) (col := col) (D := D) (reg := reg) (colors := full N g) (nums := nums) (nums' := nums') (tws := tws) (m := m) (k := k) (tv := tv) (a := a) (b := b) hm ⟨by omega, by omega⟩ ⟨by omega, by omega⟩ hE
    refine ⟨E', q1, q2, ?_⟩
    have := q3 C' (F - 3) tn
    rw [show F - 3 + 3 = F by omega] at this
    exact this
theorem g_l (hc : Chk n N fc u g) (hg : Rgl n fc reg) (hn : n ≤ 100) (hm : m ≤ 400) (hcw : m + 1 = cw g col N) (h1 : nums.length = N) (h2 : Nm N g col N nums) (h3 : nums'.length = N) (h4 : Nm N g col N nums') (hF : 100 < F) (hcol : 0 ≤ col ∧ col ≤ 1) (hD : D.length = n) : ∀ (d gg k : Nat) (E : List Int), n - k = d → d < gg → k ≤ n → E.length = m * m →
    ∃ E', E'.length = m * m ∧ ai.pl509 F gg col D reg (full N g) nums (m : Int) (m : Int) (m : Int) E (k : Int) = some ((m : Int), (m : Int), E') ∧
      ag.pl509 F gg reg nums' (m : Int) (m : Int) E (twl fc g col n) (n : Int) (k : Int) = some ((m : Int), (m : Int), E') := by
  intro d
  induction d with
  | zero =>
    intro gg k E hd hgg hk hE
    obtain ⟨gg, rfl⟩ : ∃ g', gg = g' + 1 := ⟨gg - 1, by omega⟩
    exact ⟨E, hE, by rw [ai.pl509, dF (by omega), cond_false], by rw [ag.pl509, dF (by omega), cond_false]⟩
  | succ d ih =>
    intro gg k E hd hgg hk hE
    obtain ⟨gg, rfl⟩ : ∃ g', gg = g' + 1 := ⟨gg - 1, by omega⟩
    have hk' : k < n := by omega
    have e4 : IntKind.i64.wrap (4 * (k : Int)) = ((4 * k : Nat) : Int) := by rw [w64_in (by omega) (by omega)]; omega
    have e5 : IntKind.i64.wrap (((4 * k : Nat) : Int) + 1) = ((4 * k + 1 : Nat) : Int) := ws (by omega)
    have e6 : IntKind.i64.wrap (((4 * k : Nat) : Int) + 0) = ((4 * k : Nat) : Int) := by rw [Int.add_zero, wn (by omega)]
    have l1 := hc.flip (4 * k) (by omega)
    have l2 := hc.flip (4 * k + 1) (by omega)
    have l3 := hc.flip (4 * k + 2) (by omega)
    rw [show rot (4 * k) = 4 * k + 1 by unfold rot; omega] at l1
    rw [show rot (4 * k + 1) = 4 * k + 2 by unfold rot; omega] at l2
    rw [show rot (4 * k + 2) = 4 * k + 3 by unfold rot; omega] at l3
    rw [ai.pl509, dT (by omega), cond_true, s_twist hc hg hn hk', Option.bind_some, ag.pl509, dT hk', cond_true, ixn (l := twl fc g col n) (by rw [twl_len]; exact hk'), Option.bind_some, gt_twl hk', e4, e5, ixn (l := reg) (n := 4 * k) (by rw [hg.len]; omega), Option.bind_some, hg.at_ _ (by omega), ixn (l := full N g) (by rw [full_len]; exact hc.lt _ (by omega)), Option.bind_some, gt_full (hc.lt _ (by omega))]
    by_cases c : ci (g (fc (4 * k))) = col
    · have w1 : ci (g (fc (4 * k + 1))) ≠ col := by rw [l1, ← ci_not, c]; omega
      have ht : tw fc g col k = -1 := by unfold tw; rw [if_neg w1]
      obtain ⟨E', q1, q2, q3⟩ := g_step (F := F) (C := ai.pl509 F gg) (C' := ag.pl509 F gg) (D := D) (tv := tw fc g col k) (tn := (n : Int)) (tws := twl fc g col n) (p := 1) (k := k) (e := 4 * k + 1) hc hg hn hm hcw h1 h2 h3 h4 hF (by omega) (by rw [e4, e5]) w1 (by rw [show 4 * k + 1 + 2 = 4 * k + 3 by omega, l3, l2, Bool.not_not]; exact w1) hE
      obtain ⟨E2, r1, r2, r3⟩ := ih gg (k + 1) E' (by omega) (by omega) (by omega) q1
      rw [c, beq_self_eq_true, cond_true, show decide (tw fc g col k < 0) = true from decide_eq_true (by omega), cond_true, q2, q3, ws (by omega)]
      exact ⟨E2, r1, r2, r3⟩
    · have w1 : ci (g (fc (4 * k + 1))) = col := by
        rw [l1, ← ci_not]
        have := ci_01 (g (fc (4 * k)))
        omega
      have ht : tw fc g col k = 1 := by unfold tw; rw [if_pos w1]
      obtain ⟨E', q1, q2, q3⟩ := g_step (F := F) (C := ai.pl509 F gg) (C' := ag.pl509 F gg) (D := D) (tv := tw fc g col k) (tn := (n : Int)) (tws := twl fc g col n) (p := 0) (k := k) (e := 4 * k) hc hg hn hm hcw h1 h2 h3 h4 hF (by omega) (by rw [e4, e6]) c (by rw [l2, l1, Bool.not_not]; exact c) hE
      obtain ⟨E2, r1, r2, r3⟩ := ih gg (k + 1) E' (by omega) (by omega) (by omega) q1
      rw [show (ci (g (fc (4 * k))) == col) = false from beq_eq_false_iff_ne.mpr c, cond_false, show decide (tw fc g col k < 0) = false from decide_eq_false (by omega), cond_false, q2, q3, ws (by omega)]
      exact ⟨E2, r1, r2, r3⟩
end
theorem goer_both {D : List Cr} {c : Int} {t : Tb} {R : List (List Int)} {s u : List Int} (h : DG F D c t R s u) (hF : 5000 < F) {col : Int} (hcol : 0 ≤ col ∧ col ≤ 1) (h0 : 0 < D.length) : ∃ (m : Nat) (E : List Int), (E.length = m * m ∧ m ≤ 400) ∧ ai.p F D col = some ((m : Int), (m : Int), E) ∧ ag.p F D t.1 t.2 col = some ((m : Int), (m : Int), E) := by
  obtain ⟨g, reg, hc, hg, e1, e2, e3, e4⟩ := colors_both h hF
  have hl := h.len
  have hR := h.rg.le
  have hit : aW.p F D t.1 t.2 col = some (twl (cix R) g col D.length) := by
    unfold aW.p
    rw [e2, Option.bind_some, e4, Option.bind_some]
    exact i_twl hc hg (by omega) D.length F 0 (by omega) (by omega) (by omega)
  have hpos : 0 < cw g col R.length := by
    have a0 := hc.lt 0 (by omega)
    have a1 := hc.lt (rot 0) (rot_lt (by omega))
    have fl := hc.flip 0 (by omega)
    by_cases q : ci (g (cix R 0)) = col
    · have : ci (g (cix R (rot 0))) ≠ col := by rw [fl, ← ci_not, q]; omega
      have := cw_lt a1 this; omega
    · have := cw_lt a0 q; omega
  have hle := cw_le (g := g) (col := col) R.length
  obtain ⟨m, hm⟩ : ∃ m, m + 1 = cw g col R.length := ⟨cw g col R.length - 1, by omega⟩
  have hmi : (cw g col R.length : Int) - 1 = (m : Int) := by omega
  have hmm : m * m ≤ 160000 := Nat.mul_le_mul (show m ≤ 400 by omega) (show m ≤ 400 by omega)
  have z1 : mkn (IntKind.i64.wrap ((m : Int) * (m : Int))) (0 : Int) = some (List.replicate (m * m) 0) := by
    rw [show (m : Int) * (m : Int) = ((m * m : Nat) : Int) by rw [Int.natCast_mul], wn (by omega), mkn_of (by omega)]
  -- the result, told once
  have res : ∀ nums nums' : List Int, nums.length = R.length → Nm R.length g col R.length nums → nums'.length = R.length → Nm R.length g col R.length nums' →
      ∃ E : List Int, E.length = m * m ∧ ai.pj14 F col D reg (full R.length g) nums ((cw g col R.length : Int) - 1) = some ((m : Int), (m : Int), E) ∧ ag.pj16 F col D t.1 t.2 reg nums' ((cw g col R.length : Int) - 1) = some ((m : Int), (m : Int), E) := fun nums nums' k1 k2 k3 k4 => by
    obtain ⟨E, x1, x2, x3⟩ := g_l (F := F) (D := D) hc hg (by omega) (by omega) hm k1 k2 k3 k4 (by omega) hcol rfl D.length F 0 (List.replicate (m * m) 0) (by omega) (by omega) (by omega) (by simp)
    refine ⟨E, x1, ?_, ?_⟩
    · unfold ai.pj14 bG.p
      rw [hmi, z1, Option.bind_some, Option.bind_some]; exact x2
    · unfold ag.pj16 bE.p
      rw [hmi, z1, Option.bind_some, Option.bind_some, hit, Option.bind_some, twl_len]; exact x3
  -- the numbers of each side
  have sN := fun Z hz => s_nums (F := F) (g := g) (reg := reg) (col := col) (D := D) (N := R.length) (Z := Z) (by omega) hz R.length F 0 [] (by omega) (by omega) (by omega) rfl (fun j a => by omega)
  have iN := fun Z hz => i_nums (F := F) (g := g) (reg := reg) (col := col) (D := D) (N := R.length) (Z := Z) (a := t.1) (b := t.2) (by omega) hz R.length F 0 (List.replicate R.length 0) (by omega) (by omega) (by omega) (by simp) (fun j a => by omega)
  have ex : ∃ nums0 : List Int, nums0.length = R.length ∧ Nm R.length g col R.length nums0 := ⟨(List.range R.length).map fun j => (cw g col j : Int) - 1, by simp, fun j a _ _ => by
    have := gt_get (l := (List.range R.length).map fun j => (cw g col j : Int) - 1) (n := j) (by simpa using a)
    rw [List.getElem?_map, List.getElem?_range a] at this
    exact (Option.some.inj this).symm⟩
  obtain ⟨n0, y1, y2⟩ := ex
  obtain ⟨E, w1, w2, w3⟩ := res n0 n0 y1 y2 y1 y2
  refine ⟨m, E, ⟨w1, by omega⟩, ?_, ?_⟩
  · unfold ai.p
    rw [e1, Option.bind_some, e3, Option.bind_some]
    exact sN _ fun l a b => by
      obtain ⟨E', v1, v2, v3⟩ := res l n0 a b y1 y2
      rw [w3] at v3
      rw [v2, ← v3]
  · unfold ag.p
    rw [e2, Option.bind_some, e4, Option.bind_some, mkn_of (by rw [full_len]; omega), Option.bind_some, full_len]
    exact iN _ fun l a b => by
      obtain ⟨E', v1, v2, v3⟩ := res n0 l y1 y2 a b
      rw [w2] at v2
      rw [v3, ← v2]
end Go.Proofs.Ytppbogklbhfboaa.AE
end
section
namespace Go.Proofs.Ytppbogklbhfboaa.AE
open Go Go.AE Go.Proofs
variable {F : Nat}
theorem ne_idx {m p k j c : Nat} (h : p ≠ k) (hj : j < m) (hc : c < m) : p * m + j ≠ k * m + c := fun e => by
  have h1 : (p * m + j) / m = p := by rw [Nat.mul_comm, Nat.mul_add_div (by omega), Nat.div_eq_of_lt hj, Nat.add_zero]
  have h2 : (k * m + c) / m = k := by rw [Nat.mul_comm, Nat.mul_add_div (by omega), Nat.div_eq_of_lt hc, Nat.add_zero]
  rw [e, h2] at h1; exact h h1.symm
theorem in_m {m a b : Nat} (ha : a < m) (hb : b < m) : a * m + b < m * m := by
  have := Nat.mul_le_mul_right m (show a + 1 ≤ m by omega)
  rw [Nat.add_mul, Nat.one_mul] at this; omega
theorem at_m {E : List Int} {m a b : Nat} (hm : m ≤ 400) (ha : a < m) (hb : b < m) (hE : E.length = m * m) : a_.p F (m : Int) E (a : Int) (b : Int) = some (gt E (a * m + b)) := by
  unfold a_.p
  rw [ixm hm ha hb hE, Option.bind_some]
abbrev DS := Int → Int → List Int → Int → Int → Int → Option Int
abbrev DI := Int → Int → List Int → Int → Int → Int → Int → Option (Int × List Int)
section
variable {n : Nat}
theorem pivot_l {C : DS} {C' : DI} (hn : n ≤ 400) {E : List Int} (hE : E.length = n * n) {s l : Int} {k : Nat} (hk : k < n) : ∀ (d gg p : Nat), n - p = d → d < gg → p ≤ n →
    ∃ p', p' ≤ n ∧ (p' < n → gt E (p' * n + k) ≠ 0) ∧ ah.pl4010 F C gg (n : Int) (n : Int) E s l (k : Int) (p : Int) = ah.pj17 F C (n : Int) (n : Int) E s l (k : Int) (p' : Int) ∧
      ae.pl3766 F C' gg (n : Int) (n : Int) E s l (n : Int) (k : Int) (k : Int) (p : Int) = ae.pj21 F C' (n : Int) (n : Int) E s l (k : Int) (p' : Int) (n : Int) (k : Int) := by
  intro d
  induction d with
  | zero =>
    intro gg p hd hgg hp
    obtain ⟨gg, rfl⟩ : ∃ g', gg = g' + 1 := ⟨gg - 1, by omega⟩
    refine ⟨p, hp, fun q => by omega, ?_, ?_⟩
    · rw [ah.pl4010, dF (by omega), cond_false]
    · rw [ae.pl3766, dF (by omega), cond_false]
  | succ d ih =>
    intro gg p hd hgg hp
    obtain ⟨gg, rfl⟩ : ∃ g', gg = g' + 1 := ⟨gg - 1, by omega⟩
    have hp' : p < n := by omega
    rw [ah.pl4010, dT hp', cond_true, at_m hn hp' hk hE, Option.bind_some, ae.pl3766, dT hp', cond_true, ixm hn hp' hk hE, Option.bind_some, ws (by omega)]
    by_cases c : gt E (p * n + k) = 0
    · rw [c, beq_self_eq_true, cond_true, cond_true]
      exact ih gg (p + 1) (by omega) (by omega) (by omega)
    · rw [show (gt E (p * n + k) == 0) = false from beq_eq_false_iff_ne.mpr c, cond_false, cond_false]
      exact ⟨p, hp, fun _ => c, rfl, rfl⟩
theorem swap_l {C' : DI} (hn : n ≤ 400) {s l : Int} {k p : Nat} (hk : k < n) (hp : p < n) (hne : p ≠ k) : ∀ (d gg j : Nat) (E : List Int), n - j = d → d < gg → j ≤ n → E.length = n * n → (j ≤ k → gt E (p * n + k) ≠ 0) → (k < j → gt E (k * n + k) ≠ 0) →
    ∃ E', E'.length = n * n ∧ gt E' (k * n + k) ≠ 0 ∧ aY.pl7 F gg (p : Int) (k : Int) (n : Int) E (j : Int) = some E' ∧
      ae.pl241131 F C' gg (n : Int) (n : Int) E s l (n : Int) (k : Int) (k : Int) (p : Int) (n : Int) (j : Int) = ae.pj19 F C' (n : Int) (n : Int) E' s l (k : Int) (n : Int) (k : Int) := by
  intro d
  induction d with
  | zero =>
    intro gg j E hd hgg hj hE h1 h2
    obtain ⟨gg, rfl⟩ : ∃ g', gg = g' + 1 := ⟨gg - 1, by omega⟩
    refine ⟨E, hE, h2 (by omega), ?_, ?_⟩
    · rw [aY.pl7, dF (by omega), cond_false]
    · rw [ae.pl241131, dF (by omega), cond_false]
  | succ d ih =>
    intro gg j E hd hgg hj hE h1 h2
    obtain ⟨gg, rfl⟩ : ∃ g', gg = g' + 1 := ⟨gg - 1, by omega⟩
    have hj' : j < n := by omega
    have i1 := in_m hp hj'
    have i2 := in_m hk hj'
    have x1 := ne_idx (m := n) hne hj' hj'
    rw [aY.pl7, dT hj', cond_true, at_m hn hp hj' hE, Option.bind_some, at_m hn hk hj' hE, Option.bind_some, ixm hn hp hj' hE, Option.bind_some, Option.bind_some, ixm hn hk hj' (by rw [List.length_set, hE]), Option.bind_some, Option.bind_some,
      ae.pl241131, dT hj', cond_true, ixm hn hk hj' hE, Option.bind_some, ixm hn hp hj' hE, Option.bind_some, Option.bind_some, Option.bind_some, ws (by omega), List.set_comm _ _ x1]
    refine ih gg (j + 1) _ (by omega) (by omega) (by omega) (by simp [hE]) (fun q => ?_) (fun q => ?_)
    · have x2 := ne_idx (m := n) (Ne.symm hne) hj' hk
      have x3 : p * n + j ≠ p * n + k := by omega
      rw [gset_ne x3, gset_ne x2]; exact h1 (by omega)
    · have x2 := ne_idx (m := n) hne hj' hk
      rw [gset_ne x2]
      by_cases e : j = k
      · subst e; rw [gset_eq (by omega)]; exact h1 (Nat.le_refl _)
      · rw [gset_ne (by omega)]; exact h2 (by omega)
theorem row_l {C : DS} {C' : DI} {C2 : Int → Int → List Int → Int → Int → Int → Int → Option Int} {C2' : Int → Int → List Int → Int → Int → Int → Int → Int → Int → Option (Int × List Int)} (hn : n ≤ 400) {s l : Int} (hl : l ≠ 0) {k i : Nat} (hk : k < i) (hi : i < n) : ∀ (d gg j : Nat) (E : List Int), n - j = d → d < gg → j ≤ n → E.length = n * n →
    ∃ E', E'.length = n * n ∧ gt E' (k * n + k) = gt E (k * n + k) ∧ ah.pl1027029 F C C2 gg (n : Int) (n : Int) E s l (k : Int) (i : Int) (j : Int) = C2 (n : Int) (n : Int) E' s l (k : Int) ((i + 1 : Nat) : Int) ∧
      ae.pl964565 F C' C2' gg (n : Int) (n : Int) E s l (n : Int) (k : Int) (k : Int) (i : Int) (j : Int) = C2' (n : Int) (n : Int) E' s l (n : Int) (k : Int) (k : Int) ((i + 1 : Nat) : Int) := by
  intro d
  induction d with
  | zero =>
    intro gg j E hd hgg hj hE
    obtain ⟨gg, rfl⟩ : ∃ g', gg = g' + 1 := ⟨gg - 1, by omega⟩
    refine ⟨E, hE, rfl, ?_, ?_⟩
    · rw [ah.pl1027029, dF (by omega), cond_false]
      unfold ah.pj15 ah.pj14
      rw [ws (by omega)]
    · rw [ae.pl964565, dF (by omega), cond_false]
      unfold ae.pj17 ae.pj16
      rw [ws (by omega)]
  | succ d ih =>
    intro gg j E hd hgg hj hE
    obtain ⟨gg, rfl⟩ : ∃ g', gg = g' + 1 := ⟨gg - 1, by omega⟩
    have hj' : j < n := by omega
    have hk' : k < n := by omega
    obtain ⟨E', q1, q2, q3, q4⟩ := ih gg (j + 1) (E.set (i * n + j) (IntKind.i64.wrap (Int.tdiv (IntKind.i64.wrap ((IntKind.i64.wrap (gt E (i * n + j) * gt E (k * n + k))) - (IntKind.i64.wrap (gt E (i * n + k) * gt E (k * n + j))))) l))) (by omega) (by omega) (by omega) (by simp [hE])
    rw [gset_ne (ne_idx (by omega) hj' hk')] at q2
    refine ⟨E', q1, q2, ?_, ?_⟩
    · rw [ah.pl1027029, dT hj', cond_true, at_m hn hi hj' hE, Option.bind_some, at_m hn hk' hk' hE, Option.bind_some, at_m hn hi hk' hE, Option.bind_some, at_m hn hk' hj' hE, Option.bind_some, if_neg hl, ixm hn hi hj' hE, Option.bind_some, Option.bind_some, ws (by omega)]
      exact q3
    · rw [ae.pl964565, dT hj', cond_true, ixm hn hi hj' hE, Option.bind_some, Option.bind_some, ixm hn hk' hk' hE, Option.bind_some, ixm hn hi hk' hE, Option.bind_some, ixm hn hk' hj' hE, Option.bind_some, if_neg hl, Option.bind_some, ws (by omega)]
      exact q4
theorem rows_l {C : DS} {C' : DI} (hn : n ≤ 400) (hF : 1000 < F) {s l : Int} (hl : l ≠ 0) {k : Nat} : ∀ (d gg i : Nat) (E : List Int), n - i = d → d < gg → k < i → i ≤ n → E.length = n * n →
    ∃ E', E'.length = n * n ∧ gt E' (k * n + k) = gt E (k * n + k) ∧ ah.pl64189 F C gg (n : Int) (n : Int) E s l (k : Int) (i : Int) = C (n : Int) (n : Int) E' s (gt E' (k * n + k)) ((k + 1 : Nat) : Int) ∧
      ae.pl60285 F C' gg (n : Int) (n : Int) E s l (n : Int) (k : Int) (k : Int) (i : Int) = C' (n : Int) (n : Int) E' s (gt E' (k * n + k)) (n : Int) ((k + 1 : Nat) : Int) := by
  intro d
  induction d with
  | zero =>
    intro gg i E hd hgg hk hi hE
    obtain ⟨gg, rfl⟩ : ∃ g', gg = g' + 1 := ⟨gg - 1, by omega⟩
    have hk' : k < n := by omega
    refine ⟨E, hE, rfl, ?_, ?_⟩
    · rw [ah.pl64189, dF (by omega), cond_false]
      unfold ah.pj13 ah.pj12
      rw [at_m hn hk' hk' hE, Option.bind_some, ws (by omega)]
    · rw [ae.pl60285, dF (by omega), cond_false]
      unfold ae.pj15 ae.pj14
      rw [ixm hn hk' hk' hE, Option.bind_some, ws (by omega)]
  | succ d ih =>
    intro gg i E hd hgg hk hi hE
    obtain ⟨gg, rfl⟩ : ∃ g', gg = g' + 1 := ⟨gg - 1, by omega⟩
    have hi' : i < n := by omega
    obtain ⟨E1, a1, a2, a3, a4⟩ := row_l (F := F) (C := C) (C' := C') (C2 := ah.pl64189 F C gg) (C2' := ae.pl60285 F C' gg) hn (s := s) hl hk hi' (n - (k + 1)) F (k + 1) E rfl (by omega) (by omega) hE
    obtain ⟨E2, b1, b2, b3, b4⟩ := ih gg (i + 1) E1 (by omega) (by omega) (by omega) (by omega) a1
    refine ⟨E2, b1, b2.trans a2, ?_, ?_⟩
    · rw [ah.pl64189, dT hi', cond_true, ws (by omega), a3]; exact b3
    · rw [ae.pl60285, dT hi', cond_true, ws (by omega), a4]; exact b4
theorem wrap_in (x : Int) : -9223372036854775808 ≤ IntKind.i64.wrap x ∧ IntKind.i64.wrap x ≤ 9223372036854775807 := by
  unfold IntKind.wrap; simp [IntKind.bits, IntKind.signed]; omega
theorem det_l (hn : n ≤ 400) (hF : 1000 < F) : ∀ (d gg k : Nat) (E : List Int) (s l : Int), n - k = d → d < gg → k ≤ n → E.length = n * n → l ≠ 0 →
    ∃ (r : Int) (z : List Int), (-9223372036854775808 ≤ r ∧ r ≤ 9223372036854775807) ∧ ah.pl125 F gg (n : Int) (n : Int) E s l (k : Int) = some r ∧ ae.pl29 F gg (n : Int) (n : Int) E s l (n : Int) (k : Int) = some (r, z) := by
  intro d
  induction d with
  | zero =>
    intro gg k E s l hd hgg hk hE hl
    obtain ⟨gg, rfl⟩ : ∃ g', gg = g' + 1 := ⟨gg - 1, by omega⟩
    refine ⟨_, E, wrap_in (s * l), ?_, ?_⟩
    · rw [ah.pl125, dF (by omega), cond_false]; rfl
    · rw [ae.pl29, dF (by omega), cond_false]; rfl
  | succ d ih =>
    intro gg k E s l hd hgg hk hE hl
    obtain ⟨gg, rfl⟩ : ∃ g', gg = g' + 1 := ⟨gg - 1, by omega⟩
    have hk' : k < n := by omega
    obtain ⟨p, p1, p2, p3, p4⟩ := pivot_l (F := F) (C := ah.pl125 F gg) (C' := ae.pl29 F gg) hn hE (s := s) (l := l) hk' (n - k) F k rfl (by omega) hk
    rw [ah.pl125, dT hk', cond_true, p3, ae.pl29, dT hk', cond_true, p4]
    unfold ah.pj17 ae.pj21
    by_cases c : p = n
    · rw [show ((p : Int) == (n : Int)) = true from beq_iff_eq.mpr (by omega), cond_true, cond_true]
      exact ⟨0, E, by omega, rfl, rfl⟩
    · have hp : p < n := by omega
      have hpv := p2 hp
      rw [show ((p : Int) == (n : Int)) = false from beq_eq_false_iff_ne.mpr (by omega), cond_false, cond_false]
      by_cases c2 : p = k
      · rw [show ((p : Int) != (k : Int)) = false by simp; omega, cond_false, cond_false]
        unfold ah.pj16 ae.pj20
        rw [ws (by omega)]
        obtain ⟨E', q1, q2, q3, q4⟩ := rows_l (F := F) (C := ah.pl125 F gg) (C' := ae.pl29 F gg) hn hF (s := s) hl (k := k) (n - (k + 1)) F (k + 1) E rfl (by omega) (by omega) (by omega) hE
        rw [q3, q4]
        exact ih gg (k + 1) E' s _ (by omega) (by omega) (by omega) q1 (by rw [q2]; rw [c2] at hpv; exact hpv)
      · rw [show ((p : Int) != (k : Int)) = true by simp; omega, cond_true, cond_true]
        unfold aY.p
        obtain ⟨E1, a1, a2, a3, a4⟩ := swap_l (F := F) (C' := ae.pl29 F gg) hn (s := IntKind.i64.wrap (0 - s)) (l := l) hk' hp c2 n F 0 E (by omega) (by omega) (by omega) hE (fun _ => hpv) (fun q => by omega)
        rw [show ((0 : Nat) : Int) = 0 from rfl] at a3 a4
        rw [a3, a4, Option.bind_some]
        unfold ah.pj16 ae.pj19 ae.pj18
        rw [ws (by omega)]
        obtain ⟨E', q1, q2, q3, q4⟩ := rows_l (F := F) (C := ah.pl125 F gg) (C' := ae.pl29 F gg) hn hF (s := IntKind.i64.wrap (0 - s)) hl (k := k) (n - (k + 1)) F (k + 1) E1 rfl (by omega) (by omega) (by omega) a1
        rw [q3, q4]
        exact ih gg (k + 1) E' _ _ (by omega) (by omega) (by omega) q1 (by rw [q2]; exact a2)
theorem det_both (hn : n ≤ 400) (hF : 1000 < F) {E : List Int} (hE : E.length = n * n) (hE2 : E.length ≤ 2000000) : ∃ (r : Int) (z : List Int), (-9223372036854775808 ≤ r ∧ r ≤ 9223372036854775807) ∧ ah.p F (n : Int) E = some r ∧ ae.p F (n : Int) (n : Int) E = some (r, z) := by
  obtain ⟨r, z, h0, h1, h2⟩ := det_l (F := F) hn hF n F 0 E 1 1 (by omega) (by omega) (by omega) hE (by decide)
  refine ⟨r, z, h0, ?_, h2⟩
  unfold ah.p
  rw [apn_of (by simp; omega), Option.bind_some, List.nil_append]
  exact h1
end
theorem abs_both {r : Int} (h : -9223372036854775808 ≤ r ∧ r ≤ 9223372036854775807) : ∃ v, cf.p F r = some v ∧ cm.p F r = some v := by
  unfold cf.p cm.p
  by_cases c : r < 0
  · rw [decide_eq_true c, cond_true]
    by_cases c2 : r = -9223372036854775808
    · subst c2; exact ⟨_, rfl, by decide⟩
    · rw [w64_in (by omega) (by omega), if_pos (by omega)]; exact ⟨_, rfl, rfl⟩
  · rw [decide_eq_false c, cond_false, w64_in (by omega) (by omega), if_neg (by omega)]; exact ⟨_, rfl, rfl⟩
end Go.Proofs.Ytppbogklbhfboaa.AE
end
section
namespace Go.Proofs.Ytppbogklbhfboaa.AE
open Go Go.AE Go.Proofs
variable {F : Nat}
theorem rk_pos {t : List Int} {n : Nat} (h : gt t 0 = 0) (hn : 0 < n) : 0 < rk t n := by
  have h1 : rk t 1 = 1 := by rw [rk, h]; rfl
  have := rk_mono t (show 1 ≤ n by omega)
  omega
theorem gd_both {D : List Cr} {c : Int} (hl : D.length ≤ 2000000) (hF : 5000000 < F) : ∃ r, bX.p F D c = some r ∧ bZ.p F D c = some r := by
  unfold bX.p bZ.p cj.p
  rcases isD (F := F) (c := c) hl hF with ⟨a, b, _⟩ | ⟨a, b, t, R, s, u, h⟩
  · rw [a, b]; exact ⟨_, rfl, rfl⟩
  · rw [a, b]
    have hlen := h.len
    have hc0 := h.c0
    have hc8 := h.c8
    unfold cq.p ck.p
    simp only [Option.bind_some, Bool.not_true, cond_false]
    rw [partCount (by rw [h.uf.lt]; omega) (by omega) h.sP, Option.bind_some, h.uf.lt, h.draw]
    simp only [Option.bind_some]
    rw [h.iP, Option.bind_some, i_classCount h.uf.low (by omega) (by omega), Option.bind_some]
    have hrk := rk_le u D.length
    have w : IntKind.i64.wrap (((rk u D.length : Nat) : Int) + c) = ((rk u D.length : Nat) : Int) + c := w64_in (by omega) (by omega)
    rw [w]
    by_cases h0 : D.length = 0
    · have hz : rk u D.length = 0 := by omega
      rw [hz, h0]
      by_cases c0 : c = 0
      · subst c0; exact ⟨_, rfl, rfl⟩
      · rw [show ((((0 : Nat) : Int) + c) == 0) = false from beq_eq_false_iff_ne.mpr (by omega), cond_false, show (c == 0) = false from beq_eq_false_iff_ne.mpr c0]
        by_cases c1 : c = 1
        · subst c1; exact ⟨_, rfl, rfl⟩
        · rw [decide_eq_true (show ((0 : Nat) : Int) + c > 1 by omega), cond_true, show (c == 1) = false from beq_eq_false_iff_ne.mpr c1]
          exact ⟨_, rfl, rfl⟩
    · obtain ⟨r0, e1, e2, e3⟩ := h.uf.low 0 (by omega)
      have hp : 0 < rk u D.length := rk_pos (by rw [e1]; omega) (by omega)
      rw [show ((((rk u D.length : Nat) : Int) + c) == 0) = false from beq_eq_false_iff_ne.mpr (by omega), cond_false, show ((D.length : Int) == 0) = false from beq_eq_false_iff_ne.mpr (by omega)]
      by_cases hone : rk u D.length = 1 ∧ c = 0
      · obtain ⟨q1, q2⟩ := hone
        subst q2
        rw [q1, decide_eq_false (by decide), cond_false, show (((1 : Nat) : Int) == 0) = false by decide, cond_false, show (((1 : Nat) : Int) == 1) = true by decide]
        obtain ⟨m, E, ⟨g0, g1⟩, g2, g3⟩ := goer_both h (by omega) (col := 0) (by omega) (by omega)
        obtain ⟨r, z, k0, k1, k2⟩ := det_both (F := F) (n := m) (E := E) g1 (by omega) g0 (by have : m * m ≤ 160000 := Nat.mul_le_mul g1 g1; omega)
        obtain ⟨v, v1, v2⟩ := abs_both (F := F) k0
        refine ⟨(v, 0), ?_, ?_⟩
        · rw [g2, Option.bind_some, k1, Option.bind_some, v1, Option.bind_some]
        · simp only [cond_false, bne_self_eq_false, Option.bind_some, cond_true, beq_self_eq_true, g3, k2, v2]
      · rw [decide_eq_true (show ((rk u D.length : Nat) : Int) + c > 1 by omega), cond_true]
        refine ⟨_, rfl, ?_⟩
        simp only [cond_false, bne_self_eq_false, Option.bind_some]
        by_cases q1 : rk u D.length = 1
        · rw [q1, show (((1 : Nat) : Int) == 1) = true by decide, cond_true, show (c == 0) = false from beq_eq_false_iff_ne.mpr (fun e => hone ⟨q1, e⟩)]
          rfl
        · rw [show (((rk u D.length : Nat) : Int) == 1) = false from beq_eq_false_iff_ne.mpr (by omega)]
          rfl
theorem FnExactGoeritzDeterminant_pure : ∀ (af : List (Int × Int × Int × Int × Int)) (ab : Int), af.length ≤ maxLen → (∀ x ∈ af, (Lit.int .i64 x.1).wf = true ∧ (Lit.int .i64 x.2.1).wf = true ∧ (Lit.int .i64 x.2.2.1).wf = true ∧ (Lit.int .i64 x.2.2.2.1).wf = true ∧ (Lit.int .i64 x.2.2.2.2).wf = true) → (Lit.int .i64 ab).wf = true → ∃ F, cC.p F af ab = some true := by
  intro D c hm _ _
  obtain ⟨F, hF⟩ : ∃ F : Nat, F = 1000000000000000 := ⟨_, rfl⟩
  refine ⟨F, ?_⟩
  unfold cC.p
  by_cases hl : D.length ≤ 1048576
  · rw [szDg (by omega), Option.bind_some, if_neg (by omega), decide_eq_false (by omega), cond_false]
    have hF5 : 5000000 < F := by omega
    obtain ⟨r, e1, e2⟩ := gd_both (F := F) (D := D) (c := c) (by omega) hF5
    simp only [toDg hF5 (show D.length ≤ 2000000 by omega), Option.bind_some, e1, e2, Bool.not_true, cond_false, bne_self_eq_false, eqDg hF5 (show D.length ≤ 2000000 by omega)]
  · rw [szBig hm (by omega)]; rfl
end Go.Proofs.Ytppbogklbhfboaa.AE
end
