/- An argument that reads as data is of the kind that the printed contracts ask: by its type, part by part. -/
import Derived.Test.YtahjhlcmcnemiaaWMore
import Derived.Deep.Slices
import Derived.Lib.SmallJoins
namespace Go.Proofs.Ytahjhlcmcnemiaa.Fits
open Go.ChangeShapes Go.WideShapes Go.RowKit Go.Joins Go.Deep Go.Proofs.YtahjhlcmcnemiaaW.PrintWords Go.Proofs.YtahjhlcmcnemiaaW.PrintLast
set_option linter.unusedVariables false
set_option linter.unusedSimpArgs false

def Fits {α : Type} (P : Program) (t : TypeId) (d : Kd α) (ok : α → Prop) : Prop :=
  ∀ {H : Type} {enc : TypeId × Value → H} {w : World} {fuel : Nat} {cs : List Value} {y : DataW H × List MemPlace}, DataW.trod enc P w 0 (fun _ => true) true fuel t cs = some y → ∃ x, d.K w x cs ∧ ok x

variable {P : Program}
theorem fits_int {t : TypeId} {k : IntKind} (ht : P.underlying t = some (.int k)) : Fits P t (Kd.int k) (fun n => (Lit.int k n).wf = true) := fun h => by
  obtain ⟨n, rfl, _, hw⟩ := DataW.trod_int ht h
  exact ⟨n, rfl, hw⟩
theorem fits_slice {α : Type} [Inhabited α] {d : Kd α} {ok : α → Prop} {t e : TypeId} (ht : P.underlying t = some (.slice e)) (hd : Fits P e d ok) (hsz : P.cellsOf e = d.sz) :
    Fits P t (Kd.slice e d) (fun xs => xs.length ≤ maxLen ∧ ∀ x ∈ xs, ok x) := fun {H enc w fuel cs y} h => by
  rcases open_slice ht h with ⟨rfl, _⟩ | ⟨a, len, cap, m, n, D, Pl, rfl, _, hl, hm, hmm, _, hi⟩
  · exact ⟨[], ⟨none, 0, rfl, Nat.le_refl _, Kd.C_nil d w⟩, by simp, fun x hx => by simp at hx⟩
  · have hcap : m = cap := by simpa using hmm
    obtain ⟨X, hX⟩ := choose_lt (n := len) (p := fun i x => ∃ cs', w.cells? 0 (a.add (i * P.cellsOf e)) (P.cellsOf e) = some cs' ∧ d.K w x cs' ∧ ok x) (fun i hlt => by
      obtain ⟨cs', h1, h2⟩ := hi i (by omega)
      obtain ⟨x, hK, hok⟩ := hd h2
      exact ⟨x, cs', h1, hK, hok⟩)
    have hlen : ((List.range len).map X).length = len := by simp
    refine ⟨(List.range len).map X, ⟨some a, cap, by rw [hlen], by rw [hlen]; exact hl, ?_⟩, by rw [hlen]; exact Nat.le_trans hl hm, fun x hx => ?_⟩
    · refine ⟨rfl, by rw [hlen]; unfold maxLen at hm; omega, fun _ => ⟨a, rfl, fun j p hj => ?_⟩⟩
      obtain ⟨hlt, hp⟩ := List.getElem?_eq_some_iff.1 hj
      rw [hlen] at hlt
      have hp' : X j = p := by simpa using hp
      obtain ⟨cs', h1, hK, _⟩ := hX j hlt
      obtain ⟨_, hcl, hat⟩ := World.cells?_some h1
      rw [hsz] at hcl hat h1
      refine ⟨cs', hcl, hp' ▸ hK, fun i u hu => ?_⟩
      have hil : i < d.sz := by rw [← hcl]; exact (List.getElem?_eq_some_iff.1 hu).1
      have := hat i hil
      rw [hu] at this
      rw [← Go.Deep.add_add]
      exact this
    · obtain ⟨i, hir, rfl⟩ := List.mem_map.1 hx
      obtain ⟨_, _, _, hok⟩ := hX i (List.mem_range.1 hir)
      exact hok
theorem one_of_take {cs : List Value} {v : Value} {j : Nat} (h : (cs.drop j).take 1 = [v]) : cs[j]? = some v := by
  cases hd : cs.drop j with
  | nil => simp [hd] at h
  | cons a l =>
    rw [hd] at h
    have : a = v := by simpa using h
    subst this
    have := congrArg (·[0]?) hd
    simpa using this
end Go.Proofs.Ytahjhlcmcnemiaa.Fits
