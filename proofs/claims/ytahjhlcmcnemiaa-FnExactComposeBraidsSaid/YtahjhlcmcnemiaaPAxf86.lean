/- The functions of this text return what their Lean twins (of the same name, .f) compute; written by a program of this session (wip/hp.py). -/
import Derived.Test.YtahjhlcmcnemiaaPAx0
namespace Go.Proofs.Ytahjhlcmcnemiaa.PA
open Go.RowKit Go.Proofs.YtahjhlcmcnemiaaW.PrintWords Go.Proofs.YtahjhlcmcnemiaaW.PrintLast Go.Proofs.YtahjhlcmcnemiaaW.PrintMore
attribute [local go_sem] max2_int min2_int max_two min_two max_three min_three max_four min_four   -- for this text's walks alone
set_option linter.unusedVariables false
set_option linter.unusedSimpArgs false

-- HAND slices.Grow[[]int64,int64]
/-! ### slices_Grow_int64_int64: function 86 -/
def slices_Grow_int64_int64.f (l0 : List Int) (a1 : Int) : Option (List Int) := if 0 ≤ a1 ∧ a1 ≤ 1099511627776 then some [] else none
set_option maxHeartbeats 8000000 in
set_option maxRecDepth 100000 in
theorem slices_Grow_int64_int64.calls_nil (a1 : Int) (r : List Int) (w : World) (hr0 : Kd.C (Kd.int .i64) w none ([] : List Int).length ([] : List Int)) (hc0 : ([] : List Int).length ≤ 0) (h : slices_Grow_int64_int64.f [] a1 = some r) :
    Calls Try.prog 86 #[.slice none 0 0, .int .i64 a1] w fun e w' => ∃ v0_ : Value, e = .returned (v0_) ∧ Kd.R (Kd.int .i64) 2 w' w.heap.size (fun _ => True) v0_ r ∧ Below w.heap.size w w' := by
  have HB := Aside0.mk (Below.refl w.heap.size w)
  have h2 : (0 ≤ a1 ∧ a1 ≤ 1099511627776) ∧ r = [] := by
    unfold slices_Grow_int64_int64.f at h
    by_cases c : 0 ≤ a1 ∧ a1 ≤ 1099511627776
    · rw [if_pos c] at h
      exact ⟨c, (Option.some.inj h).symm⟩
    · rw [if_neg c] at h
      cases h
  obtain ⟨⟨g0, g1⟩, rfl⟩ := h2
  clear h hr0 hc0
  by_cases hz : a1 = 0
  · subst hz
    go_enter Try.func86, Try.ntmps86
    go_wp2
    go_ret
    exact ⟨_, rfl, Kd.R_nil _ _ _ _ _, Below.refl _ _⟩
  · have hpos : 0 < a1 := by omega
    obtain ⟨n, rfl⟩ := Int.eq_ofNat_of_zero_le g0
    have hn0 : 0 < n := by omega
    obtain ⟨y, hy⟩ : ∃ y : List Int, y = ([] : List Int) ++ List.replicate n 0 := ⟨_, rfl⟩
    have hlen : y.length = n := by rw [hy]; simp
    have HY := Aside0.mk hy
    have HLEN := Aside0.mk hlen
    have HN : Aside0 (n ≤ 1099511627776) := ⟨by omega⟩
    clear hy hlen hz
    go_enter Try.func86, Try.ntmps86
    go_wp2_with (at_builtin; refine Kd.R_append_zeros (Kd.int .i64) (w0 := w) w.heap.size rfl (.tmp 20) (.tmp 21) 22 3 2 (.int .i64 0) 8 rfl Try.underlying22 Try.underlying3 info2 rfl (by decide) (by omega) (.slice none 0 0) ([] : List Int) 0 (n : Int) (fun _ => True) rfl rfl rfl ?aF ?aO (by omega) ?aB ?aS ?aL ?_; (case aB => exact HB.out); (case aF => exact (fun _ _ => trivial)); (case aO => exact ((Kd.R_nil _ _ _ _ (fun _ => True)))); (case aS => exact below_size HB.out); (case aL => have := HN.out; simp; omega); intro v1 w8 ho hb hg hat; rw [Int.toNat_natCast, ← HY.out] at ho; have n0_ := Aside0.mk (hb); have n1_ := Aside0.mk (ho); clear HB; have HB := n0_; have HO := n1_; clear n0_ n1_; clear ho hb hg hat; obtain ⟨Ao, co, eo⟩ := Kd.R_slice HO.out; subst eo; obtain ⟨ad, cc, eq1⟩ : ∃ (ad : Addr) (cc : Nat), Ao = some ad := (by obtain ⟨ad, c, e⟩ := Kd.R_slice1 HO.out (by rw [HLEN.out]; exact hn0); injection e with e1 _ _; exact ⟨ad, c, e1⟩); subst eq1; have hle : y.length ≤ co := (Kd.R_reads' HO.out).2.1; obtain ⟨i0, hi, _, hsz, _⟩ := info_parts info2; have hcut := cut_to (P := Try.prog) 22 2 .i64 Try.underlying22 hi (some ad) y.length co 0 (by omega) (by omega) hle; rw [Int.toNat_zero] at hcut; have HO2 := Aside0.mk (Kd.R_take (m := 0) HO.out (by omega)); clear hi hsz hle)
    go_ret
    exact ⟨_, rfl, HO2.out, HB.out⟩


end Go.Proofs.Ytahjhlcmcnemiaa.PA
