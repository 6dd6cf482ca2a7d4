/- The functions of this text return what their Lean twins (of the same name, .f) compute; written by a program of this session (wip/hp.py). -/
import Derived.Test.YtahjhlcmcnemiaaPAx0
import Derived.Test.YtahjhlcmcnemiaaPAxf50
import Derived.Test.YtahjhlcmcnemiaaPAxf51
import Derived.Test.YtahjhlcmcnemiaaPAxf52
namespace Go.Proofs.Ytahjhlcmcnemiaa.PA
open Go.RowKit Go.Proofs.YtahjhlcmcnemiaaW.PrintWords Go.Proofs.YtahjhlcmcnemiaaW.PrintLast Go.Proofs.YtahjhlcmcnemiaaW.PrintMore
attribute [local go_sem] max2_int min2_int max_two min_two max_three min_three max_four min_four   -- for this text's walks alone
set_option linter.unusedVariables false
set_option linter.unusedSimpArgs false

-- HAND loop.example/g00870/impl.TransformColoring
/-! ### impl_TransformColoring: function 16 -/
def impl_TransformColoring.bad (m c : Int) : Bool := !(decide (0 ≤ c) && decide (c ≤ m - 1))
def impl_TransformColoring.cond (m : Int) (l : List Int) (a b : Int) : Bool := !(decide (1 ≤ m) && decide (m ≤ 30)) || (decide (20 < l.length) || (impl_TransformColoring.bad m a || (impl_TransformColoring.bad m b || l.any (impl_TransformColoring.bad m))))
def impl_TransformColoring.one (m a b c : Int) : Int := Int.tmod (wrap64 ((wrap64 (a * c)) + b)) m
def impl_TransformColoring.f (a0 : Int) (l1 : List Int) (a2 a3 : Int) : Option (List Int × Bool) := if impl_TransformColoring.cond a0 l1 a2 a3 = true then some ([], false) else some (l1.map (impl_TransformColoring.one a0 a2 a3), true)
theorem impl_TransformColoring.range_f (x lo hi : Int) : impl_inRange.f x lo hi = some (decide (lo ≤ x) && decide (x ≤ hi)) := by
  unfold impl_inRange.f
  by_cases h : lo ≤ x <;> simp [h]
theorem impl_TransformColoring.modulus_f (m : Int) : impl_isModulus.f m = some (decide (1 ≤ m) && decide (m ≤ 30)) := by
  unfold impl_isModulus.f
  rw [impl_TransformColoring.range_f]
  rfl
set_option maxHeartbeats 2000000 in
theorem impl_TransformColoring.lit (m : Int) (h0 : 1 ≤ m) (h1 : m ≤ 30) (g : Nat) (W : World) (x : Int) (hc : W.cell? ⟨g, 0, none⟩ = some (.int .i64 m)) :
    Calls Try.prog 49 #[.int .i64 x, .pointer (some ⟨g, 0, none⟩)] W fun e w' => e = .returned (.bool (impl_TransformColoring.bad m x)) ∧ ∃ n, w' = W.drewN n := by
  have HL := Aside0.mk (impl_TransformColoring.range_f x 0 (m - 1))
  have HB : Aside0 (impl_TransformColoring.bad m x = !(decide (0 ≤ x) && decide (x ≤ m - 1))) := ⟨rfl⟩
  generalize (decide (0 ≤ x) && decide (x ≤ m - 1)) = q at HL HB
  go_enter Try.func49, Try.ntmps49
  go_wp2_with fail
  refine (impl_inRange.calls x 0 (m - 1) _ _ HL.out).mono ?_
  rintro e w2 ⟨rfl, ⟨n, rfl⟩⟩
  go_wp2
  go_ret
  exact ⟨by rw [HB.out]; rfl, n, rfl⟩
theorem impl_TransformColoring.lit' (m : Int) (h0 : 1 ≤ m) (h1 : m ≤ 30) (g : Nat) (w : World) (hg : g < w.heap.size) (hc : w.cell? ⟨g, 0, none⟩ = some (.int .i64 m)) (W : World) (x : Int) (hb : Below w.heap.size w W) :
    Calls Try.prog 49 (#[.int .i64 x] ++ #[.pointer (some ⟨g, 0, none⟩)]) W fun e w' => e = .returned (.bool (impl_TransformColoring.bad m x)) ∧ Below W.heap.size W w' :=
  (impl_TransformColoring.lit m h0 h1 g W x ((hb.cell (p := ⟨g, 0, none⟩) hg).trans hc)).mono fun e w' ⟨he, n, hw⟩ => ⟨he, hw ▸ pw_below_drewN (Below.refl _ _) n⟩
set_option maxHeartbeats 8000000 in
set_option maxRecDepth 100000 in
theorem impl_TransformColoring.calls_ok (a0 : Int) (A1 : Option Addr) (c1 : Nat) (l1 : List Int) (a2 a3 : Int) (w : World) (hr1 : Kd.C (Kd.int .i64) w A1 l1.length l1) (h0 : 1 ≤ a0) (h1 : a0 ≤ 30) (h2 : l1.length ≤ 20) (h3 : impl_TransformColoring.bad a0 a2 = false) (h4 : impl_TransformColoring.bad a0 a3 = false) (h5 : l1.any (impl_TransformColoring.bad a0) = false) :
    Calls Try.prog 16 #[.int .i64 a0, .slice A1 l1.length c1, .int .i64 a2, .int .i64 a3] w fun e w' => ∃ v0_ : Value, e = .returned (.tuple #[v0_, .bool true]) ∧ Kd.R (Kd.int .i64) 2 w' w.heap.size (fun _ => True) v0_ (l1.map (impl_TransformColoring.one a0 a2 a3)) ∧ Below w.heap.size w w' := by
  have HR := Aside0.mk hr1
  have HM : Aside0 (impl_isModulus.f a0 = some true) := ⟨by rw [impl_TransformColoring.modulus_f]; simp [h0, h1]⟩
  have H3 := Aside0.mk h3
  have H4 := Aside0.mk h4
  have H5 := Aside0.mk h5
  have H0 := Aside0.mk h0
  have H1 := Aside0.mk h1
  have eg : ∀ args w, (callFunc 49 args).run Try.prog w = .ok (.enter 49 args) w := Go.Proofs.enters_of Try.func49 (by kernel_rfl) rfl
  have HLN := Aside0.mk h2
  have c2b : decide (20 < (l1.length : Int)) = false := decide_eq_false (by omega)
  have hz : (a0 == 0) = false := by simp; omega
  have hz2 : ¬ a0 = 0 := by omega
  clear hr1 h0 h1 h2 h3 h4 h5
  go_enter Try.func16, Try.ntmps16
  go_wp2_with fail
  refine (impl_isModulus.calls _ _ _ HM.out).mono ?_
  rintro e w2 ⟨rfl, ⟨n1, rfl⟩⟩
  go_wp2_with fail
  refine (impl_TransformColoring.lit a0 H0.out H1.out w.heap.size _ a2 (by go_simp)).mono ?_
  rw [H3.out]
  rintro e w2 ⟨rfl, n2, rfl⟩
  go_wp2_with fail
  refine (impl_TransformColoring.lit a0 H0.out H1.out w.heap.size _ a3 (by go_simp)).mono ?_
  rw [H4.out]
  rintro e w2 ⟨rfl, n3, rfl⟩
  go_wp2_with fail
  generalize hW : World.drewN _ _ = W
  have HBW : Aside0 (Below w.heap.size w W) := ⟨by rw [← hW]; exact pw_below_drewN (below_alloc (Below.refl _ _) _) _⟩
  have HK : Aside0 (W.heap[w.heap.size]? = some (.cells #[.int .i64 a0] 2 (0, 0))) := ⟨by rw [← hW]; exact blk_drewN (blk_new w _) _⟩
  clear hW
  refine (slices_ContainsFunc_int64_int64.calls 49 #[.pointer (some ⟨w.heap.size, 0, none⟩)] (impl_TransformColoring.bad a0) eg A1 c1 l1 W (Kd.C_below HR.out HBW.out)
        (fun W' x hb => impl_TransformColoring.lit' a0 H0.out H1.out w.heap.size W (blk_lt HK.out) ((blk_cell HK.out 0).trans rfl) W' x hb)).mono ?_
  rw [H5.out]
  rintro e w3 ⟨rfl, hb3⟩
  have HB3 : Aside0 (Below w.heap.size w w3) := ⟨below_step HBW.out hb3⟩
  have HK3 : Aside0 (w3.heap[w.heap.size]? = some (.cells #[.int .i64 a0] 2 (0, 0))) := ⟨blk_below HK.out hb3⟩
  clear HBW HK hb3
  go_wp2
  go_loopg [11, 40] l1.length (fun gg v11 v40 w' => ∃ kk : Nat, kk ≤ l1.length ∧ l1.length - kk ≤ gg ∧ v40 = .int .i64 kk ∧ Aside0 (Kd.R (Kd.int .i64) 2 w' w.heap.size (fun k => k ≠ w.heap.size) v11 ((l1.take kk).map (impl_TransformColoring.one a0 a2 a3))) ∧ Aside0 (Below w.heap.size w w') ∧ Aside0 (w'.heap[w.heap.size]? = some (.cells #[.int .i64 a0] 2 (0, 0))))
  case atStart => exact ⟨0, Nat.zero_le _, by omega, rfl, ⟨Kd.R_nil _ _ _ _ _⟩, HB3, HK3⟩
  case round =>
    obtain ⟨kk, hkk, hg, rfl, HO, HB, HK⟩ := hrel
    clear HB3 HK3
    by_cases hlt : kk < l1.length
    · have hltz : (kk : Int) < (l1.length : Int) := by omega
      obtain ⟨ad, e, hcell⟩ := Kd.at_int HR.out (kk : Int) (by omega) hltz
      cases e
      replace hcell := (HB.out.cell (World.block_lt_of_cell? w _ hcell)).trans hcell
      rw [Int.toNat_natCast] at hcell
      have hm : wr.cell? ⟨w.heap.size, 0, none⟩ = some (.int .i64 a0) := (blk_cell HK.out 0).trans rfl
      have hf := blk_frozen HK.out 0
      have HKL := Aside0.mk (blk_lt HK.out)
      obtain ⟨ys, hys⟩ : ∃ ys : List Int, ys = (l1.take kk).map (impl_TransformColoring.one a0 a2 a3) := ⟨_, rfl⟩
      have HT : Aside0 ((l1.take (kk + 1)).map (impl_TransformColoring.one a0 a2 a3) = ys ++ [impl_TransformColoring.one a0 a2 a3 (rd l1 kk)]) := ⟨by
        rw [hys, List.take_succ_eq_append_getElem hlt, List.map_append]
        simp [rd, List.getD_eq_getElem?_getD, List.getElem?_eq_getElem hlt]⟩
      have HL2 : Aside0 (ys.length < 17592186044416) := ⟨by
        rw [hys, List.length_map, List.length_take]
        have := HLN.out
        omega⟩
      rw [← hys] at HO
      clear hys
      have hlen20 := HLN.out
      obtain ⟨Ao, co, eo⟩ := Kd.R_slice HO.out
      subst eo
      go_wp2_with ((with_reducible refine gate_builtin (b := .append) (xs := #[.tmp 44, .tmp 52]) rfl ?_); at_builtin; refine Kd.R_append (Kd.int .i64) (w0 := w) w.heap.size rfl (.tmp 44) (.tmp 52) 22 2 (.int .i64 0) 8 rfl Try.underlying22 info2 rfl (by decide) (by omega) (.slice Ao ys.length co) ys (impl_TransformColoring.one a0 a2 a3 (rd l1 kk)) [.int .i64 (impl_TransformColoring.one a0 a2 a3 (rd l1 kk))] (fun k => k ≠ w.heap.size) (fun _ => False) rfl rfl ?aP (fun _ hk => hk.elim) ?aF ?aO ?aB ?aS ?aL ?_; (case aP => exact rfl); (case aB => exact HB.out); (case aF => intro k hk; have := HKL.out; omega); (case aO => exact HO.out); (case aS => exact below_size HB.out); (case aL => have := HL2.out; omega); intro v1 w4 ho hb hgr hat; rw [← HT.out] at ho; have n0_ := Aside0.mk hb; have n1_ := Aside0.mk ho; have n2_ := Aside0.mk (blk_grown HK.out hgr (fun hk => HO.out.1 _ hk.symm rfl)); clear HB HO HK ho hb hgr hat hm hf; have HB := n0_; have HO := n1_; have HK := n2_; clear n0_ n1_ n2_)
      go_roundg (l1.length - (kk + 1))
      case measure => omega
      case rel => exact ⟨kk + 1, by omega, by omega, by go_num, HO, HB, HK⟩
    · have hltz : ¬ (kk : Int) < (l1.length : Int) := by omega
      have : kk = l1.length := by omega
      subst this
      rw [List.take_length] at HO
      go_wp2
      go_ret2
      exact ⟨_, rfl, Kd.R_mono HO.out (fun _ _ => trivial), HB.out⟩
set_option maxHeartbeats 8000000 in
set_option maxRecDepth 100000 in
theorem impl_TransformColoring.calls_bad (a0 : Int) (A1 : Option Addr) (c1 : Nat) (l1 : List Int) (a2 a3 : Int) (w : World) (hr1 : Kd.C (Kd.int .i64) w A1 l1.length l1) (hb : impl_TransformColoring.cond a0 l1 a2 a3 = true) :
    Calls Try.prog 16 #[.int .i64 a0, .slice A1 l1.length c1, .int .i64 a2, .int .i64 a3] w fun e w' => e = .returned (.tuple #[.slice none 0 0, .bool false]) ∧ Below w.heap.size w w' := by
  have HR := Aside0.mk hr1
  have eg : ∀ args w, (callFunc 49 args).run Try.prog w = .ok (.enter 49 args) w := Go.Proofs.enters_of Try.func49 (by kernel_rfl) rfl
  by_cases q1 : (decide (1 ≤ a0) && decide (a0 ≤ 30)) = true
  · have HM : Aside0 (impl_isModulus.f a0 = some true) := ⟨by rw [impl_TransformColoring.modulus_f, q1]⟩
    have hq1 : 1 ≤ a0 ∧ a0 ≤ 30 := by simpa using q1
    have H0 := Aside0.mk hq1.1
    have H1 := Aside0.mk hq1.2
    by_cases h2 : 20 < l1.length
    · have c2b : decide (20 < (l1.length : Int)) = true := decide_eq_true (by omega)
      clear hr1 hb q1 hq1 h2
      go_enter Try.func16, Try.ntmps16
      go_wp2_with fail
      refine (impl_isModulus.calls _ _ _ HM.out).mono ?_
      rintro e w2 ⟨rfl, ⟨n1, rfl⟩⟩
      go_wp2
      go_ret2
      exact ⟨rfl, pw_below_drewN (below_alloc (Below.refl _ _) _) _⟩
    · have c2b : decide (20 < (l1.length : Int)) = false := decide_eq_false (by omega)
      cases h3 : impl_TransformColoring.bad a0 a2 with
      | true =>
        have H3 := Aside0.mk h3
        clear hr1 hb q1 hq1 h2 h3
        go_enter Try.func16, Try.ntmps16
        go_wp2_with fail
        refine (impl_isModulus.calls _ _ _ HM.out).mono ?_
        rintro e w2 ⟨rfl, ⟨n1, rfl⟩⟩
        go_wp2_with fail
        refine (impl_TransformColoring.lit a0 H0.out H1.out w.heap.size _ a2 (by go_simp)).mono ?_
        rw [H3.out]
        rintro e w2 ⟨rfl, n2, rfl⟩
        go_wp2
        go_ret2
        exact ⟨rfl, pw_below_drewN (below_alloc (Below.refl _ _) _) _⟩
      | false =>
        have H3 := Aside0.mk h3
        cases h4 : impl_TransformColoring.bad a0 a3 with
        | true =>
          have H4 := Aside0.mk h4
          clear hr1 hb q1 hq1 h2 h3 h4
          go_enter Try.func16, Try.ntmps16
          go_wp2_with fail
          refine (impl_isModulus.calls _ _ _ HM.out).mono ?_
          rintro e w2 ⟨rfl, ⟨n1, rfl⟩⟩
          go_wp2_with fail
          refine (impl_TransformColoring.lit a0 H0.out H1.out w.heap.size _ a2 (by go_simp)).mono ?_
          rw [H3.out]
          rintro e w2 ⟨rfl, n2, rfl⟩
          go_wp2_with fail
          refine (impl_TransformColoring.lit a0 H0.out H1.out w.heap.size _ a3 (by go_simp)).mono ?_
          rw [H4.out]
          rintro e w2 ⟨rfl, n3, rfl⟩
          go_wp2
          go_ret2
          exact ⟨rfl, pw_below_drewN (below_alloc (Below.refl _ _) _) _⟩
        | false =>
          have H4 := Aside0.mk h4
          have H5 : Aside0 (l1.any (impl_TransformColoring.bad a0) = true) := ⟨by
            unfold impl_TransformColoring.cond at hb
            rw [q1, h3, h4, decide_eq_false h2] at hb
            simpa using hb⟩
          clear hr1 hb q1 hq1 h2 h3 h4
          go_enter Try.func16, Try.ntmps16
          go_wp2_with fail
          refine (impl_isModulus.calls _ _ _ HM.out).mono ?_
          rintro e w2 ⟨rfl, ⟨n1, rfl⟩⟩
          go_wp2_with fail
          refine (impl_TransformColoring.lit a0 H0.out H1.out w.heap.size _ a2 (by go_simp)).mono ?_
          rw [H3.out]
          rintro e w2 ⟨rfl, n2, rfl⟩
          go_wp2_with fail
          refine (impl_TransformColoring.lit a0 H0.out H1.out w.heap.size _ a3 (by go_simp)).mono ?_
          rw [H4.out]
          rintro e w2 ⟨rfl, n3, rfl⟩
          go_wp2_with fail
          generalize hW : World.drewN _ _ = W
          have HBW : Aside0 (Below w.heap.size w W) := ⟨by rw [← hW]; exact pw_below_drewN (below_alloc (Below.refl _ _) _) _⟩
          have HK : Aside0 (W.heap[w.heap.size]? = some (.cells #[.int .i64 a0] 2 (0, 0))) := ⟨by rw [← hW]; exact blk_drewN (blk_new w _) _⟩
          clear hW
          refine (slices_ContainsFunc_int64_int64.calls 49 #[.pointer (some ⟨w.heap.size, 0, none⟩)] (impl_TransformColoring.bad a0) eg A1 c1 l1 W (Kd.C_below HR.out HBW.out)
                (fun W' x hb => impl_TransformColoring.lit' a0 H0.out H1.out w.heap.size W (blk_lt HK.out) ((blk_cell HK.out 0).trans rfl) W' x hb)).mono ?_
          rw [H5.out]
          rintro e w3 ⟨rfl, hb3⟩
          go_wp2
          go_ret2
          exact ⟨rfl, below_step HBW.out hb3⟩
  · have HM : Aside0 (impl_isModulus.f a0 = some false) := ⟨by rw [impl_TransformColoring.modulus_f, Bool.eq_false_iff.2 q1]⟩
    clear hr1 hb q1
    go_enter Try.func16, Try.ntmps16
    go_wp2_with fail
    refine (impl_isModulus.calls _ _ _ HM.out).mono ?_
    rintro e w2 ⟨rfl, ⟨n1, rfl⟩⟩
    go_wp2
    go_ret2
    exact ⟨rfl, pw_below_drewN (below_alloc (Below.refl _ _) _) _⟩
theorem impl_TransformColoring.calls (a0 : Int) (A1 : Option Addr) (c1 : Nat) (l1 : List Int) (a2 a3 : Int) (r1 : List Int) (r2 : Bool) (w : World) (hr1 : Kd.C (Kd.int .i64) w A1 l1.length l1) (hc1 : l1.length ≤ c1) (h : impl_TransformColoring.f a0 l1 a2 a3 = some (r1, r2)) :
    Calls Try.prog 16 #[.int .i64 a0, .slice A1 l1.length c1, .int .i64 a2, .int .i64 a3] w fun e w' => ∃ v0_ : Value, e = .returned (.tuple #[v0_, .bool r2]) ∧ Kd.R (Kd.int .i64) 2 w' w.heap.size (fun _ => True) v0_ r1 ∧ Below w.heap.size w w' := by
  unfold impl_TransformColoring.f at h
  by_cases hb : impl_TransformColoring.cond a0 l1 a2 a3 = true
  · rw [if_pos hb] at h
    simp only [Option.some.injEq, Prod.mk.injEq] at h
    obtain ⟨rfl, rfl⟩ := h
    exact (impl_TransformColoring.calls_bad a0 A1 c1 l1 a2 a3 w hr1 hb).mono fun e w' ⟨he, hw⟩ => ⟨_, he, Kd.R_nil _ _ _ _ _, hw⟩
  · rw [if_neg hb] at h
    simp only [Option.some.injEq, Prod.mk.injEq] at h
    obtain ⟨rfl, rfl⟩ := h
    have hb' := Bool.eq_false_iff.2 hb
    unfold impl_TransformColoring.cond at hb'
    simp only [Bool.or_eq_false_iff, Bool.not_eq_false', Bool.and_eq_true, decide_eq_true_eq, decide_eq_false_iff_not] at hb'
    obtain ⟨⟨h0, h1⟩, h2, h3, h4, h5⟩ := hb'
    exact impl_TransformColoring.calls_ok a0 A1 c1 l1 a2 a3 w hr1 h0 h1 (by omega) h3 h4 h5


end Go.Proofs.Ytahjhlcmcnemiaa.PA
