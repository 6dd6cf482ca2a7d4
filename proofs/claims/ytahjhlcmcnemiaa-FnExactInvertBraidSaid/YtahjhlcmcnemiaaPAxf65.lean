/- The functions of this text return what their Lean twins (of the same name, .f) compute; written by a program of this session (wip/hp.py). -/
import Derived.LoopIn
import Derived.LoopNIn
import Derived.Maps.AppendAt
import Derived.OwnWalkIn
import Derived.RangeFuncBox
import Derived.RangeFuncLeaves
import Derived.RangeFuncNested
import Derived.Shelf.Abstract
import Derived.TacticsInMore
import Derived.WalkKit
import Derived.Test.YtahjhlcmcnemiaaPAx0
namespace Go.Proofs.Ytahjhlcmcnemiaa.PA
open Go.RowKit Go.Proofs.YtahjhlcmcnemiaaW.PrintWords Go.Proofs.YtahjhlcmcnemiaaW.PrintLast Go.Proofs.YtahjhlcmcnemiaaW.PrintMore
attribute [local go_sem] max2_int min2_int max_two min_two max_three min_three max_four min_four   -- for this text's walks alone
set_option linter.unusedVariables false
set_option linter.unusedSimpArgs false

-- HAND loop.example/g00870/impl.inverse
/-! ### impl_inverse: function 65 -/
open Go.Shelf in
def impl_inverse.upto (l : List Int) (k : Nat) : List (Int × Int) := (List.range k).map fun j => ((((l.length - 1 - j : Nat)) : Int), rd l ((l.length - 1 - j : Nat) : Int))
theorem impl_inverse.upto_succ (l : List Int) (k : Nat) : impl_inverse.upto l (k + 1) = impl_inverse.upto l k ++ [((((l.length - 1 - k : Nat)) : Int), rd l ((l.length - 1 - k : Nat) : Int))] := by simp [impl_inverse.upto, List.range_succ]
theorem impl_inverse.upto_length (l : List Int) (k : Nat) : (impl_inverse.upto l k).length = k := by simp [impl_inverse.upto]
def impl_inverse.neg (ps : List (Int × Int)) : List Int := ps.map fun x => wrap64 (-x.2)
def impl_inverse.f (l0 : List Int) : Option (List Int) := if l0.length ≤ 1000000 then some (impl_inverse.neg (impl_inverse.upto l0 l0.length)) else none

section
open Go.Shelf
attribute [local go_sem] Oper.semAt_some
set_option maxRecDepth 100000 in
set_option maxHeartbeats 4000000 in
theorem impl_inverse.back1 (F : Fence) (n : Nat) (hf : F.fn 90) (hro : F.round = none) (hn : 1 ≤ n) (l Bs n₀ : Nat) (A : Option Addr) (c : Nat) (zs : List Int) (hlen : zs.length ≤ 1000000)
    (J Jx : List (Int × Int) → World → Prop)
    (hY : ∀ pre x W, J pre W → pre.length < zs.length → YieldAt F (n - 1) Try.prog l #[.int .i64 x.1, .int .i64 x.2] W fun e W' =>
      (e = .returned (.bool true) ∧ J (pre ++ [x]) W' ∧ (Below n₀ W W' ∧ (∀ v, Boxed W Bs 22 v → Boxed W' Bs 22 v))) ∨ (e = .returned (.bool false) ∧ Jx (pre ++ [x]) W'))
    (W : World) (hBs : Boxed W Bs 22 (.slice A zs.length c)) (hc : ∀ j : Nat, j < zs.length → ∃ ad, A = some ad ∧ ad.block < n₀ ∧ W.cell? (ad.add j) = some (.int .i64 (rd zs (j : Int)))) (h0 : J [] W) :
    CallsIn F n Try.prog 90 #[.func (.yield l) #[] #[], .pointer (some ⟨Bs, 0, none⟩)] W fun e W' => (∃ v, e = .returned v) ∧
      ((∃ ys, ys = impl_inverse.upto zs zs.length ∧ J ys W') ∨ (∃ pre, True ∧ Jx pre W')) := by
  refine callsIn_of_wp Try.func90 rfl hf ?_ hro
  simp only [Try.ntmps90, List.size_toArray, List.length_cons, List.length_nil, Nat.reduceAdd, Nat.reduceSub, Array.replicate_succ, Array.replicate_zero, List.push_toArray, List.append_toArray, List.nil_append, List.cons_append]
  have hcB := hBs.cell
  gi_wp2
  gi_loopw [3] (fun i wr => ∃ k : Nat, k ≤ zs.length ∧ i = .int .i64 ((zs.length : Int) - 1 - k) ∧ J (impl_inverse.upto zs k) wr ∧ Below n₀ W wr ∧ Boxed wr Bs 22 (.slice A zs.length c))
    (fun i _ => (intOf i + 1).toNat)
  case atStart => exact ⟨0, Nat.zero_le _, by simp [IntKind.wrap, wrap64] <;> omega, h0, Below.refl _ _, hBs⟩
  case round =>
    obtain ⟨k, hk, rfl, hJs, hnx, hbx⟩ := hrel
    by_cases hlt : k < zs.length
    · obtain ⟨ad, rfl, had, hcell⟩ := hc (zs.length - 1 - k) (by omega)
      have hcw : wr.cell? (ad.add (zs.length - 1 - k)) = some (.int .i64 (rd zs ((zs.length - 1 - k : Nat) : Int))) := (hnx.cell (by rw [add_block]; exact had)).trans hcell
      have hbc := hbx.cell
      obtain ⟨fn, tmps, assign, body, hy, hR⟩ := hY _ ((((zs.length - 1 - k : Nat)) : Int), rd zs ((zs.length - 1 - k : Nat) : Int)) wr hJs (by rw [impl_inverse.upto_length]; exact hlt)
      dsimp only at hy
      have hge : ((zs.length : Int) - 1 - k) ≥ 0 := by omega
      obtain ⟨m, hm⟩ : ∃ m : Nat, m = zs.length - 1 - k := ⟨_, rfl⟩
      have hmi : ((zs.length : Int) - 1 - k) = (m : Int) := by omega
      rw [hmi]
      rw [← hm] at hcw hy hR
      have hml : (m : Int) < (zs.length : Int) := by omega
      have hm' := Aside0.mk hm
      have hmi' := Aside0.mk hmi
      clear hm hmi hge hcell hcB
      have hmg : (0 : Int) ≤ (m : Int) := by omega
      gi_wp2
      refine hR.mono ?_
      rintro e W3 (⟨rfl, hJ3, hk3, hk4⟩ | ⟨rfl, hJx3⟩)
      · gi_wp2
        go_roundw
        case rel => exact ⟨k + 1, by omega, by have h1_ := hm'.out; have h2_ := hmi'.out; congr 1; push_cast; omega, by rw [impl_inverse.upto_succ, ← hm'.out]; exact hJ3, hnx.trans hk3, hk4 _ hbx⟩
        case measure => simp [intOf]; try omega
      · gi_wp2
        refine bodyPost_ret (results_none rfl _ _ _) rfl ?_
        exact ⟨⟨_, rfl⟩, .inr ⟨_, trivial, hJx3⟩⟩
    · obtain rfl : k = zs.length := by omega
      gi_wp2
      go_end0
      exact ⟨⟨_, rfl⟩, .inl ⟨_, rfl, hJs⟩⟩

set_option maxHeartbeats 1000000 in
theorem impl_inverse.back (F : Fence) (n : Nat) (hf : F.fn 85) (hro : F.round = none) (a : Option Addr) (len cap : Nat) (w : World) :
    CallsIn F n Try.prog 85 #[.slice a len cap] w fun e w' => e = .returned (.func (.func 90) #[] #[.pointer (some ⟨w.heap.size, 0, none⟩)]) ∧ w' = w.alloc (.cells #[.slice a len cap] 22) := by
  refine callsIn_of_wp Try.func85 rfl hf ?_ hro
  simp only [Try.ntmps85, List.size_toArray, List.length_cons, List.length_nil, Nat.reduceAdd, Nat.reduceSub, Array.replicate_succ, Array.replicate_zero, List.push_toArray, List.append_toArray, List.nil_append, List.cons_append]
  gi_wp2
  go_ret
  exact ⟨rfl, rfl⟩
theorem impl_inverse.back_stops (F : Fence) (n : Nat) (hf : F.fn 90) (hro : F.round = none) (hn : 1 ≤ n) (Bs n₀ : Nat) (A : Option Addr) (c : Nat) (zs : List Int) (hlen : zs.length ≤ 1000000) (w : World) (hn₀ : n₀ ≤ w.heap.size)
    (hBs : Boxed w Bs 22 (.slice A zs.length c)) (hc : ∀ j : Nat, j < zs.length → ∃ ad, A = some ad ∧ ad.block < n₀ ∧ w.cell? (ad.add j) = some (.int .i64 (rd zs (j : Int)))) :
    SeqStopsK F n Try.prog 90 #[.pointer (some ⟨Bs, 0, none⟩)] (fun x : Int × Int => #[Value.int .i64 x.1, Value.int .i64 x.2]) (fun W W' => Below n₀ W W' ∧ (∀ v, Boxed W Bs 22 v → Boxed W' Bs 22 v)) (fun ys => ys = impl_inverse.upto zs zs.length) (fun _ => True) zs.length w := fun l J Jx W hW _ _ hY h0 =>
  impl_inverse.back1 F n hf hro hn l Bs n₀ A c zs hlen J Jx hY W ((hW.block Bs hBs.lt).trans hBs) (fun j hj => by
    obtain ⟨ad, e, h1, h2⟩ := hc j hj
    exact ⟨ad, e, h1, (hW.cell (by rw [add_block]; omega)).trans h2⟩) h0
set_option maxRecDepth 100000 in
set_option maxHeartbeats 4000000 in
theorem impl_inverse.calls_in (A0 : Option Addr) (c0 : Nat) (l0 : List Int) (w : World) (hlen : l0.length ≤ 1000000) (hcell : ∀ j : Nat, j < l0.length → ∃ ad, A0 = some ad ∧ ad.block < w.heap.size ∧ w.cell? (ad.add j) = some (.int .i64 (rd l0 (j : Int)))) :
    CallsIn Fence.wide 9 Try.prog 65 #[.slice A0 l0.length c0] w fun e w' => ∃ v, e = .returned v ∧ w'.ownsRow w.heap.size 2 1 v (impl_inverse.neg (impl_inverse.upto l0 l0.length)).length ((impl_inverse.neg (impl_inverse.upto l0 l0.length)).map (Value.int .i64)) ∧ Below w.heap.size w w' := by
  have hro : Fence.wide.round = none := rfl
  have h1 : 1 ≤ 9 := by omega
  obtain ⟨i0, hi, hz0, hz1, hz2⟩ := info_parts info2
  refine callsIn_of_wp_marks Try.func65 rfl trivial ?_ hro
  simp only [Try.ntmps65, List.size_toArray, List.length_cons, List.length_nil, Nat.reduceAdd, Nat.reduceSub, Array.replicate_succ, Array.replicate_zero, List.push_toArray, List.append_toArray, List.nil_append, List.cons_append]
  gi_wp2_with (refine ⟨trivial, ?_⟩; gi_at_call 85; refine (impl_inverse.back Fence.wide _ trivial hro _ _ _ _).mono ?_; rintro e w' ⟨rfl, rfl⟩)
  have bO := Boxed.new w 22 (.slice none 0 0)
  have bN := Boxed.new (w.alloc (.cells #[.slice none 0 0] 22)) 22 (.slice A0 l0.length c0)
  rw [World.size_alloc] at bN
  have hB0 : Below w.heap.size w ((w.alloc (.cells #[.slice none 0 0] 22)).alloc (.cells #[.slice A0 l0.length c0] 22)) := ((Below.refl _ w).alloc (Nat.le_refl _) _).alloc (by simp) _
  refine wpIn_rangeFunc_ownG hro h1 (gf := 90) (lb := #[.pointer (some ⟨w.heap.size + 1, 0, none⟩)]) rfl trivial (enters_of Try.func90 (by kernel_rfl) rfl)
    (impl_inverse.back_stops Fence.wide _ trivial hro (by omega) (w.heap.size + 1) w.heap.size A0 c0 l0 hlen _ (by simp; omega) bN (fun j hj => by
      obtain ⟨ad, e, h1_, h2_⟩ := hcell j hj
      exact ⟨ad, e, h1_, (hB0.cell (by rw [add_block]; exact h1_)).trans h2_⟩))
    (fun h k => ⟨h.1.trans k.1, fun v hv => k.2 v (h.2 v hv)⟩)
    (fun W l o o' hl h hc hw => ⟨belowK_b (by simp; omega) W l o o' hl h hc hw, fun v hv => hv.kept (grownBy_putObj' W l o') (by
      intro e
      injection e with e
      subst e
      rw [show W.heap[_]? = _ from hv] at h
      cases h
      cases hc)⟩)
    (Below.refl _ _) (fun _ => rfl)
    (fun pre W => ((∃ v, Boxed W w.heap.size 22 v ∧ W.ownsRow w.heap.size 2 1 v (impl_inverse.neg pre).length ((impl_inverse.neg pre).map (Value.int .i64)) ∧ True) ∧ Boxed W (w.heap.size + 1) 22 (.slice A0 l0.length c0)) ∧ Below w.heap.size w W)
    (fun _ _ _ => False)
    (OwnFrom.and (OwnFrom.and (Own.from (holdsRow_own w.heap.size w.heap.size 22 2 1 (fun pre => (impl_inverse.neg pre).length) (fun pre => (impl_inverse.neg pre).map (Value.int .i64)) (fun _ _ => True)) _) (Own.from (boxed_own _ _ _) _)) (ownFrom_below (Nat.le_refl _) (by simp; omega)))
    (fun _ _ _ _ _ hs _ _ => hs)
    ⟨⟨⟨_, bO.alloc _, World.ownsRow_nil _ _ _ _, trivial⟩, bN⟩, hB0⟩
    (fun x => { tmps := #[.slice A0 l0.length c0, undef, .slice none 0 0, .pointer (some ⟨w.heap.size, 0, none⟩), undef, .int .i64 x.2, .slice A0 l0.length c0, .func (.func 90) #[] #[.pointer (some ⟨w.heap.size + 1, 0, none⟩)], .int .i64 x.1, .int .i64 x.2, undef, undef, undef, undef, undef, undef], defers := [] }) ?assign ?body ?done ?stop
  case assign =>
    intro l x W K hK
    gi_wp2
    exact hK
  case body =>
    rintro l pre x W ⟨⟨⟨v, hv, hrow, _⟩, hS⟩, hB⟩ hlt
    have hc := hv.cell
    have hpl : (impl_inverse.neg pre).length = pre.length := by simp [impl_inverse.neg]
    gi_wp2_with (gi_at_builtin; go_loud (refine wpListIn_append_own _ rfl _ _ 22 rfl w.heap.size 2 i0 (.int .i64 0) 1 8 Try.underlying22 hi hz0 hz1 hz2 rfl (by decide) _ _ _ rfl (hrow.alloc _) ⟨W.heap.size, 0, none⟩ 1 1 [.int .i64 (wrap64 (-x.2))] rfl rfl (cell_one_new _ _ _) (by simp [Value.oneCell']) (by have h_ : (1000001 : Nat) ≤ maxLen := (by decide); omega) (by omega) (by have := hB.size; simp; omega) ?_; intro v' w1 hown' hgrow _; obtain ⟨g', cap', rfl⟩ := ownsRow_succ hown'; have hS0 := hS.alloc (.cells #[.int .i64 (wrap64 (-x.2))] 2); have hr0 := hrow.alloc (.cells #[.int .i64 (wrap64 (-x.2))] 2); have hn0 := Boxed.not_row hS0 (show (22 : Nat) ≠ 2 by decide) hr0; have hS1 := hS0.kept hgrow hn0; obtain ⟨hv1, hv2, hr2, hk2, hb2⟩ := hv.appended (by decide) hrow hB.size (Nat.le_refl _) hown' hgrow; have hc1 := hv1.cell; have hf1 := hv1.frozen))
    rw [hpl] at hv2 hr2 hk2 hb2
    have hS2 := hS1.other (B' := w.heap.size) (by omega) (.slice (some ⟨g', 0, none⟩) (pre.length + 1) cap')
    refine ⟨hk2.from _, ⟨hb2, fun u hu => ?_⟩, ⟨⟨_, hv2, by simpa [impl_inverse.neg] using hr2, trivial⟩, hS2⟩, hB.trans hb2⟩
    have e_ := (show W.heap[_]? = _ from hu).symm.trans hS
    simp at e_
    subst e_
    exact hS2
  case done =>
    rintro D ys W hD rfl ⟨⟨⟨v, hv, hrow, _⟩, hS⟩, hB⟩ hK
    have hc := hv.cell
    gi_wp2
    refine ⟨by simp, .inl ⟨_, _, rfl, run_takeDeferred hK, ?_⟩⟩
    exact ⟨_, results_tmp rfl _ _ _, v, rfl, ownsRow_putObj hrow _ hK rfl, hB.trans (belowK_b (w := w) (Nat.le_refl _) W D _ _ (by simp at hD; omega) hK rfl rfl)⟩
  case stop =>
    rintro D c pre W _ _ h _
    exact h.elim
set_option maxHeartbeats 1000000 in
theorem impl_inverse.calls (A0 : Option Addr) (c0 : Nat) (l0 : List Int) (r : List Int) (w : World) (hr0 : Kd.C (Kd.int .i64) w A0 l0.length l0) (hc0 : l0.length ≤ c0) (h : impl_inverse.f l0 = some r) :
    Calls Try.prog 65 #[.slice A0 l0.length c0] w fun e w' => ∃ v0_ : Value, e = .returned (v0_) ∧ Kd.R (Kd.int .i64) 2 w' w.heap.size (fun _ => True) v0_ r ∧ Below w.heap.size w w' := by
  unfold impl_inverse.f at h
  by_cases hlen : l0.length ≤ 1000000
  · rw [if_pos hlen] at h
    injection h with h
    subst h
    refine (callsIn_wide (n := 9)).1 ((impl_inverse.calls_in A0 c0 l0 w hlen (fun j hj => ?_)).mono ?_)
    · obtain ⟨ad, e, hx⟩ := Kd.at_int hr0 (j : Int) (by omega) (by omega)
      rw [Int.toNat_natCast] at hx
      exact ⟨ad, e, by have := World.block_lt_of_cell? _ _ hx; first | rwa [add_block] at this | exact this, hx⟩
    · rintro e w' ⟨v, rfl, ho, hb⟩
      exact ⟨v, rfl, Kd.R_of_own (enc := Value.int .i64) ho (fun _ _ => trivial), hb⟩
  · rw [if_neg hlen] at h
    cases h
end


end Go.Proofs.Ytahjhlcmcnemiaa.PA
