/- The functions of this text return what their Lean twins (of the same name, .f) compute; written by a program of this session (wip/hp.py). -/
import Derived.Test.YtahjhlcmcnemiaaPAx0
import Derived.Test.YtahjhlcmcnemiaaPAxf50
import Derived.Test.YtahjhlcmcnemiaaPAxf52
import Derived.Test.YtahjhlcmcnemiaaPAxf71
namespace Go.Proofs.Ytahjhlcmcnemiaa.PA
open Go.RowKit Go.Proofs.YtahjhlcmcnemiaaW.PrintWords Go.Proofs.YtahjhlcmcnemiaaW.PrintLast Go.Proofs.YtahjhlcmcnemiaaW.PrintMore
attribute [local go_sem] max2_int min2_int max_two min_two max_three min_three max_four min_four   -- for this text's walks alone
set_option linter.unusedVariables false
set_option linter.unusedSimpArgs false

-- HAND loop.example/g00870/impl.isBraid
/-! ### impl_isBraid: function 55 -/
def impl_isBraid.letter (a x : Int) : Bool := decide (x ≠ 0) && (decide (1 - a ≤ x) && decide (x ≤ a - 1))
def impl_isBraid.b (a : Int) (l : List Int) : Bool := (decide (1 ≤ a) && decide (a ≤ 6)) && (decide (l.length ≤ 24) && !(l.any fun x => !impl_isBraid.letter a x))
def impl_isBraid.f (a0_0 : Int) (l0_1 : List Int) : Option Bool := some (impl_isBraid.b a0_0 l0_1)
theorem impl_isBraid.letter_f (a x : Int) (h0 : 1 ≤ a) (h1 : a ≤ 6) : impl_isLetter.f a x = some (impl_isBraid.letter a x) := by
  unfold impl_isLetter.f impl_inRange.f impl_isBraid.letter
  have e1 : wrap64 (1 - a) = 1 - a := by unfold wrap64; omega
  have e2 : wrap64 (a - 1) = a - 1 := by unfold wrap64; omega
  rw [e1, e2]
  by_cases hx : x = 0
  · simp [hx]
  · by_cases h2 : 1 - a ≤ x <;> simp [hx, h2]
set_option maxHeartbeats 2000000 in
theorem impl_isBraid.lit (a : Int) (h0 : 1 ≤ a) (h1 : a ≤ 6) (g : Nat) (W : World) (x : Int) (hc : W.cell? ⟨g, 0, none⟩ = some (.int .i64 a)) :
    Calls Try.prog 83 #[.int .i64 x, .pointer (some ⟨g, 0, none⟩)] W fun e w' => e = .returned (.bool (!impl_isBraid.letter a x)) ∧ Below W.heap.size W w' := by
  have HL := Aside0.mk (impl_isBraid.letter_f a x h0 h1)
  go_enter Try.func83, Try.ntmps83
  go_wp2_with fail
  refine (impl_isLetter.calls a x _ _ HL.out).mono ?_
  rintro e w2 ⟨rfl, ⟨n, rfl⟩⟩
  go_wp2
  go_ret
  exact ⟨rfl, pw_below_drewN (Below.refl _ _) n⟩
theorem impl_isBraid.range_f (a : Int) : impl_inRange.f a 1 6 = some (decide (1 ≤ a) && decide (a ≤ 6)) := by
  unfold impl_inRange.f
  by_cases h : 1 ≤ a <;> simp [h]
set_option maxHeartbeats 8000000 in
theorem impl_isBraid.calls (a0_0 : Int) (A0_1 : Option Addr) (c0_1 : Nat) (l0_1 : List Int) (r : Bool) (w : World) (hr0_1 : Kd.C (Kd.int .i64) w A0_1 l0_1.length l0_1) (hc0_1 : l0_1.length ≤ c0_1) (h : impl_isBraid.f a0_0 l0_1 = some r) :
    Calls Try.prog 55 #[.agg #[.int .i64 a0_0, .slice A0_1 l0_1.length c0_1]] w fun e w' => e = .returned (.bool r) ∧ Below w.heap.size w w' := by
  obtain rfl : impl_isBraid.b a0_0 l0_1 = r := Option.some.inj h
  have HR := Aside0.mk hr0_1
  have HF := Aside0.mk (impl_isBraid.range_f a0_0)
  have eg : ∀ args w, (callFunc 83 args).run Try.prog w = .ok (.enter 83 args) w := Go.Proofs.enters_of Try.func83 (by kernel_rfl) rfl
  clear hr0_1 h hc0_1
  by_cases c1 : (decide (1 ≤ a0_0) && decide (a0_0 ≤ 6)) = true
  · have c1' : 1 ≤ a0_0 ∧ a0_0 ≤ 6 := by simpa using c1
    by_cases c2 : l0_1.length ≤ 24
    · have HB : Aside0 (impl_isBraid.b a0_0 l0_1 = !(l0_1.any fun x => !impl_isBraid.letter a0_0 x)) := ⟨by unfold impl_isBraid.b; rw [c1]; simp [c2]⟩
      rw [HB.out]
      have HF2 : Aside0 (impl_inRange.f a0_0 1 6 = some true) := ⟨by rw [HF.out, c1]⟩
      have c2b : decide ((l0_1.length : Int) ≤ 24) = true := decide_eq_true (by omega)
      generalize hq : (l0_1.any fun x => !impl_isBraid.letter a0_0 x) = q
      have HQ := Aside0.mk hq
      have C1 := Aside0.mk c1'
      clear hq c1 c1' c2 HF
      go_enter Try.func55, Try.ntmps55
      go_wp2_with fail
      refine (impl_inRange.calls _ _ _ _ _ HF2.out).mono ?_
      rintro e w2 ⟨rfl, ⟨n, rfl⟩⟩
      go_wp2_with fail
      have hcon := Aside0.mk (slices_ContainsFunc_int64_int64.calls 83 #[.pointer (some ⟨w.heap.size, 0, none⟩)] (fun x => !impl_isBraid.letter a0_0 x) eg A0_1 c0_1 l0_1 ((w.alloc (.cells #[.int .i64 a0_0, .slice A0_1 l0_1.length c0_1] 33)).drewN n) (Kd.C_below HR.out (pw_below_drewN (below_alloc (Below.refl _ _) _) n))
        (fun W x hb => impl_isBraid.lit a0_0 C1.out.1 C1.out.2 w.heap.size W x ((hb.cell (p := ⟨w.heap.size, 0, none⟩) (by simp)).trans (by go_simp))))
      refine hcon.out.mono ?_
      rw [HQ.out]
      rintro e w2 ⟨rfl, hb⟩
      go_wp2
      go_ret
      exact ⟨rfl, below_step (pw_below_drewN (below_alloc (Below.refl _ _) _) n) hb⟩
    · have HB : Aside0 (impl_isBraid.b a0_0 l0_1 = false) := ⟨by unfold impl_isBraid.b; simp [c2]⟩
      rw [HB.out]
      have HF2 : Aside0 (impl_inRange.f a0_0 1 6 = some true) := ⟨by rw [HF.out, c1]⟩
      have c2b : decide ((l0_1.length : Int) ≤ 24) = false := decide_eq_false (by omega)
      clear c1 c1' c2 HF
      go_enter Try.func55, Try.ntmps55
      go_wp2_with fail
      refine (impl_inRange.calls _ _ _ _ _ HF2.out).mono ?_
      rintro e w2 ⟨rfl, ⟨n, rfl⟩⟩
      go_wp2
      go_ret
      exact ⟨rfl, pw_below_drewN (below_alloc (Below.refl _ _) _) n⟩
  · have HB : Aside0 (impl_isBraid.b a0_0 l0_1 = false) := ⟨by unfold impl_isBraid.b; rw [Bool.eq_false_iff.2 c1]; rfl⟩
    rw [HB.out]
    have HF2 : Aside0 (impl_inRange.f a0_0 1 6 = some false) := ⟨by rw [HF.out, Bool.eq_false_iff.2 c1]⟩
    clear c1 HF
    go_enter Try.func55, Try.ntmps55
    go_wp2_with fail
    refine (impl_inRange.calls _ _ _ _ _ HF2.out).mono ?_
    rintro e w2 ⟨rfl, ⟨n, rfl⟩⟩
    go_wp2
    go_ret
    exact ⟨rfl, pw_below_drewN (below_alloc (Below.refl _ _) _) n⟩


end Go.Proofs.Ytahjhlcmcnemiaa.PA
