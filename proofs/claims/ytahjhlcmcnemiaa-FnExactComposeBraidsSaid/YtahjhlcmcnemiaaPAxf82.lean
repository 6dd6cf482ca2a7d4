/- The functions of this text return what their Lean twins (of the same name, .f) compute; written by a program of this session (wip/hp.py). -/
import Derived.Test.YtahjhlcmcnemiaaPAx0
namespace Go.Proofs.Ytahjhlcmcnemiaa.PA
open Go.RowKit Go.Proofs.YtahjhlcmcnemiaaW.PrintWords Go.Proofs.YtahjhlcmcnemiaaW.PrintLast Go.Proofs.YtahjhlcmcnemiaaW.PrintMore
attribute [local go_sem] max2_int min2_int max_two min_two max_three min_three max_four min_four   -- for this text's walks alone
set_option linter.unusedVariables false
set_option linter.unusedSimpArgs false

-- HAND slices.IndexFunc[[]int64,int64]
/-! ### slices_IndexFunc_int64_int64: function 82 -/
/-- The place of the first element at which p holds, from i on, or -1. -/
def slices_IndexFunc_int64_int64.find (p : Int → Bool) : List Int → Int → Int
  | [], _ => -1
  | x :: xs, i => if p x then i else slices_IndexFunc_int64_int64.find p xs (i + 1)

theorem slices_IndexFunc_int64_int64.find_hit (p : Int → Bool) : ∀ (l : List Int) (k : Nat) (i : Int), k < l.length → (∀ j, j < k → p (rd l j) = false) → p (rd l k) = true → slices_IndexFunc_int64_int64.find p l i = i + k
  | [], k, i, h, _, _ => absurd h (by simp)
  | x :: xs, 0, i, _, _, h => by
    have h' : p x = true := by simpa [rd] using h
    simp [slices_IndexFunc_int64_int64.find, h']
  | x :: xs, k + 1, i, h, hn, hh => by
    have h0 : p x = false := by simpa [rd] using hn 0 (by omega)
    have := slices_IndexFunc_int64_int64.find_hit p xs k (i + 1) (by simpa using h) (fun j hj => by have := hn (j + 1) (by omega); simpa [rd] using this) (by simpa [rd] using hh)
    simp only [slices_IndexFunc_int64_int64.find, h0]
    rw [if_neg (by simp), this]
    push_cast
    omega
theorem slices_IndexFunc_int64_int64.find_miss (p : Int → Bool) : ∀ (l : List Int) (i : Int), (∀ j, j < l.length → p (rd l j) = false) → slices_IndexFunc_int64_int64.find p l i = -1
  | [], i, _ => rfl
  | x :: xs, i, hn => by
    have h0 : p x = false := by simpa [rd] using hn 0 (by simp)
    simp only [slices_IndexFunc_int64_int64.find, h0]
    rw [if_neg (by simp)]
    exact slices_IndexFunc_int64_int64.find_miss p xs (i + 1) (fun j hj => by have := hn (j + 1) (by simpa using hj); simpa [rd] using this)

set_option maxHeartbeats 2000000 in
theorem slices_IndexFunc_int64_int64.calls (g : Nat) (lb : Array Value) (p : Int → Bool) (eg : ∀ args w, (callFunc g args).run Try.prog w = .ok (.enter g args) w) (A0 : Option Addr) (c0 : Nat) (l0 : List Int) (w : World) (hr0 : Kd.C (Kd.int .i64) w A0 l0.length l0)
    (hp : ∀ (W : World) (x : Int), Below w.heap.size w W → Calls Try.prog g (#[.int .i64 x] ++ lb) W fun e w' => e = .returned (.bool (p x)) ∧ Below W.heap.size W w') :
    Calls Try.prog 82 #[.slice A0 l0.length c0, .func (.func g) #[] lb] w fun e w' => e = .returned (.int .i64 (slices_IndexFunc_int64_int64.find p l0 0)) ∧ Below w.heap.size w w' := by
  have HR := Aside0.mk hr0
  have HP := Aside0.mk hp
  have hlen : l0.length ≤ 9223372036854775807 := hr0.2.1
  clear hr0 hp
  go_enter Try.func82, Try.ntmps82
  go_wp2
  go_loopg [5, 8] l0.length (fun gg _ s8 wr => ∃ kk : Nat, kk ≤ l0.length ∧ l0.length - kk ≤ gg ∧ s8 = .int .i64 kk ∧ Aside0 (Below w.heap.size w wr) ∧ Aside0 (∀ j, j < kk → p (rd l0 j) = false))
  case atStart => exact ⟨0, Nat.zero_le _, by omega, rfl, ⟨Below.refl _ _⟩, ⟨fun j hj => absurd hj (Nat.not_lt_zero _)⟩⟩
  case round =>
    obtain ⟨kk, hkk, hg, rfl, HB, HA⟩ := hrel
    by_cases hlt : kk < l0.length
    · have hltz : (kk : Int) < (l0.length : Int) := by omega
      obtain ⟨ad, e, hcell⟩ := Kd.at_int HR.out (kk : Int) (by omega) hltz
      cases e
      replace hcell := (HB.out.cell (World.block_lt_of_cell? w _ hcell)).trans hcell
      rw [Int.toNat_natCast] at hcell
      have hcall := Aside0.mk (HP.out wr (rd l0 kk) HB.out)
      cases hq : p (rd l0 kk) with
      | true =>
        have HQ := Aside0.mk hq
        clear hq
        go_wp2_with fail
        refine hcall.out.mono ?_
        rw [HQ.out]
        rintro e w2 ⟨rfl, hb1⟩
        go_wp2
        go_ret
        exact ⟨by rw [slices_IndexFunc_int64_int64.find_hit p l0 kk 0 hlt HA.out HQ.out, Int.zero_add]; rfl, below_step HB.out hb1⟩
      | false =>
        have HQ := Aside0.mk hq
        clear hq
        go_wp2_with fail
        refine hcall.out.mono ?_
        rw [HQ.out]
        rintro e w2 ⟨rfl, hb1⟩
        go_wp2
        go_roundg (l0.length - (kk + 1))
        case measure => omega
        case rel =>
          refine ⟨kk + 1, by omega, by omega, by go_num, ⟨below_step HB.out hb1⟩, ⟨fun j hj => ?_⟩⟩
          by_cases e : j = kk
          · subst e
            exact HQ.out
          · exact HA.out j (by omega)
    · have hltz : ¬ (kk : Int) < (l0.length : Int) := by omega
      have : kk = l0.length := by omega
      subst this
      go_wp2
      go_ret
      exact ⟨by rw [slices_IndexFunc_int64_int64.find_miss p l0 0 HA.out]; rfl, HB.out⟩


end Go.Proofs.Ytahjhlcmcnemiaa.PA
