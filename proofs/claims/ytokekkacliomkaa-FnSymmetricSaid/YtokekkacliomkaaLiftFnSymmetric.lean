
import Derived.Test.YtokekkacliomkaaRows
import Derived.Test.YtokekkacliomkaaP2
import Derived.Test.YtokekkacliomkaaE2
import Derived.Test.YtokekkacliomkaaM2
import Derived.WalkKit
import Derived.ProofKit
import Derived.OpenShut
import Derived.ShutString
import Derived.ChangeOld
import Derived.Below
import Derived.SizedLaws
import Derived.Lib.SmallJoins
namespace Go.Proofs.Ytokekkacliomkaa.fnSymmetric
open Go Go.AE Go.ChangeShapes Go.WideShapes Go.ChangeAt Go.RowKit Go.Joins Go.Proofs Go.Proofs.Ytokekkacliomkaa.AE
set_option linter.unusedVariables false
theorem own : ownKnob Try.prog.godebug = none := by kernel_rfl
theorem laidOut : laidOutB Try.prog = true := by kernel_rfl
set_option maxRecDepth 100000 in
theorem lifted (os : Os) (started : os.Started) (H : Type) (enc : TypeId × Value → H) :
    ReturnsInHanded {} Try.checked os 7 .any (Rows.fnSymmetricSpec.pre6 enc Try.prog Try.f7 Rows.fnSymmetricRow.domain false) (Rows.fnSymmetricSpec.post enc Try.prog Try.f7 false true false false) := by
  refine returnsInHanded_of_change_sized (C := Try.checked) own started (by kernel_rfl) Try.func7
    (ChangeSpec.witness6 (enc := enc) (C := Try.checked) false ⟨#[], #[.slice none 0 0], []⟩ 8 (by kernel_rfl) (by kernel_rfl) (by kernel_rfl) (by kernel_rfl)) ?_
  intro W base args ds gs before hval0 hW hcnd hsz0 _
  have hval : ∀ (j : Nat) t v, Try.f7.params[j]? = some t → args[j]? = some v → Value.okWide Try.prog W .any base t v := hval0
  have hW' := hW
  obtain ⟨p, q, hA0, hV, rfl, hfz, hnd⟩ := hW
  have hA : DataW.TrodAll enc Try.prog W 0 (fun _ => true) true Try.f7.params.toList args.toList ds p := hA0
  rw [Try.params7] at hA hval
  obtain ⟨v0, vs0, d0, ds0, p0, q0, hargs, rfl, rfl, h0, r0⟩ := trodAll_cons hA
  obtain ⟨rfl, rfl, rfl⟩ := trodAll_nil r0
  obtain rfl : args = #[v0] := by cases args; simp_all
  obtain ⟨rfl, rfl⟩ := trodVars_none hV
  have ro0 := Ro.nil ⟨fun _ => 0, fun _ => 0, fun _ => 0⟩ W
  have k0 := h0
  have lt0 : ∀ x ∈ p0, x.block < W.heap.size := by obtain ⟨m, hm⟩ := k0; exact DataW.trod_lt m _ _ _ hm
  obtain ⟨b0, len0, cap0, rfl⟩ := okWide_slice Try.underlying22 (hval 0 22 v0 rfl rfl)
  obtain ⟨fuel0, g0⟩ := h0
  have g0 : DataW.trod enc Try.prog W 0 (fun _ => true) true fuel0 22 [.slice b0 len0 cap0] = some _ := g0
  obtain ⟨Φ1, H1, ⟨sa1, sn1, sc1⟩, l1, ro1, pre1, ag1, tv1, ok1, rs1, ml1, wl1⟩ := Ro.slice (E := (fz .u8)) ro0 (arB Try.underlying5) (by kernel_rfl) Try.underlying22 g0 (fun a n m e => by cases e; exact arC Try.underlying22 (hval 0 22 _ rfl rfl))
  obtain ⟨F, hp⟩ := FnSymmetric_pure l1 ml1 wl1
  obtain ⟨v, H', ht, hq⟩ := bc.P (F := F) rs1.n ⟨Go.AE.W.none _, rs1⟩ hp
  obtain ⟨rfl, _⟩ := hq
  have okx1 := ok1
  simp only [AV.ok] at okx1
  have hok : ∀ a ∈ [(.sl ⟨sa1, sn1, sc1⟩)], AV.ok Φ1 (· < H1.length) a := List.forall_mem_cons.2 ⟨(by simp only [AV.ok, AV.oks, true_and, and_true]; exact okx1), (fun a ha => absurd ha List.not_mem_nil)⟩
  have hc := (bc.T ht).calls ro1 hok
  simp only [AV.toVs, AV.toV] at hc
  clear hA0 hval0 hsz0
  simp only [AV.toV] at tv1
  rw [tv1] at hc
  refine hc.mono fun e W' ⟨Φ', he, bel, _⟩ => ?_
  subst he
  exact ⟨_, rfl, _, _, _, [], _, [], hW', trodAll_mk1 (shut_bool Try.underlying4 _), (trodAll_cons_mk (Below.trod laidOut (by kernel_rfl) (of_decide_eq_true (by kernel_rfl)) k0 bel lt0) trodAll_mk0), rfl, bel.frame _, fun h => by cases h⟩
end Go.Proofs.Ytokekkacliomkaa.fnSymmetric
