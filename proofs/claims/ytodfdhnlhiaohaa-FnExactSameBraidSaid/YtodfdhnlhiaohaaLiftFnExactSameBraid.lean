
import Derived.Test.YtodfdhnlhiaohaaRows
import Derived.Test.YtodfdhnlhiaohaaP1
import Derived.Test.YtodfdhnlhiaohaaE2
import Derived.Test.YtodfdhnlhiaohaaM1
import Derived.WalkKit
import Derived.ProofKit
import Derived.OpenShut
import Derived.ShutString
import Derived.ChangeOld
import Derived.Below
import Derived.SizedLaws
import Derived.Lib.SmallJoins
namespace Go.Proofs.Ytodfdhnlhiaohaa.fnExactSameBraid
open Go Go.AE Go.ChangeShapes Go.WideShapes Go.ChangeAt Go.RowKit Go.Joins Go.Proofs Go.Proofs.Ytodfdhnlhiaohaa.AE
set_option linter.unusedVariables false
theorem own : ownKnob Try.prog.godebug = none := by kernel_rfl
theorem laidOut : laidOutB Try.prog = true := by kernel_rfl
set_option maxRecDepth 100000 in
theorem lifted (os : Os) (started : os.Started) (H : Type) (enc : TypeId × Value → H) :
    ReturnsInHanded {} Try.checked os 7 .any (Rows.fnExactSameBraidSpec.pre6 enc Try.prog Try.f7 Rows.fnExactSameBraidRow.domain false) (Rows.fnExactSameBraidSpec.post enc Try.prog Try.f7 false true false false) := by
  refine returnsInHanded_of_change_sized (C := Try.checked) own started (by kernel_rfl) Try.func7
    (ChangeSpec.witness6 (enc := enc) (C := Try.checked) false ⟨#[], #[.agg #[.int .i64 0, .slice none 0 0], .agg #[.int .i64 0, .slice none 0 0]], []⟩ 8 (by kernel_rfl) (by kernel_rfl) (by kernel_rfl) (by kernel_rfl)) ?_
  intro W base args ds gs before hval0 hW hcnd hsz0 _
  have hval : ∀ (j : Nat) t v, Try.f7.params[j]? = some t → args[j]? = some v → Value.okWide Try.prog W .any base t v := hval0
  have hW' := hW
  obtain ⟨p, q, hA0, hV, rfl, hfz, hnd⟩ := hW
  have hA : DataW.TrodAll enc Try.prog W 0 (fun _ => true) true Try.f7.params.toList args.toList ds p := hA0
  rw [Try.params7] at hA hval
  obtain ⟨v0, vs0, d0, ds0, p0, q0, hargs, rfl, rfl, h0, r0⟩ := trodAll_cons hA
  obtain ⟨v1, vs1, d1, ds1, p1, q1, rfl, rfl, rfl, h1, r1⟩ := trodAll_cons r0
  obtain ⟨rfl, rfl, rfl⟩ := trodAll_nil r1
  obtain rfl : args = #[v0, v1] := by cases args; simp_all
  obtain ⟨rfl, rfl⟩ := trodVars_none hV
  have ro0 := Ro.nil ⟨fun _ => 0, fun _ => 0, fun _ => 0⟩ W
  have k0 := h0
  have lt0 : ∀ x ∈ p0, x.block < W.heap.size := by obtain ⟨m, hm⟩ := k0; exact DataW.trod_lt m _ _ _ hm
  obtain ⟨c0_0, c0_1, Ao, Aq, m0, rfl, ed0, ep0, g0_0, g0_1⟩ := open_agg2 Try.underlying57 (by kernel_rfl) (show Try.prog.cellsOf 57 = 2 by kernel_rfl) (hval 0 57 v0 rfl rfl) h0
  have hv0 := hval 0 57 _ rfl rfl
  obtain ⟨tt, e0_0, _, w0_0⟩ := DataW.trod_int Try.underlying2 g0_0
  obtain rfl : c0_0 = _ := (List.cons.inj e0_0).1
  obtain ⟨Φ1, H1, ⟨sa1, sn1, sc1⟩, l1, ro1, pre1, ag1, tv1, ok1, rs1, ml1, wl1⟩ := Ro.slice (E := (bM .i64)) ro0 (uz Try.underlying2) (by kernel_rfl) Try.underlying47 g0_1 (fun a n m e => by cases e; exact uB (i := 1) Try.underlying57 hv0 rfl)
  have k1 := h1
  have lt1 : ∀ x ∈ p1, x.block < W.heap.size := by obtain ⟨m, hm⟩ := k1; exact DataW.trod_lt m _ _ _ hm
  obtain ⟨c1_0, c1_1, Ar, As, m1, rfl, ed1, ep1, g1_0, g1_1⟩ := open_agg2 Try.underlying57 (by kernel_rfl) (show Try.prog.cellsOf 57 = 2 by kernel_rfl) (hval 1 57 v1 rfl rfl) h1
  have hv1 := hval 1 57 _ rfl rfl
  obtain ⟨hZ, e1_0, _, w1_0⟩ := DataW.trod_int Try.underlying2 g1_0
  obtain rfl : c1_0 = _ := (List.cons.inj e1_0).1
  obtain ⟨Φ2, H2, ⟨sa2, sn2, sc2⟩, l2, ro2, pre2, ag2, tv2, ok2, rs2, ml2, wl2⟩ := Ro.slice (E := (bM .i64)) ro1 (uz Try.underlying2) (by kernel_rfl) Try.underlying47 g1_1 (fun a n m e => by cases e; exact uB (i := 1) Try.underlying57 hv1 rfl)
  obtain ⟨tv1, ok1⟩ := AV.sl_later pre2 ag2 tv1 ok1
  have rs1 := rs1.step (Fr.pre pre2)
  obtain ⟨F, hp⟩ := FnExactSameBraid_pure tt l1 hZ l2 w0_0 ml1 wl1 w1_0 ml2 wl2
  obtain ⟨v, H', ht, hq⟩ := ch.P (F := F) rs1.n rs2.n ⟨Go.AE.W.none _, rs1, rs2⟩ hp
  obtain ⟨rfl, _⟩ := hq
  have okx1 := ok1
  simp only [AV.ok] at okx1
  have okx2 := ok2
  simp only [AV.ok] at okx2
  have hok : ∀ a ∈ [(.agg [(.int .i64 tt), (.sl ⟨sa1, sn1, sc1⟩)]), (.agg [(.int .i64 hZ), (.sl ⟨sa2, sn2, sc2⟩)])], AV.ok Φ2 (· < H2.length) a := List.forall_mem_cons.2 ⟨(by simp only [AV.ok, AV.oks, true_and, and_true]; exact okx1), List.forall_mem_cons.2 ⟨(by simp only [AV.ok, AV.oks, true_and, and_true]; exact okx2), (fun a ha => absurd ha List.not_mem_nil)⟩⟩
  have hc := (ch.T ht).calls ro2 hok
  simp only [AV.toVs, AV.toV] at hc
  clear hA0 hval0 hsz0
  simp only [AV.toV] at tv1
  simp only [AV.toV] at tv2
  rw [tv1, tv2] at hc
  refine hc.mono fun e W' ⟨Φ', he, bel, _⟩ => ?_
  subst he
  exact ⟨_, rfl, _, _, _, [], _, [], hW', trodAll_mk1 (shut_bool Try.underlying4 _), (trodAll_cons_mk (Below.trod laidOut (by kernel_rfl) (of_decide_eq_true (by kernel_rfl)) k0 bel lt0) (trodAll_cons_mk (Below.trod laidOut (by kernel_rfl) (of_decide_eq_true (by kernel_rfl)) k1 bel lt1) trodAll_mk0)), rfl, bel.frame _, fun h => by cases h⟩
end Go.Proofs.Ytodfdhnlhiaohaa.fnExactSameBraid
