
import Derived.Test.YtodfdhnlhiaohaaRows
import Derived.Test.YtodfdhnlhiaohaaP2
import Derived.Test.YtodfdhnlhiaohaaE2
import Derived.Test.YtodfdhnlhiaohaaM1
import Derived.WalkKit
import Derived.ProofKit
import Derived.OpenShut
import Derived.ShutString
import Derived.ChangeOld
import Derived.Below
import Derived.SizedLaws
import Derived.Lib.SmallJoins
namespace Go.Proofs.Ytodfdhnlhiaohaa.fnExactAlexanderMatrix
open Go Go.AE Go.ChangeShapes Go.WideShapes Go.ChangeAt Go.RowKit Go.Joins Go.Proofs Go.Proofs.Ytodfdhnlhiaohaa.AE
set_option linter.unusedVariables false
theorem own : ownKnob Try.prog.godebug = none := by kernel_rfl
theorem laidOut : laidOutB Try.prog = true := by kernel_rfl
theorem flat145 : IW Try.prog 145 (aa (di .i64) (aa (di .i64) (aa (di .i64) (aa (di .i64) (di .i64))))) (fun x => (Lit.int .i64 x.1).wf = true ∧ (Lit.int .i64 x.2.1).wf = true ∧ (Lit.int .i64 x.2.2.1).wf = true ∧ (Lit.int .i64 x.2.2.2.1).wf = true ∧ (Lit.int .i64 x.2.2.2.2).wf = true) := fun {H enc w fuel cs y} h => by
  obtain ⟨ys, n, _, _, hl, hlen, hf⟩ := DataW.trod_struct Try.underlying145 h
  have hcl : cs.length = 5 := hl.trans (by kernel_rfl)
  obtain ⟨y0, g0⟩ : ∃ y, DataW.trod enc Try.prog w 0 (fun _ => true) true n 2 ((cs.drop 0).take 1) = some y := by
    have g := hf 0 _ rfl
    have hc : Try.prog.cellsOf 2 = 1 := by kernel_rfl
    have hj : 0 < ys.length := by rw [hlen]; decide
    rw [List.getElem?_eq_getElem hj] at g
    have g' : DataW.trod enc Try.prog w 0 (fun _ => true) true n 2 ((cs.drop 0).take (Try.prog.cellsOf 2)) = some _ := g
    rw [hc] at g'; exact ⟨_, g'⟩
  obtain ⟨n0, e0, _, w0⟩ := DataW.trod_int Try.underlying2 g0
  have e0 := vx e0
  obtain ⟨y1, g1⟩ : ∃ y, DataW.trod enc Try.prog w 0 (fun _ => true) true n 2 ((cs.drop 1).take 1) = some y := by
    have g := hf 1 _ rfl
    have hc : Try.prog.cellsOf 2 = 1 := by kernel_rfl
    have hj : 1 < ys.length := by rw [hlen]; decide
    rw [List.getElem?_eq_getElem hj] at g
    have g' : DataW.trod enc Try.prog w 0 (fun _ => true) true n 2 ((cs.drop 1).take (Try.prog.cellsOf 2)) = some _ := g
    rw [hc] at g'; exact ⟨_, g'⟩
  obtain ⟨n1, e1, _, w1⟩ := DataW.trod_int Try.underlying2 g1
  have e1 := vx e1
  obtain ⟨y2, g2⟩ : ∃ y, DataW.trod enc Try.prog w 0 (fun _ => true) true n 2 ((cs.drop 2).take 1) = some y := by
    have g := hf 2 _ rfl
    have hc : Try.prog.cellsOf 2 = 1 := by kernel_rfl
    have hj : 2 < ys.length := by rw [hlen]; decide
    rw [List.getElem?_eq_getElem hj] at g
    have g' : DataW.trod enc Try.prog w 0 (fun _ => true) true n 2 ((cs.drop 2).take (Try.prog.cellsOf 2)) = some _ := g
    rw [hc] at g'; exact ⟨_, g'⟩
  obtain ⟨n2, e2, _, w2⟩ := DataW.trod_int Try.underlying2 g2
  have e2 := vx e2
  obtain ⟨y3, g3⟩ : ∃ y, DataW.trod enc Try.prog w 0 (fun _ => true) true n 2 ((cs.drop 3).take 1) = some y := by
    have g := hf 3 _ rfl
    have hc : Try.prog.cellsOf 2 = 1 := by kernel_rfl
    have hj : 3 < ys.length := by rw [hlen]; decide
    rw [List.getElem?_eq_getElem hj] at g
    have g' : DataW.trod enc Try.prog w 0 (fun _ => true) true n 2 ((cs.drop 3).take (Try.prog.cellsOf 2)) = some _ := g
    rw [hc] at g'; exact ⟨_, g'⟩
  obtain ⟨n3, e3, _, w3⟩ := DataW.trod_int Try.underlying2 g3
  have e3 := vx e3
  obtain ⟨y4, g4⟩ : ∃ y, DataW.trod enc Try.prog w 0 (fun _ => true) true n 2 ((cs.drop 4).take 1) = some y := by
    have g := hf 4 _ rfl
    have hc : Try.prog.cellsOf 2 = 1 := by kernel_rfl
    have hj : 4 < ys.length := by rw [hlen]; decide
    rw [List.getElem?_eq_getElem hj] at g
    have g' : DataW.trod enc Try.prog w 0 (fun _ => true) true n 2 ((cs.drop 4).take (Try.prog.cellsOf 2)) = some _ := g
    rw [hc] at g'; exact ⟨_, g'⟩
  obtain ⟨n4, e4, _, w4⟩ := DataW.trod_int Try.underlying2 g4
  have e4 := vx e4
  have hcs : cs = [.int .i64 n0, .int .i64 n1, .int .i64 n2, .int .i64 n3, .int .i64 n4] := by
    apply List.ext_getElem?
    intro i
    match i with
    | 0 => simpa using e0
    | 1 => simpa using e1
    | 2 => simpa using e2
    | 3 => simpa using e3
    | 4 => simpa using e4
    | i + 5 => rw [List.getElem?_eq_none (by omega), List.getElem?_eq_none (by simp)]
  refine ⟨[.int .i64 n0, .int .i64 n1, .int .i64 n2, .int .i64 n3, .int .i64 n4], (n0, n1, n2, n3, n4), fun Φ => by rw [hcs]; simp [AV.toVs, AV.toV], fun Φ S v hv => ?_, fun H R => ⟨[_], _, rfl, rfl, ⟨[_], _, rfl, rfl, ⟨[_], _, rfl, rfl, ⟨[_], _, rfl, rfl, rfl⟩⟩⟩⟩, ⟨w0, w1, w2, w3, w4⟩⟩
  simp only [List.mem_cons, List.not_mem_nil, or_false] at hv
  rcases hv with rfl | rfl | rfl | rfl | rfl <;> simp [AV.ok, AV.isCell]
set_option maxRecDepth 100000 in
theorem lifted (os : Os) (started : os.Started) (H : Type) (enc : TypeId × Value → H) :
    ReturnsInHanded {} Try.checked os 4 .any (Rows.fnExactAlexanderMatrixSpec.pre6 enc Try.prog Try.f4 Rows.fnExactAlexanderMatrixRow.domain false) (Rows.fnExactAlexanderMatrixSpec.post enc Try.prog Try.f4 false true false false) := by
  refine returnsInHanded_of_change_sized (C := Try.checked) own started (by kernel_rfl) Try.func4
    (ChangeSpec.witness6 (enc := enc) (C := Try.checked) false ⟨#[], #[.agg #[.slice none 0 0, .int .i64 0]], []⟩ 8 (by kernel_rfl) (by kernel_rfl) (by kernel_rfl) (by kernel_rfl)) ?_
  intro W base args ds gs before hval0 hW hcnd hsz0 _
  have hval : ∀ (j : Nat) t v, Try.f4.params[j]? = some t → args[j]? = some v → Value.okWide Try.prog W .any base t v := hval0
  have hW' := hW
  obtain ⟨p, q, hA0, hV, rfl, hfz, hnd⟩ := hW
  have hA : DataW.TrodAll enc Try.prog W 0 (fun _ => true) true Try.f4.params.toList args.toList ds p := hA0
  rw [Try.params4] at hA hval
  obtain ⟨v0, vs0, d0, ds0, p0, q0, hargs, rfl, rfl, h0, r0⟩ := trodAll_cons hA
  obtain ⟨rfl, rfl, rfl⟩ := trodAll_nil r0
  obtain rfl : args = #[v0] := by cases args; simp_all
  obtain ⟨rfl, rfl⟩ := trodVars_none hV
  have ro0 := Ro.nil ⟨fun _ => 0, fun _ => 0, fun _ => 0⟩ W
  have k0 := h0
  have lt0 : ∀ x ∈ p0, x.block < W.heap.size := by obtain ⟨m, hm⟩ := k0; exact DataW.trod_lt m _ _ _ hm
  obtain ⟨c0_0, c0_1, abu, abv, m0, rfl, ed0, ep0, g0_0, g0_1⟩ := open_agg2 Try.underlying24 (by kernel_rfl) (show Try.prog.cellsOf 24 = 2 by kernel_rfl) (hval 0 24 v0 rfl rfl) h0
  have hv0 := hval 0 24 _ rfl rfl
  obtain ⟨Φ1, H1, ⟨sa1, sn1, sc1⟩, l1, ro1, pre1, ag1, tv1, ok1, rs1, ml1, wl1⟩ := Ro.slice (E := (aa (di .i64) (aa (di .i64) (aa (di .i64) (aa (di .i64) (di .i64)))))) ro0 flat145 (by kernel_rfl) Try.underlying22 g0_0 (fun a n m e => by cases e; exact aa_ (i := 0) Try.underlying24 hv0 rfl)
  obtain ⟨ac, e0_1, _, w0_1⟩ := DataW.trod_int Try.underlying2 g0_1
  obtain rfl : c0_1 = _ := (List.cons.inj e0_1).1
  obtain ⟨F, hp⟩ := FnExactAlexanderMatrix_pure l1 ac ml1 wl1 w0_1
  obtain ⟨v, H', ht, hq⟩ := dI.P (F := F) rs1.n ⟨Go.AE.W.none _, rs1⟩ hp
  obtain ⟨rfl, _⟩ := hq
  have okx1 := ok1
  simp only [AV.ok] at okx1
  have hok : ∀ a ∈ [(.agg [(.sl ⟨sa1, sn1, sc1⟩), (.int .i64 ac)])], AV.ok Φ1 (· < H1.length) a := List.forall_mem_cons.2 ⟨(by simp only [AV.ok, AV.oks, true_and, and_true]; exact okx1), (fun a ha => absurd ha List.not_mem_nil)⟩
  have hc := (dI.T ht).calls ro1 hok
  simp only [AV.toVs, AV.toV] at hc
  clear hA0 hval0 hsz0
  simp only [AV.toV] at tv1
  rw [tv1] at hc
  refine hc.mono fun e W' ⟨Φ', he, bel, _⟩ => ?_
  subst he
  exact ⟨_, rfl, _, _, _, [], _, [], hW', trodAll_mk1 (shut_bool Try.underlying4 _), (trodAll_cons_mk (Below.trod laidOut (by kernel_rfl) (of_decide_eq_true (by kernel_rfl)) k0 bel lt0) trodAll_mk0), rfl, bel.frame _, fun h => by cases h⟩
end Go.Proofs.Ytodfdhnlhiaohaa.fnExactAlexanderMatrix
