import Derived.Test.YtnkgeongfneafaaT1
import Derived.Test.YtnkgeongfneafaaTab1
set_option linter.unusedVariables false
set_option linter.unusedSimpArgs false
namespace Go.Proofs.Ytnkgeongfneafaa.AE
open Go Go.AE Go.Proofs
set_option linter.unusedVariables false
set_option maxHeartbeats 4000000
set_option maxRecDepth 100000
theorem dw.T {F : Nat} {aa : Int} {ak : Int} {cH : Int} {H : Hp} {v : AV} {H' : Hp} (h : dw.tw F aa ak cH H = some (v, H')) : Go.AE.T Try.prog 138 [(.int .i64 aa), (.int .i64 ak), (.int .i64 cH)] H v H' :=
 Go.AE.T.of (Y := tabs) (C := mkOrc (dw.cs F (ch.tw F))) (PN := dw.pn) (LH := dw.lh F (ch.tw F)) (F := F) (TB := dw.tb) (fn := Try.f138) (code := dw.code) mixed tabs_ok (mkOrc_ok (dw.cs_ok F)) Try.func138 (by kernel_rfl) (by kernel_rfl) dw.ok (Nat.le_of_ble_eq_true (by kernel_rfl)) (dw.loops F (ch.tw F)) (Eq.trans (dw.eqX F (ch.tw F) aa ak cH H) h)
theorem dw.mk_T {F : Nat} {args : List AV} {H : Hp} {v : AV} {H' : Hp} (h : dw.mk (dw.tw F) args H = some (v, H')) : Go.AE.T Try.prog 138 args H v H' := by
 unfold dw.mk at h
 split at h
 ·exact dw.T h
 ·cases h
noncomputable def dj.twX (F : Nat) (kX : Int → Int → Int → Hp → OA) (di : Int → Hp → OA) (aa : Nat) (ac : Nat) (ae : Nat) (ag : Nat) (bh : Int) (jc : Int) (H : Hp) : OA := (kX bh jc 2000000000000 H).bind fun r7 => ((r7.1).asTup 2).bind fun l8 => (l8[0]?).bind fun v9 => ((v9).asI .i64).bind fun n10 => (l8[1]?).bind fun v11 => ((v11).asB).bind fun b12 => (Hp.ldI r7.2 .i64 ae ag).bind fun n13 => (Hp.st r7.2 ae ag (.int .i64 (IntKind.i64.wrap (n13 + n10)))).bind fun H14 => (bif (!b12) then ((Hp.st H14 aa (ac + 15) (.bool true)).bind fun H15 => (Hp.st H15 ae ag (.int .i64 0)).bind fun H16 => some ((.tup []), H16)) else ((Hp.ldI H14 .i64 ae ag).bind fun n17 => (di n17 H14).bind fun r18 => ((r18.1).asI .i64).bind fun n19 => (bif (decide (n19 > 1000000000000)) then ((Hp.st r18.2 aa (ac + 15) (.bool true)).bind fun H20 => (Hp.st H20 ae ag (.int .i64 0)).bind fun H21 => some ((.tup []), H21)) else (some ((.tup []), r18.2)))))
noncomputable def dj.tw (F : Nat) (aa : Nat) (ac : Nat) (ae : Nat) (ag : Nat) (bh : Int) (jc : Int) (H : Hp) : OA := dj.twX F (dw.tw F) (ch.tw F) aa ac ae ag bh jc H
noncomputable def dj.code : Go.Code := (Try.f163.body).getD .skip
noncomputable def dj.lh (F : Nat) (kX : Int → Int → Int → Hp → OA) (di : Int → Hp → OA) (p : Nat) (ks : List Nat) (n : Nat) (tm : Tm) (H : Hp) : OA := none
def dj.pn : Nat → List Nat := fun i => (([] : List (Nat × List Nat)).lookup i).getD []
def dj.tb : Nat → List (List Nat) := fun i => (([] : List (Nat × List (List Nat))).lookup i).getD []
noncomputable def dj.mk (g : Nat → Nat → Nat → Nat → Int → Int → Hp → OA) (args : List AV) (H : Hp) : OA := match args with
 | [(.ptr aa ac), (.ptr ae ag), (.int .i64 bh), (.int .i64 jc)] => g aa ac ae ag bh jc H
 | _ => none
noncomputable def dj.cs (F : Nat) (kX : Int → Int → Int → Hp → OA) (di : Int → Hp → OA) : List (FuncId × (List AV → Hp → OA)) := [(138, dw.mk kX), (102, ch.mk di)]
theorem dj.loops (F : Nat) (kX : Int → Int → Int → Hp → OA) (di : Int → Hp → OA) : LoopsOk tabs (mkOrc (dj.cs F kX di)) dj.pn (dj.lh F kX di) F [] 1 dj.code (fun tm H => aresults tabs.ty H tm Try.f163.results.toList fun v => some (v, H)) (fun _ _ _ => none) (fun tm H => aresults tabs.ty H tm Try.f163.results.toList fun v => some (v, H)) := by
 exact loops_none (by kernel_rfl)
theorem dj.eqX (F : Nat) (kX : Int → Int → Int → Hp → OA) (di : Int → Hp → OA) (aa : Nat) (ac : Nat) (ae : Nat) (ag : Nat) (bh : Int) (jc : Int) (H : Hp) : aCode tabs (mkOrc (dj.cs F kX di)) dj.pn (dj.lh F kX di) F [] 1 dj.code (argTm [(.ptr aa ac), (.ptr ae ag), (.int .i64 bh), (.int .i64 jc)]) H (fun tm H => aresults tabs.ty H tm Try.f163.results.toList fun v => some (v, H)) (fun _ _ _ => none) (fun tm H => aresults tabs.ty H tm Try.f163.results.toList fun v => some (v, H)) = dj.twX F kX di aa ac ae ag bh jc H := by kernel_rfl
theorem dj.cs_ok (F : Nat) : ∀ p ∈ dj.cs F (dw.tw F) (ch.tw F), ∀ args H v H', p.2 args H = some (v, H') → Go.AE.T Try.prog p.1 args H v H' := by
 intro p hp
 simp only [dj.cs, List.mem_cons, List.not_mem_nil, or_false] at hp
 rcases hp with rfl | rfl
 ·exact fun args H v H' h => dw.mk_T h
 ·exact fun args H v H' h => ch.mk_T h
theorem dj.ok : codeOk dj.pn Try.f163.ntmps dj.tb dj.code = true := by kernel_rfl
theorem dj.T {F : Nat} {aa : Nat} {ac : Nat} {ae : Nat} {ag : Nat} {bh : Int} {jc : Int} {H : Hp} {v : AV} {H' : Hp} (h : dj.tw F aa ac ae ag bh jc H = some (v, H')) : Go.AE.T Try.prog 163 [(.ptr aa ac), (.ptr ae ag), (.int .i64 bh), (.int .i64 jc)] H v H' :=
 Go.AE.T.of (Y := tabs) (C := mkOrc (dj.cs F (dw.tw F) (ch.tw F))) (PN := dj.pn) (LH := dj.lh F (dw.tw F) (ch.tw F)) (F := F) (TB := dj.tb) (fn := Try.f163) (code := dj.code) mixed tabs_ok (mkOrc_ok (dj.cs_ok F)) Try.func163 (by kernel_rfl) (by kernel_rfl) dj.ok (Nat.le_of_ble_eq_true (by kernel_rfl)) (dj.loops F (dw.tw F) (ch.tw F)) (Eq.trans (dj.eqX F (dw.tw F) (ch.tw F) aa ac ae ag bh jc H) h)
theorem dj.mk_T {F : Nat} {args : List AV} {H : Hp} {v : AV} {H' : Hp} (h : dj.mk (dj.tw F) args H = some (v, H')) : Go.AE.T Try.prog 163 args H v H' := by
 unfold dj.mk at h
 split at h
 ·exact dj.T h
 ·cases h
noncomputable def bF.l7 (F : Nat) (af : Int → Int → Sl → Int → Int → Hp → OA) (e_ : Nat → Nat → Nat → Nat → Int → Int → Hp → OA)  : Nat → Nat → Nat → Int → Int → Int → Nat → Nat → Int → Int → Hp → OA
 | 0, _, _, _, _, _, _, _, _, _, _ => none
 | ke + 1, cM, eC, cf, dL, dl, cL, fN, ff, eH, H23 => (bif (decide (eH < ff)) then ((Hp.ldI H23 .i64 cL fN).bind fun n36 => (Hp.ldI H23 .i64 cL (fN + 1)).bind fun n37 => (Hp.ldSl H23 cL (fN + 2)).bind fun s38 => (af n36 n37 s38 cf eH H23).bind fun r39 => ((r39.1).asP).bind fun p40 => (if Cons H23 r39.2 then ((Hp.ldI r39.2 .i64 cL fN).bind fun n41 => (Hp.ldI r39.2 .i64 cL (fN + 1)).bind fun n42 => (Hp.ldSl r39.2 cL (fN + 2)).bind fun s43 => (af n41 n42 s43 dL eH r39.2).bind fun r44 => ((r44.1).asP).bind fun p45 => (Hp.ldI r44.2 .i64 p45.1 p45.2).bind fun n46 => (e_ cM eC p40.1 p40.2 n46 dl r44.2).bind fun r47 => bF.l7 F af e_ ke cM eC cf dL dl cL fN ff (IntKind.i64.wrap (eH + 1)) r47.2) else none)) else (some ((.tup []), H23)))
termination_by structural n => n
noncomputable def bF.twX (F : Nat) (af : Int → Int → Sl → Int → Int → Hp → OA) (e_ : Nat → Nat → Nat → Nat → Int → Int → Hp → OA) (aa : Nat) (ac : Nat) (ae : Int) (ag : Int) (bu : Sl) (cJ : Int) (cK : Int) (cp : Int) (H : Hp) : OA := (Hp.new H [(.int .i64 ae), (.int .i64 ag), (.sl bu)]).bind fun H9 => (Hp.ldI H9 .i64 H.length 1).bind fun n10 => bF.l7 F af e_ F aa ac cJ cK cp H.length 0 n10 0 H9
noncomputable def bF.tw (F : Nat) (aa : Nat) (ac : Nat) (ae : Int) (ag : Int) (bu : Sl) (cJ : Int) (cK : Int) (cp : Int) (H : Hp) : OA := bF.twX F (aO.tw F) (dj.tw F) aa ac ae ag bu cJ cK cp H
noncomputable def bF.code : Go.Code := (Try.f157.body).getD .skip
noncomputable def bF.lh7 (F : Nat) (af : Int → Int → Sl → Int → Int → Hp → OA) (e_ : Nat → Nat → Nat → Nat → Int → Int → Hp → OA) (ks : List Nat) (n : Nat) (tm : Tm) (H : Hp) : OA := match ks, tm 0, tm 2, tm 3, tm 4, tm 6, tm 12, tm 13 with
 | [], (.ptr cM eC), (.int .i64 cf), (.int .i64 dL), (.int .i64 dl), (.ptr cL fN), (.int .i64 ff), (.int .i64 eH) => bF.l7 F af e_ n cM eC cf dL dl cL fN ff eH H
 | _, _, _, _, _, _, _, _ => none
theorem bF.lh7_inv {F : Nat} {af : Int → Int → Sl → Int → Int → Hp → OA} {e_ : Nat → Nat → Nat → Nat → Int → Int → Hp → OA} {ks : List Nat} {n : Nat} {tm : Tm} {H : Hp} {r : AV × Hp} (h : bF.lh7 F af e_ ks n tm H = some r) : ∃ cM : Nat, ∃ eC : Nat, ∃ cf : Int, ∃ dL : Int, ∃ dl : Int, ∃ cL : Nat, ∃ fN : Nat, ∃ ff : Int, ∃ eH : Int, ks = [] ∧ tm 0 = (.ptr cM eC) ∧ tm 2 = (.int .i64 cf) ∧ tm 3 = (.int .i64 dL) ∧ tm 4 = (.int .i64 dl) ∧ tm 6 = (.ptr cL fN) ∧ tm 12 = (.int .i64 ff) ∧ tm 13 = (.int .i64 eH) ∧ bF.l7 F af e_ n cM eC cf dL dl cL fN ff eH H = some r := by
 unfold bF.lh7 at h
 split at h
 ·exact ⟨_, _, _, _, _, _, _, _, _, rfl, by assumption, by assumption, by assumption, by assumption, by assumption, by assumption, by assumption, h⟩
 ·cases h
noncomputable def bF.lh (F : Nat) (af : Int → Int → Sl → Int → Int → Hp → OA) (e_ : Nat → Nat → Nat → Nat → Int → Int → Hp → OA) (p : Nat) (ks : List Nat) (n : Nat) (tm : Tm) (H : Hp) : OA := bif p.beq 7 then bF.lh7 F af e_ ks n tm H else (none)
def bF.pn : Nat → List Nat := fun i => (([(4, [8, 12])] : List (Nat × List Nat)).lookup i).getD []
def bF.tb : Nat → List (List Nat) := fun i => (([(4, [[], [], [], [], [1, 2, 3], [], [], [], [1, 2, 3, 4, 5, 6, 7], [1, 2, 3, 4, 5, 6, 7, 8], [1, 2, 3, 4, 5, 6, 7, 8, 9], [], [0, 1, 2, 3, 4, 5, 6, 7, 8, 9, 10, 11]])] : List (Nat × List (List Nat))).lookup i).getD []
noncomputable def bF.mk (g : Nat → Nat → Int → Int → Sl → Int → Int → Int → Hp → OA) (args : List AV) (H : Hp) : OA := match args with
 | [(.ptr aa ac), (.agg [(.int .i64 ae), (.int .i64 ag), (.sl bu)]), (.int .i64 cJ), (.int .i64 cK), (.int .i64 cp)] => g aa ac ae ag bu cJ cK cp H
 | _ => none
noncomputable def bF.cs (F : Nat) (af : Int → Int → Sl → Int → Int → Hp → OA) (e_ : Nat → Nat → Nat → Nat → Int → Int → Hp → OA) : List (FuncId × (List AV → Hp → OA)) := [(95, aO.mk af), (163, dj.mk e_)]
theorem bF.loops (F : Nat) (af : Int → Int → Sl → Int → Int → Hp → OA) (e_ : Nat → Nat → Nat → Nat → Int → Int → Hp → OA) : LoopsOk tabs (mkOrc (bF.cs F af e_)) bF.pn (bF.lh F af e_) F [] 1 bF.code (fun tm H => aresults tabs.ty H tm Try.f157.results.toList fun v => some (v, H)) (fun _ _ _ => none) (fun tm H => aresults tabs.ty H tm Try.f157.results.toList fun v => some (v, H)) := by
 refine LoopsOk.seq ?_ ?_
 ·exact loops_none (by kernel_rfl)
 ·refine LoopsOk.seq ?_ ?_
  ·exact loops_none (by kernel_rfl)
  ·refine LoopsOk.block ?_
   refine LoopsOk.loop (fun tm H => ?_) (fun k7 tm H r h0 => ?_) (fun k7 => ?_)
   ·refine none_of fun r h0 => ?_
    obtain ⟨cM, eC, cf, dL, dl, cL, fN, ff, eH, hks, e0, e2, e3, e4, e6, e12, e13, h⟩ := bF.lh7_inv (show bF.lh7 F af e_ [] 0 tm H = some r from h0)
    cases h
   ·obtain ⟨cM, eC, cf, dL, dl, cL, fN, ff, eH, hks, e0, e2, e3, e4, e6, e12, e13, h⟩ := bF.lh7_inv (show bF.lh7 F af e_ [] (k7 + 1) tm H = some r from h0)
    have q0 : (Tm.put tm 0 (.ptr cM eC)) = tm := by exact Tm.put_same e0
    have q1 : (Tm.put (Tm.put tm 0 (.ptr cM eC)) 2 (.int .i64 cf)) = tm := by rw [q0]; exact Tm.put_same e2
    have q2 : (Tm.put (Tm.put (Tm.put tm 0 (.ptr cM eC)) 2 (.int .i64 cf)) 3 (.int .i64 dL)) = tm := by rw [q1]; exact Tm.put_same e3
    have q3 : (Tm.put (Tm.put (Tm.put (Tm.put tm 0 (.ptr cM eC)) 2 (.int .i64 cf)) 3 (.int .i64 dL)) 4 (.int .i64 dl)) = tm := by rw [q2]; exact Tm.put_same e4
    have q4 : (Tm.put (Tm.put (Tm.put (Tm.put (Tm.put tm 0 (.ptr cM eC)) 2 (.int .i64 cf)) 3 (.int .i64 dL)) 4 (.int .i64 dl)) 6 (.ptr cL fN)) = tm := by rw [q3]; exact Tm.put_same e6
    have q5 : (Tm.put (Tm.put (Tm.put (Tm.put (Tm.put (Tm.put tm 0 (.ptr cM eC)) 2 (.int .i64 cf)) 3 (.int .i64 dL)) 4 (.int .i64 dl)) 6 (.ptr cL fN)) 12 (.int .i64 ff)) = tm := by rw [q4]; exact Tm.put_same e12
    have q6 : (Tm.put (Tm.put (Tm.put (Tm.put (Tm.put (Tm.put (Tm.put tm 0 (.ptr cM eC)) 2 (.int .i64 cf)) 3 (.int .i64 dL)) 4 (.int .i64 dl)) 6 (.ptr cL fN)) 12 (.int .i64 ff)) 13 (.int .i64 eH)) = tm := by rw [q5]; exact Tm.put_same e13
    rw [← q6]
    exact Eq.trans (by kernel_rfl) h
   ·exact loops_none (by kernel_rfl)
theorem bF.eqX (F : Nat) (af : Int → Int → Sl → Int → Int → Hp → OA) (e_ : Nat → Nat → Nat → Nat → Int → Int → Hp → OA) (aa : Nat) (ac : Nat) (ae : Int) (ag : Int) (bu : Sl) (cJ : Int) (cK : Int) (cp : Int) (H : Hp) : aCode tabs (mkOrc (bF.cs F af e_)) bF.pn (bF.lh F af e_) F [] 1 bF.code (argTm [(.ptr aa ac), (.agg [(.int .i64 ae), (.int .i64 ag), (.sl bu)]), (.int .i64 cJ), (.int .i64 cK), (.int .i64 cp)]) H (fun tm H => aresults tabs.ty H tm Try.f157.results.toList fun v => some (v, H)) (fun _ _ _ => none) (fun tm H => aresults tabs.ty H tm Try.f157.results.toList fun v => some (v, H)) = bF.twX F af e_ aa ac ae ag bu cJ cK cp H := by kernel_rfl
theorem bF.cs_ok (F : Nat) : ∀ p ∈ bF.cs F (aO.tw F) (dj.tw F), ∀ args H v H', p.2 args H = some (v, H') → Go.AE.T Try.prog p.1 args H v H' := by
 intro p hp
 simp only [bF.cs, List.mem_cons, List.not_mem_nil, or_false] at hp
 rcases hp with rfl | rfl
 ·exact fun args H v H' h => aO.mk_T h
 ·exact fun args H v H' h => dj.mk_T h
theorem bF.ok : codeOk bF.pn Try.f157.ntmps bF.tb bF.code = true := by kernel_rfl
theorem bF.T {F : Nat} {aa : Nat} {ac : Nat} {ae : Int} {ag : Int} {bu : Sl} {cJ : Int} {cK : Int} {cp : Int} {H : Hp} {v : AV} {H' : Hp} (h : bF.tw F aa ac ae ag bu cJ cK cp H = some (v, H')) : Go.AE.T Try.prog 157 [(.ptr aa ac), (.agg [(.int .i64 ae), (.int .i64 ag), (.sl bu)]), (.int .i64 cJ), (.int .i64 cK), (.int .i64 cp)] H v H' :=
 Go.AE.T.of (Y := tabs) (C := mkOrc (bF.cs F (aO.tw F) (dj.tw F))) (PN := bF.pn) (LH := bF.lh F (aO.tw F) (dj.tw F)) (F := F) (TB := bF.tb) (fn := Try.f157) (code := bF.code) mixed tabs_ok (mkOrc_ok (bF.cs_ok F)) Try.func157 (by kernel_rfl) (by kernel_rfl) bF.ok (Nat.le_of_ble_eq_true (by kernel_rfl)) (bF.loops F (aO.tw F) (dj.tw F)) (Eq.trans (bF.eqX F (aO.tw F) (dj.tw F) aa ac ae ag bu cJ cK cp H) h)
theorem bF.mk_T {F : Nat} {args : List AV} {H : Hp} {v : AV} {H' : Hp} (h : bF.mk (bF.tw F) args H = some (v, H')) : Go.AE.T Try.prog 157 args H v H' := by
 unfold bF.mk at h
 split at h
 ·exact bF.T h
 ·cases h
noncomputable def bG.l7 (F : Nat) (af : Int → Int → Sl → Int → Int → Hp → OA) (e_ : Nat → Nat → Nat → Nat → Int → Int → Hp → OA)  : Nat → Nat → Nat → Int → Int → Int → Nat → Nat → Int → Int → Hp → OA
 | 0, _, _, _, _, _, _, _, _, _, _ => none
 | ke + 1, cM, eC, cf, dL, dl, cL, fN, ff, eH, H23 => (bif (decide (eH < ff)) then ((Hp.ldI H23 .i64 cL fN).bind fun n36 => (Hp.ldI H23 .i64 cL (fN + 1)).bind fun n37 => (Hp.ldSl H23 cL (fN + 2)).bind fun s38 => (af n36 n37 s38 eH cf H23).bind fun r39 => ((r39.1).asP).bind fun p40 => (if Cons H23 r39.2 then ((Hp.ldI r39.2 .i64 cL fN).bind fun n41 => (Hp.ldI r39.2 .i64 cL (fN + 1)).bind fun n42 => (Hp.ldSl r39.2 cL (fN + 2)).bind fun s43 => (af n41 n42 s43 eH dL r39.2).bind fun r44 => ((r44.1).asP).bind fun p45 => (Hp.ldI r44.2 .i64 p45.1 p45.2).bind fun n46 => (e_ cM eC p40.1 p40.2 n46 dl r44.2).bind fun r47 => bG.l7 F af e_ ke cM eC cf dL dl cL fN ff (IntKind.i64.wrap (eH + 1)) r47.2) else none)) else (some ((.tup []), H23)))
termination_by structural n => n
noncomputable def bG.twX (F : Nat) (af : Int → Int → Sl → Int → Int → Hp → OA) (e_ : Nat → Nat → Nat → Nat → Int → Int → Hp → OA) (aa : Nat) (ac : Nat) (ae : Int) (ag : Int) (bu : Sl) (cJ : Int) (cK : Int) (cp : Int) (H : Hp) : OA := (Hp.new H [(.int .i64 ae), (.int .i64 ag), (.sl bu)]).bind fun H9 => (Hp.ldI H9 .i64 H.length 0).bind fun n10 => bG.l7 F af e_ F aa ac cJ cK cp H.length 0 n10 0 H9
noncomputable def bG.tw (F : Nat) (aa : Nat) (ac : Nat) (ae : Int) (ag : Int) (bu : Sl) (cJ : Int) (cK : Int) (cp : Int) (H : Hp) : OA := bG.twX F (aO.tw F) (dj.tw F) aa ac ae ag bu cJ cK cp H
noncomputable def bG.code : Go.Code := (Try.f158.body).getD .skip
noncomputable def bG.lh7 (F : Nat) (af : Int → Int → Sl → Int → Int → Hp → OA) (e_ : Nat → Nat → Nat → Nat → Int → Int → Hp → OA) (ks : List Nat) (n : Nat) (tm : Tm) (H : Hp) : OA := match ks, tm 0, tm 2, tm 3, tm 4, tm 6, tm 12, tm 13 with
 | [], (.ptr cM eC), (.int .i64 cf), (.int .i64 dL), (.int .i64 dl), (.ptr cL fN), (.int .i64 ff), (.int .i64 eH) => bG.l7 F af e_ n cM eC cf dL dl cL fN ff eH H
 | _, _, _, _, _, _, _, _ => none
theorem bG.lh7_inv {F : Nat} {af : Int → Int → Sl → Int → Int → Hp → OA} {e_ : Nat → Nat → Nat → Nat → Int → Int → Hp → OA} {ks : List Nat} {n : Nat} {tm : Tm} {H : Hp} {r : AV × Hp} (h : bG.lh7 F af e_ ks n tm H = some r) : ∃ cM : Nat, ∃ eC : Nat, ∃ cf : Int, ∃ dL : Int, ∃ dl : Int, ∃ cL : Nat, ∃ fN : Nat, ∃ ff : Int, ∃ eH : Int, ks = [] ∧ tm 0 = (.ptr cM eC) ∧ tm 2 = (.int .i64 cf) ∧ tm 3 = (.int .i64 dL) ∧ tm 4 = (.int .i64 dl) ∧ tm 6 = (.ptr cL fN) ∧ tm 12 = (.int .i64 ff) ∧ tm 13 = (.int .i64 eH) ∧ bG.l7 F af e_ n cM eC cf dL dl cL fN ff eH H = some r := by
 unfold bG.lh7 at h
 split at h
 ·exact ⟨_, _, _, _, _, _, _, _, _, rfl, by assumption, by assumption, by assumption, by assumption, by assumption, by assumption, by assumption, h⟩
 ·cases h
noncomputable def bG.lh (F : Nat) (af : Int → Int → Sl → Int → Int → Hp → OA) (e_ : Nat → Nat → Nat → Nat → Int → Int → Hp → OA) (p : Nat) (ks : List Nat) (n : Nat) (tm : Tm) (H : Hp) : OA := bif p.beq 7 then bG.lh7 F af e_ ks n tm H else (none)
def bG.pn : Nat → List Nat := fun i => (([(4, [8, 12])] : List (Nat × List Nat)).lookup i).getD []
def bG.tb : Nat → List (List Nat) := fun i => (([(4, [[], [], [], [], [1, 2, 3], [], [], [], [1, 2, 3, 4, 5, 6, 7], [1, 2, 3, 4, 5, 6, 7, 8], [1, 2, 3, 4, 5, 6, 7, 8, 9], [], [0, 1, 2, 3, 4, 5, 6, 7, 8, 9, 10, 11]])] : List (Nat × List (List Nat))).lookup i).getD []
noncomputable def bG.mk (g : Nat → Nat → Int → Int → Sl → Int → Int → Int → Hp → OA) (args : List AV) (H : Hp) : OA := match args with
 | [(.ptr aa ac), (.agg [(.int .i64 ae), (.int .i64 ag), (.sl bu)]), (.int .i64 cJ), (.int .i64 cK), (.int .i64 cp)] => g aa ac ae ag bu cJ cK cp H
 | _ => none
noncomputable def bG.cs (F : Nat) (af : Int → Int → Sl → Int → Int → Hp → OA) (e_ : Nat → Nat → Nat → Nat → Int → Int → Hp → OA) : List (FuncId × (List AV → Hp → OA)) := [(95, aO.mk af), (163, dj.mk e_)]
theorem bG.loops (F : Nat) (af : Int → Int → Sl → Int → Int → Hp → OA) (e_ : Nat → Nat → Nat → Nat → Int → Int → Hp → OA) : LoopsOk tabs (mkOrc (bG.cs F af e_)) bG.pn (bG.lh F af e_) F [] 1 bG.code (fun tm H => aresults tabs.ty H tm Try.f158.results.toList fun v => some (v, H)) (fun _ _ _ => none) (fun tm H => aresults tabs.ty H tm Try.f158.results.toList fun v => some (v, H)) := by
 refine LoopsOk.seq ?_ ?_
 ·exact loops_none (by kernel_rfl)
 ·refine LoopsOk.seq ?_ ?_
  ·exact loops_none (by kernel_rfl)
  ·refine LoopsOk.block ?_
   refine LoopsOk.loop (fun tm H => ?_) (fun k7 tm H r h0 => ?_) (fun k7 => ?_)
   ·refine none_of fun r h0 => ?_
    obtain ⟨cM, eC, cf, dL, dl, cL, fN, ff, eH, hks, e0, e2, e3, e4, e6, e12, e13, h⟩ := bG.lh7_inv (show bG.lh7 F af e_ [] 0 tm H = some r from h0)
    cases h
   ·obtain ⟨cM, eC, cf, dL, dl, cL, fN, ff, eH, hks, e0, e2, e3, e4, e6, e12, e13, h⟩ := bG.lh7_inv (show bG.lh7 F af e_ [] (k7 + 1) tm H = some r from h0)
    have q0 : (Tm.put tm 0 (.ptr cM eC)) = tm := by exact Tm.put_same e0
    have q1 : (Tm.put (Tm.put tm 0 (.ptr cM eC)) 2 (.int .i64 cf)) = tm := by rw [q0]; exact Tm.put_same e2
    have q2 : (Tm.put (Tm.put (Tm.put tm 0 (.ptr cM eC)) 2 (.int .i64 cf)) 3 (.int .i64 dL)) = tm := by rw [q1]; exact Tm.put_same e3
    have q3 : (Tm.put (Tm.put (Tm.put (Tm.put tm 0 (.ptr cM eC)) 2 (.int .i64 cf)) 3 (.int .i64 dL)) 4 (.int .i64 dl)) = tm := by rw [q2]; exact Tm.put_same e4
    have q4 : (Tm.put (Tm.put (Tm.put (Tm.put (Tm.put tm 0 (.ptr cM eC)) 2 (.int .i64 cf)) 3 (.int .i64 dL)) 4 (.int .i64 dl)) 6 (.ptr cL fN)) = tm := by rw [q3]; exact Tm.put_same e6
    have q5 : (Tm.put (Tm.put (Tm.put (Tm.put (Tm.put (Tm.put tm 0 (.ptr cM eC)) 2 (.int .i64 cf)) 3 (.int .i64 dL)) 4 (.int .i64 dl)) 6 (.ptr cL fN)) 12 (.int .i64 ff)) = tm := by rw [q4]; exact Tm.put_same e12
    have q6 : (Tm.put (Tm.put (Tm.put (Tm.put (Tm.put (Tm.put (Tm.put tm 0 (.ptr cM eC)) 2 (.int .i64 cf)) 3 (.int .i64 dL)) 4 (.int .i64 dl)) 6 (.ptr cL fN)) 12 (.int .i64 ff)) 13 (.int .i64 eH)) = tm := by rw [q5]; exact Tm.put_same e13
    rw [← q6]
    exact Eq.trans (by kernel_rfl) h
   ·exact loops_none (by kernel_rfl)
theorem bG.eqX (F : Nat) (af : Int → Int → Sl → Int → Int → Hp → OA) (e_ : Nat → Nat → Nat → Nat → Int → Int → Hp → OA) (aa : Nat) (ac : Nat) (ae : Int) (ag : Int) (bu : Sl) (cJ : Int) (cK : Int) (cp : Int) (H : Hp) : aCode tabs (mkOrc (bG.cs F af e_)) bG.pn (bG.lh F af e_) F [] 1 bG.code (argTm [(.ptr aa ac), (.agg [(.int .i64 ae), (.int .i64 ag), (.sl bu)]), (.int .i64 cJ), (.int .i64 cK), (.int .i64 cp)]) H (fun tm H => aresults tabs.ty H tm Try.f158.results.toList fun v => some (v, H)) (fun _ _ _ => none) (fun tm H => aresults tabs.ty H tm Try.f158.results.toList fun v => some (v, H)) = bG.twX F af e_ aa ac ae ag bu cJ cK cp H := by kernel_rfl
theorem bG.cs_ok (F : Nat) : ∀ p ∈ bG.cs F (aO.tw F) (dj.tw F), ∀ args H v H', p.2 args H = some (v, H') → Go.AE.T Try.prog p.1 args H v H' := by
 intro p hp
 simp only [bG.cs, List.mem_cons, List.not_mem_nil, or_false] at hp
 rcases hp with rfl | rfl
 ·exact fun args H v H' h => aO.mk_T h
 ·exact fun args H v H' h => dj.mk_T h
theorem bG.ok : codeOk bG.pn Try.f158.ntmps bG.tb bG.code = true := by kernel_rfl
theorem bG.T {F : Nat} {aa : Nat} {ac : Nat} {ae : Int} {ag : Int} {bu : Sl} {cJ : Int} {cK : Int} {cp : Int} {H : Hp} {v : AV} {H' : Hp} (h : bG.tw F aa ac ae ag bu cJ cK cp H = some (v, H')) : Go.AE.T Try.prog 158 [(.ptr aa ac), (.agg [(.int .i64 ae), (.int .i64 ag), (.sl bu)]), (.int .i64 cJ), (.int .i64 cK), (.int .i64 cp)] H v H' :=
 Go.AE.T.of (Y := tabs) (C := mkOrc (bG.cs F (aO.tw F) (dj.tw F))) (PN := bG.pn) (LH := bG.lh F (aO.tw F) (dj.tw F)) (F := F) (TB := bG.tb) (fn := Try.f158) (code := bG.code) mixed tabs_ok (mkOrc_ok (bG.cs_ok F)) Try.func158 (by kernel_rfl) (by kernel_rfl) bG.ok (Nat.le_of_ble_eq_true (by kernel_rfl)) (bG.loops F (aO.tw F) (dj.tw F)) (Eq.trans (bG.eqX F (aO.tw F) (dj.tw F) aa ac ae ag bu cJ cK cp H) h)
theorem bG.mk_T {F : Nat} {args : List AV} {H : Hp} {v : AV} {H' : Hp} (h : bG.mk (bG.tw F) args H = some (v, H')) : Go.AE.T Try.prog 158 args H v H' := by
 unfold bG.mk at h
 split at h
 ·exact bG.T h
 ·cases h
noncomputable def cP.twX (F : Nat) (gV : Nat → Nat → Int → Int → Sl → Int → Int → Int → Hp → OA) (gW : Nat → Nat → Int → Int → Sl → Int → Int → Int → Hp → OA) (aa : Nat) (ac : Nat) (ae : Int) (bC : Int) (cq : Int) (H : Hp) : OA := (Hp.ldI H .i64 aa (ac + 6)).bind fun n6 => (Hp.ldI H .i64 aa ((ac + 6) + 1)).bind fun n7 => (Hp.ldSl H aa ((ac + 6) + 2)).bind fun s8 => (gV aa ac n6 n7 s8 ae bC cq H).bind fun r9 => (Hp.ldI r9.2 .i64 aa ac).bind fun n10 => (Hp.ldI r9.2 .i64 aa (ac + 1)).bind fun n11 => (Hp.ldSl r9.2 aa (ac + 2)).bind fun s12 => (gV aa ac n10 n11 s12 ae bC cq r9.2).bind fun r13 => (Hp.ldI r13.2 .i64 aa (ac + 3)).bind fun n14 => (Hp.ldI r13.2 .i64 aa ((ac + 3) + 1)).bind fun n15 => (Hp.ldSl r13.2 aa ((ac + 3) + 2)).bind fun s16 => (gW aa ac n14 n15 s16 bC ae (IntKind.i64.wrap (0 - cq)) r13.2).bind fun r17 => some ((.tup []), r17.2)
noncomputable def cP.tw (F : Nat) (aa : Nat) (ac : Nat) (ae : Int) (bC : Int) (cq : Int) (H : Hp) : OA := cP.twX F (bF.tw F) (bG.tw F) aa ac ae bC cq H
noncomputable def cP.code : Go.Code := (Try.f137.body).getD .skip
noncomputable def cP.lh (F : Nat) (gV : Nat → Nat → Int → Int → Sl → Int → Int → Int → Hp → OA) (gW : Nat → Nat → Int → Int → Sl → Int → Int → Int → Hp → OA) (p : Nat) (ks : List Nat) (n : Nat) (tm : Tm) (H : Hp) : OA := none
def cP.pn : Nat → List Nat := fun i => (([] : List (Nat × List Nat)).lookup i).getD []
def cP.tb : Nat → List (List Nat) := fun i => (([] : List (Nat × List (List Nat))).lookup i).getD []
noncomputable def cP.mk (g : Nat → Nat → Int → Int → Int → Hp → OA) (args : List AV) (H : Hp) : OA := match args with
 | [(.ptr aa ac), (.int .i64 ae), (.int .i64 bC), (.int .i64 cq)] => g aa ac ae bC cq H
 | _ => none
noncomputable def cP.cs (F : Nat) (gV : Nat → Nat → Int → Int → Sl → Int → Int → Int → Hp → OA) (gW : Nat → Nat → Int → Int → Sl → Int → Int → Int → Hp → OA) : List (FuncId × (List AV → Hp → OA)) := [(157, bF.mk gV), (158, bG.mk gW)]
theorem cP.loops (F : Nat) (gV : Nat → Nat → Int → Int → Sl → Int → Int → Int → Hp → OA) (gW : Nat → Nat → Int → Int → Sl → Int → Int → Int → Hp → OA) : LoopsOk tabs (mkOrc (cP.cs F gV gW)) cP.pn (cP.lh F gV gW) F [] 1 cP.code (fun tm H => aresults tabs.ty H tm Try.f137.results.toList fun v => some (v, H)) (fun _ _ _ => none) (fun tm H => aresults tabs.ty H tm Try.f137.results.toList fun v => some (v, H)) := by
 exact loops_none (by kernel_rfl)
theorem cP.eqX (F : Nat) (gV : Nat → Nat → Int → Int → Sl → Int → Int → Int → Hp → OA) (gW : Nat → Nat → Int → Int → Sl → Int → Int → Int → Hp → OA) (aa : Nat) (ac : Nat) (ae : Int) (bC : Int) (cq : Int) (H : Hp) : aCode tabs (mkOrc (cP.cs F gV gW)) cP.pn (cP.lh F gV gW) F [] 1 cP.code (argTm [(.ptr aa ac), (.int .i64 ae), (.int .i64 bC), (.int .i64 cq)]) H (fun tm H => aresults tabs.ty H tm Try.f137.results.toList fun v => some (v, H)) (fun _ _ _ => none) (fun tm H => aresults tabs.ty H tm Try.f137.results.toList fun v => some (v, H)) = cP.twX F gV gW aa ac ae bC cq H := by kernel_rfl
theorem cP.cs_ok (F : Nat) : ∀ p ∈ cP.cs F (bF.tw F) (bG.tw F), ∀ args H v H', p.2 args H = some (v, H') → Go.AE.T Try.prog p.1 args H v H' := by
 intro p hp
 simp only [cP.cs, List.mem_cons, List.not_mem_nil, or_false] at hp
 rcases hp with rfl | rfl
 ·exact fun args H v H' h => bF.mk_T h
 ·exact fun args H v H' h => bG.mk_T h
theorem cP.ok : codeOk cP.pn Try.f137.ntmps cP.tb cP.code = true := by kernel_rfl
theorem cP.T {F : Nat} {aa : Nat} {ac : Nat} {ae : Int} {bC : Int} {cq : Int} {H : Hp} {v : AV} {H' : Hp} (h : cP.tw F aa ac ae bC cq H = some (v, H')) : Go.AE.T Try.prog 137 [(.ptr aa ac), (.int .i64 ae), (.int .i64 bC), (.int .i64 cq)] H v H' :=
 Go.AE.T.of (Y := tabs) (C := mkOrc (cP.cs F (bF.tw F) (bG.tw F))) (PN := cP.pn) (LH := cP.lh F (bF.tw F) (bG.tw F)) (F := F) (TB := cP.tb) (fn := Try.f137) (code := cP.code) mixed tabs_ok (mkOrc_ok (cP.cs_ok F)) Try.func137 (by kernel_rfl) (by kernel_rfl) cP.ok (Nat.le_of_ble_eq_true (by kernel_rfl)) (cP.loops F (bF.tw F) (bG.tw F)) (Eq.trans (cP.eqX F (bF.tw F) (bG.tw F) aa ac ae bC cq H) h)
theorem cP.mk_T {F : Nat} {args : List AV} {H : Hp} {v : AV} {H' : Hp} (h : cP.mk (cP.tw F) args H = some (v, H')) : Go.AE.T Try.prog 137 args H v H' := by
 unfold cP.mk at h
 split at h
 ·exact cP.T h
 ·cases h
noncomputable def dx.twX (F : Nat) (gW : Nat → Nat → Int → Int → Sl → Int → Int → Int → Hp → OA) (gV : Nat → Nat → Int → Int → Sl → Int → Int → Int → Hp → OA) (aa : Nat) (ac : Nat) (ae : Int) (bC : Int) (cq : Int) (H : Hp) : OA := (Hp.ldI H .i64 aa (ac + 6)).bind fun n6 => (Hp.ldI H .i64 aa ((ac + 6) + 1)).bind fun n7 => (Hp.ldSl H aa ((ac + 6) + 2)).bind fun s8 => (gW aa ac n6 n7 s8 ae bC cq H).bind fun r9 => (Hp.ldI r9.2 .i64 aa (ac + 9)).bind fun n10 => (Hp.ldI r9.2 .i64 aa ((ac + 9) + 1)).bind fun n11 => (Hp.ldSl r9.2 aa ((ac + 9) + 2)).bind fun s12 => (gW aa ac n10 n11 s12 ae bC cq r9.2).bind fun r13 => (Hp.ldI r13.2 .i64 aa (ac + 12)).bind fun n14 => (Hp.ldI r13.2 .i64 aa ((ac + 12) + 1)).bind fun n15 => (Hp.ldSl r13.2 aa ((ac + 12) + 2)).bind fun s16 => (gV aa ac n14 n15 s16 bC ae (IntKind.i64.wrap (0 - cq)) r13.2).bind fun r17 => some ((.tup []), r17.2)
noncomputable def dx.tw (F : Nat) (aa : Nat) (ac : Nat) (ae : Int) (bC : Int) (cq : Int) (H : Hp) : OA := dx.twX F (bG.tw F) (bF.tw F) aa ac ae bC cq H
noncomputable def dx.code : Go.Code := (Try.f154.body).getD .skip
noncomputable def dx.lh (F : Nat) (gW : Nat → Nat → Int → Int → Sl → Int → Int → Int → Hp → OA) (gV : Nat → Nat → Int → Int → Sl → Int → Int → Int → Hp → OA) (p : Nat) (ks : List Nat) (n : Nat) (tm : Tm) (H : Hp) : OA := none
def dx.pn : Nat → List Nat := fun i => (([] : List (Nat × List Nat)).lookup i).getD []
def dx.tb : Nat → List (List Nat) := fun i => (([] : List (Nat × List (List Nat))).lookup i).getD []
noncomputable def dx.mk (g : Nat → Nat → Int → Int → Int → Hp → OA) (args : List AV) (H : Hp) : OA := match args with
 | [(.ptr aa ac), (.int .i64 ae), (.int .i64 bC), (.int .i64 cq)] => g aa ac ae bC cq H
 | _ => none
noncomputable def dx.cs (F : Nat) (gW : Nat → Nat → Int → Int → Sl → Int → Int → Int → Hp → OA) (gV : Nat → Nat → Int → Int → Sl → Int → Int → Int → Hp → OA) : List (FuncId × (List AV → Hp → OA)) := [(158, bG.mk gW), (157, bF.mk gV)]
theorem dx.loops (F : Nat) (gW : Nat → Nat → Int → Int → Sl → Int → Int → Int → Hp → OA) (gV : Nat → Nat → Int → Int → Sl → Int → Int → Int → Hp → OA) : LoopsOk tabs (mkOrc (dx.cs F gW gV)) dx.pn (dx.lh F gW gV) F [] 1 dx.code (fun tm H => aresults tabs.ty H tm Try.f154.results.toList fun v => some (v, H)) (fun _ _ _ => none) (fun tm H => aresults tabs.ty H tm Try.f154.results.toList fun v => some (v, H)) := by
 exact loops_none (by kernel_rfl)
theorem dx.eqX (F : Nat) (gW : Nat → Nat → Int → Int → Sl → Int → Int → Int → Hp → OA) (gV : Nat → Nat → Int → Int → Sl → Int → Int → Int → Hp → OA) (aa : Nat) (ac : Nat) (ae : Int) (bC : Int) (cq : Int) (H : Hp) : aCode tabs (mkOrc (dx.cs F gW gV)) dx.pn (dx.lh F gW gV) F [] 1 dx.code (argTm [(.ptr aa ac), (.int .i64 ae), (.int .i64 bC), (.int .i64 cq)]) H (fun tm H => aresults tabs.ty H tm Try.f154.results.toList fun v => some (v, H)) (fun _ _ _ => none) (fun tm H => aresults tabs.ty H tm Try.f154.results.toList fun v => some (v, H)) = dx.twX F gW gV aa ac ae bC cq H := by kernel_rfl
theorem dx.cs_ok (F : Nat) : ∀ p ∈ dx.cs F (bG.tw F) (bF.tw F), ∀ args H v H', p.2 args H = some (v, H') → Go.AE.T Try.prog p.1 args H v H' := by
 intro p hp
 simp only [dx.cs, List.mem_cons, List.not_mem_nil, or_false] at hp
 rcases hp with rfl | rfl
 ·exact fun args H v H' h => bG.mk_T h
 ·exact fun args H v H' h => bF.mk_T h
theorem dx.ok : codeOk dx.pn Try.f154.ntmps dx.tb dx.code = true := by kernel_rfl
theorem dx.T {F : Nat} {aa : Nat} {ac : Nat} {ae : Int} {bC : Int} {cq : Int} {H : Hp} {v : AV} {H' : Hp} (h : dx.tw F aa ac ae bC cq H = some (v, H')) : Go.AE.T Try.prog 154 [(.ptr aa ac), (.int .i64 ae), (.int .i64 bC), (.int .i64 cq)] H v H' :=
 Go.AE.T.of (Y := tabs) (C := mkOrc (dx.cs F (bG.tw F) (bF.tw F))) (PN := dx.pn) (LH := dx.lh F (bG.tw F) (bF.tw F)) (F := F) (TB := dx.tb) (fn := Try.f154) (code := dx.code) mixed tabs_ok (mkOrc_ok (dx.cs_ok F)) Try.func154 (by kernel_rfl) (by kernel_rfl) dx.ok (Nat.le_of_ble_eq_true (by kernel_rfl)) (dx.loops F (bG.tw F) (bF.tw F)) (Eq.trans (dx.eqX F (bG.tw F) (bF.tw F) aa ac ae bC cq H) h)
theorem dx.mk_T {F : Nat} {args : List AV} {H : Hp} {v : AV} {H' : Hp} (h : dx.mk (dx.tw F) args H = some (v, H')) : Go.AE.T Try.prog 154 args H v H' := by
 unfold dx.mk at h
 split at h
 ·exact dx.T h
 ·cases h
noncomputable def aJ.j3 (F : Nat) (af : Int → Int → Sl → Int → Int → Hp → OA) (fa : Int → Int → Hp → OA) (cS : Nat → Nat → Int → Int → Int → Hp → OA) (fb : Nat → Nat → Int → Int → Int → Hp → OA) (C15_ : Nat → Nat → Int → Nat → Nat → Int → Hp → OA) (zc : Nat) (zd : Nat) (oy : Int) (qq : Nat) (ze : Nat) (oz : Int) (H119 : Hp) : OA := C15_ zc zd oy qq ze (IntKind.i64.wrap (oz + 1)) H119
noncomputable def aJ.l15 (F : Nat) (af : Int → Int → Sl → Int → Int → Hp → OA) (fa : Int → Int → Hp → OA) (cS : Nat → Nat → Int → Int → Int → Hp → OA) (fb : Nat → Nat → Int → Int → Int → Hp → OA)  : Nat → Nat → Nat → Int → Nat → Nat → Int → Hp → OA
 | 0, _, _, _, _, _, _, _ => none
 | uY + 1, gh, gi, fm, hH, jN, gX, H61 => (Hp.ldI H61 .i64 hH (jN + 1)).bind fun n91 => (bif (decide (gX < n91)) then ((Hp.ldB H61 gh (gi + 15)).bind fun b92 => (bif (!b92) then ((Hp.ldI H61 .i64 hH jN).bind fun n93 => (Hp.ldI H61 .i64 hH (jN + 1)).bind fun n94 => (Hp.ldSl H61 hH (jN + 2)).bind fun s95 => (af n93 n94 s95 fm gX H61).bind fun r96 => ((r96.1).asP).bind fun p97 => (if Cons H61 r96.2 then ((Hp.ldI r96.2 .i64 p97.1 p97.2).bind fun n98 => (Hp.ldI r96.2 .i64 hH jN).bind fun n99 => (Hp.ldI r96.2 .i64 hH (jN + 1)).bind fun n100 => (Hp.ldSl r96.2 hH (jN + 2)).bind fun s101 => (af n99 n100 s101 fm fm r96.2).bind fun r102 => ((r102.1).asP).bind fun p103 => (if Cons r96.2 r102.2 then ((Hp.ldI r102.2 .i64 p103.1 p103.2).bind fun n104 => (fa n98 n104 r102.2).bind fun r105 => ((r105.1).asI .i64).bind fun n106 => (bif (n106 != 0) then ((fb gh gi gX fm (IntKind.i64.wrap (0 - n106)) r105.2).bind fun r107 => aJ.j3 F af fa cS fb (aJ.l15 F af fa cS fb uY) gh gi fm hH jN gX r107.2) else (aJ.j3 F af fa cS fb (aJ.l15 F af fa cS fb uY) gh gi fm hH jN gX r105.2))) else none)) else none)) else (some ((.tup []), H61)))) else (some ((.tup []), H61)))
termination_by structural n => n
noncomputable def aJ.j4 (F : Nat) (af : Int → Int → Sl → Int → Int → Hp → OA) (fa : Int → Int → Hp → OA) (cS : Nat → Nat → Int → Int → Int → Hp → OA) (fb : Nat → Nat → Int → Int → Int → Hp → OA) (zf : Nat) (zg : Nat) (mG : Int) (qr : Nat) (zh : Nat) (H52 : Hp) : OA := aJ.l15 F af fa cS fb F zf zg mG qr zh (IntKind.i64.wrap (mG + 1)) H52
noncomputable def aJ.j5 (F : Nat) (af : Int → Int → Sl → Int → Int → Hp → OA) (fa : Int → Int → Hp → OA) (cS : Nat → Nat → Int → Int → Int → Hp → OA) (fb : Nat → Nat → Int → Int → Int → Hp → OA) (C13_ : Nat → Nat → Int → Nat → Nat → Int → Hp → OA) (zi : Nat) (zj : Nat) (oA : Int) (qs : Nat) (mF : Nat) (oB : Int) (H146 : Hp) : OA := C13_ zi zj oA qs mF (IntKind.i64.wrap (oB + 1)) H146
noncomputable def aJ.l13 (F : Nat) (af : Int → Int → Sl → Int → Int → Hp → OA) (fa : Int → Int → Hp → OA) (cS : Nat → Nat → Int → Int → Int → Hp → OA) (fb : Nat → Nat → Int → Int → Int → Hp → OA)  : Nat → Nat → Nat → Int → Nat → Nat → Int → Hp → OA
 | 0, _, _, _, _, _, _, _ => none
 | iX + 1, cM, eC, cR, eJ, jd, fD, H17 => (Hp.ldI H17 .i64 eJ jd).bind fun n120 => (bif (decide (fD < n120)) then ((Hp.ldB H17 cM (eC + 15)).bind fun b121 => (bif (!b121) then ((Hp.ldI H17 .i64 eJ jd).bind fun n122 => (Hp.ldI H17 .i64 eJ (jd + 1)).bind fun n123 => (Hp.ldSl H17 eJ (jd + 2)).bind fun s124 => (af n122 n123 s124 fD cR H17).bind fun r125 => ((r125.1).asP).bind fun p126 => (if Cons H17 r125.2 then ((Hp.ldI r125.2 .i64 p126.1 p126.2).bind fun n127 => (Hp.ldI r125.2 .i64 eJ jd).bind fun n128 => (Hp.ldI r125.2 .i64 eJ (jd + 1)).bind fun n129 => (Hp.ldSl r125.2 eJ (jd + 2)).bind fun s130 => (af n128 n129 s130 cR cR r125.2).bind fun r131 => ((r131.1).asP).bind fun p132 => (if Cons r125.2 r131.2 then ((Hp.ldI r131.2 .i64 p132.1 p132.2).bind fun n133 => (fa n127 n133 r131.2).bind fun r134 => ((r134.1).asI .i64).bind fun n135 => (bif (n135 != 0) then ((cS cM eC fD cR (IntKind.i64.wrap (0 - n135)) r134.2).bind fun r136 => aJ.j5 F af fa cS fb (aJ.l13 F af fa cS fb iX) cM eC cR eJ jd fD r136.2) else (aJ.j5 F af fa cS fb (aJ.l13 F af fa cS fb iX) cM eC cR eJ jd fD r134.2))) else none)) else none)) else (aJ.j4 F af fa cS fb cM eC cR eJ jd H17))) else (aJ.j4 F af fa cS fb cM eC cR eJ jd H17))
termination_by structural n => n
noncomputable def aJ.twX (F : Nat) (af : Int → Int → Sl → Int → Int → Hp → OA) (fa : Int → Int → Hp → OA) (cS : Nat → Nat → Int → Int → Int → Hp → OA) (fb : Nat → Nat → Int → Int → Int → Hp → OA) (aa : Nat) (ac : Nat) (ae : Int) (H : Hp) : OA := (Hp.ldI H .i64 aa (ac + 6)).bind fun n4 => (Hp.ldI H .i64 aa ((ac + 6) + 1)).bind fun n5 => (Hp.ldSl H aa ((ac + 6) + 2)).bind fun s6 => (Hp.new H [.int .i64 0, .int .i64 0, .sl ⟨none, 0, .ex 0⟩]).bind fun H7 => (Hp.st H7 H.length 0 (.int .i64 n4)).bind fun H8 => (Hp.st H8 H.length (0 + 1) (.int .i64 n5)).bind fun H9 => (Hp.st H9 H.length (0 + 1 + 1) (.sl s6)).bind fun H10 => aJ.l13 F af fa cS fb F aa ac ae H.length 0 (IntKind.i64.wrap (ae + 1)) H10
noncomputable def aJ.tw (F : Nat) (aa : Nat) (ac : Nat) (ae : Int) (H : Hp) : OA := aJ.twX F (aO.tw F) (dr.tw F) (cP.tw F) (dx.tw F) aa ac ae H
noncomputable def aJ.code : Go.Code := (Try.f134.body).getD .skip
noncomputable def aJ.lh13 (F : Nat) (af : Int → Int → Sl → Int → Int → Hp → OA) (fa : Int → Int → Hp → OA) (cS : Nat → Nat → Int → Int → Int → Hp → OA) (fb : Nat → Nat → Int → Int → Int → Hp → OA) (ks : List Nat) (n : Nat) (tm : Tm) (H : Hp) : OA := match ks, tm 0, tm 1, tm 4, tm 5 with
 | [], (.ptr cM eC), (.int .i64 cR), (.ptr eJ jd), (.int .i64 fD) => aJ.l13 F af fa cS fb n cM eC cR eJ jd fD H
 | _, _, _, _, _ => none
theorem aJ.lh13_inv {F : Nat} {af : Int → Int → Sl → Int → Int → Hp → OA} {fa : Int → Int → Hp → OA} {cS : Nat → Nat → Int → Int → Int → Hp → OA} {fb : Nat → Nat → Int → Int → Int → Hp → OA} {ks : List Nat} {n : Nat} {tm : Tm} {H : Hp} {r : AV × Hp} (h : aJ.lh13 F af fa cS fb ks n tm H = some r) : ∃ cM : Nat, ∃ eC : Nat, ∃ cR : Int, ∃ eJ : Nat, ∃ jd : Nat, ∃ fD : Int, ks = [] ∧ tm 0 = (.ptr cM eC) ∧ tm 1 = (.int .i64 cR) ∧ tm 4 = (.ptr eJ jd) ∧ tm 5 = (.int .i64 fD) ∧ aJ.l13 F af fa cS fb n cM eC cR eJ jd fD H = some r := by
 unfold aJ.lh13 at h
 split at h
 ·exact ⟨_, _, _, _, _, _, rfl, by assumption, by assumption, by assumption, by assumption, h⟩
 ·cases h
noncomputable def aJ.lh15 (F : Nat) (af : Int → Int → Sl → Int → Int → Hp → OA) (fa : Int → Int → Hp → OA) (cS : Nat → Nat → Int → Int → Int → Hp → OA) (fb : Nat → Nat → Int → Int → Int → Hp → OA) (ks : List Nat) (n : Nat) (tm : Tm) (H : Hp) : OA := match ks, tm 0, tm 1, tm 4, tm 7 with
 | [], (.ptr gh gi), (.int .i64 fm), (.ptr hH jN), (.int .i64 gX) => aJ.l15 F af fa cS fb n gh gi fm hH jN gX H
 | _, _, _, _, _ => none
theorem aJ.lh15_inv {F : Nat} {af : Int → Int → Sl → Int → Int → Hp → OA} {fa : Int → Int → Hp → OA} {cS : Nat → Nat → Int → Int → Int → Hp → OA} {fb : Nat → Nat → Int → Int → Int → Hp → OA} {ks : List Nat} {n : Nat} {tm : Tm} {H : Hp} {r : AV × Hp} (h : aJ.lh15 F af fa cS fb ks n tm H = some r) : ∃ gh : Nat, ∃ gi : Nat, ∃ fm : Int, ∃ hH : Nat, ∃ jN : Nat, ∃ gX : Int, ks = [] ∧ tm 0 = (.ptr gh gi) ∧ tm 1 = (.int .i64 fm) ∧ tm 4 = (.ptr hH jN) ∧ tm 7 = (.int .i64 gX) ∧ aJ.l15 F af fa cS fb n gh gi fm hH jN gX H = some r := by
 unfold aJ.lh15 at h
 split at h
 ·exact ⟨_, _, _, _, _, _, rfl, by assumption, by assumption, by assumption, by assumption, h⟩
 ·cases h
noncomputable def aJ.lh (F : Nat) (af : Int → Int → Sl → Int → Int → Hp → OA) (fa : Int → Int → Hp → OA) (cS : Nat → Nat → Int → Int → Int → Hp → OA) (fb : Nat → Nat → Int → Int → Int → Hp → OA) (p : Nat) (ks : List Nat) (n : Nat) (tm : Tm) (H : Hp) : OA := bif p.beq 15 then aJ.lh15 F af fa cS fb ks n tm H else (bif p.beq 13 then aJ.lh13 F af fa cS fb ks n tm H else (none))
def aJ.pn : Nat → List Nat := fun i => (([(4, [12]), (10, [12])] : List (Nat × List Nat)).lookup i).getD []
def aJ.tb : Nat → List (List Nat) := fun i => (([(4, [[], [], [], [0, 1, 2], [0, 1, 2, 3], [0, 1, 2, 3, 4], [], [], [], [0, 1, 2, 3, 6, 7, 8], [0, 1, 2, 3, 6, 7, 8, 9], [0, 1, 2, 3, 6, 7, 8, 9, 10], [0, 1, 2, 3, 4, 5, 6, 7, 8, 9, 10, 11], [0, 1, 2, 3, 4, 5, 6, 7, 8, 9, 10, 11, 12]]), (10, [[], [], [], [0, 1, 2], [0, 1, 2, 3], [0, 1, 2, 3, 4], [], [], [], [0, 1, 2, 3, 6, 7, 8], [0, 1, 2, 3, 6, 7, 8, 9], [0, 1, 2, 3, 6, 7, 8, 9, 10], [0, 1, 2, 3, 4, 5, 6, 7, 8, 9, 10, 11], [0, 1, 2, 3, 4, 5, 6, 7, 8, 9, 10, 11, 12]])] : List (Nat × List (List Nat))).lookup i).getD []
noncomputable def aJ.mk (g : Nat → Nat → Int → Hp → OA) (args : List AV) (H : Hp) : OA := match args with
 | [(.ptr aa ac), (.int .i64 ae)] => g aa ac ae H
 | _ => none
noncomputable def aJ.cs (F : Nat) (af : Int → Int → Sl → Int → Int → Hp → OA) (fa : Int → Int → Hp → OA) (cS : Nat → Nat → Int → Int → Int → Hp → OA) (fb : Nat → Nat → Int → Int → Int → Hp → OA) : List (FuncId × (List AV → Hp → OA)) := [(95, aO.mk af), (153, dr.mk fa), (137, cP.mk cS), (154, dx.mk fb)]
theorem aJ.loops (F : Nat) (af : Int → Int → Sl → Int → Int → Hp → OA) (fa : Int → Int → Hp → OA) (cS : Nat → Nat → Int → Int → Int → Hp → OA) (fb : Nat → Nat → Int → Int → Int → Hp → OA) : LoopsOk tabs (mkOrc (aJ.cs F af fa cS fb)) aJ.pn (aJ.lh F af fa cS fb) F [] 1 aJ.code (fun tm H => aresults tabs.ty H tm Try.f134.results.toList fun v => some (v, H)) (fun _ _ _ => none) (fun tm H => aresults tabs.ty H tm Try.f134.results.toList fun v => some (v, H)) := by
 refine LoopsOk.seq ?_ ?_
 ·exact loops_none (by kernel_rfl)
 ·refine LoopsOk.seq ?_ ?_
  ·refine LoopsOk.seq ?_ ?_
   ·exact loops_none (by kernel_rfl)
   ·refine LoopsOk.block ?_
    refine LoopsOk.loop (fun tm H => ?_) (fun k13 tm H r h0 => ?_) (fun k13 => ?_)
    ·refine none_of fun r h0 => ?_
     obtain ⟨cM, eC, cR, eJ, jd, fD, hks, e0, e1, e4, e5, h⟩ := aJ.lh13_inv (show aJ.lh13 F af fa cS fb [] 0 tm H = some r from h0)
     cases h
    ·obtain ⟨cM, eC, cR, eJ, jd, fD, hks, e0, e1, e4, e5, h⟩ := aJ.lh13_inv (show aJ.lh13 F af fa cS fb [] (k13 + 1) tm H = some r from h0)
     have q0 : (Tm.put tm 0 (.ptr cM eC)) = tm := by exact Tm.put_same e0
     have q1 : (Tm.put (Tm.put tm 0 (.ptr cM eC)) 1 (.int .i64 cR)) = tm := by rw [q0]; exact Tm.put_same e1
     have q2 : (Tm.put (Tm.put (Tm.put tm 0 (.ptr cM eC)) 1 (.int .i64 cR)) 4 (.ptr eJ jd)) = tm := by rw [q1]; exact Tm.put_same e4
     have q3 : (Tm.put (Tm.put (Tm.put (Tm.put tm 0 (.ptr cM eC)) 1 (.int .i64 cR)) 4 (.ptr eJ jd)) 5 (.int .i64 fD)) = tm := by rw [q2]; exact Tm.put_same e5
     rw [← q3]
     exact Eq.trans (by kernel_rfl) h
    ·exact loops_none (by kernel_rfl)
  ·refine LoopsOk.seq ?_ ?_
   ·exact loops_none (by kernel_rfl)
   ·refine LoopsOk.block ?_
    refine LoopsOk.loop (fun tm H => ?_) (fun k15 tm H r h0 => ?_) (fun k15 => ?_)
    ·refine none_of fun r h0 => ?_
     obtain ⟨gh, gi, fm, hH, jN, gX, hks, e0, e1, e4, e7, h⟩ := aJ.lh15_inv (show aJ.lh15 F af fa cS fb [] 0 tm H = some r from h0)
     cases h
    ·obtain ⟨gh, gi, fm, hH, jN, gX, hks, e0, e1, e4, e7, h⟩ := aJ.lh15_inv (show aJ.lh15 F af fa cS fb [] (k15 + 1) tm H = some r from h0)
     have q0 : (Tm.put tm 0 (.ptr gh gi)) = tm := by exact Tm.put_same e0
     have q1 : (Tm.put (Tm.put tm 0 (.ptr gh gi)) 1 (.int .i64 fm)) = tm := by rw [q0]; exact Tm.put_same e1
     have q2 : (Tm.put (Tm.put (Tm.put tm 0 (.ptr gh gi)) 1 (.int .i64 fm)) 4 (.ptr hH jN)) = tm := by rw [q1]; exact Tm.put_same e4
     have q3 : (Tm.put (Tm.put (Tm.put (Tm.put tm 0 (.ptr gh gi)) 1 (.int .i64 fm)) 4 (.ptr hH jN)) 7 (.int .i64 gX)) = tm := by rw [q2]; exact Tm.put_same e7
     rw [← q3]
     exact Eq.trans (by kernel_rfl) h
    ·exact loops_none (by kernel_rfl)
theorem aJ.eqX (F : Nat) (af : Int → Int → Sl → Int → Int → Hp → OA) (fa : Int → Int → Hp → OA) (cS : Nat → Nat → Int → Int → Int → Hp → OA) (fb : Nat → Nat → Int → Int → Int → Hp → OA) (aa : Nat) (ac : Nat) (ae : Int) (H : Hp) : aCode tabs (mkOrc (aJ.cs F af fa cS fb)) aJ.pn (aJ.lh F af fa cS fb) F [] 1 aJ.code (argTm [(.ptr aa ac), (.int .i64 ae)]) H (fun tm H => aresults tabs.ty H tm Try.f134.results.toList fun v => some (v, H)) (fun _ _ _ => none) (fun tm H => aresults tabs.ty H tm Try.f134.results.toList fun v => some (v, H)) = aJ.twX F af fa cS fb aa ac ae H := by kernel_rfl
theorem aJ.cs_ok (F : Nat) : ∀ p ∈ aJ.cs F (aO.tw F) (dr.tw F) (cP.tw F) (dx.tw F), ∀ args H v H', p.2 args H = some (v, H') → Go.AE.T Try.prog p.1 args H v H' := by
 intro p hp
 simp only [aJ.cs, List.mem_cons, List.not_mem_nil, or_false] at hp
 rcases hp with rfl | rfl | rfl | rfl
 ·exact fun args H v H' h => aO.mk_T h
 ·exact fun args H v H' h => dr.mk_T h
 ·exact fun args H v H' h => cP.mk_T h
 ·exact fun args H v H' h => dx.mk_T h
theorem aJ.ok : codeOk aJ.pn Try.f134.ntmps aJ.tb aJ.code = true := by kernel_rfl
theorem aJ.T {F : Nat} {aa : Nat} {ac : Nat} {ae : Int} {H : Hp} {v : AV} {H' : Hp} (h : aJ.tw F aa ac ae H = some (v, H')) : Go.AE.T Try.prog 134 [(.ptr aa ac), (.int .i64 ae)] H v H' :=
 Go.AE.T.of (Y := tabs) (C := mkOrc (aJ.cs F (aO.tw F) (dr.tw F) (cP.tw F) (dx.tw F))) (PN := aJ.pn) (LH := aJ.lh F (aO.tw F) (dr.tw F) (cP.tw F) (dx.tw F)) (F := F) (TB := aJ.tb) (fn := Try.f134) (code := aJ.code) mixed tabs_ok (mkOrc_ok (aJ.cs_ok F)) Try.func134 (by kernel_rfl) (by kernel_rfl) aJ.ok (Nat.le_of_ble_eq_true (by kernel_rfl)) (aJ.loops F (aO.tw F) (dr.tw F) (cP.tw F) (dx.tw F)) (Eq.trans (aJ.eqX F (aO.tw F) (dr.tw F) (cP.tw F) (dx.tw F) aa ac ae H) h)
theorem aJ.mk_T {F : Nat} {args : List AV} {H : Hp} {v : AV} {H' : Hp} (h : aJ.mk (aJ.tw F) args H = some (v, H')) : Go.AE.T Try.prog 134 args H v H' := by
 unfold aJ.mk at h
 split at h
 ·exact aJ.T h
 ·cases h
noncomputable def dV.twX (F : Nat) (aa : Int) (H : Hp) : OA := some ((.bool (aa != 0)), H)
noncomputable def dV.tw (F : Nat) (aa : Int) (H : Hp) : OA := dV.twX F aa H
noncomputable def dV.code : Go.Code := (Try.f155.body).getD .skip
noncomputable def dV.lh (F : Nat) (p : Nat) (ks : List Nat) (n : Nat) (tm : Tm) (H : Hp) : OA := none
def dV.pn : Nat → List Nat := fun i => (([] : List (Nat × List Nat)).lookup i).getD []
def dV.tb : Nat → List (List Nat) := fun i => (([] : List (Nat × List (List Nat))).lookup i).getD []
noncomputable def dV.mk (g : Int → Hp → OA) (args : List AV) (H : Hp) : OA := match args with
 | [(.int .i64 aa)] => g aa H
 | _ => none
noncomputable def dV.cs (F : Nat) : List (FuncId × (List AV → Hp → OA)) := []
theorem dV.loops (F : Nat) : LoopsOk tabs (mkOrc (dV.cs F)) dV.pn (dV.lh F) F [] 1 dV.code (fun tm H => aresults tabs.ty H tm Try.f155.results.toList fun v => some (v, H)) (fun _ _ _ => none) (fun tm H => aresults tabs.ty H tm Try.f155.results.toList fun v => some (v, H)) := by
 exact loops_none (by kernel_rfl)
theorem dV.eqX (F : Nat) (aa : Int) (H : Hp) : aCode tabs (mkOrc (dV.cs F)) dV.pn (dV.lh F) F [] 1 dV.code (argTm [(.int .i64 aa)]) H (fun tm H => aresults tabs.ty H tm Try.f155.results.toList fun v => some (v, H)) (fun _ _ _ => none) (fun tm H => aresults tabs.ty H tm Try.f155.results.toList fun v => some (v, H)) = dV.twX F aa H := by kernel_rfl
theorem dV.cs_ok (F : Nat) : ∀ p ∈ dV.cs F, ∀ args H v H', p.2 args H = some (v, H') → Go.AE.T Try.prog p.1 args H v H' := by
 intro p hp
 exact absurd (show p ∈ [] from hp) List.not_mem_nil
theorem dV.ok : codeOk dV.pn Try.f155.ntmps dV.tb dV.code = true := by kernel_rfl
theorem dV.T {F : Nat} {aa : Int} {H : Hp} {v : AV} {H' : Hp} (h : dV.tw F aa H = some (v, H')) : Go.AE.T Try.prog 155 [(.int .i64 aa)] H v H' :=
 Go.AE.T.of (Y := tabs) (C := mkOrc (dV.cs F)) (PN := dV.pn) (LH := dV.lh F) (F := F) (TB := dV.tb) (fn := Try.f155) (code := dV.code) mixed tabs_ok (mkOrc_ok (dV.cs_ok F)) Try.func155 (by kernel_rfl) (by kernel_rfl) dV.ok (Nat.le_of_ble_eq_true (by kernel_rfl)) (dV.loops F) (Eq.trans (dV.eqX F aa H) h)
theorem dV.mk_T {F : Nat} {args : List AV} {H : Hp} {v : AV} {H' : Hp} (h : dV.mk (dV.tw F) args H = some (v, H')) : Go.AE.T Try.prog 155 args H v H' := by
 unfold dV.mk at h
 split at h
 ·exact dV.T h
 ·cases h
noncomputable def cv.l13 (F : Nat) (iC : Int → Hp → OA)  : Nat → Sl → Int → Int → Hp → OA
 | 0, _, _, _, _ => none
 | iX + 1, gu, fI, eX, H6 => (bif (decide (eX < fI)) then ((Sl.idx gu eX 1).bind fun p11 => (Hp.ldI H6 .i64 p11.1 p11.2).bind fun n12 => (iC n12 H6).bind fun r13 => ((r13.1).asB).bind fun b14 => (bif b14 then (some ((.int .i64 eX), r13.2)) else (cv.l13 F iC iX gu fI (IntKind.i64.wrap (eX + 1)) r13.2))) else (some ((.int .i64 (-1)), H6)))
termination_by structural n => n
noncomputable def cv.twX (F : Nat) (iC : Int → Hp → OA) (aa : Sl) (H : Hp) : OA := cv.l13 F iC F aa (aa.n : Int) 0 H
noncomputable def cv.tw (F : Nat) (aa : Sl) (H : Hp) : OA := cv.twX F (dV.tw F) aa H
noncomputable def cv.code : Go.Code := (Try.f117.body).getD .skip
noncomputable def cv.lh13 (F : Nat) (iC : Int → Hp → OA) (ks : List Nat) (n : Nat) (tm : Tm) (H : Hp) : OA := match ks, tm 0, tm 1, tm 7, tm 8 with
 | [], (.sl gu), (.fn 155 []), (.int .i64 fI), (.int .i64 eX) => cv.l13 F iC n gu fI eX H
 | _, _, _, _, _ => none
theorem cv.lh13_inv {F : Nat} {iC : Int → Hp → OA} {ks : List Nat} {n : Nat} {tm : Tm} {H : Hp} {r : AV × Hp} (h : cv.lh13 F iC ks n tm H = some r) : ∃ gu : Sl, ∃ fI : Int, ∃ eX : Int, ks = [] ∧ tm 0 = (.sl gu) ∧ tm 1 = (.fn 155 []) ∧ tm 7 = (.int .i64 fI) ∧ tm 8 = (.int .i64 eX) ∧ cv.l13 F iC n gu fI eX H = some r := by
 unfold cv.lh13 at h
 split at h
 ·exact ⟨_, _, _, rfl, by assumption, by assumption, by assumption, by assumption, h⟩
 ·cases h
noncomputable def cv.lh (F : Nat) (iC : Int → Hp → OA) (p : Nat) (ks : List Nat) (n : Nat) (tm : Tm) (H : Hp) : OA := bif p.beq 13 then cv.lh13 F iC ks n tm H else (none)
def cv.pn : Nat → List Nat := fun i => (([] : List (Nat × List Nat)).lookup i).getD []
def cv.tb : Nat → List (List Nat) := fun i => (([] : List (Nat × List (List Nat))).lookup i).getD []
noncomputable def cv.mk (g : Sl → Hp → OA) (args : List AV) (H : Hp) : OA := match args with
 | [(.sl aa), (.fn 155 [])] => g aa H
 | _ => none
noncomputable def cv.cs (F : Nat) (iC : Int → Hp → OA) : List (FuncId × (List AV → Hp → OA)) := [(155, dV.mk iC)]
theorem cv.loops (F : Nat) (iC : Int → Hp → OA) : LoopsOk tabs (mkOrc (cv.cs F iC)) cv.pn (cv.lh F iC) F [] 1 cv.code (fun tm H => aresults tabs.ty H tm Try.f117.results.toList fun v => some (v, H)) (fun _ _ _ => none) (fun tm H => aresults tabs.ty H tm Try.f117.results.toList fun v => some (v, H)) := by
 refine LoopsOk.seq ?_ ?_
 ·exact loops_none (by kernel_rfl)
 ·refine LoopsOk.seq ?_ ?_
  ·refine LoopsOk.seq ?_ ?_
   ·exact loops_none (by kernel_rfl)
   ·refine LoopsOk.block ?_
    refine LoopsOk.loop (fun tm H => ?_) (fun k13 tm H r h0 => ?_) (fun k13 => ?_)
    ·refine none_of fun r h0 => ?_
     obtain ⟨gu, fI, eX, hks, e0, e1, e7, e8, h⟩ := cv.lh13_inv (show cv.lh13 F iC [] 0 tm H = some r from h0)
     cases h
    ·obtain ⟨gu, fI, eX, hks, e0, e1, e7, e8, h⟩ := cv.lh13_inv (show cv.lh13 F iC [] (k13 + 1) tm H = some r from h0)
     have q0 : (Tm.put tm 0 (.sl gu)) = tm := by exact Tm.put_same e0
     have q1 : (Tm.put (Tm.put tm 0 (.sl gu)) 1 (.fn 155 [])) = tm := by rw [q0]; exact Tm.put_same e1
     have q2 : (Tm.put (Tm.put (Tm.put tm 0 (.sl gu)) 1 (.fn 155 [])) 7 (.int .i64 fI)) = tm := by rw [q1]; exact Tm.put_same e7
     have q3 : (Tm.put (Tm.put (Tm.put (Tm.put tm 0 (.sl gu)) 1 (.fn 155 [])) 7 (.int .i64 fI)) 8 (.int .i64 eX)) = tm := by rw [q2]; exact Tm.put_same e8
     rw [← q3]
     exact Eq.trans (by kernel_rfl) h
    ·exact loops_none (by kernel_rfl)
  ·exact loops_none (by kernel_rfl)
theorem cv.eqX (F : Nat) (iC : Int → Hp → OA) (aa : Sl) (H : Hp) : aCode tabs (mkOrc (cv.cs F iC)) cv.pn (cv.lh F iC) F [] 1 cv.code (argTm [(.sl aa), (.fn 155 [])]) H (fun tm H => aresults tabs.ty H tm Try.f117.results.toList fun v => some (v, H)) (fun _ _ _ => none) (fun tm H => aresults tabs.ty H tm Try.f117.results.toList fun v => some (v, H)) = cv.twX F iC aa H := by kernel_rfl
theorem cv.cs_ok (F : Nat) : ∀ p ∈ cv.cs F (dV.tw F), ∀ args H v H', p.2 args H = some (v, H') → Go.AE.T Try.prog p.1 args H v H' := by
 intro p hp
 simp only [cv.cs, List.mem_cons, List.not_mem_nil, or_false] at hp
 subst hp
 exact fun args H v H' h => dV.mk_T h
theorem cv.ok : codeOk cv.pn Try.f117.ntmps cv.tb cv.code = true := by kernel_rfl
theorem cv.T {F : Nat} {aa : Sl} {H : Hp} {v : AV} {H' : Hp} (h : cv.tw F aa H = some (v, H')) : Go.AE.T Try.prog 117 [(.sl aa), (.fn 155 [])] H v H' :=
 Go.AE.T.of (Y := tabs) (C := mkOrc (cv.cs F (dV.tw F))) (PN := cv.pn) (LH := cv.lh F (dV.tw F)) (F := F) (TB := cv.tb) (fn := Try.f117) (code := cv.code) mixed tabs_ok (mkOrc_ok (cv.cs_ok F)) Try.func117 (by kernel_rfl) (by kernel_rfl) cv.ok (Nat.le_of_ble_eq_true (by kernel_rfl)) (cv.loops F (dV.tw F)) (Eq.trans (cv.eqX F (dV.tw F) aa H) h)
theorem cv.mk_T {F : Nat} {args : List AV} {H : Hp} {v : AV} {H' : Hp} (h : cv.mk (cv.tw F) args H = some (v, H')) : Go.AE.T Try.prog 117 args H v H' := by
 unfold cv.mk at h
 split at h
 ·exact cv.T h
 ·cases h
noncomputable def dD.twX (F : Nat) (kY : Sl → Hp → OA) (aa : Sl) (H : Hp) : OA := (kY aa H).bind fun r2 => ((r2.1).asI .i64).bind fun n3 => some ((.bool (decide (n3 ≥ 0))), r2.2)
noncomputable def dD.tw (F : Nat) (aa : Sl) (H : Hp) : OA := dD.twX F (cv.tw F) aa H
noncomputable def dD.code : Go.Code := (Try.f81.body).getD .skip
noncomputable def dD.lh (F : Nat) (kY : Sl → Hp → OA) (p : Nat) (ks : List Nat) (n : Nat) (tm : Tm) (H : Hp) : OA := none
def dD.pn : Nat → List Nat := fun i => (([] : List (Nat × List Nat)).lookup i).getD []
def dD.tb : Nat → List (List Nat) := fun i => (([] : List (Nat × List (List Nat))).lookup i).getD []
noncomputable def dD.mk (g : Sl → Hp → OA) (args : List AV) (H : Hp) : OA := match args with
 | [(.sl aa), (.fn 155 [])] => g aa H
 | _ => none
noncomputable def dD.cs (F : Nat) (kY : Sl → Hp → OA) : List (FuncId × (List AV → Hp → OA)) := [(117, cv.mk kY)]
theorem dD.loops (F : Nat) (kY : Sl → Hp → OA) : LoopsOk tabs (mkOrc (dD.cs F kY)) dD.pn (dD.lh F kY) F [] 1 dD.code (fun tm H => aresults tabs.ty H tm Try.f81.results.toList fun v => some (v, H)) (fun _ _ _ => none) (fun tm H => aresults tabs.ty H tm Try.f81.results.toList fun v => some (v, H)) := by
 exact loops_none (by kernel_rfl)
theorem dD.eqX (F : Nat) (kY : Sl → Hp → OA) (aa : Sl) (H : Hp) : aCode tabs (mkOrc (dD.cs F kY)) dD.pn (dD.lh F kY) F [] 1 dD.code (argTm [(.sl aa), (.fn 155 [])]) H (fun tm H => aresults tabs.ty H tm Try.f81.results.toList fun v => some (v, H)) (fun _ _ _ => none) (fun tm H => aresults tabs.ty H tm Try.f81.results.toList fun v => some (v, H)) = dD.twX F kY aa H := by kernel_rfl
theorem dD.cs_ok (F : Nat) : ∀ p ∈ dD.cs F (cv.tw F), ∀ args H v H', p.2 args H = some (v, H') → Go.AE.T Try.prog p.1 args H v H' := by
 intro p hp
 simp only [dD.cs, List.mem_cons, List.not_mem_nil, or_false] at hp
 subst hp
 exact fun args H v H' h => cv.mk_T h
theorem dD.ok : codeOk dD.pn Try.f81.ntmps dD.tb dD.code = true := by kernel_rfl
theorem dD.T {F : Nat} {aa : Sl} {H : Hp} {v : AV} {H' : Hp} (h : dD.tw F aa H = some (v, H')) : Go.AE.T Try.prog 81 [(.sl aa), (.fn 155 [])] H v H' :=
 Go.AE.T.of (Y := tabs) (C := mkOrc (dD.cs F (cv.tw F))) (PN := dD.pn) (LH := dD.lh F (cv.tw F)) (F := F) (TB := dD.tb) (fn := Try.f81) (code := dD.code) mixed tabs_ok (mkOrc_ok (dD.cs_ok F)) Try.func81 (by kernel_rfl) (by kernel_rfl) dD.ok (Nat.le_of_ble_eq_true (by kernel_rfl)) (dD.loops F (cv.tw F)) (Eq.trans (dD.eqX F (cv.tw F) aa H) h)
theorem dD.mk_T {F : Nat} {args : List AV} {H : Hp} {v : AV} {H' : Hp} (h : dD.mk (dD.tw F) args H = some (v, H')) : Go.AE.T Try.prog 81 args H v H' := by
 unfold dD.mk at h
 split at h
 ·exact dD.T h
 ·cases h
noncomputable def bB.j1 (F : Nat) (af : Int → Int → Sl → Int → Int → Hp → OA) (bN : Int → Int → Sl → Int → Hp → OA) (gY : Sl → Hp → OA) (mH : Int) (oC : Nat) (tj : Nat) (H34 : Hp) : OA := (Hp.ldI H34 .i64 oC tj).bind fun n35 => (Hp.ldI H34 .i64 oC (tj + 1)).bind fun n36 => (Hp.ldSl H34 oC (tj + 2)).bind fun s37 => (bN n35 n36 s37 mH H34).bind fun r38 => ((r38.1).asSl).bind fun s39 => (Sl.cut s39 1 (IntKind.i64.wrap (mH + 1)) (s39.n : Int)).bind fun s40 => (gY s40 r38.2).bind fun r41 => ((r41.1).asB).bind fun b42 => some ((.bool (!b42)), r41.2)
noncomputable def bB.l29 (F : Nat) (af : Int → Int → Sl → Int → Int → Hp → OA) (bN : Int → Int → Sl → Int → Hp → OA) (gY : Sl → Hp → OA)  : Nat → Int → Nat → Nat → Int → Hp → OA
 | 0, _, _, _, _, _ => none
 | eK + 1, cR, fl, fD, je, H18 => (Hp.ldI H18 .i64 fl fD).bind fun n43 => (bif (decide (je < n43)) then ((Hp.ldI H18 .i64 fl fD).bind fun n44 => (Hp.ldI H18 .i64 fl (fD + 1)).bind fun n45 => (Hp.ldSl H18 fl (fD + 2)).bind fun s46 => (af n44 n45 s46 je cR H18).bind fun r47 => ((r47.1).asP).bind fun p48 => (Hp.ldI r47.2 .i64 p48.1 p48.2).bind fun n49 => (bif (n49 != 0) then (some ((.bool false), r47.2)) else (bB.l29 F af bN gY eK cR fl fD (IntKind.i64.wrap (je + 1)) r47.2))) else (bB.j1 F af bN gY cR fl fD H18))
termination_by structural n => n
noncomputable def bB.twX (F : Nat) (af : Int → Int → Sl → Int → Int → Hp → OA) (bN : Int → Int → Sl → Int → Hp → OA) (gY : Sl → Hp → OA) (aa : Nat) (ac : Nat) (ae : Int) (H : Hp) : OA := (Hp.ldI H .i64 aa (ac + 6)).bind fun n4 => (Hp.ldI H .i64 aa ((ac + 6) + 1)).bind fun n5 => (Hp.ldSl H aa ((ac + 6) + 2)).bind fun s6 => (Hp.new H [.int .i64 0, .int .i64 0, .sl ⟨none, 0, .ex 0⟩]).bind fun H7 => (Hp.st H7 H.length 0 (.int .i64 n4)).bind fun H8 => (Hp.st H8 H.length (0 + 1) (.int .i64 n5)).bind fun H9 => (Hp.st H9 H.length (0 + 1 + 1) (.sl s6)).bind fun H10 => bB.l29 F af bN gY F ae H.length 0 (IntKind.i64.wrap (ae + 1)) H10
noncomputable def bB.tw (F : Nat) (aa : Nat) (ac : Nat) (ae : Int) (H : Hp) : OA := bB.twX F (aO.tw F) (cu.tw F) (dD.tw F) aa ac ae H
noncomputable def bB.code : Go.Code := (Try.f135.body).getD .skip
noncomputable def bB.lh29 (F : Nat) (af : Int → Int → Sl → Int → Int → Hp → OA) (bN : Int → Int → Sl → Int → Hp → OA) (gY : Sl → Hp → OA) (ks : List Nat) (n : Nat) (tm : Tm) (H : Hp) : OA := match ks, tm 1, tm 5, tm 6 with
 | [], (.int .i64 cR), (.ptr fl fD), (.int .i64 je) => bB.l29 F af bN gY n cR fl fD je H
 | _, _, _, _ => none
theorem bB.lh29_inv {F : Nat} {af : Int → Int → Sl → Int → Int → Hp → OA} {bN : Int → Int → Sl → Int → Hp → OA} {gY : Sl → Hp → OA} {ks : List Nat} {n : Nat} {tm : Tm} {H : Hp} {r : AV × Hp} (h : bB.lh29 F af bN gY ks n tm H = some r) : ∃ cR : Int, ∃ fl : Nat, ∃ fD : Nat, ∃ je : Int, ks = [] ∧ tm 1 = (.int .i64 cR) ∧ tm 5 = (.ptr fl fD) ∧ tm 6 = (.int .i64 je) ∧ bB.l29 F af bN gY n cR fl fD je H = some r := by
 unfold bB.lh29 at h
 split at h
 ·exact ⟨_, _, _, _, rfl, by assumption, by assumption, by assumption, h⟩
 ·cases h
noncomputable def bB.lh (F : Nat) (af : Int → Int → Sl → Int → Int → Hp → OA) (bN : Int → Int → Sl → Int → Hp → OA) (gY : Sl → Hp → OA) (p : Nat) (ks : List Nat) (n : Nat) (tm : Tm) (H : Hp) : OA := bif p.beq 29 then bB.lh29 F af bN gY ks n tm H else (none)
def bB.pn : Nat → List Nat := fun i => (([] : List (Nat × List Nat)).lookup i).getD []
def bB.tb : Nat → List (List Nat) := fun i => (([] : List (Nat × List (List Nat))).lookup i).getD []
noncomputable def bB.mk (g : Nat → Nat → Int → Hp → OA) (args : List AV) (H : Hp) : OA := match args with
 | [(.ptr aa ac), (.int .i64 ae)] => g aa ac ae H
 | _ => none
noncomputable def bB.cs (F : Nat) (af : Int → Int → Sl → Int → Int → Hp → OA) (bN : Int → Int → Sl → Int → Hp → OA) (gY : Sl → Hp → OA) : List (FuncId × (List AV → Hp → OA)) := [(95, aO.mk af), (120, cu.mk bN), (81, dD.mk gY)]
theorem bB.loops (F : Nat) (af : Int → Int → Sl → Int → Int → Hp → OA) (bN : Int → Int → Sl → Int → Hp → OA) (gY : Sl → Hp → OA) : LoopsOk tabs (mkOrc (bB.cs F af bN gY)) bB.pn (bB.lh F af bN gY) F [] 1 bB.code (fun tm H => aresults tabs.ty H tm Try.f135.results.toList fun v => some (v, H)) (fun _ _ _ => none) (fun tm H => aresults tabs.ty H tm Try.f135.results.toList fun v => some (v, H)) := by
 refine LoopsOk.seq ?_ ?_
 ·exact loops_none (by kernel_rfl)
 ·refine LoopsOk.seq ?_ ?_
  ·exact loops_none (by kernel_rfl)
  ·refine LoopsOk.seq ?_ ?_
   ·refine LoopsOk.seq ?_ ?_
    ·exact loops_none (by kernel_rfl)
    ·refine LoopsOk.block ?_
     refine LoopsOk.loop (fun tm H => ?_) (fun k29 tm H r h0 => ?_) (fun k29 => ?_)
     ·refine none_of fun r h0 => ?_
      obtain ⟨cR, fl, fD, je, hks, e1, e5, e6, h⟩ := bB.lh29_inv (show bB.lh29 F af bN gY [] 0 tm H = some r from h0)
      cases h
     ·obtain ⟨cR, fl, fD, je, hks, e1, e5, e6, h⟩ := bB.lh29_inv (show bB.lh29 F af bN gY [] (k29 + 1) tm H = some r from h0)
      have q0 : (Tm.put tm 1 (.int .i64 cR)) = tm := by exact Tm.put_same e1
      have q1 : (Tm.put (Tm.put tm 1 (.int .i64 cR)) 5 (.ptr fl fD)) = tm := by rw [q0]; exact Tm.put_same e5
      have q2 : (Tm.put (Tm.put (Tm.put tm 1 (.int .i64 cR)) 5 (.ptr fl fD)) 6 (.int .i64 je)) = tm := by rw [q1]; exact Tm.put_same e6
      rw [← q2]
      exact Eq.trans (by kernel_rfl) h
     ·exact loops_none (by kernel_rfl)
   ·exact loops_none (by kernel_rfl)
theorem bB.eqX (F : Nat) (af : Int → Int → Sl → Int → Int → Hp → OA) (bN : Int → Int → Sl → Int → Hp → OA) (gY : Sl → Hp → OA) (aa : Nat) (ac : Nat) (ae : Int) (H : Hp) : aCode tabs (mkOrc (bB.cs F af bN gY)) bB.pn (bB.lh F af bN gY) F [] 1 bB.code (argTm [(.ptr aa ac), (.int .i64 ae)]) H (fun tm H => aresults tabs.ty H tm Try.f135.results.toList fun v => some (v, H)) (fun _ _ _ => none) (fun tm H => aresults tabs.ty H tm Try.f135.results.toList fun v => some (v, H)) = bB.twX F af bN gY aa ac ae H := by kernel_rfl
theorem bB.cs_ok (F : Nat) : ∀ p ∈ bB.cs F (aO.tw F) (cu.tw F) (dD.tw F), ∀ args H v H', p.2 args H = some (v, H') → Go.AE.T Try.prog p.1 args H v H' := by
 intro p hp
 simp only [bB.cs, List.mem_cons, List.not_mem_nil, or_false] at hp
 rcases hp with rfl | rfl | rfl
 ·exact fun args H v H' h => aO.mk_T h
 ·exact fun args H v H' h => cu.mk_T h
 ·exact fun args H v H' h => dD.mk_T h
theorem bB.ok : codeOk bB.pn Try.f135.ntmps bB.tb bB.code = true := by kernel_rfl
theorem bB.T {F : Nat} {aa : Nat} {ac : Nat} {ae : Int} {H : Hp} {v : AV} {H' : Hp} (h : bB.tw F aa ac ae H = some (v, H')) : Go.AE.T Try.prog 135 [(.ptr aa ac), (.int .i64 ae)] H v H' :=
 Go.AE.T.of (Y := tabs) (C := mkOrc (bB.cs F (aO.tw F) (cu.tw F) (dD.tw F))) (PN := bB.pn) (LH := bB.lh F (aO.tw F) (cu.tw F) (dD.tw F)) (F := F) (TB := bB.tb) (fn := Try.f135) (code := bB.code) mixed tabs_ok (mkOrc_ok (bB.cs_ok F)) Try.func135 (by kernel_rfl) (by kernel_rfl) bB.ok (Nat.le_of_ble_eq_true (by kernel_rfl)) (bB.loops F (aO.tw F) (cu.tw F) (dD.tw F)) (Eq.trans (bB.eqX F (aO.tw F) (cu.tw F) (dD.tw F) aa ac ae H) h)
theorem bB.mk_T {F : Nat} {args : List AV} {H : Hp} {v : AV} {H' : Hp} (h : bB.mk (bB.tw F) args H = some (v, H')) : Go.AE.T Try.prog 135 args H v H' := by
 unfold bB.mk at h
 split at h
 ·exact bB.T h
 ·cases h
noncomputable def dM.twX (F : Nat) (af : Int → Int → Sl → Int → Int → Hp → OA) (aa : Int) (ak : Nat) (ae : Nat) (bC : Nat) (bh : Nat) (H : Hp) : OA := (Hp.ldI H .i64 ak ae).bind fun n6 => (Hp.ldI H .i64 ak (ae + 1)).bind fun n7 => (Hp.ldSl H ak (ae + 2)).bind fun s8 => (Hp.ldI H .i64 bC bh).bind fun n9 => (Hp.ldI H .i64 bC bh).bind fun n10 => (af n6 n7 s8 n9 n10 H).bind fun r11 => ((r11.1).asP).bind fun p12 => (Hp.ldI r11.2 .i64 p12.1 p12.2).bind fun n13 => (if n13 = 0 then none else (some ((.bool ((Int.tmod aa n13) != 0)), r11.2)))
noncomputable def dM.tw (F : Nat) (aa : Int) (ak : Nat) (ae : Nat) (bC : Nat) (bh : Nat) (H : Hp) : OA := dM.twX F (aO.tw F) aa ak ae bC bh H
noncomputable def dM.code : Go.Code := (Try.f156.body).getD .skip
noncomputable def dM.lh (F : Nat) (af : Int → Int → Sl → Int → Int → Hp → OA) (p : Nat) (ks : List Nat) (n : Nat) (tm : Tm) (H : Hp) : OA := none
def dM.pn : Nat → List Nat := fun i => (([] : List (Nat × List Nat)).lookup i).getD []
def dM.tb : Nat → List (List Nat) := fun i => (([] : List (Nat × List (List Nat))).lookup i).getD []
noncomputable def dM.mk (g : Int → Nat → Nat → Nat → Nat → Hp → OA) (args : List AV) (H : Hp) : OA := match args with
 | [(.int .i64 aa), (.ptr ak ae), (.ptr bC bh)] => g aa ak ae bC bh H
 | _ => none
noncomputable def dM.cs (F : Nat) (af : Int → Int → Sl → Int → Int → Hp → OA) : List (FuncId × (List AV → Hp → OA)) := [(95, aO.mk af)]
theorem dM.loops (F : Nat) (af : Int → Int → Sl → Int → Int → Hp → OA) : LoopsOk tabs (mkOrc (dM.cs F af)) dM.pn (dM.lh F af) F [] 1 dM.code (fun tm H => aresults tabs.ty H tm Try.f156.results.toList fun v => some (v, H)) (fun _ _ _ => none) (fun tm H => aresults tabs.ty H tm Try.f156.results.toList fun v => some (v, H)) := by
 exact loops_none (by kernel_rfl)
theorem dM.eqX (F : Nat) (af : Int → Int → Sl → Int → Int → Hp → OA) (aa : Int) (ak : Nat) (ae : Nat) (bC : Nat) (bh : Nat) (H : Hp) : aCode tabs (mkOrc (dM.cs F af)) dM.pn (dM.lh F af) F [] 1 dM.code (argTm [(.int .i64 aa), (.ptr ak ae), (.ptr bC bh)]) H (fun tm H => aresults tabs.ty H tm Try.f156.results.toList fun v => some (v, H)) (fun _ _ _ => none) (fun tm H => aresults tabs.ty H tm Try.f156.results.toList fun v => some (v, H)) = dM.twX F af aa ak ae bC bh H := by kernel_rfl
theorem dM.cs_ok (F : Nat) : ∀ p ∈ dM.cs F (aO.tw F), ∀ args H v H', p.2 args H = some (v, H') → Go.AE.T Try.prog p.1 args H v H' := by
 intro p hp
 simp only [dM.cs, List.mem_cons, List.not_mem_nil, or_false] at hp
 subst hp
 exact fun args H v H' h => aO.mk_T h
theorem dM.ok : codeOk dM.pn Try.f156.ntmps dM.tb dM.code = true := by kernel_rfl
theorem dM.T {F : Nat} {aa : Int} {ak : Nat} {ae : Nat} {bC : Nat} {bh : Nat} {H : Hp} {v : AV} {H' : Hp} (h : dM.tw F aa ak ae bC bh H = some (v, H')) : Go.AE.T Try.prog 156 [(.int .i64 aa), (.ptr ak ae), (.ptr bC bh)] H v H' :=
 Go.AE.T.of (Y := tabs) (C := mkOrc (dM.cs F (aO.tw F))) (PN := dM.pn) (LH := dM.lh F (aO.tw F)) (F := F) (TB := dM.tb) (fn := Try.f156) (code := dM.code) mixed tabs_ok (mkOrc_ok (dM.cs_ok F)) Try.func156 (by kernel_rfl) (by kernel_rfl) dM.ok (Nat.le_of_ble_eq_true (by kernel_rfl)) (dM.loops F (aO.tw F)) (Eq.trans (dM.eqX F (aO.tw F) aa ak ae bC bh H) h)
theorem dM.mk_T {F : Nat} {args : List AV} {H : Hp} {v : AV} {H' : Hp} (h : dM.mk (dM.tw F) args H = some (v, H')) : Go.AE.T Try.prog 156 args H v H' := by
 unfold dM.mk at h
 split at h
 ·exact dM.T h
 ·cases h
noncomputable def cw.l13 (F : Nat) (iD : Int → Nat → Nat → Nat → Nat → Hp → OA)  : Nat → Sl → Nat → Nat → Nat → Nat → Int → Int → Hp → OA
 | 0, _, _, _, _, _, _, _, _ => none
 | iX + 1, fL, ak, ae, ag, bu, js, iE, H10 => (bif (decide (iE < js)) then ((Sl.idx fL iE 1).bind fun p15 => (Hp.ldI H10 .i64 p15.1 p15.2).bind fun n16 => (iD n16 ak ae ag bu H10).bind fun r17 => ((r17.1).asB).bind fun b18 => (bif b18 then (some ((.int .i64 iE), r17.2)) else (cw.l13 F iD iX fL ak ae ag bu js (IntKind.i64.wrap (iE + 1)) r17.2))) else (some ((.int .i64 (-1)), H10)))
termination_by structural n => n
noncomputable def cw.twX (F : Nat) (iD : Int → Nat → Nat → Nat → Nat → Hp → OA) (aa : Sl) (ak : Nat) (ae : Nat) (ag : Nat) (bu : Nat) (H : Hp) : OA := cw.l13 F iD F aa ak ae ag bu (aa.n : Int) 0 H
noncomputable def cw.tw (F : Nat) (aa : Sl) (ak : Nat) (ae : Nat) (ag : Nat) (bu : Nat) (H : Hp) : OA := cw.twX F (dM.tw F) aa ak ae ag bu H
noncomputable def cw.code : Go.Code := (Try.f117.body).getD .skip
noncomputable def cw.lh13 (F : Nat) (iD : Int → Nat → Nat → Nat → Nat → Hp → OA) (ks : List Nat) (n : Nat) (tm : Tm) (H : Hp) : OA := match ks, tm 0, tm 1, tm 7, tm 8 with
 | [], (.sl fL), (.fn 156 [(.ptr ak ae), (.ptr ag bu)]), (.int .i64 js), (.int .i64 iE) => cw.l13 F iD n fL ak ae ag bu js iE H
 | _, _, _, _, _ => none
theorem cw.lh13_inv {F : Nat} {iD : Int → Nat → Nat → Nat → Nat → Hp → OA} {ks : List Nat} {n : Nat} {tm : Tm} {H : Hp} {r : AV × Hp} (h : cw.lh13 F iD ks n tm H = some r) : ∃ fL : Sl, ∃ ak : Nat, ∃ ae : Nat, ∃ ag : Nat, ∃ bu : Nat, ∃ js : Int, ∃ iE : Int, ks = [] ∧ tm 0 = (.sl fL) ∧ tm 1 = (.fn 156 [(.ptr ak ae), (.ptr ag bu)]) ∧ tm 7 = (.int .i64 js) ∧ tm 8 = (.int .i64 iE) ∧ cw.l13 F iD n fL ak ae ag bu js iE H = some r := by
 unfold cw.lh13 at h
 split at h
 ·exact ⟨_, _, _, _, _, _, _, rfl, by assumption, by assumption, by assumption, by assumption, h⟩
 ·cases h
noncomputable def cw.lh (F : Nat) (iD : Int → Nat → Nat → Nat → Nat → Hp → OA) (p : Nat) (ks : List Nat) (n : Nat) (tm : Tm) (H : Hp) : OA := bif p.beq 13 then cw.lh13 F iD ks n tm H else (none)
def cw.pn : Nat → List Nat := fun i => (([] : List (Nat × List Nat)).lookup i).getD []
def cw.tb : Nat → List (List Nat) := fun i => (([] : List (Nat × List (List Nat))).lookup i).getD []
noncomputable def cw.mk (g : Sl → Nat → Nat → Nat → Nat → Hp → OA) (args : List AV) (H : Hp) : OA := match args with
 | [(.sl aa), (.fn 156 [(.ptr ak ae), (.ptr ag bu)])] => g aa ak ae ag bu H
 | _ => none
noncomputable def cw.cs (F : Nat) (iD : Int → Nat → Nat → Nat → Nat → Hp → OA) : List (FuncId × (List AV → Hp → OA)) := [(156, dM.mk iD)]
theorem cw.loops (F : Nat) (iD : Int → Nat → Nat → Nat → Nat → Hp → OA) : LoopsOk tabs (mkOrc (cw.cs F iD)) cw.pn (cw.lh F iD) F [] 1 cw.code (fun tm H => aresults tabs.ty H tm Try.f117.results.toList fun v => some (v, H)) (fun _ _ _ => none) (fun tm H => aresults tabs.ty H tm Try.f117.results.toList fun v => some (v, H)) := by
 refine LoopsOk.seq ?_ ?_
 ·exact loops_none (by kernel_rfl)
 ·refine LoopsOk.seq ?_ ?_
  ·refine LoopsOk.seq ?_ ?_
   ·exact loops_none (by kernel_rfl)
   ·refine LoopsOk.block ?_
    refine LoopsOk.loop (fun tm H => ?_) (fun k13 tm H r h0 => ?_) (fun k13 => ?_)
    ·refine none_of fun r h0 => ?_
     obtain ⟨fL, ak, ae, ag, bu, js, iE, hks, e0, e1, e7, e8, h⟩ := cw.lh13_inv (show cw.lh13 F iD [] 0 tm H = some r from h0)
     cases h
    ·obtain ⟨fL, ak, ae, ag, bu, js, iE, hks, e0, e1, e7, e8, h⟩ := cw.lh13_inv (show cw.lh13 F iD [] (k13 + 1) tm H = some r from h0)
     have q0 : (Tm.put tm 0 (.sl fL)) = tm := by exact Tm.put_same e0
     have q1 : (Tm.put (Tm.put tm 0 (.sl fL)) 1 (.fn 156 [(.ptr ak ae), (.ptr ag bu)])) = tm := by rw [q0]; exact Tm.put_same e1
     have q2 : (Tm.put (Tm.put (Tm.put tm 0 (.sl fL)) 1 (.fn 156 [(.ptr ak ae), (.ptr ag bu)])) 7 (.int .i64 js)) = tm := by rw [q1]; exact Tm.put_same e7
     have q3 : (Tm.put (Tm.put (Tm.put (Tm.put tm 0 (.sl fL)) 1 (.fn 156 [(.ptr ak ae), (.ptr ag bu)])) 7 (.int .i64 js)) 8 (.int .i64 iE)) = tm := by rw [q2]; exact Tm.put_same e8
     rw [← q3]
     exact Eq.trans (by kernel_rfl) h
    ·exact loops_none (by kernel_rfl)
  ·exact loops_none (by kernel_rfl)
theorem cw.eqX (F : Nat) (iD : Int → Nat → Nat → Nat → Nat → Hp → OA) (aa : Sl) (ak : Nat) (ae : Nat) (ag : Nat) (bu : Nat) (H : Hp) : aCode tabs (mkOrc (cw.cs F iD)) cw.pn (cw.lh F iD) F [] 1 cw.code (argTm [(.sl aa), (.fn 156 [(.ptr ak ae), (.ptr ag bu)])]) H (fun tm H => aresults tabs.ty H tm Try.f117.results.toList fun v => some (v, H)) (fun _ _ _ => none) (fun tm H => aresults tabs.ty H tm Try.f117.results.toList fun v => some (v, H)) = cw.twX F iD aa ak ae ag bu H := by kernel_rfl
theorem cw.cs_ok (F : Nat) : ∀ p ∈ cw.cs F (dM.tw F), ∀ args H v H', p.2 args H = some (v, H') → Go.AE.T Try.prog p.1 args H v H' := by
 intro p hp
 simp only [cw.cs, List.mem_cons, List.not_mem_nil, or_false] at hp
 subst hp
 exact fun args H v H' h => dM.mk_T h
theorem cw.ok : codeOk cw.pn Try.f117.ntmps cw.tb cw.code = true := by kernel_rfl
theorem cw.T {F : Nat} {aa : Sl} {ak : Nat} {ae : Nat} {ag : Nat} {bu : Nat} {H : Hp} {v : AV} {H' : Hp} (h : cw.tw F aa ak ae ag bu H = some (v, H')) : Go.AE.T Try.prog 117 [(.sl aa), (.fn 156 [(.ptr ak ae), (.ptr ag bu)])] H v H' :=
 Go.AE.T.of (Y := tabs) (C := mkOrc (cw.cs F (dM.tw F))) (PN := cw.pn) (LH := cw.lh F (dM.tw F)) (F := F) (TB := cw.tb) (fn := Try.f117) (code := cw.code) mixed tabs_ok (mkOrc_ok (cw.cs_ok F)) Try.func117 (by kernel_rfl) (by kernel_rfl) cw.ok (Nat.le_of_ble_eq_true (by kernel_rfl)) (cw.loops F (dM.tw F)) (Eq.trans (cw.eqX F (dM.tw F) aa ak ae ag bu H) h)
theorem cw.mk_T {F : Nat} {args : List AV} {H : Hp} {v : AV} {H' : Hp} (h : cw.mk (cw.tw F) args H = some (v, H')) : Go.AE.T Try.prog 117 args H v H' := by
 unfold cw.mk at h
 split at h
 ·exact cw.T h
 ·cases h
noncomputable def dN.twX (F : Nat) (kZ : Sl → Nat → Nat → Nat → Nat → Hp → OA) (aa : Sl) (ak : Nat) (ae : Nat) (ag : Nat) (bu : Nat) (H : Hp) : OA := (kZ aa ak ae ag bu H).bind fun r6 => ((r6.1).asI .i64).bind fun n7 => some ((.bool (decide (n7 ≥ 0))), r6.2)
noncomputable def dN.tw (F : Nat) (aa : Sl) (ak : Nat) (ae : Nat) (ag : Nat) (bu : Nat) (H : Hp) : OA := dN.twX F (cw.tw F) aa ak ae ag bu H
noncomputable def dN.code : Go.Code := (Try.f81.body).getD .skip
noncomputable def dN.lh (F : Nat) (kZ : Sl → Nat → Nat → Nat → Nat → Hp → OA) (p : Nat) (ks : List Nat) (n : Nat) (tm : Tm) (H : Hp) : OA := none
def dN.pn : Nat → List Nat := fun i => (([] : List (Nat × List Nat)).lookup i).getD []
def dN.tb : Nat → List (List Nat) := fun i => (([] : List (Nat × List (List Nat))).lookup i).getD []
noncomputable def dN.mk (g : Sl → Nat → Nat → Nat → Nat → Hp → OA) (args : List AV) (H : Hp) : OA := match args with
 | [(.sl aa), (.fn 156 [(.ptr ak ae), (.ptr ag bu)])] => g aa ak ae ag bu H
 | _ => none
noncomputable def dN.cs (F : Nat) (kZ : Sl → Nat → Nat → Nat → Nat → Hp → OA) : List (FuncId × (List AV → Hp → OA)) := [(117, cw.mk kZ)]
theorem dN.loops (F : Nat) (kZ : Sl → Nat → Nat → Nat → Nat → Hp → OA) : LoopsOk tabs (mkOrc (dN.cs F kZ)) dN.pn (dN.lh F kZ) F [] 1 dN.code (fun tm H => aresults tabs.ty H tm Try.f81.results.toList fun v => some (v, H)) (fun _ _ _ => none) (fun tm H => aresults tabs.ty H tm Try.f81.results.toList fun v => some (v, H)) := by
 exact loops_none (by kernel_rfl)
theorem dN.eqX (F : Nat) (kZ : Sl → Nat → Nat → Nat → Nat → Hp → OA) (aa : Sl) (ak : Nat) (ae : Nat) (ag : Nat) (bu : Nat) (H : Hp) : aCode tabs (mkOrc (dN.cs F kZ)) dN.pn (dN.lh F kZ) F [] 1 dN.code (argTm [(.sl aa), (.fn 156 [(.ptr ak ae), (.ptr ag bu)])]) H (fun tm H => aresults tabs.ty H tm Try.f81.results.toList fun v => some (v, H)) (fun _ _ _ => none) (fun tm H => aresults tabs.ty H tm Try.f81.results.toList fun v => some (v, H)) = dN.twX F kZ aa ak ae ag bu H := by kernel_rfl
theorem dN.cs_ok (F : Nat) : ∀ p ∈ dN.cs F (cw.tw F), ∀ args H v H', p.2 args H = some (v, H') → Go.AE.T Try.prog p.1 args H v H' := by
 intro p hp
 simp only [dN.cs, List.mem_cons, List.not_mem_nil, or_false] at hp
 subst hp
 exact fun args H v H' h => cw.mk_T h
theorem dN.ok : codeOk dN.pn Try.f81.ntmps dN.tb dN.code = true := by kernel_rfl
theorem dN.T {F : Nat} {aa : Sl} {ak : Nat} {ae : Nat} {ag : Nat} {bu : Nat} {H : Hp} {v : AV} {H' : Hp} (h : dN.tw F aa ak ae ag bu H = some (v, H')) : Go.AE.T Try.prog 81 [(.sl aa), (.fn 156 [(.ptr ak ae), (.ptr ag bu)])] H v H' :=
 Go.AE.T.of (Y := tabs) (C := mkOrc (dN.cs F (cw.tw F))) (PN := dN.pn) (LH := dN.lh F (cw.tw F)) (F := F) (TB := dN.tb) (fn := Try.f81) (code := dN.code) mixed tabs_ok (mkOrc_ok (dN.cs_ok F)) Try.func81 (by kernel_rfl) (by kernel_rfl) dN.ok (Nat.le_of_ble_eq_true (by kernel_rfl)) (dN.loops F (cw.tw F)) (Eq.trans (dN.eqX F (cw.tw F) aa ak ae ag bu H) h)
theorem dN.mk_T {F : Nat} {args : List AV} {H : Hp} {v : AV} {H' : Hp} (h : dN.mk (dN.tw F) args H = some (v, H')) : Go.AE.T Try.prog 81 args H v H' := by
 unfold dN.mk at h
 split at h
 ·exact dN.T h
 ·cases h
noncomputable def ci.l29 (F : Nat) (bN : Int → Int → Sl → Int → Hp → OA) (iF : Sl → Nat → Nat → Nat → Nat → Hp → OA)  : Nat → Nat → Nat → Nat → Nat → Int → Hp → OA
 | 0, _, _, _, _, _, _ => none
 | eK + 1, dS, dL, jf, gm, eM, H22 => (Hp.ldI H22 .i64 jf gm).bind fun n33 => (bif (decide (eM < n33)) then ((Hp.ldI H22 .i64 jf gm).bind fun n34 => (Hp.ldI H22 .i64 jf (gm + 1)).bind fun n35 => (Hp.ldSl H22 jf (gm + 2)).bind fun s36 => (bN n34 n35 s36 eM H22).bind fun r37 => ((r37.1).asSl).bind fun s38 => (if Cons H22 r37.2 then ((Hp.ldI r37.2 .i64 dS dL).bind fun n39 => (Sl.cut s38 1 (IntKind.i64.wrap (n39 + 1)) (s38.n : Int)).bind fun s40 => (iF s40 jf gm dS dL r37.2).bind fun r41 => ((r41.1).asB).bind fun b42 => (bif b42 then (some ((.int .i64 eM), r41.2)) else (ci.l29 F bN iF eK dS dL jf gm (IntKind.i64.wrap (eM + 1)) r41.2))) else none)) else (some ((.int .i64 (-1)), H22)))
termination_by structural n => n
noncomputable def ci.twX (F : Nat) (bN : Int → Int → Sl → Int → Hp → OA) (iF : Sl → Nat → Nat → Nat → Nat → Hp → OA) (aa : Nat) (ac : Nat) (ae : Int) (H : Hp) : OA := (Hp.new H [(.int .i64 ae)]).bind fun H4 => (Hp.ldI H4 .i64 aa (ac + 6)).bind fun n5 => (Hp.ldI H4 .i64 aa ((ac + 6) + 1)).bind fun n6 => (Hp.ldSl H4 aa ((ac + 6) + 2)).bind fun s7 => (Hp.new H4 [.int .i64 0, .int .i64 0, .sl ⟨none, 0, .ex 0⟩]).bind fun H8 => (Hp.st H8 H4.length 0 (.int .i64 n5)).bind fun H9 => (Hp.st H9 H4.length (0 + 1) (.int .i64 n6)).bind fun H10 => (Hp.st H10 H4.length (0 + 1 + 1) (.sl s7)).bind fun H11 => (Hp.ldI H11 .i64 H.length 0).bind fun n12 => ci.l29 F bN iF F H.length 0 H4.length 0 (IntKind.i64.wrap (n12 + 1)) H11
noncomputable def ci.tw (F : Nat) (aa : Nat) (ac : Nat) (ae : Int) (H : Hp) : OA := ci.twX F (cu.tw F) (dN.tw F) aa ac ae H
noncomputable def ci.code : Go.Code := (Try.f136.body).getD .skip
noncomputable def ci.lh29 (F : Nat) (bN : Int → Int → Sl → Int → Hp → OA) (iF : Sl → Nat → Nat → Nat → Nat → Hp → OA) (ks : List Nat) (n : Nat) (tm : Tm) (H : Hp) : OA := match ks, tm 3, tm 5, tm 6 with
 | [], (.ptr dS dL), (.ptr jf gm), (.int .i64 eM) => ci.l29 F bN iF n dS dL jf gm eM H
 | _, _, _, _ => none
theorem ci.lh29_inv {F : Nat} {bN : Int → Int → Sl → Int → Hp → OA} {iF : Sl → Nat → Nat → Nat → Nat → Hp → OA} {ks : List Nat} {n : Nat} {tm : Tm} {H : Hp} {r : AV × Hp} (h : ci.lh29 F bN iF ks n tm H = some r) : ∃ dS : Nat, ∃ dL : Nat, ∃ jf : Nat, ∃ gm : Nat, ∃ eM : Int, ks = [] ∧ tm 3 = (.ptr dS dL) ∧ tm 5 = (.ptr jf gm) ∧ tm 6 = (.int .i64 eM) ∧ ci.l29 F bN iF n dS dL jf gm eM H = some r := by
 unfold ci.lh29 at h
 split at h
 ·exact ⟨_, _, _, _, _, rfl, by assumption, by assumption, by assumption, h⟩
 ·cases h
noncomputable def ci.lh (F : Nat) (bN : Int → Int → Sl → Int → Hp → OA) (iF : Sl → Nat → Nat → Nat → Nat → Hp → OA) (p : Nat) (ks : List Nat) (n : Nat) (tm : Tm) (H : Hp) : OA := bif p.beq 29 then ci.lh29 F bN iF ks n tm H else (none)
def ci.pn : Nat → List Nat := fun i => (([(5, [7])] : List (Nat × List Nat)).lookup i).getD []
def ci.tb : Nat → List (List Nat) := fun i => (([(5, [[], [], [0, 1], [], [3], [0, 1, 2, 3, 4], [], [0, 1, 2, 3, 4, 5, 6]])] : List (Nat × List (List Nat))).lookup i).getD []
noncomputable def ci.mk (g : Nat → Nat → Int → Hp → OA) (args : List AV) (H : Hp) : OA := match args with
 | [(.ptr aa ac), (.int .i64 ae)] => g aa ac ae H
 | _ => none
noncomputable def ci.cs (F : Nat) (bN : Int → Int → Sl → Int → Hp → OA) (iF : Sl → Nat → Nat → Nat → Nat → Hp → OA) : List (FuncId × (List AV → Hp → OA)) := [(120, cu.mk bN), (81, dN.mk iF)]
theorem ci.loops (F : Nat) (bN : Int → Int → Sl → Int → Hp → OA) (iF : Sl → Nat → Nat → Nat → Nat → Hp → OA) : LoopsOk tabs (mkOrc (ci.cs F bN iF)) ci.pn (ci.lh F bN iF) F [] 1 ci.code (fun tm H => aresults tabs.ty H tm Try.f136.results.toList fun v => some (v, H)) (fun _ _ _ => none) (fun tm H => aresults tabs.ty H tm Try.f136.results.toList fun v => some (v, H)) := by
 refine LoopsOk.seq ?_ ?_
 ·exact loops_none (by kernel_rfl)
 ·refine LoopsOk.seq ?_ ?_
  ·exact loops_none (by kernel_rfl)
  ·refine LoopsOk.seq ?_ ?_
   ·refine LoopsOk.seq ?_ ?_
    ·exact loops_none (by kernel_rfl)
    ·refine LoopsOk.block ?_
     refine LoopsOk.loop (fun tm H => ?_) (fun k29 tm H r h0 => ?_) (fun k29 => ?_)
     ·refine none_of fun r h0 => ?_
      obtain ⟨dS, dL, jf, gm, eM, hks, e3, e5, e6, h⟩ := ci.lh29_inv (show ci.lh29 F bN iF [] 0 tm H = some r from h0)
      cases h
     ·obtain ⟨dS, dL, jf, gm, eM, hks, e3, e5, e6, h⟩ := ci.lh29_inv (show ci.lh29 F bN iF [] (k29 + 1) tm H = some r from h0)
      have q0 : (Tm.put tm 3 (.ptr dS dL)) = tm := by exact Tm.put_same e3
      have q1 : (Tm.put (Tm.put tm 3 (.ptr dS dL)) 5 (.ptr jf gm)) = tm := by rw [q0]; exact Tm.put_same e5
      have q2 : (Tm.put (Tm.put (Tm.put tm 3 (.ptr dS dL)) 5 (.ptr jf gm)) 6 (.int .i64 eM)) = tm := by rw [q1]; exact Tm.put_same e6
      rw [← q2]
      exact Eq.trans (by kernel_rfl) h
     ·exact loops_none (by kernel_rfl)
   ·exact loops_none (by kernel_rfl)
theorem ci.eqX (F : Nat) (bN : Int → Int → Sl → Int → Hp → OA) (iF : Sl → Nat → Nat → Nat → Nat → Hp → OA) (aa : Nat) (ac : Nat) (ae : Int) (H : Hp) : aCode tabs (mkOrc (ci.cs F bN iF)) ci.pn (ci.lh F bN iF) F [] 1 ci.code (argTm [(.ptr aa ac), (.int .i64 ae)]) H (fun tm H => aresults tabs.ty H tm Try.f136.results.toList fun v => some (v, H)) (fun _ _ _ => none) (fun tm H => aresults tabs.ty H tm Try.f136.results.toList fun v => some (v, H)) = ci.twX F bN iF aa ac ae H := by kernel_rfl
theorem ci.cs_ok (F : Nat) : ∀ p ∈ ci.cs F (cu.tw F) (dN.tw F), ∀ args H v H', p.2 args H = some (v, H') → Go.AE.T Try.prog p.1 args H v H' := by
 intro p hp
 simp only [ci.cs, List.mem_cons, List.not_mem_nil, or_false] at hp
 rcases hp with rfl | rfl
 ·exact fun args H v H' h => cu.mk_T h
 ·exact fun args H v H' h => dN.mk_T h
theorem ci.ok : codeOk ci.pn Try.f136.ntmps ci.tb ci.code = true := by kernel_rfl
theorem ci.T {F : Nat} {aa : Nat} {ac : Nat} {ae : Int} {H : Hp} {v : AV} {H' : Hp} (h : ci.tw F aa ac ae H = some (v, H')) : Go.AE.T Try.prog 136 [(.ptr aa ac), (.int .i64 ae)] H v H' :=
 Go.AE.T.of (Y := tabs) (C := mkOrc (ci.cs F (cu.tw F) (dN.tw F))) (PN := ci.pn) (LH := ci.lh F (cu.tw F) (dN.tw F)) (F := F) (TB := ci.tb) (fn := Try.f136) (code := ci.code) mixed tabs_ok (mkOrc_ok (ci.cs_ok F)) Try.func136 (by kernel_rfl) (by kernel_rfl) ci.ok (Nat.le_of_ble_eq_true (by kernel_rfl)) (ci.loops F (cu.tw F) (dN.tw F)) (Eq.trans (ci.eqX F (cu.tw F) (dN.tw F) aa ac ae H) h)
theorem ci.mk_T {F : Nat} {args : List AV} {H : Hp} {v : AV} {H' : Hp} (h : ci.mk (ci.tw F) args H = some (v, H')) : Go.AE.T Try.prog 136 args H v H' := by
 unfold ci.mk at h
 split at h
 ·exact ci.T h
 ·cases h
noncomputable def aV.j4 (F : Nat) (fS : Nat → Nat → Int → Hp → OA) (fT : Nat → Nat → Int → Hp → OA) (fU : Nat → Nat → Int → Hp → OA) (fV : Nat → Nat → Int → Hp → OA) (cS : Nat → Nat → Int → Int → Int → Hp → OA) (C3_ : Nat → Nat → Int → Hp → OA) (zk : Nat) (zl : Nat) (oD : Int) (H57 : Hp) : OA := C3_ zk zl oD H57
noncomputable def aV.j5 (F : Nat) (fS : Nat → Nat → Int → Hp → OA) (fT : Nat → Nat → Int → Hp → OA) (fU : Nat → Nat → Int → Hp → OA) (fV : Nat → Nat → Int → Hp → OA) (cS : Nat → Nat → Int → Int → Int → Hp → OA) (C3_ : Nat → Nat → Int → Hp → OA) (zm : Nat) (zn : Nat) (oE : Int) (H80 : Hp) : OA := C3_ zm zn oE H80
noncomputable def aV.j6 (F : Nat) (fS : Nat → Nat → Int → Hp → OA) (fT : Nat → Nat → Int → Hp → OA) (fU : Nat → Nat → Int → Hp → OA) (fV : Nat → Nat → Int → Hp → OA) (cS : Nat → Nat → Int → Int → Int → Hp → OA) (C3_ : Nat → Nat → Int → Hp → OA) (nT : Nat) (nU : Nat) (oF : Int) (H71 : Hp) : OA := aV.j5 F fS fT fU fV cS C3_ nT nU oF H71
noncomputable def aV.l3 (F : Nat) (fS : Nat → Nat → Int → Hp → OA) (fT : Nat → Nat → Int → Hp → OA) (fU : Nat → Nat → Int → Hp → OA) (fV : Nat → Nat → Int → Hp → OA) (cS : Nat → Nat → Int → Int → Int → Hp → OA)  : Nat → Nat → Nat → Int → Hp → OA
 | 0, _, _, _, _ => none
 | qt + 1, eE, dt, fO, H6 => (Hp.ldB H6 eE (dt + 15)).bind fun b44 => (bif (!b44) then ((Hp.ldI H6 .i64 eE (dt + 6)).bind fun n45 => (Hp.ldI H6 .i64 eE ((dt + 6) + 1)).bind fun n46 => (bif (decide (fO < (if n46 < n45 then n46 else n45))) then ((fS eE dt fO H6).bind fun r47 => ((r47.1).asB).bind fun b48 => (bif (!b48) then (some ((.tup []), r47.2)) else ((fT eE dt fO r47.2).bind fun r49 => (Hp.ldB r49.2 eE (dt + 15)).bind fun b50 => (bif b50 then (aV.j4 F fS fT fU fV cS (aV.l3 F fS fT fU fV cS qt) eE dt fO r49.2) else ((fU eE dt fO r49.2).bind fun r58 => ((r58.1).asB).bind fun b59 => (bif (!b59) then (aV.j4 F fS fT fU fV cS (aV.l3 F fS fT fU fV cS qt) eE dt fO r58.2) else ((fV eE dt fO r58.2).bind fun r60 => ((r60.1).asI .i64).bind fun n61 => (bif (decide (n61 ≥ 0)) then ((cS eE dt fO n61 1 r60.2).bind fun r62 => aV.j6 F fS fT fU fV cS (aV.l3 F fS fT fU fV cS qt) eE dt fO r62.2) else (aV.j6 F fS fT fU fV cS (aV.l3 F fS fT fU fV cS qt) eE dt (IntKind.i64.wrap (fO + 1)) r60.2))))))))) else (some ((.tup []), H6)))) else (some ((.tup []), H6)))
termination_by structural n => n
noncomputable def aV.twX (F : Nat) (fS : Nat → Nat → Int → Hp → OA) (fT : Nat → Nat → Int → Hp → OA) (fU : Nat → Nat → Int → Hp → OA) (fV : Nat → Nat → Int → Hp → OA) (cS : Nat → Nat → Int → Int → Int → Hp → OA) (aa : Nat) (ac : Nat) (H : Hp) : OA := aV.l3 F fS fT fU fV cS F aa ac 0 H
noncomputable def aV.tw (F : Nat) (aa : Nat) (ac : Nat) (H : Hp) : OA := aV.twX F (aW.tw F) (aJ.tw F) (bB.tw F) (ci.tw F) (cP.tw F) aa ac H
noncomputable def aV.code : Go.Code := (Try.f109.body).getD .skip
noncomputable def aV.lh3 (F : Nat) (fS : Nat → Nat → Int → Hp → OA) (fT : Nat → Nat → Int → Hp → OA) (fU : Nat → Nat → Int → Hp → OA) (fV : Nat → Nat → Int → Hp → OA) (cS : Nat → Nat → Int → Int → Int → Hp → OA) (ks : List Nat) (n : Nat) (tm : Tm) (H : Hp) : OA := match ks, tm 0, tm 2 with
 | [], (.ptr eE dt), (.int .i64 fO) => aV.l3 F fS fT fU fV cS n eE dt fO H
 | _, _, _ => none
theorem aV.lh3_inv {F : Nat} {fS : Nat → Nat → Int → Hp → OA} {fT : Nat → Nat → Int → Hp → OA} {fU : Nat → Nat → Int → Hp → OA} {fV : Nat → Nat → Int → Hp → OA} {cS : Nat → Nat → Int → Int → Int → Hp → OA} {ks : List Nat} {n : Nat} {tm : Tm} {H : Hp} {r : AV × Hp} (h : aV.lh3 F fS fT fU fV cS ks n tm H = some r) : ∃ eE : Nat, ∃ dt : Nat, ∃ fO : Int, ks = [] ∧ tm 0 = (.ptr eE dt) ∧ tm 2 = (.int .i64 fO) ∧ aV.l3 F fS fT fU fV cS n eE dt fO H = some r := by
 unfold aV.lh3 at h
 split at h
 ·exact ⟨_, _, _, rfl, by assumption, by assumption, h⟩
 ·cases h
noncomputable def aV.lh (F : Nat) (fS : Nat → Nat → Int → Hp → OA) (fT : Nat → Nat → Int → Hp → OA) (fU : Nat → Nat → Int → Hp → OA) (fV : Nat → Nat → Int → Hp → OA) (cS : Nat → Nat → Int → Int → Int → Hp → OA) (p : Nat) (ks : List Nat) (n : Nat) (tm : Tm) (H : Hp) : OA := bif p.beq 3 then aV.lh3 F fS fT fU fV cS ks n tm H else (none)
def aV.pn : Nat → List Nat := fun i => (([(1, [])] : List (Nat × List Nat)).lookup i).getD []
def aV.tb : Nat → List (List Nat) := fun i => (([(1, [[], [0], [0, 1], [0, 1, 2], [0, 1, 2, 3], [0, 1, 2, 3, 4], [0, 1, 2, 3, 4, 5], [0, 1, 2, 3, 4, 5], [0, 1, 2, 3, 4, 5, 7], [0, 1, 2, 3, 4, 5, 7, 8], [0, 1, 2, 3, 4, 5, 7, 8, 9], [0, 1, 2, 3, 4, 5, 7, 8, 9, 10], [0, 1, 2, 3, 4, 5, 7, 8, 9, 10, 11], [0, 1, 2, 3, 4, 5], [0, 1, 2, 3, 4, 5, 13], [0, 1, 2, 3, 4, 5, 13, 14], [0, 1, 2, 3, 4, 5, 13, 14, 15], [0, 1, 2, 3, 4, 5, 13, 14, 15, 16], [0, 1, 2, 3, 4, 5, 13, 14, 15, 16, 17], [0, 1, 2, 3, 4, 5, 7, 8, 9, 10, 11, 12, 13, 14, 15, 16, 17, 18], [0, 1, 2, 3, 4, 5, 6, 7, 8, 9, 10, 11, 12, 13, 14, 15, 16, 17, 18, 19], [0, 1, 2, 3, 4, 5, 6, 7, 8, 9, 10, 11, 12, 13, 14, 15, 16, 17, 18, 19, 20]])] : List (Nat × List (List Nat))).lookup i).getD []
noncomputable def aV.mk (g : Nat → Nat → Hp → OA) (args : List AV) (H : Hp) : OA := match args with
 | [(.ptr aa ac)] => g aa ac H
 | _ => none
noncomputable def aV.cs (F : Nat) (fS : Nat → Nat → Int → Hp → OA) (fT : Nat → Nat → Int → Hp → OA) (fU : Nat → Nat → Int → Hp → OA) (fV : Nat → Nat → Int → Hp → OA) (cS : Nat → Nat → Int → Int → Int → Hp → OA) : List (FuncId × (List AV → Hp → OA)) := [(133, aW.mk fS), (134, aJ.mk fT), (135, bB.mk fU), (136, ci.mk fV), (137, cP.mk cS)]
theorem aV.loops (F : Nat) (fS : Nat → Nat → Int → Hp → OA) (fT : Nat → Nat → Int → Hp → OA) (fU : Nat → Nat → Int → Hp → OA) (fV : Nat → Nat → Int → Hp → OA) (cS : Nat → Nat → Int → Int → Int → Hp → OA) : LoopsOk tabs (mkOrc (aV.cs F fS fT fU fV cS)) aV.pn (aV.lh F fS fT fU fV cS) F [] 1 aV.code (fun tm H => aresults tabs.ty H tm Try.f109.results.toList fun v => some (v, H)) (fun _ _ _ => none) (fun tm H => aresults tabs.ty H tm Try.f109.results.toList fun v => some (v, H)) := by
 refine LoopsOk.seq ?_ ?_
 ·exact loops_none (by kernel_rfl)
 ·refine LoopsOk.block ?_
  refine LoopsOk.loop (fun tm H => ?_) (fun k3 tm H r h0 => ?_) (fun k3 => ?_)
  ·refine none_of fun r h0 => ?_
   obtain ⟨eE, dt, fO, hks, e0, e2, h⟩ := aV.lh3_inv (show aV.lh3 F fS fT fU fV cS [] 0 tm H = some r from h0)
   cases h
  ·obtain ⟨eE, dt, fO, hks, e0, e2, h⟩ := aV.lh3_inv (show aV.lh3 F fS fT fU fV cS [] (k3 + 1) tm H = some r from h0)
   have q0 : (Tm.put tm 0 (.ptr eE dt)) = tm := by exact Tm.put_same e0
   have q1 : (Tm.put (Tm.put tm 0 (.ptr eE dt)) 2 (.int .i64 fO)) = tm := by rw [q0]; exact Tm.put_same e2
   rw [← q1]
   exact Eq.trans (by kernel_rfl) h
  ·exact loops_none (by kernel_rfl)
theorem aV.eqX (F : Nat) (fS : Nat → Nat → Int → Hp → OA) (fT : Nat → Nat → Int → Hp → OA) (fU : Nat → Nat → Int → Hp → OA) (fV : Nat → Nat → Int → Hp → OA) (cS : Nat → Nat → Int → Int → Int → Hp → OA) (aa : Nat) (ac : Nat) (H : Hp) : aCode tabs (mkOrc (aV.cs F fS fT fU fV cS)) aV.pn (aV.lh F fS fT fU fV cS) F [] 1 aV.code (argTm [(.ptr aa ac)]) H (fun tm H => aresults tabs.ty H tm Try.f109.results.toList fun v => some (v, H)) (fun _ _ _ => none) (fun tm H => aresults tabs.ty H tm Try.f109.results.toList fun v => some (v, H)) = aV.twX F fS fT fU fV cS aa ac H := by kernel_rfl
theorem aV.cs_ok (F : Nat) : ∀ p ∈ aV.cs F (aW.tw F) (aJ.tw F) (bB.tw F) (ci.tw F) (cP.tw F), ∀ args H v H', p.2 args H = some (v, H') → Go.AE.T Try.prog p.1 args H v H' := by
 intro p hp
 simp only [aV.cs, List.mem_cons, List.not_mem_nil, or_false] at hp
 rcases hp with rfl | rfl | rfl | rfl | rfl
 ·exact fun args H v H' h => aW.mk_T h
 ·exact fun args H v H' h => aJ.mk_T h
 ·exact fun args H v H' h => bB.mk_T h
 ·exact fun args H v H' h => ci.mk_T h
 ·exact fun args H v H' h => cP.mk_T h
theorem aV.ok : codeOk aV.pn Try.f109.ntmps aV.tb aV.code = true := by kernel_rfl
theorem aV.T {F : Nat} {aa : Nat} {ac : Nat} {H : Hp} {v : AV} {H' : Hp} (h : aV.tw F aa ac H = some (v, H')) : Go.AE.T Try.prog 109 [(.ptr aa ac)] H v H' :=
 Go.AE.T.of (Y := tabs) (C := mkOrc (aV.cs F (aW.tw F) (aJ.tw F) (bB.tw F) (ci.tw F) (cP.tw F))) (PN := aV.pn) (LH := aV.lh F (aW.tw F) (aJ.tw F) (bB.tw F) (ci.tw F) (cP.tw F)) (F := F) (TB := aV.tb) (fn := Try.f109) (code := aV.code) mixed tabs_ok (mkOrc_ok (aV.cs_ok F)) Try.func109 (by kernel_rfl) (by kernel_rfl) aV.ok (Nat.le_of_ble_eq_true (by kernel_rfl)) (aV.loops F (aW.tw F) (aJ.tw F) (bB.tw F) (ci.tw F) (cP.tw F)) (Eq.trans (aV.eqX F (aW.tw F) (aJ.tw F) (bB.tw F) (ci.tw F) (cP.tw F) aa ac H) h)
theorem aV.mk_T {F : Nat} {args : List AV} {H : Hp} {v : AV} {H' : Hp} (h : aV.mk (aV.tw F) args H = some (v, H')) : Go.AE.T Try.prog 109 args H v H' := by
 unfold aV.mk at h
 split at h
 ·exact aV.T h
 ·cases h
noncomputable def dB.twX (F : Nat) (k_ : Int → Int → Sl → Hp → OA) (la : Nat → Nat → Hp → OA) (aa : Int) (ac : Int) (ai : Sl) (H : Hp) : OA := (Hp.new H [(.int .i64 aa), (.int .i64 ac), (.sl ai)]).bind fun H4 => (Hp.new H4 [.int .i64 0, .int .i64 0, .sl ⟨none, 0, .ex 0⟩, .int .i64 0, .int .i64 0, .sl ⟨none, 0, .ex 0⟩, .int .i64 0, .int .i64 0, .sl ⟨none, 0, .ex 0⟩, .int .i64 0, .int .i64 0, .sl ⟨none, 0, .ex 0⟩, .int .i64 0, .int .i64 0, .sl ⟨none, 0, .ex 0⟩]).bind fun H5 => (Hp.ldI H5 .i64 H.length 0).bind fun n6 => (Hp.ldI H5 .i64 H.length (0 + 1)).bind fun n7 => (Hp.ldSl H5 H.length (0 + 2)).bind fun s8 => (k_ n6 n7 s8 H5).bind fun r9 => ((r9.1).asP).bind fun p10 => (la p10.1 p10.2 r9.2).bind fun r11 => (Hp.ldB r11.2 p10.1 (p10.2 + 15)).bind fun b12 => (bif b12 then ((Hp.st r11.2 H4.length 0 (.int .i64 0)).bind fun H13 => (Hp.st H13 H4.length (0 + 1) (.int .i64 0)).bind fun H14 => (Hp.st H14 H4.length (0 + 1 + 1) (.sl (⟨none, 0, .ex 0⟩ : Sl))).bind fun H15 => (Hp.st H15 H4.length (0 + 1 + 1 + 1) (.int .i64 0)).bind fun H16 => (Hp.st H16 H4.length (0 + 1 + 1 + 1 + 1) (.int .i64 0)).bind fun H17 => (Hp.st H17 H4.length (0 + 1 + 1 + 1 + 1 + 1) (.sl (⟨none, 0, .ex 0⟩ : Sl))).bind fun H18 => (Hp.st H18 H4.length (0 + 1 + 1 + 1 + 1 + 1 + 1) (.int .i64 0)).bind fun H19 => (Hp.st H19 H4.length (0 + 1 + 1 + 1 + 1 + 1 + 1 + 1) (.int .i64 0)).bind fun H20 => (Hp.st H20 H4.length (0 + 1 + 1 + 1 + 1 + 1 + 1 + 1 + 1) (.sl (⟨none, 0, .ex 0⟩ : Sl))).bind fun H21 => (Hp.st H21 H4.length (0 + 1 + 1 + 1 + 1 + 1 + 1 + 1 + 1 + 1) (.int .i64 0)).bind fun H22 => (Hp.st H22 H4.length (0 + 1 + 1 + 1 + 1 + 1 + 1 + 1 + 1 + 1 + 1) (.int .i64 0)).bind fun H23 => (Hp.st H23 H4.length (0 + 1 + 1 + 1 + 1 + 1 + 1 + 1 + 1 + 1 + 1 + 1) (.sl (⟨none, 0, .ex 0⟩ : Sl))).bind fun H24 => (Hp.st H24 H4.length (0 + 1 + 1 + 1 + 1 + 1 + 1 + 1 + 1 + 1 + 1 + 1 + 1) (.int .i64 0)).bind fun H25 => (Hp.st H25 H4.length (0 + 1 + 1 + 1 + 1 + 1 + 1 + 1 + 1 + 1 + 1 + 1 + 1 + 1) (.int .i64 0)).bind fun H26 => (Hp.st H26 H4.length (0 + 1 + 1 + 1 + 1 + 1 + 1 + 1 + 1 + 1 + 1 + 1 + 1 + 1 + 1) (.sl (⟨none, 0, .ex 0⟩ : Sl))).bind fun H27 => (Hp.ldI H27 .i64 H4.length 0).bind fun n28 => (Hp.ldI H27 .i64 H4.length (0 + 1)).bind fun n29 => (Hp.ldSl H27 H4.length (0 + 2)).bind fun s30 => (Hp.ldI H27 .i64 H4.length (0 + 3)).bind fun n31 => (Hp.ldI H27 .i64 H4.length (0 + 4)).bind fun n32 => (Hp.ldSl H27 H4.length (0 + 5)).bind fun s33 => (Hp.ldI H27 .i64 H4.length (0 + 6)).bind fun n34 => (Hp.ldI H27 .i64 H4.length (0 + 7)).bind fun n35 => (Hp.ldSl H27 H4.length (0 + 8)).bind fun s36 => (Hp.ldI H27 .i64 H4.length (0 + 9)).bind fun n37 => (Hp.ldI H27 .i64 H4.length (0 + 10)).bind fun n38 => (Hp.ldSl H27 H4.length (0 + 11)).bind fun s39 => (Hp.ldI H27 .i64 H4.length (0 + 12)).bind fun n40 => (Hp.ldI H27 .i64 H4.length (0 + 13)).bind fun n41 => (Hp.ldSl H27 H4.length (0 + 14)).bind fun s42 => some ((.tup [(.agg [(.int .i64 n28), (.int .i64 n29), (.sl s30), (.int .i64 n31), (.int .i64 n32), (.sl s33), (.int .i64 n34), (.int .i64 n35), (.sl s36), (.int .i64 n37), (.int .i64 n38), (.sl s39), (.int .i64 n40), (.int .i64 n41), (.sl s42)]), (.int .i64 3)]), H27)) else ((Hp.ldI r11.2 .i64 p10.1 p10.2).bind fun n43 => (Hp.ldI r11.2 .i64 p10.1 (p10.2 + 1)).bind fun n44 => (Hp.ldSl r11.2 p10.1 (p10.2 + 2)).bind fun s45 => (Hp.ldI r11.2 .i64 p10.1 (p10.2 + 3)).bind fun n46 => (Hp.ldI r11.2 .i64 p10.1 (p10.2 + 4)).bind fun n47 => (Hp.ldSl r11.2 p10.1 (p10.2 + 5)).bind fun s48 => (Hp.ldI r11.2 .i64 p10.1 (p10.2 + 6)).bind fun n49 => (Hp.ldI r11.2 .i64 p10.1 (p10.2 + 7)).bind fun n50 => (Hp.ldSl r11.2 p10.1 (p10.2 + 8)).bind fun s51 => (Hp.ldI r11.2 .i64 p10.1 (p10.2 + 9)).bind fun n52 => (Hp.ldI r11.2 .i64 p10.1 (p10.2 + 10)).bind fun n53 => (Hp.ldSl r11.2 p10.1 (p10.2 + 11)).bind fun s54 => (Hp.ldI r11.2 .i64 p10.1 (p10.2 + 12)).bind fun n55 => (Hp.ldI r11.2 .i64 p10.1 (p10.2 + 13)).bind fun n56 => (Hp.ldSl r11.2 p10.1 (p10.2 + 14)).bind fun s57 => (Hp.st r11.2 H4.length 0 (.int .i64 n43)).bind fun H58 => (Hp.st H58 H4.length (0 + 1) (.int .i64 n44)).bind fun H59 => (Hp.st H59 H4.length (0 + 1 + 1) (.sl s45)).bind fun H60 => (Hp.st H60 H4.length (0 + 1 + 1 + 1) (.int .i64 n46)).bind fun H61 => (Hp.st H61 H4.length (0 + 1 + 1 + 1 + 1) (.int .i64 n47)).bind fun H62 => (Hp.st H62 H4.length (0 + 1 + 1 + 1 + 1 + 1) (.sl s48)).bind fun H63 => (Hp.st H63 H4.length (0 + 1 + 1 + 1 + 1 + 1 + 1) (.int .i64 n49)).bind fun H64 => (Hp.st H64 H4.length (0 + 1 + 1 + 1 + 1 + 1 + 1 + 1) (.int .i64 n50)).bind fun H65 => (Hp.st H65 H4.length (0 + 1 + 1 + 1 + 1 + 1 + 1 + 1 + 1) (.sl s51)).bind fun H66 => (Hp.st H66 H4.length (0 + 1 + 1 + 1 + 1 + 1 + 1 + 1 + 1 + 1) (.int .i64 n52)).bind fun H67 => (Hp.st H67 H4.length (0 + 1 + 1 + 1 + 1 + 1 + 1 + 1 + 1 + 1 + 1) (.int .i64 n53)).bind fun H68 => (Hp.st H68 H4.length (0 + 1 + 1 + 1 + 1 + 1 + 1 + 1 + 1 + 1 + 1 + 1) (.sl s54)).bind fun H69 => (Hp.st H69 H4.length (0 + 1 + 1 + 1 + 1 + 1 + 1 + 1 + 1 + 1 + 1 + 1 + 1) (.int .i64 n55)).bind fun H70 => (Hp.st H70 H4.length (0 + 1 + 1 + 1 + 1 + 1 + 1 + 1 + 1 + 1 + 1 + 1 + 1 + 1) (.int .i64 n56)).bind fun H71 => (Hp.st H71 H4.length (0 + 1 + 1 + 1 + 1 + 1 + 1 + 1 + 1 + 1 + 1 + 1 + 1 + 1 + 1) (.sl s57)).bind fun H72 => (Hp.ldI H72 .i64 H4.length 0).bind fun n73 => (Hp.ldI H72 .i64 H4.length (0 + 1)).bind fun n74 => (Hp.ldSl H72 H4.length (0 + 2)).bind fun s75 => (Hp.ldI H72 .i64 H4.length (0 + 3)).bind fun n76 => (Hp.ldI H72 .i64 H4.length (0 + 4)).bind fun n77 => (Hp.ldSl H72 H4.length (0 + 5)).bind fun s78 => (Hp.ldI H72 .i64 H4.length (0 + 6)).bind fun n79 => (Hp.ldI H72 .i64 H4.length (0 + 7)).bind fun n80 => (Hp.ldSl H72 H4.length (0 + 8)).bind fun s81 => (Hp.ldI H72 .i64 H4.length (0 + 9)).bind fun n82 => (Hp.ldI H72 .i64 H4.length (0 + 10)).bind fun n83 => (Hp.ldSl H72 H4.length (0 + 11)).bind fun s84 => (Hp.ldI H72 .i64 H4.length (0 + 12)).bind fun n85 => (Hp.ldI H72 .i64 H4.length (0 + 13)).bind fun n86 => (Hp.ldSl H72 H4.length (0 + 14)).bind fun s87 => some ((.tup [(.agg [(.int .i64 n73), (.int .i64 n74), (.sl s75), (.int .i64 n76), (.int .i64 n77), (.sl s78), (.int .i64 n79), (.int .i64 n80), (.sl s81), (.int .i64 n82), (.int .i64 n83), (.sl s84), (.int .i64 n85), (.int .i64 n86), (.sl s87)]), (.int .i64 0)]), H72)))
noncomputable def dB.tw (F : Nat) (aa : Int) (ac : Int) (ai : Sl) (H : Hp) : OA := dB.twX F (eu.tw F) (aV.tw F) aa ac ai H
noncomputable def dB.code : Go.Code := (Try.f62.body).getD .skip
noncomputable def dB.lh (F : Nat) (k_ : Int → Int → Sl → Hp → OA) (la : Nat → Nat → Hp → OA) (p : Nat) (ks : List Nat) (n : Nat) (tm : Tm) (H : Hp) : OA := none
def dB.pn : Nat → List Nat := fun i => (([] : List (Nat × List Nat)).lookup i).getD []
def dB.tb : Nat → List (List Nat) := fun i => (([] : List (Nat × List (List Nat))).lookup i).getD []
noncomputable def dB.mk (g : Int → Int → Sl → Hp → OA) (args : List AV) (H : Hp) : OA := match args with
 | [(.agg [(.int .i64 aa), (.int .i64 ac), (.sl ai)])] => g aa ac ai H
 | _ => none
noncomputable def dB.cs (F : Nat) (k_ : Int → Int → Sl → Hp → OA) (la : Nat → Nat → Hp → OA) : List (FuncId × (List AV → Hp → OA)) := [(108, eu.mk k_), (109, aV.mk la)]
theorem dB.loops (F : Nat) (k_ : Int → Int → Sl → Hp → OA) (la : Nat → Nat → Hp → OA) : LoopsOk tabs (mkOrc (dB.cs F k_ la)) dB.pn (dB.lh F k_ la) F [] 1 dB.code (fun tm H => aresults tabs.ty H tm Try.f62.results.toList fun v => some (v, H)) (fun _ _ _ => none) (fun tm H => aresults tabs.ty H tm Try.f62.results.toList fun v => some (v, H)) := by
 exact loops_none (by kernel_rfl)
theorem dB.eqX (F : Nat) (k_ : Int → Int → Sl → Hp → OA) (la : Nat → Nat → Hp → OA) (aa : Int) (ac : Int) (ai : Sl) (H : Hp) : aCode tabs (mkOrc (dB.cs F k_ la)) dB.pn (dB.lh F k_ la) F [] 1 dB.code (argTm [(.agg [(.int .i64 aa), (.int .i64 ac), (.sl ai)])]) H (fun tm H => aresults tabs.ty H tm Try.f62.results.toList fun v => some (v, H)) (fun _ _ _ => none) (fun tm H => aresults tabs.ty H tm Try.f62.results.toList fun v => some (v, H)) = dB.twX F k_ la aa ac ai H := by kernel_rfl
theorem dB.cs_ok (F : Nat) : ∀ p ∈ dB.cs F (eu.tw F) (aV.tw F), ∀ args H v H', p.2 args H = some (v, H') → Go.AE.T Try.prog p.1 args H v H' := by
 intro p hp
 simp only [dB.cs, List.mem_cons, List.not_mem_nil, or_false] at hp
 rcases hp with rfl | rfl
 ·exact fun args H v H' h => eu.mk_T h
 ·exact fun args H v H' h => aV.mk_T h
theorem dB.ok : codeOk dB.pn Try.f62.ntmps dB.tb dB.code = true := by kernel_rfl
theorem dB.T {F : Nat} {aa : Int} {ac : Int} {ai : Sl} {H : Hp} {v : AV} {H' : Hp} (h : dB.tw F aa ac ai H = some (v, H')) : Go.AE.T Try.prog 62 [(.agg [(.int .i64 aa), (.int .i64 ac), (.sl ai)])] H v H' :=
 Go.AE.T.of (Y := tabs) (C := mkOrc (dB.cs F (eu.tw F) (aV.tw F))) (PN := dB.pn) (LH := dB.lh F (eu.tw F) (aV.tw F)) (F := F) (TB := dB.tb) (fn := Try.f62) (code := dB.code) mixed tabs_ok (mkOrc_ok (dB.cs_ok F)) Try.func62 (by kernel_rfl) (by kernel_rfl) dB.ok (Nat.le_of_ble_eq_true (by kernel_rfl)) (dB.loops F (eu.tw F) (aV.tw F)) (Eq.trans (dB.eqX F (eu.tw F) (aV.tw F) aa ac ai H) h)
theorem dB.mk_T {F : Nat} {args : List AV} {H : Hp} {v : AV} {H' : Hp} (h : dB.mk (dB.tw F) args H = some (v, H')) : Go.AE.T Try.prog 62 args H v H' := by
 unfold dB.mk at h
 split at h
 ·exact dB.T h
 ·cases h
noncomputable def bz.j2 (F : Nat) (gG : Int → Int → Sl → Hp → OA) (af : Int → Int → Sl → Int → Int → Hp → OA) (C125_ : Nat → Nat → Sl → Int → Int → Hp → OA) (qu : Nat) (zo : Nat) (zp : Sl) (oG : Int) (oH : Int) (H132 : Hp) : OA := C125_ qu zo zp oG (IntKind.i64.wrap (oH + 1)) H132
noncomputable def bz.l125 (F : Nat) (gG : Int → Int → Sl → Hp → OA) (af : Int → Int → Sl → Int → Int → Hp → OA)  : Nat → Nat → Nat → Sl → Int → Int → Hp → OA
 | 0, _, _, _, _, _, _ => none
 | uZ + 1, iL, kc, ku, iM, gZ, H76 => (bif (decide (gZ < iM)) then ((Hp.ldI H76 .i64 iL (kc + 6)).bind fun n105 => (Hp.ldI H76 .i64 iL ((kc + 6) + 1)).bind fun n106 => (Hp.ldSl H76 iL ((kc + 6) + 2)).bind fun s107 => (af n105 n106 s107 gZ gZ H76).bind fun r108 => ((r108.1).asP).bind fun p109 => (Hp.ldI r108.2 .i64 p109.1 p109.2).bind fun n110 => (bif (n110 != 0) then ((Hp.new r108.2 [(.int .i64 n110)]).bind fun H111 => (Sl.row H111 (⟨some (r108.2.length, 0), 1, .ex 1⟩ : Sl) 1).bind fun xs113 => (Hp.app H111 1 8 ku (⟨some (r108.2.length, 0), 1, .ex 1⟩ : Sl).n xs113).bind fun a112 => bz.j2 F gG af (bz.l125 F gG af uZ) iL kc a112.1 iM gZ a112.2) else (bz.j2 F gG af (bz.l125 F gG af uZ) iL kc ku iM gZ r108.2))) else (some ((.tup [(.sl ku), (.int .i64 0)]), H76)))
termination_by structural n => n
noncomputable def bz.twX (F : Nat) (gG : Int → Int → Sl → Hp → OA) (af : Int → Int → Sl → Int → Int → Hp → OA) (aa : Int) (ac : Int) (ai : Sl) (H : Hp) : OA := (Hp.new H [(.int .i64 aa), (.int .i64 ac), (.sl ai)]).bind fun H4 => (Hp.ldI H4 .i64 H.length 0).bind fun n5 => (Hp.ldI H4 .i64 H.length (0 + 1)).bind fun n6 => (Hp.ldSl H4 H.length (0 + 2)).bind fun s7 => (gG n5 n6 s7 H4).bind fun r8 => ((r8.1).asTup 2).bind fun l9 => (l9[0]?).bind fun v10 => ((v10).asAgg 15).bind fun l11 => (l11[0]?).bind fun v12 => ((v12).asI .i64).bind fun n13 => (l11[1]?).bind fun v14 => ((v14).asI .i64).bind fun n15 => (l11[2]?).bind fun v16 => ((v16).asSl).bind fun s17 => (l11[3]?).bind fun v18 => ((v18).asI .i64).bind fun n19 => (l11[4]?).bind fun v20 => ((v20).asI .i64).bind fun n21 => (l11[5]?).bind fun v22 => ((v22).asSl).bind fun s23 => (l11[6]?).bind fun v24 => ((v24).asI .i64).bind fun n25 => (l11[7]?).bind fun v26 => ((v26).asI .i64).bind fun n27 => (l11[8]?).bind fun v28 => ((v28).asSl).bind fun s29 => (l11[9]?).bind fun v30 => ((v30).asI .i64).bind fun n31 => (l11[10]?).bind fun v32 => ((v32).asI .i64).bind fun n33 => (l11[11]?).bind fun v34 => ((v34).asSl).bind fun s35 => (l11[12]?).bind fun v36 => ((v36).asI .i64).bind fun n37 => (l11[13]?).bind fun v38 => ((v38).asI .i64).bind fun n39 => (l11[14]?).bind fun v40 => ((v40).asSl).bind fun s41 => (l9[1]?).bind fun v42 => ((v42).asI .i64).bind fun n43 => (Hp.new r8.2 [.int .i64 0, .int .i64 0, .sl ⟨none, 0, .ex 0⟩, .int .i64 0, .int .i64 0, .sl ⟨none, 0, .ex 0⟩, .int .i64 0, .int .i64 0, .sl ⟨none, 0, .ex 0⟩, .int .i64 0, .int .i64 0, .sl ⟨none, 0, .ex 0⟩, .int .i64 0, .int .i64 0, .sl ⟨none, 0, .ex 0⟩]).bind fun H44 => (Hp.st H44 r8.2.length 0 (.int .i64 n13)).bind fun H45 => (Hp.st H45 r8.2.length (0 + 1) (.int .i64 n15)).bind fun H46 => (Hp.st H46 r8.2.length (0 + 1 + 1) (.sl s17)).bind fun H47 => (Hp.st H47 r8.2.length (0 + 1 + 1 + 1) (.int .i64 n19)).bind fun H48 => (Hp.st H48 r8.2.length (0 + 1 + 1 + 1 + 1) (.int .i64 n21)).bind fun H49 => (Hp.st H49 r8.2.length (0 + 1 + 1 + 1 + 1 + 1) (.sl s23)).bind fun H50 => (Hp.st H50 r8.2.length (0 + 1 + 1 + 1 + 1 + 1 + 1) (.int .i64 n25)).bind fun H51 => (Hp.st H51 r8.2.length (0 + 1 + 1 + 1 + 1 + 1 + 1 + 1) (.int .i64 n27)).bind fun H52 => (Hp.st H52 r8.2.length (0 + 1 + 1 + 1 + 1 + 1 + 1 + 1 + 1) (.sl s29)).bind fun H53 => (Hp.st H53 r8.2.length (0 + 1 + 1 + 1 + 1 + 1 + 1 + 1 + 1 + 1) (.int .i64 n31)).bind fun H54 => (Hp.st H54 r8.2.length (0 + 1 + 1 + 1 + 1 + 1 + 1 + 1 + 1 + 1 + 1) (.int .i64 n33)).bind fun H55 => (Hp.st H55 r8.2.length (0 + 1 + 1 + 1 + 1 + 1 + 1 + 1 + 1 + 1 + 1 + 1) (.sl s35)).bind fun H56 => (Hp.st H56 r8.2.length (0 + 1 + 1 + 1 + 1 + 1 + 1 + 1 + 1 + 1 + 1 + 1 + 1) (.int .i64 n37)).bind fun H57 => (Hp.st H57 r8.2.length (0 + 1 + 1 + 1 + 1 + 1 + 1 + 1 + 1 + 1 + 1 + 1 + 1 + 1) (.int .i64 n39)).bind fun H58 => (Hp.st H58 r8.2.length (0 + 1 + 1 + 1 + 1 + 1 + 1 + 1 + 1 + 1 + 1 + 1 + 1 + 1 + 1) (.sl s41)).bind fun H59 => (bif (n43 != 0) then (some ((.tup [(.sl (⟨none, 0, .ex 0⟩ : Sl)), (.int .i64 n43)]), H59)) else ((Hp.ldI H59 .i64 H.length 0).bind fun n60 => (Hp.ldI H59 .i64 H.length 1).bind fun n61 => bz.l125 F gG af F r8.2.length 0 (⟨none, 0, .ex 0⟩ : Sl) (if n61 < n60 then n61 else n60) 0 H59))
noncomputable def bz.tw (F : Nat) (aa : Int) (ac : Int) (ai : Sl) (H : Hp) : OA := bz.twX F (dB.tw F) (aO.tw F) aa ac ai H
noncomputable def bz.code : Go.Code := (Try.f63.body).getD .skip
noncomputable def bz.lh125 (F : Nat) (gG : Int → Int → Sl → Hp → OA) (af : Int → Int → Sl → Int → Int → Hp → OA) (ks : List Nat) (n : Nat) (tm : Tm) (H : Hp) : OA := match ks, tm 4, tm 6, tm 21, tm 22 with
 | [], (.ptr iL kc), (.sl ku), (.int .i64 iM), (.int .i64 gZ) => bz.l125 F gG af n iL kc ku iM gZ H
 | _, _, _, _, _ => none
theorem bz.lh125_inv {F : Nat} {gG : Int → Int → Sl → Hp → OA} {af : Int → Int → Sl → Int → Int → Hp → OA} {ks : List Nat} {n : Nat} {tm : Tm} {H : Hp} {r : AV × Hp} (h : bz.lh125 F gG af ks n tm H = some r) : ∃ iL : Nat, ∃ kc : Nat, ∃ ku : Sl, ∃ iM : Int, ∃ gZ : Int, ks = [] ∧ tm 4 = (.ptr iL kc) ∧ tm 6 = (.sl ku) ∧ tm 21 = (.int .i64 iM) ∧ tm 22 = (.int .i64 gZ) ∧ bz.l125 F gG af n iL kc ku iM gZ H = some r := by
 unfold bz.lh125 at h
 split at h
 ·exact ⟨_, _, _, _, _, rfl, by assumption, by assumption, by assumption, by assumption, h⟩
 ·cases h
noncomputable def bz.lh (F : Nat) (gG : Int → Int → Sl → Hp → OA) (af : Int → Int → Sl → Int → Int → Hp → OA) (p : Nat) (ks : List Nat) (n : Nat) (tm : Tm) (H : Hp) : OA := bif p.beq 125 then bz.lh125 F gG af ks n tm H else (none)
def bz.pn : Nat → List Nat := fun i => (([] : List (Nat × List Nat)).lookup i).getD []
def bz.tb : Nat → List (List Nat) := fun i => (([] : List (Nat × List (List Nat))).lookup i).getD []
noncomputable def bz.mk (g : Int → Int → Sl → Hp → OA) (args : List AV) (H : Hp) : OA := match args with
 | [(.agg [(.int .i64 aa), (.int .i64 ac), (.sl ai)])] => g aa ac ai H
 | _ => none
noncomputable def bz.cs (F : Nat) (gG : Int → Int → Sl → Hp → OA) (af : Int → Int → Sl → Int → Int → Hp → OA) : List (FuncId × (List AV → Hp → OA)) := [(62, dB.mk gG), (95, aO.mk af)]
theorem bz.loops (F : Nat) (gG : Int → Int → Sl → Hp → OA) (af : Int → Int → Sl → Int → Int → Hp → OA) : LoopsOk tabs (mkOrc (bz.cs F gG af)) bz.pn (bz.lh F gG af) F [] 1 bz.code (fun tm H => aresults tabs.ty H tm Try.f63.results.toList fun v => some (v, H)) (fun _ _ _ => none) (fun tm H => aresults tabs.ty H tm Try.f63.results.toList fun v => some (v, H)) := by
 refine LoopsOk.seq ?_ ?_
 ·exact loops_none (by kernel_rfl)
 ·refine LoopsOk.seq ?_ ?_
  ·exact loops_none (by kernel_rfl)
  ·refine LoopsOk.seq ?_ ?_
   ·exact loops_none (by kernel_rfl)
   ·refine LoopsOk.seq ?_ ?_
    ·exact loops_none (by kernel_rfl)
    ·refine LoopsOk.seq ?_ ?_
     ·refine LoopsOk.seq ?_ ?_
      ·exact loops_none (by kernel_rfl)
      ·refine LoopsOk.block ?_
       refine LoopsOk.loop (fun tm H => ?_) (fun k125 tm H r h0 => ?_) (fun k125 => ?_)
       ·refine none_of fun r h0 => ?_
        obtain ⟨iL, kc, ku, iM, gZ, hks, e4, e6, e21, e22, h⟩ := bz.lh125_inv (show bz.lh125 F gG af [] 0 tm H = some r from h0)
        cases h
       ·obtain ⟨iL, kc, ku, iM, gZ, hks, e4, e6, e21, e22, h⟩ := bz.lh125_inv (show bz.lh125 F gG af [] (k125 + 1) tm H = some r from h0)
        have q0 : (Tm.put tm 4 (.ptr iL kc)) = tm := by exact Tm.put_same e4
        have q1 : (Tm.put (Tm.put tm 4 (.ptr iL kc)) 6 (.sl ku)) = tm := by rw [q0]; exact Tm.put_same e6
        have q2 : (Tm.put (Tm.put (Tm.put tm 4 (.ptr iL kc)) 6 (.sl ku)) 21 (.int .i64 iM)) = tm := by rw [q1]; exact Tm.put_same e21
        have q3 : (Tm.put (Tm.put (Tm.put (Tm.put tm 4 (.ptr iL kc)) 6 (.sl ku)) 21 (.int .i64 iM)) 22 (.int .i64 gZ)) = tm := by rw [q2]; exact Tm.put_same e22
        rw [← q3]
        exact Eq.trans (by kernel_rfl) h
       ·exact loops_none (by kernel_rfl)
     ·exact loops_none (by kernel_rfl)
theorem bz.eqX (F : Nat) (gG : Int → Int → Sl → Hp → OA) (af : Int → Int → Sl → Int → Int → Hp → OA) (aa : Int) (ac : Int) (ai : Sl) (H : Hp) : aCode tabs (mkOrc (bz.cs F gG af)) bz.pn (bz.lh F gG af) F [] 1 bz.code (argTm [(.agg [(.int .i64 aa), (.int .i64 ac), (.sl ai)])]) H (fun tm H => aresults tabs.ty H tm Try.f63.results.toList fun v => some (v, H)) (fun _ _ _ => none) (fun tm H => aresults tabs.ty H tm Try.f63.results.toList fun v => some (v, H)) = bz.twX F gG af aa ac ai H := by kernel_rfl
theorem bz.cs_ok (F : Nat) : ∀ p ∈ bz.cs F (dB.tw F) (aO.tw F), ∀ args H v H', p.2 args H = some (v, H') → Go.AE.T Try.prog p.1 args H v H' := by
 intro p hp
 simp only [bz.cs, List.mem_cons, List.not_mem_nil, or_false] at hp
 rcases hp with rfl | rfl
 ·exact fun args H v H' h => dB.mk_T h
 ·exact fun args H v H' h => aO.mk_T h
theorem bz.ok : codeOk bz.pn Try.f63.ntmps bz.tb bz.code = true := by kernel_rfl
theorem bz.T {F : Nat} {aa : Int} {ac : Int} {ai : Sl} {H : Hp} {v : AV} {H' : Hp} (h : bz.tw F aa ac ai H = some (v, H')) : Go.AE.T Try.prog 63 [(.agg [(.int .i64 aa), (.int .i64 ac), (.sl ai)])] H v H' :=
 Go.AE.T.of (Y := tabs) (C := mkOrc (bz.cs F (dB.tw F) (aO.tw F))) (PN := bz.pn) (LH := bz.lh F (dB.tw F) (aO.tw F)) (F := F) (TB := bz.tb) (fn := Try.f63) (code := bz.code) mixed tabs_ok (mkOrc_ok (bz.cs_ok F)) Try.func63 (by kernel_rfl) (by kernel_rfl) bz.ok (Nat.le_of_ble_eq_true (by kernel_rfl)) (bz.loops F (dB.tw F) (aO.tw F)) (Eq.trans (bz.eqX F (dB.tw F) (aO.tw F) aa ac ai H) h)
theorem bz.mk_T {F : Nat} {args : List AV} {H : Hp} {v : AV} {H' : Hp} (h : bz.mk (bz.tw F) args H = some (v, H')) : Go.AE.T Try.prog 63 args H v H' := by
 unfold bz.mk at h
 split at h
 ·exact bz.T h
 ·cases h
noncomputable def dO.twX (F : Nat) (lb : Int → Int → Sl → Hp → OA) (lc : Int → Int → Sl → Hp → OA) (aa : Int) (ac : Int) (ai : Sl) (H : Hp) : OA := (Hp.new H [(.int .i64 aa), (.int .i64 ac), (.sl ai)]).bind fun H4 => (Hp.ldI H4 .i64 H.length 0).bind fun n5 => (Hp.ldI H4 .i64 H.length (0 + 1)).bind fun n6 => (Hp.ldSl H4 H.length (0 + 2)).bind fun s7 => (lb n5 n6 s7 H4).bind fun r8 => ((r8.1).asB).bind fun b9 => (bif (!b9) then (some ((.tup [(.sl (⟨none, 0, .ex 0⟩ : Sl)), (.int .i64 1)]), r8.2)) else ((Hp.ldI r8.2 .i64 H.length 0).bind fun n10 => (Hp.ldI r8.2 .i64 H.length (0 + 1)).bind fun n11 => (Hp.ldSl r8.2 H.length (0 + 2)).bind fun s12 => (lc n10 n11 s12 r8.2).bind fun r13 => ((r13.1).asTup 2).bind fun l14 => (l14[0]?).bind fun v15 => ((v15).asSl).bind fun s16 => (l14[1]?).bind fun v17 => ((v17).asI .i64).bind fun n18 => some ((.tup [(.sl s16), (.int .i64 n18)]), r13.2)))
noncomputable def dO.tw (F : Nat) (aa : Int) (ac : Int) (ai : Sl) (H : Hp) : OA := dO.twX F (dJ.tw F) (bz.tw F) aa ac ai H
noncomputable def dO.code : Go.Code := (Try.f17.body).getD .skip
noncomputable def dO.lh (F : Nat) (lb : Int → Int → Sl → Hp → OA) (lc : Int → Int → Sl → Hp → OA) (p : Nat) (ks : List Nat) (n : Nat) (tm : Tm) (H : Hp) : OA := none
def dO.pn : Nat → List Nat := fun i => (([] : List (Nat × List Nat)).lookup i).getD []
def dO.tb : Nat → List (List Nat) := fun i => (([] : List (Nat × List (List Nat))).lookup i).getD []
noncomputable def dO.mk (g : Int → Int → Sl → Hp → OA) (args : List AV) (H : Hp) : OA := match args with
 | [(.agg [(.int .i64 aa), (.int .i64 ac), (.sl ai)])] => g aa ac ai H
 | _ => none
noncomputable def dO.cs (F : Nat) (lb : Int → Int → Sl → Hp → OA) (lc : Int → Int → Sl → Hp → OA) : List (FuncId × (List AV → Hp → OA)) := [(61, dJ.mk lb), (63, bz.mk lc)]
theorem dO.loops (F : Nat) (lb : Int → Int → Sl → Hp → OA) (lc : Int → Int → Sl → Hp → OA) : LoopsOk tabs (mkOrc (dO.cs F lb lc)) dO.pn (dO.lh F lb lc) F [] 1 dO.code (fun tm H => aresults tabs.ty H tm Try.f17.results.toList fun v => some (v, H)) (fun _ _ _ => none) (fun tm H => aresults tabs.ty H tm Try.f17.results.toList fun v => some (v, H)) := by
 exact loops_none (by kernel_rfl)
theorem dO.eqX (F : Nat) (lb : Int → Int → Sl → Hp → OA) (lc : Int → Int → Sl → Hp → OA) (aa : Int) (ac : Int) (ai : Sl) (H : Hp) : aCode tabs (mkOrc (dO.cs F lb lc)) dO.pn (dO.lh F lb lc) F [] 1 dO.code (argTm [(.agg [(.int .i64 aa), (.int .i64 ac), (.sl ai)])]) H (fun tm H => aresults tabs.ty H tm Try.f17.results.toList fun v => some (v, H)) (fun _ _ _ => none) (fun tm H => aresults tabs.ty H tm Try.f17.results.toList fun v => some (v, H)) = dO.twX F lb lc aa ac ai H := by kernel_rfl
theorem dO.cs_ok (F : Nat) : ∀ p ∈ dO.cs F (dJ.tw F) (bz.tw F), ∀ args H v H', p.2 args H = some (v, H') → Go.AE.T Try.prog p.1 args H v H' := by
 intro p hp
 simp only [dO.cs, List.mem_cons, List.not_mem_nil, or_false] at hp
 rcases hp with rfl | rfl
 ·exact fun args H v H' h => dJ.mk_T h
 ·exact fun args H v H' h => bz.mk_T h
theorem dO.ok : codeOk dO.pn Try.f17.ntmps dO.tb dO.code = true := by kernel_rfl
theorem dO.T {F : Nat} {aa : Int} {ac : Int} {ai : Sl} {H : Hp} {v : AV} {H' : Hp} (h : dO.tw F aa ac ai H = some (v, H')) : Go.AE.T Try.prog 17 [(.agg [(.int .i64 aa), (.int .i64 ac), (.sl ai)])] H v H' :=
 Go.AE.T.of (Y := tabs) (C := mkOrc (dO.cs F (dJ.tw F) (bz.tw F))) (PN := dO.pn) (LH := dO.lh F (dJ.tw F) (bz.tw F)) (F := F) (TB := dO.tb) (fn := Try.f17) (code := dO.code) mixed tabs_ok (mkOrc_ok (dO.cs_ok F)) Try.func17 (by kernel_rfl) (by kernel_rfl) dO.ok (Nat.le_of_ble_eq_true (by kernel_rfl)) (dO.loops F (dJ.tw F) (bz.tw F)) (Eq.trans (dO.eqX F (dJ.tw F) (bz.tw F) aa ac ai H) h)
theorem dO.mk_T {F : Nat} {args : List AV} {H : Hp} {v : AV} {H' : Hp} (h : dO.mk (dO.tw F) args H = some (v, H')) : Go.AE.T Try.prog 17 args H v H' := by
 unfold dO.mk at h
 split at h
 ·exact dO.T h
 ·cases h
noncomputable def dP.twX (F : Nat) (lf : Int → Int → Sl → Hp → OA) (hG : Sl → Hp → OA) (aa : Int) (ac : Int) (ai : Sl) (H : Hp) : OA := (Hp.new H [(.int .i64 aa), (.int .i64 ac), (.sl ai)]).bind fun H4 => (Hp.ldI H4 .i64 H.length 0).bind fun n5 => (Hp.ldI H4 .i64 H.length (0 + 1)).bind fun n6 => (Hp.ldSl H4 H.length (0 + 2)).bind fun s7 => (lf n5 n6 s7 H4).bind fun r8 => ((r8.1).asTup 2).bind fun l9 => (l9[0]?).bind fun v10 => ((v10).asSl).bind fun s11 => (l9[1]?).bind fun v12 => ((v12).asI .i64).bind fun n13 => (hG s11 r8.2).bind fun r14 => ((r14.1).asI .i64).bind fun n15 => some ((.tup [(.int .i64 n15), (.int .i64 n13)]), r14.2)
noncomputable def dP.tw (F : Nat) (aa : Int) (ac : Int) (ai : Sl) (H : Hp) : OA := dP.twX F (dO.tw F) (dk.tw F) aa ac ai H
noncomputable def dP.code : Go.Code := (Try.f26.body).getD .skip
noncomputable def dP.lh (F : Nat) (lf : Int → Int → Sl → Hp → OA) (hG : Sl → Hp → OA) (p : Nat) (ks : List Nat) (n : Nat) (tm : Tm) (H : Hp) : OA := none
def dP.pn : Nat → List Nat := fun i => (([] : List (Nat × List Nat)).lookup i).getD []
def dP.tb : Nat → List (List Nat) := fun i => (([] : List (Nat × List (List Nat))).lookup i).getD []
noncomputable def dP.mk (g : Int → Int → Sl → Hp → OA) (args : List AV) (H : Hp) : OA := match args with
 | [(.agg [(.int .i64 aa), (.int .i64 ac), (.sl ai)])] => g aa ac ai H
 | _ => none
noncomputable def dP.cs (F : Nat) (lf : Int → Int → Sl → Hp → OA) (hG : Sl → Hp → OA) : List (FuncId × (List AV → Hp → OA)) := [(17, dO.mk lf), (73, dk.mk hG)]
theorem dP.loops (F : Nat) (lf : Int → Int → Sl → Hp → OA) (hG : Sl → Hp → OA) : LoopsOk tabs (mkOrc (dP.cs F lf hG)) dP.pn (dP.lh F lf hG) F [] 1 dP.code (fun tm H => aresults tabs.ty H tm Try.f26.results.toList fun v => some (v, H)) (fun _ _ _ => none) (fun tm H => aresults tabs.ty H tm Try.f26.results.toList fun v => some (v, H)) := by
 exact loops_none (by kernel_rfl)
theorem dP.eqX (F : Nat) (lf : Int → Int → Sl → Hp → OA) (hG : Sl → Hp → OA) (aa : Int) (ac : Int) (ai : Sl) (H : Hp) : aCode tabs (mkOrc (dP.cs F lf hG)) dP.pn (dP.lh F lf hG) F [] 1 dP.code (argTm [(.agg [(.int .i64 aa), (.int .i64 ac), (.sl ai)])]) H (fun tm H => aresults tabs.ty H tm Try.f26.results.toList fun v => some (v, H)) (fun _ _ _ => none) (fun tm H => aresults tabs.ty H tm Try.f26.results.toList fun v => some (v, H)) = dP.twX F lf hG aa ac ai H := by kernel_rfl
theorem dP.cs_ok (F : Nat) : ∀ p ∈ dP.cs F (dO.tw F) (dk.tw F), ∀ args H v H', p.2 args H = some (v, H') → Go.AE.T Try.prog p.1 args H v H' := by
 intro p hp
 simp only [dP.cs, List.mem_cons, List.not_mem_nil, or_false] at hp
 rcases hp with rfl | rfl
 ·exact fun args H v H' h => dO.mk_T h
 ·exact fun args H v H' h => dk.mk_T h
theorem dP.ok : codeOk dP.pn Try.f26.ntmps dP.tb dP.code = true := by kernel_rfl
theorem dP.T {F : Nat} {aa : Int} {ac : Int} {ai : Sl} {H : Hp} {v : AV} {H' : Hp} (h : dP.tw F aa ac ai H = some (v, H')) : Go.AE.T Try.prog 26 [(.agg [(.int .i64 aa), (.int .i64 ac), (.sl ai)])] H v H' :=
 Go.AE.T.of (Y := tabs) (C := mkOrc (dP.cs F (dO.tw F) (dk.tw F))) (PN := dP.pn) (LH := dP.lh F (dO.tw F) (dk.tw F)) (F := F) (TB := dP.tb) (fn := Try.f26) (code := dP.code) mixed tabs_ok (mkOrc_ok (dP.cs_ok F)) Try.func26 (by kernel_rfl) (by kernel_rfl) dP.ok (Nat.le_of_ble_eq_true (by kernel_rfl)) (dP.loops F (dO.tw F) (dk.tw F)) (Eq.trans (dP.eqX F (dO.tw F) (dk.tw F) aa ac ai H) h)
theorem dP.mk_T {F : Nat} {args : List AV} {H : Hp} {v : AV} {H' : Hp} (h : dP.mk (dP.tw F) args H = some (v, H')) : Go.AE.T Try.prog 26 args H v H' := by
 unfold dP.mk at h
 split at h
 ·exact dP.T h
 ·cases h
noncomputable def cy.l29 (F : Nat)  : Nat → Sl → Sl → Int → Hp → OA
 | 0, _, _, _, _ => none
 | eK + 1, eE, lg, iG, H8 => (bif (decide (iG < (eE.n : Int))) then ((Sl.idx eE iG 1).bind fun p13 => (Hp.ldI H8 .i64 p13.1 p13.2).bind fun n14 => (Sl.idx lg iG 1).bind fun p15 => (Hp.ldI H8 .i64 p15.1 p15.2).bind fun n16 => (bif (n14 != n16) then (some ((.bool false), H8)) else (cy.l29 F eK eE lg (IntKind.i64.wrap (iG + 1)) H8))) else (some ((.bool true), H8)))
termination_by structural n => n
noncomputable def cy.twX (F : Nat) (aa : Sl) (ak : Sl) (H : Hp) : OA := (bif ((aa.n : Int) != (ak.n : Int)) then (some ((.bool false), H)) else (cy.l29 F F aa ak 0 H))
noncomputable def cy.tw (F : Nat) (aa : Sl) (ak : Sl) (H : Hp) : OA := cy.twX F aa ak H
noncomputable def cy.code : Go.Code := (Try.f29.body).getD .skip
noncomputable def cy.lh29 (F : Nat) (ks : List Nat) (n : Nat) (tm : Tm) (H : Hp) : OA := match ks, tm 0, tm 1, tm 5 with
 | [], (.sl eE), (.sl lg), (.int .i64 iG) => cy.l29 F n eE lg iG H
 | _, _, _, _ => none
theorem cy.lh29_inv {F : Nat} {ks : List Nat} {n : Nat} {tm : Tm} {H : Hp} {r : AV × Hp} (h : cy.lh29 F ks n tm H = some r) : ∃ eE : Sl, ∃ lg : Sl, ∃ iG : Int, ks = [] ∧ tm 0 = (.sl eE) ∧ tm 1 = (.sl lg) ∧ tm 5 = (.int .i64 iG) ∧ cy.l29 F n eE lg iG H = some r := by
 unfold cy.lh29 at h
 split at h
 ·exact ⟨_, _, _, rfl, by assumption, by assumption, by assumption, h⟩
 ·cases h
noncomputable def cy.lh (F : Nat) (p : Nat) (ks : List Nat) (n : Nat) (tm : Tm) (H : Hp) : OA := bif p.beq 29 then cy.lh29 F ks n tm H else (none)
def cy.pn : Nat → List Nat := fun i => (([(6, [])] : List (Nat × List Nat)).lookup i).getD []
def cy.tb : Nat → List (List Nat) := fun i => (([(6, [[], [], [0, 1], [0, 1, 2], [], [], [4, 5], [4, 5, 6], [0, 1, 2, 3, 4, 5, 6, 7]])] : List (Nat × List (List Nat))).lookup i).getD []
noncomputable def cy.mk (g : Sl → Sl → Hp → OA) (args : List AV) (H : Hp) : OA := match args with
 | [(.sl aa), (.sl ak)] => g aa ak H
 | _ => none
noncomputable def cy.cs (F : Nat) : List (FuncId × (List AV → Hp → OA)) := []
theorem cy.loops (F : Nat) : LoopsOk tabs (mkOrc (cy.cs F)) cy.pn (cy.lh F) F [] 1 cy.code (fun tm H => aresults tabs.ty H tm Try.f29.results.toList fun v => some (v, H)) (fun _ _ _ => none) (fun tm H => aresults tabs.ty H tm Try.f29.results.toList fun v => some (v, H)) := by
 refine LoopsOk.seq ?_ ?_
 ·exact loops_none (by kernel_rfl)
 ·refine LoopsOk.seq ?_ ?_
  ·exact loops_none (by kernel_rfl)
  ·refine LoopsOk.seq ?_ ?_
   ·refine LoopsOk.seq ?_ ?_
    ·exact loops_none (by kernel_rfl)
    ·refine LoopsOk.block ?_
     refine LoopsOk.loop (fun tm H => ?_) (fun k29 tm H r h0 => ?_) (fun k29 => ?_)
     ·refine none_of fun r h0 => ?_
      obtain ⟨eE, lg, iG, hks, e0, e1, e5, h⟩ := cy.lh29_inv (show cy.lh29 F [] 0 tm H = some r from h0)
      cases h
     ·obtain ⟨eE, lg, iG, hks, e0, e1, e5, h⟩ := cy.lh29_inv (show cy.lh29 F [] (k29 + 1) tm H = some r from h0)
      have q0 : (Tm.put tm 0 (.sl eE)) = tm := by exact Tm.put_same e0
      have q1 : (Tm.put (Tm.put tm 0 (.sl eE)) 1 (.sl lg)) = tm := by rw [q0]; exact Tm.put_same e1
      have q2 : (Tm.put (Tm.put (Tm.put tm 0 (.sl eE)) 1 (.sl lg)) 5 (.int .i64 iG)) = tm := by rw [q1]; exact Tm.put_same e5
      rw [← q2]
      exact Eq.trans (by kernel_rfl) h
     ·exact loops_none (by kernel_rfl)
   ·exact loops_none (by kernel_rfl)
theorem cy.eqX (F : Nat) (aa : Sl) (ak : Sl) (H : Hp) : aCode tabs (mkOrc (cy.cs F)) cy.pn (cy.lh F) F [] 1 cy.code (argTm [(.sl aa), (.sl ak)]) H (fun tm H => aresults tabs.ty H tm Try.f29.results.toList fun v => some (v, H)) (fun _ _ _ => none) (fun tm H => aresults tabs.ty H tm Try.f29.results.toList fun v => some (v, H)) = cy.twX F aa ak H := by kernel_rfl
theorem cy.cs_ok (F : Nat) : ∀ p ∈ cy.cs F, ∀ args H v H', p.2 args H = some (v, H') → Go.AE.T Try.prog p.1 args H v H' := by
 intro p hp
 exact absurd (show p ∈ [] from hp) List.not_mem_nil
theorem cy.ok : codeOk cy.pn Try.f29.ntmps cy.tb cy.code = true := by kernel_rfl
theorem cy.T {F : Nat} {aa : Sl} {ak : Sl} {H : Hp} {v : AV} {H' : Hp} (h : cy.tw F aa ak H = some (v, H')) : Go.AE.T Try.prog 29 [(.sl aa), (.sl ak)] H v H' :=
 Go.AE.T.of (Y := tabs) (C := mkOrc (cy.cs F)) (PN := cy.pn) (LH := cy.lh F) (F := F) (TB := cy.tb) (fn := Try.f29) (code := cy.code) mixed tabs_ok (mkOrc_ok (cy.cs_ok F)) Try.func29 (by kernel_rfl) (by kernel_rfl) cy.ok (Nat.le_of_ble_eq_true (by kernel_rfl)) (cy.loops F) (Eq.trans (cy.eqX F aa ak H) h)
theorem cy.mk_T {F : Nat} {args : List AV} {H : Hp} {v : AV} {H' : Hp} (h : cy.mk (cy.tw F) args H = some (v, H')) : Go.AE.T Try.prog 29 args H v H' := by
 unfold cy.mk at h
 split at h
 ·exact cy.T h
 ·cases h
noncomputable def dQ.twX (F : Nat) (li : Sl → Sl → Hp → OA) (aa : Int) (ac : Int) (ai : Sl) (ag : Int) (bu : Int) (kG : Sl) (H : Hp) : OA := (Hp.new H [(.int .i64 aa), (.int .i64 ac), (.sl ai)]).bind fun H7 => (Hp.new H7 [(.int .i64 ag), (.int .i64 bu), (.sl kG)]).bind fun H8 => (Hp.ldI H8 .i64 H.length 0).bind fun n9 => (Hp.ldI H8 .i64 H7.length 0).bind fun n10 => (bif (n9 != n10) then (some ((.bool false), H8)) else ((Hp.ldI H8 .i64 H.length 1).bind fun n11 => (Hp.ldI H8 .i64 H7.length 1).bind fun n12 => (bif (n11 != n12) then (some ((.bool false), H8)) else ((Hp.ldSl H8 H.length 2).bind fun s13 => (Hp.ldSl H8 H7.length 2).bind fun s14 => (li s13 s14 H8).bind fun r15 => ((r15.1).asB).bind fun b16 => (bif (!b16) then (some ((.bool false), r15.2)) else (some ((.bool true), r15.2)))))))
noncomputable def dQ.tw (F : Nat) (aa : Int) (ac : Int) (ai : Sl) (ag : Int) (bu : Int) (kG : Sl) (H : Hp) : OA := dQ.twX F (cy.tw F) aa ac ai ag bu kG H
noncomputable def dQ.code : Go.Code := (Try.f27.body).getD .skip
noncomputable def dQ.lh (F : Nat) (li : Sl → Sl → Hp → OA) (p : Nat) (ks : List Nat) (n : Nat) (tm : Tm) (H : Hp) : OA := none
def dQ.pn : Nat → List Nat := fun i => (([] : List (Nat × List Nat)).lookup i).getD []
def dQ.tb : Nat → List (List Nat) := fun i => (([] : List (Nat × List (List Nat))).lookup i).getD []
noncomputable def dQ.mk (g : Int → Int → Sl → Int → Int → Sl → Hp → OA) (args : List AV) (H : Hp) : OA := match args with
 | [(.agg [(.int .i64 aa), (.int .i64 ac), (.sl ai)]), (.agg [(.int .i64 ag), (.int .i64 bu), (.sl kG)])] => g aa ac ai ag bu kG H
 | _ => none
noncomputable def dQ.cs (F : Nat) (li : Sl → Sl → Hp → OA) : List (FuncId × (List AV → Hp → OA)) := [(29, cy.mk li)]
theorem dQ.loops (F : Nat) (li : Sl → Sl → Hp → OA) : LoopsOk tabs (mkOrc (dQ.cs F li)) dQ.pn (dQ.lh F li) F [] 1 dQ.code (fun tm H => aresults tabs.ty H tm Try.f27.results.toList fun v => some (v, H)) (fun _ _ _ => none) (fun tm H => aresults tabs.ty H tm Try.f27.results.toList fun v => some (v, H)) := by
 exact loops_none (by kernel_rfl)
theorem dQ.eqX (F : Nat) (li : Sl → Sl → Hp → OA) (aa : Int) (ac : Int) (ai : Sl) (ag : Int) (bu : Int) (kG : Sl) (H : Hp) : aCode tabs (mkOrc (dQ.cs F li)) dQ.pn (dQ.lh F li) F [] 1 dQ.code (argTm [(.agg [(.int .i64 aa), (.int .i64 ac), (.sl ai)]), (.agg [(.int .i64 ag), (.int .i64 bu), (.sl kG)])]) H (fun tm H => aresults tabs.ty H tm Try.f27.results.toList fun v => some (v, H)) (fun _ _ _ => none) (fun tm H => aresults tabs.ty H tm Try.f27.results.toList fun v => some (v, H)) = dQ.twX F li aa ac ai ag bu kG H := by kernel_rfl
theorem dQ.cs_ok (F : Nat) : ∀ p ∈ dQ.cs F (cy.tw F), ∀ args H v H', p.2 args H = some (v, H') → Go.AE.T Try.prog p.1 args H v H' := by
 intro p hp
 simp only [dQ.cs, List.mem_cons, List.not_mem_nil, or_false] at hp
 subst hp
 exact fun args H v H' h => cy.mk_T h
theorem dQ.ok : codeOk dQ.pn Try.f27.ntmps dQ.tb dQ.code = true := by kernel_rfl
theorem dQ.T {F : Nat} {aa : Int} {ac : Int} {ai : Sl} {ag : Int} {bu : Int} {kG : Sl} {H : Hp} {v : AV} {H' : Hp} (h : dQ.tw F aa ac ai ag bu kG H = some (v, H')) : Go.AE.T Try.prog 27 [(.agg [(.int .i64 aa), (.int .i64 ac), (.sl ai)]), (.agg [(.int .i64 ag), (.int .i64 bu), (.sl kG)])] H v H' :=
 Go.AE.T.of (Y := tabs) (C := mkOrc (dQ.cs F (cy.tw F))) (PN := dQ.pn) (LH := dQ.lh F (cy.tw F)) (F := F) (TB := dQ.tb) (fn := Try.f27) (code := dQ.code) mixed tabs_ok (mkOrc_ok (dQ.cs_ok F)) Try.func27 (by kernel_rfl) (by kernel_rfl) dQ.ok (Nat.le_of_ble_eq_true (by kernel_rfl)) (dQ.loops F (cy.tw F)) (Eq.trans (dQ.eqX F (cy.tw F) aa ac ai ag bu kG H) h)
theorem dQ.mk_T {F : Nat} {args : List AV} {H : Hp} {v : AV} {H' : Hp} (h : dQ.mk (dQ.tw F) args H = some (v, H')) : Go.AE.T Try.prog 27 args H v H' := by
 unfold dQ.mk at h
 split at h
 ·exact dQ.T h
 ·cases h
noncomputable def em.twX (F : Nat) (lj : Int → Int → Sl → Int → Hp → OA) (kv : Int → Int → Sl → Hp → OA) (lk : Int → Int → Sl → Hp → OA) (ll : Int → Int → Sl → Hp → OA) (lm : Int → Int → Sl → Int → Int → Sl → Hp → OA) (aa : Int) (ac : Int) (ai : Sl) (H : Hp) : OA := (Hp.new H [(.int .i64 aa), (.int .i64 ac), (.sl ai)]).bind fun H4 => (Hp.ldI H4 .i64 H.length 0).bind fun n5 => (Hp.ldI H4 .i64 H.length (0 + 1)).bind fun n6 => (Hp.ldSl H4 H.length (0 + 2)).bind fun s7 => (lj n5 n6 s7 1048576 H4).bind fun r8 => ((r8.1).asI .i64).bind fun n9 => (bif (decide (n9 < 0)) then (some ((.bool true), r8.2)) else ((Hp.ldI r8.2 .i64 H.length 0).bind fun n10 => (Hp.ldI r8.2 .i64 H.length (0 + 1)).bind fun n11 => (Hp.ldSl r8.2 H.length (0 + 2)).bind fun s12 => (kv n10 n11 s12 r8.2).bind fun r13 => ((r13.1).asAgg 3).bind fun l14 => (l14[0]?).bind fun v15 => ((v15).asI .i64).bind fun n16 => (l14[1]?).bind fun v17 => ((v17).asI .i64).bind fun n18 => (l14[2]?).bind fun v19 => ((v19).asSl).bind fun s20 => (lk n16 n18 s20 r13.2).bind fun r21 => ((r21.1).asTup 2).bind fun l22 => (l22[0]?).bind fun v23 => ((v23).asI .i64).bind fun n24 => (l22[1]?).bind fun v25 => ((v25).asI .i64).bind fun n26 => (Hp.ldI r21.2 .i64 H.length 0).bind fun n27 => (Hp.ldI r21.2 .i64 H.length (0 + 1)).bind fun n28 => (Hp.ldSl r21.2 H.length (0 + 2)).bind fun s29 => (kv n27 n28 s29 r21.2).bind fun r30 => ((r30.1).asAgg 3).bind fun l31 => (l31[0]?).bind fun v32 => ((v32).asI .i64).bind fun n33 => (l31[1]?).bind fun v34 => ((v34).asI .i64).bind fun n35 => (l31[2]?).bind fun v36 => ((v36).asSl).bind fun s37 => (Hp.new r30.2 [.int .i64 0, .int .i64 0, .sl ⟨none, 0, .ex 0⟩]).bind fun H38 => (Hp.st H38 r30.2.length 0 (.int .i64 n33)).bind fun H39 => (Hp.st H39 r30.2.length (0 + 1) (.int .i64 n35)).bind fun H40 => (Hp.st H40 r30.2.length (0 + 1 + 1) (.sl s37)).bind fun H41 => (Hp.ldI H41 .i64 r30.2.length 0).bind fun n42 => (Hp.ldI H41 .i64 r30.2.length (0 + 1)).bind fun n43 => (Hp.ldSl H41 r30.2.length (0 + 2)).bind fun s44 => (ll n42 n43 s44 H41).bind fun r45 => ((r45.1).asTup 2).bind fun l46 => (l46[0]?).bind fun v47 => ((v47).asI .i64).bind fun n48 => (l46[1]?).bind fun v49 => ((v49).asI .i64).bind fun n50 => (bif (n48 != n24) then (some ((.bool false), r45.2)) else ((bif (n50 != n26) then (some ((.bool false), r45.2)) else ((Hp.ldI r45.2 .i64 r30.2.length 0).bind fun n51 => (Hp.ldI r45.2 .i64 r30.2.length (0 + 1)).bind fun n52 => (Hp.ldSl r45.2 r30.2.length (0 + 2)).bind fun s53 => (Hp.ldI r45.2 .i64 H.length 0).bind fun n54 => (Hp.ldI r45.2 .i64 H.length (0 + 1)).bind fun n55 => (Hp.ldSl r45.2 H.length (0 + 2)).bind fun s56 => (kv n54 n55 s56 r45.2).bind fun r57 => ((r57.1).asAgg 3).bind fun l58 => (l58[0]?).bind fun v59 => ((v59).asI .i64).bind fun n60 => (l58[1]?).bind fun v61 => ((v61).asI .i64).bind fun n62 => (l58[2]?).bind fun v63 => ((v63).asSl).bind fun s64 => (if Cons r45.2 r57.2 then ((lm n51 n52 s53 n60 n62 s64 r57.2).bind fun r65 => ((r65.1).asB).bind fun b66 => (bif (!b66) then (some ((.bool false), r65.2)) else (some ((.bool true), r65.2)))) else none)))))))
noncomputable def em.tw (F : Nat) (aa : Int) (ac : Int) (ai : Sl) (H : Hp) : OA := em.twX F (dE.tw F) (dz.tw F) (dH.tw F) (dP.tw F) (dQ.tw F) aa ac ai H
noncomputable def em.code : Go.Code := (Try.f4.body).getD .skip
noncomputable def em.lh (F : Nat) (lj : Int → Int → Sl → Int → Hp → OA) (kv : Int → Int → Sl → Hp → OA) (lk : Int → Int → Sl → Hp → OA) (ll : Int → Int → Sl → Hp → OA) (lm : Int → Int → Sl → Int → Int → Sl → Hp → OA) (p : Nat) (ks : List Nat) (n : Nat) (tm : Tm) (H : Hp) : OA := none
def em.pn : Nat → List Nat := fun i => (([(10, [3])] : List (Nat × List Nat)).lookup i).getD []
def em.tb : Nat → List (List Nat) := fun i => (([(10, [[], [], [1], [0, 1, 2], [0, 1, 2, 3]])] : List (Nat × List (List Nat))).lookup i).getD []
noncomputable def em.mk (g : Int → Int → Sl → Hp → OA) (args : List AV) (H : Hp) : OA := match args with
 | [(.agg [(.int .i64 aa), (.int .i64 ac), (.sl ai)])] => g aa ac ai H
 | _ => none
noncomputable def em.cs (F : Nat) (lj : Int → Int → Sl → Int → Hp → OA) (kv : Int → Int → Sl → Hp → OA) (lk : Int → Int → Sl → Hp → OA) (ll : Int → Int → Sl → Hp → OA) (lm : Int → Int → Sl → Int → Int → Sl → Hp → OA) : List (FuncId × (List AV → Hp → OA)) := [(23, dE.mk lj), (25, dz.mk kv), (24, dH.mk lk), (26, dP.mk ll), (27, dQ.mk lm)]
theorem em.loops (F : Nat) (lj : Int → Int → Sl → Int → Hp → OA) (kv : Int → Int → Sl → Hp → OA) (lk : Int → Int → Sl → Hp → OA) (ll : Int → Int → Sl → Hp → OA) (lm : Int → Int → Sl → Int → Int → Sl → Hp → OA) : LoopsOk tabs (mkOrc (em.cs F lj kv lk ll lm)) em.pn (em.lh F lj kv lk ll lm) F [] 1 em.code (fun tm H => aresults tabs.ty H tm Try.f4.results.toList fun v => some (v, H)) (fun _ _ _ => none) (fun tm H => aresults tabs.ty H tm Try.f4.results.toList fun v => some (v, H)) := by
 exact loops_none (by kernel_rfl)
theorem em.eqX (F : Nat) (lj : Int → Int → Sl → Int → Hp → OA) (kv : Int → Int → Sl → Hp → OA) (lk : Int → Int → Sl → Hp → OA) (ll : Int → Int → Sl → Hp → OA) (lm : Int → Int → Sl → Int → Int → Sl → Hp → OA) (aa : Int) (ac : Int) (ai : Sl) (H : Hp) : aCode tabs (mkOrc (em.cs F lj kv lk ll lm)) em.pn (em.lh F lj kv lk ll lm) F [] 1 em.code (argTm [(.agg [(.int .i64 aa), (.int .i64 ac), (.sl ai)])]) H (fun tm H => aresults tabs.ty H tm Try.f4.results.toList fun v => some (v, H)) (fun _ _ _ => none) (fun tm H => aresults tabs.ty H tm Try.f4.results.toList fun v => some (v, H)) = em.twX F lj kv lk ll lm aa ac ai H := by kernel_rfl
theorem em.cs_ok (F : Nat) : ∀ p ∈ em.cs F (dE.tw F) (dz.tw F) (dH.tw F) (dP.tw F) (dQ.tw F), ∀ args H v H', p.2 args H = some (v, H') → Go.AE.T Try.prog p.1 args H v H' := by
 intro p hp
 simp only [em.cs, List.mem_cons, List.not_mem_nil, or_false] at hp
 rcases hp with rfl | rfl | rfl | rfl | rfl
 ·exact fun args H v H' h => dE.mk_T h
 ·exact fun args H v H' h => dz.mk_T h
 ·exact fun args H v H' h => dH.mk_T h
 ·exact fun args H v H' h => dP.mk_T h
 ·exact fun args H v H' h => dQ.mk_T h
theorem em.ok : codeOk em.pn Try.f4.ntmps em.tb em.code = true := by kernel_rfl
theorem em.T {F : Nat} {aa : Int} {ac : Int} {ai : Sl} {H : Hp} {v : AV} {H' : Hp} (h : em.tw F aa ac ai H = some (v, H')) : Go.AE.T Try.prog 4 [(.agg [(.int .i64 aa), (.int .i64 ac), (.sl ai)])] H v H' :=
 Go.AE.T.of (Y := tabs) (C := mkOrc (em.cs F (dE.tw F) (dz.tw F) (dH.tw F) (dP.tw F) (dQ.tw F))) (PN := em.pn) (LH := em.lh F (dE.tw F) (dz.tw F) (dH.tw F) (dP.tw F) (dQ.tw F)) (F := F) (TB := em.tb) (fn := Try.f4) (code := em.code) mixed tabs_ok (mkOrc_ok (em.cs_ok F)) Try.func4 (by kernel_rfl) (by kernel_rfl) em.ok (Nat.le_of_ble_eq_true (by kernel_rfl)) (em.loops F (dE.tw F) (dz.tw F) (dH.tw F) (dP.tw F) (dQ.tw F)) (Eq.trans (em.eqX F (dE.tw F) (dz.tw F) (dH.tw F) (dP.tw F) (dQ.tw F) aa ac ai H) h)
theorem em.mk_T {F : Nat} {args : List AV} {H : Hp} {v : AV} {H' : Hp} (h : em.mk (em.tw F) args H = some (v, H')) : Go.AE.T Try.prog 4 args H v H' := by
 unfold em.mk at h
 split at h
 ·exact em.T h
 ·cases h
end Go.Proofs.Ytnkgeongfneafaa.AE
