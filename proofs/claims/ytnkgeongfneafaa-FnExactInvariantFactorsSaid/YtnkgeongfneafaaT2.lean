import Derived.Test.YtnkgeongfneafaaT1
import Derived.Test.YtnkgeongfneafaaTab1
set_option linter.unusedVariables false
set_option linter.unusedSimpArgs false
namespace Go.Proofs.Ytnkgeongfneafaa.AE
open Go Go.AE Go.Proofs
set_option linter.unusedVariables false
set_option maxHeartbeats 4000000
set_option maxRecDepth 100000
theorem dn.eqX (F : Nat) (lk : Int → Int → Int → Hp → OA) (dm : Int → Hp → OA) (aa : Nat) (ac : Nat) (ae : Nat) (af : Nat) (bh : Int) (jh : Int) (H : Hp) : aCode tabs (mkOrc (dn.cs F lk dm)) dn.pn (dn.lh F lk dm) F [] 1 dn.code (argTm [(.ptr aa ac), (.ptr ae af), (.int .i64 bh), (.int .i64 jh)]) H (fun tm H => aresults tabs.ty H tm Try.f163.results.toList fun v => some (v, H)) (fun _ _ _ => none) (fun tm H => aresults tabs.ty H tm Try.f163.results.toList fun v => some (v, H)) = dn.twX F lk dm aa ac ae af bh jh H := by kernel_rfl
theorem dn.cs_ok (F : Nat) : ∀ p ∈ dn.cs F (dz.tw F) (cj.tw F), ∀ args H v H', p.2 args H = some (v, H') → Go.AE.T Try.prog p.1 args H v H' := by
 intro p hp
 simp only [dn.cs, List.mem_cons, List.not_mem_nil, or_false] at hp
 rcases hp with rfl | rfl
 ·exact fun args H v H' h => dz.mk_T h
 ·exact fun args H v H' h => cj.mk_T h
theorem dn.ok : codeOk dn.pn Try.f163.ntmps dn.tb dn.code = true := by kernel_rfl
theorem dn.T {F : Nat} {aa : Nat} {ac : Nat} {ae : Nat} {af : Nat} {bh : Int} {jh : Int} {H : Hp} {v : AV} {H' : Hp} (h : dn.tw F aa ac ae af bh jh H = some (v, H')) : Go.AE.T Try.prog 163 [(.ptr aa ac), (.ptr ae af), (.int .i64 bh), (.int .i64 jh)] H v H' :=
 Go.AE.T.of (Y := tabs) (C := mkOrc (dn.cs F (dz.tw F) (cj.tw F))) (PN := dn.pn) (LH := dn.lh F (dz.tw F) (cj.tw F)) (F := F) (TB := dn.tb) (fn := Try.f163) (code := dn.code) mixed tabs_ok (mkOrc_ok (dn.cs_ok F)) Try.func163 (by kernel_rfl) (by kernel_rfl) dn.ok (Nat.le_of_ble_eq_true (by kernel_rfl)) (dn.loops F (dz.tw F) (cj.tw F)) (Eq.trans (dn.eqX F (dz.tw F) (cj.tw F) aa ac ae af bh jh H) h)
theorem dn.mk_T {F : Nat} {args : List AV} {H : Hp} {v : AV} {H' : Hp} (h : dn.mk (dn.tw F) args H = some (v, H')) : Go.AE.T Try.prog 163 args H v H' := by
 unfold dn.mk at h
 split at h
 ·exact dn.T h
 ·cases h
noncomputable def bF.l7 (F : Nat) (ah : Int → Int → Sl → Int → Int → Hp → OA) (fc : Nat → Nat → Nat → Nat → Int → Int → Hp → OA)  : Nat → Nat → Nat → Int → Int → Int → Nat → Nat → Int → Int → Hp → OA
 | 0, _, _, _, _, _, _, _, _, _, _ => none
 | kk + 1, cO, eG, ch, dN, dp, cN, fT, fi, eK, H23 => (bif (decide (eK < fi)) then ((Hp.ldI H23 .i64 cN fT).bind fun n36 => (Hp.ldI H23 .i64 cN (fT + 1)).bind fun n37 => (Hp.ldSl H23 cN (fT + 2)).bind fun s38 => (ah n36 n37 s38 ch eK H23).bind fun r39 => ((r39.1).asP).bind fun p40 => (if Cons H23 r39.2 then ((Hp.ldI r39.2 .i64 cN fT).bind fun n41 => (Hp.ldI r39.2 .i64 cN (fT + 1)).bind fun n42 => (Hp.ldSl r39.2 cN (fT + 2)).bind fun s43 => (ah n41 n42 s43 dN eK r39.2).bind fun r44 => ((r44.1).asP).bind fun p45 => (Hp.ldI r44.2 .i64 p45.1 p45.2).bind fun n46 => (fc cO eG p40.1 p40.2 n46 dp r44.2).bind fun r47 => bF.l7 F ah fc kk cO eG ch dN dp cN fT fi (IntKind.i64.wrap (eK + 1)) r47.2) else none)) else (some ((.tup []), H23)))
termination_by structural n => n
noncomputable def bF.twX (F : Nat) (ah : Int → Int → Sl → Int → Int → Hp → OA) (fc : Nat → Nat → Nat → Nat → Int → Int → Hp → OA) (aa : Nat) (ac : Nat) (ae : Int) (af : Int) (bu : Sl) (cL : Int) (cM : Int) (cu : Int) (H : Hp) : OA := (Hp.new H [(.int .i64 ae), (.int .i64 af), (.sl bu)]).bind fun H9 => (Hp.ldI H9 .i64 H.length 1).bind fun n10 => bF.l7 F ah fc F aa ac cL cM cu H.length 0 n10 0 H9
noncomputable def bF.tw (F : Nat) (aa : Nat) (ac : Nat) (ae : Int) (af : Int) (bu : Sl) (cL : Int) (cM : Int) (cu : Int) (H : Hp) : OA := bF.twX F (aO.tw F) (dn.tw F) aa ac ae af bu cL cM cu H
noncomputable def bF.code : Go.Code := (Try.f157.body).getD .skip
noncomputable def bF.lh7 (F : Nat) (ah : Int → Int → Sl → Int → Int → Hp → OA) (fc : Nat → Nat → Nat → Nat → Int → Int → Hp → OA) (ks : List Nat) (n : Nat) (tm : Tm) (H : Hp) : OA := match ks, tm 0, tm 2, tm 3, tm 4, tm 6, tm 12, tm 13 with
 | [], (.ptr cO eG), (.int .i64 ch), (.int .i64 dN), (.int .i64 dp), (.ptr cN fT), (.int .i64 fi), (.int .i64 eK) => bF.l7 F ah fc n cO eG ch dN dp cN fT fi eK H
 | _, _, _, _, _, _, _, _ => none
theorem bF.lh7_inv {F : Nat} {ah : Int → Int → Sl → Int → Int → Hp → OA} {fc : Nat → Nat → Nat → Nat → Int → Int → Hp → OA} {ks : List Nat} {n : Nat} {tm : Tm} {H : Hp} {r : AV × Hp} (h : bF.lh7 F ah fc ks n tm H = some r) : ∃ cO : Nat, ∃ eG : Nat, ∃ ch : Int, ∃ dN : Int, ∃ dp : Int, ∃ cN : Nat, ∃ fT : Nat, ∃ fi : Int, ∃ eK : Int, ks = [] ∧ tm 0 = (.ptr cO eG) ∧ tm 2 = (.int .i64 ch) ∧ tm 3 = (.int .i64 dN) ∧ tm 4 = (.int .i64 dp) ∧ tm 6 = (.ptr cN fT) ∧ tm 12 = (.int .i64 fi) ∧ tm 13 = (.int .i64 eK) ∧ bF.l7 F ah fc n cO eG ch dN dp cN fT fi eK H = some r := by
 unfold bF.lh7 at h
 split at h
 ·exact ⟨_, _, _, _, _, _, _, _, _, rfl, by assumption, by assumption, by assumption, by assumption, by assumption, by assumption, by assumption, h⟩
 ·cases h
noncomputable def bF.lh (F : Nat) (ah : Int → Int → Sl → Int → Int → Hp → OA) (fc : Nat → Nat → Nat → Nat → Int → Int → Hp → OA) (p : Nat) (ks : List Nat) (n : Nat) (tm : Tm) (H : Hp) : OA := bif p.beq 7 then bF.lh7 F ah fc ks n tm H else (none)
def bF.pn : Nat → List Nat := fun i => (([(4, [8, 12])] : List (Nat × List Nat)).lookup i).getD []
def bF.tb : Nat → List (List Nat) := fun i => (([(4, [[], [], [], [], [1, 2, 3], [], [], [], [1, 2, 3, 4, 5, 6, 7], [1, 2, 3, 4, 5, 6, 7, 8], [1, 2, 3, 4, 5, 6, 7, 8, 9], [], [0, 1, 2, 3, 4, 5, 6, 7, 8, 9, 10, 11]])] : List (Nat × List (List Nat))).lookup i).getD []
noncomputable def bF.mk (g : Nat → Nat → Int → Int → Sl → Int → Int → Int → Hp → OA) (args : List AV) (H : Hp) : OA := match args with
 | [(.ptr aa ac), (.agg [(.int .i64 ae), (.int .i64 af), (.sl bu)]), (.int .i64 cL), (.int .i64 cM), (.int .i64 cu)] => g aa ac ae af bu cL cM cu H
 | _ => none
noncomputable def bF.cs (F : Nat) (ah : Int → Int → Sl → Int → Int → Hp → OA) (fc : Nat → Nat → Nat → Nat → Int → Int → Hp → OA) : List (FuncId × (List AV → Hp → OA)) := [(95, aO.mk ah), (163, dn.mk fc)]
theorem bF.loops (F : Nat) (ah : Int → Int → Sl → Int → Int → Hp → OA) (fc : Nat → Nat → Nat → Nat → Int → Int → Hp → OA) : LoopsOk tabs (mkOrc (bF.cs F ah fc)) bF.pn (bF.lh F ah fc) F [] 1 bF.code (fun tm H => aresults tabs.ty H tm Try.f157.results.toList fun v => some (v, H)) (fun _ _ _ => none) (fun tm H => aresults tabs.ty H tm Try.f157.results.toList fun v => some (v, H)) := by
 refine LoopsOk.seq ?_ ?_
 ·exact loops_none (by kernel_rfl)
 ·refine LoopsOk.seq ?_ ?_
  ·exact loops_none (by kernel_rfl)
  ·refine LoopsOk.block ?_
   refine LoopsOk.loop (fun tm H => ?_) (fun k7 tm H r h0 => ?_) (fun k7 => ?_)
   ·refine none_of fun r h0 => ?_
    obtain ⟨cO, eG, ch, dN, dp, cN, fT, fi, eK, hks, e0, e2, e3, e4, e6, e12, e13, h⟩ := bF.lh7_inv (show bF.lh7 F ah fc [] 0 tm H = some r from h0)
    cases h
   ·obtain ⟨cO, eG, ch, dN, dp, cN, fT, fi, eK, hks, e0, e2, e3, e4, e6, e12, e13, h⟩ := bF.lh7_inv (show bF.lh7 F ah fc [] (k7 + 1) tm H = some r from h0)
    have q0 : (Tm.put tm 0 (.ptr cO eG)) = tm := by exact Tm.put_same e0
    have q1 : (Tm.put (Tm.put tm 0 (.ptr cO eG)) 2 (.int .i64 ch)) = tm := by rw [q0]; exact Tm.put_same e2
    have q2 : (Tm.put (Tm.put (Tm.put tm 0 (.ptr cO eG)) 2 (.int .i64 ch)) 3 (.int .i64 dN)) = tm := by rw [q1]; exact Tm.put_same e3
    have q3 : (Tm.put (Tm.put (Tm.put (Tm.put tm 0 (.ptr cO eG)) 2 (.int .i64 ch)) 3 (.int .i64 dN)) 4 (.int .i64 dp)) = tm := by rw [q2]; exact Tm.put_same e4
    have q4 : (Tm.put (Tm.put (Tm.put (Tm.put (Tm.put tm 0 (.ptr cO eG)) 2 (.int .i64 ch)) 3 (.int .i64 dN)) 4 (.int .i64 dp)) 6 (.ptr cN fT)) = tm := by rw [q3]; exact Tm.put_same e6
    have q5 : (Tm.put (Tm.put (Tm.put (Tm.put (Tm.put (Tm.put tm 0 (.ptr cO eG)) 2 (.int .i64 ch)) 3 (.int .i64 dN)) 4 (.int .i64 dp)) 6 (.ptr cN fT)) 12 (.int .i64 fi)) = tm := by rw [q4]; exact Tm.put_same e12
    have q6 : (Tm.put (Tm.put (Tm.put (Tm.put (Tm.put (Tm.put (Tm.put tm 0 (.ptr cO eG)) 2 (.int .i64 ch)) 3 (.int .i64 dN)) 4 (.int .i64 dp)) 6 (.ptr cN fT)) 12 (.int .i64 fi)) 13 (.int .i64 eK)) = tm := by rw [q5]; exact Tm.put_same e13
    rw [← q6]
    exact Eq.trans (by kernel_rfl) h
   ·exact loops_none (by kernel_rfl)
theorem bF.eqX (F : Nat) (ah : Int → Int → Sl → Int → Int → Hp → OA) (fc : Nat → Nat → Nat → Nat → Int → Int → Hp → OA) (aa : Nat) (ac : Nat) (ae : Int) (af : Int) (bu : Sl) (cL : Int) (cM : Int) (cu : Int) (H : Hp) : aCode tabs (mkOrc (bF.cs F ah fc)) bF.pn (bF.lh F ah fc) F [] 1 bF.code (argTm [(.ptr aa ac), (.agg [(.int .i64 ae), (.int .i64 af), (.sl bu)]), (.int .i64 cL), (.int .i64 cM), (.int .i64 cu)]) H (fun tm H => aresults tabs.ty H tm Try.f157.results.toList fun v => some (v, H)) (fun _ _ _ => none) (fun tm H => aresults tabs.ty H tm Try.f157.results.toList fun v => some (v, H)) = bF.twX F ah fc aa ac ae af bu cL cM cu H := by kernel_rfl
theorem bF.cs_ok (F : Nat) : ∀ p ∈ bF.cs F (aO.tw F) (dn.tw F), ∀ args H v H', p.2 args H = some (v, H') → Go.AE.T Try.prog p.1 args H v H' := by
 intro p hp
 simp only [bF.cs, List.mem_cons, List.not_mem_nil, or_false] at hp
 rcases hp with rfl | rfl
 ·exact fun args H v H' h => aO.mk_T h
 ·exact fun args H v H' h => dn.mk_T h
theorem bF.ok : codeOk bF.pn Try.f157.ntmps bF.tb bF.code = true := by kernel_rfl
theorem bF.T {F : Nat} {aa : Nat} {ac : Nat} {ae : Int} {af : Int} {bu : Sl} {cL : Int} {cM : Int} {cu : Int} {H : Hp} {v : AV} {H' : Hp} (h : bF.tw F aa ac ae af bu cL cM cu H = some (v, H')) : Go.AE.T Try.prog 157 [(.ptr aa ac), (.agg [(.int .i64 ae), (.int .i64 af), (.sl bu)]), (.int .i64 cL), (.int .i64 cM), (.int .i64 cu)] H v H' :=
 Go.AE.T.of (Y := tabs) (C := mkOrc (bF.cs F (aO.tw F) (dn.tw F))) (PN := bF.pn) (LH := bF.lh F (aO.tw F) (dn.tw F)) (F := F) (TB := bF.tb) (fn := Try.f157) (code := bF.code) mixed tabs_ok (mkOrc_ok (bF.cs_ok F)) Try.func157 (by kernel_rfl) (by kernel_rfl) bF.ok (Nat.le_of_ble_eq_true (by kernel_rfl)) (bF.loops F (aO.tw F) (dn.tw F)) (Eq.trans (bF.eqX F (aO.tw F) (dn.tw F) aa ac ae af bu cL cM cu H) h)
theorem bF.mk_T {F : Nat} {args : List AV} {H : Hp} {v : AV} {H' : Hp} (h : bF.mk (bF.tw F) args H = some (v, H')) : Go.AE.T Try.prog 157 args H v H' := by
 unfold bF.mk at h
 split at h
 ·exact bF.T h
 ·cases h
noncomputable def bG.l7 (F : Nat) (ah : Int → Int → Sl → Int → Int → Hp → OA) (fc : Nat → Nat → Nat → Nat → Int → Int → Hp → OA)  : Nat → Nat → Nat → Int → Int → Int → Nat → Nat → Int → Int → Hp → OA
 | 0, _, _, _, _, _, _, _, _, _, _ => none
 | kk + 1, cO, eG, ch, dN, dp, cN, fT, fi, eK, H23 => (bif (decide (eK < fi)) then ((Hp.ldI H23 .i64 cN fT).bind fun n36 => (Hp.ldI H23 .i64 cN (fT + 1)).bind fun n37 => (Hp.ldSl H23 cN (fT + 2)).bind fun s38 => (ah n36 n37 s38 eK ch H23).bind fun r39 => ((r39.1).asP).bind fun p40 => (if Cons H23 r39.2 then ((Hp.ldI r39.2 .i64 cN fT).bind fun n41 => (Hp.ldI r39.2 .i64 cN (fT + 1)).bind fun n42 => (Hp.ldSl r39.2 cN (fT + 2)).bind fun s43 => (ah n41 n42 s43 eK dN r39.2).bind fun r44 => ((r44.1).asP).bind fun p45 => (Hp.ldI r44.2 .i64 p45.1 p45.2).bind fun n46 => (fc cO eG p40.1 p40.2 n46 dp r44.2).bind fun r47 => bG.l7 F ah fc kk cO eG ch dN dp cN fT fi (IntKind.i64.wrap (eK + 1)) r47.2) else none)) else (some ((.tup []), H23)))
termination_by structural n => n
noncomputable def bG.twX (F : Nat) (ah : Int → Int → Sl → Int → Int → Hp → OA) (fc : Nat → Nat → Nat → Nat → Int → Int → Hp → OA) (aa : Nat) (ac : Nat) (ae : Int) (af : Int) (bu : Sl) (cL : Int) (cM : Int) (cu : Int) (H : Hp) : OA := (Hp.new H [(.int .i64 ae), (.int .i64 af), (.sl bu)]).bind fun H9 => (Hp.ldI H9 .i64 H.length 0).bind fun n10 => bG.l7 F ah fc F aa ac cL cM cu H.length 0 n10 0 H9
noncomputable def bG.tw (F : Nat) (aa : Nat) (ac : Nat) (ae : Int) (af : Int) (bu : Sl) (cL : Int) (cM : Int) (cu : Int) (H : Hp) : OA := bG.twX F (aO.tw F) (dn.tw F) aa ac ae af bu cL cM cu H
noncomputable def bG.code : Go.Code := (Try.f158.body).getD .skip
noncomputable def bG.lh7 (F : Nat) (ah : Int → Int → Sl → Int → Int → Hp → OA) (fc : Nat → Nat → Nat → Nat → Int → Int → Hp → OA) (ks : List Nat) (n : Nat) (tm : Tm) (H : Hp) : OA := match ks, tm 0, tm 2, tm 3, tm 4, tm 6, tm 12, tm 13 with
 | [], (.ptr cO eG), (.int .i64 ch), (.int .i64 dN), (.int .i64 dp), (.ptr cN fT), (.int .i64 fi), (.int .i64 eK) => bG.l7 F ah fc n cO eG ch dN dp cN fT fi eK H
 | _, _, _, _, _, _, _, _ => none
theorem bG.lh7_inv {F : Nat} {ah : Int → Int → Sl → Int → Int → Hp → OA} {fc : Nat → Nat → Nat → Nat → Int → Int → Hp → OA} {ks : List Nat} {n : Nat} {tm : Tm} {H : Hp} {r : AV × Hp} (h : bG.lh7 F ah fc ks n tm H = some r) : ∃ cO : Nat, ∃ eG : Nat, ∃ ch : Int, ∃ dN : Int, ∃ dp : Int, ∃ cN : Nat, ∃ fT : Nat, ∃ fi : Int, ∃ eK : Int, ks = [] ∧ tm 0 = (.ptr cO eG) ∧ tm 2 = (.int .i64 ch) ∧ tm 3 = (.int .i64 dN) ∧ tm 4 = (.int .i64 dp) ∧ tm 6 = (.ptr cN fT) ∧ tm 12 = (.int .i64 fi) ∧ tm 13 = (.int .i64 eK) ∧ bG.l7 F ah fc n cO eG ch dN dp cN fT fi eK H = some r := by
 unfold bG.lh7 at h
 split at h
 ·exact ⟨_, _, _, _, _, _, _, _, _, rfl, by assumption, by assumption, by assumption, by assumption, by assumption, by assumption, by assumption, h⟩
 ·cases h
noncomputable def bG.lh (F : Nat) (ah : Int → Int → Sl → Int → Int → Hp → OA) (fc : Nat → Nat → Nat → Nat → Int → Int → Hp → OA) (p : Nat) (ks : List Nat) (n : Nat) (tm : Tm) (H : Hp) : OA := bif p.beq 7 then bG.lh7 F ah fc ks n tm H else (none)
def bG.pn : Nat → List Nat := fun i => (([(4, [8, 12])] : List (Nat × List Nat)).lookup i).getD []
def bG.tb : Nat → List (List Nat) := fun i => (([(4, [[], [], [], [], [1, 2, 3], [], [], [], [1, 2, 3, 4, 5, 6, 7], [1, 2, 3, 4, 5, 6, 7, 8], [1, 2, 3, 4, 5, 6, 7, 8, 9], [], [0, 1, 2, 3, 4, 5, 6, 7, 8, 9, 10, 11]])] : List (Nat × List (List Nat))).lookup i).getD []
noncomputable def bG.mk (g : Nat → Nat → Int → Int → Sl → Int → Int → Int → Hp → OA) (args : List AV) (H : Hp) : OA := match args with
 | [(.ptr aa ac), (.agg [(.int .i64 ae), (.int .i64 af), (.sl bu)]), (.int .i64 cL), (.int .i64 cM), (.int .i64 cu)] => g aa ac ae af bu cL cM cu H
 | _ => none
noncomputable def bG.cs (F : Nat) (ah : Int → Int → Sl → Int → Int → Hp → OA) (fc : Nat → Nat → Nat → Nat → Int → Int → Hp → OA) : List (FuncId × (List AV → Hp → OA)) := [(95, aO.mk ah), (163, dn.mk fc)]
theorem bG.loops (F : Nat) (ah : Int → Int → Sl → Int → Int → Hp → OA) (fc : Nat → Nat → Nat → Nat → Int → Int → Hp → OA) : LoopsOk tabs (mkOrc (bG.cs F ah fc)) bG.pn (bG.lh F ah fc) F [] 1 bG.code (fun tm H => aresults tabs.ty H tm Try.f158.results.toList fun v => some (v, H)) (fun _ _ _ => none) (fun tm H => aresults tabs.ty H tm Try.f158.results.toList fun v => some (v, H)) := by
 refine LoopsOk.seq ?_ ?_
 ·exact loops_none (by kernel_rfl)
 ·refine LoopsOk.seq ?_ ?_
  ·exact loops_none (by kernel_rfl)
  ·refine LoopsOk.block ?_
   refine LoopsOk.loop (fun tm H => ?_) (fun k7 tm H r h0 => ?_) (fun k7 => ?_)
   ·refine none_of fun r h0 => ?_
    obtain ⟨cO, eG, ch, dN, dp, cN, fT, fi, eK, hks, e0, e2, e3, e4, e6, e12, e13, h⟩ := bG.lh7_inv (show bG.lh7 F ah fc [] 0 tm H = some r from h0)
    cases h
   ·obtain ⟨cO, eG, ch, dN, dp, cN, fT, fi, eK, hks, e0, e2, e3, e4, e6, e12, e13, h⟩ := bG.lh7_inv (show bG.lh7 F ah fc [] (k7 + 1) tm H = some r from h0)
    have q0 : (Tm.put tm 0 (.ptr cO eG)) = tm := by exact Tm.put_same e0
    have q1 : (Tm.put (Tm.put tm 0 (.ptr cO eG)) 2 (.int .i64 ch)) = tm := by rw [q0]; exact Tm.put_same e2
    have q2 : (Tm.put (Tm.put (Tm.put tm 0 (.ptr cO eG)) 2 (.int .i64 ch)) 3 (.int .i64 dN)) = tm := by rw [q1]; exact Tm.put_same e3
    have q3 : (Tm.put (Tm.put (Tm.put (Tm.put tm 0 (.ptr cO eG)) 2 (.int .i64 ch)) 3 (.int .i64 dN)) 4 (.int .i64 dp)) = tm := by rw [q2]; exact Tm.put_same e4
    have q4 : (Tm.put (Tm.put (Tm.put (Tm.put (Tm.put tm 0 (.ptr cO eG)) 2 (.int .i64 ch)) 3 (.int .i64 dN)) 4 (.int .i64 dp)) 6 (.ptr cN fT)) = tm := by rw [q3]; exact Tm.put_same e6
    have q5 : (Tm.put (Tm.put (Tm.put (Tm.put (Tm.put (Tm.put tm 0 (.ptr cO eG)) 2 (.int .i64 ch)) 3 (.int .i64 dN)) 4 (.int .i64 dp)) 6 (.ptr cN fT)) 12 (.int .i64 fi)) = tm := by rw [q4]; exact Tm.put_same e12
    have q6 : (Tm.put (Tm.put (Tm.put (Tm.put (Tm.put (Tm.put (Tm.put tm 0 (.ptr cO eG)) 2 (.int .i64 ch)) 3 (.int .i64 dN)) 4 (.int .i64 dp)) 6 (.ptr cN fT)) 12 (.int .i64 fi)) 13 (.int .i64 eK)) = tm := by rw [q5]; exact Tm.put_same e13
    rw [← q6]
    exact Eq.trans (by kernel_rfl) h
   ·exact loops_none (by kernel_rfl)
theorem bG.eqX (F : Nat) (ah : Int → Int → Sl → Int → Int → Hp → OA) (fc : Nat → Nat → Nat → Nat → Int → Int → Hp → OA) (aa : Nat) (ac : Nat) (ae : Int) (af : Int) (bu : Sl) (cL : Int) (cM : Int) (cu : Int) (H : Hp) : aCode tabs (mkOrc (bG.cs F ah fc)) bG.pn (bG.lh F ah fc) F [] 1 bG.code (argTm [(.ptr aa ac), (.agg [(.int .i64 ae), (.int .i64 af), (.sl bu)]), (.int .i64 cL), (.int .i64 cM), (.int .i64 cu)]) H (fun tm H => aresults tabs.ty H tm Try.f158.results.toList fun v => some (v, H)) (fun _ _ _ => none) (fun tm H => aresults tabs.ty H tm Try.f158.results.toList fun v => some (v, H)) = bG.twX F ah fc aa ac ae af bu cL cM cu H := by kernel_rfl
theorem bG.cs_ok (F : Nat) : ∀ p ∈ bG.cs F (aO.tw F) (dn.tw F), ∀ args H v H', p.2 args H = some (v, H') → Go.AE.T Try.prog p.1 args H v H' := by
 intro p hp
 simp only [bG.cs, List.mem_cons, List.not_mem_nil, or_false] at hp
 rcases hp with rfl | rfl
 ·exact fun args H v H' h => aO.mk_T h
 ·exact fun args H v H' h => dn.mk_T h
theorem bG.ok : codeOk bG.pn Try.f158.ntmps bG.tb bG.code = true := by kernel_rfl
theorem bG.T {F : Nat} {aa : Nat} {ac : Nat} {ae : Int} {af : Int} {bu : Sl} {cL : Int} {cM : Int} {cu : Int} {H : Hp} {v : AV} {H' : Hp} (h : bG.tw F aa ac ae af bu cL cM cu H = some (v, H')) : Go.AE.T Try.prog 158 [(.ptr aa ac), (.agg [(.int .i64 ae), (.int .i64 af), (.sl bu)]), (.int .i64 cL), (.int .i64 cM), (.int .i64 cu)] H v H' :=
 Go.AE.T.of (Y := tabs) (C := mkOrc (bG.cs F (aO.tw F) (dn.tw F))) (PN := bG.pn) (LH := bG.lh F (aO.tw F) (dn.tw F)) (F := F) (TB := bG.tb) (fn := Try.f158) (code := bG.code) mixed tabs_ok (mkOrc_ok (bG.cs_ok F)) Try.func158 (by kernel_rfl) (by kernel_rfl) bG.ok (Nat.le_of_ble_eq_true (by kernel_rfl)) (bG.loops F (aO.tw F) (dn.tw F)) (Eq.trans (bG.eqX F (aO.tw F) (dn.tw F) aa ac ae af bu cL cM cu H) h)
theorem bG.mk_T {F : Nat} {args : List AV} {H : Hp} {v : AV} {H' : Hp} (h : bG.mk (bG.tw F) args H = some (v, H')) : Go.AE.T Try.prog 158 args H v H' := by
 unfold bG.mk at h
 split at h
 ·exact bG.T h
 ·cases h
noncomputable def cR.twX (F : Nat) (hH : Nat → Nat → Int → Int → Sl → Int → Int → Int → Hp → OA) (hJ : Nat → Nat → Int → Int → Sl → Int → Int → Int → Hp → OA) (aa : Nat) (ac : Nat) (ae : Int) (bC : Int) (cv : Int) (H : Hp) : OA := (Hp.ldI H .i64 aa (ac + 6)).bind fun n6 => (Hp.ldI H .i64 aa ((ac + 6) + 1)).bind fun n7 => (Hp.ldSl H aa ((ac + 6) + 2)).bind fun s8 => (hH aa ac n6 n7 s8 ae bC cv H).bind fun r9 => (Hp.ldI r9.2 .i64 aa ac).bind fun n10 => (Hp.ldI r9.2 .i64 aa (ac + 1)).bind fun n11 => (Hp.ldSl r9.2 aa (ac + 2)).bind fun s12 => (hH aa ac n10 n11 s12 ae bC cv r9.2).bind fun r13 => (Hp.ldI r13.2 .i64 aa (ac + 3)).bind fun n14 => (Hp.ldI r13.2 .i64 aa ((ac + 3) + 1)).bind fun n15 => (Hp.ldSl r13.2 aa ((ac + 3) + 2)).bind fun s16 => (hJ aa ac n14 n15 s16 bC ae (IntKind.i64.wrap (0 - cv)) r13.2).bind fun r17 => some ((.tup []), r17.2)
noncomputable def cR.tw (F : Nat) (aa : Nat) (ac : Nat) (ae : Int) (bC : Int) (cv : Int) (H : Hp) : OA := cR.twX F (bF.tw F) (bG.tw F) aa ac ae bC cv H
noncomputable def cR.code : Go.Code := (Try.f137.body).getD .skip
noncomputable def cR.lh (F : Nat) (hH : Nat → Nat → Int → Int → Sl → Int → Int → Int → Hp → OA) (hJ : Nat → Nat → Int → Int → Sl → Int → Int → Int → Hp → OA) (p : Nat) (ks : List Nat) (n : Nat) (tm : Tm) (H : Hp) : OA := none
def cR.pn : Nat → List Nat := fun i => (([] : List (Nat × List Nat)).lookup i).getD []
def cR.tb : Nat → List (List Nat) := fun i => (([] : List (Nat × List (List Nat))).lookup i).getD []
noncomputable def cR.mk (g : Nat → Nat → Int → Int → Int → Hp → OA) (args : List AV) (H : Hp) : OA := match args with
 | [(.ptr aa ac), (.int .i64 ae), (.int .i64 bC), (.int .i64 cv)] => g aa ac ae bC cv H
 | _ => none
noncomputable def cR.cs (F : Nat) (hH : Nat → Nat → Int → Int → Sl → Int → Int → Int → Hp → OA) (hJ : Nat → Nat → Int → Int → Sl → Int → Int → Int → Hp → OA) : List (FuncId × (List AV → Hp → OA)) := [(157, bF.mk hH), (158, bG.mk hJ)]
theorem cR.loops (F : Nat) (hH : Nat → Nat → Int → Int → Sl → Int → Int → Int → Hp → OA) (hJ : Nat → Nat → Int → Int → Sl → Int → Int → Int → Hp → OA) : LoopsOk tabs (mkOrc (cR.cs F hH hJ)) cR.pn (cR.lh F hH hJ) F [] 1 cR.code (fun tm H => aresults tabs.ty H tm Try.f137.results.toList fun v => some (v, H)) (fun _ _ _ => none) (fun tm H => aresults tabs.ty H tm Try.f137.results.toList fun v => some (v, H)) := by
 exact loops_none (by kernel_rfl)
theorem cR.eqX (F : Nat) (hH : Nat → Nat → Int → Int → Sl → Int → Int → Int → Hp → OA) (hJ : Nat → Nat → Int → Int → Sl → Int → Int → Int → Hp → OA) (aa : Nat) (ac : Nat) (ae : Int) (bC : Int) (cv : Int) (H : Hp) : aCode tabs (mkOrc (cR.cs F hH hJ)) cR.pn (cR.lh F hH hJ) F [] 1 cR.code (argTm [(.ptr aa ac), (.int .i64 ae), (.int .i64 bC), (.int .i64 cv)]) H (fun tm H => aresults tabs.ty H tm Try.f137.results.toList fun v => some (v, H)) (fun _ _ _ => none) (fun tm H => aresults tabs.ty H tm Try.f137.results.toList fun v => some (v, H)) = cR.twX F hH hJ aa ac ae bC cv H := by kernel_rfl
theorem cR.cs_ok (F : Nat) : ∀ p ∈ cR.cs F (bF.tw F) (bG.tw F), ∀ args H v H', p.2 args H = some (v, H') → Go.AE.T Try.prog p.1 args H v H' := by
 intro p hp
 simp only [cR.cs, List.mem_cons, List.not_mem_nil, or_false] at hp
 rcases hp with rfl | rfl
 ·exact fun args H v H' h => bF.mk_T h
 ·exact fun args H v H' h => bG.mk_T h
theorem cR.ok : codeOk cR.pn Try.f137.ntmps cR.tb cR.code = true := by kernel_rfl
theorem cR.T {F : Nat} {aa : Nat} {ac : Nat} {ae : Int} {bC : Int} {cv : Int} {H : Hp} {v : AV} {H' : Hp} (h : cR.tw F aa ac ae bC cv H = some (v, H')) : Go.AE.T Try.prog 137 [(.ptr aa ac), (.int .i64 ae), (.int .i64 bC), (.int .i64 cv)] H v H' :=
 Go.AE.T.of (Y := tabs) (C := mkOrc (cR.cs F (bF.tw F) (bG.tw F))) (PN := cR.pn) (LH := cR.lh F (bF.tw F) (bG.tw F)) (F := F) (TB := cR.tb) (fn := Try.f137) (code := cR.code) mixed tabs_ok (mkOrc_ok (cR.cs_ok F)) Try.func137 (by kernel_rfl) (by kernel_rfl) cR.ok (Nat.le_of_ble_eq_true (by kernel_rfl)) (cR.loops F (bF.tw F) (bG.tw F)) (Eq.trans (cR.eqX F (bF.tw F) (bG.tw F) aa ac ae bC cv H) h)
theorem cR.mk_T {F : Nat} {args : List AV} {H : Hp} {v : AV} {H' : Hp} (h : cR.mk (cR.tw F) args H = some (v, H')) : Go.AE.T Try.prog 137 args H v H' := by
 unfold cR.mk at h
 split at h
 ·exact cR.T h
 ·cases h
noncomputable def dA.twX (F : Nat) (hJ : Nat → Nat → Int → Int → Sl → Int → Int → Int → Hp → OA) (hH : Nat → Nat → Int → Int → Sl → Int → Int → Int → Hp → OA) (aa : Nat) (ac : Nat) (ae : Int) (bC : Int) (cv : Int) (H : Hp) : OA := (Hp.ldI H .i64 aa (ac + 6)).bind fun n6 => (Hp.ldI H .i64 aa ((ac + 6) + 1)).bind fun n7 => (Hp.ldSl H aa ((ac + 6) + 2)).bind fun s8 => (hJ aa ac n6 n7 s8 ae bC cv H).bind fun r9 => (Hp.ldI r9.2 .i64 aa (ac + 9)).bind fun n10 => (Hp.ldI r9.2 .i64 aa ((ac + 9) + 1)).bind fun n11 => (Hp.ldSl r9.2 aa ((ac + 9) + 2)).bind fun s12 => (hJ aa ac n10 n11 s12 ae bC cv r9.2).bind fun r13 => (Hp.ldI r13.2 .i64 aa (ac + 12)).bind fun n14 => (Hp.ldI r13.2 .i64 aa ((ac + 12) + 1)).bind fun n15 => (Hp.ldSl r13.2 aa ((ac + 12) + 2)).bind fun s16 => (hH aa ac n14 n15 s16 bC ae (IntKind.i64.wrap (0 - cv)) r13.2).bind fun r17 => some ((.tup []), r17.2)
noncomputable def dA.tw (F : Nat) (aa : Nat) (ac : Nat) (ae : Int) (bC : Int) (cv : Int) (H : Hp) : OA := dA.twX F (bG.tw F) (bF.tw F) aa ac ae bC cv H
noncomputable def dA.code : Go.Code := (Try.f154.body).getD .skip
noncomputable def dA.lh (F : Nat) (hJ : Nat → Nat → Int → Int → Sl → Int → Int → Int → Hp → OA) (hH : Nat → Nat → Int → Int → Sl → Int → Int → Int → Hp → OA) (p : Nat) (ks : List Nat) (n : Nat) (tm : Tm) (H : Hp) : OA := none
def dA.pn : Nat → List Nat := fun i => (([] : List (Nat × List Nat)).lookup i).getD []
def dA.tb : Nat → List (List Nat) := fun i => (([] : List (Nat × List (List Nat))).lookup i).getD []
noncomputable def dA.mk (g : Nat → Nat → Int → Int → Int → Hp → OA) (args : List AV) (H : Hp) : OA := match args with
 | [(.ptr aa ac), (.int .i64 ae), (.int .i64 bC), (.int .i64 cv)] => g aa ac ae bC cv H
 | _ => none
noncomputable def dA.cs (F : Nat) (hJ : Nat → Nat → Int → Int → Sl → Int → Int → Int → Hp → OA) (hH : Nat → Nat → Int → Int → Sl → Int → Int → Int → Hp → OA) : List (FuncId × (List AV → Hp → OA)) := [(158, bG.mk hJ), (157, bF.mk hH)]
theorem dA.loops (F : Nat) (hJ : Nat → Nat → Int → Int → Sl → Int → Int → Int → Hp → OA) (hH : Nat → Nat → Int → Int → Sl → Int → Int → Int → Hp → OA) : LoopsOk tabs (mkOrc (dA.cs F hJ hH)) dA.pn (dA.lh F hJ hH) F [] 1 dA.code (fun tm H => aresults tabs.ty H tm Try.f154.results.toList fun v => some (v, H)) (fun _ _ _ => none) (fun tm H => aresults tabs.ty H tm Try.f154.results.toList fun v => some (v, H)) := by
 exact loops_none (by kernel_rfl)
theorem dA.eqX (F : Nat) (hJ : Nat → Nat → Int → Int → Sl → Int → Int → Int → Hp → OA) (hH : Nat → Nat → Int → Int → Sl → Int → Int → Int → Hp → OA) (aa : Nat) (ac : Nat) (ae : Int) (bC : Int) (cv : Int) (H : Hp) : aCode tabs (mkOrc (dA.cs F hJ hH)) dA.pn (dA.lh F hJ hH) F [] 1 dA.code (argTm [(.ptr aa ac), (.int .i64 ae), (.int .i64 bC), (.int .i64 cv)]) H (fun tm H => aresults tabs.ty H tm Try.f154.results.toList fun v => some (v, H)) (fun _ _ _ => none) (fun tm H => aresults tabs.ty H tm Try.f154.results.toList fun v => some (v, H)) = dA.twX F hJ hH aa ac ae bC cv H := by kernel_rfl
theorem dA.cs_ok (F : Nat) : ∀ p ∈ dA.cs F (bG.tw F) (bF.tw F), ∀ args H v H', p.2 args H = some (v, H') → Go.AE.T Try.prog p.1 args H v H' := by
 intro p hp
 simp only [dA.cs, List.mem_cons, List.not_mem_nil, or_false] at hp
 rcases hp with rfl | rfl
 ·exact fun args H v H' h => bG.mk_T h
 ·exact fun args H v H' h => bF.mk_T h
theorem dA.ok : codeOk dA.pn Try.f154.ntmps dA.tb dA.code = true := by kernel_rfl
theorem dA.T {F : Nat} {aa : Nat} {ac : Nat} {ae : Int} {bC : Int} {cv : Int} {H : Hp} {v : AV} {H' : Hp} (h : dA.tw F aa ac ae bC cv H = some (v, H')) : Go.AE.T Try.prog 154 [(.ptr aa ac), (.int .i64 ae), (.int .i64 bC), (.int .i64 cv)] H v H' :=
 Go.AE.T.of (Y := tabs) (C := mkOrc (dA.cs F (bG.tw F) (bF.tw F))) (PN := dA.pn) (LH := dA.lh F (bG.tw F) (bF.tw F)) (F := F) (TB := dA.tb) (fn := Try.f154) (code := dA.code) mixed tabs_ok (mkOrc_ok (dA.cs_ok F)) Try.func154 (by kernel_rfl) (by kernel_rfl) dA.ok (Nat.le_of_ble_eq_true (by kernel_rfl)) (dA.loops F (bG.tw F) (bF.tw F)) (Eq.trans (dA.eqX F (bG.tw F) (bF.tw F) aa ac ae bC cv H) h)
theorem dA.mk_T {F : Nat} {args : List AV} {H : Hp} {v : AV} {H' : Hp} (h : dA.mk (dA.tw F) args H = some (v, H')) : Go.AE.T Try.prog 154 args H v H' := by
 unfold dA.mk at h
 split at h
 ·exact dA.T h
 ·cases h
noncomputable def aJ.j3 (F : Nat) (ah : Int → Int → Sl → Int → Int → Hp → OA) (fd : Int → Int → Hp → OA) (cY : Nat → Nat → Int → Int → Int → Hp → OA) (fe : Nat → Nat → Int → Int → Int → Hp → OA) (C15_ : Nat → Nat → Int → Nat → Nat → Int → Hp → OA) (zr : Nat) (zs : Nat) (oD : Int) (qz : Nat) (zt : Nat) (oE : Int) (H119 : Hp) : OA := C15_ zr zs oD qz zt (IntKind.i64.wrap (oE + 1)) H119
noncomputable def aJ.l15 (F : Nat) (ah : Int → Int → Sl → Int → Int → Hp → OA) (fd : Int → Int → Hp → OA) (cY : Nat → Nat → Int → Int → Int → Hp → OA) (fe : Nat → Nat → Int → Int → Int → Hp → OA)  : Nat → Nat → Nat → Int → Nat → Nat → Int → Hp → OA
 | 0, _, _, _, _, _, _, _ => none
 | vl + 1, gl, gm, fq, hX, jT, hK, H61 => (Hp.ldI H61 .i64 hX (jT + 1)).bind fun n91 => (bif (decide (hK < n91)) then ((Hp.ldB H61 gl (gm + 15)).bind fun b92 => (bif (!b92) then ((Hp.ldI H61 .i64 hX jT).bind fun n93 => (Hp.ldI H61 .i64 hX (jT + 1)).bind fun n94 => (Hp.ldSl H61 hX (jT + 2)).bind fun s95 => (ah n93 n94 s95 fq hK H61).bind fun r96 => ((r96.1).asP).bind fun p97 => (if Cons H61 r96.2 then ((Hp.ldI r96.2 .i64 p97.1 p97.2).bind fun n98 => (Hp.ldI r96.2 .i64 hX jT).bind fun n99 => (Hp.ldI r96.2 .i64 hX (jT + 1)).bind fun n100 => (Hp.ldSl r96.2 hX (jT + 2)).bind fun s101 => (ah n99 n100 s101 fq fq r96.2).bind fun r102 => ((r102.1).asP).bind fun p103 => (if Cons r96.2 r102.2 then ((Hp.ldI r102.2 .i64 p103.1 p103.2).bind fun n104 => (fd n98 n104 r102.2).bind fun r105 => ((r105.1).asI .i64).bind fun n106 => (bif (n106 != 0) then ((fe gl gm hK fq (IntKind.i64.wrap (0 - n106)) r105.2).bind fun r107 => aJ.j3 F ah fd cY fe (aJ.l15 F ah fd cY fe vl) gl gm fq hX jT hK r107.2) else (aJ.j3 F ah fd cY fe (aJ.l15 F ah fd cY fe vl) gl gm fq hX jT hK r105.2))) else none)) else none)) else (some ((.tup []), H61)))) else (some ((.tup []), H61)))
termination_by structural n => n
noncomputable def aJ.j4 (F : Nat) (ah : Int → Int → Sl → Int → Int → Hp → OA) (fd : Int → Int → Hp → OA) (cY : Nat → Nat → Int → Int → Int → Hp → OA) (fe : Nat → Nat → Int → Int → Int → Hp → OA) (zu : Nat) (zv : Nat) (mL : Int) (qA : Nat) (zw : Nat) (H52 : Hp) : OA := aJ.l15 F ah fd cY fe F zu zv mL qA zw (IntKind.i64.wrap (mL + 1)) H52
noncomputable def aJ.j5 (F : Nat) (ah : Int → Int → Sl → Int → Int → Hp → OA) (fd : Int → Int → Hp → OA) (cY : Nat → Nat → Int → Int → Int → Hp → OA) (fe : Nat → Nat → Int → Int → Int → Hp → OA) (C13_ : Nat → Nat → Int → Nat → Nat → Int → Hp → OA) (zx : Nat) (zy : Nat) (oF : Int) (qB : Nat) (mK : Nat) (oG : Int) (H146 : Hp) : OA := C13_ zx zy oF qB mK (IntKind.i64.wrap (oG + 1)) H146
noncomputable def aJ.l13 (F : Nat) (ah : Int → Int → Sl → Int → Int → Hp → OA) (fd : Int → Int → Hp → OA) (cY : Nat → Nat → Int → Int → Int → Hp → OA) (fe : Nat → Nat → Int → Int → Int → Hp → OA)  : Nat → Nat → Nat → Int → Nat → Nat → Int → Hp → OA
 | 0, _, _, _, _, _, _, _ => none
 | hB + 1, cO, eG, cU, eL, ji, fI, H17 => (Hp.ldI H17 .i64 eL ji).bind fun n120 => (bif (decide (fI < n120)) then ((Hp.ldB H17 cO (eG + 15)).bind fun b121 => (bif (!b121) then ((Hp.ldI H17 .i64 eL ji).bind fun n122 => (Hp.ldI H17 .i64 eL (ji + 1)).bind fun n123 => (Hp.ldSl H17 eL (ji + 2)).bind fun s124 => (ah n122 n123 s124 fI cU H17).bind fun r125 => ((r125.1).asP).bind fun p126 => (if Cons H17 r125.2 then ((Hp.ldI r125.2 .i64 p126.1 p126.2).bind fun n127 => (Hp.ldI r125.2 .i64 eL ji).bind fun n128 => (Hp.ldI r125.2 .i64 eL (ji + 1)).bind fun n129 => (Hp.ldSl r125.2 eL (ji + 2)).bind fun s130 => (ah n128 n129 s130 cU cU r125.2).bind fun r131 => ((r131.1).asP).bind fun p132 => (if Cons r125.2 r131.2 then ((Hp.ldI r131.2 .i64 p132.1 p132.2).bind fun n133 => (fd n127 n133 r131.2).bind fun r134 => ((r134.1).asI .i64).bind fun n135 => (bif (n135 != 0) then ((cY cO eG fI cU (IntKind.i64.wrap (0 - n135)) r134.2).bind fun r136 => aJ.j5 F ah fd cY fe (aJ.l13 F ah fd cY fe hB) cO eG cU eL ji fI r136.2) else (aJ.j5 F ah fd cY fe (aJ.l13 F ah fd cY fe hB) cO eG cU eL ji fI r134.2))) else none)) else none)) else (aJ.j4 F ah fd cY fe cO eG cU eL ji H17))) else (aJ.j4 F ah fd cY fe cO eG cU eL ji H17))
termination_by structural n => n
noncomputable def aJ.twX (F : Nat) (ah : Int → Int → Sl → Int → Int → Hp → OA) (fd : Int → Int → Hp → OA) (cY : Nat → Nat → Int → Int → Int → Hp → OA) (fe : Nat → Nat → Int → Int → Int → Hp → OA) (aa : Nat) (ac : Nat) (ae : Int) (H : Hp) : OA := (Hp.ldI H .i64 aa (ac + 6)).bind fun n4 => (Hp.ldI H .i64 aa ((ac + 6) + 1)).bind fun n5 => (Hp.ldSl H aa ((ac + 6) + 2)).bind fun s6 => (Hp.new H [.int .i64 0, .int .i64 0, .sl ⟨none, 0, .ex 0⟩]).bind fun H7 => (Hp.st H7 H.length 0 (.int .i64 n4)).bind fun H8 => (Hp.st H8 H.length (0 + 1) (.int .i64 n5)).bind fun H9 => (Hp.st H9 H.length (0 + 1 + 1) (.sl s6)).bind fun H10 => aJ.l13 F ah fd cY fe F aa ac ae H.length 0 (IntKind.i64.wrap (ae + 1)) H10
noncomputable def aJ.tw (F : Nat) (aa : Nat) (ac : Nat) (ae : Int) (H : Hp) : OA := aJ.twX F (aO.tw F) (dv.tw F) (cR.tw F) (dA.tw F) aa ac ae H
noncomputable def aJ.code : Go.Code := (Try.f134.body).getD .skip
noncomputable def aJ.lh13 (F : Nat) (ah : Int → Int → Sl → Int → Int → Hp → OA) (fd : Int → Int → Hp → OA) (cY : Nat → Nat → Int → Int → Int → Hp → OA) (fe : Nat → Nat → Int → Int → Int → Hp → OA) (ks : List Nat) (n : Nat) (tm : Tm) (H : Hp) : OA := match ks, tm 0, tm 1, tm 4, tm 5 with
 | [], (.ptr cO eG), (.int .i64 cU), (.ptr eL ji), (.int .i64 fI) => aJ.l13 F ah fd cY fe n cO eG cU eL ji fI H
 | _, _, _, _, _ => none
theorem aJ.lh13_inv {F : Nat} {ah : Int → Int → Sl → Int → Int → Hp → OA} {fd : Int → Int → Hp → OA} {cY : Nat → Nat → Int → Int → Int → Hp → OA} {fe : Nat → Nat → Int → Int → Int → Hp → OA} {ks : List Nat} {n : Nat} {tm : Tm} {H : Hp} {r : AV × Hp} (h : aJ.lh13 F ah fd cY fe ks n tm H = some r) : ∃ cO : Nat, ∃ eG : Nat, ∃ cU : Int, ∃ eL : Nat, ∃ ji : Nat, ∃ fI : Int, ks = [] ∧ tm 0 = (.ptr cO eG) ∧ tm 1 = (.int .i64 cU) ∧ tm 4 = (.ptr eL ji) ∧ tm 5 = (.int .i64 fI) ∧ aJ.l13 F ah fd cY fe n cO eG cU eL ji fI H = some r := by
 unfold aJ.lh13 at h
 split at h
 ·exact ⟨_, _, _, _, _, _, rfl, by assumption, by assumption, by assumption, by assumption, h⟩
 ·cases h
noncomputable def aJ.lh15 (F : Nat) (ah : Int → Int → Sl → Int → Int → Hp → OA) (fd : Int → Int → Hp → OA) (cY : Nat → Nat → Int → Int → Int → Hp → OA) (fe : Nat → Nat → Int → Int → Int → Hp → OA) (ks : List Nat) (n : Nat) (tm : Tm) (H : Hp) : OA := match ks, tm 0, tm 1, tm 4, tm 7 with
 | [], (.ptr gl gm), (.int .i64 fq), (.ptr hX jT), (.int .i64 hK) => aJ.l15 F ah fd cY fe n gl gm fq hX jT hK H
 | _, _, _, _, _ => none
theorem aJ.lh15_inv {F : Nat} {ah : Int → Int → Sl → Int → Int → Hp → OA} {fd : Int → Int → Hp → OA} {cY : Nat → Nat → Int → Int → Int → Hp → OA} {fe : Nat → Nat → Int → Int → Int → Hp → OA} {ks : List Nat} {n : Nat} {tm : Tm} {H : Hp} {r : AV × Hp} (h : aJ.lh15 F ah fd cY fe ks n tm H = some r) : ∃ gl : Nat, ∃ gm : Nat, ∃ fq : Int, ∃ hX : Nat, ∃ jT : Nat, ∃ hK : Int, ks = [] ∧ tm 0 = (.ptr gl gm) ∧ tm 1 = (.int .i64 fq) ∧ tm 4 = (.ptr hX jT) ∧ tm 7 = (.int .i64 hK) ∧ aJ.l15 F ah fd cY fe n gl gm fq hX jT hK H = some r := by
 unfold aJ.lh15 at h
 split at h
 ·exact ⟨_, _, _, _, _, _, rfl, by assumption, by assumption, by assumption, by assumption, h⟩
 ·cases h
noncomputable def aJ.lh (F : Nat) (ah : Int → Int → Sl → Int → Int → Hp → OA) (fd : Int → Int → Hp → OA) (cY : Nat → Nat → Int → Int → Int → Hp → OA) (fe : Nat → Nat → Int → Int → Int → Hp → OA) (p : Nat) (ks : List Nat) (n : Nat) (tm : Tm) (H : Hp) : OA := bif p.beq 15 then aJ.lh15 F ah fd cY fe ks n tm H else (bif p.beq 13 then aJ.lh13 F ah fd cY fe ks n tm H else (none))
def aJ.pn : Nat → List Nat := fun i => (([(4, [12]), (10, [12])] : List (Nat × List Nat)).lookup i).getD []
def aJ.tb : Nat → List (List Nat) := fun i => (([(4, [[], [], [], [0, 1, 2], [0, 1, 2, 3], [0, 1, 2, 3, 4], [], [], [], [0, 1, 2, 3, 6, 7, 8], [0, 1, 2, 3, 6, 7, 8, 9], [0, 1, 2, 3, 6, 7, 8, 9, 10], [0, 1, 2, 3, 4, 5, 6, 7, 8, 9, 10, 11], [0, 1, 2, 3, 4, 5, 6, 7, 8, 9, 10, 11, 12]]), (10, [[], [], [], [0, 1, 2], [0, 1, 2, 3], [0, 1, 2, 3, 4], [], [], [], [0, 1, 2, 3, 6, 7, 8], [0, 1, 2, 3, 6, 7, 8, 9], [0, 1, 2, 3, 6, 7, 8, 9, 10], [0, 1, 2, 3, 4, 5, 6, 7, 8, 9, 10, 11], [0, 1, 2, 3, 4, 5, 6, 7, 8, 9, 10, 11, 12]])] : List (Nat × List (List Nat))).lookup i).getD []
noncomputable def aJ.mk (g : Nat → Nat → Int → Hp → OA) (args : List AV) (H : Hp) : OA := match args with
 | [(.ptr aa ac), (.int .i64 ae)] => g aa ac ae H
 | _ => none
noncomputable def aJ.cs (F : Nat) (ah : Int → Int → Sl → Int → Int → Hp → OA) (fd : Int → Int → Hp → OA) (cY : Nat → Nat → Int → Int → Int → Hp → OA) (fe : Nat → Nat → Int → Int → Int → Hp → OA) : List (FuncId × (List AV → Hp → OA)) := [(95, aO.mk ah), (153, dv.mk fd), (137, cR.mk cY), (154, dA.mk fe)]
theorem aJ.loops (F : Nat) (ah : Int → Int → Sl → Int → Int → Hp → OA) (fd : Int → Int → Hp → OA) (cY : Nat → Nat → Int → Int → Int → Hp → OA) (fe : Nat → Nat → Int → Int → Int → Hp → OA) : LoopsOk tabs (mkOrc (aJ.cs F ah fd cY fe)) aJ.pn (aJ.lh F ah fd cY fe) F [] 1 aJ.code (fun tm H => aresults tabs.ty H tm Try.f134.results.toList fun v => some (v, H)) (fun _ _ _ => none) (fun tm H => aresults tabs.ty H tm Try.f134.results.toList fun v => some (v, H)) := by
 refine LoopsOk.seq ?_ ?_
 ·exact loops_none (by kernel_rfl)
 ·refine LoopsOk.seq ?_ ?_
  ·refine LoopsOk.seq ?_ ?_
   ·exact loops_none (by kernel_rfl)
   ·refine LoopsOk.block ?_
    refine LoopsOk.loop (fun tm H => ?_) (fun k13 tm H r h0 => ?_) (fun k13 => ?_)
    ·refine none_of fun r h0 => ?_
     obtain ⟨cO, eG, cU, eL, ji, fI, hks, e0, e1, e4, e5, h⟩ := aJ.lh13_inv (show aJ.lh13 F ah fd cY fe [] 0 tm H = some r from h0)
     cases h
    ·obtain ⟨cO, eG, cU, eL, ji, fI, hks, e0, e1, e4, e5, h⟩ := aJ.lh13_inv (show aJ.lh13 F ah fd cY fe [] (k13 + 1) tm H = some r from h0)
     have q0 : (Tm.put tm 0 (.ptr cO eG)) = tm := by exact Tm.put_same e0
     have q1 : (Tm.put (Tm.put tm 0 (.ptr cO eG)) 1 (.int .i64 cU)) = tm := by rw [q0]; exact Tm.put_same e1
     have q2 : (Tm.put (Tm.put (Tm.put tm 0 (.ptr cO eG)) 1 (.int .i64 cU)) 4 (.ptr eL ji)) = tm := by rw [q1]; exact Tm.put_same e4
     have q3 : (Tm.put (Tm.put (Tm.put (Tm.put tm 0 (.ptr cO eG)) 1 (.int .i64 cU)) 4 (.ptr eL ji)) 5 (.int .i64 fI)) = tm := by rw [q2]; exact Tm.put_same e5
     rw [← q3]
     exact Eq.trans (by kernel_rfl) h
    ·exact loops_none (by kernel_rfl)
  ·refine LoopsOk.seq ?_ ?_
   ·exact loops_none (by kernel_rfl)
   ·refine LoopsOk.block ?_
    refine LoopsOk.loop (fun tm H => ?_) (fun k15 tm H r h0 => ?_) (fun k15 => ?_)
    ·refine none_of fun r h0 => ?_
     obtain ⟨gl, gm, fq, hX, jT, hK, hks, e0, e1, e4, e7, h⟩ := aJ.lh15_inv (show aJ.lh15 F ah fd cY fe [] 0 tm H = some r from h0)
     cases h
    ·obtain ⟨gl, gm, fq, hX, jT, hK, hks, e0, e1, e4, e7, h⟩ := aJ.lh15_inv (show aJ.lh15 F ah fd cY fe [] (k15 + 1) tm H = some r from h0)
     have q0 : (Tm.put tm 0 (.ptr gl gm)) = tm := by exact Tm.put_same e0
     have q1 : (Tm.put (Tm.put tm 0 (.ptr gl gm)) 1 (.int .i64 fq)) = tm := by rw [q0]; exact Tm.put_same e1
     have q2 : (Tm.put (Tm.put (Tm.put tm 0 (.ptr gl gm)) 1 (.int .i64 fq)) 4 (.ptr hX jT)) = tm := by rw [q1]; exact Tm.put_same e4
     have q3 : (Tm.put (Tm.put (Tm.put (Tm.put tm 0 (.ptr gl gm)) 1 (.int .i64 fq)) 4 (.ptr hX jT)) 7 (.int .i64 hK)) = tm := by rw [q2]; exact Tm.put_same e7
     rw [← q3]
     exact Eq.trans (by kernel_rfl) h
    ·exact loops_none (by kernel_rfl)
theorem aJ.eqX (F : Nat) (ah : Int → Int → Sl → Int → Int → Hp → OA) (fd : Int → Int → Hp → OA) (cY : Nat → Nat → Int → Int → Int → Hp → OA) (fe : Nat → Nat → Int → Int → Int → Hp → OA) (aa : Nat) (ac : Nat) (ae : Int) (H : Hp) : aCode tabs (mkOrc (aJ.cs F ah fd cY fe)) aJ.pn (aJ.lh F ah fd cY fe) F [] 1 aJ.code (argTm [(.ptr aa ac), (.int .i64 ae)]) H (fun tm H => aresults tabs.ty H tm Try.f134.results.toList fun v => some (v, H)) (fun _ _ _ => none) (fun tm H => aresults tabs.ty H tm Try.f134.results.toList fun v => some (v, H)) = aJ.twX F ah fd cY fe aa ac ae H := by kernel_rfl
theorem aJ.cs_ok (F : Nat) : ∀ p ∈ aJ.cs F (aO.tw F) (dv.tw F) (cR.tw F) (dA.tw F), ∀ args H v H', p.2 args H = some (v, H') → Go.AE.T Try.prog p.1 args H v H' := by
 intro p hp
 simp only [aJ.cs, List.mem_cons, List.not_mem_nil, or_false] at hp
 rcases hp with rfl | rfl | rfl | rfl
 ·exact fun args H v H' h => aO.mk_T h
 ·exact fun args H v H' h => dv.mk_T h
 ·exact fun args H v H' h => cR.mk_T h
 ·exact fun args H v H' h => dA.mk_T h
theorem aJ.ok : codeOk aJ.pn Try.f134.ntmps aJ.tb aJ.code = true := by kernel_rfl
theorem aJ.T {F : Nat} {aa : Nat} {ac : Nat} {ae : Int} {H : Hp} {v : AV} {H' : Hp} (h : aJ.tw F aa ac ae H = some (v, H')) : Go.AE.T Try.prog 134 [(.ptr aa ac), (.int .i64 ae)] H v H' :=
 Go.AE.T.of (Y := tabs) (C := mkOrc (aJ.cs F (aO.tw F) (dv.tw F) (cR.tw F) (dA.tw F))) (PN := aJ.pn) (LH := aJ.lh F (aO.tw F) (dv.tw F) (cR.tw F) (dA.tw F)) (F := F) (TB := aJ.tb) (fn := Try.f134) (code := aJ.code) mixed tabs_ok (mkOrc_ok (aJ.cs_ok F)) Try.func134 (by kernel_rfl) (by kernel_rfl) aJ.ok (Nat.le_of_ble_eq_true (by kernel_rfl)) (aJ.loops F (aO.tw F) (dv.tw F) (cR.tw F) (dA.tw F)) (Eq.trans (aJ.eqX F (aO.tw F) (dv.tw F) (cR.tw F) (dA.tw F) aa ac ae H) h)
theorem aJ.mk_T {F : Nat} {args : List AV} {H : Hp} {v : AV} {H' : Hp} (h : aJ.mk (aJ.tw F) args H = some (v, H')) : Go.AE.T Try.prog 134 args H v H' := by
 unfold aJ.mk at h
 split at h
 ·exact aJ.T h
 ·cases h
noncomputable def dW.twX (F : Nat) (aa : Int) (H : Hp) : OA := some ((.bool (aa != 0)), H)
noncomputable def dW.tw (F : Nat) (aa : Int) (H : Hp) : OA := dW.twX F aa H
noncomputable def dW.code : Go.Code := (Try.f155.body).getD .skip
noncomputable def dW.lh (F : Nat) (p : Nat) (ks : List Nat) (n : Nat) (tm : Tm) (H : Hp) : OA := none
def dW.pn : Nat → List Nat := fun i => (([] : List (Nat × List Nat)).lookup i).getD []
def dW.tb : Nat → List (List Nat) := fun i => (([] : List (Nat × List (List Nat))).lookup i).getD []
noncomputable def dW.mk (g : Int → Hp → OA) (args : List AV) (H : Hp) : OA := match args with
 | [(.int .i64 aa)] => g aa H
 | _ => none
noncomputable def dW.cs (F : Nat) : List (FuncId × (List AV → Hp → OA)) := []
theorem dW.loops (F : Nat) : LoopsOk tabs (mkOrc (dW.cs F)) dW.pn (dW.lh F) F [] 1 dW.code (fun tm H => aresults tabs.ty H tm Try.f155.results.toList fun v => some (v, H)) (fun _ _ _ => none) (fun tm H => aresults tabs.ty H tm Try.f155.results.toList fun v => some (v, H)) := by
 exact loops_none (by kernel_rfl)
theorem dW.eqX (F : Nat) (aa : Int) (H : Hp) : aCode tabs (mkOrc (dW.cs F)) dW.pn (dW.lh F) F [] 1 dW.code (argTm [(.int .i64 aa)]) H (fun tm H => aresults tabs.ty H tm Try.f155.results.toList fun v => some (v, H)) (fun _ _ _ => none) (fun tm H => aresults tabs.ty H tm Try.f155.results.toList fun v => some (v, H)) = dW.twX F aa H := by kernel_rfl
theorem dW.cs_ok (F : Nat) : ∀ p ∈ dW.cs F, ∀ args H v H', p.2 args H = some (v, H') → Go.AE.T Try.prog p.1 args H v H' := by
 intro p hp
 exact absurd (show p ∈ [] from hp) List.not_mem_nil
theorem dW.ok : codeOk dW.pn Try.f155.ntmps dW.tb dW.code = true := by kernel_rfl
theorem dW.T {F : Nat} {aa : Int} {H : Hp} {v : AV} {H' : Hp} (h : dW.tw F aa H = some (v, H')) : Go.AE.T Try.prog 155 [(.int .i64 aa)] H v H' :=
 Go.AE.T.of (Y := tabs) (C := mkOrc (dW.cs F)) (PN := dW.pn) (LH := dW.lh F) (F := F) (TB := dW.tb) (fn := Try.f155) (code := dW.code) mixed tabs_ok (mkOrc_ok (dW.cs_ok F)) Try.func155 (by kernel_rfl) (by kernel_rfl) dW.ok (Nat.le_of_ble_eq_true (by kernel_rfl)) (dW.loops F) (Eq.trans (dW.eqX F aa H) h)
theorem dW.mk_T {F : Nat} {args : List AV} {H : Hp} {v : AV} {H' : Hp} (h : dW.mk (dW.tw F) args H = some (v, H')) : Go.AE.T Try.prog 155 args H v H' := by
 unfold dW.mk at h
 split at h
 ·exact dW.T h
 ·cases h
noncomputable def cz.l13 (F : Nat) (iJ : Int → Hp → OA)  : Nat → Sl → Int → Int → Hp → OA
 | 0, _, _, _, _ => none
 | hB + 1, gB, fN, e_, H6 => (bif (decide (e_ < fN)) then ((Sl.idx gB e_ 1).bind fun p11 => (Hp.ldI H6 .i64 p11.1 p11.2).bind fun n12 => (iJ n12 H6).bind fun r13 => ((r13.1).asB).bind fun b14 => (bif b14 then (some ((.int .i64 e_), r13.2)) else (cz.l13 F iJ hB gB fN (IntKind.i64.wrap (e_ + 1)) r13.2))) else (some ((.int .i64 (-1)), H6)))
termination_by structural n => n
noncomputable def cz.twX (F : Nat) (iJ : Int → Hp → OA) (aa : Sl) (H : Hp) : OA := cz.l13 F iJ F aa (aa.n : Int) 0 H
noncomputable def cz.tw (F : Nat) (aa : Sl) (H : Hp) : OA := cz.twX F (dW.tw F) aa H
noncomputable def cz.code : Go.Code := (Try.f117.body).getD .skip
noncomputable def cz.lh13 (F : Nat) (iJ : Int → Hp → OA) (ks : List Nat) (n : Nat) (tm : Tm) (H : Hp) : OA := match ks, tm 0, tm 1, tm 7, tm 8 with
 | [], (.sl gB), (.fn 155 []), (.int .i64 fN), (.int .i64 e_) => cz.l13 F iJ n gB fN e_ H
 | _, _, _, _, _ => none
theorem cz.lh13_inv {F : Nat} {iJ : Int → Hp → OA} {ks : List Nat} {n : Nat} {tm : Tm} {H : Hp} {r : AV × Hp} (h : cz.lh13 F iJ ks n tm H = some r) : ∃ gB : Sl, ∃ fN : Int, ∃ e_ : Int, ks = [] ∧ tm 0 = (.sl gB) ∧ tm 1 = (.fn 155 []) ∧ tm 7 = (.int .i64 fN) ∧ tm 8 = (.int .i64 e_) ∧ cz.l13 F iJ n gB fN e_ H = some r := by
 unfold cz.lh13 at h
 split at h
 ·exact ⟨_, _, _, rfl, by assumption, by assumption, by assumption, by assumption, h⟩
 ·cases h
noncomputable def cz.lh (F : Nat) (iJ : Int → Hp → OA) (p : Nat) (ks : List Nat) (n : Nat) (tm : Tm) (H : Hp) : OA := bif p.beq 13 then cz.lh13 F iJ ks n tm H else (none)
def cz.pn : Nat → List Nat := fun i => (([] : List (Nat × List Nat)).lookup i).getD []
def cz.tb : Nat → List (List Nat) := fun i => (([] : List (Nat × List (List Nat))).lookup i).getD []
noncomputable def cz.mk (g : Sl → Hp → OA) (args : List AV) (H : Hp) : OA := match args with
 | [(.sl aa), (.fn 155 [])] => g aa H
 | _ => none
noncomputable def cz.cs (F : Nat) (iJ : Int → Hp → OA) : List (FuncId × (List AV → Hp → OA)) := [(155, dW.mk iJ)]
theorem cz.loops (F : Nat) (iJ : Int → Hp → OA) : LoopsOk tabs (mkOrc (cz.cs F iJ)) cz.pn (cz.lh F iJ) F [] 1 cz.code (fun tm H => aresults tabs.ty H tm Try.f117.results.toList fun v => some (v, H)) (fun _ _ _ => none) (fun tm H => aresults tabs.ty H tm Try.f117.results.toList fun v => some (v, H)) := by
 refine LoopsOk.seq ?_ ?_
 ·exact loops_none (by kernel_rfl)
 ·refine LoopsOk.seq ?_ ?_
  ·refine LoopsOk.seq ?_ ?_
   ·exact loops_none (by kernel_rfl)
   ·refine LoopsOk.block ?_
    refine LoopsOk.loop (fun tm H => ?_) (fun k13 tm H r h0 => ?_) (fun k13 => ?_)
    ·refine none_of fun r h0 => ?_
     obtain ⟨gB, fN, e_, hks, e0, e1, e7, e8, h⟩ := cz.lh13_inv (show cz.lh13 F iJ [] 0 tm H = some r from h0)
     cases h
    ·obtain ⟨gB, fN, e_, hks, e0, e1, e7, e8, h⟩ := cz.lh13_inv (show cz.lh13 F iJ [] (k13 + 1) tm H = some r from h0)
     have q0 : (Tm.put tm 0 (.sl gB)) = tm := by exact Tm.put_same e0
     have q1 : (Tm.put (Tm.put tm 0 (.sl gB)) 1 (.fn 155 [])) = tm := by rw [q0]; exact Tm.put_same e1
     have q2 : (Tm.put (Tm.put (Tm.put tm 0 (.sl gB)) 1 (.fn 155 [])) 7 (.int .i64 fN)) = tm := by rw [q1]; exact Tm.put_same e7
     have q3 : (Tm.put (Tm.put (Tm.put (Tm.put tm 0 (.sl gB)) 1 (.fn 155 [])) 7 (.int .i64 fN)) 8 (.int .i64 e_)) = tm := by rw [q2]; exact Tm.put_same e8
     rw [← q3]
     exact Eq.trans (by kernel_rfl) h
    ·exact loops_none (by kernel_rfl)
  ·exact loops_none (by kernel_rfl)
theorem cz.eqX (F : Nat) (iJ : Int → Hp → OA) (aa : Sl) (H : Hp) : aCode tabs (mkOrc (cz.cs F iJ)) cz.pn (cz.lh F iJ) F [] 1 cz.code (argTm [(.sl aa), (.fn 155 [])]) H (fun tm H => aresults tabs.ty H tm Try.f117.results.toList fun v => some (v, H)) (fun _ _ _ => none) (fun tm H => aresults tabs.ty H tm Try.f117.results.toList fun v => some (v, H)) = cz.twX F iJ aa H := by kernel_rfl
theorem cz.cs_ok (F : Nat) : ∀ p ∈ cz.cs F (dW.tw F), ∀ args H v H', p.2 args H = some (v, H') → Go.AE.T Try.prog p.1 args H v H' := by
 intro p hp
 simp only [cz.cs, List.mem_cons, List.not_mem_nil, or_false] at hp
 subst hp
 exact fun args H v H' h => dW.mk_T h
theorem cz.ok : codeOk cz.pn Try.f117.ntmps cz.tb cz.code = true := by kernel_rfl
theorem cz.T {F : Nat} {aa : Sl} {H : Hp} {v : AV} {H' : Hp} (h : cz.tw F aa H = some (v, H')) : Go.AE.T Try.prog 117 [(.sl aa), (.fn 155 [])] H v H' :=
 Go.AE.T.of (Y := tabs) (C := mkOrc (cz.cs F (dW.tw F))) (PN := cz.pn) (LH := cz.lh F (dW.tw F)) (F := F) (TB := cz.tb) (fn := Try.f117) (code := cz.code) mixed tabs_ok (mkOrc_ok (cz.cs_ok F)) Try.func117 (by kernel_rfl) (by kernel_rfl) cz.ok (Nat.le_of_ble_eq_true (by kernel_rfl)) (cz.loops F (dW.tw F)) (Eq.trans (cz.eqX F (dW.tw F) aa H) h)
theorem cz.mk_T {F : Nat} {args : List AV} {H : Hp} {v : AV} {H' : Hp} (h : cz.mk (cz.tw F) args H = some (v, H')) : Go.AE.T Try.prog 117 args H v H' := by
 unfold cz.mk at h
 split at h
 ·exact cz.T h
 ·cases h
noncomputable def dG.twX (F : Nat) (ll : Sl → Hp → OA) (aa : Sl) (H : Hp) : OA := (ll aa H).bind fun r2 => ((r2.1).asI .i64).bind fun n3 => some ((.bool (decide (n3 ≥ 0))), r2.2)
noncomputable def dG.tw (F : Nat) (aa : Sl) (H : Hp) : OA := dG.twX F (cz.tw F) aa H
noncomputable def dG.code : Go.Code := (Try.f81.body).getD .skip
noncomputable def dG.lh (F : Nat) (ll : Sl → Hp → OA) (p : Nat) (ks : List Nat) (n : Nat) (tm : Tm) (H : Hp) : OA := none
def dG.pn : Nat → List Nat := fun i => (([] : List (Nat × List Nat)).lookup i).getD []
def dG.tb : Nat → List (List Nat) := fun i => (([] : List (Nat × List (List Nat))).lookup i).getD []
noncomputable def dG.mk (g : Sl → Hp → OA) (args : List AV) (H : Hp) : OA := match args with
 | [(.sl aa), (.fn 155 [])] => g aa H
 | _ => none
noncomputable def dG.cs (F : Nat) (ll : Sl → Hp → OA) : List (FuncId × (List AV → Hp → OA)) := [(117, cz.mk ll)]
theorem dG.loops (F : Nat) (ll : Sl → Hp → OA) : LoopsOk tabs (mkOrc (dG.cs F ll)) dG.pn (dG.lh F ll) F [] 1 dG.code (fun tm H => aresults tabs.ty H tm Try.f81.results.toList fun v => some (v, H)) (fun _ _ _ => none) (fun tm H => aresults tabs.ty H tm Try.f81.results.toList fun v => some (v, H)) := by
 exact loops_none (by kernel_rfl)
theorem dG.eqX (F : Nat) (ll : Sl → Hp → OA) (aa : Sl) (H : Hp) : aCode tabs (mkOrc (dG.cs F ll)) dG.pn (dG.lh F ll) F [] 1 dG.code (argTm [(.sl aa), (.fn 155 [])]) H (fun tm H => aresults tabs.ty H tm Try.f81.results.toList fun v => some (v, H)) (fun _ _ _ => none) (fun tm H => aresults tabs.ty H tm Try.f81.results.toList fun v => some (v, H)) = dG.twX F ll aa H := by kernel_rfl
theorem dG.cs_ok (F : Nat) : ∀ p ∈ dG.cs F (cz.tw F), ∀ args H v H', p.2 args H = some (v, H') → Go.AE.T Try.prog p.1 args H v H' := by
 intro p hp
 simp only [dG.cs, List.mem_cons, List.not_mem_nil, or_false] at hp
 subst hp
 exact fun args H v H' h => cz.mk_T h
theorem dG.ok : codeOk dG.pn Try.f81.ntmps dG.tb dG.code = true := by kernel_rfl
theorem dG.T {F : Nat} {aa : Sl} {H : Hp} {v : AV} {H' : Hp} (h : dG.tw F aa H = some (v, H')) : Go.AE.T Try.prog 81 [(.sl aa), (.fn 155 [])] H v H' :=
 Go.AE.T.of (Y := tabs) (C := mkOrc (dG.cs F (cz.tw F))) (PN := dG.pn) (LH := dG.lh F (cz.tw F)) (F := F) (TB := dG.tb) (fn := Try.f81) (code := dG.code) mixed tabs_ok (mkOrc_ok (dG.cs_ok F)) Try.func81 (by kernel_rfl) (by kernel_rfl) dG.ok (Nat.le_of_ble_eq_true (by kernel_rfl)) (dG.loops F (cz.tw F)) (Eq.trans (dG.eqX F (cz.tw F) aa H) h)
theorem dG.mk_T {F : Nat} {args : List AV} {H : Hp} {v : AV} {H' : Hp} (h : dG.mk (dG.tw F) args H = some (v, H')) : Go.AE.T Try.prog 81 args H v H' := by
 unfold dG.mk at h
 split at h
 ·exact dG.T h
 ·cases h
noncomputable def bB.j1 (F : Nat) (ah : Int → Int → Sl → Int → Int → Hp → OA) (bO : Int → Int → Sl → Int → Hp → OA) (hL : Sl → Hp → OA) (mM : Int) (oH : Nat) (tB : Nat) (H34 : Hp) : OA := (Hp.ldI H34 .i64 oH tB).bind fun n35 => (Hp.ldI H34 .i64 oH (tB + 1)).bind fun n36 => (Hp.ldSl H34 oH (tB + 2)).bind fun s37 => (bO n35 n36 s37 mM H34).bind fun r38 => ((r38.1).asSl).bind fun s39 => (Sl.cut s39 1 (IntKind.i64.wrap (mM + 1)) (s39.n : Int)).bind fun s40 => (hL s40 r38.2).bind fun r41 => ((r41.1).asB).bind fun b42 => some ((.bool (!b42)), r41.2)
noncomputable def bB.l29 (F : Nat) (ah : Int → Int → Sl → Int → Int → Hp → OA) (bO : Int → Int → Sl → Int → Hp → OA) (hL : Sl → Hp → OA)  : Nat → Int → Nat → Nat → Int → Hp → OA
 | 0, _, _, _, _, _ => none
 | eN + 1, cU, fp, fI, jj, H18 => (Hp.ldI H18 .i64 fp fI).bind fun n43 => (bif (decide (jj < n43)) then ((Hp.ldI H18 .i64 fp fI).bind fun n44 => (Hp.ldI H18 .i64 fp (fI + 1)).bind fun n45 => (Hp.ldSl H18 fp (fI + 2)).bind fun s46 => (ah n44 n45 s46 jj cU H18).bind fun r47 => ((r47.1).asP).bind fun p48 => (Hp.ldI r47.2 .i64 p48.1 p48.2).bind fun n49 => (bif (n49 != 0) then (some ((.bool false), r47.2)) else (bB.l29 F ah bO hL eN cU fp fI (IntKind.i64.wrap (jj + 1)) r47.2))) else (bB.j1 F ah bO hL cU fp fI H18))
termination_by structural n => n
noncomputable def bB.twX (F : Nat) (ah : Int → Int → Sl → Int → Int → Hp → OA) (bO : Int → Int → Sl → Int → Hp → OA) (hL : Sl → Hp → OA) (aa : Nat) (ac : Nat) (ae : Int) (H : Hp) : OA := (Hp.ldI H .i64 aa (ac + 6)).bind fun n4 => (Hp.ldI H .i64 aa ((ac + 6) + 1)).bind fun n5 => (Hp.ldSl H aa ((ac + 6) + 2)).bind fun s6 => (Hp.new H [.int .i64 0, .int .i64 0, .sl ⟨none, 0, .ex 0⟩]).bind fun H7 => (Hp.st H7 H.length 0 (.int .i64 n4)).bind fun H8 => (Hp.st H8 H.length (0 + 1) (.int .i64 n5)).bind fun H9 => (Hp.st H9 H.length (0 + 1 + 1) (.sl s6)).bind fun H10 => bB.l29 F ah bO hL F ae H.length 0 (IntKind.i64.wrap (ae + 1)) H10
noncomputable def bB.tw (F : Nat) (aa : Nat) (ac : Nat) (ae : Int) (H : Hp) : OA := bB.twX F (aO.tw F) (cy.tw F) (dG.tw F) aa ac ae H
noncomputable def bB.code : Go.Code := (Try.f135.body).getD .skip
noncomputable def bB.lh29 (F : Nat) (ah : Int → Int → Sl → Int → Int → Hp → OA) (bO : Int → Int → Sl → Int → Hp → OA) (hL : Sl → Hp → OA) (ks : List Nat) (n : Nat) (tm : Tm) (H : Hp) : OA := match ks, tm 1, tm 5, tm 6 with
 | [], (.int .i64 cU), (.ptr fp fI), (.int .i64 jj) => bB.l29 F ah bO hL n cU fp fI jj H
 | _, _, _, _ => none
theorem bB.lh29_inv {F : Nat} {ah : Int → Int → Sl → Int → Int → Hp → OA} {bO : Int → Int → Sl → Int → Hp → OA} {hL : Sl → Hp → OA} {ks : List Nat} {n : Nat} {tm : Tm} {H : Hp} {r : AV × Hp} (h : bB.lh29 F ah bO hL ks n tm H = some r) : ∃ cU : Int, ∃ fp : Nat, ∃ fI : Nat, ∃ jj : Int, ks = [] ∧ tm 1 = (.int .i64 cU) ∧ tm 5 = (.ptr fp fI) ∧ tm 6 = (.int .i64 jj) ∧ bB.l29 F ah bO hL n cU fp fI jj H = some r := by
 unfold bB.lh29 at h
 split at h
 ·exact ⟨_, _, _, _, rfl, by assumption, by assumption, by assumption, h⟩
 ·cases h
noncomputable def bB.lh (F : Nat) (ah : Int → Int → Sl → Int → Int → Hp → OA) (bO : Int → Int → Sl → Int → Hp → OA) (hL : Sl → Hp → OA) (p : Nat) (ks : List Nat) (n : Nat) (tm : Tm) (H : Hp) : OA := bif p.beq 29 then bB.lh29 F ah bO hL ks n tm H else (none)
def bB.pn : Nat → List Nat := fun i => (([] : List (Nat × List Nat)).lookup i).getD []
def bB.tb : Nat → List (List Nat) := fun i => (([] : List (Nat × List (List Nat))).lookup i).getD []
noncomputable def bB.mk (g : Nat → Nat → Int → Hp → OA) (args : List AV) (H : Hp) : OA := match args with
 | [(.ptr aa ac), (.int .i64 ae)] => g aa ac ae H
 | _ => none
noncomputable def bB.cs (F : Nat) (ah : Int → Int → Sl → Int → Int → Hp → OA) (bO : Int → Int → Sl → Int → Hp → OA) (hL : Sl → Hp → OA) : List (FuncId × (List AV → Hp → OA)) := [(95, aO.mk ah), (120, cy.mk bO), (81, dG.mk hL)]
theorem bB.loops (F : Nat) (ah : Int → Int → Sl → Int → Int → Hp → OA) (bO : Int → Int → Sl → Int → Hp → OA) (hL : Sl → Hp → OA) : LoopsOk tabs (mkOrc (bB.cs F ah bO hL)) bB.pn (bB.lh F ah bO hL) F [] 1 bB.code (fun tm H => aresults tabs.ty H tm Try.f135.results.toList fun v => some (v, H)) (fun _ _ _ => none) (fun tm H => aresults tabs.ty H tm Try.f135.results.toList fun v => some (v, H)) := by
 refine LoopsOk.seq ?_ ?_
 ·exact loops_none (by kernel_rfl)
 ·refine LoopsOk.seq ?_ ?_
  ·exact loops_none (by kernel_rfl)
  ·refine LoopsOk.seq ?_ ?_
   ·refine LoopsOk.seq ?_ ?_
    ·exact loops_none (by kernel_rfl)
    ·refine LoopsOk.block ?_
     refine LoopsOk.loop (fun tm H => ?_) (fun k29 tm H r h0 => ?_) (fun k29 => ?_)
     ·refine none_of fun r h0 => ?_
      obtain ⟨cU, fp, fI, jj, hks, e1, e5, e6, h⟩ := bB.lh29_inv (show bB.lh29 F ah bO hL [] 0 tm H = some r from h0)
      cases h
     ·obtain ⟨cU, fp, fI, jj, hks, e1, e5, e6, h⟩ := bB.lh29_inv (show bB.lh29 F ah bO hL [] (k29 + 1) tm H = some r from h0)
      have q0 : (Tm.put tm 1 (.int .i64 cU)) = tm := by exact Tm.put_same e1
      have q1 : (Tm.put (Tm.put tm 1 (.int .i64 cU)) 5 (.ptr fp fI)) = tm := by rw [q0]; exact Tm.put_same e5
      have q2 : (Tm.put (Tm.put (Tm.put tm 1 (.int .i64 cU)) 5 (.ptr fp fI)) 6 (.int .i64 jj)) = tm := by rw [q1]; exact Tm.put_same e6
      rw [← q2]
      exact Eq.trans (by kernel_rfl) h
     ·exact loops_none (by kernel_rfl)
   ·exact loops_none (by kernel_rfl)
theorem bB.eqX (F : Nat) (ah : Int → Int → Sl → Int → Int → Hp → OA) (bO : Int → Int → Sl → Int → Hp → OA) (hL : Sl → Hp → OA) (aa : Nat) (ac : Nat) (ae : Int) (H : Hp) : aCode tabs (mkOrc (bB.cs F ah bO hL)) bB.pn (bB.lh F ah bO hL) F [] 1 bB.code (argTm [(.ptr aa ac), (.int .i64 ae)]) H (fun tm H => aresults tabs.ty H tm Try.f135.results.toList fun v => some (v, H)) (fun _ _ _ => none) (fun tm H => aresults tabs.ty H tm Try.f135.results.toList fun v => some (v, H)) = bB.twX F ah bO hL aa ac ae H := by kernel_rfl
theorem bB.cs_ok (F : Nat) : ∀ p ∈ bB.cs F (aO.tw F) (cy.tw F) (dG.tw F), ∀ args H v H', p.2 args H = some (v, H') → Go.AE.T Try.prog p.1 args H v H' := by
 intro p hp
 simp only [bB.cs, List.mem_cons, List.not_mem_nil, or_false] at hp
 rcases hp with rfl | rfl | rfl
 ·exact fun args H v H' h => aO.mk_T h
 ·exact fun args H v H' h => cy.mk_T h
 ·exact fun args H v H' h => dG.mk_T h
theorem bB.ok : codeOk bB.pn Try.f135.ntmps bB.tb bB.code = true := by kernel_rfl
theorem bB.T {F : Nat} {aa : Nat} {ac : Nat} {ae : Int} {H : Hp} {v : AV} {H' : Hp} (h : bB.tw F aa ac ae H = some (v, H')) : Go.AE.T Try.prog 135 [(.ptr aa ac), (.int .i64 ae)] H v H' :=
 Go.AE.T.of (Y := tabs) (C := mkOrc (bB.cs F (aO.tw F) (cy.tw F) (dG.tw F))) (PN := bB.pn) (LH := bB.lh F (aO.tw F) (cy.tw F) (dG.tw F)) (F := F) (TB := bB.tb) (fn := Try.f135) (code := bB.code) mixed tabs_ok (mkOrc_ok (bB.cs_ok F)) Try.func135 (by kernel_rfl) (by kernel_rfl) bB.ok (Nat.le_of_ble_eq_true (by kernel_rfl)) (bB.loops F (aO.tw F) (cy.tw F) (dG.tw F)) (Eq.trans (bB.eqX F (aO.tw F) (cy.tw F) (dG.tw F) aa ac ae H) h)
theorem bB.mk_T {F : Nat} {args : List AV} {H : Hp} {v : AV} {H' : Hp} (h : bB.mk (bB.tw F) args H = some (v, H')) : Go.AE.T Try.prog 135 args H v H' := by
 unfold bB.mk at h
 split at h
 ·exact bB.T h
 ·cases h
noncomputable def dO.twX (F : Nat) (ah : Int → Int → Sl → Int → Int → Hp → OA) (aa : Int) (ag : Nat) (ae : Nat) (bC : Nat) (bh : Nat) (H : Hp) : OA := (Hp.ldI H .i64 ag ae).bind fun n6 => (Hp.ldI H .i64 ag (ae + 1)).bind fun n7 => (Hp.ldSl H ag (ae + 2)).bind fun s8 => (Hp.ldI H .i64 bC bh).bind fun n9 => (Hp.ldI H .i64 bC bh).bind fun n10 => (ah n6 n7 s8 n9 n10 H).bind fun r11 => ((r11.1).asP).bind fun p12 => (Hp.ldI r11.2 .i64 p12.1 p12.2).bind fun n13 => (if n13 = 0 then none else (some ((.bool ((Int.tmod aa n13) != 0)), r11.2)))
noncomputable def dO.tw (F : Nat) (aa : Int) (ag : Nat) (ae : Nat) (bC : Nat) (bh : Nat) (H : Hp) : OA := dO.twX F (aO.tw F) aa ag ae bC bh H
noncomputable def dO.code : Go.Code := (Try.f156.body).getD .skip
noncomputable def dO.lh (F : Nat) (ah : Int → Int → Sl → Int → Int → Hp → OA) (p : Nat) (ks : List Nat) (n : Nat) (tm : Tm) (H : Hp) : OA := none
def dO.pn : Nat → List Nat := fun i => (([] : List (Nat × List Nat)).lookup i).getD []
def dO.tb : Nat → List (List Nat) := fun i => (([] : List (Nat × List (List Nat))).lookup i).getD []
noncomputable def dO.mk (g : Int → Nat → Nat → Nat → Nat → Hp → OA) (args : List AV) (H : Hp) : OA := match args with
 | [(.int .i64 aa), (.ptr ag ae), (.ptr bC bh)] => g aa ag ae bC bh H
 | _ => none
noncomputable def dO.cs (F : Nat) (ah : Int → Int → Sl → Int → Int → Hp → OA) : List (FuncId × (List AV → Hp → OA)) := [(95, aO.mk ah)]
theorem dO.loops (F : Nat) (ah : Int → Int → Sl → Int → Int → Hp → OA) : LoopsOk tabs (mkOrc (dO.cs F ah)) dO.pn (dO.lh F ah) F [] 1 dO.code (fun tm H => aresults tabs.ty H tm Try.f156.results.toList fun v => some (v, H)) (fun _ _ _ => none) (fun tm H => aresults tabs.ty H tm Try.f156.results.toList fun v => some (v, H)) := by
 exact loops_none (by kernel_rfl)
theorem dO.eqX (F : Nat) (ah : Int → Int → Sl → Int → Int → Hp → OA) (aa : Int) (ag : Nat) (ae : Nat) (bC : Nat) (bh : Nat) (H : Hp) : aCode tabs (mkOrc (dO.cs F ah)) dO.pn (dO.lh F ah) F [] 1 dO.code (argTm [(.int .i64 aa), (.ptr ag ae), (.ptr bC bh)]) H (fun tm H => aresults tabs.ty H tm Try.f156.results.toList fun v => some (v, H)) (fun _ _ _ => none) (fun tm H => aresults tabs.ty H tm Try.f156.results.toList fun v => some (v, H)) = dO.twX F ah aa ag ae bC bh H := by kernel_rfl
theorem dO.cs_ok (F : Nat) : ∀ p ∈ dO.cs F (aO.tw F), ∀ args H v H', p.2 args H = some (v, H') → Go.AE.T Try.prog p.1 args H v H' := by
 intro p hp
 simp only [dO.cs, List.mem_cons, List.not_mem_nil, or_false] at hp
 subst hp
 exact fun args H v H' h => aO.mk_T h
theorem dO.ok : codeOk dO.pn Try.f156.ntmps dO.tb dO.code = true := by kernel_rfl
theorem dO.T {F : Nat} {aa : Int} {ag : Nat} {ae : Nat} {bC : Nat} {bh : Nat} {H : Hp} {v : AV} {H' : Hp} (h : dO.tw F aa ag ae bC bh H = some (v, H')) : Go.AE.T Try.prog 156 [(.int .i64 aa), (.ptr ag ae), (.ptr bC bh)] H v H' :=
 Go.AE.T.of (Y := tabs) (C := mkOrc (dO.cs F (aO.tw F))) (PN := dO.pn) (LH := dO.lh F (aO.tw F)) (F := F) (TB := dO.tb) (fn := Try.f156) (code := dO.code) mixed tabs_ok (mkOrc_ok (dO.cs_ok F)) Try.func156 (by kernel_rfl) (by kernel_rfl) dO.ok (Nat.le_of_ble_eq_true (by kernel_rfl)) (dO.loops F (aO.tw F)) (Eq.trans (dO.eqX F (aO.tw F) aa ag ae bC bh H) h)
theorem dO.mk_T {F : Nat} {args : List AV} {H : Hp} {v : AV} {H' : Hp} (h : dO.mk (dO.tw F) args H = some (v, H')) : Go.AE.T Try.prog 156 args H v H' := by
 unfold dO.mk at h
 split at h
 ·exact dO.T h
 ·cases h
noncomputable def cA.l13 (F : Nat) (iK : Int → Nat → Nat → Nat → Nat → Hp → OA)  : Nat → Sl → Nat → Nat → Nat → Nat → Int → Int → Hp → OA
 | 0, _, _, _, _, _, _, _, _ => none
 | hB + 1, fR, ag, ae, af, bu, jx, iL, H10 => (bif (decide (iL < jx)) then ((Sl.idx fR iL 1).bind fun p15 => (Hp.ldI H10 .i64 p15.1 p15.2).bind fun n16 => (iK n16 ag ae af bu H10).bind fun r17 => ((r17.1).asB).bind fun b18 => (bif b18 then (some ((.int .i64 iL), r17.2)) else (cA.l13 F iK hB fR ag ae af bu jx (IntKind.i64.wrap (iL + 1)) r17.2))) else (some ((.int .i64 (-1)), H10)))
termination_by structural n => n
noncomputable def cA.twX (F : Nat) (iK : Int → Nat → Nat → Nat → Nat → Hp → OA) (aa : Sl) (ag : Nat) (ae : Nat) (af : Nat) (bu : Nat) (H : Hp) : OA := cA.l13 F iK F aa ag ae af bu (aa.n : Int) 0 H
noncomputable def cA.tw (F : Nat) (aa : Sl) (ag : Nat) (ae : Nat) (af : Nat) (bu : Nat) (H : Hp) : OA := cA.twX F (dO.tw F) aa ag ae af bu H
noncomputable def cA.code : Go.Code := (Try.f117.body).getD .skip
noncomputable def cA.lh13 (F : Nat) (iK : Int → Nat → Nat → Nat → Nat → Hp → OA) (ks : List Nat) (n : Nat) (tm : Tm) (H : Hp) : OA := match ks, tm 0, tm 1, tm 7, tm 8 with
 | [], (.sl fR), (.fn 156 [(.ptr ag ae), (.ptr af bu)]), (.int .i64 jx), (.int .i64 iL) => cA.l13 F iK n fR ag ae af bu jx iL H
 | _, _, _, _, _ => none
theorem cA.lh13_inv {F : Nat} {iK : Int → Nat → Nat → Nat → Nat → Hp → OA} {ks : List Nat} {n : Nat} {tm : Tm} {H : Hp} {r : AV × Hp} (h : cA.lh13 F iK ks n tm H = some r) : ∃ fR : Sl, ∃ ag : Nat, ∃ ae : Nat, ∃ af : Nat, ∃ bu : Nat, ∃ jx : Int, ∃ iL : Int, ks = [] ∧ tm 0 = (.sl fR) ∧ tm 1 = (.fn 156 [(.ptr ag ae), (.ptr af bu)]) ∧ tm 7 = (.int .i64 jx) ∧ tm 8 = (.int .i64 iL) ∧ cA.l13 F iK n fR ag ae af bu jx iL H = some r := by
 unfold cA.lh13 at h
 split at h
 ·exact ⟨_, _, _, _, _, _, _, rfl, by assumption, by assumption, by assumption, by assumption, h⟩
 ·cases h
noncomputable def cA.lh (F : Nat) (iK : Int → Nat → Nat → Nat → Nat → Hp → OA) (p : Nat) (ks : List Nat) (n : Nat) (tm : Tm) (H : Hp) : OA := bif p.beq 13 then cA.lh13 F iK ks n tm H else (none)
def cA.pn : Nat → List Nat := fun i => (([] : List (Nat × List Nat)).lookup i).getD []
def cA.tb : Nat → List (List Nat) := fun i => (([] : List (Nat × List (List Nat))).lookup i).getD []
noncomputable def cA.mk (g : Sl → Nat → Nat → Nat → Nat → Hp → OA) (args : List AV) (H : Hp) : OA := match args with
 | [(.sl aa), (.fn 156 [(.ptr ag ae), (.ptr af bu)])] => g aa ag ae af bu H
 | _ => none
noncomputable def cA.cs (F : Nat) (iK : Int → Nat → Nat → Nat → Nat → Hp → OA) : List (FuncId × (List AV → Hp → OA)) := [(156, dO.mk iK)]
theorem cA.loops (F : Nat) (iK : Int → Nat → Nat → Nat → Nat → Hp → OA) : LoopsOk tabs (mkOrc (cA.cs F iK)) cA.pn (cA.lh F iK) F [] 1 cA.code (fun tm H => aresults tabs.ty H tm Try.f117.results.toList fun v => some (v, H)) (fun _ _ _ => none) (fun tm H => aresults tabs.ty H tm Try.f117.results.toList fun v => some (v, H)) := by
 refine LoopsOk.seq ?_ ?_
 ·exact loops_none (by kernel_rfl)
 ·refine LoopsOk.seq ?_ ?_
  ·refine LoopsOk.seq ?_ ?_
   ·exact loops_none (by kernel_rfl)
   ·refine LoopsOk.block ?_
    refine LoopsOk.loop (fun tm H => ?_) (fun k13 tm H r h0 => ?_) (fun k13 => ?_)
    ·refine none_of fun r h0 => ?_
     obtain ⟨fR, ag, ae, af, bu, jx, iL, hks, e0, e1, e7, e8, h⟩ := cA.lh13_inv (show cA.lh13 F iK [] 0 tm H = some r from h0)
     cases h
    ·obtain ⟨fR, ag, ae, af, bu, jx, iL, hks, e0, e1, e7, e8, h⟩ := cA.lh13_inv (show cA.lh13 F iK [] (k13 + 1) tm H = some r from h0)
     have q0 : (Tm.put tm 0 (.sl fR)) = tm := by exact Tm.put_same e0
     have q1 : (Tm.put (Tm.put tm 0 (.sl fR)) 1 (.fn 156 [(.ptr ag ae), (.ptr af bu)])) = tm := by rw [q0]; exact Tm.put_same e1
     have q2 : (Tm.put (Tm.put (Tm.put tm 0 (.sl fR)) 1 (.fn 156 [(.ptr ag ae), (.ptr af bu)])) 7 (.int .i64 jx)) = tm := by rw [q1]; exact Tm.put_same e7
     have q3 : (Tm.put (Tm.put (Tm.put (Tm.put tm 0 (.sl fR)) 1 (.fn 156 [(.ptr ag ae), (.ptr af bu)])) 7 (.int .i64 jx)) 8 (.int .i64 iL)) = tm := by rw [q2]; exact Tm.put_same e8
     rw [← q3]
     exact Eq.trans (by kernel_rfl) h
    ·exact loops_none (by kernel_rfl)
  ·exact loops_none (by kernel_rfl)
theorem cA.eqX (F : Nat) (iK : Int → Nat → Nat → Nat → Nat → Hp → OA) (aa : Sl) (ag : Nat) (ae : Nat) (af : Nat) (bu : Nat) (H : Hp) : aCode tabs (mkOrc (cA.cs F iK)) cA.pn (cA.lh F iK) F [] 1 cA.code (argTm [(.sl aa), (.fn 156 [(.ptr ag ae), (.ptr af bu)])]) H (fun tm H => aresults tabs.ty H tm Try.f117.results.toList fun v => some (v, H)) (fun _ _ _ => none) (fun tm H => aresults tabs.ty H tm Try.f117.results.toList fun v => some (v, H)) = cA.twX F iK aa ag ae af bu H := by kernel_rfl
theorem cA.cs_ok (F : Nat) : ∀ p ∈ cA.cs F (dO.tw F), ∀ args H v H', p.2 args H = some (v, H') → Go.AE.T Try.prog p.1 args H v H' := by
 intro p hp
 simp only [cA.cs, List.mem_cons, List.not_mem_nil, or_false] at hp
 subst hp
 exact fun args H v H' h => dO.mk_T h
theorem cA.ok : codeOk cA.pn Try.f117.ntmps cA.tb cA.code = true := by kernel_rfl
theorem cA.T {F : Nat} {aa : Sl} {ag : Nat} {ae : Nat} {af : Nat} {bu : Nat} {H : Hp} {v : AV} {H' : Hp} (h : cA.tw F aa ag ae af bu H = some (v, H')) : Go.AE.T Try.prog 117 [(.sl aa), (.fn 156 [(.ptr ag ae), (.ptr af bu)])] H v H' :=
 Go.AE.T.of (Y := tabs) (C := mkOrc (cA.cs F (dO.tw F))) (PN := cA.pn) (LH := cA.lh F (dO.tw F)) (F := F) (TB := cA.tb) (fn := Try.f117) (code := cA.code) mixed tabs_ok (mkOrc_ok (cA.cs_ok F)) Try.func117 (by kernel_rfl) (by kernel_rfl) cA.ok (Nat.le_of_ble_eq_true (by kernel_rfl)) (cA.loops F (dO.tw F)) (Eq.trans (cA.eqX F (dO.tw F) aa ag ae af bu H) h)
theorem cA.mk_T {F : Nat} {args : List AV} {H : Hp} {v : AV} {H' : Hp} (h : cA.mk (cA.tw F) args H = some (v, H')) : Go.AE.T Try.prog 117 args H v H' := by
 unfold cA.mk at h
 split at h
 ·exact cA.T h
 ·cases h
noncomputable def dP.twX (F : Nat) (lm : Sl → Nat → Nat → Nat → Nat → Hp → OA) (aa : Sl) (ag : Nat) (ae : Nat) (af : Nat) (bu : Nat) (H : Hp) : OA := (lm aa ag ae af bu H).bind fun r6 => ((r6.1).asI .i64).bind fun n7 => some ((.bool (decide (n7 ≥ 0))), r6.2)
noncomputable def dP.tw (F : Nat) (aa : Sl) (ag : Nat) (ae : Nat) (af : Nat) (bu : Nat) (H : Hp) : OA := dP.twX F (cA.tw F) aa ag ae af bu H
noncomputable def dP.code : Go.Code := (Try.f81.body).getD .skip
noncomputable def dP.lh (F : Nat) (lm : Sl → Nat → Nat → Nat → Nat → Hp → OA) (p : Nat) (ks : List Nat) (n : Nat) (tm : Tm) (H : Hp) : OA := none
def dP.pn : Nat → List Nat := fun i => (([] : List (Nat × List Nat)).lookup i).getD []
def dP.tb : Nat → List (List Nat) := fun i => (([] : List (Nat × List (List Nat))).lookup i).getD []
noncomputable def dP.mk (g : Sl → Nat → Nat → Nat → Nat → Hp → OA) (args : List AV) (H : Hp) : OA := match args with
 | [(.sl aa), (.fn 156 [(.ptr ag ae), (.ptr af bu)])] => g aa ag ae af bu H
 | _ => none
noncomputable def dP.cs (F : Nat) (lm : Sl → Nat → Nat → Nat → Nat → Hp → OA) : List (FuncId × (List AV → Hp → OA)) := [(117, cA.mk lm)]
theorem dP.loops (F : Nat) (lm : Sl → Nat → Nat → Nat → Nat → Hp → OA) : LoopsOk tabs (mkOrc (dP.cs F lm)) dP.pn (dP.lh F lm) F [] 1 dP.code (fun tm H => aresults tabs.ty H tm Try.f81.results.toList fun v => some (v, H)) (fun _ _ _ => none) (fun tm H => aresults tabs.ty H tm Try.f81.results.toList fun v => some (v, H)) := by
 exact loops_none (by kernel_rfl)
theorem dP.eqX (F : Nat) (lm : Sl → Nat → Nat → Nat → Nat → Hp → OA) (aa : Sl) (ag : Nat) (ae : Nat) (af : Nat) (bu : Nat) (H : Hp) : aCode tabs (mkOrc (dP.cs F lm)) dP.pn (dP.lh F lm) F [] 1 dP.code (argTm [(.sl aa), (.fn 156 [(.ptr ag ae), (.ptr af bu)])]) H (fun tm H => aresults tabs.ty H tm Try.f81.results.toList fun v => some (v, H)) (fun _ _ _ => none) (fun tm H => aresults tabs.ty H tm Try.f81.results.toList fun v => some (v, H)) = dP.twX F lm aa ag ae af bu H := by kernel_rfl
theorem dP.cs_ok (F : Nat) : ∀ p ∈ dP.cs F (cA.tw F), ∀ args H v H', p.2 args H = some (v, H') → Go.AE.T Try.prog p.1 args H v H' := by
 intro p hp
 simp only [dP.cs, List.mem_cons, List.not_mem_nil, or_false] at hp
 subst hp
 exact fun args H v H' h => cA.mk_T h
theorem dP.ok : codeOk dP.pn Try.f81.ntmps dP.tb dP.code = true := by kernel_rfl
theorem dP.T {F : Nat} {aa : Sl} {ag : Nat} {ae : Nat} {af : Nat} {bu : Nat} {H : Hp} {v : AV} {H' : Hp} (h : dP.tw F aa ag ae af bu H = some (v, H')) : Go.AE.T Try.prog 81 [(.sl aa), (.fn 156 [(.ptr ag ae), (.ptr af bu)])] H v H' :=
 Go.AE.T.of (Y := tabs) (C := mkOrc (dP.cs F (cA.tw F))) (PN := dP.pn) (LH := dP.lh F (cA.tw F)) (F := F) (TB := dP.tb) (fn := Try.f81) (code := dP.code) mixed tabs_ok (mkOrc_ok (dP.cs_ok F)) Try.func81 (by kernel_rfl) (by kernel_rfl) dP.ok (Nat.le_of_ble_eq_true (by kernel_rfl)) (dP.loops F (cA.tw F)) (Eq.trans (dP.eqX F (cA.tw F) aa ag ae af bu H) h)
theorem dP.mk_T {F : Nat} {args : List AV} {H : Hp} {v : AV} {H' : Hp} (h : dP.mk (dP.tw F) args H = some (v, H')) : Go.AE.T Try.prog 81 args H v H' := by
 unfold dP.mk at h
 split at h
 ·exact dP.T h
 ·cases h
noncomputable def ck.l29 (F : Nat) (bO : Int → Int → Sl → Int → Hp → OA) (iM : Sl → Nat → Nat → Nat → Nat → Hp → OA)  : Nat → Nat → Nat → Nat → Nat → Int → Hp → OA
 | 0, _, _, _, _, _, _ => none
 | eN + 1, dT, dN, jk, gr, eP, H22 => (Hp.ldI H22 .i64 jk gr).bind fun n33 => (bif (decide (eP < n33)) then ((Hp.ldI H22 .i64 jk gr).bind fun n34 => (Hp.ldI H22 .i64 jk (gr + 1)).bind fun n35 => (Hp.ldSl H22 jk (gr + 2)).bind fun s36 => (bO n34 n35 s36 eP H22).bind fun r37 => ((r37.1).asSl).bind fun s38 => (if Cons H22 r37.2 then ((Hp.ldI r37.2 .i64 dT dN).bind fun n39 => (Sl.cut s38 1 (IntKind.i64.wrap (n39 + 1)) (s38.n : Int)).bind fun s40 => (iM s40 jk gr dT dN r37.2).bind fun r41 => ((r41.1).asB).bind fun b42 => (bif b42 then (some ((.int .i64 eP), r41.2)) else (ck.l29 F bO iM eN dT dN jk gr (IntKind.i64.wrap (eP + 1)) r41.2))) else none)) else (some ((.int .i64 (-1)), H22)))
termination_by structural n => n
noncomputable def ck.twX (F : Nat) (bO : Int → Int → Sl → Int → Hp → OA) (iM : Sl → Nat → Nat → Nat → Nat → Hp → OA) (aa : Nat) (ac : Nat) (ae : Int) (H : Hp) : OA := (Hp.new H [(.int .i64 ae)]).bind fun H4 => (Hp.ldI H4 .i64 aa (ac + 6)).bind fun n5 => (Hp.ldI H4 .i64 aa ((ac + 6) + 1)).bind fun n6 => (Hp.ldSl H4 aa ((ac + 6) + 2)).bind fun s7 => (Hp.new H4 [.int .i64 0, .int .i64 0, .sl ⟨none, 0, .ex 0⟩]).bind fun H8 => (Hp.st H8 H4.length 0 (.int .i64 n5)).bind fun H9 => (Hp.st H9 H4.length (0 + 1) (.int .i64 n6)).bind fun H10 => (Hp.st H10 H4.length (0 + 1 + 1) (.sl s7)).bind fun H11 => (Hp.ldI H11 .i64 H.length 0).bind fun n12 => ck.l29 F bO iM F H.length 0 H4.length 0 (IntKind.i64.wrap (n12 + 1)) H11
noncomputable def ck.tw (F : Nat) (aa : Nat) (ac : Nat) (ae : Int) (H : Hp) : OA := ck.twX F (cy.tw F) (dP.tw F) aa ac ae H
noncomputable def ck.code : Go.Code := (Try.f136.body).getD .skip
noncomputable def ck.lh29 (F : Nat) (bO : Int → Int → Sl → Int → Hp → OA) (iM : Sl → Nat → Nat → Nat → Nat → Hp → OA) (ks : List Nat) (n : Nat) (tm : Tm) (H : Hp) : OA := match ks, tm 3, tm 5, tm 6 with
 | [], (.ptr dT dN), (.ptr jk gr), (.int .i64 eP) => ck.l29 F bO iM n dT dN jk gr eP H
 | _, _, _, _ => none
theorem ck.lh29_inv {F : Nat} {bO : Int → Int → Sl → Int → Hp → OA} {iM : Sl → Nat → Nat → Nat → Nat → Hp → OA} {ks : List Nat} {n : Nat} {tm : Tm} {H : Hp} {r : AV × Hp} (h : ck.lh29 F bO iM ks n tm H = some r) : ∃ dT : Nat, ∃ dN : Nat, ∃ jk : Nat, ∃ gr : Nat, ∃ eP : Int, ks = [] ∧ tm 3 = (.ptr dT dN) ∧ tm 5 = (.ptr jk gr) ∧ tm 6 = (.int .i64 eP) ∧ ck.l29 F bO iM n dT dN jk gr eP H = some r := by
 unfold ck.lh29 at h
 split at h
 ·exact ⟨_, _, _, _, _, rfl, by assumption, by assumption, by assumption, h⟩
 ·cases h
noncomputable def ck.lh (F : Nat) (bO : Int → Int → Sl → Int → Hp → OA) (iM : Sl → Nat → Nat → Nat → Nat → Hp → OA) (p : Nat) (ks : List Nat) (n : Nat) (tm : Tm) (H : Hp) : OA := bif p.beq 29 then ck.lh29 F bO iM ks n tm H else (none)
def ck.pn : Nat → List Nat := fun i => (([(5, [7])] : List (Nat × List Nat)).lookup i).getD []
def ck.tb : Nat → List (List Nat) := fun i => (([(5, [[], [], [0, 1], [], [3], [0, 1, 2, 3, 4], [], [0, 1, 2, 3, 4, 5, 6]])] : List (Nat × List (List Nat))).lookup i).getD []
noncomputable def ck.mk (g : Nat → Nat → Int → Hp → OA) (args : List AV) (H : Hp) : OA := match args with
 | [(.ptr aa ac), (.int .i64 ae)] => g aa ac ae H
 | _ => none
noncomputable def ck.cs (F : Nat) (bO : Int → Int → Sl → Int → Hp → OA) (iM : Sl → Nat → Nat → Nat → Nat → Hp → OA) : List (FuncId × (List AV → Hp → OA)) := [(120, cy.mk bO), (81, dP.mk iM)]
theorem ck.loops (F : Nat) (bO : Int → Int → Sl → Int → Hp → OA) (iM : Sl → Nat → Nat → Nat → Nat → Hp → OA) : LoopsOk tabs (mkOrc (ck.cs F bO iM)) ck.pn (ck.lh F bO iM) F [] 1 ck.code (fun tm H => aresults tabs.ty H tm Try.f136.results.toList fun v => some (v, H)) (fun _ _ _ => none) (fun tm H => aresults tabs.ty H tm Try.f136.results.toList fun v => some (v, H)) := by
 refine LoopsOk.seq ?_ ?_
 ·exact loops_none (by kernel_rfl)
 ·refine LoopsOk.seq ?_ ?_
  ·exact loops_none (by kernel_rfl)
  ·refine LoopsOk.seq ?_ ?_
   ·refine LoopsOk.seq ?_ ?_
    ·exact loops_none (by kernel_rfl)
    ·refine LoopsOk.block ?_
     refine LoopsOk.loop (fun tm H => ?_) (fun k29 tm H r h0 => ?_) (fun k29 => ?_)
     ·refine none_of fun r h0 => ?_
      obtain ⟨dT, dN, jk, gr, eP, hks, e3, e5, e6, h⟩ := ck.lh29_inv (show ck.lh29 F bO iM [] 0 tm H = some r from h0)
      cases h
     ·obtain ⟨dT, dN, jk, gr, eP, hks, e3, e5, e6, h⟩ := ck.lh29_inv (show ck.lh29 F bO iM [] (k29 + 1) tm H = some r from h0)
      have q0 : (Tm.put tm 3 (.ptr dT dN)) = tm := by exact Tm.put_same e3
      have q1 : (Tm.put (Tm.put tm 3 (.ptr dT dN)) 5 (.ptr jk gr)) = tm := by rw [q0]; exact Tm.put_same e5
      have q2 : (Tm.put (Tm.put (Tm.put tm 3 (.ptr dT dN)) 5 (.ptr jk gr)) 6 (.int .i64 eP)) = tm := by rw [q1]; exact Tm.put_same e6
      rw [← q2]
      exact Eq.trans (by kernel_rfl) h
     ·exact loops_none (by kernel_rfl)
   ·exact loops_none (by kernel_rfl)
theorem ck.eqX (F : Nat) (bO : Int → Int → Sl → Int → Hp → OA) (iM : Sl → Nat → Nat → Nat → Nat → Hp → OA) (aa : Nat) (ac : Nat) (ae : Int) (H : Hp) : aCode tabs (mkOrc (ck.cs F bO iM)) ck.pn (ck.lh F bO iM) F [] 1 ck.code (argTm [(.ptr aa ac), (.int .i64 ae)]) H (fun tm H => aresults tabs.ty H tm Try.f136.results.toList fun v => some (v, H)) (fun _ _ _ => none) (fun tm H => aresults tabs.ty H tm Try.f136.results.toList fun v => some (v, H)) = ck.twX F bO iM aa ac ae H := by kernel_rfl
theorem ck.cs_ok (F : Nat) : ∀ p ∈ ck.cs F (cy.tw F) (dP.tw F), ∀ args H v H', p.2 args H = some (v, H') → Go.AE.T Try.prog p.1 args H v H' := by
 intro p hp
 simp only [ck.cs, List.mem_cons, List.not_mem_nil, or_false] at hp
 rcases hp with rfl | rfl
 ·exact fun args H v H' h => cy.mk_T h
 ·exact fun args H v H' h => dP.mk_T h
theorem ck.ok : codeOk ck.pn Try.f136.ntmps ck.tb ck.code = true := by kernel_rfl
theorem ck.T {F : Nat} {aa : Nat} {ac : Nat} {ae : Int} {H : Hp} {v : AV} {H' : Hp} (h : ck.tw F aa ac ae H = some (v, H')) : Go.AE.T Try.prog 136 [(.ptr aa ac), (.int .i64 ae)] H v H' :=
 Go.AE.T.of (Y := tabs) (C := mkOrc (ck.cs F (cy.tw F) (dP.tw F))) (PN := ck.pn) (LH := ck.lh F (cy.tw F) (dP.tw F)) (F := F) (TB := ck.tb) (fn := Try.f136) (code := ck.code) mixed tabs_ok (mkOrc_ok (ck.cs_ok F)) Try.func136 (by kernel_rfl) (by kernel_rfl) ck.ok (Nat.le_of_ble_eq_true (by kernel_rfl)) (ck.loops F (cy.tw F) (dP.tw F)) (Eq.trans (ck.eqX F (cy.tw F) (dP.tw F) aa ac ae H) h)
theorem ck.mk_T {F : Nat} {args : List AV} {H : Hp} {v : AV} {H' : Hp} (h : ck.mk (ck.tw F) args H = some (v, H')) : Go.AE.T Try.prog 136 args H v H' := by
 unfold ck.mk at h
 split at h
 ·exact ck.T h
 ·cases h
noncomputable def aV.j4 (F : Nat) (fY : Nat → Nat → Int → Hp → OA) (fZ : Nat → Nat → Int → Hp → OA) (f_ : Nat → Nat → Int → Hp → OA) (ga : Nat → Nat → Int → Hp → OA) (cY : Nat → Nat → Int → Int → Int → Hp → OA) (C3_ : Nat → Nat → Int → Hp → OA) (zz : Nat) (zA : Nat) (oI : Int) (H57 : Hp) : OA := C3_ zz zA oI H57
noncomputable def aV.j5 (F : Nat) (fY : Nat → Nat → Int → Hp → OA) (fZ : Nat → Nat → Int → Hp → OA) (f_ : Nat → Nat → Int → Hp → OA) (ga : Nat → Nat → Int → Hp → OA) (cY : Nat → Nat → Int → Int → Int → Hp → OA) (C3_ : Nat → Nat → Int → Hp → OA) (zB : Nat) (zC : Nat) (oJ : Int) (H80 : Hp) : OA := C3_ zB zC oJ H80
noncomputable def aV.j6 (F : Nat) (fY : Nat → Nat → Int → Hp → OA) (fZ : Nat → Nat → Int → Hp → OA) (f_ : Nat → Nat → Int → Hp → OA) (ga : Nat → Nat → Int → Hp → OA) (cY : Nat → Nat → Int → Int → Int → Hp → OA) (C3_ : Nat → Nat → Int → Hp → OA) (nY : Nat) (nZ : Nat) (oK : Int) (H71 : Hp) : OA := aV.j5 F fY fZ f_ ga cY C3_ nY nZ oK H71
noncomputable def aV.l3 (F : Nat) (fY : Nat → Nat → Int → Hp → OA) (fZ : Nat → Nat → Int → Hp → OA) (f_ : Nat → Nat → Int → Hp → OA) (ga : Nat → Nat → Int → Hp → OA) (cY : Nat → Nat → Int → Int → Int → Hp → OA)  : Nat → Nat → Nat → Int → Hp → OA
 | 0, _, _, _, _ => none
 | qC + 1, cX, dw, fU, H6 => (Hp.ldB H6 cX (dw + 15)).bind fun b44 => (bif (!b44) then ((Hp.ldI H6 .i64 cX (dw + 6)).bind fun n45 => (Hp.ldI H6 .i64 cX ((dw + 6) + 1)).bind fun n46 => (bif (decide (fU < (if n46 < n45 then n46 else n45))) then ((fY cX dw fU H6).bind fun r47 => ((r47.1).asB).bind fun b48 => (bif (!b48) then (some ((.tup []), r47.2)) else ((fZ cX dw fU r47.2).bind fun r49 => (Hp.ldB r49.2 cX (dw + 15)).bind fun b50 => (bif b50 then (aV.j4 F fY fZ f_ ga cY (aV.l3 F fY fZ f_ ga cY qC) cX dw fU r49.2) else ((f_ cX dw fU r49.2).bind fun r58 => ((r58.1).asB).bind fun b59 => (bif (!b59) then (aV.j4 F fY fZ f_ ga cY (aV.l3 F fY fZ f_ ga cY qC) cX dw fU r58.2) else ((ga cX dw fU r58.2).bind fun r60 => ((r60.1).asI .i64).bind fun n61 => (bif (decide (n61 ≥ 0)) then ((cY cX dw fU n61 1 r60.2).bind fun r62 => aV.j6 F fY fZ f_ ga cY (aV.l3 F fY fZ f_ ga cY qC) cX dw fU r62.2) else (aV.j6 F fY fZ f_ ga cY (aV.l3 F fY fZ f_ ga cY qC) cX dw (IntKind.i64.wrap (fU + 1)) r60.2))))))))) else (some ((.tup []), H6)))) else (some ((.tup []), H6)))
termination_by structural n => n
noncomputable def aV.twX (F : Nat) (fY : Nat → Nat → Int → Hp → OA) (fZ : Nat → Nat → Int → Hp → OA) (f_ : Nat → Nat → Int → Hp → OA) (ga : Nat → Nat → Int → Hp → OA) (cY : Nat → Nat → Int → Int → Int → Hp → OA) (aa : Nat) (ac : Nat) (H : Hp) : OA := aV.l3 F fY fZ f_ ga cY F aa ac 0 H
noncomputable def aV.tw (F : Nat) (aa : Nat) (ac : Nat) (H : Hp) : OA := aV.twX F (aW.tw F) (aJ.tw F) (bB.tw F) (ck.tw F) (cR.tw F) aa ac H
noncomputable def aV.code : Go.Code := (Try.f109.body).getD .skip
noncomputable def aV.lh3 (F : Nat) (fY : Nat → Nat → Int → Hp → OA) (fZ : Nat → Nat → Int → Hp → OA) (f_ : Nat → Nat → Int → Hp → OA) (ga : Nat → Nat → Int → Hp → OA) (cY : Nat → Nat → Int → Int → Int → Hp → OA) (ks : List Nat) (n : Nat) (tm : Tm) (H : Hp) : OA := match ks, tm 0, tm 2 with
 | [], (.ptr cX dw), (.int .i64 fU) => aV.l3 F fY fZ f_ ga cY n cX dw fU H
 | _, _, _ => none
theorem aV.lh3_inv {F : Nat} {fY : Nat → Nat → Int → Hp → OA} {fZ : Nat → Nat → Int → Hp → OA} {f_ : Nat → Nat → Int → Hp → OA} {ga : Nat → Nat → Int → Hp → OA} {cY : Nat → Nat → Int → Int → Int → Hp → OA} {ks : List Nat} {n : Nat} {tm : Tm} {H : Hp} {r : AV × Hp} (h : aV.lh3 F fY fZ f_ ga cY ks n tm H = some r) : ∃ cX : Nat, ∃ dw : Nat, ∃ fU : Int, ks = [] ∧ tm 0 = (.ptr cX dw) ∧ tm 2 = (.int .i64 fU) ∧ aV.l3 F fY fZ f_ ga cY n cX dw fU H = some r := by
 unfold aV.lh3 at h
 split at h
 ·exact ⟨_, _, _, rfl, by assumption, by assumption, h⟩
 ·cases h
noncomputable def aV.lh (F : Nat) (fY : Nat → Nat → Int → Hp → OA) (fZ : Nat → Nat → Int → Hp → OA) (f_ : Nat → Nat → Int → Hp → OA) (ga : Nat → Nat → Int → Hp → OA) (cY : Nat → Nat → Int → Int → Int → Hp → OA) (p : Nat) (ks : List Nat) (n : Nat) (tm : Tm) (H : Hp) : OA := bif p.beq 3 then aV.lh3 F fY fZ f_ ga cY ks n tm H else (none)
def aV.pn : Nat → List Nat := fun i => (([(1, [])] : List (Nat × List Nat)).lookup i).getD []
def aV.tb : Nat → List (List Nat) := fun i => (([(1, [[], [0], [0, 1], [0, 1, 2], [0, 1, 2, 3], [0, 1, 2, 3, 4], [0, 1, 2, 3, 4, 5], [0, 1, 2, 3, 4, 5], [0, 1, 2, 3, 4, 5, 7], [0, 1, 2, 3, 4, 5, 7, 8], [0, 1, 2, 3, 4, 5, 7, 8, 9], [0, 1, 2, 3, 4, 5, 7, 8, 9, 10], [0, 1, 2, 3, 4, 5, 7, 8, 9, 10, 11], [0, 1, 2, 3, 4, 5], [0, 1, 2, 3, 4, 5, 13], [0, 1, 2, 3, 4, 5, 13, 14], [0, 1, 2, 3, 4, 5, 13, 14, 15], [0, 1, 2, 3, 4, 5, 13, 14, 15, 16], [0, 1, 2, 3, 4, 5, 13, 14, 15, 16, 17], [0, 1, 2, 3, 4, 5, 7, 8, 9, 10, 11, 12, 13, 14, 15, 16, 17, 18], [0, 1, 2, 3, 4, 5, 6, 7, 8, 9, 10, 11, 12, 13, 14, 15, 16, 17, 18, 19], [0, 1, 2, 3, 4, 5, 6, 7, 8, 9, 10, 11, 12, 13, 14, 15, 16, 17, 18, 19, 20]])] : List (Nat × List (List Nat))).lookup i).getD []
noncomputable def aV.mk (g : Nat → Nat → Hp → OA) (args : List AV) (H : Hp) : OA := match args with
 | [(.ptr aa ac)] => g aa ac H
 | _ => none
noncomputable def aV.cs (F : Nat) (fY : Nat → Nat → Int → Hp → OA) (fZ : Nat → Nat → Int → Hp → OA) (f_ : Nat → Nat → Int → Hp → OA) (ga : Nat → Nat → Int → Hp → OA) (cY : Nat → Nat → Int → Int → Int → Hp → OA) : List (FuncId × (List AV → Hp → OA)) := [(133, aW.mk fY), (134, aJ.mk fZ), (135, bB.mk f_), (136, ck.mk ga), (137, cR.mk cY)]
theorem aV.loops (F : Nat) (fY : Nat → Nat → Int → Hp → OA) (fZ : Nat → Nat → Int → Hp → OA) (f_ : Nat → Nat → Int → Hp → OA) (ga : Nat → Nat → Int → Hp → OA) (cY : Nat → Nat → Int → Int → Int → Hp → OA) : LoopsOk tabs (mkOrc (aV.cs F fY fZ f_ ga cY)) aV.pn (aV.lh F fY fZ f_ ga cY) F [] 1 aV.code (fun tm H => aresults tabs.ty H tm Try.f109.results.toList fun v => some (v, H)) (fun _ _ _ => none) (fun tm H => aresults tabs.ty H tm Try.f109.results.toList fun v => some (v, H)) := by
 refine LoopsOk.seq ?_ ?_
 ·exact loops_none (by kernel_rfl)
 ·refine LoopsOk.block ?_
  refine LoopsOk.loop (fun tm H => ?_) (fun k3 tm H r h0 => ?_) (fun k3 => ?_)
  ·refine none_of fun r h0 => ?_
   obtain ⟨cX, dw, fU, hks, e0, e2, h⟩ := aV.lh3_inv (show aV.lh3 F fY fZ f_ ga cY [] 0 tm H = some r from h0)
   cases h
  ·obtain ⟨cX, dw, fU, hks, e0, e2, h⟩ := aV.lh3_inv (show aV.lh3 F fY fZ f_ ga cY [] (k3 + 1) tm H = some r from h0)
   have q0 : (Tm.put tm 0 (.ptr cX dw)) = tm := by exact Tm.put_same e0
   have q1 : (Tm.put (Tm.put tm 0 (.ptr cX dw)) 2 (.int .i64 fU)) = tm := by rw [q0]; exact Tm.put_same e2
   rw [← q1]
   exact Eq.trans (by kernel_rfl) h
  ·exact loops_none (by kernel_rfl)
theorem aV.eqX (F : Nat) (fY : Nat → Nat → Int → Hp → OA) (fZ : Nat → Nat → Int → Hp → OA) (f_ : Nat → Nat → Int → Hp → OA) (ga : Nat → Nat → Int → Hp → OA) (cY : Nat → Nat → Int → Int → Int → Hp → OA) (aa : Nat) (ac : Nat) (H : Hp) : aCode tabs (mkOrc (aV.cs F fY fZ f_ ga cY)) aV.pn (aV.lh F fY fZ f_ ga cY) F [] 1 aV.code (argTm [(.ptr aa ac)]) H (fun tm H => aresults tabs.ty H tm Try.f109.results.toList fun v => some (v, H)) (fun _ _ _ => none) (fun tm H => aresults tabs.ty H tm Try.f109.results.toList fun v => some (v, H)) = aV.twX F fY fZ f_ ga cY aa ac H := by kernel_rfl
theorem aV.cs_ok (F : Nat) : ∀ p ∈ aV.cs F (aW.tw F) (aJ.tw F) (bB.tw F) (ck.tw F) (cR.tw F), ∀ args H v H', p.2 args H = some (v, H') → Go.AE.T Try.prog p.1 args H v H' := by
 intro p hp
 simp only [aV.cs, List.mem_cons, List.not_mem_nil, or_false] at hp
 rcases hp with rfl | rfl | rfl | rfl | rfl
 ·exact fun args H v H' h => aW.mk_T h
 ·exact fun args H v H' h => aJ.mk_T h
 ·exact fun args H v H' h => bB.mk_T h
 ·exact fun args H v H' h => ck.mk_T h
 ·exact fun args H v H' h => cR.mk_T h
theorem aV.ok : codeOk aV.pn Try.f109.ntmps aV.tb aV.code = true := by kernel_rfl
theorem aV.T {F : Nat} {aa : Nat} {ac : Nat} {H : Hp} {v : AV} {H' : Hp} (h : aV.tw F aa ac H = some (v, H')) : Go.AE.T Try.prog 109 [(.ptr aa ac)] H v H' :=
 Go.AE.T.of (Y := tabs) (C := mkOrc (aV.cs F (aW.tw F) (aJ.tw F) (bB.tw F) (ck.tw F) (cR.tw F))) (PN := aV.pn) (LH := aV.lh F (aW.tw F) (aJ.tw F) (bB.tw F) (ck.tw F) (cR.tw F)) (F := F) (TB := aV.tb) (fn := Try.f109) (code := aV.code) mixed tabs_ok (mkOrc_ok (aV.cs_ok F)) Try.func109 (by kernel_rfl) (by kernel_rfl) aV.ok (Nat.le_of_ble_eq_true (by kernel_rfl)) (aV.loops F (aW.tw F) (aJ.tw F) (bB.tw F) (ck.tw F) (cR.tw F)) (Eq.trans (aV.eqX F (aW.tw F) (aJ.tw F) (bB.tw F) (ck.tw F) (cR.tw F) aa ac H) h)
theorem aV.mk_T {F : Nat} {args : List AV} {H : Hp} {v : AV} {H' : Hp} (h : aV.mk (aV.tw F) args H = some (v, H')) : Go.AE.T Try.prog 109 args H v H' := by
 unfold aV.mk at h
 split at h
 ·exact aV.T h
 ·cases h
noncomputable def dD.twX (F : Nat) (ln : Int → Int → Sl → Hp → OA) (lp : Nat → Nat → Hp → OA) (aa : Int) (ac : Int) (ak : Sl) (H : Hp) : OA := (Hp.new H [(.int .i64 aa), (.int .i64 ac), (.sl ak)]).bind fun H4 => (Hp.new H4 [.int .i64 0, .int .i64 0, .sl ⟨none, 0, .ex 0⟩, .int .i64 0, .int .i64 0, .sl ⟨none, 0, .ex 0⟩, .int .i64 0, .int .i64 0, .sl ⟨none, 0, .ex 0⟩, .int .i64 0, .int .i64 0, .sl ⟨none, 0, .ex 0⟩, .int .i64 0, .int .i64 0, .sl ⟨none, 0, .ex 0⟩]).bind fun H5 => (Hp.ldI H5 .i64 H.length 0).bind fun n6 => (Hp.ldI H5 .i64 H.length (0 + 1)).bind fun n7 => (Hp.ldSl H5 H.length (0 + 2)).bind fun s8 => (ln n6 n7 s8 H5).bind fun r9 => ((r9.1).asP).bind fun p10 => (lp p10.1 p10.2 r9.2).bind fun r11 => (Hp.ldB r11.2 p10.1 (p10.2 + 15)).bind fun b12 => (bif b12 then ((Hp.st r11.2 H4.length 0 (.int .i64 0)).bind fun H13 => (Hp.st H13 H4.length (0 + 1) (.int .i64 0)).bind fun H14 => (Hp.st H14 H4.length (0 + 1 + 1) (.sl (⟨none, 0, .ex 0⟩ : Sl))).bind fun H15 => (Hp.st H15 H4.length (0 + 1 + 1 + 1) (.int .i64 0)).bind fun H16 => (Hp.st H16 H4.length (0 + 1 + 1 + 1 + 1) (.int .i64 0)).bind fun H17 => (Hp.st H17 H4.length (0 + 1 + 1 + 1 + 1 + 1) (.sl (⟨none, 0, .ex 0⟩ : Sl))).bind fun H18 => (Hp.st H18 H4.length (0 + 1 + 1 + 1 + 1 + 1 + 1) (.int .i64 0)).bind fun H19 => (Hp.st H19 H4.length (0 + 1 + 1 + 1 + 1 + 1 + 1 + 1) (.int .i64 0)).bind fun H20 => (Hp.st H20 H4.length (0 + 1 + 1 + 1 + 1 + 1 + 1 + 1 + 1) (.sl (⟨none, 0, .ex 0⟩ : Sl))).bind fun H21 => (Hp.st H21 H4.length (0 + 1 + 1 + 1 + 1 + 1 + 1 + 1 + 1 + 1) (.int .i64 0)).bind fun H22 => (Hp.st H22 H4.length (0 + 1 + 1 + 1 + 1 + 1 + 1 + 1 + 1 + 1 + 1) (.int .i64 0)).bind fun H23 => (Hp.st H23 H4.length (0 + 1 + 1 + 1 + 1 + 1 + 1 + 1 + 1 + 1 + 1 + 1) (.sl (⟨none, 0, .ex 0⟩ : Sl))).bind fun H24 => (Hp.st H24 H4.length (0 + 1 + 1 + 1 + 1 + 1 + 1 + 1 + 1 + 1 + 1 + 1 + 1) (.int .i64 0)).bind fun H25 => (Hp.st H25 H4.length (0 + 1 + 1 + 1 + 1 + 1 + 1 + 1 + 1 + 1 + 1 + 1 + 1 + 1) (.int .i64 0)).bind fun H26 => (Hp.st H26 H4.length (0 + 1 + 1 + 1 + 1 + 1 + 1 + 1 + 1 + 1 + 1 + 1 + 1 + 1 + 1) (.sl (⟨none, 0, .ex 0⟩ : Sl))).bind fun H27 => (Hp.ldI H27 .i64 H4.length 0).bind fun n28 => (Hp.ldI H27 .i64 H4.length (0 + 1)).bind fun n29 => (Hp.ldSl H27 H4.length (0 + 2)).bind fun s30 => (Hp.ldI H27 .i64 H4.length (0 + 3)).bind fun n31 => (Hp.ldI H27 .i64 H4.length (0 + 4)).bind fun n32 => (Hp.ldSl H27 H4.length (0 + 5)).bind fun s33 => (Hp.ldI H27 .i64 H4.length (0 + 6)).bind fun n34 => (Hp.ldI H27 .i64 H4.length (0 + 7)).bind fun n35 => (Hp.ldSl H27 H4.length (0 + 8)).bind fun s36 => (Hp.ldI H27 .i64 H4.length (0 + 9)).bind fun n37 => (Hp.ldI H27 .i64 H4.length (0 + 10)).bind fun n38 => (Hp.ldSl H27 H4.length (0 + 11)).bind fun s39 => (Hp.ldI H27 .i64 H4.length (0 + 12)).bind fun n40 => (Hp.ldI H27 .i64 H4.length (0 + 13)).bind fun n41 => (Hp.ldSl H27 H4.length (0 + 14)).bind fun s42 => some ((.tup [(.agg [(.int .i64 n28), (.int .i64 n29), (.sl s30), (.int .i64 n31), (.int .i64 n32), (.sl s33), (.int .i64 n34), (.int .i64 n35), (.sl s36), (.int .i64 n37), (.int .i64 n38), (.sl s39), (.int .i64 n40), (.int .i64 n41), (.sl s42)]), (.int .i64 3)]), H27)) else ((Hp.ldI r11.2 .i64 p10.1 p10.2).bind fun n43 => (Hp.ldI r11.2 .i64 p10.1 (p10.2 + 1)).bind fun n44 => (Hp.ldSl r11.2 p10.1 (p10.2 + 2)).bind fun s45 => (Hp.ldI r11.2 .i64 p10.1 (p10.2 + 3)).bind fun n46 => (Hp.ldI r11.2 .i64 p10.1 (p10.2 + 4)).bind fun n47 => (Hp.ldSl r11.2 p10.1 (p10.2 + 5)).bind fun s48 => (Hp.ldI r11.2 .i64 p10.1 (p10.2 + 6)).bind fun n49 => (Hp.ldI r11.2 .i64 p10.1 (p10.2 + 7)).bind fun n50 => (Hp.ldSl r11.2 p10.1 (p10.2 + 8)).bind fun s51 => (Hp.ldI r11.2 .i64 p10.1 (p10.2 + 9)).bind fun n52 => (Hp.ldI r11.2 .i64 p10.1 (p10.2 + 10)).bind fun n53 => (Hp.ldSl r11.2 p10.1 (p10.2 + 11)).bind fun s54 => (Hp.ldI r11.2 .i64 p10.1 (p10.2 + 12)).bind fun n55 => (Hp.ldI r11.2 .i64 p10.1 (p10.2 + 13)).bind fun n56 => (Hp.ldSl r11.2 p10.1 (p10.2 + 14)).bind fun s57 => (Hp.st r11.2 H4.length 0 (.int .i64 n43)).bind fun H58 => (Hp.st H58 H4.length (0 + 1) (.int .i64 n44)).bind fun H59 => (Hp.st H59 H4.length (0 + 1 + 1) (.sl s45)).bind fun H60 => (Hp.st H60 H4.length (0 + 1 + 1 + 1) (.int .i64 n46)).bind fun H61 => (Hp.st H61 H4.length (0 + 1 + 1 + 1 + 1) (.int .i64 n47)).bind fun H62 => (Hp.st H62 H4.length (0 + 1 + 1 + 1 + 1 + 1) (.sl s48)).bind fun H63 => (Hp.st H63 H4.length (0 + 1 + 1 + 1 + 1 + 1 + 1) (.int .i64 n49)).bind fun H64 => (Hp.st H64 H4.length (0 + 1 + 1 + 1 + 1 + 1 + 1 + 1) (.int .i64 n50)).bind fun H65 => (Hp.st H65 H4.length (0 + 1 + 1 + 1 + 1 + 1 + 1 + 1 + 1) (.sl s51)).bind fun H66 => (Hp.st H66 H4.length (0 + 1 + 1 + 1 + 1 + 1 + 1 + 1 + 1 + 1) (.int .i64 n52)).bind fun H67 => (Hp.st H67 H4.length (0 + 1 + 1 + 1 + 1 + 1 + 1 + 1 + 1 + 1 + 1) (.int .i64 n53)).bind fun H68 => (Hp.st H68 H4.length (0 + 1 + 1 + 1 + 1 + 1 + 1 + 1 + 1 + 1 + 1 + 1) (.sl s54)).bind fun H69 => (Hp.st H69 H4.length (0 + 1 + 1 + 1 + 1 + 1 + 1 + 1 + 1 + 1 + 1 + 1 + 1) (.int .i64 n55)).bind fun H70 => (Hp.st H70 H4.length (0 + 1 + 1 + 1 + 1 + 1 + 1 + 1 + 1 + 1 + 1 + 1 + 1 + 1) (.int .i64 n56)).bind fun H71 => (Hp.st H71 H4.length (0 + 1 + 1 + 1 + 1 + 1 + 1 + 1 + 1 + 1 + 1 + 1 + 1 + 1 + 1) (.sl s57)).bind fun H72 => (Hp.ldI H72 .i64 H4.length 0).bind fun n73 => (Hp.ldI H72 .i64 H4.length (0 + 1)).bind fun n74 => (Hp.ldSl H72 H4.length (0 + 2)).bind fun s75 => (Hp.ldI H72 .i64 H4.length (0 + 3)).bind fun n76 => (Hp.ldI H72 .i64 H4.length (0 + 4)).bind fun n77 => (Hp.ldSl H72 H4.length (0 + 5)).bind fun s78 => (Hp.ldI H72 .i64 H4.length (0 + 6)).bind fun n79 => (Hp.ldI H72 .i64 H4.length (0 + 7)).bind fun n80 => (Hp.ldSl H72 H4.length (0 + 8)).bind fun s81 => (Hp.ldI H72 .i64 H4.length (0 + 9)).bind fun n82 => (Hp.ldI H72 .i64 H4.length (0 + 10)).bind fun n83 => (Hp.ldSl H72 H4.length (0 + 11)).bind fun s84 => (Hp.ldI H72 .i64 H4.length (0 + 12)).bind fun n85 => (Hp.ldI H72 .i64 H4.length (0 + 13)).bind fun n86 => (Hp.ldSl H72 H4.length (0 + 14)).bind fun s87 => some ((.tup [(.agg [(.int .i64 n73), (.int .i64 n74), (.sl s75), (.int .i64 n76), (.int .i64 n77), (.sl s78), (.int .i64 n79), (.int .i64 n80), (.sl s81), (.int .i64 n82), (.int .i64 n83), (.sl s84), (.int .i64 n85), (.int .i64 n86), (.sl s87)]), (.int .i64 0)]), H72)))
noncomputable def dD.tw (F : Nat) (aa : Int) (ac : Int) (ak : Sl) (H : Hp) : OA := dD.twX F (eC.tw F) (aV.tw F) aa ac ak H
noncomputable def dD.code : Go.Code := (Try.f62.body).getD .skip
noncomputable def dD.lh (F : Nat) (ln : Int → Int → Sl → Hp → OA) (lp : Nat → Nat → Hp → OA) (p : Nat) (ks : List Nat) (n : Nat) (tm : Tm) (H : Hp) : OA := none
def dD.pn : Nat → List Nat := fun i => (([] : List (Nat × List Nat)).lookup i).getD []
def dD.tb : Nat → List (List Nat) := fun i => (([] : List (Nat × List (List Nat))).lookup i).getD []
noncomputable def dD.mk (g : Int → Int → Sl → Hp → OA) (args : List AV) (H : Hp) : OA := match args with
 | [(.agg [(.int .i64 aa), (.int .i64 ac), (.sl ak)])] => g aa ac ak H
 | _ => none
noncomputable def dD.cs (F : Nat) (ln : Int → Int → Sl → Hp → OA) (lp : Nat → Nat → Hp → OA) : List (FuncId × (List AV → Hp → OA)) := [(108, eC.mk ln), (109, aV.mk lp)]
theorem dD.loops (F : Nat) (ln : Int → Int → Sl → Hp → OA) (lp : Nat → Nat → Hp → OA) : LoopsOk tabs (mkOrc (dD.cs F ln lp)) dD.pn (dD.lh F ln lp) F [] 1 dD.code (fun tm H => aresults tabs.ty H tm Try.f62.results.toList fun v => some (v, H)) (fun _ _ _ => none) (fun tm H => aresults tabs.ty H tm Try.f62.results.toList fun v => some (v, H)) := by
 exact loops_none (by kernel_rfl)
theorem dD.eqX (F : Nat) (ln : Int → Int → Sl → Hp → OA) (lp : Nat → Nat → Hp → OA) (aa : Int) (ac : Int) (ak : Sl) (H : Hp) : aCode tabs (mkOrc (dD.cs F ln lp)) dD.pn (dD.lh F ln lp) F [] 1 dD.code (argTm [(.agg [(.int .i64 aa), (.int .i64 ac), (.sl ak)])]) H (fun tm H => aresults tabs.ty H tm Try.f62.results.toList fun v => some (v, H)) (fun _ _ _ => none) (fun tm H => aresults tabs.ty H tm Try.f62.results.toList fun v => some (v, H)) = dD.twX F ln lp aa ac ak H := by kernel_rfl
theorem dD.cs_ok (F : Nat) : ∀ p ∈ dD.cs F (eC.tw F) (aV.tw F), ∀ args H v H', p.2 args H = some (v, H') → Go.AE.T Try.prog p.1 args H v H' := by
 intro p hp
 simp only [dD.cs, List.mem_cons, List.not_mem_nil, or_false] at hp
 rcases hp with rfl | rfl
 ·exact fun args H v H' h => eC.mk_T h
 ·exact fun args H v H' h => aV.mk_T h
theorem dD.ok : codeOk dD.pn Try.f62.ntmps dD.tb dD.code = true := by kernel_rfl
theorem dD.T {F : Nat} {aa : Int} {ac : Int} {ak : Sl} {H : Hp} {v : AV} {H' : Hp} (h : dD.tw F aa ac ak H = some (v, H')) : Go.AE.T Try.prog 62 [(.agg [(.int .i64 aa), (.int .i64 ac), (.sl ak)])] H v H' :=
 Go.AE.T.of (Y := tabs) (C := mkOrc (dD.cs F (eC.tw F) (aV.tw F))) (PN := dD.pn) (LH := dD.lh F (eC.tw F) (aV.tw F)) (F := F) (TB := dD.tb) (fn := Try.f62) (code := dD.code) mixed tabs_ok (mkOrc_ok (dD.cs_ok F)) Try.func62 (by kernel_rfl) (by kernel_rfl) dD.ok (Nat.le_of_ble_eq_true (by kernel_rfl)) (dD.loops F (eC.tw F) (aV.tw F)) (Eq.trans (dD.eqX F (eC.tw F) (aV.tw F) aa ac ak H) h)
theorem dD.mk_T {F : Nat} {args : List AV} {H : Hp} {v : AV} {H' : Hp} (h : dD.mk (dD.tw F) args H = some (v, H')) : Go.AE.T Try.prog 62 args H v H' := by
 unfold dD.mk at h
 split at h
 ·exact dD.T h
 ·cases h
noncomputable def bz.j2 (F : Nat) (gN : Int → Int → Sl → Hp → OA) (ah : Int → Int → Sl → Int → Int → Hp → OA) (C125_ : Nat → Nat → Sl → Int → Int → Hp → OA) (qD : Nat) (zD : Nat) (zE : Sl) (oL : Int) (oM : Int) (H132 : Hp) : OA := C125_ qD zD zE oL (IntKind.i64.wrap (oM + 1)) H132
noncomputable def bz.l125 (F : Nat) (gN : Int → Int → Sl → Hp → OA) (ah : Int → Int → Sl → Int → Int → Hp → OA)  : Nat → Nat → Nat → Sl → Int → Int → Hp → OA
 | 0, _, _, _, _, _, _ => none
 | vm + 1, iU, ki, kD, iV, hN, H76 => (bif (decide (hN < iV)) then ((Hp.ldI H76 .i64 iU (ki + 6)).bind fun n105 => (Hp.ldI H76 .i64 iU ((ki + 6) + 1)).bind fun n106 => (Hp.ldSl H76 iU ((ki + 6) + 2)).bind fun s107 => (ah n105 n106 s107 hN hN H76).bind fun r108 => ((r108.1).asP).bind fun p109 => (Hp.ldI r108.2 .i64 p109.1 p109.2).bind fun n110 => (bif (n110 != 0) then ((Hp.new r108.2 [(.int .i64 n110)]).bind fun H111 => (Sl.row H111 (⟨some (r108.2.length, 0), 1, .ex 1⟩ : Sl) 1).bind fun xs113 => (Hp.app H111 1 8 kD (⟨some (r108.2.length, 0), 1, .ex 1⟩ : Sl).n xs113).bind fun a112 => bz.j2 F gN ah (bz.l125 F gN ah vm) iU ki a112.1 iV hN a112.2) else (bz.j2 F gN ah (bz.l125 F gN ah vm) iU ki kD iV hN r108.2))) else (some ((.tup [(.sl kD), (.int .i64 0)]), H76)))
termination_by structural n => n
noncomputable def bz.twX (F : Nat) (gN : Int → Int → Sl → Hp → OA) (ah : Int → Int → Sl → Int → Int → Hp → OA) (aa : Int) (ac : Int) (ak : Sl) (H : Hp) : OA := (Hp.new H [(.int .i64 aa), (.int .i64 ac), (.sl ak)]).bind fun H4 => (Hp.ldI H4 .i64 H.length 0).bind fun n5 => (Hp.ldI H4 .i64 H.length (0 + 1)).bind fun n6 => (Hp.ldSl H4 H.length (0 + 2)).bind fun s7 => (gN n5 n6 s7 H4).bind fun r8 => ((r8.1).asTup 2).bind fun l9 => (l9[0]?).bind fun v10 => ((v10).asAgg 15).bind fun l11 => (l11[0]?).bind fun v12 => ((v12).asI .i64).bind fun n13 => (l11[1]?).bind fun v14 => ((v14).asI .i64).bind fun n15 => (l11[2]?).bind fun v16 => ((v16).asSl).bind fun s17 => (l11[3]?).bind fun v18 => ((v18).asI .i64).bind fun n19 => (l11[4]?).bind fun v20 => ((v20).asI .i64).bind fun n21 => (l11[5]?).bind fun v22 => ((v22).asSl).bind fun s23 => (l11[6]?).bind fun v24 => ((v24).asI .i64).bind fun n25 => (l11[7]?).bind fun v26 => ((v26).asI .i64).bind fun n27 => (l11[8]?).bind fun v28 => ((v28).asSl).bind fun s29 => (l11[9]?).bind fun v30 => ((v30).asI .i64).bind fun n31 => (l11[10]?).bind fun v32 => ((v32).asI .i64).bind fun n33 => (l11[11]?).bind fun v34 => ((v34).asSl).bind fun s35 => (l11[12]?).bind fun v36 => ((v36).asI .i64).bind fun n37 => (l11[13]?).bind fun v38 => ((v38).asI .i64).bind fun n39 => (l11[14]?).bind fun v40 => ((v40).asSl).bind fun s41 => (l9[1]?).bind fun v42 => ((v42).asI .i64).bind fun n43 => (Hp.new r8.2 [.int .i64 0, .int .i64 0, .sl ⟨none, 0, .ex 0⟩, .int .i64 0, .int .i64 0, .sl ⟨none, 0, .ex 0⟩, .int .i64 0, .int .i64 0, .sl ⟨none, 0, .ex 0⟩, .int .i64 0, .int .i64 0, .sl ⟨none, 0, .ex 0⟩, .int .i64 0, .int .i64 0, .sl ⟨none, 0, .ex 0⟩]).bind fun H44 => (Hp.st H44 r8.2.length 0 (.int .i64 n13)).bind fun H45 => (Hp.st H45 r8.2.length (0 + 1) (.int .i64 n15)).bind fun H46 => (Hp.st H46 r8.2.length (0 + 1 + 1) (.sl s17)).bind fun H47 => (Hp.st H47 r8.2.length (0 + 1 + 1 + 1) (.int .i64 n19)).bind fun H48 => (Hp.st H48 r8.2.length (0 + 1 + 1 + 1 + 1) (.int .i64 n21)).bind fun H49 => (Hp.st H49 r8.2.length (0 + 1 + 1 + 1 + 1 + 1) (.sl s23)).bind fun H50 => (Hp.st H50 r8.2.length (0 + 1 + 1 + 1 + 1 + 1 + 1) (.int .i64 n25)).bind fun H51 => (Hp.st H51 r8.2.length (0 + 1 + 1 + 1 + 1 + 1 + 1 + 1) (.int .i64 n27)).bind fun H52 => (Hp.st H52 r8.2.length (0 + 1 + 1 + 1 + 1 + 1 + 1 + 1 + 1) (.sl s29)).bind fun H53 => (Hp.st H53 r8.2.length (0 + 1 + 1 + 1 + 1 + 1 + 1 + 1 + 1 + 1) (.int .i64 n31)).bind fun H54 => (Hp.st H54 r8.2.length (0 + 1 + 1 + 1 + 1 + 1 + 1 + 1 + 1 + 1 + 1) (.int .i64 n33)).bind fun H55 => (Hp.st H55 r8.2.length (0 + 1 + 1 + 1 + 1 + 1 + 1 + 1 + 1 + 1 + 1 + 1) (.sl s35)).bind fun H56 => (Hp.st H56 r8.2.length (0 + 1 + 1 + 1 + 1 + 1 + 1 + 1 + 1 + 1 + 1 + 1 + 1) (.int .i64 n37)).bind fun H57 => (Hp.st H57 r8.2.length (0 + 1 + 1 + 1 + 1 + 1 + 1 + 1 + 1 + 1 + 1 + 1 + 1 + 1) (.int .i64 n39)).bind fun H58 => (Hp.st H58 r8.2.length (0 + 1 + 1 + 1 + 1 + 1 + 1 + 1 + 1 + 1 + 1 + 1 + 1 + 1 + 1) (.sl s41)).bind fun H59 => (bif (n43 != 0) then (some ((.tup [(.sl (⟨none, 0, .ex 0⟩ : Sl)), (.int .i64 n43)]), H59)) else ((Hp.ldI H59 .i64 H.length 0).bind fun n60 => (Hp.ldI H59 .i64 H.length 1).bind fun n61 => bz.l125 F gN ah F r8.2.length 0 (⟨none, 0, .ex 0⟩ : Sl) (if n61 < n60 then n61 else n60) 0 H59))
noncomputable def bz.tw (F : Nat) (aa : Int) (ac : Int) (ak : Sl) (H : Hp) : OA := bz.twX F (dD.tw F) (aO.tw F) aa ac ak H
noncomputable def bz.code : Go.Code := (Try.f63.body).getD .skip
noncomputable def bz.lh125 (F : Nat) (gN : Int → Int → Sl → Hp → OA) (ah : Int → Int → Sl → Int → Int → Hp → OA) (ks : List Nat) (n : Nat) (tm : Tm) (H : Hp) : OA := match ks, tm 4, tm 6, tm 21, tm 22 with
 | [], (.ptr iU ki), (.sl kD), (.int .i64 iV), (.int .i64 hN) => bz.l125 F gN ah n iU ki kD iV hN H
 | _, _, _, _, _ => none
theorem bz.lh125_inv {F : Nat} {gN : Int → Int → Sl → Hp → OA} {ah : Int → Int → Sl → Int → Int → Hp → OA} {ks : List Nat} {n : Nat} {tm : Tm} {H : Hp} {r : AV × Hp} (h : bz.lh125 F gN ah ks n tm H = some r) : ∃ iU : Nat, ∃ ki : Nat, ∃ kD : Sl, ∃ iV : Int, ∃ hN : Int, ks = [] ∧ tm 4 = (.ptr iU ki) ∧ tm 6 = (.sl kD) ∧ tm 21 = (.int .i64 iV) ∧ tm 22 = (.int .i64 hN) ∧ bz.l125 F gN ah n iU ki kD iV hN H = some r := by
 unfold bz.lh125 at h
 split at h
 ·exact ⟨_, _, _, _, _, rfl, by assumption, by assumption, by assumption, by assumption, h⟩
 ·cases h
noncomputable def bz.lh (F : Nat) (gN : Int → Int → Sl → Hp → OA) (ah : Int → Int → Sl → Int → Int → Hp → OA) (p : Nat) (ks : List Nat) (n : Nat) (tm : Tm) (H : Hp) : OA := bif p.beq 125 then bz.lh125 F gN ah ks n tm H else (none)
def bz.pn : Nat → List Nat := fun i => (([] : List (Nat × List Nat)).lookup i).getD []
def bz.tb : Nat → List (List Nat) := fun i => (([] : List (Nat × List (List Nat))).lookup i).getD []
noncomputable def bz.mk (g : Int → Int → Sl → Hp → OA) (args : List AV) (H : Hp) : OA := match args with
 | [(.agg [(.int .i64 aa), (.int .i64 ac), (.sl ak)])] => g aa ac ak H
 | _ => none
noncomputable def bz.cs (F : Nat) (gN : Int → Int → Sl → Hp → OA) (ah : Int → Int → Sl → Int → Int → Hp → OA) : List (FuncId × (List AV → Hp → OA)) := [(62, dD.mk gN), (95, aO.mk ah)]
theorem bz.loops (F : Nat) (gN : Int → Int → Sl → Hp → OA) (ah : Int → Int → Sl → Int → Int → Hp → OA) : LoopsOk tabs (mkOrc (bz.cs F gN ah)) bz.pn (bz.lh F gN ah) F [] 1 bz.code (fun tm H => aresults tabs.ty H tm Try.f63.results.toList fun v => some (v, H)) (fun _ _ _ => none) (fun tm H => aresults tabs.ty H tm Try.f63.results.toList fun v => some (v, H)) := by
 refine LoopsOk.seq ?_ ?_
 ·exact loops_none (by kernel_rfl)
 ·refine LoopsOk.seq ?_ ?_
  ·exact loops_none (by kernel_rfl)
  ·refine LoopsOk.seq ?_ ?_
   ·exact loops_none (by kernel_rfl)
   ·refine LoopsOk.seq ?_ ?_
    ·exact loops_none (by kernel_rfl)
    ·refine LoopsOk.seq ?_ ?_
     ·refine LoopsOk.seq ?_ ?_
      ·exact loops_none (by kernel_rfl)
      ·refine LoopsOk.block ?_
       refine LoopsOk.loop (fun tm H => ?_) (fun k125 tm H r h0 => ?_) (fun k125 => ?_)
       ·refine none_of fun r h0 => ?_
        obtain ⟨iU, ki, kD, iV, hN, hks, e4, e6, e21, e22, h⟩ := bz.lh125_inv (show bz.lh125 F gN ah [] 0 tm H = some r from h0)
        cases h
       ·obtain ⟨iU, ki, kD, iV, hN, hks, e4, e6, e21, e22, h⟩ := bz.lh125_inv (show bz.lh125 F gN ah [] (k125 + 1) tm H = some r from h0)
        have q0 : (Tm.put tm 4 (.ptr iU ki)) = tm := by exact Tm.put_same e4
        have q1 : (Tm.put (Tm.put tm 4 (.ptr iU ki)) 6 (.sl kD)) = tm := by rw [q0]; exact Tm.put_same e6
        have q2 : (Tm.put (Tm.put (Tm.put tm 4 (.ptr iU ki)) 6 (.sl kD)) 21 (.int .i64 iV)) = tm := by rw [q1]; exact Tm.put_same e21
        have q3 : (Tm.put (Tm.put (Tm.put (Tm.put tm 4 (.ptr iU ki)) 6 (.sl kD)) 21 (.int .i64 iV)) 22 (.int .i64 hN)) = tm := by rw [q2]; exact Tm.put_same e22
        rw [← q3]
        exact Eq.trans (by kernel_rfl) h
       ·exact loops_none (by kernel_rfl)
     ·exact loops_none (by kernel_rfl)
theorem bz.eqX (F : Nat) (gN : Int → Int → Sl → Hp → OA) (ah : Int → Int → Sl → Int → Int → Hp → OA) (aa : Int) (ac : Int) (ak : Sl) (H : Hp) : aCode tabs (mkOrc (bz.cs F gN ah)) bz.pn (bz.lh F gN ah) F [] 1 bz.code (argTm [(.agg [(.int .i64 aa), (.int .i64 ac), (.sl ak)])]) H (fun tm H => aresults tabs.ty H tm Try.f63.results.toList fun v => some (v, H)) (fun _ _ _ => none) (fun tm H => aresults tabs.ty H tm Try.f63.results.toList fun v => some (v, H)) = bz.twX F gN ah aa ac ak H := by kernel_rfl
theorem bz.cs_ok (F : Nat) : ∀ p ∈ bz.cs F (dD.tw F) (aO.tw F), ∀ args H v H', p.2 args H = some (v, H') → Go.AE.T Try.prog p.1 args H v H' := by
 intro p hp
 simp only [bz.cs, List.mem_cons, List.not_mem_nil, or_false] at hp
 rcases hp with rfl | rfl
 ·exact fun args H v H' h => dD.mk_T h
 ·exact fun args H v H' h => aO.mk_T h
theorem bz.ok : codeOk bz.pn Try.f63.ntmps bz.tb bz.code = true := by kernel_rfl
theorem bz.T {F : Nat} {aa : Int} {ac : Int} {ak : Sl} {H : Hp} {v : AV} {H' : Hp} (h : bz.tw F aa ac ak H = some (v, H')) : Go.AE.T Try.prog 63 [(.agg [(.int .i64 aa), (.int .i64 ac), (.sl ak)])] H v H' :=
 Go.AE.T.of (Y := tabs) (C := mkOrc (bz.cs F (dD.tw F) (aO.tw F))) (PN := bz.pn) (LH := bz.lh F (dD.tw F) (aO.tw F)) (F := F) (TB := bz.tb) (fn := Try.f63) (code := bz.code) mixed tabs_ok (mkOrc_ok (bz.cs_ok F)) Try.func63 (by kernel_rfl) (by kernel_rfl) bz.ok (Nat.le_of_ble_eq_true (by kernel_rfl)) (bz.loops F (dD.tw F) (aO.tw F)) (Eq.trans (bz.eqX F (dD.tw F) (aO.tw F) aa ac ak H) h)
theorem bz.mk_T {F : Nat} {args : List AV} {H : Hp} {v : AV} {H' : Hp} (h : bz.mk (bz.tw F) args H = some (v, H')) : Go.AE.T Try.prog 63 args H v H' := by
 unfold bz.mk at h
 split at h
 ·exact bz.T h
 ·cases h
noncomputable def dF.twX (F : Nat) (lq : Int → Int → Sl → Hp → OA) (lr : Int → Int → Sl → Hp → OA) (aa : Int) (ac : Int) (ak : Sl) (H : Hp) : OA := (Hp.new H [(.int .i64 aa), (.int .i64 ac), (.sl ak)]).bind fun H4 => (Hp.ldI H4 .i64 H.length 0).bind fun n5 => (Hp.ldI H4 .i64 H.length (0 + 1)).bind fun n6 => (Hp.ldSl H4 H.length (0 + 2)).bind fun s7 => (lq n5 n6 s7 H4).bind fun r8 => ((r8.1).asB).bind fun b9 => (bif (!b9) then (some ((.tup [(.sl (⟨none, 0, .ex 0⟩ : Sl)), (.int .i64 1)]), r8.2)) else ((Hp.ldI r8.2 .i64 H.length 0).bind fun n10 => (Hp.ldI r8.2 .i64 H.length (0 + 1)).bind fun n11 => (Hp.ldSl r8.2 H.length (0 + 2)).bind fun s12 => (lr n10 n11 s12 r8.2).bind fun r13 => ((r13.1).asTup 2).bind fun l14 => (l14[0]?).bind fun v15 => ((v15).asSl).bind fun s16 => (l14[1]?).bind fun v17 => ((v17).asI .i64).bind fun n18 => some ((.tup [(.sl s16), (.int .i64 n18)]), r13.2)))
noncomputable def dF.tw (F : Nat) (aa : Int) (ac : Int) (ak : Sl) (H : Hp) : OA := dF.twX F (dL.tw F) (bz.tw F) aa ac ak H
noncomputable def dF.code : Go.Code := (Try.f17.body).getD .skip
noncomputable def dF.lh (F : Nat) (lq : Int → Int → Sl → Hp → OA) (lr : Int → Int → Sl → Hp → OA) (p : Nat) (ks : List Nat) (n : Nat) (tm : Tm) (H : Hp) : OA := none
def dF.pn : Nat → List Nat := fun i => (([] : List (Nat × List Nat)).lookup i).getD []
def dF.tb : Nat → List (List Nat) := fun i => (([] : List (Nat × List (List Nat))).lookup i).getD []
noncomputable def dF.mk (g : Int → Int → Sl → Hp → OA) (args : List AV) (H : Hp) : OA := match args with
 | [(.agg [(.int .i64 aa), (.int .i64 ac), (.sl ak)])] => g aa ac ak H
 | _ => none
noncomputable def dF.cs (F : Nat) (lq : Int → Int → Sl → Hp → OA) (lr : Int → Int → Sl → Hp → OA) : List (FuncId × (List AV → Hp → OA)) := [(61, dL.mk lq), (63, bz.mk lr)]
theorem dF.loops (F : Nat) (lq : Int → Int → Sl → Hp → OA) (lr : Int → Int → Sl → Hp → OA) : LoopsOk tabs (mkOrc (dF.cs F lq lr)) dF.pn (dF.lh F lq lr) F [] 1 dF.code (fun tm H => aresults tabs.ty H tm Try.f17.results.toList fun v => some (v, H)) (fun _ _ _ => none) (fun tm H => aresults tabs.ty H tm Try.f17.results.toList fun v => some (v, H)) := by
 exact loops_none (by kernel_rfl)
theorem dF.eqX (F : Nat) (lq : Int → Int → Sl → Hp → OA) (lr : Int → Int → Sl → Hp → OA) (aa : Int) (ac : Int) (ak : Sl) (H : Hp) : aCode tabs (mkOrc (dF.cs F lq lr)) dF.pn (dF.lh F lq lr) F [] 1 dF.code (argTm [(.agg [(.int .i64 aa), (.int .i64 ac), (.sl ak)])]) H (fun tm H => aresults tabs.ty H tm Try.f17.results.toList fun v => some (v, H)) (fun _ _ _ => none) (fun tm H => aresults tabs.ty H tm Try.f17.results.toList fun v => some (v, H)) = dF.twX F lq lr aa ac ak H := by kernel_rfl
theorem dF.cs_ok (F : Nat) : ∀ p ∈ dF.cs F (dL.tw F) (bz.tw F), ∀ args H v H', p.2 args H = some (v, H') → Go.AE.T Try.prog p.1 args H v H' := by
 intro p hp
 simp only [dF.cs, List.mem_cons, List.not_mem_nil, or_false] at hp
 rcases hp with rfl | rfl
 ·exact fun args H v H' h => dL.mk_T h
 ·exact fun args H v H' h => bz.mk_T h
theorem dF.ok : codeOk dF.pn Try.f17.ntmps dF.tb dF.code = true := by kernel_rfl
theorem dF.T {F : Nat} {aa : Int} {ac : Int} {ak : Sl} {H : Hp} {v : AV} {H' : Hp} (h : dF.tw F aa ac ak H = some (v, H')) : Go.AE.T Try.prog 17 [(.agg [(.int .i64 aa), (.int .i64 ac), (.sl ak)])] H v H' :=
 Go.AE.T.of (Y := tabs) (C := mkOrc (dF.cs F (dL.tw F) (bz.tw F))) (PN := dF.pn) (LH := dF.lh F (dL.tw F) (bz.tw F)) (F := F) (TB := dF.tb) (fn := Try.f17) (code := dF.code) mixed tabs_ok (mkOrc_ok (dF.cs_ok F)) Try.func17 (by kernel_rfl) (by kernel_rfl) dF.ok (Nat.le_of_ble_eq_true (by kernel_rfl)) (dF.loops F (dL.tw F) (bz.tw F)) (Eq.trans (dF.eqX F (dL.tw F) (bz.tw F) aa ac ak H) h)
theorem dF.mk_T {F : Nat} {args : List AV} {H : Hp} {v : AV} {H' : Hp} (h : dF.mk (dF.tw F) args H = some (v, H')) : Go.AE.T Try.prog 17 args H v H' := by
 unfold dF.mk at h
 split at h
 ·exact dF.T h
 ·cases h
noncomputable def bJ.l29 (F : Nat)  : Nat → Sl → Sl → Int → Hp → OA
 | 0, _, _, _, _ => none
 | eN + 1, cX, ep, iN, H8 => (bif (decide (iN < (cX.n : Int))) then ((Sl.idx cX iN 1).bind fun p13 => (Hp.ldI H8 .i64 p13.1 p13.2).bind fun n14 => (Sl.idx ep iN 1).bind fun p15 => (Hp.ldI H8 .i64 p15.1 p15.2).bind fun n16 => (bif (n14 != n16) then (some ((.bool false), H8)) else (bJ.l29 F eN cX ep (IntKind.i64.wrap (iN + 1)) H8))) else (some ((.bool true), H8)))
termination_by structural n => n
noncomputable def bJ.twX (F : Nat) (aa : Sl) (ag : Sl) (H : Hp) : OA := (bif ((aa.n : Int) != (ag.n : Int)) then (some ((.bool false), H)) else (bJ.l29 F F aa ag 0 H))
noncomputable def bJ.tw (F : Nat) (aa : Sl) (ag : Sl) (H : Hp) : OA := bJ.twX F aa ag H
noncomputable def bJ.code : Go.Code := (Try.f29.body).getD .skip
noncomputable def bJ.lh29 (F : Nat) (ks : List Nat) (n : Nat) (tm : Tm) (H : Hp) : OA := match ks, tm 0, tm 1, tm 5 with
 | [], (.sl cX), (.sl ep), (.int .i64 iN) => bJ.l29 F n cX ep iN H
 | _, _, _, _ => none
theorem bJ.lh29_inv {F : Nat} {ks : List Nat} {n : Nat} {tm : Tm} {H : Hp} {r : AV × Hp} (h : bJ.lh29 F ks n tm H = some r) : ∃ cX : Sl, ∃ ep : Sl, ∃ iN : Int, ks = [] ∧ tm 0 = (.sl cX) ∧ tm 1 = (.sl ep) ∧ tm 5 = (.int .i64 iN) ∧ bJ.l29 F n cX ep iN H = some r := by
 unfold bJ.lh29 at h
 split at h
 ·exact ⟨_, _, _, rfl, by assumption, by assumption, by assumption, h⟩
 ·cases h
noncomputable def bJ.lh (F : Nat) (p : Nat) (ks : List Nat) (n : Nat) (tm : Tm) (H : Hp) : OA := bif p.beq 29 then bJ.lh29 F ks n tm H else (none)
def bJ.pn : Nat → List Nat := fun i => (([(6, [])] : List (Nat × List Nat)).lookup i).getD []
def bJ.tb : Nat → List (List Nat) := fun i => (([(6, [[], [], [0, 1], [0, 1, 2], [], [], [4, 5], [4, 5, 6], [0, 1, 2, 3, 4, 5, 6, 7]])] : List (Nat × List (List Nat))).lookup i).getD []
noncomputable def bJ.mk (g : Sl → Sl → Hp → OA) (args : List AV) (H : Hp) : OA := match args with
 | [(.sl aa), (.sl ag)] => g aa ag H
 | _ => none
noncomputable def bJ.cs (F : Nat) : List (FuncId × (List AV → Hp → OA)) := []
theorem bJ.loops (F : Nat) : LoopsOk tabs (mkOrc (bJ.cs F)) bJ.pn (bJ.lh F) F [] 1 bJ.code (fun tm H => aresults tabs.ty H tm Try.f29.results.toList fun v => some (v, H)) (fun _ _ _ => none) (fun tm H => aresults tabs.ty H tm Try.f29.results.toList fun v => some (v, H)) := by
 refine LoopsOk.seq ?_ ?_
 ·exact loops_none (by kernel_rfl)
 ·refine LoopsOk.seq ?_ ?_
  ·exact loops_none (by kernel_rfl)
  ·refine LoopsOk.seq ?_ ?_
   ·refine LoopsOk.seq ?_ ?_
    ·exact loops_none (by kernel_rfl)
    ·refine LoopsOk.block ?_
     refine LoopsOk.loop (fun tm H => ?_) (fun k29 tm H r h0 => ?_) (fun k29 => ?_)
     ·refine none_of fun r h0 => ?_
      obtain ⟨cX, ep, iN, hks, e0, e1, e5, h⟩ := bJ.lh29_inv (show bJ.lh29 F [] 0 tm H = some r from h0)
      cases h
     ·obtain ⟨cX, ep, iN, hks, e0, e1, e5, h⟩ := bJ.lh29_inv (show bJ.lh29 F [] (k29 + 1) tm H = some r from h0)
      have q0 : (Tm.put tm 0 (.sl cX)) = tm := by exact Tm.put_same e0
      have q1 : (Tm.put (Tm.put tm 0 (.sl cX)) 1 (.sl ep)) = tm := by rw [q0]; exact Tm.put_same e1
      have q2 : (Tm.put (Tm.put (Tm.put tm 0 (.sl cX)) 1 (.sl ep)) 5 (.int .i64 iN)) = tm := by rw [q1]; exact Tm.put_same e5
      rw [← q2]
      exact Eq.trans (by kernel_rfl) h
     ·exact loops_none (by kernel_rfl)
   ·exact loops_none (by kernel_rfl)
theorem bJ.eqX (F : Nat) (aa : Sl) (ag : Sl) (H : Hp) : aCode tabs (mkOrc (bJ.cs F)) bJ.pn (bJ.lh F) F [] 1 bJ.code (argTm [(.sl aa), (.sl ag)]) H (fun tm H => aresults tabs.ty H tm Try.f29.results.toList fun v => some (v, H)) (fun _ _ _ => none) (fun tm H => aresults tabs.ty H tm Try.f29.results.toList fun v => some (v, H)) = bJ.twX F aa ag H := by kernel_rfl
theorem bJ.cs_ok (F : Nat) : ∀ p ∈ bJ.cs F, ∀ args H v H', p.2 args H = some (v, H') → Go.AE.T Try.prog p.1 args H v H' := by
 intro p hp
 exact absurd (show p ∈ [] from hp) List.not_mem_nil
theorem bJ.ok : codeOk bJ.pn Try.f29.ntmps bJ.tb bJ.code = true := by kernel_rfl
theorem bJ.T {F : Nat} {aa : Sl} {ag : Sl} {H : Hp} {v : AV} {H' : Hp} (h : bJ.tw F aa ag H = some (v, H')) : Go.AE.T Try.prog 29 [(.sl aa), (.sl ag)] H v H' :=
 Go.AE.T.of (Y := tabs) (C := mkOrc (bJ.cs F)) (PN := bJ.pn) (LH := bJ.lh F) (F := F) (TB := bJ.tb) (fn := Try.f29) (code := bJ.code) mixed tabs_ok (mkOrc_ok (bJ.cs_ok F)) Try.func29 (by kernel_rfl) (by kernel_rfl) bJ.ok (Nat.le_of_ble_eq_true (by kernel_rfl)) (bJ.loops F) (Eq.trans (bJ.eqX F aa ag H) h)
theorem bJ.mk_T {F : Nat} {args : List AV} {H : Hp} {v : AV} {H' : Hp} (h : bJ.mk (bJ.tw F) args H = some (v, H')) : Go.AE.T Try.prog 29 args H v H' := by
 unfold bJ.mk at h
 split at h
 ·exact bJ.T h
 ·cases h
noncomputable def dQ.twX (F : Nat) (gT : Sl → Sl → Hp → OA) (aa : Int) (ac : Int) (ak : Sl) (af : Int) (bu : Int) (kO : Sl) (H : Hp) : OA := (Hp.new H [(.int .i64 aa), (.int .i64 ac), (.sl ak)]).bind fun H7 => (Hp.new H7 [(.int .i64 af), (.int .i64 bu), (.sl kO)]).bind fun H8 => (Hp.ldI H8 .i64 H.length 0).bind fun n9 => (Hp.ldI H8 .i64 H7.length 0).bind fun n10 => (bif (n9 != n10) then (some ((.bool false), H8)) else ((Hp.ldI H8 .i64 H.length 1).bind fun n11 => (Hp.ldI H8 .i64 H7.length 1).bind fun n12 => (bif (n11 != n12) then (some ((.bool false), H8)) else ((Hp.ldSl H8 H.length 2).bind fun s13 => (Hp.ldSl H8 H7.length 2).bind fun s14 => (gT s13 s14 H8).bind fun r15 => ((r15.1).asB).bind fun b16 => (bif (!b16) then (some ((.bool false), r15.2)) else (some ((.bool true), r15.2)))))))
noncomputable def dQ.tw (F : Nat) (aa : Int) (ac : Int) (ak : Sl) (af : Int) (bu : Int) (kO : Sl) (H : Hp) : OA := dQ.twX F (bJ.tw F) aa ac ak af bu kO H
noncomputable def dQ.code : Go.Code := (Try.f27.body).getD .skip
noncomputable def dQ.lh (F : Nat) (gT : Sl → Sl → Hp → OA) (p : Nat) (ks : List Nat) (n : Nat) (tm : Tm) (H : Hp) : OA := none
def dQ.pn : Nat → List Nat := fun i => (([] : List (Nat × List Nat)).lookup i).getD []
def dQ.tb : Nat → List (List Nat) := fun i => (([] : List (Nat × List (List Nat))).lookup i).getD []
noncomputable def dQ.mk (g : Int → Int → Sl → Int → Int → Sl → Hp → OA) (args : List AV) (H : Hp) : OA := match args with
 | [(.agg [(.int .i64 aa), (.int .i64 ac), (.sl ak)]), (.agg [(.int .i64 af), (.int .i64 bu), (.sl kO)])] => g aa ac ak af bu kO H
 | _ => none
noncomputable def dQ.cs (F : Nat) (gT : Sl → Sl → Hp → OA) : List (FuncId × (List AV → Hp → OA)) := [(29, bJ.mk gT)]
theorem dQ.loops (F : Nat) (gT : Sl → Sl → Hp → OA) : LoopsOk tabs (mkOrc (dQ.cs F gT)) dQ.pn (dQ.lh F gT) F [] 1 dQ.code (fun tm H => aresults tabs.ty H tm Try.f27.results.toList fun v => some (v, H)) (fun _ _ _ => none) (fun tm H => aresults tabs.ty H tm Try.f27.results.toList fun v => some (v, H)) := by
 exact loops_none (by kernel_rfl)
theorem dQ.eqX (F : Nat) (gT : Sl → Sl → Hp → OA) (aa : Int) (ac : Int) (ak : Sl) (af : Int) (bu : Int) (kO : Sl) (H : Hp) : aCode tabs (mkOrc (dQ.cs F gT)) dQ.pn (dQ.lh F gT) F [] 1 dQ.code (argTm [(.agg [(.int .i64 aa), (.int .i64 ac), (.sl ak)]), (.agg [(.int .i64 af), (.int .i64 bu), (.sl kO)])]) H (fun tm H => aresults tabs.ty H tm Try.f27.results.toList fun v => some (v, H)) (fun _ _ _ => none) (fun tm H => aresults tabs.ty H tm Try.f27.results.toList fun v => some (v, H)) = dQ.twX F gT aa ac ak af bu kO H := by kernel_rfl
theorem dQ.cs_ok (F : Nat) : ∀ p ∈ dQ.cs F (bJ.tw F), ∀ args H v H', p.2 args H = some (v, H') → Go.AE.T Try.prog p.1 args H v H' := by
 intro p hp
 simp only [dQ.cs, List.mem_cons, List.not_mem_nil, or_false] at hp
 subst hp
 exact fun args H v H' h => bJ.mk_T h
theorem dQ.ok : codeOk dQ.pn Try.f27.ntmps dQ.tb dQ.code = true := by kernel_rfl
theorem dQ.T {F : Nat} {aa : Int} {ac : Int} {ak : Sl} {af : Int} {bu : Int} {kO : Sl} {H : Hp} {v : AV} {H' : Hp} (h : dQ.tw F aa ac ak af bu kO H = some (v, H')) : Go.AE.T Try.prog 27 [(.agg [(.int .i64 aa), (.int .i64 ac), (.sl ak)]), (.agg [(.int .i64 af), (.int .i64 bu), (.sl kO)])] H v H' :=
 Go.AE.T.of (Y := tabs) (C := mkOrc (dQ.cs F (bJ.tw F))) (PN := dQ.pn) (LH := dQ.lh F (bJ.tw F)) (F := F) (TB := dQ.tb) (fn := Try.f27) (code := dQ.code) mixed tabs_ok (mkOrc_ok (dQ.cs_ok F)) Try.func27 (by kernel_rfl) (by kernel_rfl) dQ.ok (Nat.le_of_ble_eq_true (by kernel_rfl)) (dQ.loops F (bJ.tw F)) (Eq.trans (dQ.eqX F (bJ.tw F) aa ac ak af bu kO H) h)
theorem dQ.mk_T {F : Nat} {args : List AV} {H : Hp} {v : AV} {H' : Hp} (h : dQ.mk (dQ.tw F) args H = some (v, H')) : Go.AE.T Try.prog 27 args H v H' := by
 unfold dQ.mk at h
 split at h
 ·exact dQ.T h
 ·cases h
noncomputable def bP.l13 (F : Nat)  : Nat → Sl → Int → Int → Hp → OA
 | 0, _, _, _, _ => none
 | hB + 1, cX, ep, fv, H7 => (bif (decide (fv < (cX.n : Int))) then ((Sl.idx cX fv 1).bind fun p10 => (Hp.st H7 p10.1 p10.2 (.int .i64 ep)).bind fun H11 => bP.l13 F hB cX (IntKind.i64.wrap (ep + 1)) (IntKind.i64.wrap (fv + 1)) H11) else (some ((.int .i64 ep), H7)))
termination_by structural n => n
noncomputable def bP.twX (F : Nat) (aa : Sl) (ag : Int) (H : Hp) : OA := bP.l13 F F aa ag 0 H
noncomputable def bP.tw (F : Nat) (aa : Sl) (ag : Int) (H : Hp) : OA := bP.twX F aa ag H
noncomputable def bP.code : Go.Code := (Try.f31.body).getD .skip
noncomputable def bP.lh13 (F : Nat) (ks : List Nat) (n : Nat) (tm : Tm) (H : Hp) : OA := match ks, tm 0, tm 1, tm 5 with
 | [], (.sl cX), (.int .i64 ep), (.int .i64 fv) => bP.l13 F n cX ep fv H
 | _, _, _, _ => none
theorem bP.lh13_inv {F : Nat} {ks : List Nat} {n : Nat} {tm : Tm} {H : Hp} {r : AV × Hp} (h : bP.lh13 F ks n tm H = some r) : ∃ cX : Sl, ∃ ep : Int, ∃ fv : Int, ks = [] ∧ tm 0 = (.sl cX) ∧ tm 1 = (.int .i64 ep) ∧ tm 5 = (.int .i64 fv) ∧ bP.l13 F n cX ep fv H = some r := by
 unfold bP.lh13 at h
 split at h
 ·exact ⟨_, _, _, rfl, by assumption, by assumption, by assumption, h⟩
 ·cases h
noncomputable def bP.lh (F : Nat) (p : Nat) (ks : List Nat) (n : Nat) (tm : Tm) (H : Hp) : OA := bif p.beq 13 then bP.lh13 F ks n tm H else (none)
def bP.pn : Nat → List Nat := fun i => (([] : List (Nat × List Nat)).lookup i).getD []
def bP.tb : Nat → List (List Nat) := fun i => (([] : List (Nat × List (List Nat))).lookup i).getD []
noncomputable def bP.mk (g : Sl → Int → Hp → OA) (args : List AV) (H : Hp) : OA := match args with
 | [(.sl aa), (.int .i64 ag)] => g aa ag H
 | _ => none
noncomputable def bP.cs (F : Nat) : List (FuncId × (List AV → Hp → OA)) := []
theorem bP.loops (F : Nat) : LoopsOk tabs (mkOrc (bP.cs F)) bP.pn (bP.lh F) F [] 1 bP.code (fun tm H => aresults tabs.ty H tm Try.f31.results.toList fun v => some (v, H)) (fun _ _ _ => none) (fun tm H => aresults tabs.ty H tm Try.f31.results.toList fun v => some (v, H)) := by
 refine LoopsOk.seq ?_ ?_
 ·exact loops_none (by kernel_rfl)
 ·refine LoopsOk.seq ?_ ?_
  ·refine LoopsOk.seq ?_ ?_
   ·exact loops_none (by kernel_rfl)
   ·refine LoopsOk.block ?_
    refine LoopsOk.loop (fun tm H => ?_) (fun k13 tm H r h0 => ?_) (fun k13 => ?_)
    ·refine none_of fun r h0 => ?_
     obtain ⟨cX, ep, fv, hks, e0, e1, e5, h⟩ := bP.lh13_inv (show bP.lh13 F [] 0 tm H = some r from h0)
     cases h
    ·obtain ⟨cX, ep, fv, hks, e0, e1, e5, h⟩ := bP.lh13_inv (show bP.lh13 F [] (k13 + 1) tm H = some r from h0)
     have q0 : (Tm.put tm 0 (.sl cX)) = tm := by exact Tm.put_same e0
     have q1 : (Tm.put (Tm.put tm 0 (.sl cX)) 1 (.int .i64 ep)) = tm := by rw [q0]; exact Tm.put_same e1
     have q2 : (Tm.put (Tm.put (Tm.put tm 0 (.sl cX)) 1 (.int .i64 ep)) 5 (.int .i64 fv)) = tm := by rw [q1]; exact Tm.put_same e5
     rw [← q2]
     exact Eq.trans (by kernel_rfl) h
    ·exact loops_none (by kernel_rfl)
  ·exact loops_none (by kernel_rfl)
theorem bP.eqX (F : Nat) (aa : Sl) (ag : Int) (H : Hp) : aCode tabs (mkOrc (bP.cs F)) bP.pn (bP.lh F) F [] 1 bP.code (argTm [(.sl aa), (.int .i64 ag)]) H (fun tm H => aresults tabs.ty H tm Try.f31.results.toList fun v => some (v, H)) (fun _ _ _ => none) (fun tm H => aresults tabs.ty H tm Try.f31.results.toList fun v => some (v, H)) = bP.twX F aa ag H := by kernel_rfl
theorem bP.cs_ok (F : Nat) : ∀ p ∈ bP.cs F, ∀ args H v H', p.2 args H = some (v, H') → Go.AE.T Try.prog p.1 args H v H' := by
 intro p hp
 exact absurd (show p ∈ [] from hp) List.not_mem_nil
theorem bP.ok : codeOk bP.pn Try.f31.ntmps bP.tb bP.code = true := by kernel_rfl
theorem bP.T {F : Nat} {aa : Sl} {ag : Int} {H : Hp} {v : AV} {H' : Hp} (h : bP.tw F aa ag H = some (v, H')) : Go.AE.T Try.prog 31 [(.sl aa), (.int .i64 ag)] H v H' :=
 Go.AE.T.of (Y := tabs) (C := mkOrc (bP.cs F)) (PN := bP.pn) (LH := bP.lh F) (F := F) (TB := bP.tb) (fn := Try.f31) (code := bP.code) mixed tabs_ok (mkOrc_ok (bP.cs_ok F)) Try.func31 (by kernel_rfl) (by kernel_rfl) bP.ok (Nat.le_of_ble_eq_true (by kernel_rfl)) (bP.loops F) (Eq.trans (bP.eqX F aa ag H) h)
theorem bP.mk_T {F : Nat} {args : List AV} {H : Hp} {v : AV} {H' : Hp} (h : bP.mk (bP.tw F) args H = some (v, H')) : Go.AE.T Try.prog 31 args H v H' := by
 unfold bP.mk at h
 split at h
 ·exact bP.T h
 ·cases h
noncomputable def dR.twX (F : Nat) (hY : Sl → Int → Hp → OA) (aa : Int) (ac : Int) (ak : Sl) (af : Int) (H : Hp) : OA := (Hp.new H [(.int .i64 aa), (.int .i64 ac), (.sl ak)]).bind fun H5 => (Hp.ldSl H5 H.length 2).bind fun s6 => (hY s6 af H5).bind fun r7 => ((r7.1).asI .i64).bind fun n8 => some ((.int .i64 n8), r7.2)
noncomputable def dR.tw (F : Nat) (aa : Int) (ac : Int) (ak : Sl) (af : Int) (H : Hp) : OA := dR.twX F (bP.tw F) aa ac ak af H
noncomputable def dR.code : Go.Code := (Try.f30.body).getD .skip
noncomputable def dR.lh (F : Nat) (hY : Sl → Int → Hp → OA) (p : Nat) (ks : List Nat) (n : Nat) (tm : Tm) (H : Hp) : OA := none
def dR.pn : Nat → List Nat := fun i => (([] : List (Nat × List Nat)).lookup i).getD []
def dR.tb : Nat → List (List Nat) := fun i => (([] : List (Nat × List (List Nat))).lookup i).getD []
noncomputable def dR.mk (g : Int → Int → Sl → Int → Hp → OA) (args : List AV) (H : Hp) : OA := match args with
 | [(.agg [(.int .i64 aa), (.int .i64 ac), (.sl ak)]), (.int .i64 af)] => g aa ac ak af H
 | _ => none
noncomputable def dR.cs (F : Nat) (hY : Sl → Int → Hp → OA) : List (FuncId × (List AV → Hp → OA)) := [(31, bP.mk hY)]
theorem dR.loops (F : Nat) (hY : Sl → Int → Hp → OA) : LoopsOk tabs (mkOrc (dR.cs F hY)) dR.pn (dR.lh F hY) F [] 1 dR.code (fun tm H => aresults tabs.ty H tm Try.f30.results.toList fun v => some (v, H)) (fun _ _ _ => none) (fun tm H => aresults tabs.ty H tm Try.f30.results.toList fun v => some (v, H)) := by
 exact loops_none (by kernel_rfl)
theorem dR.eqX (F : Nat) (hY : Sl → Int → Hp → OA) (aa : Int) (ac : Int) (ak : Sl) (af : Int) (H : Hp) : aCode tabs (mkOrc (dR.cs F hY)) dR.pn (dR.lh F hY) F [] 1 dR.code (argTm [(.agg [(.int .i64 aa), (.int .i64 ac), (.sl ak)]), (.int .i64 af)]) H (fun tm H => aresults tabs.ty H tm Try.f30.results.toList fun v => some (v, H)) (fun _ _ _ => none) (fun tm H => aresults tabs.ty H tm Try.f30.results.toList fun v => some (v, H)) = dR.twX F hY aa ac ak af H := by kernel_rfl
theorem dR.cs_ok (F : Nat) : ∀ p ∈ dR.cs F (bP.tw F), ∀ args H v H', p.2 args H = some (v, H') → Go.AE.T Try.prog p.1 args H v H' := by
 intro p hp
 simp only [dR.cs, List.mem_cons, List.not_mem_nil, or_false] at hp
 subst hp
 exact fun args H v H' h => bP.mk_T h
theorem dR.ok : codeOk dR.pn Try.f30.ntmps dR.tb dR.code = true := by kernel_rfl
theorem dR.T {F : Nat} {aa : Int} {ac : Int} {ak : Sl} {af : Int} {H : Hp} {v : AV} {H' : Hp} (h : dR.tw F aa ac ak af H = some (v, H')) : Go.AE.T Try.prog 30 [(.agg [(.int .i64 aa), (.int .i64 ac), (.sl ak)]), (.int .i64 af)] H v H' :=
 Go.AE.T.of (Y := tabs) (C := mkOrc (dR.cs F (bP.tw F))) (PN := dR.pn) (LH := dR.lh F (bP.tw F)) (F := F) (TB := dR.tb) (fn := Try.f30) (code := dR.code) mixed tabs_ok (mkOrc_ok (dR.cs_ok F)) Try.func30 (by kernel_rfl) (by kernel_rfl) dR.ok (Nat.le_of_ble_eq_true (by kernel_rfl)) (dR.loops F (bP.tw F)) (Eq.trans (dR.eqX F (bP.tw F) aa ac ak af H) h)
theorem dR.mk_T {F : Nat} {args : List AV} {H : Hp} {v : AV} {H' : Hp} (h : dR.mk (dR.tw F) args H = some (v, H')) : Go.AE.T Try.prog 30 args H v H' := by
 unfold dR.mk at h
 split at h
 ·exact dR.T h
 ·cases h
noncomputable def cn.l13 (F : Nat)  : Nat → Sl → Int → Int → Hp → OA
 | 0, _, _, _, _ => none
 | hB + 1, cX, ep, fv, H7 => (bif (decide (fv < (cX.n : Int))) then ((Sl.idx cX fv 1).bind fun p10 => (Hp.ldI H7 .i64 p10.1 p10.2).bind fun n11 => (bif (n11 != ep) then (some ((.int .i64 (-1)), H7)) else (cn.l13 F hB cX (IntKind.i64.wrap (ep + 1)) (IntKind.i64.wrap (fv + 1)) H7))) else (some ((.int .i64 ep), H7)))
termination_by structural n => n
noncomputable def cn.twX (F : Nat) (aa : Sl) (ag : Int) (H : Hp) : OA := cn.l13 F F aa ag 0 H
noncomputable def cn.tw (F : Nat) (aa : Sl) (ag : Int) (H : Hp) : OA := cn.twX F aa ag H
noncomputable def cn.code : Go.Code := (Try.f32.body).getD .skip
noncomputable def cn.lh13 (F : Nat) (ks : List Nat) (n : Nat) (tm : Tm) (H : Hp) : OA := match ks, tm 0, tm 1, tm 5 with
 | [], (.sl cX), (.int .i64 ep), (.int .i64 fv) => cn.l13 F n cX ep fv H
 | _, _, _, _ => none
theorem cn.lh13_inv {F : Nat} {ks : List Nat} {n : Nat} {tm : Tm} {H : Hp} {r : AV × Hp} (h : cn.lh13 F ks n tm H = some r) : ∃ cX : Sl, ∃ ep : Int, ∃ fv : Int, ks = [] ∧ tm 0 = (.sl cX) ∧ tm 1 = (.int .i64 ep) ∧ tm 5 = (.int .i64 fv) ∧ cn.l13 F n cX ep fv H = some r := by
 unfold cn.lh13 at h
 split at h
 ·exact ⟨_, _, _, rfl, by assumption, by assumption, by assumption, h⟩
 ·cases h
noncomputable def cn.lh (F : Nat) (p : Nat) (ks : List Nat) (n : Nat) (tm : Tm) (H : Hp) : OA := bif p.beq 13 then cn.lh13 F ks n tm H else (none)
def cn.pn : Nat → List Nat := fun i => (([] : List (Nat × List Nat)).lookup i).getD []
def cn.tb : Nat → List (List Nat) := fun i => (([] : List (Nat × List (List Nat))).lookup i).getD []
noncomputable def cn.mk (g : Sl → Int → Hp → OA) (args : List AV) (H : Hp) : OA := match args with
 | [(.sl aa), (.int .i64 ag)] => g aa ag H
 | _ => none
noncomputable def cn.cs (F : Nat) : List (FuncId × (List AV → Hp → OA)) := []
theorem cn.loops (F : Nat) : LoopsOk tabs (mkOrc (cn.cs F)) cn.pn (cn.lh F) F [] 1 cn.code (fun tm H => aresults tabs.ty H tm Try.f32.results.toList fun v => some (v, H)) (fun _ _ _ => none) (fun tm H => aresults tabs.ty H tm Try.f32.results.toList fun v => some (v, H)) := by
 refine LoopsOk.seq ?_ ?_
 ·exact loops_none (by kernel_rfl)
 ·refine LoopsOk.seq ?_ ?_
  ·refine LoopsOk.seq ?_ ?_
   ·exact loops_none (by kernel_rfl)
   ·refine LoopsOk.block ?_
    refine LoopsOk.loop (fun tm H => ?_) (fun k13 tm H r h0 => ?_) (fun k13 => ?_)
    ·refine none_of fun r h0 => ?_
     obtain ⟨cX, ep, fv, hks, e0, e1, e5, h⟩ := cn.lh13_inv (show cn.lh13 F [] 0 tm H = some r from h0)
     cases h
    ·obtain ⟨cX, ep, fv, hks, e0, e1, e5, h⟩ := cn.lh13_inv (show cn.lh13 F [] (k13 + 1) tm H = some r from h0)
     have q0 : (Tm.put tm 0 (.sl cX)) = tm := by exact Tm.put_same e0
     have q1 : (Tm.put (Tm.put tm 0 (.sl cX)) 1 (.int .i64 ep)) = tm := by rw [q0]; exact Tm.put_same e1
     have q2 : (Tm.put (Tm.put (Tm.put tm 0 (.sl cX)) 1 (.int .i64 ep)) 5 (.int .i64 fv)) = tm := by rw [q1]; exact Tm.put_same e5
     rw [← q2]
     exact Eq.trans (by kernel_rfl) h
    ·exact loops_none (by kernel_rfl)
  ·exact loops_none (by kernel_rfl)
theorem cn.eqX (F : Nat) (aa : Sl) (ag : Int) (H : Hp) : aCode tabs (mkOrc (cn.cs F)) cn.pn (cn.lh F) F [] 1 cn.code (argTm [(.sl aa), (.int .i64 ag)]) H (fun tm H => aresults tabs.ty H tm Try.f32.results.toList fun v => some (v, H)) (fun _ _ _ => none) (fun tm H => aresults tabs.ty H tm Try.f32.results.toList fun v => some (v, H)) = cn.twX F aa ag H := by kernel_rfl
theorem cn.cs_ok (F : Nat) : ∀ p ∈ cn.cs F, ∀ args H v H', p.2 args H = some (v, H') → Go.AE.T Try.prog p.1 args H v H' := by
 intro p hp
 exact absurd (show p ∈ [] from hp) List.not_mem_nil
theorem cn.ok : codeOk cn.pn Try.f32.ntmps cn.tb cn.code = true := by kernel_rfl
theorem cn.T {F : Nat} {aa : Sl} {ag : Int} {H : Hp} {v : AV} {H' : Hp} (h : cn.tw F aa ag H = some (v, H')) : Go.AE.T Try.prog 32 [(.sl aa), (.int .i64 ag)] H v H' :=
 Go.AE.T.of (Y := tabs) (C := mkOrc (cn.cs F)) (PN := cn.pn) (LH := cn.lh F) (F := F) (TB := cn.tb) (fn := Try.f32) (code := cn.code) mixed tabs_ok (mkOrc_ok (cn.cs_ok F)) Try.func32 (by kernel_rfl) (by kernel_rfl) cn.ok (Nat.le_of_ble_eq_true (by kernel_rfl)) (cn.loops F) (Eq.trans (cn.eqX F aa ag H) h)
theorem cn.mk_T {F : Nat} {args : List AV} {H : Hp} {v : AV} {H' : Hp} (h : cn.mk (cn.tw F) args H = some (v, H')) : Go.AE.T Try.prog 32 args H v H' := by
 unfold cn.mk at h
 split at h
 ·exact cn.T h
 ·cases h
noncomputable def es.twX (F : Nat) (ls : Int → Int → Sl → Int → Hp → OA) (kw : Int → Int → Sl → Hp → OA) (lu : Int → Int → Sl → Hp → OA) (kP : Int → Int → Sl → Hp → OA) (gT : Sl → Sl → Hp → OA) (lv : Int → Int → Sl → Int → Int → Sl → Hp → OA) (lw : Int → Int → Sl → Int → Hp → OA) (hY : Sl → Int → Hp → OA) (kQ : Sl → Int → Hp → OA) (aa : Int) (ac : Int) (ak : Sl) (H : Hp) : OA := (Hp.new H [(.int .i64 aa), (.int .i64 ac), (.sl ak)]).bind fun H4 => (Hp.ldI H4 .i64 H.length 0).bind fun n5 => (Hp.ldI H4 .i64 H.length (0 + 1)).bind fun n6 => (Hp.ldSl H4 H.length (0 + 2)).bind fun s7 => (ls n5 n6 s7 1048576 H4).bind fun r8 => ((r8.1).asI .i64).bind fun n9 => (bif (decide (n9 < 0)) then (some ((.bool true), r8.2)) else ((Hp.ldI r8.2 .i64 H.length 0).bind fun n10 => (Hp.ldI r8.2 .i64 H.length (0 + 1)).bind fun n11 => (Hp.ldSl r8.2 H.length (0 + 2)).bind fun s12 => (kw n10 n11 s12 r8.2).bind fun r13 => ((r13.1).asAgg 3).bind fun l14 => (l14[0]?).bind fun v15 => ((v15).asI .i64).bind fun n16 => (l14[1]?).bind fun v17 => ((v17).asI .i64).bind fun n18 => (l14[2]?).bind fun v19 => ((v19).asSl).bind fun s20 => (lu n16 n18 s20 r13.2).bind fun r21 => ((r21.1).asTup 2).bind fun l22 => (l22[0]?).bind fun v23 => ((v23).asSl).bind fun s24 => (l22[1]?).bind fun v25 => ((v25).asI .i64).bind fun n26 => (Hp.ldI r21.2 .i64 H.length 0).bind fun n27 => (Hp.ldI r21.2 .i64 H.length (0 + 1)).bind fun n28 => (Hp.ldSl r21.2 H.length (0 + 2)).bind fun s29 => (kw n27 n28 s29 r21.2).bind fun r30 => ((r30.1).asAgg 3).bind fun l31 => (l31[0]?).bind fun v32 => ((v32).asI .i64).bind fun n33 => (l31[1]?).bind fun v34 => ((v34).asI .i64).bind fun n35 => (l31[2]?).bind fun v36 => ((v36).asSl).bind fun s37 => (Hp.new r30.2 [.int .i64 0, .int .i64 0, .sl ⟨none, 0, .ex 0⟩]).bind fun H38 => (Hp.st H38 r30.2.length 0 (.int .i64 n33)).bind fun H39 => (Hp.st H39 r30.2.length (0 + 1) (.int .i64 n35)).bind fun H40 => (Hp.st H40 r30.2.length (0 + 1 + 1) (.sl s37)).bind fun H41 => (Hp.ldI H41 .i64 r30.2.length 0).bind fun n42 => (Hp.ldI H41 .i64 r30.2.length (0 + 1)).bind fun n43 => (Hp.ldSl H41 r30.2.length (0 + 2)).bind fun s44 => (kP n42 n43 s44 H41).bind fun r45 => ((r45.1).asTup 2).bind fun l46 => (l46[0]?).bind fun v47 => ((v47).asSl).bind fun s48 => (l46[1]?).bind fun v49 => ((v49).asI .i64).bind fun n50 => (gT s48 s24 r45.2).bind fun r51 => ((r51.1).asB).bind fun b52 => (bif (!b52) then (some ((.bool false), r51.2)) else ((bif (n50 != n26) then (some ((.bool false), r51.2)) else ((Hp.ldI r51.2 .i64 r30.2.length 0).bind fun n53 => (Hp.ldI r51.2 .i64 r30.2.length (0 + 1)).bind fun n54 => (Hp.ldSl r51.2 r30.2.length (0 + 2)).bind fun s55 => (Hp.ldI r51.2 .i64 H.length 0).bind fun n56 => (Hp.ldI r51.2 .i64 H.length (0 + 1)).bind fun n57 => (Hp.ldSl r51.2 H.length (0 + 2)).bind fun s58 => (kw n56 n57 s58 r51.2).bind fun r59 => ((r59.1).asAgg 3).bind fun l60 => (l60[0]?).bind fun v61 => ((v61).asI .i64).bind fun n62 => (l60[1]?).bind fun v63 => ((v63).asI .i64).bind fun n64 => (l60[2]?).bind fun v65 => ((v65).asSl).bind fun s66 => (if Cons r51.2 r59.2 then ((lv n53 n54 s55 n62 n64 s66 r59.2).bind fun r67 => ((r67.1).asB).bind fun b68 => (bif (!b68) then (some ((.bool false), r67.2)) else ((Hp.ldI r67.2 .i64 r30.2.length 0).bind fun n69 => (Hp.ldI r67.2 .i64 r30.2.length (0 + 1)).bind fun n70 => (Hp.ldSl r67.2 r30.2.length (0 + 2)).bind fun s71 => (lw n69 n70 s71 1 r67.2).bind fun r72 => ((r72.1).asI .i64).bind fun n73 => (bif (decide (n73 < 0)) then (some ((.bool false), r72.2)) else ((gT s48 s24 r72.2).bind fun r74 => ((r74.1).asB).bind fun b75 => (bif (!b75) then (some ((.bool false), r74.2)) else ((bif (n50 != n26) then (some ((.bool false), r74.2)) else ((hY s48 1 r74.2).bind fun r76 => ((r76.1).asI .i64).bind fun n77 => (kQ s48 1 r76.2).bind fun r78 => ((r78.1).asI .i64).bind fun n79 => (bif (decide (n79 < 0)) then (some ((.bool false), r78.2)) else ((bif (n79 != n77) then (some ((.bool false), r78.2)) else ((Hp.ldI r78.2 .i64 H.length 0).bind fun n80 => (Hp.ldI r78.2 .i64 H.length (0 + 1)).bind fun n81 => (Hp.ldSl r78.2 H.length (0 + 2)).bind fun s82 => (kw n80 n81 s82 r78.2).bind fun r83 => ((r83.1).asAgg 3).bind fun l84 => (l84[0]?).bind fun v85 => ((v85).asI .i64).bind fun n86 => (l84[1]?).bind fun v87 => ((v87).asI .i64).bind fun n88 => (l84[2]?).bind fun v89 => ((v89).asSl).bind fun s90 => (kP n86 n88 s90 r83.2).bind fun r91 => ((r91.1).asTup 2).bind fun l92 => (l92[0]?).bind fun v93 => ((v93).asSl).bind fun s94 => (l92[1]?).bind fun v95 => ((v95).asI .i64).bind fun n96 => (gT s94 s24 r91.2).bind fun r97 => ((r97.1).asB).bind fun b98 => (bif (!b98) then (some ((.bool false), r97.2)) else ((bif (n96 != n26) then (some ((.bool false), r97.2)) else ((kQ s48 1 r97.2).bind fun r99 => ((r99.1).asI .i64).bind fun n100 => (bif (decide (n100 < 0)) then (some ((.bool false), r99.2)) else ((bif (n100 != n77) then (some ((.bool false), r99.2)) else (some ((.bool true), r99.2)))))))))))))))))))))) else none)))))))
noncomputable def es.tw (F : Nat) (aa : Int) (ac : Int) (ak : Sl) (H : Hp) : OA := es.twX F (dH.tw F) (du.tw F) (dJ.tw F) (dF.tw F) (bJ.tw F) (dQ.tw F) (dR.tw F) (bP.tw F) (cn.tw F) aa ac ak H
noncomputable def es.code : Go.Code := (Try.f5.body).getD .skip
noncomputable def es.lh (F : Nat) (ls : Int → Int → Sl → Int → Hp → OA) (kw : Int → Int → Sl → Hp → OA) (lu : Int → Int → Sl → Hp → OA) (kP : Int → Int → Sl → Hp → OA) (gT : Sl → Sl → Hp → OA) (lv : Int → Int → Sl → Int → Int → Sl → Hp → OA) (lw : Int → Int → Sl → Int → Hp → OA) (hY : Sl → Int → Hp → OA) (kQ : Sl → Int → Hp → OA) (p : Nat) (ks : List Nat) (n : Nat) (tm : Tm) (H : Hp) : OA := none
def es.pn : Nat → List Nat := fun i => (([(10, [3])] : List (Nat × List Nat)).lookup i).getD []
def es.tb : Nat → List (List Nat) := fun i => (([(10, [[], [], [1], [0, 1, 2], [0, 1, 2, 3]])] : List (Nat × List (List Nat))).lookup i).getD []
noncomputable def es.mk (g : Int → Int → Sl → Hp → OA) (args : List AV) (H : Hp) : OA := match args with
 | [(.agg [(.int .i64 aa), (.int .i64 ac), (.sl ak)])] => g aa ac ak H
 | _ => none
noncomputable def es.cs (F : Nat) (ls : Int → Int → Sl → Int → Hp → OA) (kw : Int → Int → Sl → Hp → OA) (lu : Int → Int → Sl → Hp → OA) (kP : Int → Int → Sl → Hp → OA) (gT : Sl → Sl → Hp → OA) (lv : Int → Int → Sl → Int → Int → Sl → Hp → OA) (lw : Int → Int → Sl → Int → Hp → OA) (hY : Sl → Int → Hp → OA) (kQ : Sl → Int → Hp → OA) : List (FuncId × (List AV → Hp → OA)) := [(23, dH.mk ls), (25, du.mk kw), (28, dJ.mk lu), (17, dF.mk kP), (29, bJ.mk gT), (27, dQ.mk lv), (30, dR.mk lw), (31, bP.mk hY), (32, cn.mk kQ)]
theorem es.loops (F : Nat) (ls : Int → Int → Sl → Int → Hp → OA) (kw : Int → Int → Sl → Hp → OA) (lu : Int → Int → Sl → Hp → OA) (kP : Int → Int → Sl → Hp → OA) (gT : Sl → Sl → Hp → OA) (lv : Int → Int → Sl → Int → Int → Sl → Hp → OA) (lw : Int → Int → Sl → Int → Hp → OA) (hY : Sl → Int → Hp → OA) (kQ : Sl → Int → Hp → OA) : LoopsOk tabs (mkOrc (es.cs F ls kw lu kP gT lv lw hY kQ)) es.pn (es.lh F ls kw lu kP gT lv lw hY kQ) F [] 1 es.code (fun tm H => aresults tabs.ty H tm Try.f5.results.toList fun v => some (v, H)) (fun _ _ _ => none) (fun tm H => aresults tabs.ty H tm Try.f5.results.toList fun v => some (v, H)) := by
 exact loops_none (by kernel_rfl)
theorem es.eqX (F : Nat) (ls : Int → Int → Sl → Int → Hp → OA) (kw : Int → Int → Sl → Hp → OA) (lu : Int → Int → Sl → Hp → OA) (kP : Int → Int → Sl → Hp → OA) (gT : Sl → Sl → Hp → OA) (lv : Int → Int → Sl → Int → Int → Sl → Hp → OA) (lw : Int → Int → Sl → Int → Hp → OA) (hY : Sl → Int → Hp → OA) (kQ : Sl → Int → Hp → OA) (aa : Int) (ac : Int) (ak : Sl) (H : Hp) : aCode tabs (mkOrc (es.cs F ls kw lu kP gT lv lw hY kQ)) es.pn (es.lh F ls kw lu kP gT lv lw hY kQ) F [] 1 es.code (argTm [(.agg [(.int .i64 aa), (.int .i64 ac), (.sl ak)])]) H (fun tm H => aresults tabs.ty H tm Try.f5.results.toList fun v => some (v, H)) (fun _ _ _ => none) (fun tm H => aresults tabs.ty H tm Try.f5.results.toList fun v => some (v, H)) = es.twX F ls kw lu kP gT lv lw hY kQ aa ac ak H := by kernel_rfl
theorem es.cs_ok (F : Nat) : ∀ p ∈ es.cs F (dH.tw F) (du.tw F) (dJ.tw F) (dF.tw F) (bJ.tw F) (dQ.tw F) (dR.tw F) (bP.tw F) (cn.tw F), ∀ args H v H', p.2 args H = some (v, H') → Go.AE.T Try.prog p.1 args H v H' := by
 intro p hp
 simp only [es.cs, List.mem_cons, List.not_mem_nil, or_false] at hp
 rcases hp with rfl | rfl | rfl | rfl | rfl | rfl | rfl | rfl | rfl
 ·exact fun args H v H' h => dH.mk_T h
 ·exact fun args H v H' h => du.mk_T h
 ·exact fun args H v H' h => dJ.mk_T h
 ·exact fun args H v H' h => dF.mk_T h
 ·exact fun args H v H' h => bJ.mk_T h
 ·exact fun args H v H' h => dQ.mk_T h
 ·exact fun args H v H' h => dR.mk_T h
 ·exact fun args H v H' h => bP.mk_T h
 ·exact fun args H v H' h => cn.mk_T h
theorem es.ok : codeOk es.pn Try.f5.ntmps es.tb es.code = true := by kernel_rfl
theorem es.T {F : Nat} {aa : Int} {ac : Int} {ak : Sl} {H : Hp} {v : AV} {H' : Hp} (h : es.tw F aa ac ak H = some (v, H')) : Go.AE.T Try.prog 5 [(.agg [(.int .i64 aa), (.int .i64 ac), (.sl ak)])] H v H' :=
 Go.AE.T.of (Y := tabs) (C := mkOrc (es.cs F (dH.tw F) (du.tw F) (dJ.tw F) (dF.tw F) (bJ.tw F) (dQ.tw F) (dR.tw F) (bP.tw F) (cn.tw F))) (PN := es.pn) (LH := es.lh F (dH.tw F) (du.tw F) (dJ.tw F) (dF.tw F) (bJ.tw F) (dQ.tw F) (dR.tw F) (bP.tw F) (cn.tw F)) (F := F) (TB := es.tb) (fn := Try.f5) (code := es.code) mixed tabs_ok (mkOrc_ok (es.cs_ok F)) Try.func5 (by kernel_rfl) (by kernel_rfl) es.ok (Nat.le_of_ble_eq_true (by kernel_rfl)) (es.loops F (dH.tw F) (du.tw F) (dJ.tw F) (dF.tw F) (bJ.tw F) (dQ.tw F) (dR.tw F) (bP.tw F) (cn.tw F)) (Eq.trans (es.eqX F (dH.tw F) (du.tw F) (dJ.tw F) (dF.tw F) (bJ.tw F) (dQ.tw F) (dR.tw F) (bP.tw F) (cn.tw F) aa ac ak H) h)
theorem es.mk_T {F : Nat} {args : List AV} {H : Hp} {v : AV} {H' : Hp} (h : es.mk (es.tw F) args H = some (v, H')) : Go.AE.T Try.prog 5 args H v H' := by
 unfold es.mk at h
 split at h
 ·exact es.T h
 ·cases h
end Go.Proofs.Ytnkgeongfneafaa.AE
