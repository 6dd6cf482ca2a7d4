import Derived.Test.YtnkgeongfneafaaT2
import Derived.Test.YtnkgeongfneafaaE2
set_option linter.unusedVariables false
set_option linter.unusedSimpArgs false
namespace Go.Proofs.Ytnkgeongfneafaa.AE
open Go Go.AE Go.Proofs
set_option linter.unusedVariables false
set_option maxHeartbeats 4000000
set_option maxRecDepth 100000
theorem aO.inl {F : Nat} {aa : Int} {ac : Int} {ai : Sl} {ag : Int} {bh : Int} {H : Hp} {K : AV × Hp → OA} {Q : AV → Hp → Prop} (h : ∃ u H1, ((Hp.new H [(.int .i64 aa), (.int .i64 ac), (.sl ai)]).bind fun H6 => (Hp.ldSl H6 H.length 2).bind fun s7 => (Hp.ldI H6 .i64 H.length 1).bind fun n8 => (Sl.idx s7 (IntKind.i64.wrap ((IntKind.i64.wrap (ag * n8)) + bh)) 1).bind fun p9 => some ((.ptr p9.1 p9.2), H6)) = some (u, H1) ∧ ∃ v H', K (u, H1) = some (v, H') ∧ Q v H') : ∃ v H', (aO.tw F aa ac ai ag bh H).bind K = some (v, H') ∧ Q v H' := inl_ex h
theorem cu.inl {F : Nat} {aa : Int} {ac : Int} {ai : Sl} {ag : Int} {H : Hp} {K : AV × Hp → OA} {Q : AV → Hp → Prop} (h : ∃ u H1, ((Hp.new H [(.int .i64 aa), (.int .i64 ac), (.sl ai)]).bind fun H5 => (Hp.ldSl H5 H.length 2).bind fun s6 => (Hp.ldI H5 .i64 H.length 1).bind fun n7 => (Hp.ldI H5 .i64 H.length 1).bind fun n8 => (Sl.cut s6 1 (IntKind.i64.wrap (ag * n7)) (IntKind.i64.wrap ((IntKind.i64.wrap (ag + 1)) * n8))).bind fun s9 => some ((.sl s9), H5)) = some (u, H1) ∧ ∃ v H', K (u, H1) = some (v, H') ∧ Q v H') : ∃ v H', (cu.tw F aa ac ai ag H).bind K = some (v, H') ∧ Q v H' := inl_ex h
theorem dj.inl {F : Nat} {aa : Nat} {ac : Nat} {ae : Nat} {ag : Nat} {bh : Int} {jc : Int} {H : Hp} {K : AV × Hp → OA} {Q : AV → Hp → Prop} (h : ∃ u H1, ((dw.tw F bh jc 2000000000000 H).bind fun r7 => ((r7.1).asTup 2).bind fun l8 => (l8[0]?).bind fun v9 => ((v9).asI .i64).bind fun n10 => (l8[1]?).bind fun v11 => ((v11).asB).bind fun b12 => (Hp.ldI r7.2 .i64 ae ag).bind fun n13 => (Hp.st r7.2 ae ag (.int .i64 (IntKind.i64.wrap (n13 + n10)))).bind fun H14 => (bif (!b12) then ((Hp.st H14 aa (ac + 15) (.bool true)).bind fun H15 => (Hp.st H15 ae ag (.int .i64 0)).bind fun H16 => some ((.tup []), H16)) else ((Hp.ldI H14 .i64 ae ag).bind fun n17 => (ch.tw F n17 H14).bind fun r18 => ((r18.1).asI .i64).bind fun n19 => (bif (decide (n19 > 1000000000000)) then ((Hp.st r18.2 aa (ac + 15) (.bool true)).bind fun H20 => (Hp.st H20 ae ag (.int .i64 0)).bind fun H21 => some ((.tup []), H21)) else (some ((.tup []), r18.2)))))) = some (u, H1) ∧ ∃ v H', K (u, H1) = some (v, H') ∧ Q v H') : ∃ v H', (dj.tw F aa ac ae ag bh jc H).bind K = some (v, H') ∧ Q v H' := inl_ex h
theorem eu.inl {F : Nat} {aa : Int} {ac : Int} {ai : Sl} {H : Hp} {K : AV × Hp → OA} {Q : AV → Hp → Prop} (h : ∃ u H1, ((Hp.new H [(.int .i64 aa), (.int .i64 ac), (.sl ai)]).bind fun H4 => (Hp.ldI H4 .i64 H.length 0).bind fun n5 => (bM.tw F n5 H4).bind fun r6 => ((r6.1).asAgg 3).bind fun l7 => (l7[0]?).bind fun v8 => ((v8).asI .i64).bind fun n9 => (l7[1]?).bind fun v10 => ((v10).asI .i64).bind fun n11 => (l7[2]?).bind fun v12 => ((v12).asSl).bind fun s13 => (if Cons H4 r6.2 then ((Hp.ldI r6.2 .i64 H.length 0).bind fun n14 => (bM.tw F n14 r6.2).bind fun r15 => ((r15.1).asAgg 3).bind fun l16 => (l16[0]?).bind fun v17 => ((v17).asI .i64).bind fun n18 => (l16[1]?).bind fun v19 => ((v19).asI .i64).bind fun n20 => (l16[2]?).bind fun v21 => ((v21).asSl).bind fun s22 => (if Cons r6.2 r15.2 then ((Hp.ldI r15.2 .i64 H.length 0).bind fun n23 => (Hp.ldI r15.2 .i64 H.length (0 + 1)).bind fun n24 => (Hp.ldSl r15.2 H.length (0 + 2)).bind fun s25 => (dK.tw F n23 n24 s25 r15.2).bind fun r26 => ((r26.1).asAgg 3).bind fun l27 => (l27[0]?).bind fun v28 => ((v28).asI .i64).bind fun n29 => (l27[1]?).bind fun v30 => ((v30).asI .i64).bind fun n31 => (l27[2]?).bind fun v32 => ((v32).asSl).bind fun s33 => (if Cons r15.2 r26.2 then ((Hp.ldI r26.2 .i64 H.length 1).bind fun n34 => (bM.tw F n34 r26.2).bind fun r35 => ((r35.1).asAgg 3).bind fun l36 => (l36[0]?).bind fun v37 => ((v37).asI .i64).bind fun n38 => (l36[1]?).bind fun v39 => ((v39).asI .i64).bind fun n40 => (l36[2]?).bind fun v41 => ((v41).asSl).bind fun s42 => (if Cons r26.2 r35.2 then ((Hp.ldI r35.2 .i64 H.length 1).bind fun n43 => (bM.tw F n43 r35.2).bind fun r44 => ((r44.1).asAgg 3).bind fun l45 => (l45[0]?).bind fun v46 => ((v46).asI .i64).bind fun n47 => (l45[1]?).bind fun v48 => ((v48).asI .i64).bind fun n49 => (l45[2]?).bind fun v50 => ((v50).asSl).bind fun s51 => (Hp.new r44.2 [(.int .i64 n9), (.int .i64 n11), (.sl s13), (.int .i64 n18), (.int .i64 n20), (.sl s22), (.int .i64 n29), (.int .i64 n31), (.sl s33), (.int .i64 n38), (.int .i64 n40), (.sl s42), (.int .i64 n47), (.int .i64 n49), (.sl s51), (.bool false)]).bind fun H52 => some ((.ptr r44.2.length 0), H52)) else none)) else none)) else none)) else none)) = some (u, H1) ∧ ∃ v H', K (u, H1) = some (v, H') ∧ Q v H') : ∃ v H', (eu.tw F aa ac ai H).bind K = some (v, H') ∧ Q v H' := inl_ex h
def eb.Q (H0 : Hp) (Ri R0 : List Rs)  (r : Int) (v : AV) (H' : Hp) : Prop := v = (.int .i64 r) ∧ Out H0 Ri H' (R0) fun R => True
def eb.p (F : Nat) (dm : List Int) (ak : Int) : Option (Int) := (bif (decide ((IntKind.i64.wrap (ak - (dm.length : Int))) < 0)) then (some (-1)) else (some (IntKind.i64.wrap (ak - (dm.length : Int)))))
theorem eb.P {F : Nat} {fX : ON} {fg : Nat} {fY : Cap} {dm : List Int} {ak : Int} {H : Hp} {R0 : List Rs} (iN : fg = dm.length) (h0 : Inn H R0 fun R => ROs (eInt .i64) H R ⟨fX, fg, fY⟩ dm) {r : Int} (hp : eb.p F dm ak = some r) : ∃ v H', eb.tw F ⟨fX, fg, fY⟩ ak H = some (v, H') ∧ eb.Q H R0 R0  r v H' := by
 obtain ⟨w0, jS⟩ := h0
 subst iN
 unfold eb.p at hp
 unfold eb.tw eb.twX
 have s0 := w0.rf
 refine bif_ex (fun hb => ?_) (fun hb => ?_)
 ·replace hp := bif_t hb hp
  obtain rfl := Option.some.inj hp
  exact ⟨_, _, rfl, rfl, w0, s0, trivial⟩
 ·replace hp := bif_f hb hp
  obtain rfl := Option.some.inj hp
  exact ⟨_, _, rfl, rfl, w0, s0, trivial⟩
def dE.Q (H0 : Hp) (Ri R0 : List Rs)  (r : Int) (v : AV) (H' : Hp) : Prop := v = (.int .i64 r) ∧ Out H0 Ri H' (R0) fun R => True
def dE.p (F : Nat) (bj : List Int) (ag : Int) : Option (Int) := (eb.p F bj ag).bind fun r2 => (bif (decide (r2 < 0)) then (some (-1)) else (some r2))
theorem dE.P {F : Nat} {aa ac ag : Int} {cT : ON} {bJ : Nat} {cU : Cap} {bj : List Int} {H : Hp} {R0 : List Rs} (fp : bJ = bj.length) (h0 : Inn H R0 fun R => ROs (eInt .i64) H R ⟨cT, bJ, cU⟩ bj) {r : Int} (hp : dE.p F bj ag = some r) : ∃ v H', dE.tw F aa ac ⟨cT, bJ, cU⟩ ag H = some (v, H') ∧ dE.Q H R0 R0  r v H' := by
 obtain ⟨w0, eI⟩ := h0
 subst fp
 unfold dE.p at hp
 unfold dE.tw dE.twX
 have s0 := w0.rf
 refine new_k w0 fun H1 w1 s1 => ?_
 refine bind_ex (ldSl_of (w1.ld (i := 0) rfl rfl)) ?_
 obtain ⟨r2, e2, hp⟩ := bind_some' hp
 refine call_ex (eb.P rfl ⟨w1, (eI.step s1)⟩ e2) ?_
 rintro _ H3 ⟨rfl, w3, s3, _⟩
 refine bind_ex rfl ?_
 refine bif_ex (fun hb => ?_) (fun hb => ?_)
 ·replace hp := bif_t hb hp
  obtain ⟨w4, s4⟩ := w3.pick' [] 1 rfl rfl rfl
  dsimp only [pk, pks, nth, List.drop] at w4 s4
  obtain rfl := Option.some.inj hp
  exact ⟨_, _, rfl, rfl, w4, (s0.trans (s1.trans (s3.trans s4))), trivial⟩
 ·replace hp := bif_f hb hp
  obtain ⟨w5, s5⟩ := w3.pick' [] 1 rfl rfl rfl
  dsimp only [pk, pks, nth, List.drop] at w5 s5
  obtain rfl := Option.some.inj hp
  exact ⟨_, _, rfl, rfl, w5, (s0.trans (s1.trans (s3.trans s5))), trivial⟩
def co.Q (H0 : Hp) (Ri R0 : List Rs)  (r : List Int) (v : AV) (H' : Hp) : Prop := ∃ o0a : ON, ∃ o0n : Nat, ∃ o0c : Cap, ∃ o0k : List AV, v = (.sl ⟨o0a, o0n, o0c⟩) ∧ o0n = (r).length ∧ Out H0 Ri H' (Rs.own ⟨o0a, o0n, o0c⟩ (eInt .i64).z o0k :: R0) fun R => CR (eInt .i64) H' R o0k (r)
def co.S29 (H0 : Hp) (Ri R0 : List Rs)  (C : Sl → Sl → Int → Hp → OA) (pC : List Int → List Int → Int → Option (List Int)) : Prop := ∀ {lL qv : ON} {ln oX : Nat} {lM qw : Cap} {iO lN : List Int} {qx : List AV} {ia : Int}, ∀ {H : Hp}, ln = iO.length → oX = lN.length → (Out H0 Ri H (Rs.own ⟨qv, oX, qw⟩ (eInt .i64).z qx :: R0) fun R => ROs (eInt .i64) H R ⟨lL, ln, lM⟩ iO ∧ CR (eInt .i64) H R qx lN) → ∀ {r : List Int}, pC iO lN ia = some r → ∃ v H', C ⟨lL, ln, lM⟩ ⟨qv, oX, qw⟩ ia H = some (v, H') ∧ co.Q H0 Ri R0  r v H'
def co.pl29 (F : Nat)  : Nat → List Int → List Int → Int → Option (List Int)
 | 0, _, _, _ => none
 | k + 1, iO, lN, ia => (bif (decide (ia < (iO.length : Int))) then ((ix iO ia).bind fun n1 => (ix lN ia).bind fun n2 => (some (lN.set n2 (gt iO n1))).bind fun l3 => co.pl29 F k iO l3 (IntKind.i64.wrap (ia + 1))) else (some lN))
termination_by structural n => n
theorem co.l29_P {F : Nat} {H0 : Hp} {Ri R0 : List Rs}   : ∀ k, co.S29 H0 Ri R0  (co.l29 F   k) (co.pl29 F  k) := by
 intro k
 induction k with
 | zero =>
  intro lL qv ln oX lM qw iO lN qx ia H oY u_ h0 r hp
  exact nomatch (show (none : Option (List Int)) = some r from hp)
 | succ k ih =>
  intro lL qv ln oX lM qw iO lN qx ia H oY u_ h0 r hp
  obtain ⟨w0, s0, oZ, tk⟩ := h0
  subst oY
  subst u_
  unfold co.pl29 at hp
  unfold co.l29
  refine bif_ex (fun hb => ?_) (fun hb => ?_)
  ·replace hp := bif_t hb hp
   obtain ⟨n1, g1, hp⟩ := bind_some' hp
   obtain ⟨p1, q1, i1, h1, j1⟩ := ROs.ixr oZ rfl g1
   refine bind_ex i1 ?_
   have h1 : _ = [_] := h1
   subst h1
   refine bind_ex (ldI_of (j1 0 _ rfl)) ?_
   obtain ⟨n2, g2, hp⟩ := bind_some' hp
   obtain ⟨p2, q2, i2, h2, j2⟩ := W.ixo (E := (eInt .i64)) w0 (i := 0) rfl rfl tk g2
   refine bind_ex i2 ?_
   obtain ⟨l3, e3, hp⟩ := bind_some' hp
   refine sto_k (eInt .i64) w0 (i := 0) (j := 0) (p := p2) rfl rfl tk g2 i2 e3 rfl rfl (fun _ h => by have h : _ = [_] := h; subst h; exact rfl) fun H4 k4 w4 s4 c4 => ?_
   dsimp only [List.set] at w4 s4 c4
   exact ih rfl ((st_len e3).symm) ⟨w4, (s0.trans s4), (oZ.step s4), c4⟩ hp
  ·replace hp := bif_f hb hp
   obtain rfl := Option.some.inj hp
   exact ⟨_, _, rfl, _, _, _, _, rfl, rfl, w0, s0, tk⟩
def co.p (F : Nat) (dm : List Int) : Option (List Int) := (mkn (dm.length : Int) (0 : Int)).bind fun l1 => co.pl29 F F dm l1 0
theorem co.P {F : Nat} {fX : ON} {fg : Nat} {fY : Cap} {dm : List Int} {H : Hp} {R0 : List Rs} (iN : fg = dm.length) (h0 : Inn H R0 fun R => ROs (eInt .i64) H R ⟨fX, fg, fY⟩ dm) {r : List Int} (hp : co.p F dm = some r) : ∃ v H', co.tw F ⟨fX, fg, fY⟩ H = some (v, H') ∧ co.Q H R0 R0  r v H' := by
 obtain ⟨w0, jS⟩ := h0
 subst iN
 unfold co.p at hp
 unfold co.tw co.twX
 have s0 := w0.rf
 obtain ⟨l1, e1, hp⟩ := bind_some' hp
 refine mk_k (eInt .i64) (0 : Int) w0 rfl rfl rfl e1 fun H2 k2 w2 s2 c2 => ?_
 exact co.l29_P F rfl rfl ⟨w2, (s0.trans s2), (jS.step s2), c2⟩ hp
def dz.Q (H0 : Hp) (Ri R0 : List Rs)  (r : Int × Int × List Int) (v : AV) (H' : Hp) : Prop := ∃ o2a : ON, ∃ o2n : Nat, ∃ o2c : Cap, ∃ o2k : List AV, v = (.agg [(.int .i64 r.1), (.int .i64 r.2.1), (.sl ⟨o2a, o2n, o2c⟩)]) ∧ o2n = (r.2.2).length ∧ Out H0 Ri H' (Rs.own ⟨o2a, o2n, o2c⟩ (eInt .i64).z o2k :: R0) fun R => CR (eInt .i64) H' R o2k (r.2.2)
def dz.p (F : Nat) (aa : Int) (ac : Int) (bj : List Int) : Option (Int × Int × List Int) := (co.p F bj).bind fun r6 => some (aa, ac, r6)
theorem dz.P {F : Nat} {aa ac : Int} {cT : ON} {bJ : Nat} {cU : Cap} {bj : List Int} {H : Hp} {R0 : List Rs} (fp : bJ = bj.length) (h0 : Inn H R0 fun R => ROs (eInt .i64) H R ⟨cT, bJ, cU⟩ bj) {r : Int × Int × List Int} (hp : dz.p F aa ac bj = some r) : ∃ v H', dz.tw F aa ac ⟨cT, bJ, cU⟩ H = some (v, H') ∧ dz.Q H R0 R0  r v H' := by
 obtain ⟨w0, eI⟩ := h0
 subst fp
 unfold dz.p at hp
 unfold dz.tw dz.twX
 have s0 := w0.rf
 refine new_k w0 fun H1 w1 s1 => ?_
 refine new_k w1 fun H2 w2 s2 => ?_
 refine new_k w2 fun H3 w3 s3 => ?_
 refine bind_ex (ldI_of (w3.ld (i := 2) rfl rfl)) ?_
 refine st_k w3 (i := 0) rfl rfl rfl fun H4 w4 s4 => ?_
 dsimp only [List.set] at w4 s4
 refine bind_ex (ldI_of (w4.ld (i := 2) rfl rfl)) ?_
 refine st_k w4 (i := 0) rfl rfl rfl fun H5 w5 s5 => ?_
 dsimp only [List.set] at w5 s5
 refine bind_ex (ldSl_of (w5.ld (i := 2) rfl rfl)) ?_
 obtain ⟨r6, e6, hp⟩ := bind_some' hp
 refine call_ex (co.P rfl ⟨w5, (eI.step (s1.trans (s2.trans (s3.trans (s4.trans s5)))))⟩ e6) ?_
 rintro _ H7 ⟨o0a_7, o0n_7, o0c_7, o0k_7, rfl, rfl, w7, s7, f7_0⟩
 refine bind_ex rfl ?_
 refine st_k w7 (i := 1) rfl rfl rfl fun H8 w8 s8 => ?_
 dsimp only [List.set] at w8 s8
 refine bind_ex (ldI_of (w8.ld (i := 1) rfl rfl)) ?_
 refine bind_ex (ldI_of (w8.ld (i := 1) rfl rfl)) ?_
 refine bind_ex (ldSl_of (w8.ld (i := 1) rfl rfl)) ?_
 refine st_k w8 (i := 2) rfl rfl rfl fun H9 w9 s9 => ?_
 dsimp only [List.set] at w9 s9
 refine st_k w9 (i := 2) rfl rfl rfl fun H10 w10 s10 => ?_
 dsimp only [List.set] at w10 s10
 refine st_k w10 (i := 2) rfl rfl rfl fun H11 w11 s11 => ?_
 dsimp only [List.set] at w11 s11
 refine bind_ex (ldI_of (w11.ld (i := 2) rfl rfl)) ?_
 refine bind_ex (ldI_of (w11.ld (i := 2) rfl rfl)) ?_
 refine bind_ex (ldSl_of (w11.ld (i := 2) rfl rfl)) ?_
 obtain ⟨w12, s12⟩ := w11.pick' [0] 4 rfl rfl rfl
 dsimp only [pk, pks, nth, List.drop] at w12 s12
 obtain rfl := Option.some.inj hp
 exact ⟨_, _, rfl, _, _, _, _, rfl, rfl, w12, (s0.trans (s1.trans (s2.trans (s3.trans (s4.trans (s5.trans (s7.trans (s8.trans (s9.trans (s10.trans (s11.trans s12))))))))))), (f7_0.step (s8.trans (s9.trans (s10.trans (s11.trans s12)))))⟩
def dA.Q (H0 : Hp) (Ri R0 : List Rs)  (r : Bool) (v : AV) (H' : Hp) : Prop := v = (.bool r) ∧ Out H0 Ri H' (R0) fun R => True
def dA.p (F : Nat) (aa : Int) (ak : Int) (cH : Int) : Option (Bool) := (bif (decide (aa ≥ ak)) then (some (decide (aa ≤ cH))) else (some false))
theorem dA.P {F : Nat} {aa ak cH : Int} {H : Hp} {R0 : List Rs}  (h0 : Inn H R0 fun R => True) {r : Bool} (hp : dA.p F aa ak cH = some r) : ∃ v H', dA.tw F aa ak cH H = some (v, H') ∧ dA.Q H R0 R0  r v H' := by
 obtain ⟨w0, _⟩ := h0
 unfold dA.p at hp
 unfold dA.tw dA.twX
 have s0 := w0.rf
 refine bif_ex (fun hb => ?_) (fun hb => ?_)
 ·replace hp := bif_t hb hp
  obtain rfl := Option.some.inj hp
  exact ⟨_, _, rfl, rfl, w0, s0, trivial⟩
 ·replace hp := bif_f hb hp
  obtain rfl := Option.some.inj hp
  exact ⟨_, _, rfl, rfl, w0, s0, trivial⟩
def cl.Q (H0 : Hp) (Ri R0 : List Rs)  (r : Bool) (v : AV) (H' : Hp) : Prop := v = (.bool r) ∧ Out H0 Ri H' (R0) fun R => True
def cl.S29 (H0 : Hp) (Ri R0 : List Rs)  (C : Nat → Nat → Int → Hp → OA) (pC : List Int → Int → Option (Bool)) : Prop := ∀ {tl tn iV : Int} {qy : ON} {o_ jO : Nat} {qz : Cap} {lE : List Int}, ∀ {H : Hp}, o_ = lE.length → (Out H0 Ri H (Rs.blk jO [.int .i64 tl, .int .i64 tn, .sl ⟨qy, o_, qz⟩] :: R0) fun R => ROs (eInt .i64) H R ⟨qy, o_, qz⟩ lE) → ∀ {r : Bool}, pC lE iV = some r → ∃ v H', C jO 0 iV H = some (v, H') ∧ cl.Q H0 Ri R0  r v H'
def cl.pl29 (F : Nat)  : Nat → List Int → Int → Option (Bool)
 | 0, _, _ => none
 | k + 1, lE, iV => (bif (decide (iV < (lE.length : Int))) then ((ix lE iV).bind fun n1 => (dA.p F (gt lE n1) (-1000000000000) 1000000000000).bind fun r2 => (bif (!r2) then (some false) else (cl.pl29 F k lE (IntKind.i64.wrap (iV + 1))))) else (some true))
termination_by structural n => n
theorem cl.l29_P {F : Nat} {H0 : Hp} {Ri R0 : List Rs}   : ∀ k, cl.S29 H0 Ri R0  (cl.l29 F (dA.tw F)  k) (cl.pl29 F  k) := by
 intro k
 induction k with
 | zero =>
  intro tl tn iV qy o_ jO qz lE H va h0 r hp
  exact nomatch (show (none : Option (Bool)) = some r from hp)
 | succ k ih =>
  intro tl tn iV qy o_ jO qz lE H va h0 r hp
  obtain ⟨w0, s0, vb⟩ := h0
  subst va
  unfold cl.pl29 at hp
  unfold cl.l29
  refine bind_ex (ldSl_of (w0.ld (i := 0) rfl rfl)) ?_
  refine bif_ex (fun hb => ?_) (fun hb => ?_)
  ·replace hp := bif_t hb hp
   refine bind_ex (ldSl_of (w0.ld (i := 0) rfl rfl)) ?_
   obtain ⟨n1, g1, hp⟩ := bind_some' hp
   obtain ⟨p1, q1, i1, h1, j1⟩ := ROs.ixr vb rfl g1
   refine bind_ex i1 ?_
   have h1 : _ = [_] := h1
   subst h1
   refine bind_ex (ldI_of (j1 0 _ rfl)) ?_
   obtain ⟨r2, e2, hp⟩ := bind_some' hp
   refine call_ex (dA.P ⟨w0, trivial⟩ e2) ?_
   rintro _ H3 ⟨rfl, w3, s3, _⟩
   refine bind_ex rfl ?_
   refine bif_ex (fun hb => ?_) (fun hb => ?_)
   ·replace hp := bif_t hb hp
    obtain ⟨w4, s4⟩ := w3.pick' [] 1 rfl rfl rfl
    dsimp only [pk, pks, nth, List.drop] at w4 s4
    obtain rfl := Option.some.inj hp
    exact ⟨_, _, rfl, rfl, w4, (s0.trans (s3.trans s4)), trivial⟩
   ·replace hp := bif_f hb hp
    exact ih rfl ⟨w3, (s0.trans s3), (vb.step s3)⟩ hp
  ·replace hp := bif_f hb hp
   obtain ⟨w5, s5⟩ := w0.pick' [] 1 rfl rfl rfl
   dsimp only [pk, pks, nth, List.drop] at w5 s5
   obtain rfl := Option.some.inj hp
   exact ⟨_, _, rfl, rfl, w5, (s0.trans s5), trivial⟩
def cl.p (F : Nat) (aa : Int) (ac : Int) (bj : List Int) : Option (Bool) := (dA.p F aa 0 48).bind fun r2 => (bif (!r2) then (some false) else ((dA.p F ac 0 48).bind fun r5 => (bif (!r5) then (some false) else ((bif ((bj.length : Int) != (IntKind.i64.wrap (aa * ac))) then (some false) else (cl.pl29 F F bj 0))))))
theorem cl.P {F : Nat} {aa ac : Int} {cT : ON} {bJ : Nat} {cU : Cap} {bj : List Int} {H : Hp} {R0 : List Rs} (fp : bJ = bj.length) (h0 : Inn H R0 fun R => ROs (eInt .i64) H R ⟨cT, bJ, cU⟩ bj) {r : Bool} (hp : cl.p F aa ac bj = some r) : ∃ v H', cl.tw F aa ac ⟨cT, bJ, cU⟩ H = some (v, H') ∧ cl.Q H R0 R0  r v H' := by
 obtain ⟨w0, eI⟩ := h0
 subst fp
 unfold cl.p at hp
 unfold cl.tw cl.twX
 have s0 := w0.rf
 refine new_k w0 fun H1 w1 s1 => ?_
 refine bind_ex (ldI_of (w1.ld (i := 0) rfl rfl)) ?_
 obtain ⟨r2, e2, hp⟩ := bind_some' hp
 refine call_ex (dA.P ⟨w1, trivial⟩ e2) ?_
 rintro _ H3 ⟨rfl, w3, s3, _⟩
 refine bind_ex rfl ?_
 refine bif_ex (fun hb => ?_) (fun hb => ?_)
 ·replace hp := bif_t hb hp
  obtain ⟨w4, s4⟩ := w3.pick' [] 1 rfl rfl rfl
  dsimp only [pk, pks, nth, List.drop] at w4 s4
  obtain rfl := Option.some.inj hp
  exact ⟨_, _, rfl, rfl, w4, (s0.trans (s1.trans (s3.trans s4))), trivial⟩
 ·replace hp := bif_f hb hp
  refine bind_ex (ldI_of (w3.ld (i := 0) rfl rfl)) ?_
  obtain ⟨r5, e5, hp⟩ := bind_some' hp
  refine call_ex (dA.P ⟨w3, trivial⟩ e5) ?_
  rintro _ H6 ⟨rfl, w6, s6, _⟩
  refine bind_ex rfl ?_
  refine bif_ex (fun hb => ?_) (fun hb => ?_)
  ·replace hp := bif_t hb hp
   obtain ⟨w7, s7⟩ := w6.pick' [] 1 rfl rfl rfl
   dsimp only [pk, pks, nth, List.drop] at w7 s7
   obtain rfl := Option.some.inj hp
   exact ⟨_, _, rfl, rfl, w7, (s0.trans (s1.trans (s3.trans (s6.trans s7)))), trivial⟩
  ·replace hp := bif_f hb hp
   refine bind_ex (ldSl_of (w6.ld (i := 0) rfl rfl)) ?_
   refine bind_ex (ldI_of (w6.ld (i := 0) rfl rfl)) ?_
   refine bind_ex (ldI_of (w6.ld (i := 0) rfl rfl)) ?_
   refine bif_ex (fun hb => ?_) (fun hb => ?_)
   ·replace hp := bif_t hb hp
    obtain ⟨w8, s8⟩ := w6.pick' [] 1 rfl rfl rfl
    dsimp only [pk, pks, nth, List.drop] at w8 s8
    obtain rfl := Option.some.inj hp
    exact ⟨_, _, rfl, rfl, w8, (s0.trans (s1.trans (s3.trans (s6.trans s8)))), trivial⟩
   ·replace hp := bif_f hb hp
    exact cl.l29_P F rfl ⟨w6, (s0.trans (s1.trans (s3.trans s6))), (eI.step (s1.trans (s3.trans s6)))⟩ hp
def dR.Q (H0 : Hp) (Ri R0 : List Rs)  (r : Int × Int × List Int) (v : AV) (H' : Hp) : Prop := ∃ o2a : ON, ∃ o2n : Nat, ∃ o2k : List AV, v = (.agg [(.int .i64 r.1), (.int .i64 r.2.1), (.sl ⟨o2a, o2n, .ex o2n⟩)]) ∧ o2n = (r.2.2).length ∧ Out H0 Ri H' (Rs.own ⟨o2a, o2n, .ex o2n⟩ (eInt .i64).z o2k :: R0) fun R => CR (eInt .i64) H' R o2k (r.2.2)
def dR.p (F : Nat) (aa : Int) (ak : Int) : Option (Int × Int × List Int) := (mkn (IntKind.i64.wrap (aa * ak)) (0 : Int)).bind fun l2 => some (aa, ak, l2)
theorem dR.P {F : Nat} {aa ak : Int} {H : Hp} {R0 : List Rs}  (h0 : Inn H R0 fun R => True) {r : Int × Int × List Int} (hp : dR.p F aa ak = some r) : ∃ v H', dR.tw F aa ak H = some (v, H') ∧ dR.Q H R0 R0  r v H' := by
 obtain ⟨w0, _⟩ := h0
 unfold dR.p at hp
 unfold dR.tw dR.twX
 have s0 := w0.rf
 refine new_k w0 fun H1 w1 s1 => ?_
 obtain ⟨l2, e2, hp⟩ := bind_some' hp
 refine mk_k (eInt .i64) (0 : Int) w1 rfl rfl rfl e2 fun H3 k3 w3 s3 c3 => ?_
 refine st_k w3 (i := 1) rfl rfl rfl fun H4 w4 s4 => ?_
 dsimp only [List.set] at w4 s4
 refine st_k w4 (i := 1) rfl rfl rfl fun H5 w5 s5 => ?_
 dsimp only [List.set] at w5 s5
 refine st_k w5 (i := 1) rfl rfl rfl fun H6 w6 s6 => ?_
 dsimp only [List.set] at w6 s6
 refine bind_ex (ldI_of (w6.ld (i := 1) rfl rfl)) ?_
 refine bind_ex (ldI_of (w6.ld (i := 1) rfl rfl)) ?_
 refine bind_ex (ldSl_of (w6.ld (i := 1) rfl rfl)) ?_
 obtain ⟨w7, s7⟩ := w6.pick' [0] 2 rfl rfl rfl
 dsimp only [pk, pks, nth, List.drop] at w7 s7
 obtain rfl := Option.some.inj hp
 exact ⟨_, _, rfl, _, _, _, rfl, rfl, w7, (s0.trans (s1.trans (s3.trans (s4.trans (s5.trans (s6.trans s7)))))), (c3.step (s4.trans (s5.trans (s6.trans s7))))⟩
def bL.Q (H0 : Hp) (Ri R0 : List Rs)  (r : Int × Int × List Int) (v : AV) (H' : Hp) : Prop := ∃ o2a : ON, ∃ o2n : Nat, ∃ o2c : Cap, ∃ o2k : List AV, v = (.agg [(.int .i64 r.1), (.int .i64 r.2.1), (.sl ⟨o2a, o2n, o2c⟩)]) ∧ o2n = (r.2.2).length ∧ Out H0 Ri H' (Rs.own ⟨o2a, o2n, o2c⟩ (eInt .i64).z o2k :: R0) fun R => CR (eInt .i64) H' R o2k (r.2.2)
def bL.S29 (H0 : Hp) (Ri R0 : List Rs)  (C : Int → Nat → Nat → Nat → Nat → Int → Hp → OA) (pC : Int → Int → Int → List Int → Int → Option (Int × Int × List Int)) : Prop := ∀ {hB nb nc ki kd ic : Int} {lO lP : ON} {lp cf lq fk : Nat} {lQ lR : Cap} {lS jt : List Int} {lT lU : List AV}, ∀ {H : Hp}, lp = lS.length → lq = jt.length → (Out H0 Ri H (Rs.own ⟨lO, lp, lQ⟩ (eInt .i64).z lT :: Rs.blk cf [.int .i64 nb, .int .i64 nc, .sl ⟨lO, lp, lQ⟩] :: Rs.own ⟨lP, lq, lR⟩ (eInt .i64).z lU :: Rs.blk fk [.int .i64 ki, .int .i64 kd, .sl ⟨lP, lq, lR⟩] :: R0) fun R => CR (eInt .i64) H R lT lS ∧ CR (eInt .i64) H R lU jt) → ∀ {r : Int × Int × List Int}, pC hB ki kd jt ic = some r → ∃ v H', C hB cf 0 fk 0 ic H = some (v, H') ∧ bL.Q H0 Ri R0  r v H'
def bL.pl29 (F : Nat)  : Nat → Int → Int → Int → List Int → Int → Option (Int × Int × List Int)
 | 0, _, _, _, _, _ => none
 | k + 1, hB, ki, kd, jt, ic => (bif (decide (ic < hB)) then ((ix jt (IntKind.i64.wrap ((IntKind.i64.wrap (ic * hB)) + ic))).bind fun n1 => (some (jt.set n1 1)).bind fun l2 => bL.pl29 F k hB ki kd l2 (IntKind.i64.wrap (ic + 1))) else (some (ki, kd, jt)))
termination_by structural n => n
theorem bL.l29_P {F : Nat} {H0 : Hp} {Ri R0 : List Rs}   : ∀ k, bL.S29 H0 Ri R0  (bL.l29 F (dR.tw F)  k) (bL.pl29 F  k) := by
 intro k
 induction k with
 | zero =>
  intro hB nb nc ki kd ic lO lP lp cf lq fk lQ lR lS jt lT lU H pa pb h0 r hp
  exact nomatch (show (none : Option (Int × Int × List Int)) = some r from hp)
 | succ k ih =>
  intro hB nb nc ki kd ic lO lP lp cf lq fk lQ lR lS jt lT lU H pa pb h0 r hp
  obtain ⟨w0, s0, tp, nd⟩ := h0
  subst pa
  subst pb
  unfold bL.pl29 at hp
  unfold bL.l29
  refine bif_ex (fun hb => ?_) (fun hb => ?_)
  ·replace hp := bif_t hb hp
   refine bind_ex (ldSl_of (w0.ld (i := 3) rfl rfl)) ?_
   obtain ⟨n1, g1, hp⟩ := bind_some' hp
   obtain ⟨p1, q1, i1, h1, j1⟩ := W.ixo (E := (eInt .i64)) w0 (i := 2) rfl rfl nd g1
   refine bind_ex i1 ?_
   obtain ⟨l2, e2, hp⟩ := bind_some' hp
   refine sto_k (eInt .i64) w0 (i := 2) (j := 0) (p := p1) rfl rfl nd g1 i1 e2 rfl rfl (fun _ h => by have h : _ = [_] := h; subst h; exact rfl) fun H3 k3 w3 s3 c3 => ?_
   dsimp only [List.set] at w3 s3 c3
   exact ih rfl ((st_len e2).symm) ⟨w3, (s0.trans s3), (tp.step s3), c3⟩ hp
  ·replace hp := bif_f hb hp
   refine bind_ex (ldI_of (w0.ld (i := 3) rfl rfl)) ?_
   refine bind_ex (ldI_of (w0.ld (i := 3) rfl rfl)) ?_
   refine bind_ex (ldSl_of (w0.ld (i := 3) rfl rfl)) ?_
   refine st_k w0 (i := 1) rfl rfl rfl fun H4 w4 s4 => ?_
   dsimp only [List.set] at w4 s4
   refine st_k w4 (i := 1) rfl rfl rfl fun H5 w5 s5 => ?_
   dsimp only [List.set] at w5 s5
   refine st_k w5 (i := 1) rfl rfl rfl fun H6 w6 s6 => ?_
   dsimp only [List.set] at w6 s6
   refine bind_ex (ldI_of (w6.ld (i := 1) rfl rfl)) ?_
   refine bind_ex (ldI_of (w6.ld (i := 1) rfl rfl)) ?_
   refine bind_ex (ldSl_of (w6.ld (i := 1) rfl rfl)) ?_
   obtain ⟨w7, s7⟩ := w6.pick' [2] 4 rfl rfl rfl
   dsimp only [pk, pks, nth, List.drop] at w7 s7
   obtain rfl := Option.some.inj hp
   exact ⟨_, _, rfl, _, _, _, _, rfl, rfl, w7, (s0.trans (s4.trans (s5.trans (s6.trans s7)))), (nd.step (s4.trans (s5.trans (s6.trans s7))))⟩
def bL.p (F : Nat) (aa : Int) : Option (Int × Int × List Int) := (dR.p F aa aa).bind fun r2 => bL.pl29 F F aa r2.1 r2.2.1 r2.2.2 0
theorem bL.P {F : Nat} {aa : Int} {H : Hp} {R0 : List Rs}  (h0 : Inn H R0 fun R => True) {r : Int × Int × List Int} (hp : bL.p F aa = some r) : ∃ v H', bL.tw F aa H = some (v, H') ∧ bL.Q H R0 R0  r v H' := by
 obtain ⟨w0, _⟩ := h0
 unfold bL.p at hp
 unfold bL.tw bL.twX
 have s0 := w0.rf
 refine new_k w0 fun H1 w1 s1 => ?_
 obtain ⟨r2, e2, hp⟩ := bind_some' hp
 refine call_ex (dR.P ⟨w1, trivial⟩ e2) ?_
 rintro _ H3 ⟨o2a_3, o2n_3, o2k_3, rfl, rfl, w3, s3, f3_0⟩
 refine bind_ex rfl ?_
 refine bind_ex rfl ?_
 refine bind_ex rfl ?_
 refine bind_ex rfl ?_
 refine bind_ex rfl ?_
 refine bind_ex rfl ?_
 refine bind_ex rfl ?_
 refine new_k w3 fun H4 w4 s4 => ?_
 refine st_k w4 (i := 0) rfl rfl rfl fun H5 w5 s5 => ?_
 dsimp only [List.set] at w5 s5
 refine st_k w5 (i := 0) rfl rfl rfl fun H6 w6 s6 => ?_
 dsimp only [List.set] at w6 s6
 refine st_k w6 (i := 0) rfl rfl rfl fun H7 w7 s7 => ?_
 dsimp only [List.set] at w7 s7
 obtain ⟨w8, s8⟩ := w7.nilS (eInt .i64).z (by decide)
 obtain ⟨w9, s9⟩ := w8.pick' [0, 3, 2, 1] 4 rfl rfl rfl
 dsimp only [pk, pks, nth, List.drop] at w9 s9
 exact bL.l29_P F rfl rfl ⟨w9, (s0.trans (s1.trans (s3.trans (s4.trans (s5.trans (s6.trans (s7.trans (s8.trans s9)))))))), ((CR.empty : CR (eInt .i64) _ _ [] []).step s9), (f3_0.step (s4.trans (s5.trans (s6.trans (s7.trans (s8.trans s9))))))⟩ hp
def aC.Q (H0 : Hp) (Ri R0 : List Rs)  (r : Int) (v : AV) (H' : Hp) : Prop := v = (.int .i64 r) ∧ Out H0 Ri H' (R0) fun R => True
def aC.p (F : Nat) (ac : Int) (bj : List Int) (ag : Int) (bh : Int) : Option (Int) := (ix bj (IntKind.i64.wrap ((IntKind.i64.wrap (ag * ac)) + bh))).bind fun n2 => some (gt bj n2)
theorem aC.P {F : Nat} {aa ac ag bh : Int} {cT : ON} {bJ : Nat} {cU : Cap} {bj : List Int} {H : Hp} {R0 : List Rs} (fp : bJ = bj.length) (h0 : Inn H R0 fun R => ROs (eInt .i64) H R ⟨cT, bJ, cU⟩ bj) {r : Int} (hp : aC.p F ac bj ag bh = some r) : ∃ v H', aC.tw F aa ac ⟨cT, bJ, cU⟩ ag bh H = some (v, H') ∧ aC.Q H R0 R0  r v H' := by
 obtain ⟨w0, eI⟩ := h0
 subst fp
 unfold aC.p at hp
 unfold aC.tw aC.twX
 have s0 := w0.rf
 refine new_k w0 fun H1 w1 s1 => ?_
 refine bind_ex (ldSl_of (w1.ld (i := 0) rfl rfl)) ?_
 refine bind_ex (ldI_of (w1.ld (i := 0) rfl rfl)) ?_
 obtain ⟨n2, g2, hp⟩ := bind_some' hp
 obtain ⟨p2, q2, i2, h2, j2⟩ := ROs.ixr (eI.step s1) rfl g2
 refine bind_ex i2 ?_
 have h2 : _ = [_] := h2
 subst h2
 refine bind_ex (ldI_of (j2 0 _ rfl)) ?_
 obtain ⟨w3, s3⟩ := w1.pick' [] 1 rfl rfl rfl
 dsimp only [pk, pks, nth, List.drop] at w3 s3
 obtain rfl := Option.some.inj hp
 exact ⟨_, _, rfl, rfl, w3, (s0.trans (s1.trans s3)), trivial⟩
def cj.Q (H0 : Hp) (Ri R0 : List Rs)  (r : Int) (v : AV) (H' : Hp) : Prop := v = (.int .i64 r) ∧ Out H0 Ri H' (R0) fun R => True
def cj.p (F : Nat) (aa : Int) : Option (Int) := some (if (IntKind.i64.wrap (0 - aa)) > aa then (IntKind.i64.wrap (0 - aa)) else aa)
theorem cj.P {F : Nat} {aa : Int} {H : Hp} {R0 : List Rs}  (h0 : Inn H R0 fun R => True) {r : Int} (hp : cj.p F aa = some r) : ∃ v H', cj.tw F aa H = some (v, H') ∧ cj.Q H R0 R0  r v H' := by
 obtain ⟨w0, _⟩ := h0
 unfold cj.p at hp
 unfold cj.tw cj.twX
 have s0 := w0.rf
 obtain rfl := Option.some.inj hp
 exact ⟨_, _, rfl, rfl, w0, s0, trivial⟩
def bH.Q (H0 : Hp) (Ri R0 : List Rs) (cT : ON) (bJ : Nat) (cU : Cap) (hJ : Bool) (hK hL : List AV) (r : List Int) (v : AV) (H' : Hp) : Prop := ∃ lr : List AV, v = (.tup []) ∧ bJ = (r).length ∧ Out H0 Ri H' (Rs.ow hJ ⟨cT, bJ, cU⟩ (eInt .i64).z hK lr hL :: R0) fun R => CR (eInt .i64) H' R lr (r)
def bH.S7 (H0 : Hp) (Ri R0 : List Rs) (hN : ON) (gy : Nat) (hO : Cap) (ju : Bool) (jv jw : List AV) (C : Int → Int → Nat → Nat → Int → Hp → OA) (pC : Int → Int → Int → List Int → Int → Option (List Int)) : Prop := ∀ {eL eT ls iH et : Int} {hQ : List Int} {lV : List AV} {es : Nat}, ∀ {H : Hp}, gy = hQ.length → (Out H0 Ri H (Rs.ow ju ⟨hN, gy, hO⟩ (eInt .i64).z jv lV jw :: Rs.blk es [.int .i64 ls, .int .i64 iH, .sl ⟨hN, gy, hO⟩] :: R0) fun R => CR (eInt .i64) H R lV hQ) → ∀ {r : List Int}, pC eL eT iH hQ et = some r → ∃ v H', C eL eT es 0 et H = some (v, H') ∧ bH.Q H0 Ri R0 hN gy hO ju jv jw r v H'
def bH.pl7 (F : Nat)  : Nat → Int → Int → Int → List Int → Int → Option (List Int)
 | 0, _, _, _, _, _ => none
 | k + 1, eL, eT, iH, hQ, et => (bif (decide (et < iH)) then ((aC.p F iH hQ eL et).bind fun r2 => (aC.p F iH hQ eT et).bind fun r6 => (ix hQ (IntKind.i64.wrap ((IntKind.i64.wrap (eL * iH)) + et))).bind fun n10 => (some (hQ.set n10 r6)).bind fun l11 => (ix l11 (IntKind.i64.wrap ((IntKind.i64.wrap (eT * iH)) + et))).bind fun n13 => (some (l11.set n13 r2)).bind fun l14 => bH.pl7 F k eL eT iH l14 (IntKind.i64.wrap (et + 1))) else (some hQ))
termination_by structural n => n
theorem bH.l7_P {F : Nat} {H0 : Hp} {Ri R0 : List Rs} {hN : ON} {gy : Nat} {hO : Cap} {ju : Bool} {jv jw : List AV}  : ∀ k, bH.S7 H0 Ri R0 hN gy hO ju jv jw (bH.l7 F (aC.tw F)  k) (bH.pl7 F  k) := by
 intro k
 induction k with
 | zero =>
  intro eL eT ls iH et hQ lV es H pc h0 r hp
  exact nomatch (show (none : Option (List Int)) = some r from hp)
 | succ k ih =>
  intro eL eT ls iH et hQ lV es H pc h0 r hp
  obtain ⟨w0, s0, lu⟩ := h0
  subst pc
  unfold bH.pl7 at hp
  unfold bH.l7
  refine bind_ex (ldI_of (w0.ld (i := 1) rfl rfl)) ?_
  refine bif_ex (fun hb => ?_) (fun hb => ?_)
  ·replace hp := bif_t hb hp
   refine bind_ex (ldI_of (w0.ld (i := 1) rfl rfl)) ?_
   refine bind_ex (ldI_of (w0.ld (i := 1) rfl rfl)) ?_
   refine bind_ex (ldSl_of (w0.ld (i := 1) rfl rfl)) ?_
   have f1 := W.borrow1 (eInt .i64) w0 lu
   obtain ⟨w1, s1⟩ := w0.right1
   obtain ⟨r2, e2, hp⟩ := bind_some' hp
   refine call_ex (aC.P rfl ⟨w1, f1⟩ e2) ?_
   rintro _ H3 ⟨rfl, w3, s3, _⟩
   obtain ⟨w4, s4⟩ := W.frame1 w0 w3 s3
   refine bind_ex rfl ?_
   refine bind_ex (ldSl_of (w4.ld (i := 1) rfl rfl)) ?_
   refine bind_ex (ldI_of (w4.ld (i := 1) rfl rfl)) ?_
   refine bind_ex (ldI_of (w4.ld (i := 1) rfl rfl)) ?_
   refine bind_ex (ldI_of (w4.ld (i := 1) rfl rfl)) ?_
   refine bind_ex (ldSl_of (w4.ld (i := 1) rfl rfl)) ?_
   have f5 := W.borrow1 (eInt .i64) w4 (lu.step s4)
   obtain ⟨w5, s5⟩ := w4.right1
   obtain ⟨r6, e6, hp⟩ := bind_some' hp
   refine call_ex (aC.P rfl ⟨w5, f5⟩ e6) ?_
   rintro _ H7 ⟨rfl, w7, s7, _⟩
   obtain ⟨w8, s8⟩ := W.frame1 w4 w7 s7
   refine bind_ex rfl ?_
   refine ifs_ex (W.cons_of (Rn := []) w5 w7 s7) ?_
   obtain ⟨n10, g10, hp⟩ := bind_some' hp
   obtain ⟨p10, q10, i10, h10, j10⟩ := W.ixo (E := (eInt .i64)) w8 (i := 0) rfl rfl (lu.step (s4.trans s8)) g10
   refine bind_ex i10 ?_
   obtain ⟨l11, e11, hp⟩ := bind_some' hp
   refine sto_k (eInt .i64) w8 (i := 0) (j := 0) (p := p10) rfl rfl (lu.step (s4.trans s8)) g10 i10 e11 rfl rfl (fun _ h => by have h : _ = [_] := h; subst h; exact rfl) fun H12 k12 w12 s12 c12 => ?_
   dsimp only [List.set] at w12 s12 c12
   refine bind_ex (ldSl_of (w12.ld (i := 1) rfl rfl)) ?_
   refine bind_ex (ldI_of (w12.ld (i := 1) rfl rfl)) ?_
   obtain ⟨n13, g13, hp⟩ := bind_some' hp
   obtain ⟨p13, q13, i13, h13, j13⟩ := W.ixo (E := (eInt .i64)) w12 (i := 0) rfl rfl c12 g13
   refine bind_ex i13 ?_
   obtain ⟨l14, e14, hp⟩ := bind_some' hp
   refine sto_k (eInt .i64) w12 (i := 0) (j := 0) (p := p13) rfl rfl c12 g13 i13 e14 rfl rfl (fun _ h => by have h : _ = [_] := h; subst h; exact rfl) fun H15 k15 w15 s15 c15 => ?_
   dsimp only [List.set] at w15 s15 c15
   exact ih ((st_len e11).symm.trans (st_len e14).symm) ⟨w15, (s0.trans (s4.trans (s8.trans (s12.trans s15)))), c15⟩ hp
  ·replace hp := bif_f hb hp
   obtain ⟨w16, s16⟩ := w0.pick' [0] 2 rfl rfl rfl
   dsimp only [pk, pks, nth, List.drop] at w16 s16
   obtain rfl := Option.some.inj hp
   exact ⟨_, _, rfl, _, rfl, rfl, w16, (s0.trans s16), (lu.step s16)⟩
def bH.p (F : Nat) (ac : Int) (bj : List Int) (ag : Int) (bh : Int) : Option (List Int) := bH.pl7 F F ag bh ac bj 0
theorem bH.P {F : Nat} {aa ac ag bh : Int} {cT : ON} {bJ : Nat} {cU : Cap} {bj : List Int} {hJ : Bool} {hK hL kj : List AV} {H : Hp} {R0 : List Rs} (fp : bJ = bj.length) (h0 : Inn H (Rs.ow hJ ⟨cT, bJ, cU⟩ (eInt .i64).z hK kj hL :: R0) fun R => CR (eInt .i64) H R kj bj) {r : List Int} (hp : bH.p F ac bj ag bh = some r) : ∃ v H', bH.tw F aa ac ⟨cT, bJ, cU⟩ ag bh H = some (v, H') ∧ bH.Q H (Rs.ow hJ ⟨cT, bJ, cU⟩ (eInt .i64).z hK kj hL :: R0) R0 cT bJ cU hJ hK hL r v H' := by
 obtain ⟨w0, eI⟩ := h0
 subst fp
 unfold bH.p at hp
 unfold bH.tw bH.twX
 have s0 := w0.rf
 refine new_k w0 fun H1 w1 s1 => ?_
 obtain ⟨w2, s2⟩ := w1.pick' [1, 0] 2 rfl rfl rfl
 dsimp only [pk, pks, nth, List.drop] at w2 s2
 exact bH.l7_P F rfl ⟨w2, (s0.trans (s1.trans s2)), (eI.step (s1.trans s2))⟩ hp
def bI.Q (H0 : Hp) (Ri R0 : List Rs) (cT : ON) (bJ : Nat) (cU : Cap) (hJ : Bool) (hK hL : List AV) (r : List Int) (v : AV) (H' : Hp) : Prop := ∃ lr : List AV, v = (.tup []) ∧ bJ = (r).length ∧ Out H0 Ri H' (Rs.ow hJ ⟨cT, bJ, cU⟩ (eInt .i64).z hK lr hL :: R0) fun R => CR (eInt .i64) H' R lr (r)
def bI.S7 (H0 : Hp) (Ri R0 : List Rs) (hN : ON) (gy : Nat) (hO : Cap) (ju : Bool) (jv jw : List AV) (C : Int → Int → Nat → Nat → Int → Hp → OA) (pC : Int → Int → Int → Int → List Int → Int → Option (List Int)) : Prop := ∀ {eL eT ls iH et : Int} {hQ : List Int} {lV : List AV} {es : Nat}, ∀ {H : Hp}, gy = hQ.length → (Out H0 Ri H (Rs.ow ju ⟨hN, gy, hO⟩ (eInt .i64).z jv lV jw :: Rs.blk es [.int .i64 ls, .int .i64 iH, .sl ⟨hN, gy, hO⟩] :: R0) fun R => CR (eInt .i64) H R lV hQ) → ∀ {r : List Int}, pC eL eT ls iH hQ et = some r → ∃ v H', C eL eT es 0 et H = some (v, H') ∧ bI.Q H0 Ri R0 hN gy hO ju jv jw r v H'
def bI.pl7 (F : Nat)  : Nat → Int → Int → Int → Int → List Int → Int → Option (List Int)
 | 0, _, _, _, _, _, _ => none
 | k + 1, eL, eT, ls, iH, hQ, et => (bif (decide (et < ls)) then ((aC.p F iH hQ et eL).bind fun r2 => (aC.p F iH hQ et eT).bind fun r6 => (ix hQ (IntKind.i64.wrap ((IntKind.i64.wrap (et * iH)) + eL))).bind fun n10 => (some (hQ.set n10 r6)).bind fun l11 => (ix l11 (IntKind.i64.wrap ((IntKind.i64.wrap (et * iH)) + eT))).bind fun n13 => (some (l11.set n13 r2)).bind fun l14 => bI.pl7 F k eL eT ls iH l14 (IntKind.i64.wrap (et + 1))) else (some hQ))
termination_by structural n => n
theorem bI.l7_P {F : Nat} {H0 : Hp} {Ri R0 : List Rs} {hN : ON} {gy : Nat} {hO : Cap} {ju : Bool} {jv jw : List AV}  : ∀ k, bI.S7 H0 Ri R0 hN gy hO ju jv jw (bI.l7 F (aC.tw F)  k) (bI.pl7 F  k) := by
 intro k
 induction k with
 | zero =>
  intro eL eT ls iH et hQ lV es H pc h0 r hp
  exact nomatch (show (none : Option (List Int)) = some r from hp)
 | succ k ih =>
  intro eL eT ls iH et hQ lV es H pc h0 r hp
  obtain ⟨w0, s0, lu⟩ := h0
  subst pc
  unfold bI.pl7 at hp
  unfold bI.l7
  refine bind_ex (ldI_of (w0.ld (i := 1) rfl rfl)) ?_
  refine bif_ex (fun hb => ?_) (fun hb => ?_)
  ·replace hp := bif_t hb hp
   refine bind_ex (ldI_of (w0.ld (i := 1) rfl rfl)) ?_
   refine bind_ex (ldI_of (w0.ld (i := 1) rfl rfl)) ?_
   refine bind_ex (ldSl_of (w0.ld (i := 1) rfl rfl)) ?_
   have f1 := W.borrow1 (eInt .i64) w0 lu
   obtain ⟨w1, s1⟩ := w0.right1
   obtain ⟨r2, e2, hp⟩ := bind_some' hp
   refine call_ex (aC.P rfl ⟨w1, f1⟩ e2) ?_
   rintro _ H3 ⟨rfl, w3, s3, _⟩
   obtain ⟨w4, s4⟩ := W.frame1 w0 w3 s3
   refine bind_ex rfl ?_
   refine bind_ex (ldSl_of (w4.ld (i := 1) rfl rfl)) ?_
   refine bind_ex (ldI_of (w4.ld (i := 1) rfl rfl)) ?_
   refine bind_ex (ldI_of (w4.ld (i := 1) rfl rfl)) ?_
   refine bind_ex (ldI_of (w4.ld (i := 1) rfl rfl)) ?_
   refine bind_ex (ldSl_of (w4.ld (i := 1) rfl rfl)) ?_
   have f5 := W.borrow1 (eInt .i64) w4 (lu.step s4)
   obtain ⟨w5, s5⟩ := w4.right1
   obtain ⟨r6, e6, hp⟩ := bind_some' hp
   refine call_ex (aC.P rfl ⟨w5, f5⟩ e6) ?_
   rintro _ H7 ⟨rfl, w7, s7, _⟩
   obtain ⟨w8, s8⟩ := W.frame1 w4 w7 s7
   refine bind_ex rfl ?_
   refine ifs_ex (W.cons_of (Rn := []) w5 w7 s7) ?_
   obtain ⟨n10, g10, hp⟩ := bind_some' hp
   obtain ⟨p10, q10, i10, h10, j10⟩ := W.ixo (E := (eInt .i64)) w8 (i := 0) rfl rfl (lu.step (s4.trans s8)) g10
   refine bind_ex i10 ?_
   obtain ⟨l11, e11, hp⟩ := bind_some' hp
   refine sto_k (eInt .i64) w8 (i := 0) (j := 0) (p := p10) rfl rfl (lu.step (s4.trans s8)) g10 i10 e11 rfl rfl (fun _ h => by have h : _ = [_] := h; subst h; exact rfl) fun H12 k12 w12 s12 c12 => ?_
   dsimp only [List.set] at w12 s12 c12
   refine bind_ex (ldSl_of (w12.ld (i := 1) rfl rfl)) ?_
   refine bind_ex (ldI_of (w12.ld (i := 1) rfl rfl)) ?_
   obtain ⟨n13, g13, hp⟩ := bind_some' hp
   obtain ⟨p13, q13, i13, h13, j13⟩ := W.ixo (E := (eInt .i64)) w12 (i := 0) rfl rfl c12 g13
   refine bind_ex i13 ?_
   obtain ⟨l14, e14, hp⟩ := bind_some' hp
   refine sto_k (eInt .i64) w12 (i := 0) (j := 0) (p := p13) rfl rfl c12 g13 i13 e14 rfl rfl (fun _ h => by have h : _ = [_] := h; subst h; exact rfl) fun H15 k15 w15 s15 c15 => ?_
   dsimp only [List.set] at w15 s15 c15
   exact ih ((st_len e11).symm.trans (st_len e14).symm) ⟨w15, (s0.trans (s4.trans (s8.trans (s12.trans s15)))), c15⟩ hp
  ·replace hp := bif_f hb hp
   obtain ⟨w16, s16⟩ := w0.pick' [0] 2 rfl rfl rfl
   dsimp only [pk, pks, nth, List.drop] at w16 s16
   obtain rfl := Option.some.inj hp
   exact ⟨_, _, rfl, _, rfl, rfl, w16, (s0.trans s16), (lu.step s16)⟩
def bI.p (F : Nat) (aa : Int) (ac : Int) (bj : List Int) (ag : Int) (bh : Int) : Option (List Int) := bI.pl7 F F ag bh aa ac bj 0
theorem bI.P {F : Nat} {aa ac ag bh : Int} {cT : ON} {bJ : Nat} {cU : Cap} {bj : List Int} {hJ : Bool} {hK hL kj : List AV} {H : Hp} {R0 : List Rs} (fp : bJ = bj.length) (h0 : Inn H (Rs.ow hJ ⟨cT, bJ, cU⟩ (eInt .i64).z hK kj hL :: R0) fun R => CR (eInt .i64) H R kj bj) {r : List Int} (hp : bI.p F aa ac bj ag bh = some r) : ∃ v H', bI.tw F aa ac ⟨cT, bJ, cU⟩ ag bh H = some (v, H') ∧ bI.Q H (Rs.ow hJ ⟨cT, bJ, cU⟩ (eInt .i64).z hK kj hL :: R0) R0 cT bJ cU hJ hK hL r v H' := by
 obtain ⟨w0, eI⟩ := h0
 subst fp
 unfold bI.p at hp
 unfold bI.tw bI.twX
 have s0 := w0.rf
 refine new_k w0 fun H1 w1 s1 => ?_
 obtain ⟨w2, s2⟩ := w1.pick' [1, 0] 2 rfl rfl rfl
 dsimp only [pk, pks, nth, List.drop] at w2 s2
 exact bI.l7_P F rfl ⟨w2, (s0.trans (s1.trans s2)), (eI.step (s1.trans s2))⟩ hp
def ar.Q (H0 : Hp) (Ri R0 : List Rs) (bk aX bl bb aY aT bc bf bv bg : Int) (cN dW cm dX dY : ON) (bK cZ bA c_ da aa : Nat) (cO dZ cn d_ ea : Cap) (dy : List Int) (eN fq eO fr ft ax : Bool) (eP eQ fu fv eR eS fw fx fy fz : List AV) (r : Bool × List Int × List Int × List Int × List Int × List Int) (v : AV) (H' : Hp) : Prop := ∃ hT : List AV, ∃ jg : List AV, ∃ hU : List AV, ∃ jh : List AV, ∃ ji : List AV, v = (.bool r.1) ∧ bK = (r.2.1).length ∧ cZ = (r.2.2.1).length ∧ bA = (r.2.2.2.1).length ∧ c_ = (r.2.2.2.2.1).length ∧ da = (r.2.2.2.2.2).length ∧ Out H0 Ri H' (Rs.ow eN ⟨cN, bK, cO⟩ (eInt .i64).z eP hT eQ :: Rs.ow fq ⟨dW, cZ, dZ⟩ (eInt .i64).z fu jg fv :: Rs.ow eO ⟨cm, bA, cn⟩ (eInt .i64).z eR hU eS :: Rs.ow fr ⟨dX, c_, d_⟩ (eInt .i64).z fw jh fx :: Rs.ow ft ⟨dY, da, ea⟩ (eInt .i64).z fy ji fz :: Rs.blk aa [.int .i64 bk, .int .i64 aX, .sl ⟨cN, bK, cO⟩, .int .i64 bl, .int .i64 bb, .sl ⟨dW, cZ, dZ⟩, .int .i64 aY, .int .i64 aT, .sl ⟨cm, bA, cn⟩, .int .i64 bc, .int .i64 bf, .sl ⟨dX, c_, d_⟩, .int .i64 bv, .int .i64 bg, .sl ⟨dY, da, ea⟩, .bool ax] :: R0) fun R => CR (eInt .i64) H' R hT (r.2.1) ∧ CR (eInt .i64) H' R jg (r.2.2.1) ∧ CR (eInt .i64) H' R hU (r.2.2.2.1) ∧ CR (eInt .i64) H' R jh (r.2.2.2.2.1) ∧ CR (eInt .i64) H' R ji (r.2.2.2.2.2)
def ar.S29 (H0 : Hp) (Ri R0 : List Rs) (ay aj aA ap aq ao au av aH aw : Int) (aR bn aM bo bp : ON) (aF aZ aB a_ ba az : Nat) (aS br aN bs bt : Cap) (ck : List Int) (bQ bR bS bT bU bw : Bool) (bV bW bX bY bZ b_ ca cb cc cd : List AV) (C : Nat → Nat → Int → Int → Int → Int → Hp → OA) (pC : Int → Int → List Int → Int → List Int → Int → Int → List Int → Int → Int → List Int → Int → List Int → Int → Int → Int → Int → Option (Bool × List Int × List Int × List Int × List Int × List Int)) : Prop := ∀ {aD aG aE aK aL : List Int} {cz cA cB cC cD : List AV} {dC ed jn jG : Int}, ∀ {H : Hp}, aF = aD.length → aZ = aG.length → aB = aE.length → a_ = aK.length → ba = aL.length → (Out H0 Ri H (Rs.ow bQ ⟨aR, aF, aS⟩ (eInt .i64).z bV cz bW :: Rs.ow bR ⟨bn, aZ, br⟩ (eInt .i64).z bX cA bY :: Rs.ow bS ⟨aM, aB, aN⟩ (eInt .i64).z bZ cB b_ :: Rs.ow bT ⟨bo, a_, bs⟩ (eInt .i64).z ca cC cb :: Rs.ow bU ⟨bp, ba, bt⟩ (eInt .i64).z cc cD cd :: Rs.blk az [.int .i64 ay, .int .i64 aj, .sl ⟨aR, aF, aS⟩, .int .i64 aA, .int .i64 ap, .sl ⟨bn, aZ, br⟩, .int .i64 aq, .int .i64 ao, .sl ⟨aM, aB, aN⟩, .int .i64 au, .int .i64 av, .sl ⟨bo, a_, bs⟩, .int .i64 aH, .int .i64 aw, .sl ⟨bp, ba, bt⟩, .bool bw] :: R0) fun R => CR (eInt .i64) H R cz aD ∧ CR (eInt .i64) H R cA aG ∧ CR (eInt .i64) H R cB aE ∧ CR (eInt .i64) H R cC aK ∧ CR (eInt .i64) H R cD aL) → ∀ {r : Bool × List Int × List Int × List Int × List Int × List Int}, pC ay aj aD ap aG aq ao aE au av aK aw aL dC ed jn jG = some r → ∃ v H', C az 0 dC ed jn jG H = some (v, H') ∧ ar.Q H0 Ri R0 ay aj aA ap aq ao au av aH aw aR bn aM bo bp aF aZ aB a_ ba az aS br aN bs bt ck bQ bR bS bT bU bw bV bW bX bY bZ b_ ca cb cc cd r v H'
def ar.S469 (H0 : Hp) (Ri R0 : List Rs) (ay aj aA ap aq ao au av aH aw : Int) (aR bn aM bo bp : ON) (aF aZ aB a_ ba az : Nat) (aS br aN bs bt : Cap) (ck : List Int) (bQ bR bS bT bU bw : Bool) (bV bW bX bY bZ b_ ca cb cc cd : List AV) (C : Nat → Nat → Int → Int → Int → Int → Int → Hp → OA) (pC : Int → Int → List Int → Int → List Int → Int → Int → List Int → Int → Int → List Int → Int → List Int → Int → Int → Int → Int → Int → Option (Bool × List Int × List Int × List Int × List Int × List Int)) : Prop := ∀ {aD aG aE aK aL : List Int} {cz cA cB cC cD : List AV} {gr gv gP fZ gd : Int}, ∀ {H : Hp}, aF = aD.length → aZ = aG.length → aB = aE.length → a_ = aK.length → ba = aL.length → (Out H0 Ri H (Rs.ow bQ ⟨aR, aF, aS⟩ (eInt .i64).z bV cz bW :: Rs.ow bR ⟨bn, aZ, br⟩ (eInt .i64).z bX cA bY :: Rs.ow bS ⟨aM, aB, aN⟩ (eInt .i64).z bZ cB b_ :: Rs.ow bT ⟨bo, a_, bs⟩ (eInt .i64).z ca cC cb :: Rs.ow bU ⟨bp, ba, bt⟩ (eInt .i64).z cc cD cd :: Rs.blk az [.int .i64 ay, .int .i64 aj, .sl ⟨aR, aF, aS⟩, .int .i64 aA, .int .i64 ap, .sl ⟨bn, aZ, br⟩, .int .i64 aq, .int .i64 ao, .sl ⟨aM, aB, aN⟩, .int .i64 au, .int .i64 av, .sl ⟨bo, a_, bs⟩, .int .i64 aH, .int .i64 aw, .sl ⟨bp, ba, bt⟩, .bool bw] :: R0) fun R => CR (eInt .i64) H R cz aD ∧ CR (eInt .i64) H R cA aG ∧ CR (eInt .i64) H R cB aE ∧ CR (eInt .i64) H R cC aK ∧ CR (eInt .i64) H R cD aL) → ∀ {r : Bool × List Int × List Int × List Int × List Int × List Int}, pC ay aj aD ap aG aq ao aE au av aK aw aL gr gv gP fZ gd = some r → ∃ v H', C az 0 gr gv gP fZ gd H = some (v, H') ∧ ar.Q H0 Ri R0 ay aj aA ap aq ao au av aH aw aR bn aM bo bp aF aZ aB a_ ba az aS br aN bs bt ck bQ bR bS bT bU bw bV bW bX bY bZ b_ ca cb cc cd r v H'
def ar.pj10 (F : Nat) (lW : Int → Int → List Int → Int → List Int → Int → Int → List Int → Int → Int → List Int → Int → List Int → Int → Int → Int → Int → Int → Option (Bool × List Int × List Int × List Int × List Int × List Int)) (ay : Int) (aj : Int) (aD : List Int) (ap : Int) (aG : List Int) (aq : Int) (ao : Int) (aE : List Int) (au : Int) (av : Int) (aK : List Int) (aw : Int) (aL : List Int) (nL : Int) (nM : Int) (nN : Int) (nO : Int) (nP : Int) : Option (Bool × List Int × List Int × List Int × List Int × List Int) := lW ay aj aD ap aG aq ao aE au av aK aw aL nL nM nN nO (IntKind.i64.wrap (nP + 1))
theorem ar.j10_P {F : Nat} {H0 : Hp} {Ri R0 : List Rs} {ay aj aA ap aq ao au av aH aw : Int} {aR bn aM bo bp : ON} {aF aZ aB a_ ba az : Nat} {aS br aN bs bt : Cap} {ck : List Int} {bQ bR bS bT bU bw : Bool} {bV bW bX bY bZ b_ ca cb cc cd : List AV} {C469_ : Nat → Nat → Int → Int → Int → Int → Int → Hp → OA} {lW : Int → Int → List Int → Int → List Int → Int → Int → List Int → Int → Int → List Int → Int → List Int → Int → Int → Int → Int → Int → Option (Bool × List Int × List Int × List Int × List Int × List Int)} (hC469 : ar.S469 H0 Ri R0 ay aj aA ap aq ao au av aH aw aR bn aM bo bp aF aZ aB a_ ba az aS br aN bs bt ck bQ bR bS bT bU bw bV bW bX bY bZ b_ ca cb cc cd C469_ lW) {aD aG aE aK aL : List Int} {cz cA cB cC cD : List AV} {nL nM nN nO nP : Int} {H : Hp} (eg : aF = aD.length) (eh : aZ = aG.length) (ei : aB = aE.length) (ek : a_ = aK.length) (el : ba = aL.length) (h0 : Out H0 Ri H (Rs.ow bQ ⟨aR, aF, aS⟩ (eInt .i64).z bV cz bW :: Rs.ow bR ⟨bn, aZ, br⟩ (eInt .i64).z bX cA bY :: Rs.ow bS ⟨aM, aB, aN⟩ (eInt .i64).z bZ cB b_ :: Rs.ow bT ⟨bo, a_, bs⟩ (eInt .i64).z ca cC cb :: Rs.ow bU ⟨bp, ba, bt⟩ (eInt .i64).z cc cD cd :: Rs.blk az [.int .i64 ay, .int .i64 aj, .sl ⟨aR, aF, aS⟩, .int .i64 aA, .int .i64 ap, .sl ⟨bn, aZ, br⟩, .int .i64 aq, .int .i64 ao, .sl ⟨aM, aB, aN⟩, .int .i64 au, .int .i64 av, .sl ⟨bo, a_, bs⟩, .int .i64 aH, .int .i64 aw, .sl ⟨bp, ba, bt⟩, .bool bw] :: R0) fun R => CR (eInt .i64) H R cz aD ∧ CR (eInt .i64) H R cA aG ∧ CR (eInt .i64) H R cB aE ∧ CR (eInt .i64) H R cC aK ∧ CR (eInt .i64) H R cD aL) {r : Bool × List Int × List Int × List Int × List Int × List Int} (hp : ar.pj10 F lW ay aj aD ap aG aq ao aE au av aK aw aL nL nM nN nO nP = some r) : ∃ v H', ar.j10 F (aC.tw F) (cj.tw F) (bH.tw F) (bI.tw F) C469_ az 0 nL nM nN nO nP H = some (v, H') ∧ ar.Q H0 Ri R0 ay aj aA ap aq ao au av aH aw aR bn aM bo bp aF aZ aB a_ ba az aS br aN bs bt ck bQ bR bS bT bU bw bV bW bX bY bZ b_ ca cb cc cd r v H' := by
 obtain ⟨w0, s0, cQ, de, cV, dn, dp⟩ := h0
 subst eg
 subst eh
 subst ei
 subst ek
 subst el
 unfold ar.pj10 at hp
 unfold ar.j10
 exact hC469 rfl rfl rfl rfl rfl ⟨w0, s0, cQ, de, cV, dn, dp⟩ hp
def ar.pj8 (F : Nat) (ep : Int → Int → List Int → Int → List Int → Int → Int → List Int → Int → Int → List Int → Int → List Int → Int → Int → Int → Int → Option (Bool × List Int × List Int × List Int × List Int × List Int)) (ay : Int) (aj : Int) (aD : List Int) (ap : Int) (aG : List Int) (aq : Int) (ao : Int) (aE : List Int) (au : Int) (av : Int) (aK : List Int) (aw : Int) (aL : List Int) (nD : Int) (nE : Int) (nF : Int) (nG : Int) : Option (Bool × List Int × List Int × List Int × List Int × List Int) := ep ay aj aD ap aG aq ao aE au av aK aw aL nD nE nF (IntKind.i64.wrap (nG + 1))
theorem ar.j8_P {F : Nat} {H0 : Hp} {Ri R0 : List Rs} {ay aj aA ap aq ao au av aH aw : Int} {aR bn aM bo bp : ON} {aF aZ aB a_ ba az : Nat} {aS br aN bs bt : Cap} {ck : List Int} {bQ bR bS bT bU bw : Bool} {bV bW bX bY bZ b_ ca cb cc cd : List AV} {C29_ : Nat → Nat → Int → Int → Int → Int → Hp → OA} {ep : Int → Int → List Int → Int → List Int → Int → Int → List Int → Int → Int → List Int → Int → List Int → Int → Int → Int → Int → Option (Bool × List Int × List Int × List Int × List Int × List Int)} (hC29 : ar.S29 H0 Ri R0 ay aj aA ap aq ao au av aH aw aR bn aM bo bp aF aZ aB a_ ba az aS br aN bs bt ck bQ bR bS bT bU bw bV bW bX bY bZ b_ ca cb cc cd C29_ ep) {aD aG aE aK aL : List Int} {cz cA cB cC cD : List AV} {nD nE nF nG : Int} {H : Hp} (eg : aF = aD.length) (eh : aZ = aG.length) (ei : aB = aE.length) (ek : a_ = aK.length) (el : ba = aL.length) (h0 : Out H0 Ri H (Rs.ow bQ ⟨aR, aF, aS⟩ (eInt .i64).z bV cz bW :: Rs.ow bR ⟨bn, aZ, br⟩ (eInt .i64).z bX cA bY :: Rs.ow bS ⟨aM, aB, aN⟩ (eInt .i64).z bZ cB b_ :: Rs.ow bT ⟨bo, a_, bs⟩ (eInt .i64).z ca cC cb :: Rs.ow bU ⟨bp, ba, bt⟩ (eInt .i64).z cc cD cd :: Rs.blk az [.int .i64 ay, .int .i64 aj, .sl ⟨aR, aF, aS⟩, .int .i64 aA, .int .i64 ap, .sl ⟨bn, aZ, br⟩, .int .i64 aq, .int .i64 ao, .sl ⟨aM, aB, aN⟩, .int .i64 au, .int .i64 av, .sl ⟨bo, a_, bs⟩, .int .i64 aH, .int .i64 aw, .sl ⟨bp, ba, bt⟩, .bool bw] :: R0) fun R => CR (eInt .i64) H R cz aD ∧ CR (eInt .i64) H R cA aG ∧ CR (eInt .i64) H R cB aE ∧ CR (eInt .i64) H R cC aK ∧ CR (eInt .i64) H R cD aL) {r : Bool × List Int × List Int × List Int × List Int × List Int} (hp : ar.pj8 F ep ay aj aD ap aG aq ao aE au av aK aw aL nD nE nF nG = some r) : ∃ v H', ar.j8 F (aC.tw F) (cj.tw F) (bH.tw F) (bI.tw F) C29_ az 0 nD nE nF nG H = some (v, H') ∧ ar.Q H0 Ri R0 ay aj aA ap aq ao au av aH aw aR bn aM bo bp aF aZ aB a_ ba az aS br aN bs bt ck bQ bR bS bT bU bw bV bW bX bY bZ b_ ca cb cc cd r v H' := by
 obtain ⟨w0, s0, cQ, de, cV, dn, dp⟩ := h0
 subst eg
 subst eh
 subst ei
 subst ek
 subst el
 unfold ar.pj8 at hp
 unfold ar.j8
 exact hC29 rfl rfl rfl rfl rfl ⟨w0, s0, cQ, de, cV, dn, dp⟩ hp
def ar.pj9 (F : Nat) (ep : Int → Int → List Int → Int → List Int → Int → Int → List Int → Int → Int → List Int → Int → List Int → Int → Int → Int → Int → Option (Bool × List Int × List Int × List Int × List Int × List Int)) (ay : Int) (aj : Int) (aD : List Int) (ap : Int) (aG : List Int) (aq : Int) (ao : Int) (aE : List Int) (au : Int) (av : Int) (aK : List Int) (aw : Int) (aL : List Int) (nH : Int) (nI : Int) (nJ : Int) (nK : Int) : Option (Bool × List Int × List Int × List Int × List Int × List Int) := ar.pj8 F ep ay aj aD ap aG aq ao aE au av aK aw aL nH nI nJ nK
theorem ar.j9_P {F : Nat} {H0 : Hp} {Ri R0 : List Rs} {ay aj aA ap aq ao au av aH aw : Int} {aR bn aM bo bp : ON} {aF aZ aB a_ ba az : Nat} {aS br aN bs bt : Cap} {ck : List Int} {bQ bR bS bT bU bw : Bool} {bV bW bX bY bZ b_ ca cb cc cd : List AV} {C29_ : Nat → Nat → Int → Int → Int → Int → Hp → OA} {ep : Int → Int → List Int → Int → List Int → Int → Int → List Int → Int → Int → List Int → Int → List Int → Int → Int → Int → Int → Option (Bool × List Int × List Int × List Int × List Int × List Int)} (hC29 : ar.S29 H0 Ri R0 ay aj aA ap aq ao au av aH aw aR bn aM bo bp aF aZ aB a_ ba az aS br aN bs bt ck bQ bR bS bT bU bw bV bW bX bY bZ b_ ca cb cc cd C29_ ep) {aD aG aE aK aL : List Int} {cz cA cB cC cD : List AV} {nH nI nJ nK : Int} {H : Hp} (eg : aF = aD.length) (eh : aZ = aG.length) (ei : aB = aE.length) (ek : a_ = aK.length) (el : ba = aL.length) (h0 : Out H0 Ri H (Rs.ow bQ ⟨aR, aF, aS⟩ (eInt .i64).z bV cz bW :: Rs.ow bR ⟨bn, aZ, br⟩ (eInt .i64).z bX cA bY :: Rs.ow bS ⟨aM, aB, aN⟩ (eInt .i64).z bZ cB b_ :: Rs.ow bT ⟨bo, a_, bs⟩ (eInt .i64).z ca cC cb :: Rs.ow bU ⟨bp, ba, bt⟩ (eInt .i64).z cc cD cd :: Rs.blk az [.int .i64 ay, .int .i64 aj, .sl ⟨aR, aF, aS⟩, .int .i64 aA, .int .i64 ap, .sl ⟨bn, aZ, br⟩, .int .i64 aq, .int .i64 ao, .sl ⟨aM, aB, aN⟩, .int .i64 au, .int .i64 av, .sl ⟨bo, a_, bs⟩, .int .i64 aH, .int .i64 aw, .sl ⟨bp, ba, bt⟩, .bool bw] :: R0) fun R => CR (eInt .i64) H R cz aD ∧ CR (eInt .i64) H R cA aG ∧ CR (eInt .i64) H R cB aE ∧ CR (eInt .i64) H R cC aK ∧ CR (eInt .i64) H R cD aL) {r : Bool × List Int × List Int × List Int × List Int × List Int} (hp : ar.pj9 F ep ay aj aD ap aG aq ao aE au av aK aw aL nH nI nJ nK = some r) : ∃ v H', ar.j9 F (aC.tw F) (cj.tw F) (bH.tw F) (bI.tw F) C29_ az 0 nH nI nJ nK H = some (v, H') ∧ ar.Q H0 Ri R0 ay aj aA ap aq ao au av aH aw aR bn aM bo bp aF aZ aB a_ ba az aS br aN bs bt ck bQ bR bS bT bU bw bV bW bX bY bZ b_ ca cb cc cd r v H' := by
 obtain ⟨w0, s0, cQ, de, cV, dn, dp⟩ := h0
 subst eg
 subst eh
 subst ei
 subst ek
 subst el
 unfold ar.pj9 at hp
 unfold ar.j9
 exact ar.j8_P (@hC29) rfl rfl rfl rfl rfl ⟨w0, s0, cQ, de, cV, dn, dp⟩ hp
def ar.pl469 (F : Nat) (ep : Int → Int → List Int → Int → List Int → Int → Int → List Int → Int → Int → List Int → Int → List Int → Int → Int → Int → Int → Option (Bool × List Int × List Int × List Int × List Int × List Int)) : Nat → Int → Int → List Int → Int → List Int → Int → Int → List Int → Int → Int → List Int → Int → List Int → Int → Int → Int → Int → Int → Option (Bool × List Int × List Int × List Int × List Int × List Int)
 | 0, _, _, _, _, _, _, _, _, _, _, _, _, _, _, _, _, _, _ => none
 | k + 1, ay, aj, aD, ap, aG, aq, ao, aE, au, av, aK, aw, aL, gr, gv, gP, fZ, gd => (bif (decide (gd < aj)) then ((aC.p F aj aD fZ gd).bind fun r2 => (cj.p F r2).bind fun r5 => (bif (decide (r5 > 0)) then ((bif (decide (gv < 0)) then (ar.pl469 F ep k ay aj aD ap aG aq ao aE au av aK aw aL gr fZ gd fZ (IntKind.i64.wrap (gd + 1))) else ((aC.p F aj aD gv gP).bind fun r8 => (cj.p F r8).bind fun r11 => (bif (decide (r5 < r11)) then (ar.pj10 F (ar.pl469 F ep k) ay aj aD ap aG aq ao aE au av aK aw aL gr fZ gd fZ gd) else (ar.pj10 F (ar.pl469 F ep k) ay aj aD ap aG aq ao aE au av aK aw aL gr gv gP fZ gd))))) else (ar.pl469 F ep k ay aj aD ap aG aq ao aE au av aK aw aL gr gv gP fZ (IntKind.i64.wrap (gd + 1))))) else (ar.pj9 F ep ay aj aD ap aG aq ao aE au av aK aw aL gr gv gP fZ))
termination_by structural n => n
theorem ar.l469_P {F : Nat} {H0 : Hp} {Ri R0 : List Rs} {ay aj aA ap aq ao au av aH aw : Int} {aR bn aM bo bp : ON} {aF aZ aB a_ ba az : Nat} {aS br aN bs bt : Cap} {ck : List Int} {bQ bR bS bT bU bw : Bool} {bV bW bX bY bZ b_ ca cb cc cd : List AV} {C29_ : Nat → Nat → Int → Int → Int → Int → Hp → OA} {ep : Int → Int → List Int → Int → List Int → Int → Int → List Int → Int → Int → List Int → Int → List Int → Int → Int → Int → Int → Option (Bool × List Int × List Int × List Int × List Int × List Int)} (hC29 : ar.S29 H0 Ri R0 ay aj aA ap aq ao au av aH aw aR bn aM bo bp aF aZ aB a_ ba az aS br aN bs bt ck bQ bR bS bT bU bw bV bW bX bY bZ b_ ca cb cc cd C29_ ep) : ∀ k, ar.S469 H0 Ri R0 ay aj aA ap aq ao au av aH aw aR bn aM bo bp aF aZ aB a_ ba az aS br aN bs bt ck bQ bR bS bT bU bw bV bW bX bY bZ b_ ca cb cc cd (ar.l469 F (aC.tw F) (cj.tw F) (bH.tw F) (bI.tw F) C29_ k) (ar.pl469 F ep k) := by
 intro k
 induction k with
 | zero =>
  intro aD aG aE aK aL cz cA cB cC cD gr gv gP fZ gd H eg eh ei ek el h0 r hp
  exact nomatch (show (none : Option (Bool × List Int × List Int × List Int × List Int × List Int)) = some r from hp)
 | succ k ih =>
  intro aD aG aE aK aL cz cA cB cC cD gr gv gP fZ gd H eg eh ei ek el h0 r hp
  obtain ⟨w0, s0, cQ, de, cV, dn, dp⟩ := h0
  subst eg
  subst eh
  subst ei
  subst ek
  subst el
  unfold ar.pl469 at hp
  unfold ar.l469
  refine bind_ex (ldI_of (w0.ld (i := 5) rfl rfl)) ?_
  refine bif_ex (fun hb => ?_) (fun hb => ?_)
  ·replace hp := bif_t hb hp
   refine bind_ex (ldI_of (w0.ld (i := 5) rfl rfl)) ?_
   refine bind_ex (ldI_of (w0.ld (i := 5) rfl rfl)) ?_
   refine bind_ex (ldSl_of (w0.ld (i := 5) rfl rfl)) ?_
   have f1 := W.borrow1 (eInt .i64) w0 cQ
   obtain ⟨w1, s1⟩ := w0.right1
   obtain ⟨r2, e2, hp⟩ := bind_some' hp
   refine call_ex (aC.P rfl ⟨w1, f1⟩ e2) ?_
   rintro _ H3 ⟨rfl, w3, s3, _⟩
   obtain ⟨w4, s4⟩ := W.frame1 w0 w3 s3
   refine bind_ex rfl ?_
   obtain ⟨r5, e5, hp⟩ := bind_some' hp
   refine call_ex (cj.P ⟨w4, trivial⟩ e5) ?_
   rintro _ H6 ⟨rfl, w6, s6, _⟩
   refine bind_ex rfl ?_
   refine bif_ex (fun hb => ?_) (fun hb => ?_)
   ·replace hp := bif_t hb hp
    refine bif_ex (fun hb => ?_) (fun hb => ?_)
    ·replace hp := bif_t hb hp
     exact ih rfl rfl rfl rfl rfl ⟨w6, (s0.trans (s4.trans s6)), (cQ.step (s4.trans s6)), (de.step (s4.trans s6)), (cV.step (s4.trans s6)), (dn.step (s4.trans s6)), (dp.step (s4.trans s6))⟩ hp
    ·replace hp := bif_f hb hp
     refine bind_ex (ldI_of (w6.ld (i := 5) rfl rfl)) ?_
     refine bind_ex (ldI_of (w6.ld (i := 5) rfl rfl)) ?_
     refine bind_ex (ldSl_of (w6.ld (i := 5) rfl rfl)) ?_
     have f7 := W.borrow1 (eInt .i64) w6 (cQ.step (s4.trans s6))
     obtain ⟨w7, s7⟩ := w6.right1
     obtain ⟨r8, e8, hp⟩ := bind_some' hp
     refine call_ex (aC.P rfl ⟨w7, f7⟩ e8) ?_
     rintro _ H9 ⟨rfl, w9, s9, _⟩
     obtain ⟨w10, s10⟩ := W.frame1 w6 w9 s9
     refine bind_ex rfl ?_
     obtain ⟨r11, e11, hp⟩ := bind_some' hp
     refine call_ex (cj.P ⟨w10, trivial⟩ e11) ?_
     rintro _ H12 ⟨rfl, w12, s12, _⟩
     refine bind_ex rfl ?_
     refine bif_ex (fun hb => ?_) (fun hb => ?_)
     ·replace hp := bif_t hb hp
      exact ar.j10_P (@ih) rfl rfl rfl rfl rfl ⟨w12, (s0.trans (s4.trans (s6.trans (s10.trans s12)))), (cQ.step (s4.trans (s6.trans (s10.trans s12)))), (de.step (s4.trans (s6.trans (s10.trans s12)))), (cV.step (s4.trans (s6.trans (s10.trans s12)))), (dn.step (s4.trans (s6.trans (s10.trans s12)))), (dp.step (s4.trans (s6.trans (s10.trans s12))))⟩ hp
     ·replace hp := bif_f hb hp
      exact ar.j10_P (@ih) rfl rfl rfl rfl rfl ⟨w12, (s0.trans (s4.trans (s6.trans (s10.trans s12)))), (cQ.step (s4.trans (s6.trans (s10.trans s12)))), (de.step (s4.trans (s6.trans (s10.trans s12)))), (cV.step (s4.trans (s6.trans (s10.trans s12)))), (dn.step (s4.trans (s6.trans (s10.trans s12)))), (dp.step (s4.trans (s6.trans (s10.trans s12))))⟩ hp
   ·replace hp := bif_f hb hp
    exact ih rfl rfl rfl rfl rfl ⟨w6, (s0.trans (s4.trans s6)), (cQ.step (s4.trans s6)), (de.step (s4.trans s6)), (cV.step (s4.trans s6)), (dn.step (s4.trans s6)), (dp.step (s4.trans s6))⟩ hp
  ·replace hp := bif_f hb hp
   exact ar.j9_P (@hC29) rfl rfl rfl rfl rfl ⟨w0, s0, cQ, de, cV, dn, dp⟩ hp
def ar.S65513 (H0 : Hp) (Ri R0 : List Rs) (ay aj aA ap aq ao au av aH aw : Int) (aR bn aM bo bp : ON) (aF aZ aB a_ ba az : Nat) (aS br aN bs bt : Cap) (ck : List Int) (bQ bR bS bT bU bw : Bool) (bV bW bX bY bZ b_ ca cb cc cd : List AV) (C : Nat → Nat → Int → Int → Hp → OA) (pC : Int → List Int → Int → List Int → Int → List Int → List Int → List Int → Int → Int → Option (Bool × List Int × List Int × List Int × List Int × List Int)) : Prop := ∀ {aD aG aE aK aL : List Int} {cz cA cB cC cD : List AV} {hD ii : Int}, ∀ {H : Hp}, aF = aD.length → aZ = aG.length → aB = aE.length → a_ = aK.length → ba = aL.length → (Out H0 Ri H (Rs.ow bQ ⟨aR, aF, aS⟩ (eInt .i64).z bV cz bW :: Rs.ow bR ⟨bn, aZ, br⟩ (eInt .i64).z bX cA bY :: Rs.ow bS ⟨aM, aB, aN⟩ (eInt .i64).z bZ cB b_ :: Rs.ow bT ⟨bo, a_, bs⟩ (eInt .i64).z ca cC cb :: Rs.ow bU ⟨bp, ba, bt⟩ (eInt .i64).z cc cD cd :: Rs.blk az [.int .i64 ay, .int .i64 aj, .sl ⟨aR, aF, aS⟩, .int .i64 aA, .int .i64 ap, .sl ⟨bn, aZ, br⟩, .int .i64 aq, .int .i64 ao, .sl ⟨aM, aB, aN⟩, .int .i64 au, .int .i64 av, .sl ⟨bo, a_, bs⟩, .int .i64 aH, .int .i64 aw, .sl ⟨bp, ba, bt⟩, .bool bw] :: R0) fun R => CR (eInt .i64) H R cz aD ∧ CR (eInt .i64) H R cA aG ∧ CR (eInt .i64) H R cB aE ∧ CR (eInt .i64) H R cC aK ∧ CR (eInt .i64) H R cD aL) → ∀ {r : Bool × List Int × List Int × List Int × List Int × List Int}, pC aj aD ap aG ao aE aK aL hD ii = some r → ∃ v H', C az 0 hD ii H = some (v, H') ∧ ar.Q H0 Ri R0 ay aj aA ap aq ao au av aH aw aR bn aM bo bp aF aZ aB a_ ba az aS br aN bs bt ck bQ bR bS bT bU bw bV bW bX bY bZ b_ ca cb cc cd r v H'
def ar.S65515 (H0 : Hp) (Ri R0 : List Rs) (ay aj aA ap aq ao au av aH aw : Int) (aR bn aM bo bp : ON) (aF aZ aB a_ ba az : Nat) (aS br aN bs bt : Cap) (ck : List Int) (bQ bR bS bT bU bw : Bool) (bV bW bX bY bZ b_ ca cb cc cd : List AV) (C : Nat → Nat → Int → Int → Hp → OA) (pC : List Int → Int → List Int → Int → List Int → List Int → List Int → Int → Int → Option (Bool × List Int × List Int × List Int × List Int × List Int)) : Prop := ∀ {aD aG aE aK aL : List Int} {cz cA cB cC cD : List AV} {gI gE : Int}, ∀ {H : Hp}, aF = aD.length → aZ = aG.length → aB = aE.length → a_ = aK.length → ba = aL.length → (Out H0 Ri H (Rs.ow bQ ⟨aR, aF, aS⟩ (eInt .i64).z bV cz bW :: Rs.ow bR ⟨bn, aZ, br⟩ (eInt .i64).z bX cA bY :: Rs.ow bS ⟨aM, aB, aN⟩ (eInt .i64).z bZ cB b_ :: Rs.ow bT ⟨bo, a_, bs⟩ (eInt .i64).z ca cC cb :: Rs.ow bU ⟨bp, ba, bt⟩ (eInt .i64).z cc cD cd :: Rs.blk az [.int .i64 ay, .int .i64 aj, .sl ⟨aR, aF, aS⟩, .int .i64 aA, .int .i64 ap, .sl ⟨bn, aZ, br⟩, .int .i64 aq, .int .i64 ao, .sl ⟨aM, aB, aN⟩, .int .i64 au, .int .i64 av, .sl ⟨bo, a_, bs⟩, .int .i64 aH, .int .i64 aw, .sl ⟨bp, ba, bt⟩, .bool bw] :: R0) fun R => CR (eInt .i64) H R cz aD ∧ CR (eInt .i64) H R cA aG ∧ CR (eInt .i64) H R cB aE ∧ CR (eInt .i64) H R cC aK ∧ CR (eInt .i64) H R cD aL) → ∀ {r : Bool × List Int × List Int × List Int × List Int × List Int}, pC aD ap aG ao aE aK aL gI gE = some r → ∃ v H', C az 0 gI gE H = some (v, H') ∧ ar.Q H0 Ri R0 ay aj aA ap aq ao au av aH aw aR bn aM bo bp aF aZ aB a_ ba az aS br aN bs bt ck bQ bR bS bT bU bw bV bW bX bY bZ b_ ca cb cc cd r v H'
def ar.pl65515 (F : Nat)  : Nat → List Int → Int → List Int → Int → List Int → List Int → List Int → Int → Int → Option (Bool × List Int × List Int × List Int × List Int × List Int)
 | 0, _, _, _, _, _, _, _, _, _ => none
 | k + 1, aD, ap, aG, ao, aE, aK, aL, gI, gE => (bif (decide (gE < ap)) then ((aC.p F ap aG gI gE).bind fun r3 => (ix aG (IntKind.i64.wrap ((IntKind.i64.wrap (gI * ap)) + gE))).bind fun n7 => (some (aG.set n7 (IntKind.i64.wrap (0 - r3)))).bind fun l8 => (aC.p F ao aE gE gI).bind fun r12 => (ix aE (IntKind.i64.wrap ((IntKind.i64.wrap (gE * ao)) + gI))).bind fun n16 => (some (aE.set n16 (IntKind.i64.wrap (0 - r12)))).bind fun l17 => ar.pl65515 F k aD ap l8 ao l17 aK aL gI (IntKind.i64.wrap (gE + 1))) else (some (true, aD, aG, aE, aK, aL)))
termination_by structural n => n
theorem ar.l65515_P {F : Nat} {H0 : Hp} {Ri R0 : List Rs} {ay aj aA ap aq ao au av aH aw : Int} {aR bn aM bo bp : ON} {aF aZ aB a_ ba az : Nat} {aS br aN bs bt : Cap} {ck : List Int} {bQ bR bS bT bU bw : Bool} {bV bW bX bY bZ b_ ca cb cc cd : List AV}  : ∀ k, ar.S65515 H0 Ri R0 ay aj aA ap aq ao au av aH aw aR bn aM bo bp aF aZ aB a_ ba az aS br aN bs bt ck bQ bR bS bT bU bw bV bW bX bY bZ b_ ca cb cc cd (ar.l65515 F (aC.tw F) (cj.tw F) (bH.tw F) (bI.tw F)  k) (ar.pl65515 F  k) := by
 intro k
 induction k with
 | zero =>
  intro aD aG aE aK aL cz cA cB cC cD gI gE H eg eh ei ek el h0 r hp
  exact nomatch (show (none : Option (Bool × List Int × List Int × List Int × List Int × List Int)) = some r from hp)
 | succ k ih =>
  intro aD aG aE aK aL cz cA cB cC cD gI gE H eg eh ei ek el h0 r hp
  obtain ⟨w0, s0, cQ, de, cV, dn, dp⟩ := h0
  subst eg
  subst eh
  subst ei
  subst ek
  subst el
  unfold ar.pl65515 at hp
  unfold ar.l65515
  refine bind_ex (ldI_of (w0.ld (i := 5) rfl rfl)) ?_
  refine bif_ex (fun hb => ?_) (fun hb => ?_)
  ·replace hp := bif_t hb hp
   refine bind_ex (ldSl_of (w0.ld (i := 5) rfl rfl)) ?_
   refine bind_ex (ldI_of (w0.ld (i := 5) rfl rfl)) ?_
   refine bind_ex (ldI_of (w0.ld (i := 5) rfl rfl)) ?_
   refine bind_ex (ldI_of (w0.ld (i := 5) rfl rfl)) ?_
   refine bind_ex (ldSl_of (w0.ld (i := 5) rfl rfl)) ?_
   obtain ⟨w1, s1⟩ := w0.pick' [1, 0, 2, 3, 4, 5] 6 rfl rfl rfl
   dsimp only [pk, pks, nth, List.drop] at w1 s1
   have f2 := W.borrow1 (eInt .i64) w1 (de.step s1)
   obtain ⟨w2, s2⟩ := w1.right1
   obtain ⟨r3, e3, hp⟩ := bind_some' hp
   refine call_ex (aC.P rfl ⟨w2, f2⟩ e3) ?_
   rintro _ H4 ⟨rfl, w4, s4, _⟩
   obtain ⟨w5, s5⟩ := W.frame1 w1 w4 s4
   refine bind_ex rfl ?_
   refine ifs_ex (Cons.tr (Cons.refl _) s1 (W.cons_of (Rn := []) w2 w4 s4)) ?_
   obtain ⟨n7, g7, hp⟩ := bind_some' hp
   obtain ⟨p7, q7, i7, h7, j7⟩ := W.ixo (E := (eInt .i64)) w5 (i := 0) rfl rfl (de.step (s1.trans s5)) g7
   refine bind_ex i7 ?_
   obtain ⟨l8, e8, hp⟩ := bind_some' hp
   refine sto_k (eInt .i64) w5 (i := 0) (j := 0) (p := p7) rfl rfl (de.step (s1.trans s5)) g7 i7 e8 rfl rfl (fun _ h => by have h : _ = [_] := h; subst h; exact rfl) fun H9 k9 w9 s9 c9 => ?_
   dsimp only [List.set] at w9 s9 c9
   refine bind_ex (ldSl_of (w9.ld (i := 5) rfl rfl)) ?_
   refine bind_ex (ldI_of (w9.ld (i := 5) rfl rfl)) ?_
   refine bind_ex (ldI_of (w9.ld (i := 5) rfl rfl)) ?_
   refine bind_ex (ldI_of (w9.ld (i := 5) rfl rfl)) ?_
   refine bind_ex (ldSl_of (w9.ld (i := 5) rfl rfl)) ?_
   obtain ⟨w10, s10⟩ := w9.pick' [2, 0, 1, 3, 4, 5] 6 rfl rfl rfl
   dsimp only [pk, pks, nth, List.drop] at w10 s10
   have f11 := W.borrow1 (eInt .i64) w10 (cV.step (s1.trans (s5.trans (s9.trans s10))))
   obtain ⟨w11, s11⟩ := w10.right1
   obtain ⟨r12, e12, hp⟩ := bind_some' hp
   refine call_ex (aC.P rfl ⟨w11, f11⟩ e12) ?_
   rintro _ H13 ⟨rfl, w13, s13, _⟩
   obtain ⟨w14, s14⟩ := W.frame1 w10 w13 s13
   refine bind_ex rfl ?_
   refine ifs_ex (Cons.tr (Cons.refl _) s10 (W.cons_of (Rn := []) w11 w13 s13)) ?_
   obtain ⟨n16, g16, hp⟩ := bind_some' hp
   obtain ⟨p16, q16, i16, h16, j16⟩ := W.ixo (E := (eInt .i64)) w14 (i := 0) rfl rfl (cV.step (s1.trans (s5.trans (s9.trans (s10.trans s14))))) g16
   refine bind_ex i16 ?_
   obtain ⟨l17, e17, hp⟩ := bind_some' hp
   refine sto_k (eInt .i64) w14 (i := 0) (j := 0) (p := p16) rfl rfl (cV.step (s1.trans (s5.trans (s9.trans (s10.trans s14))))) g16 i16 e17 rfl rfl (fun _ h => by have h : _ = [_] := h; subst h; exact rfl) fun H18 k18 w18 s18 c18 => ?_
   dsimp only [List.set] at w18 s18 c18
   obtain ⟨w19, s19⟩ := w18.pick' [2, 1, 0, 3, 4, 5] 6 rfl rfl rfl
   dsimp only [pk, pks, nth, List.drop] at w19 s19
   exact ih rfl ((st_len e8).symm) ((st_len e17).symm) rfl rfl ⟨w19, (s0.trans (s1.trans (s5.trans (s9.trans (s10.trans (s14.trans (s18.trans s19))))))), (cQ.step (s1.trans (s5.trans (s9.trans (s10.trans (s14.trans (s18.trans s19))))))), (c9.step (s10.trans (s14.trans (s18.trans s19)))), (c18.step s19), (dn.step (s1.trans (s5.trans (s9.trans (s10.trans (s14.trans (s18.trans s19))))))), (dp.step (s1.trans (s5.trans (s9.trans (s10.trans (s14.trans (s18.trans s19)))))))⟩ hp
  ·replace hp := bif_f hb hp
   obtain rfl := Option.some.inj hp
   exact ⟨_, _, rfl, _, _, _, _, _, rfl, rfl, rfl, rfl, rfl, rfl, w0, s0, cQ, de, cV, dn, dp⟩
def ar.pj5 (F : Nat)  (aD : List Int) (ap : Int) (aG : List Int) (ao : Int) (aE : List Int) (aK : List Int) (aL : List Int) (nC : Int) : Option (Bool × List Int × List Int × List Int × List Int × List Int) := ar.pl65515 F F aD ap aG ao aE aK aL nC 0
theorem ar.j5_P {F : Nat} {H0 : Hp} {Ri R0 : List Rs} {ay aj aA ap aq ao au av aH aw : Int} {aR bn aM bo bp : ON} {aF aZ aB a_ ba az : Nat} {aS br aN bs bt : Cap} {ck : List Int} {bQ bR bS bT bU bw : Bool} {bV bW bX bY bZ b_ ca cb cc cd : List AV}  {aD aG aE aK aL : List Int} {cz cA cB cC cD : List AV} {nC : Int} {H : Hp} (eg : aF = aD.length) (eh : aZ = aG.length) (ei : aB = aE.length) (ek : a_ = aK.length) (el : ba = aL.length) (h0 : Out H0 Ri H (Rs.ow bQ ⟨aR, aF, aS⟩ (eInt .i64).z bV cz bW :: Rs.ow bR ⟨bn, aZ, br⟩ (eInt .i64).z bX cA bY :: Rs.ow bS ⟨aM, aB, aN⟩ (eInt .i64).z bZ cB b_ :: Rs.ow bT ⟨bo, a_, bs⟩ (eInt .i64).z ca cC cb :: Rs.ow bU ⟨bp, ba, bt⟩ (eInt .i64).z cc cD cd :: Rs.blk az [.int .i64 ay, .int .i64 aj, .sl ⟨aR, aF, aS⟩, .int .i64 aA, .int .i64 ap, .sl ⟨bn, aZ, br⟩, .int .i64 aq, .int .i64 ao, .sl ⟨aM, aB, aN⟩, .int .i64 au, .int .i64 av, .sl ⟨bo, a_, bs⟩, .int .i64 aH, .int .i64 aw, .sl ⟨bp, ba, bt⟩, .bool bw] :: R0) fun R => CR (eInt .i64) H R cz aD ∧ CR (eInt .i64) H R cA aG ∧ CR (eInt .i64) H R cB aE ∧ CR (eInt .i64) H R cC aK ∧ CR (eInt .i64) H R cD aL) {r : Bool × List Int × List Int × List Int × List Int × List Int} (hp : ar.pj5 F  aD ap aG ao aE aK aL nC = some r) : ∃ v H', ar.j5 F (aC.tw F) (cj.tw F) (bH.tw F) (bI.tw F)  az 0 nC H = some (v, H') ∧ ar.Q H0 Ri R0 ay aj aA ap aq ao au av aH aw aR bn aM bo bp aF aZ aB a_ ba az aS br aN bs bt ck bQ bR bS bT bU bw bV bW bX bY bZ b_ ca cb cc cd r v H' := by
 obtain ⟨w0, s0, cQ, de, cV, dn, dp⟩ := h0
 subst eg
 subst eh
 subst ei
 subst ek
 subst el
 unfold ar.pj5 at hp
 unfold ar.j5
 exact ar.l65515_P F rfl rfl rfl rfl rfl ⟨w0, s0, cQ, de, cV, dn, dp⟩ hp
def ar.pl65513 (F : Nat)  : Nat → Int → List Int → Int → List Int → Int → List Int → List Int → List Int → Int → Int → Option (Bool × List Int × List Int × List Int × List Int × List Int)
 | 0, _, _, _, _, _, _, _, _, _, _ => none
 | k + 1, aj, aD, ap, aG, ao, aE, aK, aL, hD, ii => (bif (decide (ii < aj)) then ((aC.p F aj aD hD ii).bind fun r2 => (ix aD (IntKind.i64.wrap ((IntKind.i64.wrap (hD * aj)) + ii))).bind fun n6 => (some (aD.set n6 (IntKind.i64.wrap (0 - r2)))).bind fun l7 => ar.pl65513 F k aj l7 ap aG ao aE aK aL hD (IntKind.i64.wrap (ii + 1))) else (ar.pj5 F aD ap aG ao aE aK aL hD))
termination_by structural n => n
theorem ar.l65513_P {F : Nat} {H0 : Hp} {Ri R0 : List Rs} {ay aj aA ap aq ao au av aH aw : Int} {aR bn aM bo bp : ON} {aF aZ aB a_ ba az : Nat} {aS br aN bs bt : Cap} {ck : List Int} {bQ bR bS bT bU bw : Bool} {bV bW bX bY bZ b_ ca cb cc cd : List AV}  : ∀ k, ar.S65513 H0 Ri R0 ay aj aA ap aq ao au av aH aw aR bn aM bo bp aF aZ aB a_ ba az aS br aN bs bt ck bQ bR bS bT bU bw bV bW bX bY bZ b_ ca cb cc cd (ar.l65513 F (aC.tw F) (cj.tw F) (bH.tw F) (bI.tw F)  k) (ar.pl65513 F  k) := by
 intro k
 induction k with
 | zero =>
  intro aD aG aE aK aL cz cA cB cC cD hD ii H eg eh ei ek el h0 r hp
  exact nomatch (show (none : Option (Bool × List Int × List Int × List Int × List Int × List Int)) = some r from hp)
 | succ k ih =>
  intro aD aG aE aK aL cz cA cB cC cD hD ii H eg eh ei ek el h0 r hp
  obtain ⟨w0, s0, cQ, de, cV, dn, dp⟩ := h0
  subst eg
  subst eh
  subst ei
  subst ek
  subst el
  unfold ar.pl65513 at hp
  unfold ar.l65513
  refine bind_ex (ldI_of (w0.ld (i := 5) rfl rfl)) ?_
  refine bif_ex (fun hb => ?_) (fun hb => ?_)
  ·replace hp := bif_t hb hp
   refine bind_ex (ldSl_of (w0.ld (i := 5) rfl rfl)) ?_
   refine bind_ex (ldI_of (w0.ld (i := 5) rfl rfl)) ?_
   refine bind_ex (ldI_of (w0.ld (i := 5) rfl rfl)) ?_
   refine bind_ex (ldI_of (w0.ld (i := 5) rfl rfl)) ?_
   refine bind_ex (ldSl_of (w0.ld (i := 5) rfl rfl)) ?_
   have f1 := W.borrow1 (eInt .i64) w0 cQ
   obtain ⟨w1, s1⟩ := w0.right1
   obtain ⟨r2, e2, hp⟩ := bind_some' hp
   refine call_ex (aC.P rfl ⟨w1, f1⟩ e2) ?_
   rintro _ H3 ⟨rfl, w3, s3, _⟩
   obtain ⟨w4, s4⟩ := W.frame1 w0 w3 s3
   refine bind_ex rfl ?_
   refine ifs_ex (W.cons_of (Rn := []) w1 w3 s3) ?_
   obtain ⟨n6, g6, hp⟩ := bind_some' hp
   obtain ⟨p6, q6, i6, h6, j6⟩ := W.ixo (E := (eInt .i64)) w4 (i := 0) rfl rfl (cQ.step s4) g6
   refine bind_ex i6 ?_
   obtain ⟨l7, e7, hp⟩ := bind_some' hp
   refine sto_k (eInt .i64) w4 (i := 0) (j := 0) (p := p6) rfl rfl (cQ.step s4) g6 i6 e7 rfl rfl (fun _ h => by have h : _ = [_] := h; subst h; exact rfl) fun H8 k8 w8 s8 c8 => ?_
   dsimp only [List.set] at w8 s8 c8
   exact ih ((st_len e7).symm) rfl rfl rfl rfl ⟨w8, (s0.trans (s4.trans s8)), c8, (de.step (s4.trans s8)), (cV.step (s4.trans s8)), (dn.step (s4.trans s8)), (dp.step (s4.trans s8))⟩ hp
  ·replace hp := bif_f hb hp
   exact ar.j5_P rfl rfl rfl rfl rfl ⟨w0, s0, cQ, de, cV, dn, dp⟩ hp
def ar.pj6 (F : Nat)  (ay : Int) (aj : Int) (aD : List Int) (ap : Int) (aG : List Int) (aq : Int) (ao : Int) (aE : List Int) (au : Int) (av : Int) (aK : List Int) (aw : Int) (aL : List Int) (il : Int) (kC : Int) (lC : Int) : Option (Bool × List Int × List Int × List Int × List Int × List Int) := (bif (decide (kC < 0)) then (some (false, aD, aG, aE, aK, aL)) else ((bH.p F aj aD kC il).bind fun r1 => (bH.p F ap aG kC il).bind fun r4 => (bI.p F aq ao aE kC il).bind fun r7 => (bI.p F ay aj r1 lC il).bind fun r10 => (bI.p F au av aK lC il).bind fun r13 => (bH.p F aw aL lC il).bind fun r16 => (aC.p F aj r10 il il).bind fun r20 => (bif (decide (r20 < 0)) then (ar.pl65513 F F aj r10 ap r4 ao r7 r13 r16 il 0) else (some (true, r10, r4, r7, r13, r16)))))
theorem ar.j6_P {F : Nat} {H0 : Hp} {Ri R0 : List Rs} {ay aj aA ap aq ao au av aH aw : Int} {aR bn aM bo bp : ON} {aF aZ aB a_ ba az : Nat} {aS br aN bs bt : Cap} {ck : List Int} {bQ bR bS bT bU bw : Bool} {bV bW bX bY bZ b_ ca cb cc cd : List AV}  {aD aG aE aK aL : List Int} {cz cA cB cC cD : List AV} {il kC lC : Int} {H : Hp} (eg : aF = aD.length) (eh : aZ = aG.length) (ei : aB = aE.length) (ek : a_ = aK.length) (el : ba = aL.length) (h0 : Out H0 Ri H (Rs.ow bQ ⟨aR, aF, aS⟩ (eInt .i64).z bV cz bW :: Rs.ow bR ⟨bn, aZ, br⟩ (eInt .i64).z bX cA bY :: Rs.ow bS ⟨aM, aB, aN⟩ (eInt .i64).z bZ cB b_ :: Rs.ow bT ⟨bo, a_, bs⟩ (eInt .i64).z ca cC cb :: Rs.ow bU ⟨bp, ba, bt⟩ (eInt .i64).z cc cD cd :: Rs.blk az [.int .i64 ay, .int .i64 aj, .sl ⟨aR, aF, aS⟩, .int .i64 aA, .int .i64 ap, .sl ⟨bn, aZ, br⟩, .int .i64 aq, .int .i64 ao, .sl ⟨aM, aB, aN⟩, .int .i64 au, .int .i64 av, .sl ⟨bo, a_, bs⟩, .int .i64 aH, .int .i64 aw, .sl ⟨bp, ba, bt⟩, .bool bw] :: R0) fun R => CR (eInt .i64) H R cz aD ∧ CR (eInt .i64) H R cA aG ∧ CR (eInt .i64) H R cB aE ∧ CR (eInt .i64) H R cC aK ∧ CR (eInt .i64) H R cD aL) {r : Bool × List Int × List Int × List Int × List Int × List Int} (hp : ar.pj6 F  ay aj aD ap aG aq ao aE au av aK aw aL il kC lC = some r) : ∃ v H', ar.j6 F (aC.tw F) (cj.tw F) (bH.tw F) (bI.tw F)  az 0 il kC lC H = some (v, H') ∧ ar.Q H0 Ri R0 ay aj aA ap aq ao au av aH aw aR bn aM bo bp aF aZ aB a_ ba az aS br aN bs bt ck bQ bR bS bT bU bw bV bW bX bY bZ b_ ca cb cc cd r v H' := by
 obtain ⟨w0, s0, cQ, de, cV, dn, dp⟩ := h0
 subst eg
 subst eh
 subst ei
 subst ek
 subst el
 unfold ar.pj6 at hp
 unfold ar.j6
 refine bif_ex (fun hb => ?_) (fun hb => ?_)
 ·replace hp := bif_t hb hp
  obtain rfl := Option.some.inj hp
  exact ⟨_, _, rfl, _, _, _, _, _, rfl, rfl, rfl, rfl, rfl, rfl, w0, s0, cQ, de, cV, dn, dp⟩
 ·replace hp := bif_f hb hp
  refine bind_ex (ldI_of (w0.ld (i := 5) rfl rfl)) ?_
  refine bind_ex (ldI_of (w0.ld (i := 5) rfl rfl)) ?_
  refine bind_ex (ldSl_of (w0.ld (i := 5) rfl rfl)) ?_
  obtain ⟨r1, e1, hp⟩ := bind_some' hp
  refine call_ex (bH.P rfl ⟨w0, cQ⟩ e1) ?_
  rintro _ H2 ⟨BA, rfl, hl2_0, w2, s2, f2_0⟩
  refine bind_ex (ldI_of (w2.ld (i := 5) rfl rfl)) ?_
  refine bind_ex (ldI_of (w2.ld (i := 5) rfl rfl)) ?_
  refine bind_ex (ldSl_of (w2.ld (i := 5) rfl rfl)) ?_
  obtain ⟨w3, s3⟩ := w2.pick' [1, 0, 2, 3, 4, 5] 6 rfl rfl rfl
  dsimp only [pk, pks, nth, List.drop] at w3 s3
  obtain ⟨r4, e4, hp⟩ := bind_some' hp
  refine call_ex (bH.P rfl ⟨w3, (de.step (s2.trans s3))⟩ e4) ?_
  rintro _ H5 ⟨BB, rfl, hl5_0, w5, s5, f5_0⟩
  refine bind_ex (ldI_of (w5.ld (i := 5) rfl rfl)) ?_
  refine bind_ex (ldI_of (w5.ld (i := 5) rfl rfl)) ?_
  refine bind_ex (ldSl_of (w5.ld (i := 5) rfl rfl)) ?_
  obtain ⟨w6, s6⟩ := w5.pick' [2, 0, 1, 3, 4, 5] 6 rfl rfl rfl
  dsimp only [pk, pks, nth, List.drop] at w6 s6
  obtain ⟨r7, e7, hp⟩ := bind_some' hp
  refine call_ex (bI.P rfl ⟨w6, (cV.step (s2.trans (s3.trans (s5.trans s6))))⟩ e7) ?_
  rintro _ H8 ⟨zq, rfl, hl8_0, w8, s8, f8_0⟩
  refine bind_ex (ldI_of (w8.ld (i := 5) rfl rfl)) ?_
  refine bind_ex (ldI_of (w8.ld (i := 5) rfl rfl)) ?_
  refine bind_ex (ldSl_of (w8.ld (i := 5) rfl rfl)) ?_
  obtain ⟨w9, s9⟩ := w8.pick' [2, 0, 1, 3, 4, 5] 6 rfl rfl rfl
  dsimp only [pk, pks, nth, List.drop] at w9 s9
  obtain ⟨r10, e10, hp⟩ := bind_some' hp
  refine call_ex (bI.P hl2_0 ⟨w9, (f2_0.step (s3.trans (s5.trans (s6.trans (s8.trans s9)))))⟩ e10) ?_
  rintro _ H11 ⟨zr, rfl, hl11_0, w11, s11, f11_0⟩
  refine bind_ex (ldI_of (w11.ld (i := 5) rfl rfl)) ?_
  refine bind_ex (ldI_of (w11.ld (i := 5) rfl rfl)) ?_
  refine bind_ex (ldSl_of (w11.ld (i := 5) rfl rfl)) ?_
  obtain ⟨w12, s12⟩ := w11.pick' [3, 0, 1, 2, 4, 5] 6 rfl rfl rfl
  dsimp only [pk, pks, nth, List.drop] at w12 s12
  obtain ⟨r13, e13, hp⟩ := bind_some' hp
  refine call_ex (bI.P rfl ⟨w12, (dn.step (s2.trans (s3.trans (s5.trans (s6.trans (s8.trans (s9.trans (s11.trans s12))))))))⟩ e13) ?_
  rintro _ H14 ⟨zs, rfl, hl14_0, w14, s14, f14_0⟩
  refine bind_ex (ldI_of (w14.ld (i := 5) rfl rfl)) ?_
  refine bind_ex (ldI_of (w14.ld (i := 5) rfl rfl)) ?_
  refine bind_ex (ldSl_of (w14.ld (i := 5) rfl rfl)) ?_
  obtain ⟨w15, s15⟩ := w14.pick' [4, 0, 1, 2, 3, 5] 6 rfl rfl rfl
  dsimp only [pk, pks, nth, List.drop] at w15 s15
  obtain ⟨r16, e16, hp⟩ := bind_some' hp
  refine call_ex (bH.P rfl ⟨w15, (dp.step (s2.trans (s3.trans (s5.trans (s6.trans (s8.trans (s9.trans (s11.trans (s12.trans (s14.trans s15))))))))))⟩ e16) ?_
  rintro _ H17 ⟨zt, rfl, hl17_0, w17, s17, f17_0⟩
  refine bind_ex (ldI_of (w17.ld (i := 5) rfl rfl)) ?_
  refine bind_ex (ldI_of (w17.ld (i := 5) rfl rfl)) ?_
  refine bind_ex (ldSl_of (w17.ld (i := 5) rfl rfl)) ?_
  obtain ⟨w18, s18⟩ := w17.pick' [2, 0, 1, 3, 4, 5] 6 rfl rfl rfl
  dsimp only [pk, pks, nth, List.drop] at w18 s18
  have f19 := W.borrow1 (eInt .i64) w18 (f11_0.step (s12.trans (s14.trans (s15.trans (s17.trans s18)))))
  obtain ⟨w19, s19⟩ := w18.right1
  obtain ⟨r20, e20, hp⟩ := bind_some' hp
  refine call_ex (aC.P hl11_0 ⟨w19, f19⟩ e20) ?_
  rintro _ H21 ⟨rfl, w21, s21, _⟩
  obtain ⟨w22, s22⟩ := W.frame1 w18 w21 s21
  refine bind_ex rfl ?_
  refine bif_ex (fun hb => ?_) (fun hb => ?_)
  ·replace hp := bif_t hb hp
   obtain ⟨w23, s23⟩ := w22.pick' [0, 4, 3, 2, 1, 5] 6 rfl rfl rfl
   dsimp only [pk, pks, nth, List.drop] at w23 s23
   exact ar.l65513_P F hl11_0 hl5_0 hl8_0 hl14_0 hl17_0 ⟨w23, (s0.trans (s2.trans (s3.trans (s5.trans (s6.trans (s8.trans (s9.trans (s11.trans (s12.trans (s14.trans (s15.trans (s17.trans (s18.trans (s22.trans s23)))))))))))))), (f11_0.step (s12.trans (s14.trans (s15.trans (s17.trans (s18.trans (s22.trans s23))))))), (f5_0.step (s6.trans (s8.trans (s9.trans (s11.trans (s12.trans (s14.trans (s15.trans (s17.trans (s18.trans (s22.trans s23))))))))))), (f8_0.step (s9.trans (s11.trans (s12.trans (s14.trans (s15.trans (s17.trans (s18.trans (s22.trans s23))))))))), (f14_0.step (s15.trans (s17.trans (s18.trans (s22.trans s23))))), (f17_0.step (s18.trans (s22.trans s23)))⟩ hp
  ·replace hp := bif_f hb hp
   obtain ⟨w24, s24⟩ := w22.pick' [0, 4, 3, 2, 1, 5] 6 rfl rfl rfl
   dsimp only [pk, pks, nth, List.drop] at w24 s24
   obtain rfl := Option.some.inj hp
   exact ⟨_, _, rfl, _, _, _, _, _, rfl, hl11_0, hl5_0, hl8_0, hl14_0, hl17_0, w24, (s0.trans (s2.trans (s3.trans (s5.trans (s6.trans (s8.trans (s9.trans (s11.trans (s12.trans (s14.trans (s15.trans (s17.trans (s18.trans (s22.trans s24)))))))))))))), (f11_0.step (s12.trans (s14.trans (s15.trans (s17.trans (s18.trans (s22.trans s24))))))), (f5_0.step (s6.trans (s8.trans (s9.trans (s11.trans (s12.trans (s14.trans (s15.trans (s17.trans (s18.trans (s22.trans s24))))))))))), (f8_0.step (s9.trans (s11.trans (s12.trans (s14.trans (s15.trans (s17.trans (s18.trans (s22.trans s24))))))))), (f14_0.step (s15.trans (s17.trans (s18.trans (s22.trans s24))))), (f17_0.step (s18.trans (s22.trans s24)))⟩
def ar.pl29 (F : Nat)  : Nat → Int → Int → List Int → Int → List Int → Int → Int → List Int → Int → Int → List Int → Int → List Int → Int → Int → Int → Int → Option (Bool × List Int × List Int × List Int × List Int × List Int)
 | 0, _, _, _, _, _, _, _, _, _, _, _, _, _, _, _, _, _ => none
 | k + 1, ay, aj, aD, ap, aG, aq, ao, aE, au, av, aK, aw, aL, dC, ed, jn, jG => (bif (decide (jG < ay)) then (ar.pl469 F (ar.pl29 F k) F ay aj aD ap aG aq ao aE au av aK aw aL dC ed jn jG dC) else (ar.pj6 F ay aj aD ap aG aq ao aE au av aK aw aL dC ed jn))
termination_by structural n => n
theorem ar.l29_P {F : Nat} {H0 : Hp} {Ri R0 : List Rs} {ay aj aA ap aq ao au av aH aw : Int} {aR bn aM bo bp : ON} {aF aZ aB a_ ba az : Nat} {aS br aN bs bt : Cap} {ck : List Int} {bQ bR bS bT bU bw : Bool} {bV bW bX bY bZ b_ ca cb cc cd : List AV}  : ∀ k, ar.S29 H0 Ri R0 ay aj aA ap aq ao au av aH aw aR bn aM bo bp aF aZ aB a_ ba az aS br aN bs bt ck bQ bR bS bT bU bw bV bW bX bY bZ b_ ca cb cc cd (ar.l29 F (aC.tw F) (cj.tw F) (bH.tw F) (bI.tw F)  k) (ar.pl29 F  k) := by
 intro k
 induction k with
 | zero =>
  intro aD aG aE aK aL cz cA cB cC cD dC ed jn jG H eg eh ei ek el h0 r hp
  exact nomatch (show (none : Option (Bool × List Int × List Int × List Int × List Int × List Int)) = some r from hp)
 | succ k ih =>
  intro aD aG aE aK aL cz cA cB cC cD dC ed jn jG H eg eh ei ek el h0 r hp
  obtain ⟨w0, s0, cQ, de, cV, dn, dp⟩ := h0
  subst eg
  subst eh
  subst ei
  subst ek
  subst el
  unfold ar.pl29 at hp
  unfold ar.l29
  refine bind_ex (ldI_of (w0.ld (i := 5) rfl rfl)) ?_
  refine bif_ex (fun hb => ?_) (fun hb => ?_)
  ·replace hp := bif_t hb hp
   exact ar.l469_P (@ih) F rfl rfl rfl rfl rfl ⟨w0, s0, cQ, de, cV, dn, dp⟩ hp
  ·replace hp := bif_f hb hp
   exact ar.j6_P rfl rfl rfl rfl rfl ⟨w0, s0, cQ, de, cV, dn, dp⟩ hp
def ar.p (F : Nat) (bk : Int) (aX : Int) (dy : List Int) (bb : Int) (fh : List Int) (aY : Int) (aT : Int) (db : List Int) (bc : Int) (bf : Int) (fi : List Int) (bg : Int) (fj : List Int) (ae : Int) : Option (Bool × List Int × List Int × List Int × List Int × List Int) := ar.pl29 F F bk aX dy bb fh aY aT db bc bf fi bg fj ae (-1) (-1) ae
theorem ar.P {F : Nat} {bk aX bl bb aY aT bc bf bv bg ae : Int} {cN dW cm dX dY : ON} {bK cZ bA c_ da aa : Nat} {cO dZ cn d_ ea : Cap} {dy fh db fi fj : List Int} {eN fq eO fr ft ax : Bool} {eP eQ ga fu fv gz eR eS gb fw fx gA fy fz gB : List AV} {H : Hp} {R0 : List Rs} (jx : bK = dy.length) (kw : cZ = fh.length) (iR : bA = db.length) (kx : c_ = fi.length) (ky : da = fj.length) (h0 : Inn H (Rs.ow eN ⟨cN, bK, cO⟩ (eInt .i64).z eP ga eQ :: Rs.ow fq ⟨dW, cZ, dZ⟩ (eInt .i64).z fu gz fv :: Rs.ow eO ⟨cm, bA, cn⟩ (eInt .i64).z eR gb eS :: Rs.ow fr ⟨dX, c_, d_⟩ (eInt .i64).z fw gA fx :: Rs.ow ft ⟨dY, da, ea⟩ (eInt .i64).z fy gB fz :: Rs.blk aa [.int .i64 bk, .int .i64 aX, .sl ⟨cN, bK, cO⟩, .int .i64 bl, .int .i64 bb, .sl ⟨dW, cZ, dZ⟩, .int .i64 aY, .int .i64 aT, .sl ⟨cm, bA, cn⟩, .int .i64 bc, .int .i64 bf, .sl ⟨dX, c_, d_⟩, .int .i64 bv, .int .i64 bg, .sl ⟨dY, da, ea⟩, .bool ax] :: R0) fun R => CR (eInt .i64) H R ga dy ∧ CR (eInt .i64) H R gz fh ∧ CR (eInt .i64) H R gb db ∧ CR (eInt .i64) H R gA fi ∧ CR (eInt .i64) H R gB fj) {r : Bool × List Int × List Int × List Int × List Int × List Int} (hp : ar.p F bk aX dy bb fh aY aT db bc bf fi bg fj ae = some r) : ∃ v H', ar.tw F aa 0 ae H = some (v, H') ∧ ar.Q H (Rs.ow eN ⟨cN, bK, cO⟩ (eInt .i64).z eP ga eQ :: Rs.ow fq ⟨dW, cZ, dZ⟩ (eInt .i64).z fu gz fv :: Rs.ow eO ⟨cm, bA, cn⟩ (eInt .i64).z eR gb eS :: Rs.ow fr ⟨dX, c_, d_⟩ (eInt .i64).z fw gA fx :: Rs.ow ft ⟨dY, da, ea⟩ (eInt .i64).z fy gB fz :: Rs.blk aa [.int .i64 bk, .int .i64 aX, .sl ⟨cN, bK, cO⟩, .int .i64 bl, .int .i64 bb, .sl ⟨dW, cZ, dZ⟩, .int .i64 aY, .int .i64 aT, .sl ⟨cm, bA, cn⟩, .int .i64 bc, .int .i64 bf, .sl ⟨dX, c_, d_⟩, .int .i64 bv, .int .i64 bg, .sl ⟨dY, da, ea⟩, .bool ax] :: R0) R0 bk aX bl bb aY aT bc bf bv bg cN dW cm dX dY bK cZ bA c_ da aa cO dZ cn d_ ea dy eN fq eO fr ft ax eP eQ fu fv eR eS fw fx fy fz r v H' := by
 obtain ⟨w0, iI, kk, g_, kl, km⟩ := h0
 subst jx
 subst kw
 subst iR
 subst kx
 subst ky
 unfold ar.p at hp
 unfold ar.tw ar.twX
 have s0 := w0.rf
 exact ar.l29_P F rfl rfl rfl rfl rfl ⟨w0, s0, iI, kk, g_, kl, km⟩ hp
def du.Q (H0 : Hp) (Ri R0 : List Rs)  (r : Int) (v : AV) (H' : Hp) : Prop := v = (.int .i64 r) ∧ Out H0 Ri H' (R0) fun R => True
def du.p (F : Nat) (aa : Int) (ak : Int) : Option (Int) := (if ak = 0 then none else ((if ak = 0 then none else ((bif (decide ((Int.tmod aa ak) < 0)) then (some (IntKind.i64.wrap ((IntKind.i64.wrap (Int.tdiv aa ak)) - 1))) else (some (IntKind.i64.wrap (Int.tdiv aa ak))))))))
theorem du.P {F : Nat} {aa ak : Int} {H : Hp} {R0 : List Rs}  (h0 : Inn H R0 fun R => True) {r : Int} (hp : du.p F aa ak = some r) : ∃ v H', du.tw F aa ak H = some (v, H') ∧ du.Q H R0 R0  r v H' := by
 obtain ⟨w0, _⟩ := h0
 unfold du.p at hp
 unfold du.tw du.twX
 have s0 := w0.rf
 obtain ⟨g1, hp⟩ := ifn_p hp
 refine ifn_ex g1 ?_
 obtain ⟨g2, hp⟩ := ifn_p hp
 refine ifn_ex g2 ?_
 refine bif_ex (fun hb => ?_) (fun hb => ?_)
 ·replace hp := bif_t hb hp
  obtain rfl := Option.some.inj hp
  exact ⟨_, _, rfl, rfl, w0, s0, trivial⟩
 ·replace hp := bif_f hb hp
  obtain rfl := Option.some.inj hp
  exact ⟨_, _, rfl, rfl, w0, s0, trivial⟩
def dF.Q (H0 : Hp) (Ri R0 : List Rs)  (r : Int × Bool) (v : AV) (H' : Hp) : Prop := v = (.tup [(.int .i64 r.1), (.bool r.2)]) ∧ Out H0 Ri H' (R0) fun R => True
def dF.p (F : Nat) (aa : Int) (ak : Int) (cH : Int) : Option (Int × Bool) := (bif (aa != 0) then ((cj.p F ak).bind fun r1 => (cj.p F aa).bind fun r3 => (if r3 = 0 then none else ((bif (decide (r1 > (IntKind.i64.wrap (Int.tdiv cH r3)))) then (some (0, false)) else (some ((IntKind.i64.wrap (aa * ak)), true)))))) else (some ((IntKind.i64.wrap (aa * ak)), true)))
theorem dF.P {F : Nat} {aa ak cH : Int} {H : Hp} {R0 : List Rs}  (h0 : Inn H R0 fun R => True) {r : Int × Bool} (hp : dF.p F aa ak cH = some r) : ∃ v H', dF.tw F aa ak cH H = some (v, H') ∧ dF.Q H R0 R0  r v H' := by
 obtain ⟨w0, _⟩ := h0
 unfold dF.p at hp
 unfold dF.tw dF.twX
 have s0 := w0.rf
 refine bif_ex (fun hb => ?_) (fun hb => ?_)
 ·replace hp := bif_t hb hp
  obtain ⟨r1, e1, hp⟩ := bind_some' hp
  refine call_ex (cj.P ⟨w0, trivial⟩ e1) ?_
  rintro _ H2 ⟨rfl, w2, s2, _⟩
  refine bind_ex rfl ?_
  obtain ⟨r3, e3, hp⟩ := bind_some' hp
  refine call_ex (cj.P ⟨w2, trivial⟩ e3) ?_
  rintro _ H4 ⟨rfl, w4, s4, _⟩
  refine bind_ex rfl ?_
  obtain ⟨g5, hp⟩ := ifn_p hp
  refine ifn_ex g5 ?_
  refine bif_ex (fun hb => ?_) (fun hb => ?_)
  ·replace hp := bif_t hb hp
   obtain rfl := Option.some.inj hp
   exact ⟨_, _, rfl, rfl, w4, (s0.trans (s2.trans s4)), trivial⟩
  ·replace hp := bif_f hb hp
   obtain rfl := Option.some.inj hp
   exact ⟨_, _, rfl, rfl, w4, (s0.trans (s2.trans s4)), trivial⟩
 ·replace hp := bif_f hb hp
  obtain rfl := Option.some.inj hp
  exact ⟨_, _, rfl, rfl, w0, s0, trivial⟩
def dc.Q (H0 : Hp) (Ri R0 : List Rs)  (r : Int) (v : AV) (H' : Hp) : Prop := v = (.int .i64 r) ∧ Out H0 Ri H' (R0) fun R => True
def dc.p (F : Nat) (aa : Int) (ak : Int) (cH : Int) : Option (Int) := (dF.p F ak cH 2000000000000).bind fun r1 => (bif (!r1.2) then (some 3000000000000) else (some (IntKind.i64.wrap (aa - r1.1))))
theorem dc.P {F : Nat} {aa ak cH : Int} {H : Hp} {R0 : List Rs}  (h0 : Inn H R0 fun R => True) {r : Int} (hp : dc.p F aa ak cH = some r) : ∃ v H', dc.tw F aa ak cH H = some (v, H') ∧ dc.Q H R0 R0  r v H' := by
 obtain ⟨w0, _⟩ := h0
 unfold dc.p at hp
 unfold dc.tw dc.twX
 have s0 := w0.rf
 obtain ⟨r1, e1, hp⟩ := bind_some' hp
 refine call_ex (dF.P ⟨w0, trivial⟩ e1) ?_
 rintro _ H2 ⟨rfl, w2, s2, _⟩
 refine bind_ex rfl ?_
 refine bind_ex rfl ?_
 refine bind_ex rfl ?_
 refine bind_ex rfl ?_
 refine bind_ex rfl ?_
 refine bif_ex (fun hb => ?_) (fun hb => ?_)
 ·replace hp := bif_t hb hp
  obtain rfl := Option.some.inj hp
  exact ⟨_, _, rfl, rfl, w2, (s0.trans s2), trivial⟩
 ·replace hp := bif_f hb hp
  obtain rfl := Option.some.inj hp
  exact ⟨_, _, rfl, rfl, w2, (s0.trans s2), trivial⟩
def dd.Q (H0 : Hp) (Ri R0 : List Rs) (bk aX bl bb aY aT bc bf bv bg : Int) (ee cW ev cX cY : Sl) (aa fc : Nat) (fP : ON) (fQ : Cap) (gn : Bool) (gp gq : List AV) (r : Bool × List Int) (v : AV) (H' : Hp) : Prop := ∃ kq : List AV, v = (.tup []) ∧ fc = (r.2).length ∧ Out H0 Ri H' (Rs.blk aa [.int .i64 bk, .int .i64 aX, .sl ee, .int .i64 bl, .int .i64 bb, .sl cW, .int .i64 aY, .int .i64 aT, .sl ev, .int .i64 bc, .int .i64 bf, .sl cX, .int .i64 bv, .int .i64 bg, .sl cY, .bool (r.1)] :: Rs.ow gn ⟨fP, fc, fQ⟩ (eInt .i64).z gp kq gq :: R0) fun R => CR (eInt .i64) H' R kq (r.2)
def dd.p (F : Nat) (ax : Bool) (ag : Int) (gc : List Int) (cJ : Int) (cK : Int) (cp : Int) : Option (Bool × List Int) := (cj.p F cp).bind fun r2 => (bif (decide (r2 > 1000000000000)) then (some (true, gc)) else ((ix gc (IntKind.i64.wrap ((IntKind.i64.wrap (cJ * ag)) + cK))).bind fun n6 => (some (gc.set n6 cp)).bind fun l7 => some (ax, l7)))
theorem dd.P {F : Nat} {bk aX bl bb aY aT bc bf bv bg ae ag cJ cK cp : Int} {ee cW ev cX cY : Sl} {ax gn : Bool} {aa fc : Nat} {fP : ON} {fQ : Cap} {gc : List Int} {gp gq jy : List AV} {H : Hp} {R0 : List Rs} (lX : fc = gc.length) (h0 : Inn H (Rs.blk aa [.int .i64 bk, .int .i64 aX, .sl ee, .int .i64 bl, .int .i64 bb, .sl cW, .int .i64 aY, .int .i64 aT, .sl ev, .int .i64 bc, .int .i64 bf, .sl cX, .int .i64 bv, .int .i64 bg, .sl cY, .bool ax] :: Rs.ow gn ⟨fP, fc, fQ⟩ (eInt .i64).z gp jy gq :: R0) fun R => CR (eInt .i64) H R jy gc) {r : Bool × List Int} (hp : dd.p F ax ag gc cJ cK cp = some r) : ∃ v H', dd.tw F aa 0 ae ag ⟨fP, fc, fQ⟩ cJ cK cp H = some (v, H') ∧ dd.Q H (Rs.blk aa [.int .i64 bk, .int .i64 aX, .sl ee, .int .i64 bl, .int .i64 bb, .sl cW, .int .i64 aY, .int .i64 aT, .sl ev, .int .i64 bc, .int .i64 bf, .sl cX, .int .i64 bv, .int .i64 bg, .sl cY, .bool ax] :: Rs.ow gn ⟨fP, fc, fQ⟩ (eInt .i64).z gp jy gq :: R0) R0 bk aX bl bb aY aT bc bf bv bg ee cW ev cX cY aa fc fP fQ gn gp gq r v H' := by
 obtain ⟨w0, lv⟩ := h0
 subst lX
 unfold dd.p at hp
 unfold dd.tw dd.twX
 have s0 := w0.rf
 refine new_k w0 fun H1 w1 s1 => ?_
 obtain ⟨r2, e2, hp⟩ := bind_some' hp
 refine call_ex (cj.P ⟨w1, trivial⟩ e2) ?_
 rintro _ H3 ⟨rfl, w3, s3, _⟩
 refine bind_ex rfl ?_
 refine bif_ex (fun hb => ?_) (fun hb => ?_)
 ·replace hp := bif_t hb hp
  refine st_k w3 (i := 1) rfl rfl rfl fun H4 w4 s4 => ?_
  dsimp only [List.set] at w4 s4
  obtain ⟨w5, s5⟩ := w4.pick' [1, 2] 3 rfl rfl rfl
  dsimp only [pk, pks, nth, List.drop] at w5 s5
  obtain rfl := Option.some.inj hp
  exact ⟨_, _, rfl, _, rfl, rfl, w5, (s0.trans (s1.trans (s3.trans (s4.trans s5)))), (lv.step (s1.trans (s3.trans (s4.trans s5))))⟩
 ·replace hp := bif_f hb hp
  refine bind_ex (ldSl_of (w3.ld (i := 0) rfl rfl)) ?_
  refine bind_ex (ldI_of (w3.ld (i := 0) rfl rfl)) ?_
  obtain ⟨n6, g6, hp⟩ := bind_some' hp
  obtain ⟨p6, q6, i6, h6, j6⟩ := W.ixo (E := (eInt .i64)) w3 (i := 2) rfl rfl (lv.step (s1.trans s3)) g6
  refine bind_ex i6 ?_
  obtain ⟨l7, e7, hp⟩ := bind_some' hp
  refine sto_k (eInt .i64) w3 (i := 2) (j := 0) (p := p6) rfl rfl (lv.step (s1.trans s3)) g6 i6 e7 rfl rfl (fun _ h => by have h : _ = [_] := h; subst h; exact rfl) fun H8 k8 w8 s8 c8 => ?_
  dsimp only [List.set] at w8 s8 c8
  obtain ⟨w9, s9⟩ := w8.pick' [1, 2] 3 rfl rfl rfl
  dsimp only [pk, pks, nth, List.drop] at w9 s9
  obtain rfl := Option.some.inj hp
  exact ⟨_, _, rfl, _, rfl, (st_len e7).symm, w9, (s0.trans (s1.trans (s3.trans (s8.trans s9)))), (c8.step s9)⟩
def bD.Q (H0 : Hp) (Ri R0 : List Rs) (bk aX bl bb aY aT bc bf bv bg : Int) (ee cW ev cX cY : Sl) (aa fc : Nat) (fP : ON) (fQ : Cap) (gn : Bool) (gp gq : List AV) (r : Bool × List Int) (v : AV) (H' : Hp) : Prop := ∃ kq : List AV, v = (.tup []) ∧ fc = (r.2).length ∧ Out H0 Ri H' (Rs.blk aa [.int .i64 bk, .int .i64 aX, .sl ee, .int .i64 bl, .int .i64 bb, .sl cW, .int .i64 aY, .int .i64 aT, .sl ev, .int .i64 bc, .int .i64 bf, .sl cX, .int .i64 bv, .int .i64 bg, .sl cY, .bool (r.1)] :: Rs.ow gn ⟨fP, fc, fQ⟩ (eInt .i64).z gp kq gq :: R0) fun R => CR (eInt .i64) H' R kq (r.2)
def bD.S7 (H0 : Hp) (Ri R0 : List Rs) (ay aj aA ap aq ao au av aH aw : Int) (ef cE eD cF cG : Sl) (az gC : Nat) (hX : ON) (hY : Cap) (jz : Bool) (jA jB : List AV) (C : Nat → Nat → Int → Int → Int → Nat → Nat → Int → Hp → OA) (pC : Bool → Int → Int → Int → Int → List Int → Int → Option (Bool × List Int)) : Prop := ∀ {ax : Bool} {eF dS fo lw jj eG : Int} {hZ : List Int} {lY : List AV} {eB : Nat}, ∀ {H : Hp}, gC = hZ.length → (Out H0 Ri H (Rs.blk az [.int .i64 ay, .int .i64 aj, .sl ef, .int .i64 aA, .int .i64 ap, .sl cE, .int .i64 aq, .int .i64 ao, .sl eD, .int .i64 au, .int .i64 av, .sl cF, .int .i64 aH, .int .i64 aw, .sl cG, .bool ax] :: Rs.ow jz ⟨hX, gC, hY⟩ (eInt .i64).z jA lY jB :: Rs.blk eB [.int .i64 lw, .int .i64 jj, .sl ⟨hX, gC, hY⟩] :: R0) fun R => CR (eInt .i64) H R lY hZ) → ∀ {r : Bool × List Int}, pC ax eF dS fo jj hZ eG = some r → ∃ v H', C az 0 eF dS fo eB 0 eG H = some (v, H') ∧ bD.Q H0 Ri R0 ay aj aA ap aq ao au av aH aw ef cE eD cF cG az gC hX hY jz jA jB r v H'
def bD.pl7 (F : Nat)  : Nat → Bool → Int → Int → Int → Int → List Int → Int → Option (Bool × List Int)
 | 0, _, _, _, _, _, _, _ => none
 | k + 1, ax, eF, dS, fo, jj, hZ, eG => (bif (decide (eG < jj)) then ((bif (!ax) then ((aC.p F jj hZ eF eG).bind fun r3 => (aC.p F jj hZ dS eG).bind fun r8 => (dc.p F r3 fo r8).bind fun r12 => (dd.p F ax jj hZ eF eG r12).bind fun r16 => bD.pl7 F k r16.1 eF dS fo jj r16.2 (IntKind.i64.wrap (eG + 1))) else (some (ax, hZ)))) else (some (ax, hZ)))
termination_by structural n => n
theorem bD.l7_P {F : Nat} {H0 : Hp} {Ri R0 : List Rs} {ay aj aA ap aq ao au av aH aw : Int} {ef cE eD cF cG : Sl} {az gC : Nat} {hX : ON} {hY : Cap} {jz : Bool} {jA jB : List AV}  : ∀ k, bD.S7 H0 Ri R0 ay aj aA ap aq ao au av aH aw ef cE eD cF cG az gC hX hY jz jA jB (bD.l7 F (aC.tw F) (dc.tw F) (dd.tw F)  k) (bD.pl7 F  k) := by
 intro k
 induction k with
 | zero =>
  intro ax eF dS fo lw jj eG hZ lY eB H pd h0 r hp
  exact nomatch (show (none : Option (Bool × List Int)) = some r from hp)
 | succ k ih =>
  intro ax eF dS fo lw jj eG hZ lY eB H pd h0 r hp
  obtain ⟨w0, s0, lx⟩ := h0
  subst pd
  unfold bD.pl7 at hp
  unfold bD.l7
  refine bind_ex (ldI_of (w0.ld (i := 2) rfl rfl)) ?_
  refine bif_ex (fun hb => ?_) (fun hb => ?_)
  ·replace hp := bif_t hb hp
   refine bind_ex (ldB_of (w0.ld (i := 0) rfl rfl)) ?_
   refine bif_ex (fun hb => ?_) (fun hb => ?_)
   ·replace hp := bif_t hb hp
    refine bind_ex (ldI_of (w0.ld (i := 2) rfl rfl)) ?_
    refine bind_ex (ldI_of (w0.ld (i := 2) rfl rfl)) ?_
    refine bind_ex (ldSl_of (w0.ld (i := 2) rfl rfl)) ?_
    refine bind_ex (ldI_of (w0.ld (i := 2) rfl rfl)) ?_
    refine bind_ex (ldI_of (w0.ld (i := 2) rfl rfl)) ?_
    refine bind_ex (ldSl_of (w0.ld (i := 2) rfl rfl)) ?_
    obtain ⟨w1, s1⟩ := w0.pick' [1, 0, 2] 3 rfl rfl rfl
    dsimp only [pk, pks, nth, List.drop] at w1 s1
    have f2 := W.borrow1 (eInt .i64) w1 (lx.step s1)
    obtain ⟨w2, s2⟩ := w1.right1
    obtain ⟨r3, e3, hp⟩ := bind_some' hp
    refine call_ex (aC.P rfl ⟨w2, f2⟩ e3) ?_
    rintro _ H4 ⟨rfl, w4, s4, _⟩
    obtain ⟨w5, s5⟩ := W.frame1 w1 w4 s4
    refine bind_ex rfl ?_
    refine ifs_ex (Cons.tr (Cons.refl _) s1 (W.cons_of (Rn := []) w2 w4 s4)) ?_
    refine bind_ex (ldI_of (w5.ld (i := 2) rfl rfl)) ?_
    refine bind_ex (ldI_of (w5.ld (i := 2) rfl rfl)) ?_
    refine bind_ex (ldSl_of (w5.ld (i := 2) rfl rfl)) ?_
    have f7 := W.borrow1 (eInt .i64) w5 (lx.step (s1.trans s5))
    obtain ⟨w7, s7⟩ := w5.right1
    obtain ⟨r8, e8, hp⟩ := bind_some' hp
    refine call_ex (aC.P rfl ⟨w7, f7⟩ e8) ?_
    rintro _ H9 ⟨rfl, w9, s9, _⟩
    obtain ⟨w10, s10⟩ := W.frame1 w5 w9 s9
    refine bind_ex rfl ?_
    refine ifs_ex (W.cons_of (Rn := []) w7 w9 s9) ?_
    obtain ⟨r12, e12, hp⟩ := bind_some' hp
    refine call_ex (dc.P ⟨w10, trivial⟩ e12) ?_
    rintro _ H13 ⟨rfl, w13, s13, _⟩
    refine bind_ex rfl ?_
    refine ifs_ex (W.cons_of (Rn := []) w10 w13 s13) ?_
    obtain ⟨w15, s15⟩ := w13.pick' [1, 0, 2] 3 rfl rfl rfl
    dsimp only [pk, pks, nth, List.drop] at w15 s15
    obtain ⟨r16, e16, hp⟩ := bind_some' hp
    refine call_ex (dd.P rfl ⟨w15, (lx.step (s1.trans (s5.trans (s10.trans (s13.trans s15)))))⟩ e16) ?_
    rintro _ H17 ⟨zu, rfl, hl17_0, w17, s17, f17_0⟩
    exact ih hl17_0 ⟨w17, (s0.trans (s1.trans (s5.trans (s10.trans (s13.trans (s15.trans s17)))))), f17_0⟩ hp
   ·replace hp := bif_f hb hp
    obtain ⟨w18, s18⟩ := w0.pick' [0, 1] 3 rfl rfl rfl
    dsimp only [pk, pks, nth, List.drop] at w18 s18
    obtain rfl := Option.some.inj hp
    exact ⟨_, _, rfl, _, rfl, rfl, w18, (s0.trans s18), (lx.step s18)⟩
  ·replace hp := bif_f hb hp
   obtain ⟨w19, s19⟩ := w0.pick' [0, 1] 3 rfl rfl rfl
   dsimp only [pk, pks, nth, List.drop] at w19 s19
   obtain rfl := Option.some.inj hp
   exact ⟨_, _, rfl, _, rfl, rfl, w19, (s0.trans s19), (lx.step s19)⟩
def bD.p (F : Nat) (ax : Bool) (ag : Int) (gc : List Int) (cJ : Int) (cK : Int) (cp : Int) : Option (Bool × List Int) := bD.pl7 F F ax cJ cK cp ag gc 0
theorem bD.P {F : Nat} {bk aX bl bb aY aT bc bf bv bg ae ag cJ cK cp : Int} {ee cW ev cX cY : Sl} {ax gn : Bool} {aa fc : Nat} {fP : ON} {fQ : Cap} {gc : List Int} {gp gq jy : List AV} {H : Hp} {R0 : List Rs} (lX : fc = gc.length) (h0 : Inn H (Rs.blk aa [.int .i64 bk, .int .i64 aX, .sl ee, .int .i64 bl, .int .i64 bb, .sl cW, .int .i64 aY, .int .i64 aT, .sl ev, .int .i64 bc, .int .i64 bf, .sl cX, .int .i64 bv, .int .i64 bg, .sl cY, .bool ax] :: Rs.ow gn ⟨fP, fc, fQ⟩ (eInt .i64).z gp jy gq :: R0) fun R => CR (eInt .i64) H R jy gc) {r : Bool × List Int} (hp : bD.p F ax ag gc cJ cK cp = some r) : ∃ v H', bD.tw F aa 0 ae ag ⟨fP, fc, fQ⟩ cJ cK cp H = some (v, H') ∧ bD.Q H (Rs.blk aa [.int .i64 bk, .int .i64 aX, .sl ee, .int .i64 bl, .int .i64 bb, .sl cW, .int .i64 aY, .int .i64 aT, .sl ev, .int .i64 bc, .int .i64 bf, .sl cX, .int .i64 bv, .int .i64 bg, .sl cY, .bool ax] :: Rs.ow gn ⟨fP, fc, fQ⟩ (eInt .i64).z gp jy gq :: R0) R0 bk aX bl bb aY aT bc bf bv bg ee cW ev cX cY aa fc fP fQ gn gp gq r v H' := by
 obtain ⟨w0, lv⟩ := h0
 subst lX
 unfold bD.p at hp
 unfold bD.tw bD.twX
 have s0 := w0.rf
 refine new_k w0 fun H1 w1 s1 => ?_
 obtain ⟨w2, s2⟩ := w1.pick' [1, 2, 0] 3 rfl rfl rfl
 dsimp only [pk, pks, nth, List.drop] at w2 s2
 exact bD.l7_P F rfl ⟨w2, (s0.trans (s1.trans s2)), (lv.step (s1.trans s2))⟩ hp
def bE.Q (H0 : Hp) (Ri R0 : List Rs) (bk aX bl bb aY aT bc bf bv bg : Int) (ee cW ev cX cY : Sl) (aa fc : Nat) (fP : ON) (fQ : Cap) (gn : Bool) (gp gq : List AV) (r : Bool × List Int) (v : AV) (H' : Hp) : Prop := ∃ kq : List AV, v = (.tup []) ∧ fc = (r.2).length ∧ Out H0 Ri H' (Rs.blk aa [.int .i64 bk, .int .i64 aX, .sl ee, .int .i64 bl, .int .i64 bb, .sl cW, .int .i64 aY, .int .i64 aT, .sl ev, .int .i64 bc, .int .i64 bf, .sl cX, .int .i64 bv, .int .i64 bg, .sl cY, .bool (r.1)] :: Rs.ow gn ⟨fP, fc, fQ⟩ (eInt .i64).z gp kq gq :: R0) fun R => CR (eInt .i64) H' R kq (r.2)
def bE.S7 (H0 : Hp) (Ri R0 : List Rs) (ay aj aA ap aq ao au av aH aw : Int) (ef cE eD cF cG : Sl) (az gC : Nat) (hX : ON) (hY : Cap) (jz : Bool) (jA jB : List AV) (C : Nat → Nat → Int → Int → Int → Nat → Nat → Int → Hp → OA) (pC : Bool → Int → Int → Int → Int → Int → List Int → Int → Option (Bool × List Int)) : Prop := ∀ {ax : Bool} {eF dS fo lw jj eG : Int} {hZ : List Int} {lY : List AV} {eB : Nat}, ∀ {H : Hp}, gC = hZ.length → (Out H0 Ri H (Rs.blk az [.int .i64 ay, .int .i64 aj, .sl ef, .int .i64 aA, .int .i64 ap, .sl cE, .int .i64 aq, .int .i64 ao, .sl eD, .int .i64 au, .int .i64 av, .sl cF, .int .i64 aH, .int .i64 aw, .sl cG, .bool ax] :: Rs.ow jz ⟨hX, gC, hY⟩ (eInt .i64).z jA lY jB :: Rs.blk eB [.int .i64 lw, .int .i64 jj, .sl ⟨hX, gC, hY⟩] :: R0) fun R => CR (eInt .i64) H R lY hZ) → ∀ {r : Bool × List Int}, pC ax eF dS fo lw jj hZ eG = some r → ∃ v H', C az 0 eF dS fo eB 0 eG H = some (v, H') ∧ bE.Q H0 Ri R0 ay aj aA ap aq ao au av aH aw ef cE eD cF cG az gC hX hY jz jA jB r v H'
def bE.pl7 (F : Nat)  : Nat → Bool → Int → Int → Int → Int → Int → List Int → Int → Option (Bool × List Int)
 | 0, _, _, _, _, _, _, _, _ => none
 | k + 1, ax, eF, dS, fo, lw, jj, hZ, eG => (bif (decide (eG < lw)) then ((bif (!ax) then ((aC.p F jj hZ eG eF).bind fun r3 => (aC.p F jj hZ eG dS).bind fun r8 => (dc.p F r3 fo r8).bind fun r12 => (dd.p F ax jj hZ eG eF r12).bind fun r16 => bE.pl7 F k r16.1 eF dS fo lw jj r16.2 (IntKind.i64.wrap (eG + 1))) else (some (ax, hZ)))) else (some (ax, hZ)))
termination_by structural n => n
theorem bE.l7_P {F : Nat} {H0 : Hp} {Ri R0 : List Rs} {ay aj aA ap aq ao au av aH aw : Int} {ef cE eD cF cG : Sl} {az gC : Nat} {hX : ON} {hY : Cap} {jz : Bool} {jA jB : List AV}  : ∀ k, bE.S7 H0 Ri R0 ay aj aA ap aq ao au av aH aw ef cE eD cF cG az gC hX hY jz jA jB (bE.l7 F (aC.tw F) (dc.tw F) (dd.tw F)  k) (bE.pl7 F  k) := by
 intro k
 induction k with
 | zero =>
  intro ax eF dS fo lw jj eG hZ lY eB H pd h0 r hp
  exact nomatch (show (none : Option (Bool × List Int)) = some r from hp)
 | succ k ih =>
  intro ax eF dS fo lw jj eG hZ lY eB H pd h0 r hp
  obtain ⟨w0, s0, lx⟩ := h0
  subst pd
  unfold bE.pl7 at hp
  unfold bE.l7
  refine bind_ex (ldI_of (w0.ld (i := 2) rfl rfl)) ?_
  refine bif_ex (fun hb => ?_) (fun hb => ?_)
  ·replace hp := bif_t hb hp
   refine bind_ex (ldB_of (w0.ld (i := 0) rfl rfl)) ?_
   refine bif_ex (fun hb => ?_) (fun hb => ?_)
   ·replace hp := bif_t hb hp
    refine bind_ex (ldI_of (w0.ld (i := 2) rfl rfl)) ?_
    refine bind_ex (ldI_of (w0.ld (i := 2) rfl rfl)) ?_
    refine bind_ex (ldSl_of (w0.ld (i := 2) rfl rfl)) ?_
    refine bind_ex (ldI_of (w0.ld (i := 2) rfl rfl)) ?_
    refine bind_ex (ldI_of (w0.ld (i := 2) rfl rfl)) ?_
    refine bind_ex (ldSl_of (w0.ld (i := 2) rfl rfl)) ?_
    obtain ⟨w1, s1⟩ := w0.pick' [1, 0, 2] 3 rfl rfl rfl
    dsimp only [pk, pks, nth, List.drop] at w1 s1
    have f2 := W.borrow1 (eInt .i64) w1 (lx.step s1)
    obtain ⟨w2, s2⟩ := w1.right1
    obtain ⟨r3, e3, hp⟩ := bind_some' hp
    refine call_ex (aC.P rfl ⟨w2, f2⟩ e3) ?_
    rintro _ H4 ⟨rfl, w4, s4, _⟩
    obtain ⟨w5, s5⟩ := W.frame1 w1 w4 s4
    refine bind_ex rfl ?_
    refine ifs_ex (Cons.tr (Cons.refl _) s1 (W.cons_of (Rn := []) w2 w4 s4)) ?_
    refine bind_ex (ldI_of (w5.ld (i := 2) rfl rfl)) ?_
    refine bind_ex (ldI_of (w5.ld (i := 2) rfl rfl)) ?_
    refine bind_ex (ldSl_of (w5.ld (i := 2) rfl rfl)) ?_
    have f7 := W.borrow1 (eInt .i64) w5 (lx.step (s1.trans s5))
    obtain ⟨w7, s7⟩ := w5.right1
    obtain ⟨r8, e8, hp⟩ := bind_some' hp
    refine call_ex (aC.P rfl ⟨w7, f7⟩ e8) ?_
    rintro _ H9 ⟨rfl, w9, s9, _⟩
    obtain ⟨w10, s10⟩ := W.frame1 w5 w9 s9
    refine bind_ex rfl ?_
    refine ifs_ex (W.cons_of (Rn := []) w7 w9 s9) ?_
    obtain ⟨r12, e12, hp⟩ := bind_some' hp
    refine call_ex (dc.P ⟨w10, trivial⟩ e12) ?_
    rintro _ H13 ⟨rfl, w13, s13, _⟩
    refine bind_ex rfl ?_
    refine ifs_ex (W.cons_of (Rn := []) w10 w13 s13) ?_
    obtain ⟨w15, s15⟩ := w13.pick' [1, 0, 2] 3 rfl rfl rfl
    dsimp only [pk, pks, nth, List.drop] at w15 s15
    obtain ⟨r16, e16, hp⟩ := bind_some' hp
    refine call_ex (dd.P rfl ⟨w15, (lx.step (s1.trans (s5.trans (s10.trans (s13.trans s15)))))⟩ e16) ?_
    rintro _ H17 ⟨zu, rfl, hl17_0, w17, s17, f17_0⟩
    exact ih hl17_0 ⟨w17, (s0.trans (s1.trans (s5.trans (s10.trans (s13.trans (s15.trans s17)))))), f17_0⟩ hp
   ·replace hp := bif_f hb hp
    obtain ⟨w18, s18⟩ := w0.pick' [0, 1] 3 rfl rfl rfl
    dsimp only [pk, pks, nth, List.drop] at w18 s18
    obtain rfl := Option.some.inj hp
    exact ⟨_, _, rfl, _, rfl, rfl, w18, (s0.trans s18), (lx.step s18)⟩
  ·replace hp := bif_f hb hp
   obtain ⟨w19, s19⟩ := w0.pick' [0, 1] 3 rfl rfl rfl
   dsimp only [pk, pks, nth, List.drop] at w19 s19
   obtain rfl := Option.some.inj hp
   exact ⟨_, _, rfl, _, rfl, rfl, w19, (s0.trans s19), (lx.step s19)⟩
def bE.p (F : Nat) (ax : Bool) (ae : Int) (ag : Int) (gc : List Int) (cJ : Int) (cK : Int) (cp : Int) : Option (Bool × List Int) := bE.pl7 F F ax cJ cK cp ae ag gc 0
theorem bE.P {F : Nat} {bk aX bl bb aY aT bc bf bv bg ae ag cJ cK cp : Int} {ee cW ev cX cY : Sl} {ax gn : Bool} {aa fc : Nat} {fP : ON} {fQ : Cap} {gc : List Int} {gp gq jy : List AV} {H : Hp} {R0 : List Rs} (lX : fc = gc.length) (h0 : Inn H (Rs.blk aa [.int .i64 bk, .int .i64 aX, .sl ee, .int .i64 bl, .int .i64 bb, .sl cW, .int .i64 aY, .int .i64 aT, .sl ev, .int .i64 bc, .int .i64 bf, .sl cX, .int .i64 bv, .int .i64 bg, .sl cY, .bool ax] :: Rs.ow gn ⟨fP, fc, fQ⟩ (eInt .i64).z gp jy gq :: R0) fun R => CR (eInt .i64) H R jy gc) {r : Bool × List Int} (hp : bE.p F ax ae ag gc cJ cK cp = some r) : ∃ v H', bE.tw F aa 0 ae ag ⟨fP, fc, fQ⟩ cJ cK cp H = some (v, H') ∧ bE.Q H (Rs.blk aa [.int .i64 bk, .int .i64 aX, .sl ee, .int .i64 bl, .int .i64 bb, .sl cW, .int .i64 aY, .int .i64 aT, .sl ev, .int .i64 bc, .int .i64 bf, .sl cX, .int .i64 bv, .int .i64 bg, .sl cY, .bool ax] :: Rs.ow gn ⟨fP, fc, fQ⟩ (eInt .i64).z gp jy gq :: R0) R0 bk aX bl bb aY aT bc bf bv bg ee cW ev cX cY aa fc fP fQ gn gp gq r v H' := by
 obtain ⟨w0, lv⟩ := h0
 subst lX
 unfold bE.p at hp
 unfold bE.tw bE.twX
 have s0 := w0.rf
 refine new_k w0 fun H1 w1 s1 => ?_
 obtain ⟨w2, s2⟩ := w1.pick' [1, 2, 0] 3 rfl rfl rfl
 dsimp only [pk, pks, nth, List.drop] at w2 s2
 exact bE.l7_P F rfl ⟨w2, (s0.trans (s1.trans s2)), (lv.step (s1.trans s2))⟩ hp
def dq.Q (H0 : Hp) (Ri R0 : List Rs) (bk aX bl bb aY aT bc bf bv bg : Int) (cN dW cm : ON) (bK cZ bA aa : Nat) (cO dZ cn : Cap) (eN fq eO : Bool) (eP eQ fu fv eR eS : List AV) (cX cY : Sl) (r : List Int × List Int × List Int × Bool) (v : AV) (H' : Hp) : Prop := ∃ hT : List AV, ∃ jg : List AV, ∃ hU : List AV, v = (.tup []) ∧ bK = (r.1).length ∧ cZ = (r.2.1).length ∧ bA = (r.2.2.1).length ∧ Out H0 Ri H' (Rs.ow eN ⟨cN, bK, cO⟩ (eInt .i64).z eP hT eQ :: Rs.ow fq ⟨dW, cZ, dZ⟩ (eInt .i64).z fu jg fv :: Rs.ow eO ⟨cm, bA, cn⟩ (eInt .i64).z eR hU eS :: Rs.blk aa [.int .i64 bk, .int .i64 aX, .sl ⟨cN, bK, cO⟩, .int .i64 bl, .int .i64 bb, .sl ⟨dW, cZ, dZ⟩, .int .i64 aY, .int .i64 aT, .sl ⟨cm, bA, cn⟩, .int .i64 bc, .int .i64 bf, .sl cX, .int .i64 bv, .int .i64 bg, .sl cY, .bool (r.2.2.2)] :: R0) fun R => CR (eInt .i64) H' R hT (r.1) ∧ CR (eInt .i64) H' R jg (r.2.1) ∧ CR (eInt .i64) H' R hU (r.2.2.1)
def dq.p (F : Nat) (aX : Int) (dy : List Int) (bb : Int) (fh : List Int) (aY : Int) (aT : Int) (db : List Int) (ax : Bool) (ae : Int) (bC : Int) (cq : Int) : Option (List Int × List Int × List Int × Bool) := (bif (cq != 0) then ((bD.p F ax aX dy ae bC cq).bind fun r2 => (bD.p F r2.1 bb fh ae bC cq).bind fun r5 => (bE.p F r5.1 aY aT db bC ae (IntKind.i64.wrap (0 - cq))).bind fun r8 => some (r2.2, r5.2, r8.2, r8.1)) else (some (dy, fh, db, ax)))
theorem dq.P {F : Nat} {bk aX bl bb aY aT bc bf bv bg ae bC cq : Int} {cN dW cm : ON} {bK cZ bA aa : Nat} {cO dZ cn : Cap} {dy fh db : List Int} {eN fq eO ax : Bool} {eP eQ ga fu fv gz eR eS gb : List AV} {cX cY : Sl} {H : Hp} {R0 : List Rs} (jx : bK = dy.length) (kw : cZ = fh.length) (iR : bA = db.length) (h0 : Inn H (Rs.ow eN ⟨cN, bK, cO⟩ (eInt .i64).z eP ga eQ :: Rs.ow fq ⟨dW, cZ, dZ⟩ (eInt .i64).z fu gz fv :: Rs.ow eO ⟨cm, bA, cn⟩ (eInt .i64).z eR gb eS :: Rs.blk aa [.int .i64 bk, .int .i64 aX, .sl ⟨cN, bK, cO⟩, .int .i64 bl, .int .i64 bb, .sl ⟨dW, cZ, dZ⟩, .int .i64 aY, .int .i64 aT, .sl ⟨cm, bA, cn⟩, .int .i64 bc, .int .i64 bf, .sl cX, .int .i64 bv, .int .i64 bg, .sl cY, .bool ax] :: R0) fun R => CR (eInt .i64) H R ga dy ∧ CR (eInt .i64) H R gz fh ∧ CR (eInt .i64) H R gb db) {r : List Int × List Int × List Int × Bool} (hp : dq.p F aX dy bb fh aY aT db ax ae bC cq = some r) : ∃ v H', dq.tw F aa 0 ae bC cq H = some (v, H') ∧ dq.Q H (Rs.ow eN ⟨cN, bK, cO⟩ (eInt .i64).z eP ga eQ :: Rs.ow fq ⟨dW, cZ, dZ⟩ (eInt .i64).z fu gz fv :: Rs.ow eO ⟨cm, bA, cn⟩ (eInt .i64).z eR gb eS :: Rs.blk aa [.int .i64 bk, .int .i64 aX, .sl ⟨cN, bK, cO⟩, .int .i64 bl, .int .i64 bb, .sl ⟨dW, cZ, dZ⟩, .int .i64 aY, .int .i64 aT, .sl ⟨cm, bA, cn⟩, .int .i64 bc, .int .i64 bf, .sl cX, .int .i64 bv, .int .i64 bg, .sl cY, .bool ax] :: R0) R0 bk aX bl bb aY aT bc bf bv bg cN dW cm bK cZ bA aa cO dZ cn eN fq eO eP eQ fu fv eR eS cX cY r v H' := by
 obtain ⟨w0, iI, kk, g_⟩ := h0
 subst jx
 subst kw
 subst iR
 unfold dq.p at hp
 unfold dq.tw dq.twX
 have s0 := w0.rf
 refine bif_ex (fun hb => ?_) (fun hb => ?_)
 ·replace hp := bif_t hb hp
  refine bind_ex (ldI_of (w0.ld (i := 3) rfl rfl)) ?_
  refine bind_ex (ldI_of (w0.ld (i := 3) rfl rfl)) ?_
  refine bind_ex (ldSl_of (w0.ld (i := 3) rfl rfl)) ?_
  obtain ⟨w1, s1⟩ := w0.pick' [3, 0, 1, 2] 4 rfl rfl rfl
  dsimp only [pk, pks, nth, List.drop] at w1 s1
  obtain ⟨r2, e2, hp⟩ := bind_some' hp
  refine call_ex (bD.P rfl ⟨w1, (iI.step s1)⟩ e2) ?_
  rintro _ H3 ⟨tq, rfl, hl3_0, w3, s3, f3_0⟩
  refine bind_ex (ldI_of (w3.ld (i := 0) rfl rfl)) ?_
  refine bind_ex (ldI_of (w3.ld (i := 0) rfl rfl)) ?_
  refine bind_ex (ldSl_of (w3.ld (i := 0) rfl rfl)) ?_
  obtain ⟨w4, s4⟩ := w3.pick' [0, 2, 1, 3] 4 rfl rfl rfl
  dsimp only [pk, pks, nth, List.drop] at w4 s4
  obtain ⟨r5, e5, hp⟩ := bind_some' hp
  refine call_ex (bD.P rfl ⟨w4, (kk.step (s1.trans (s3.trans s4)))⟩ e5) ?_
  rintro _ H6 ⟨ts, rfl, hl6_0, w6, s6, f6_0⟩
  refine bind_ex (ldI_of (w6.ld (i := 0) rfl rfl)) ?_
  refine bind_ex (ldI_of (w6.ld (i := 0) rfl rfl)) ?_
  refine bind_ex (ldSl_of (w6.ld (i := 0) rfl rfl)) ?_
  obtain ⟨w7, s7⟩ := w6.pick' [0, 3, 1, 2] 4 rfl rfl rfl
  dsimp only [pk, pks, nth, List.drop] at w7 s7
  obtain ⟨r8, e8, hp⟩ := bind_some' hp
  refine call_ex (bE.P rfl ⟨w7, (g_.step (s1.trans (s3.trans (s4.trans (s6.trans s7)))))⟩ e8) ?_
  rintro _ H9 ⟨tt, rfl, hl9_0, w9, s9, f9_0⟩
  obtain ⟨w10, s10⟩ := w9.pick' [3, 2, 1, 0] 4 rfl rfl rfl
  dsimp only [pk, pks, nth, List.drop] at w10 s10
  obtain rfl := Option.some.inj hp
  exact ⟨_, _, rfl, _, _, _, rfl, hl3_0, hl6_0, hl9_0, w10, (s0.trans (s1.trans (s3.trans (s4.trans (s6.trans (s7.trans (s9.trans s10))))))), (f3_0.step (s4.trans (s6.trans (s7.trans (s9.trans s10))))), (f6_0.step (s7.trans (s9.trans s10))), (f9_0.step s10)⟩
 ·replace hp := bif_f hb hp
  obtain rfl := Option.some.inj hp
  exact ⟨_, _, rfl, _, _, _, rfl, rfl, rfl, rfl, w0, s0, iI, kk, g_⟩
def dv.Q (H0 : Hp) (Ri R0 : List Rs) (bk aX bl bb aY aT bc bf bv bg : Int) (cN dX dY : ON) (bK c_ da aa : Nat) (cO d_ ea : Cap) (eN fr ft : Bool) (eP eQ fw fx fy fz : List AV) (cW ev : Sl) (r : List Int × List Int × List Int × Bool) (v : AV) (H' : Hp) : Prop := ∃ hT : List AV, ∃ jh : List AV, ∃ ji : List AV, v = (.tup []) ∧ bK = (r.1).length ∧ c_ = (r.2.1).length ∧ da = (r.2.2.1).length ∧ Out H0 Ri H' (Rs.ow eN ⟨cN, bK, cO⟩ (eInt .i64).z eP hT eQ :: Rs.ow fr ⟨dX, c_, d_⟩ (eInt .i64).z fw jh fx :: Rs.ow ft ⟨dY, da, ea⟩ (eInt .i64).z fy ji fz :: Rs.blk aa [.int .i64 bk, .int .i64 aX, .sl ⟨cN, bK, cO⟩, .int .i64 bl, .int .i64 bb, .sl cW, .int .i64 aY, .int .i64 aT, .sl ev, .int .i64 bc, .int .i64 bf, .sl ⟨dX, c_, d_⟩, .int .i64 bv, .int .i64 bg, .sl ⟨dY, da, ea⟩, .bool (r.2.2.2)] :: R0) fun R => CR (eInt .i64) H' R hT (r.1) ∧ CR (eInt .i64) H' R jh (r.2.1) ∧ CR (eInt .i64) H' R ji (r.2.2.1)
def dv.p (F : Nat) (bk : Int) (aX : Int) (dy : List Int) (bc : Int) (bf : Int) (fi : List Int) (bg : Int) (fj : List Int) (ax : Bool) (ae : Int) (bC : Int) (cq : Int) : Option (List Int × List Int × List Int × Bool) := (bif (cq != 0) then ((bE.p F ax bk aX dy ae bC cq).bind fun r2 => (bE.p F r2.1 bc bf fi ae bC cq).bind fun r5 => (bD.p F r5.1 bg fj bC ae (IntKind.i64.wrap (0 - cq))).bind fun r8 => some (r2.2, r5.2, r8.2, r8.1)) else (some (dy, fi, fj, ax)))
theorem dv.P {F : Nat} {bk aX bl bb aY aT bc bf bv bg ae bC cq : Int} {cN dX dY : ON} {bK c_ da aa : Nat} {cO d_ ea : Cap} {dy fi fj : List Int} {eN fr ft ax : Bool} {eP eQ ga fw fx gA fy fz gB : List AV} {cW ev : Sl} {H : Hp} {R0 : List Rs} (jx : bK = dy.length) (kx : c_ = fi.length) (ky : da = fj.length) (h0 : Inn H (Rs.ow eN ⟨cN, bK, cO⟩ (eInt .i64).z eP ga eQ :: Rs.ow fr ⟨dX, c_, d_⟩ (eInt .i64).z fw gA fx :: Rs.ow ft ⟨dY, da, ea⟩ (eInt .i64).z fy gB fz :: Rs.blk aa [.int .i64 bk, .int .i64 aX, .sl ⟨cN, bK, cO⟩, .int .i64 bl, .int .i64 bb, .sl cW, .int .i64 aY, .int .i64 aT, .sl ev, .int .i64 bc, .int .i64 bf, .sl ⟨dX, c_, d_⟩, .int .i64 bv, .int .i64 bg, .sl ⟨dY, da, ea⟩, .bool ax] :: R0) fun R => CR (eInt .i64) H R ga dy ∧ CR (eInt .i64) H R gA fi ∧ CR (eInt .i64) H R gB fj) {r : List Int × List Int × List Int × Bool} (hp : dv.p F bk aX dy bc bf fi bg fj ax ae bC cq = some r) : ∃ v H', dv.tw F aa 0 ae bC cq H = some (v, H') ∧ dv.Q H (Rs.ow eN ⟨cN, bK, cO⟩ (eInt .i64).z eP ga eQ :: Rs.ow fr ⟨dX, c_, d_⟩ (eInt .i64).z fw gA fx :: Rs.ow ft ⟨dY, da, ea⟩ (eInt .i64).z fy gB fz :: Rs.blk aa [.int .i64 bk, .int .i64 aX, .sl ⟨cN, bK, cO⟩, .int .i64 bl, .int .i64 bb, .sl cW, .int .i64 aY, .int .i64 aT, .sl ev, .int .i64 bc, .int .i64 bf, .sl ⟨dX, c_, d_⟩, .int .i64 bv, .int .i64 bg, .sl ⟨dY, da, ea⟩, .bool ax] :: R0) R0 bk aX bl bb aY aT bc bf bv bg cN dX dY bK c_ da aa cO d_ ea eN fr ft eP eQ fw fx fy fz cW ev r v H' := by
 obtain ⟨w0, iI, kl, km⟩ := h0
 subst jx
 subst kx
 subst ky
 unfold dv.p at hp
 unfold dv.tw dv.twX
 have s0 := w0.rf
 refine bif_ex (fun hb => ?_) (fun hb => ?_)
 ·replace hp := bif_t hb hp
  refine bind_ex (ldI_of (w0.ld (i := 3) rfl rfl)) ?_
  refine bind_ex (ldI_of (w0.ld (i := 3) rfl rfl)) ?_
  refine bind_ex (ldSl_of (w0.ld (i := 3) rfl rfl)) ?_
  obtain ⟨w1, s1⟩ := w0.pick' [3, 0, 1, 2] 4 rfl rfl rfl
  dsimp only [pk, pks, nth, List.drop] at w1 s1
  obtain ⟨r2, e2, hp⟩ := bind_some' hp
  refine call_ex (bE.P rfl ⟨w1, (iI.step s1)⟩ e2) ?_
  rintro _ H3 ⟨tq, rfl, hl3_0, w3, s3, f3_0⟩
  refine bind_ex (ldI_of (w3.ld (i := 0) rfl rfl)) ?_
  refine bind_ex (ldI_of (w3.ld (i := 0) rfl rfl)) ?_
  refine bind_ex (ldSl_of (w3.ld (i := 0) rfl rfl)) ?_
  obtain ⟨w4, s4⟩ := w3.pick' [0, 2, 1, 3] 4 rfl rfl rfl
  dsimp only [pk, pks, nth, List.drop] at w4 s4
  obtain ⟨r5, e5, hp⟩ := bind_some' hp
  refine call_ex (bE.P rfl ⟨w4, (kl.step (s1.trans (s3.trans s4)))⟩ e5) ?_
  rintro _ H6 ⟨ts, rfl, hl6_0, w6, s6, f6_0⟩
  refine bind_ex (ldI_of (w6.ld (i := 0) rfl rfl)) ?_
  refine bind_ex (ldI_of (w6.ld (i := 0) rfl rfl)) ?_
  refine bind_ex (ldSl_of (w6.ld (i := 0) rfl rfl)) ?_
  obtain ⟨w7, s7⟩ := w6.pick' [0, 3, 1, 2] 4 rfl rfl rfl
  dsimp only [pk, pks, nth, List.drop] at w7 s7
  obtain ⟨r8, e8, hp⟩ := bind_some' hp
  refine call_ex (bD.P rfl ⟨w7, (km.step (s1.trans (s3.trans (s4.trans (s6.trans s7)))))⟩ e8) ?_
  rintro _ H9 ⟨tt, rfl, hl9_0, w9, s9, f9_0⟩
  obtain ⟨w10, s10⟩ := w9.pick' [3, 2, 1, 0] 4 rfl rfl rfl
  dsimp only [pk, pks, nth, List.drop] at w10 s10
  obtain rfl := Option.some.inj hp
  exact ⟨_, _, rfl, _, _, _, rfl, hl3_0, hl6_0, hl9_0, w10, (s0.trans (s1.trans (s3.trans (s4.trans (s6.trans (s7.trans (s9.trans s10))))))), (f3_0.step (s4.trans (s6.trans (s7.trans (s9.trans s10))))), (f6_0.step (s7.trans (s9.trans s10))), (f9_0.step s10)⟩
 ·replace hp := bif_f hb hp
  obtain rfl := Option.some.inj hp
  exact ⟨_, _, rfl, _, _, _, rfl, rfl, rfl, rfl, w0, s0, iI, kl, km⟩
def bi.Q (H0 : Hp) (Ri R0 : List Rs) (bk aX bl bb aY aT bc bf bv bg : Int) (cN : ON) (bK aa : Nat) (cO : Cap) (dy : List Int) (cW ev cX cY : Sl) (ax : Bool) (r : Bool) (v : AV) (H' : Hp) : Prop := v = (.bool r) ∧ Out H0 Ri H' (Rs.blk aa [.int .i64 bk, .int .i64 aX, .sl ⟨cN, bK, cO⟩, .int .i64 bl, .int .i64 bb, .sl cW, .int .i64 aY, .int .i64 aT, .sl ev, .int .i64 bc, .int .i64 bf, .sl cX, .int .i64 bv, .int .i64 bg, .sl cY, .bool ax] :: R0) fun R => True
def bi.S13 (H0 : Hp) (Ri R0 : List Rs) (ay aj aA ap aq ao au av aH aw : Int) (aR : ON) (aF az : Nat) (aS : Cap) (ck : List Int) (cE eD cF cG : Sl) (bw : Bool) (C : Nat → Nat → Int → Int → Hp → OA) (pC : Int → Int → List Int → Int → Int → Option (Bool)) : Prop := ∀ {dC ed : Int}, ∀ {H : Hp}, aF = ck.length → (Out H0 Ri H (Rs.blk az [.int .i64 ay, .int .i64 aj, .sl ⟨aR, aF, aS⟩, .int .i64 aA, .int .i64 ap, .sl cE, .int .i64 aq, .int .i64 ao, .sl eD, .int .i64 au, .int .i64 av, .sl cF, .int .i64 aH, .int .i64 aw, .sl cG, .bool bw] :: R0) fun R => ROs (eInt .i64) H R ⟨aR, aF, aS⟩ ck) → ∀ {r : Bool}, pC ay aj ck dC ed = some r → ∃ v H', C az 0 dC ed H = some (v, H') ∧ bi.Q H0 Ri R0 ay aj aA ap aq ao au av aH aw aR aF az aS ck cE eD cF cG bw r v H'
def bi.S29 (H0 : Hp) (Ri R0 : List Rs) (ay aj aA ap aq ao au av aH aw : Int) (aR : ON) (aF az : Nat) (aS : Cap) (ck : List Int) (cE eD cF cG : Sl) (bw : Bool) (C : Nat → Nat → Int → Int → Hp → OA) (pC : Int → List Int → Int → Int → Option (Bool)) : Prop := ∀ {jo iW : Int}, ∀ {H : Hp}, aF = ck.length → (Out H0 Ri H (Rs.blk az [.int .i64 ay, .int .i64 aj, .sl ⟨aR, aF, aS⟩, .int .i64 aA, .int .i64 ap, .sl cE, .int .i64 aq, .int .i64 ao, .sl eD, .int .i64 au, .int .i64 av, .sl cF, .int .i64 aH, .int .i64 aw, .sl cG, .bool bw] :: R0) fun R => ROs (eInt .i64) H R ⟨aR, aF, aS⟩ ck) → ∀ {r : Bool}, pC aj ck jo iW = some r → ∃ v H', C az 0 jo iW H = some (v, H') ∧ bi.Q H0 Ri R0 ay aj aA ap aq ao au av aH aw aR aF az aS ck cE eD cF cG bw r v H'
def bi.pl29 (F : Nat)  : Nat → Int → List Int → Int → Int → Option (Bool)
 | 0, _, _, _, _ => none
 | k + 1, aj, ck, jo, iW => (bif (decide (iW < aj)) then ((aC.p F aj ck jo iW).bind fun r1 => (bif (r1 != 0) then (some false) else (bi.pl29 F k aj ck jo (IntKind.i64.wrap (iW + 1))))) else (some true))
termination_by structural n => n
theorem bi.l29_P {F : Nat} {H0 : Hp} {Ri R0 : List Rs} {ay aj aA ap aq ao au av aH aw : Int} {aR : ON} {aF az : Nat} {aS : Cap} {ck : List Int} {cE eD cF cG : Sl} {bw : Bool}  : ∀ k, bi.S29 H0 Ri R0 ay aj aA ap aq ao au av aH aw aR aF az aS ck cE eD cF cG bw (bi.l29 F (aC.tw F)  k) (bi.pl29 F  k) := by
 intro k
 induction k with
 | zero =>
  intro jo iW H jT h0 r hp
  exact nomatch (show (none : Option (Bool)) = some r from hp)
 | succ k ih =>
  intro jo iW H jT h0 r hp
  obtain ⟨w0, s0, jC⟩ := h0
  subst jT
  unfold bi.pl29 at hp
  unfold bi.l29
  refine bind_ex (ldI_of (w0.ld (i := 0) rfl rfl)) ?_
  refine bif_ex (fun hb => ?_) (fun hb => ?_)
  ·replace hp := bif_t hb hp
   refine bind_ex (ldI_of (w0.ld (i := 0) rfl rfl)) ?_
   refine bind_ex (ldI_of (w0.ld (i := 0) rfl rfl)) ?_
   refine bind_ex (ldSl_of (w0.ld (i := 0) rfl rfl)) ?_
   obtain ⟨r1, e1, hp⟩ := bind_some' hp
   refine call_ex (aC.P rfl ⟨w0, jC⟩ e1) ?_
   rintro _ H2 ⟨rfl, w2, s2, _⟩
   refine bind_ex rfl ?_
   refine bif_ex (fun hb => ?_) (fun hb => ?_)
   ·replace hp := bif_t hb hp
    obtain rfl := Option.some.inj hp
    exact ⟨_, _, rfl, rfl, w2, (s0.trans s2), trivial⟩
   ·replace hp := bif_f hb hp
    exact ih rfl ⟨w2, (s0.trans s2), (jC.step s2)⟩ hp
  ·replace hp := bif_f hb hp
   obtain rfl := Option.some.inj hp
   exact ⟨_, _, rfl, rfl, w0, s0, trivial⟩
def bi.pj1 (F : Nat)  (aj : Int) (ck : List Int) (mC : Int) : Option (Bool) := bi.pl29 F F aj ck mC (IntKind.i64.wrap (mC + 1))
theorem bi.j1_P {F : Nat} {H0 : Hp} {Ri R0 : List Rs} {ay aj aA ap aq ao au av aH aw : Int} {aR : ON} {aF az : Nat} {aS : Cap} {ck : List Int} {cE eD cF cG : Sl} {bw : Bool}  {mC : Int} {H : Hp} (jT : aF = ck.length) (h0 : Out H0 Ri H (Rs.blk az [.int .i64 ay, .int .i64 aj, .sl ⟨aR, aF, aS⟩, .int .i64 aA, .int .i64 ap, .sl cE, .int .i64 aq, .int .i64 ao, .sl eD, .int .i64 au, .int .i64 av, .sl cF, .int .i64 aH, .int .i64 aw, .sl cG, .bool bw] :: R0) fun R => ROs (eInt .i64) H R ⟨aR, aF, aS⟩ ck) {r : Bool} (hp : bi.pj1 F  aj ck mC = some r) : ∃ v H', bi.j1 F (aC.tw F)  az 0 mC H = some (v, H') ∧ bi.Q H0 Ri R0 ay aj aA ap aq ao au av aH aw aR aF az aS ck cE eD cF cG bw r v H' := by
 obtain ⟨w0, s0, jC⟩ := h0
 subst jT
 unfold bi.pj1 at hp
 unfold bi.j1
 exact bi.l29_P F rfl ⟨w0, s0, jC⟩ hp
def bi.pl13 (F : Nat)  : Nat → Int → Int → List Int → Int → Int → Option (Bool)
 | 0, _, _, _, _, _ => none
 | k + 1, ay, aj, ck, dC, ed => (bif (decide (ed < ay)) then ((aC.p F aj ck ed dC).bind fun r1 => (bif (r1 != 0) then (some false) else (bi.pl13 F k ay aj ck dC (IntKind.i64.wrap (ed + 1))))) else (bi.pj1 F aj ck dC))
termination_by structural n => n
theorem bi.l13_P {F : Nat} {H0 : Hp} {Ri R0 : List Rs} {ay aj aA ap aq ao au av aH aw : Int} {aR : ON} {aF az : Nat} {aS : Cap} {ck : List Int} {cE eD cF cG : Sl} {bw : Bool}  : ∀ k, bi.S13 H0 Ri R0 ay aj aA ap aq ao au av aH aw aR aF az aS ck cE eD cF cG bw (bi.l13 F (aC.tw F)  k) (bi.pl13 F  k) := by
 intro k
 induction k with
 | zero =>
  intro dC ed H jT h0 r hp
  exact nomatch (show (none : Option (Bool)) = some r from hp)
 | succ k ih =>
  intro dC ed H jT h0 r hp
  obtain ⟨w0, s0, jC⟩ := h0
  subst jT
  unfold bi.pl13 at hp
  unfold bi.l13
  refine bind_ex (ldI_of (w0.ld (i := 0) rfl rfl)) ?_
  refine bif_ex (fun hb => ?_) (fun hb => ?_)
  ·replace hp := bif_t hb hp
   refine bind_ex (ldI_of (w0.ld (i := 0) rfl rfl)) ?_
   refine bind_ex (ldI_of (w0.ld (i := 0) rfl rfl)) ?_
   refine bind_ex (ldSl_of (w0.ld (i := 0) rfl rfl)) ?_
   obtain ⟨r1, e1, hp⟩ := bind_some' hp
   refine call_ex (aC.P rfl ⟨w0, jC⟩ e1) ?_
   rintro _ H2 ⟨rfl, w2, s2, _⟩
   refine bind_ex rfl ?_
   refine bif_ex (fun hb => ?_) (fun hb => ?_)
   ·replace hp := bif_t hb hp
    obtain rfl := Option.some.inj hp
    exact ⟨_, _, rfl, rfl, w2, (s0.trans s2), trivial⟩
   ·replace hp := bif_f hb hp
    exact ih rfl ⟨w2, (s0.trans s2), (jC.step s2)⟩ hp
  ·replace hp := bif_f hb hp
   exact bi.j1_P rfl ⟨w0, s0, jC⟩ hp
def bi.p (F : Nat) (bk : Int) (aX : Int) (dy : List Int) (ae : Int) : Option (Bool) := bi.pl13 F F bk aX dy ae (IntKind.i64.wrap (ae + 1))
theorem bi.P {F : Nat} {bk aX bl bb aY aT bc bf bv bg ae : Int} {cN : ON} {bK aa : Nat} {cO : Cap} {dy : List Int} {cW ev cX cY : Sl} {ax : Bool} {H : Hp} {R0 : List Rs} (jx : bK = dy.length) (h0 : Inn H (Rs.blk aa [.int .i64 bk, .int .i64 aX, .sl ⟨cN, bK, cO⟩, .int .i64 bl, .int .i64 bb, .sl cW, .int .i64 aY, .int .i64 aT, .sl ev, .int .i64 bc, .int .i64 bf, .sl cX, .int .i64 bv, .int .i64 bg, .sl cY, .bool ax] :: R0) fun R => ROs (eInt .i64) H R ⟨cN, bK, cO⟩ dy) {r : Bool} (hp : bi.p F bk aX dy ae = some r) : ∃ v H', bi.tw F aa 0 ae H = some (v, H') ∧ bi.Q H (Rs.blk aa [.int .i64 bk, .int .i64 aX, .sl ⟨cN, bK, cO⟩, .int .i64 bl, .int .i64 bb, .sl cW, .int .i64 aY, .int .i64 aT, .sl ev, .int .i64 bc, .int .i64 bf, .sl cX, .int .i64 bv, .int .i64 bg, .sl cY, .bool ax] :: R0) R0 bk aX bl bb aY aT bc bf bv bg cN bK aa cO dy cW ev cX cY ax r v H' := by
 obtain ⟨w0, iI⟩ := h0
 subst jx
 unfold bi.p at hp
 unfold bi.tw bi.twX
 have s0 := w0.rf
 exact bi.l13_P F rfl ⟨w0, s0, iI⟩ hp
def aU.Q (H0 : Hp) (Ri R0 : List Rs) (bk aX bl bb aY aT bc bf bv bg : Int) (cN : ON) (bK aa : Nat) (cO : Cap) (dy : List Int) (cW ev cX cY : Sl) (ax : Bool) (r : Int) (v : AV) (H' : Hp) : Prop := v = (.int .i64 r) ∧ Out H0 Ri H' (Rs.blk aa [.int .i64 bk, .int .i64 aX, .sl ⟨cN, bK, cO⟩, .int .i64 bl, .int .i64 bb, .sl cW, .int .i64 aY, .int .i64 aT, .sl ev, .int .i64 bc, .int .i64 bf, .sl cX, .int .i64 bv, .int .i64 bg, .sl cY, .bool ax] :: R0) fun R => True
def aU.S13 (H0 : Hp) (Ri R0 : List Rs) (ay aj aA ap aq ao au av aH aw : Int) (aR : ON) (aF az : Nat) (aS : Cap) (ck : List Int) (cE eD cF cG : Sl) (bw : Bool) (C : Nat → Nat → Int → Int → Hp → OA) (pC : Int → Int → List Int → Int → Int → Option (Int)) : Prop := ∀ {dC ed : Int}, ∀ {H : Hp}, aF = ck.length → (Out H0 Ri H (Rs.blk az [.int .i64 ay, .int .i64 aj, .sl ⟨aR, aF, aS⟩, .int .i64 aA, .int .i64 ap, .sl cE, .int .i64 aq, .int .i64 ao, .sl eD, .int .i64 au, .int .i64 av, .sl cF, .int .i64 aH, .int .i64 aw, .sl cG, .bool bw] :: R0) fun R => ROs (eInt .i64) H R ⟨aR, aF, aS⟩ ck) → ∀ {r : Int}, pC ay aj ck dC ed = some r → ∃ v H', C az 0 dC ed H = some (v, H') ∧ aU.Q H0 Ri R0 ay aj aA ap aq ao au av aH aw aR aF az aS ck cE eD cF cG bw r v H'
def aU.S213 (H0 : Hp) (Ri R0 : List Rs) (ay aj aA ap aq ao au av aH aw : Int) (aR : ON) (aF az : Nat) (aS : Cap) (ck : List Int) (cE eD cF cG : Sl) (bw : Bool) (C : Nat → Nat → Int → Int → Int → Hp → OA) (pC : Int → Int → List Int → Int → Int → Int → Option (Int)) : Prop := ∀ {gS hE i_ : Int}, ∀ {H : Hp}, aF = ck.length → (Out H0 Ri H (Rs.blk az [.int .i64 ay, .int .i64 aj, .sl ⟨aR, aF, aS⟩, .int .i64 aA, .int .i64 ap, .sl cE, .int .i64 aq, .int .i64 ao, .sl eD, .int .i64 au, .int .i64 av, .sl cF, .int .i64 aH, .int .i64 aw, .sl cG, .bool bw] :: R0) fun R => ROs (eInt .i64) H R ⟨aR, aF, aS⟩ ck) → ∀ {r : Int}, pC ay aj ck gS hE i_ = some r → ∃ v H', C az 0 gS hE i_ H = some (v, H') ∧ aU.Q H0 Ri R0 ay aj aA ap aq ao au av aH aw aR aF az aS ck cE eD cF cG bw r v H'
def aU.pj3 (F : Nat) (jk : Int → Int → List Int → Int → Int → Option (Int)) (ay : Int) (aj : Int) (ck : List Int) (nQ : Int) (nR : Int) : Option (Int) := jk ay aj ck nQ (IntKind.i64.wrap (nR + 1))
theorem aU.j3_P {F : Nat} {H0 : Hp} {Ri R0 : List Rs} {ay aj aA ap aq ao au av aH aw : Int} {aR : ON} {aF az : Nat} {aS : Cap} {ck : List Int} {cE eD cF cG : Sl} {bw : Bool} {C13_ : Nat → Nat → Int → Int → Hp → OA} {jk : Int → Int → List Int → Int → Int → Option (Int)} (hC13 : aU.S13 H0 Ri R0 ay aj aA ap aq ao au av aH aw aR aF az aS ck cE eD cF cG bw C13_ jk) {nQ nR : Int} {H : Hp} (jT : aF = ck.length) (h0 : Out H0 Ri H (Rs.blk az [.int .i64 ay, .int .i64 aj, .sl ⟨aR, aF, aS⟩, .int .i64 aA, .int .i64 ap, .sl cE, .int .i64 aq, .int .i64 ao, .sl eD, .int .i64 au, .int .i64 av, .sl cF, .int .i64 aH, .int .i64 aw, .sl cG, .bool bw] :: R0) fun R => ROs (eInt .i64) H R ⟨aR, aF, aS⟩ ck) {r : Int} (hp : aU.pj3 F jk ay aj ck nQ nR = some r) : ∃ v H', aU.j3 F (aC.tw F) C13_ az 0 nQ nR H = some (v, H') ∧ aU.Q H0 Ri R0 ay aj aA ap aq ao au av aH aw aR aF az aS ck cE eD cF cG bw r v H' := by
 obtain ⟨w0, s0, jC⟩ := h0
 subst jT
 unfold aU.pj3 at hp
 unfold aU.j3
 exact hC13 rfl ⟨w0, s0, jC⟩ hp
def aU.pj4 (F : Nat) (jk : Int → Int → List Int → Int → Int → Option (Int)) (ay : Int) (aj : Int) (ck : List Int) (nS : Int) (mD : Int) : Option (Int) := aU.pj3 F jk ay aj ck nS mD
theorem aU.j4_P {F : Nat} {H0 : Hp} {Ri R0 : List Rs} {ay aj aA ap aq ao au av aH aw : Int} {aR : ON} {aF az : Nat} {aS : Cap} {ck : List Int} {cE eD cF cG : Sl} {bw : Bool} {C13_ : Nat → Nat → Int → Int → Hp → OA} {jk : Int → Int → List Int → Int → Int → Option (Int)} (hC13 : aU.S13 H0 Ri R0 ay aj aA ap aq ao au av aH aw aR aF az aS ck cE eD cF cG bw C13_ jk) {nS mD : Int} {H : Hp} (jT : aF = ck.length) (h0 : Out H0 Ri H (Rs.blk az [.int .i64 ay, .int .i64 aj, .sl ⟨aR, aF, aS⟩, .int .i64 aA, .int .i64 ap, .sl cE, .int .i64 aq, .int .i64 ao, .sl eD, .int .i64 au, .int .i64 av, .sl cF, .int .i64 aH, .int .i64 aw, .sl cG, .bool bw] :: R0) fun R => ROs (eInt .i64) H R ⟨aR, aF, aS⟩ ck) {r : Int} (hp : aU.pj4 F jk ay aj ck nS mD = some r) : ∃ v H', aU.j4 F (aC.tw F) C13_ az 0 nS mD H = some (v, H') ∧ aU.Q H0 Ri R0 ay aj aA ap aq ao au av aH aw aR aF az aS ck cE eD cF cG bw r v H' := by
 obtain ⟨w0, s0, jC⟩ := h0
 subst jT
 unfold aU.pj4 at hp
 unfold aU.j4
 exact aU.j3_P (@hC13) rfl ⟨w0, s0, jC⟩ hp
def aU.pl213 (F : Nat) (jk : Int → Int → List Int → Int → Int → Option (Int)) : Nat → Int → Int → List Int → Int → Int → Int → Option (Int)
 | 0, _, _, _, _, _, _ => none
 | k + 1, ay, aj, ck, gS, hE, i_ => (bif (decide (i_ < aj)) then ((aC.p F aj ck hE i_).bind fun r1 => (aC.p F aj ck gS gS).bind fun r4 => (if r4 = 0 then none else ((bif ((Int.tmod r1 r4) != 0) then (some hE) else (aU.pl213 F jk k ay aj ck gS hE (IntKind.i64.wrap (i_ + 1))))))) else (aU.pj4 F jk ay aj ck gS hE))
termination_by structural n => n
theorem aU.l213_P {F : Nat} {H0 : Hp} {Ri R0 : List Rs} {ay aj aA ap aq ao au av aH aw : Int} {aR : ON} {aF az : Nat} {aS : Cap} {ck : List Int} {cE eD cF cG : Sl} {bw : Bool} {C13_ : Nat → Nat → Int → Int → Hp → OA} {jk : Int → Int → List Int → Int → Int → Option (Int)} (hC13 : aU.S13 H0 Ri R0 ay aj aA ap aq ao au av aH aw aR aF az aS ck cE eD cF cG bw C13_ jk) : ∀ k, aU.S213 H0 Ri R0 ay aj aA ap aq ao au av aH aw aR aF az aS ck cE eD cF cG bw (aU.l213 F (aC.tw F) C13_ k) (aU.pl213 F jk k) := by
 intro k
 induction k with
 | zero =>
  intro gS hE i_ H jT h0 r hp
  exact nomatch (show (none : Option (Int)) = some r from hp)
 | succ k ih =>
  intro gS hE i_ H jT h0 r hp
  obtain ⟨w0, s0, jC⟩ := h0
  subst jT
  unfold aU.pl213 at hp
  unfold aU.l213
  refine bind_ex (ldI_of (w0.ld (i := 0) rfl rfl)) ?_
  refine bif_ex (fun hb => ?_) (fun hb => ?_)
  ·replace hp := bif_t hb hp
   refine bind_ex (ldI_of (w0.ld (i := 0) rfl rfl)) ?_
   refine bind_ex (ldI_of (w0.ld (i := 0) rfl rfl)) ?_
   refine bind_ex (ldSl_of (w0.ld (i := 0) rfl rfl)) ?_
   obtain ⟨r1, e1, hp⟩ := bind_some' hp
   refine call_ex (aC.P rfl ⟨w0, jC⟩ e1) ?_
   rintro _ H2 ⟨rfl, w2, s2, _⟩
   refine bind_ex rfl ?_
   refine ifs_ex (W.cons_of (Rn := []) w0 w2 s2) ?_
   refine bind_ex (ldI_of (w2.ld (i := 0) rfl rfl)) ?_
   refine bind_ex (ldI_of (w2.ld (i := 0) rfl rfl)) ?_
   refine bind_ex (ldSl_of (w2.ld (i := 0) rfl rfl)) ?_
   obtain ⟨r4, e4, hp⟩ := bind_some' hp
   refine call_ex (aC.P rfl ⟨w2, (jC.step s2)⟩ e4) ?_
   rintro _ H5 ⟨rfl, w5, s5, _⟩
   refine bind_ex rfl ?_
   obtain ⟨g6, hp⟩ := ifn_p hp
   refine ifn_ex g6 ?_
   refine bif_ex (fun hb => ?_) (fun hb => ?_)
   ·replace hp := bif_t hb hp
    obtain rfl := Option.some.inj hp
    exact ⟨_, _, rfl, rfl, w5, (s0.trans (s2.trans s5)), trivial⟩
   ·replace hp := bif_f hb hp
    exact ih rfl ⟨w5, (s0.trans (s2.trans s5)), (jC.step (s2.trans s5))⟩ hp
  ·replace hp := bif_f hb hp
   exact aU.j4_P (@hC13) rfl ⟨w0, s0, jC⟩ hp
def aU.pl13 (F : Nat)  : Nat → Int → Int → List Int → Int → Int → Option (Int)
 | 0, _, _, _, _, _ => none
 | k + 1, ay, aj, ck, dC, ed => (bif (decide (ed < ay)) then (aU.pl213 F (aU.pl13 F k) F ay aj ck dC ed (IntKind.i64.wrap (dC + 1))) else (some (-1)))
termination_by structural n => n
theorem aU.l13_P {F : Nat} {H0 : Hp} {Ri R0 : List Rs} {ay aj aA ap aq ao au av aH aw : Int} {aR : ON} {aF az : Nat} {aS : Cap} {ck : List Int} {cE eD cF cG : Sl} {bw : Bool}  : ∀ k, aU.S13 H0 Ri R0 ay aj aA ap aq ao au av aH aw aR aF az aS ck cE eD cF cG bw (aU.l13 F (aC.tw F)  k) (aU.pl13 F  k) := by
 intro k
 induction k with
 | zero =>
  intro dC ed H jT h0 r hp
  exact nomatch (show (none : Option (Int)) = some r from hp)
 | succ k ih =>
  intro dC ed H jT h0 r hp
  obtain ⟨w0, s0, jC⟩ := h0
  subst jT
  unfold aU.pl13 at hp
  unfold aU.l13
  refine bind_ex (ldI_of (w0.ld (i := 0) rfl rfl)) ?_
  refine bif_ex (fun hb => ?_) (fun hb => ?_)
  ·replace hp := bif_t hb hp
   exact aU.l213_P (@ih) F rfl ⟨w0, s0, jC⟩ hp
  ·replace hp := bif_f hb hp
   obtain rfl := Option.some.inj hp
   exact ⟨_, _, rfl, rfl, w0, s0, trivial⟩
def aU.p (F : Nat) (bk : Int) (aX : Int) (dy : List Int) (ae : Int) : Option (Int) := aU.pl13 F F bk aX dy ae (IntKind.i64.wrap (ae + 1))
theorem aU.P {F : Nat} {bk aX bl bb aY aT bc bf bv bg ae : Int} {cN : ON} {bK aa : Nat} {cO : Cap} {dy : List Int} {cW ev cX cY : Sl} {ax : Bool} {H : Hp} {R0 : List Rs} (jx : bK = dy.length) (h0 : Inn H (Rs.blk aa [.int .i64 bk, .int .i64 aX, .sl ⟨cN, bK, cO⟩, .int .i64 bl, .int .i64 bb, .sl cW, .int .i64 aY, .int .i64 aT, .sl ev, .int .i64 bc, .int .i64 bf, .sl cX, .int .i64 bv, .int .i64 bg, .sl cY, .bool ax] :: R0) fun R => ROs (eInt .i64) H R ⟨cN, bK, cO⟩ dy) {r : Int} (hp : aU.p F bk aX dy ae = some r) : ∃ v H', aU.tw F aa 0 ae H = some (v, H') ∧ aU.Q H (Rs.blk aa [.int .i64 bk, .int .i64 aX, .sl ⟨cN, bK, cO⟩, .int .i64 bl, .int .i64 bb, .sl cW, .int .i64 aY, .int .i64 aT, .sl ev, .int .i64 bc, .int .i64 bf, .sl cX, .int .i64 bv, .int .i64 bg, .sl cY, .bool ax] :: R0) R0 bk aX bl bb aY aT bc bf bv bg cN bK aa cO dy cW ev cX cY ax r v H' := by
 obtain ⟨w0, iI⟩ := h0
 subst jx
 unfold aU.p at hp
 unfold aU.tw aU.twX
 have s0 := w0.rf
 exact aU.l13_P F rfl ⟨w0, s0, iI⟩ hp
def aP.Q (H0 : Hp) (Ri R0 : List Rs) (bk aX bl bb aY aT bc bf bv bg : Int) (cN dW cm dX dY : ON) (bK cZ bA c_ da aa : Nat) (cO dZ cn d_ ea : Cap) (eN fq eO fr ft : Bool) (eP eQ fu fv eR eS fw fx fy fz : List AV) (r : Bool × Bool × List Int × List Int × List Int × List Int × List Int × Bool) (v : AV) (H' : Hp) : Prop := ∃ hT : List AV, ∃ jg : List AV, ∃ hU : List AV, ∃ jh : List AV, ∃ ji : List AV, v = (.tup [(.bool r.1), (.bool r.2.1)]) ∧ bK = (r.2.2.1).length ∧ cZ = (r.2.2.2.1).length ∧ bA = (r.2.2.2.2.1).length ∧ c_ = (r.2.2.2.2.2.1).length ∧ da = (r.2.2.2.2.2.2.1).length ∧ Out H0 Ri H' (Rs.ow eN ⟨cN, bK, cO⟩ (eInt .i64).z eP hT eQ :: Rs.ow fq ⟨dW, cZ, dZ⟩ (eInt .i64).z fu jg fv :: Rs.ow eO ⟨cm, bA, cn⟩ (eInt .i64).z eR hU eS :: Rs.ow fr ⟨dX, c_, d_⟩ (eInt .i64).z fw jh fx :: Rs.ow ft ⟨dY, da, ea⟩ (eInt .i64).z fy ji fz :: Rs.blk aa [.int .i64 bk, .int .i64 aX, .sl ⟨cN, bK, cO⟩, .int .i64 bl, .int .i64 bb, .sl ⟨dW, cZ, dZ⟩, .int .i64 aY, .int .i64 aT, .sl ⟨cm, bA, cn⟩, .int .i64 bc, .int .i64 bf, .sl ⟨dX, c_, d_⟩, .int .i64 bv, .int .i64 bg, .sl ⟨dY, da, ea⟩, .bool (r.2.2.2.2.2.2.2)] :: R0) fun R => CR (eInt .i64) H' R hT (r.2.2.1) ∧ CR (eInt .i64) H' R jg (r.2.2.2.1) ∧ CR (eInt .i64) H' R hU (r.2.2.2.2.1) ∧ CR (eInt .i64) H' R jh (r.2.2.2.2.2.1) ∧ CR (eInt .i64) H' R ji (r.2.2.2.2.2.2.1)
def aP.S29 (H0 : Hp) (Ri R0 : List Rs) (ay aj aA ap aq ao au av aH aw : Int) (aR bn aM bo bp : ON) (aF aZ aB a_ ba az : Nat) (aS br aN bs bt : Cap) (bQ bR bS bT bU : Bool) (bV bW bX bY bZ b_ ca cb cc cd : List AV) (C : Nat → Nat → Int → Int → Hp → OA) (pC : Int → Int → List Int → Int → List Int → Int → Int → List Int → Int → Int → List Int → Int → List Int → Bool → Int → Int → Option (Bool × Bool × List Int × List Int × List Int × List Int × List Int × Bool)) : Prop := ∀ {aD aG aE aK aL : List Int} {cz cA cB cC cD : List AV} {ax : Bool} {gk iu : Int}, ∀ {H : Hp}, aF = aD.length → aZ = aG.length → aB = aE.length → a_ = aK.length → ba = aL.length → (Out H0 Ri H (Rs.ow bQ ⟨aR, aF, aS⟩ (eInt .i64).z bV cz bW :: Rs.ow bR ⟨bn, aZ, br⟩ (eInt .i64).z bX cA bY :: Rs.ow bS ⟨aM, aB, aN⟩ (eInt .i64).z bZ cB b_ :: Rs.ow bT ⟨bo, a_, bs⟩ (eInt .i64).z ca cC cb :: Rs.ow bU ⟨bp, ba, bt⟩ (eInt .i64).z cc cD cd :: Rs.blk az [.int .i64 ay, .int .i64 aj, .sl ⟨aR, aF, aS⟩, .int .i64 aA, .int .i64 ap, .sl ⟨bn, aZ, br⟩, .int .i64 aq, .int .i64 ao, .sl ⟨aM, aB, aN⟩, .int .i64 au, .int .i64 av, .sl ⟨bo, a_, bs⟩, .int .i64 aH, .int .i64 aw, .sl ⟨bp, ba, bt⟩, .bool ax] :: R0) fun R => CR (eInt .i64) H R cz aD ∧ CR (eInt .i64) H R cA aG ∧ CR (eInt .i64) H R cB aE ∧ CR (eInt .i64) H R cC aK ∧ CR (eInt .i64) H R cD aL) → ∀ {r : Bool × Bool × List Int × List Int × List Int × List Int × List Int × Bool}, pC ay aj aD ap aG aq ao aE au av aK aw aL ax gk iu = some r → ∃ v H', C az 0 gk iu H = some (v, H') ∧ aP.Q H0 Ri R0 ay aj aA ap aq ao au av aH aw aR bn aM bo bp aF aZ aB a_ ba az aS br aN bs bt bQ bR bS bT bU bV bW bX bY bZ b_ ca cb cc cd r v H'
def aP.S61 (H0 : Hp) (Ri R0 : List Rs) (ay aj aA ap aq ao au av aH aw : Int) (aR bn aM bo bp : ON) (aF aZ aB a_ ba az : Nat) (aS br aN bs bt : Cap) (bQ bR bS bT bU : Bool) (bV bW bX bY bZ b_ ca cb cc cd : List AV) (C : Nat → Nat → Int → Int → Hp → OA) (pC : Int → Int → List Int → Int → List Int → Int → Int → List Int → Int → Int → List Int → Int → List Int → Bool → Int → Int → Option (Bool × Bool × List Int × List Int × List Int × List Int × List Int × Bool)) : Prop := ∀ {aD aG aE aK aL : List Int} {cz cA cB cC cD : List AV} {ax : Bool} {gj ip : Int}, ∀ {H : Hp}, aF = aD.length → aZ = aG.length → aB = aE.length → a_ = aK.length → ba = aL.length → (Out H0 Ri H (Rs.ow bQ ⟨aR, aF, aS⟩ (eInt .i64).z bV cz bW :: Rs.ow bR ⟨bn, aZ, br⟩ (eInt .i64).z bX cA bY :: Rs.ow bS ⟨aM, aB, aN⟩ (eInt .i64).z bZ cB b_ :: Rs.ow bT ⟨bo, a_, bs⟩ (eInt .i64).z ca cC cb :: Rs.ow bU ⟨bp, ba, bt⟩ (eInt .i64).z cc cD cd :: Rs.blk az [.int .i64 ay, .int .i64 aj, .sl ⟨aR, aF, aS⟩, .int .i64 aA, .int .i64 ap, .sl ⟨bn, aZ, br⟩, .int .i64 aq, .int .i64 ao, .sl ⟨aM, aB, aN⟩, .int .i64 au, .int .i64 av, .sl ⟨bo, a_, bs⟩, .int .i64 aH, .int .i64 aw, .sl ⟨bp, ba, bt⟩, .bool ax] :: R0) fun R => CR (eInt .i64) H R cz aD ∧ CR (eInt .i64) H R cA aG ∧ CR (eInt .i64) H R cB aE ∧ CR (eInt .i64) H R cC aK ∧ CR (eInt .i64) H R cD aL) → ∀ {r : Bool × Bool × List Int × List Int × List Int × List Int × List Int × Bool}, pC ay aj aD ap aG aq ao aE au av aK aw aL ax gj ip = some r → ∃ v H', C az 0 gj ip H = some (v, H') ∧ aP.Q H0 Ri R0 ay aj aA ap aq ao au av aH aw aR bn aM bo bp aF aZ aB a_ ba az aS br aN bs bt bQ bR bS bT bU bV bW bX bY bZ b_ ca cb cc cd r v H'
def aP.pj1 (F : Nat)  (ay : Int) (aj : Int) (aD : List Int) (ap : Int) (aG : List Int) (aq : Int) (ao : Int) (aE : List Int) (aK : List Int) (aL : List Int) (ax : Bool) (lD : Int) : Option (Bool × Bool × List Int × List Int × List Int × List Int × List Int × Bool) := (bif ax then (some (false, false, aD, aG, aE, aK, aL, ax)) else ((bi.p F ay aj aD lD).bind fun r3 => (bif (!r3) then (some (false, false, aD, aG, aE, aK, aL, ax)) else ((aU.p F ay aj aD lD).bind fun r8 => (bif (decide (r8 < 0)) then (some (true, false, aD, aG, aE, aK, aL, ax)) else ((dq.p F aj aD ap aG aq ao aE ax lD r8 (-1)).bind fun r13 => some (false, false, r13.1, r13.2.1, r13.2.2.1, aK, aL, r13.2.2.2)))))))
theorem aP.j1_P {F : Nat} {H0 : Hp} {Ri R0 : List Rs} {ay aj aA ap aq ao au av aH aw : Int} {aR bn aM bo bp : ON} {aF aZ aB a_ ba az : Nat} {aS br aN bs bt : Cap} {bQ bR bS bT bU : Bool} {bV bW bX bY bZ b_ ca cb cc cd : List AV}  {aD aG aE aK aL : List Int} {cz cA cB cC cD : List AV} {ax : Bool} {lD : Int} {H : Hp} (eg : aF = aD.length) (eh : aZ = aG.length) (ei : aB = aE.length) (ek : a_ = aK.length) (el : ba = aL.length) (h0 : Out H0 Ri H (Rs.ow bQ ⟨aR, aF, aS⟩ (eInt .i64).z bV cz bW :: Rs.ow bR ⟨bn, aZ, br⟩ (eInt .i64).z bX cA bY :: Rs.ow bS ⟨aM, aB, aN⟩ (eInt .i64).z bZ cB b_ :: Rs.ow bT ⟨bo, a_, bs⟩ (eInt .i64).z ca cC cb :: Rs.ow bU ⟨bp, ba, bt⟩ (eInt .i64).z cc cD cd :: Rs.blk az [.int .i64 ay, .int .i64 aj, .sl ⟨aR, aF, aS⟩, .int .i64 aA, .int .i64 ap, .sl ⟨bn, aZ, br⟩, .int .i64 aq, .int .i64 ao, .sl ⟨aM, aB, aN⟩, .int .i64 au, .int .i64 av, .sl ⟨bo, a_, bs⟩, .int .i64 aH, .int .i64 aw, .sl ⟨bp, ba, bt⟩, .bool ax] :: R0) fun R => CR (eInt .i64) H R cz aD ∧ CR (eInt .i64) H R cA aG ∧ CR (eInt .i64) H R cB aE ∧ CR (eInt .i64) H R cC aK ∧ CR (eInt .i64) H R cD aL) {r : Bool × Bool × List Int × List Int × List Int × List Int × List Int × Bool} (hp : aP.pj1 F  ay aj aD ap aG aq ao aE aK aL ax lD = some r) : ∃ v H', aP.j1 F (ar.tw F) (aC.tw F) (du.tw F) (dq.tw F) (dv.tw F) (bi.tw F) (aU.tw F)  az 0 lD H = some (v, H') ∧ aP.Q H0 Ri R0 ay aj aA ap aq ao au av aH aw aR bn aM bo bp aF aZ aB a_ ba az aS br aN bs bt bQ bR bS bT bU bV bW bX bY bZ b_ ca cb cc cd r v H' := by
 obtain ⟨w0, s0, cQ, de, cV, dn, dp⟩ := h0
 subst eg
 subst eh
 subst ei
 subst ek
 subst el
 unfold aP.pj1 at hp
 unfold aP.j1
 refine bind_ex (ldB_of (w0.ld (i := 5) rfl rfl)) ?_
 refine bif_ex (fun hb => ?_) (fun hb => ?_)
 ·replace hp := bif_t hb hp
  obtain rfl := Option.some.inj hp
  exact ⟨_, _, rfl, _, _, _, _, _, rfl, rfl, rfl, rfl, rfl, rfl, w0, s0, cQ, de, cV, dn, dp⟩
 ·replace hp := bif_f hb hp
  obtain ⟨w1, s1⟩ := w0.pick' [0, 5, 1, 2, 3, 4] 6 rfl rfl rfl
  dsimp only [pk, pks, nth, List.drop] at w1 s1
  have f2 := W.borrow1 (eInt .i64) w1 (cQ.step s1)
  obtain ⟨w2, s2⟩ := w1.right1
  obtain ⟨r3, e3, hp⟩ := bind_some' hp
  refine call_ex (bi.P rfl ⟨w2, f2⟩ e3) ?_
  rintro _ H4 ⟨rfl, w4, s4, _⟩
  obtain ⟨w5, s5⟩ := W.frame1 w1 w4 s4
  refine bind_ex rfl ?_
  refine bif_ex (fun hb => ?_) (fun hb => ?_)
  ·replace hp := bif_t hb hp
   obtain ⟨w6, s6⟩ := w5.pick' [0, 2, 3, 4, 5, 1] 6 rfl rfl rfl
   dsimp only [pk, pks, nth, List.drop] at w6 s6
   obtain rfl := Option.some.inj hp
   exact ⟨_, _, rfl, _, _, _, _, _, rfl, rfl, rfl, rfl, rfl, rfl, w6, (s0.trans (s1.trans (s5.trans s6))), (cQ.step (s1.trans (s5.trans s6))), (de.step (s1.trans (s5.trans s6))), (cV.step (s1.trans (s5.trans s6))), (dn.step (s1.trans (s5.trans s6))), (dp.step (s1.trans (s5.trans s6)))⟩
  ·replace hp := bif_f hb hp
   have f7 := W.borrow1 (eInt .i64) w5 (cQ.step (s1.trans s5))
   obtain ⟨w7, s7⟩ := w5.right1
   obtain ⟨r8, e8, hp⟩ := bind_some' hp
   refine call_ex (aU.P rfl ⟨w7, f7⟩ e8) ?_
   rintro _ H9 ⟨rfl, w9, s9, _⟩
   obtain ⟨w10, s10⟩ := W.frame1 w5 w9 s9
   refine bind_ex rfl ?_
   refine bif_ex (fun hb => ?_) (fun hb => ?_)
   ·replace hp := bif_t hb hp
    obtain ⟨w11, s11⟩ := w10.pick' [0, 2, 3, 4, 5, 1] 6 rfl rfl rfl
    dsimp only [pk, pks, nth, List.drop] at w11 s11
    obtain rfl := Option.some.inj hp
    exact ⟨_, _, rfl, _, _, _, _, _, rfl, rfl, rfl, rfl, rfl, rfl, w11, (s0.trans (s1.trans (s5.trans (s10.trans s11)))), (cQ.step (s1.trans (s5.trans (s10.trans s11)))), (de.step (s1.trans (s5.trans (s10.trans s11)))), (cV.step (s1.trans (s5.trans (s10.trans s11)))), (dn.step (s1.trans (s5.trans (s10.trans s11)))), (dp.step (s1.trans (s5.trans (s10.trans s11))))⟩
   ·replace hp := bif_f hb hp
    obtain ⟨w12, s12⟩ := w10.pick' [0, 2, 3, 1, 4, 5] 6 rfl rfl rfl
    dsimp only [pk, pks, nth, List.drop] at w12 s12
    obtain ⟨r13, e13, hp⟩ := bind_some' hp
    refine call_ex (dq.P rfl rfl rfl ⟨w12, (cQ.step (s1.trans (s5.trans (s10.trans s12)))), (de.step (s1.trans (s5.trans (s10.trans s12)))), (cV.step (s1.trans (s5.trans (s10.trans s12))))⟩ e13) ?_
    rintro _ H14 ⟨vc, zv, zw, rfl, hl14_0, hl14_1, hl14_2, w14, s14, f14_0, f14_1, f14_2⟩
    obtain ⟨w15, s15⟩ := w14.pick' [0, 1, 2, 4, 5, 3] 6 rfl rfl rfl
    dsimp only [pk, pks, nth, List.drop] at w15 s15
    obtain rfl := Option.some.inj hp
    exact ⟨_, _, rfl, _, _, _, _, _, rfl, hl14_0, hl14_1, hl14_2, rfl, rfl, w15, (s0.trans (s1.trans (s5.trans (s10.trans (s12.trans (s14.trans s15)))))), (f14_0.step s15), (f14_1.step s15), (f14_2.step s15), (dn.step (s1.trans (s5.trans (s10.trans (s12.trans (s14.trans s15)))))), (dp.step (s1.trans (s5.trans (s10.trans (s12.trans (s14.trans s15))))))⟩
def aP.pl61 (F : Nat)  : Nat → Int → Int → List Int → Int → List Int → Int → Int → List Int → Int → Int → List Int → Int → List Int → Bool → Int → Int → Option (Bool × Bool × List Int × List Int × List Int × List Int × List Int × Bool)
 | 0, _, _, _, _, _, _, _, _, _, _, _, _, _, _, _, _ => none
 | k + 1, ay, aj, aD, ap, aG, aq, ao, aE, au, av, aK, aw, aL, ax, gj, ip => (bif (decide (ip < aj)) then ((bif (!ax) then ((aC.p F aj aD gj ip).bind fun r2 => (aC.p F aj aD gj gj).bind fun r7 => (du.p F r2 r7).bind fun r10 => (dv.p F ay aj aD au av aK aw aL ax ip gj r10).bind fun r13 => aP.pl61 F k ay aj r13.1 ap aG aq ao aE au av r13.2.1 aw r13.2.2.1 r13.2.2.2 gj (IntKind.i64.wrap (ip + 1))) else (aP.pj1 F ay aj aD ap aG aq ao aE aK aL ax gj))) else (aP.pj1 F ay aj aD ap aG aq ao aE aK aL ax gj))
termination_by structural n => n
theorem aP.l61_P {F : Nat} {H0 : Hp} {Ri R0 : List Rs} {ay aj aA ap aq ao au av aH aw : Int} {aR bn aM bo bp : ON} {aF aZ aB a_ ba az : Nat} {aS br aN bs bt : Cap} {bQ bR bS bT bU : Bool} {bV bW bX bY bZ b_ ca cb cc cd : List AV}  : ∀ k, aP.S61 H0 Ri R0 ay aj aA ap aq ao au av aH aw aR bn aM bo bp aF aZ aB a_ ba az aS br aN bs bt bQ bR bS bT bU bV bW bX bY bZ b_ ca cb cc cd (aP.l61 F (ar.tw F) (aC.tw F) (du.tw F) (dq.tw F) (dv.tw F) (bi.tw F) (aU.tw F)  k) (aP.pl61 F  k) := by
 intro k
 induction k with
 | zero =>
  intro aD aG aE aK aL cz cA cB cC cD ax gj ip H eg eh ei ek el h0 r hp
  exact nomatch (show (none : Option (Bool × Bool × List Int × List Int × List Int × List Int × List Int × Bool)) = some r from hp)
 | succ k ih =>
  intro aD aG aE aK aL cz cA cB cC cD ax gj ip H eg eh ei ek el h0 r hp
  obtain ⟨w0, s0, cQ, de, cV, dn, dp⟩ := h0
  subst eg
  subst eh
  subst ei
  subst ek
  subst el
  unfold aP.pl61 at hp
  unfold aP.l61
  refine bind_ex (ldI_of (w0.ld (i := 5) rfl rfl)) ?_
  refine bif_ex (fun hb => ?_) (fun hb => ?_)
  ·replace hp := bif_t hb hp
   refine bind_ex (ldB_of (w0.ld (i := 5) rfl rfl)) ?_
   refine bif_ex (fun hb => ?_) (fun hb => ?_)
   ·replace hp := bif_t hb hp
    refine bind_ex (ldI_of (w0.ld (i := 5) rfl rfl)) ?_
    refine bind_ex (ldI_of (w0.ld (i := 5) rfl rfl)) ?_
    refine bind_ex (ldSl_of (w0.ld (i := 5) rfl rfl)) ?_
    have f1 := W.borrow1 (eInt .i64) w0 cQ
    obtain ⟨w1, s1⟩ := w0.right1
    obtain ⟨r2, e2, hp⟩ := bind_some' hp
    refine call_ex (aC.P rfl ⟨w1, f1⟩ e2) ?_
    rintro _ H3 ⟨rfl, w3, s3, _⟩
    obtain ⟨w4, s4⟩ := W.frame1 w0 w3 s3
    refine bind_ex rfl ?_
    refine ifs_ex (W.cons_of (Rn := []) w1 w3 s3) ?_
    refine bind_ex (ldI_of (w4.ld (i := 5) rfl rfl)) ?_
    refine bind_ex (ldI_of (w4.ld (i := 5) rfl rfl)) ?_
    refine bind_ex (ldSl_of (w4.ld (i := 5) rfl rfl)) ?_
    have f6 := W.borrow1 (eInt .i64) w4 (cQ.step s4)
    obtain ⟨w6, s6⟩ := w4.right1
    obtain ⟨r7, e7, hp⟩ := bind_some' hp
    refine call_ex (aC.P rfl ⟨w6, f6⟩ e7) ?_
    rintro _ H8 ⟨rfl, w8, s8, _⟩
    obtain ⟨w9, s9⟩ := W.frame1 w4 w8 s8
    refine bind_ex rfl ?_
    obtain ⟨r10, e10, hp⟩ := bind_some' hp
    refine call_ex (du.P ⟨w9, trivial⟩ e10) ?_
    rintro _ H11 ⟨rfl, w11, s11, _⟩
    refine bind_ex rfl ?_
    obtain ⟨w12, s12⟩ := w11.pick' [0, 3, 4, 5, 1, 2] 6 rfl rfl rfl
    dsimp only [pk, pks, nth, List.drop] at w12 s12
    obtain ⟨r13, e13, hp⟩ := bind_some' hp
    refine call_ex (dv.P rfl rfl rfl ⟨w12, (cQ.step (s4.trans (s9.trans (s11.trans s12)))), (dn.step (s4.trans (s9.trans (s11.trans s12)))), (dp.step (s4.trans (s9.trans (s11.trans s12))))⟩ e13) ?_
    rintro _ H14 ⟨vc, BC, BD, rfl, hl14_0, hl14_1, hl14_2, w14, s14, f14_0, f14_1, f14_2⟩
    obtain ⟨w15, s15⟩ := w14.pick' [0, 4, 5, 1, 2, 3] 6 rfl rfl rfl
    dsimp only [pk, pks, nth, List.drop] at w15 s15
    exact ih hl14_0 rfl rfl hl14_1 hl14_2 ⟨w15, (s0.trans (s4.trans (s9.trans (s11.trans (s12.trans (s14.trans s15)))))), (f14_0.step s15), (de.step (s4.trans (s9.trans (s11.trans (s12.trans (s14.trans s15)))))), (cV.step (s4.trans (s9.trans (s11.trans (s12.trans (s14.trans s15)))))), (f14_1.step s15), (f14_2.step s15)⟩ hp
   ·replace hp := bif_f hb hp
    exact aP.j1_P rfl rfl rfl rfl rfl ⟨w0, s0, cQ, de, cV, dn, dp⟩ hp
  ·replace hp := bif_f hb hp
   exact aP.j1_P rfl rfl rfl rfl rfl ⟨w0, s0, cQ, de, cV, dn, dp⟩ hp
def aP.pj2 (F : Nat)  (ay : Int) (aj : Int) (aD : List Int) (ap : Int) (aG : List Int) (aq : Int) (ao : Int) (aE : List Int) (au : Int) (av : Int) (aK : List Int) (aw : Int) (aL : List Int) (ax : Bool) (mE : Int) : Option (Bool × Bool × List Int × List Int × List Int × List Int × List Int × Bool) := aP.pl61 F F ay aj aD ap aG aq ao aE au av aK aw aL ax mE (IntKind.i64.wrap (mE + 1))
theorem aP.j2_P {F : Nat} {H0 : Hp} {Ri R0 : List Rs} {ay aj aA ap aq ao au av aH aw : Int} {aR bn aM bo bp : ON} {aF aZ aB a_ ba az : Nat} {aS br aN bs bt : Cap} {bQ bR bS bT bU : Bool} {bV bW bX bY bZ b_ ca cb cc cd : List AV}  {aD aG aE aK aL : List Int} {cz cA cB cC cD : List AV} {ax : Bool} {mE : Int} {H : Hp} (eg : aF = aD.length) (eh : aZ = aG.length) (ei : aB = aE.length) (ek : a_ = aK.length) (el : ba = aL.length) (h0 : Out H0 Ri H (Rs.ow bQ ⟨aR, aF, aS⟩ (eInt .i64).z bV cz bW :: Rs.ow bR ⟨bn, aZ, br⟩ (eInt .i64).z bX cA bY :: Rs.ow bS ⟨aM, aB, aN⟩ (eInt .i64).z bZ cB b_ :: Rs.ow bT ⟨bo, a_, bs⟩ (eInt .i64).z ca cC cb :: Rs.ow bU ⟨bp, ba, bt⟩ (eInt .i64).z cc cD cd :: Rs.blk az [.int .i64 ay, .int .i64 aj, .sl ⟨aR, aF, aS⟩, .int .i64 aA, .int .i64 ap, .sl ⟨bn, aZ, br⟩, .int .i64 aq, .int .i64 ao, .sl ⟨aM, aB, aN⟩, .int .i64 au, .int .i64 av, .sl ⟨bo, a_, bs⟩, .int .i64 aH, .int .i64 aw, .sl ⟨bp, ba, bt⟩, .bool ax] :: R0) fun R => CR (eInt .i64) H R cz aD ∧ CR (eInt .i64) H R cA aG ∧ CR (eInt .i64) H R cB aE ∧ CR (eInt .i64) H R cC aK ∧ CR (eInt .i64) H R cD aL) {r : Bool × Bool × List Int × List Int × List Int × List Int × List Int × Bool} (hp : aP.pj2 F  ay aj aD ap aG aq ao aE au av aK aw aL ax mE = some r) : ∃ v H', aP.j2 F (ar.tw F) (aC.tw F) (du.tw F) (dq.tw F) (dv.tw F) (bi.tw F) (aU.tw F)  az 0 mE H = some (v, H') ∧ aP.Q H0 Ri R0 ay aj aA ap aq ao au av aH aw aR bn aM bo bp aF aZ aB a_ ba az aS br aN bs bt bQ bR bS bT bU bV bW bX bY bZ b_ ca cb cc cd r v H' := by
 obtain ⟨w0, s0, cQ, de, cV, dn, dp⟩ := h0
 subst eg
 subst eh
 subst ei
 subst ek
 subst el
 unfold aP.pj2 at hp
 unfold aP.j2
 exact aP.l61_P F rfl rfl rfl rfl rfl ⟨w0, s0, cQ, de, cV, dn, dp⟩ hp
def aP.pl29 (F : Nat)  : Nat → Int → Int → List Int → Int → List Int → Int → Int → List Int → Int → Int → List Int → Int → List Int → Bool → Int → Int → Option (Bool × Bool × List Int × List Int × List Int × List Int × List Int × Bool)
 | 0, _, _, _, _, _, _, _, _, _, _, _, _, _, _, _, _ => none
 | k + 1, ay, aj, aD, ap, aG, aq, ao, aE, au, av, aK, aw, aL, ax, gk, iu => (bif (decide (iu < ay)) then ((bif (!ax) then ((aC.p F aj aD iu gk).bind fun r2 => (aC.p F aj aD gk gk).bind fun r7 => (du.p F r2 r7).bind fun r10 => (dq.p F aj aD ap aG aq ao aE ax iu gk r10).bind fun r13 => aP.pl29 F k ay aj r13.1 ap r13.2.1 aq ao r13.2.2.1 au av aK aw aL r13.2.2.2 gk (IntKind.i64.wrap (iu + 1))) else (aP.pj2 F ay aj aD ap aG aq ao aE au av aK aw aL ax gk))) else (aP.pj2 F ay aj aD ap aG aq ao aE au av aK aw aL ax gk))
termination_by structural n => n
theorem aP.l29_P {F : Nat} {H0 : Hp} {Ri R0 : List Rs} {ay aj aA ap aq ao au av aH aw : Int} {aR bn aM bo bp : ON} {aF aZ aB a_ ba az : Nat} {aS br aN bs bt : Cap} {bQ bR bS bT bU : Bool} {bV bW bX bY bZ b_ ca cb cc cd : List AV}  : ∀ k, aP.S29 H0 Ri R0 ay aj aA ap aq ao au av aH aw aR bn aM bo bp aF aZ aB a_ ba az aS br aN bs bt bQ bR bS bT bU bV bW bX bY bZ b_ ca cb cc cd (aP.l29 F (ar.tw F) (aC.tw F) (du.tw F) (dq.tw F) (dv.tw F) (bi.tw F) (aU.tw F)  k) (aP.pl29 F  k) := by
 intro k
 induction k with
 | zero =>
  intro aD aG aE aK aL cz cA cB cC cD ax gk iu H eg eh ei ek el h0 r hp
  exact nomatch (show (none : Option (Bool × Bool × List Int × List Int × List Int × List Int × List Int × Bool)) = some r from hp)
 | succ k ih =>
  intro aD aG aE aK aL cz cA cB cC cD ax gk iu H eg eh ei ek el h0 r hp
  obtain ⟨w0, s0, cQ, de, cV, dn, dp⟩ := h0
  subst eg
  subst eh
  subst ei
  subst ek
  subst el
  unfold aP.pl29 at hp
  unfold aP.l29
  refine bind_ex (ldI_of (w0.ld (i := 5) rfl rfl)) ?_
  refine bif_ex (fun hb => ?_) (fun hb => ?_)
  ·replace hp := bif_t hb hp
   refine bind_ex (ldB_of (w0.ld (i := 5) rfl rfl)) ?_
   refine bif_ex (fun hb => ?_) (fun hb => ?_)
   ·replace hp := bif_t hb hp
    refine bind_ex (ldI_of (w0.ld (i := 5) rfl rfl)) ?_
    refine bind_ex (ldI_of (w0.ld (i := 5) rfl rfl)) ?_
    refine bind_ex (ldSl_of (w0.ld (i := 5) rfl rfl)) ?_
    have f1 := W.borrow1 (eInt .i64) w0 cQ
    obtain ⟨w1, s1⟩ := w0.right1
    obtain ⟨r2, e2, hp⟩ := bind_some' hp
    refine call_ex (aC.P rfl ⟨w1, f1⟩ e2) ?_
    rintro _ H3 ⟨rfl, w3, s3, _⟩
    obtain ⟨w4, s4⟩ := W.frame1 w0 w3 s3
    refine bind_ex rfl ?_
    refine ifs_ex (W.cons_of (Rn := []) w1 w3 s3) ?_
    refine bind_ex (ldI_of (w4.ld (i := 5) rfl rfl)) ?_
    refine bind_ex (ldI_of (w4.ld (i := 5) rfl rfl)) ?_
    refine bind_ex (ldSl_of (w4.ld (i := 5) rfl rfl)) ?_
    have f6 := W.borrow1 (eInt .i64) w4 (cQ.step s4)
    obtain ⟨w6, s6⟩ := w4.right1
    obtain ⟨r7, e7, hp⟩ := bind_some' hp
    refine call_ex (aC.P rfl ⟨w6, f6⟩ e7) ?_
    rintro _ H8 ⟨rfl, w8, s8, _⟩
    obtain ⟨w9, s9⟩ := W.frame1 w4 w8 s8
    refine bind_ex rfl ?_
    obtain ⟨r10, e10, hp⟩ := bind_some' hp
    refine call_ex (du.P ⟨w9, trivial⟩ e10) ?_
    rintro _ H11 ⟨rfl, w11, s11, _⟩
    refine bind_ex rfl ?_
    obtain ⟨w12, s12⟩ := w11.pick' [0, 1, 2, 5, 3, 4] 6 rfl rfl rfl
    dsimp only [pk, pks, nth, List.drop] at w12 s12
    obtain ⟨r13, e13, hp⟩ := bind_some' hp
    refine call_ex (dq.P rfl rfl rfl ⟨w12, (cQ.step (s4.trans (s9.trans (s11.trans s12)))), (de.step (s4.trans (s9.trans (s11.trans s12)))), (cV.step (s4.trans (s9.trans (s11.trans s12))))⟩ e13) ?_
    rintro _ H14 ⟨vc, zv, zw, rfl, hl14_0, hl14_1, hl14_2, w14, s14, f14_0, f14_1, f14_2⟩
    obtain ⟨w15, s15⟩ := w14.pick' [0, 1, 2, 4, 5, 3] 6 rfl rfl rfl
    dsimp only [pk, pks, nth, List.drop] at w15 s15
    exact ih hl14_0 hl14_1 hl14_2 rfl rfl ⟨w15, (s0.trans (s4.trans (s9.trans (s11.trans (s12.trans (s14.trans s15)))))), (f14_0.step s15), (f14_1.step s15), (f14_2.step s15), (dn.step (s4.trans (s9.trans (s11.trans (s12.trans (s14.trans s15)))))), (dp.step (s4.trans (s9.trans (s11.trans (s12.trans (s14.trans s15))))))⟩ hp
   ·replace hp := bif_f hb hp
    exact aP.j2_P rfl rfl rfl rfl rfl ⟨w0, s0, cQ, de, cV, dn, dp⟩ hp
  ·replace hp := bif_f hb hp
   exact aP.j2_P rfl rfl rfl rfl rfl ⟨w0, s0, cQ, de, cV, dn, dp⟩ hp
def aP.p (F : Nat) (bk : Int) (aX : Int) (dy : List Int) (bb : Int) (fh : List Int) (aY : Int) (aT : Int) (db : List Int) (bc : Int) (bf : Int) (fi : List Int) (bg : Int) (fj : List Int) (ax : Bool) (ae : Int) : Option (Bool × Bool × List Int × List Int × List Int × List Int × List Int × Bool) := (ar.p F bk aX dy bb fh aY aT db bc bf fi bg fj ae).bind fun r1 => (bif (!r1.1) then (some (true, true, r1.2.1, r1.2.2.1, r1.2.2.2.1, r1.2.2.2.2.1, r1.2.2.2.2.2, ax)) else (aP.pl29 F F bk aX r1.2.1 bb r1.2.2.1 aY aT r1.2.2.2.1 bc bf r1.2.2.2.2.1 bg r1.2.2.2.2.2 ax ae (IntKind.i64.wrap (ae + 1))))
theorem aP.P {F : Nat} {bk aX bl bb aY aT bc bf bv bg ae : Int} {cN dW cm dX dY : ON} {bK cZ bA c_ da aa : Nat} {cO dZ cn d_ ea : Cap} {dy fh db fi fj : List Int} {eN fq eO fr ft ax : Bool} {eP eQ ga fu fv gz eR eS gb fw fx gA fy fz gB : List AV} {H : Hp} {R0 : List Rs} (jx : bK = dy.length) (kw : cZ = fh.length) (iR : bA = db.length) (kx : c_ = fi.length) (ky : da = fj.length) (h0 : Inn H (Rs.ow eN ⟨cN, bK, cO⟩ (eInt .i64).z eP ga eQ :: Rs.ow fq ⟨dW, cZ, dZ⟩ (eInt .i64).z fu gz fv :: Rs.ow eO ⟨cm, bA, cn⟩ (eInt .i64).z eR gb eS :: Rs.ow fr ⟨dX, c_, d_⟩ (eInt .i64).z fw gA fx :: Rs.ow ft ⟨dY, da, ea⟩ (eInt .i64).z fy gB fz :: Rs.blk aa [.int .i64 bk, .int .i64 aX, .sl ⟨cN, bK, cO⟩, .int .i64 bl, .int .i64 bb, .sl ⟨dW, cZ, dZ⟩, .int .i64 aY, .int .i64 aT, .sl ⟨cm, bA, cn⟩, .int .i64 bc, .int .i64 bf, .sl ⟨dX, c_, d_⟩, .int .i64 bv, .int .i64 bg, .sl ⟨dY, da, ea⟩, .bool ax] :: R0) fun R => CR (eInt .i64) H R ga dy ∧ CR (eInt .i64) H R gz fh ∧ CR (eInt .i64) H R gb db ∧ CR (eInt .i64) H R gA fi ∧ CR (eInt .i64) H R gB fj) {r : Bool × Bool × List Int × List Int × List Int × List Int × List Int × Bool} (hp : aP.p F bk aX dy bb fh aY aT db bc bf fi bg fj ax ae = some r) : ∃ v H', aP.tw F aa 0 ae H = some (v, H') ∧ aP.Q H (Rs.ow eN ⟨cN, bK, cO⟩ (eInt .i64).z eP ga eQ :: Rs.ow fq ⟨dW, cZ, dZ⟩ (eInt .i64).z fu gz fv :: Rs.ow eO ⟨cm, bA, cn⟩ (eInt .i64).z eR gb eS :: Rs.ow fr ⟨dX, c_, d_⟩ (eInt .i64).z fw gA fx :: Rs.ow ft ⟨dY, da, ea⟩ (eInt .i64).z fy gB fz :: Rs.blk aa [.int .i64 bk, .int .i64 aX, .sl ⟨cN, bK, cO⟩, .int .i64 bl, .int .i64 bb, .sl ⟨dW, cZ, dZ⟩, .int .i64 aY, .int .i64 aT, .sl ⟨cm, bA, cn⟩, .int .i64 bc, .int .i64 bf, .sl ⟨dX, c_, d_⟩, .int .i64 bv, .int .i64 bg, .sl ⟨dY, da, ea⟩, .bool ax] :: R0) R0 bk aX bl bb aY aT bc bf bv bg cN dW cm dX dY bK cZ bA c_ da aa cO dZ cn d_ ea eN fq eO fr ft eP eQ fu fv eR eS fw fx fy fz r v H' := by
 obtain ⟨w0, iI, kk, g_, kl, km⟩ := h0
 subst jx
 subst kw
 subst iR
 subst kx
 subst ky
 unfold aP.p at hp
 unfold aP.tw aP.twX
 have s0 := w0.rf
 obtain ⟨r1, e1, hp⟩ := bind_some' hp
 refine call_ex (ar.P rfl rfl rfl rfl rfl ⟨w0, iI, kk, g_, kl, km⟩ e1) ?_
 rintro _ H2 ⟨zx, zy, zz, zA, zB, rfl, hl2_0, hl2_1, hl2_2, hl2_3, hl2_4, w2, s2, f2_0, f2_1, f2_2, f2_3, f2_4⟩
 refine bind_ex rfl ?_
 refine bif_ex (fun hb => ?_) (fun hb => ?_)
 ·replace hp := bif_t hb hp
  obtain rfl := Option.some.inj hp
  exact ⟨_, _, rfl, _, _, _, _, _, rfl, hl2_0, hl2_1, hl2_2, hl2_3, hl2_4, w2, (s0.trans s2), f2_0, f2_1, f2_2, f2_3, f2_4⟩
 ·replace hp := bif_f hb hp
  exact aP.l29_P F hl2_0 hl2_1 hl2_2 hl2_3 hl2_4 ⟨w2, (s0.trans s2), f2_0, f2_1, f2_2, f2_3, f2_4⟩ hp
def aQ.Q (H0 : Hp) (Ri R0 : List Rs)  (r : Int × Int × List Int × Int × Int × List Int × Int × Int × List Int × Int × Int × List Int × Int × Int × List Int × Bool) (v : AV) (H' : Hp) : Prop := ∃ o2a : ON, ∃ o2n : Nat, ∃ o2c : Cap, ∃ o2k : List AV, ∃ o5a : ON, ∃ o5n : Nat, ∃ o5c : Cap, ∃ o5k : List AV, ∃ o8a : ON, ∃ o8n : Nat, ∃ o8c : Cap, ∃ o8k : List AV, ∃ o11a : ON, ∃ o11n : Nat, ∃ o11c : Cap, ∃ o11k : List AV, ∃ o14a : ON, ∃ o14n : Nat, ∃ o14c : Cap, ∃ o14k : List AV, ∃ ob0 : Nat, v = (.ptr ob0 0) ∧ o2n = (r.2.2.1).length ∧ o5n = (r.2.2.2.2.2.1).length ∧ o8n = (r.2.2.2.2.2.2.2.2.1).length ∧ o11n = (r.2.2.2.2.2.2.2.2.2.2.2.1).length ∧ o14n = (r.2.2.2.2.2.2.2.2.2.2.2.2.2.2.1).length ∧ Out H0 Ri H' (Rs.own ⟨o2a, o2n, o2c⟩ (eInt .i64).z o2k :: Rs.own ⟨o5a, o5n, o5c⟩ (eInt .i64).z o5k :: Rs.own ⟨o8a, o8n, o8c⟩ (eInt .i64).z o8k :: Rs.own ⟨o11a, o11n, o11c⟩ (eInt .i64).z o11k :: Rs.own ⟨o14a, o14n, o14c⟩ (eInt .i64).z o14k :: Rs.blk ob0 [.int .i64 r.1, .int .i64 r.2.1, .sl ⟨o2a, o2n, o2c⟩, .int .i64 r.2.2.2.1, .int .i64 r.2.2.2.2.1, .sl ⟨o5a, o5n, o5c⟩, .int .i64 r.2.2.2.2.2.2.1, .int .i64 r.2.2.2.2.2.2.2.1, .sl ⟨o8a, o8n, o8c⟩, .int .i64 r.2.2.2.2.2.2.2.2.2.1, .int .i64 r.2.2.2.2.2.2.2.2.2.2.1, .sl ⟨o11a, o11n, o11c⟩, .int .i64 r.2.2.2.2.2.2.2.2.2.2.2.2.1, .int .i64 r.2.2.2.2.2.2.2.2.2.2.2.2.2.1, .sl ⟨o14a, o14n, o14c⟩, .bool r.2.2.2.2.2.2.2.2.2.2.2.2.2.2.2] :: R0) fun R => CR (eInt .i64) H' R o2k (r.2.2.1) ∧ CR (eInt .i64) H' R o5k (r.2.2.2.2.2.1) ∧ CR (eInt .i64) H' R o8k (r.2.2.2.2.2.2.2.2.1) ∧ CR (eInt .i64) H' R o11k (r.2.2.2.2.2.2.2.2.2.2.2.1) ∧ CR (eInt .i64) H' R o14k (r.2.2.2.2.2.2.2.2.2.2.2.2.2.2.1)
def aQ.S29 (H0 : Hp) (Ri R0 : List Rs)  (C : Nat → Nat → Nat → Nat → Int → Hp → OA) (pC : Int → Int → Int → Int → List Int → Int → Int → List Int → Int → Int → List Int → Int → Int → List Int → Int → Int → List Int → Bool → Int → Option (Int × Int × List Int × Int × Int × List Int × Int × Int × List Int × Int × Int × List Int × Int × Int × List Int × Bool)) : Prop := ∀ {mI mJ ne ng nh ni nj nk nl nm nn np jI : Int} {qA qB qC qD qE qF : ON} {pe jp pf pg ph pi pj jZ : Nat} {qG qH qI qJ qK qL : Cap} {qM mK mL mM mN mO : List Int} {qN qO qP qQ qR : List AV} {nq : Bool}, ∀ {H : Hp}, pe = qM.length → pf = mK.length → pg = mL.length → ph = mM.length → pi = mN.length → pj = mO.length → (Out H0 Ri H (Rs.blk jp [.int .i64 mI, .int .i64 mJ, .sl ⟨qA, pe, qG⟩] :: Rs.own ⟨qB, pf, qH⟩ (eInt .i64).z qN :: Rs.own ⟨qC, pg, qI⟩ (eInt .i64).z qO :: Rs.own ⟨qD, ph, qJ⟩ (eInt .i64).z qP :: Rs.own ⟨qE, pi, qK⟩ (eInt .i64).z qQ :: Rs.own ⟨qF, pj, qL⟩ (eInt .i64).z qR :: Rs.blk jZ [.int .i64 ne, .int .i64 ng, .sl ⟨qB, pf, qH⟩, .int .i64 nh, .int .i64 ni, .sl ⟨qC, pg, qI⟩, .int .i64 nj, .int .i64 nk, .sl ⟨qD, ph, qJ⟩, .int .i64 nl, .int .i64 nm, .sl ⟨qE, pi, qK⟩, .int .i64 nn, .int .i64 np, .sl ⟨qF, pj, qL⟩, .bool nq] :: R0) fun R => ROs (eInt .i64) H R ⟨qA, pe, qG⟩ qM ∧ CR (eInt .i64) H R qN mK ∧ CR (eInt .i64) H R qO mL ∧ CR (eInt .i64) H R qP mM ∧ CR (eInt .i64) H R qQ mN ∧ CR (eInt .i64) H R qR mO) → ∀ {r : Int × Int × List Int × Int × Int × List Int × Int × Int × List Int × Int × Int × List Int × Int × Int × List Int × Bool}, pC mI mJ ne ng mK nh ni mL nj nk mM nl nm mN nn np mO nq jI = some r → ∃ v H', C jp 0 jZ 0 jI H = some (v, H') ∧ aQ.Q H0 Ri R0  r v H'
def aQ.S938 (H0 : Hp) (Ri R0 : List Rs)  (C : Nat → Nat → Nat → Nat → Int → Bool → Bool → Hp → OA) (pC : Int → Int → Int → Int → List Int → Int → Int → List Int → Int → Int → List Int → Int → Int → List Int → Int → Int → List Int → Bool → Int → Bool → Bool → Option (Int × Int × List Int × Int × Int × List Int × Int × Int × List Int × Int × Int × List Int × Int × Int × List Int × Bool)) : Prop := ∀ {mP mQ lZ l_ mR ma mb mc md mf mS mg gT : Int} {qS qT qU qV qW qX : ON} {pl iJ pm po pp pq pr iK : Nat} {qY qZ q_ ra rb rc : Cap} {rd mh mi mj ml mm : List Int} {rg rh ri rj rk : List AV} {mn jP jH : Bool}, ∀ {H : Hp}, pl = rd.length → pm = mh.length → po = mi.length → pp = mj.length → pq = ml.length → pr = mm.length → (Out H0 Ri H (Rs.blk iJ [.int .i64 mP, .int .i64 mQ, .sl ⟨qS, pl, qY⟩] :: Rs.own ⟨qT, pm, qZ⟩ (eInt .i64).z rg :: Rs.own ⟨qU, po, q_⟩ (eInt .i64).z rh :: Rs.own ⟨qV, pp, ra⟩ (eInt .i64).z ri :: Rs.own ⟨qW, pq, rb⟩ (eInt .i64).z rj :: Rs.own ⟨qX, pr, rc⟩ (eInt .i64).z rk :: Rs.blk iK [.int .i64 lZ, .int .i64 l_, .sl ⟨qT, pm, qZ⟩, .int .i64 mR, .int .i64 ma, .sl ⟨qU, po, q_⟩, .int .i64 mb, .int .i64 mc, .sl ⟨qV, pp, ra⟩, .int .i64 md, .int .i64 mf, .sl ⟨qW, pq, rb⟩, .int .i64 mS, .int .i64 mg, .sl ⟨qX, pr, rc⟩, .bool mn] :: R0) fun R => ROs (eInt .i64) H R ⟨qS, pl, qY⟩ rd ∧ CR (eInt .i64) H R rg mh ∧ CR (eInt .i64) H R rh mi ∧ CR (eInt .i64) H R ri mj ∧ CR (eInt .i64) H R rj ml ∧ CR (eInt .i64) H R rk mm) → ∀ {r : Int × Int × List Int × Int × Int × List Int × Int × Int × List Int × Int × Int × List Int × Int × Int × List Int × Bool}, pC mP mQ lZ l_ mh mR ma mi mb mc mj md mf ml mS mg mm mn gT jP jH = some r → ∃ v H', C iJ 0 iK 0 gT jP jH H = some (v, H') ∧ aQ.Q H0 Ri R0  r v H'
def aQ.pj3 (F : Nat) (ep : Int → Int → Int → Int → List Int → Int → Int → List Int → Int → Int → List Int → Int → Int → List Int → Int → Int → List Int → Bool → Int → Option (Int × Int × List Int × Int × Int × List Int × Int × Int × List Int × Int × Int × List Int × Int × Int × List Int × Bool)) (rl : Int) (rm : Int) (rn : Int) (ro : Int) (ps : List Int) (rp : Int) (rq : Int) (pt : List Int) (rr : Int) (rs : Int) (pu : List Int) (rt : Int) (ru : Int) (pv : List Int) (rv : Int) (rx : Int) (pw : List Int) (ry : Bool) (nV : Int) : Option (Int × Int × List Int × Int × Int × List Int × Int × Int × List Int × Int × Int × List Int × Int × Int × List Int × Bool) := ep rl rm rn ro ps rp rq pt rr rs pu rt ru pv rv rx pw ry (IntKind.i64.wrap (nV + 1))
theorem aQ.j3_P {F : Nat} {H0 : Hp} {Ri R0 : List Rs}  {C29_ : Nat → Nat → Nat → Nat → Int → Hp → OA} {ep : Int → Int → Int → Int → List Int → Int → Int → List Int → Int → Int → List Int → Int → Int → List Int → Int → Int → List Int → Bool → Int → Option (Int × Int × List Int × Int × Int × List Int × Int × Int × List Int × Int × Int × List Int × Int × Int × List Int × Bool)} (hC29 : aQ.S29 H0 Ri R0  C29_ ep) {rl rm rn ro rp rq rr rs rt ru rv rx nV : Int} {vd ve vf vg vh vi : ON} {tu qg tv tx tz tA tB qh : Nat} {vj vk vl vm vn vo : Cap} {vp ps pt pu pv pw : List Int} {vq vr vs vt vu : List AV} {ry : Bool} {H : Hp} (zC : tu = vp.length) (zD : tv = ps.length) (zE : tx = pt.length) (zF : tz = pu.length) (zG : tA = pv.length) (zH : tB = pw.length) (h0 : Out H0 Ri H (Rs.blk qg [.int .i64 rl, .int .i64 rm, .sl ⟨vd, tu, vj⟩] :: Rs.own ⟨ve, tv, vk⟩ (eInt .i64).z vq :: Rs.own ⟨vf, tx, vl⟩ (eInt .i64).z vr :: Rs.own ⟨vg, tz, vm⟩ (eInt .i64).z vs :: Rs.own ⟨vh, tA, vn⟩ (eInt .i64).z vt :: Rs.own ⟨vi, tB, vo⟩ (eInt .i64).z vu :: Rs.blk qh [.int .i64 rn, .int .i64 ro, .sl ⟨ve, tv, vk⟩, .int .i64 rp, .int .i64 rq, .sl ⟨vf, tx, vl⟩, .int .i64 rr, .int .i64 rs, .sl ⟨vg, tz, vm⟩, .int .i64 rt, .int .i64 ru, .sl ⟨vh, tA, vn⟩, .int .i64 rv, .int .i64 rx, .sl ⟨vi, tB, vo⟩, .bool ry] :: R0) fun R => ROs (eInt .i64) H R ⟨vd, tu, vj⟩ vp ∧ CR (eInt .i64) H R vq ps ∧ CR (eInt .i64) H R vr pt ∧ CR (eInt .i64) H R vs pu ∧ CR (eInt .i64) H R vt pv ∧ CR (eInt .i64) H R vu pw) {r : Int × Int × List Int × Int × Int × List Int × Int × Int × List Int × Int × Int × List Int × Int × Int × List Int × Bool} (hp : aQ.pj3 F ep rl rm rn ro ps rp rq pt rr rs pu rt ru pv rv rx pw ry nV = some r) : ∃ v H', aQ.j3 F (bL.tw F) (aP.tw F) C29_ qg 0 qh 0 nV H = some (v, H') ∧ aQ.Q H0 Ri R0  r v H' := by
 obtain ⟨w0, s0, zI, zJ, zK, zL, zM, zN⟩ := h0
 subst zC
 subst zD
 subst zE
 subst zF
 subst zG
 subst zH
 unfold aQ.pj3 at hp
 unfold aQ.j3
 exact hC29 rfl rfl rfl rfl rfl rfl ⟨w0, s0, zI, zJ, zK, zL, zM, zN⟩ hp
def aQ.pj4 (F : Nat) (ep : Int → Int → Int → Int → List Int → Int → Int → List Int → Int → Int → List Int → Int → Int → List Int → Int → Int → List Int → Bool → Int → Option (Int × Int × List Int × Int × Int × List Int × Int × Int × List Int × Int × Int × List Int × Int × Int × List Int × Bool)) (rz : Int) (rA : Int) (oI : Int) (oJ : Int) (nr : List Int) (oK : Int) (oL : Int) (ns : List Int) (oM : Int) (oN : Int) (nt : List Int) (oO : Int) (oP : Int) (nu : List Int) (oQ : Int) (oR : Int) (nv : List Int) (nw : Bool) (mF : Int) (nW : Bool) : Option (Int × Int × List Int × Int × Int × List Int × Int × Int × List Int × Int × Int × List Int × Int × Int × List Int × Bool) := (bif nW then (some (oI, oJ, nr, oK, oL, ns, oM, oN, nt, oO, oP, nu, oQ, oR, nv, nw)) else ((bif nw then (some (oI, oJ, nr, oK, oL, ns, oM, oN, nt, oO, oP, nu, oQ, oR, nv, nw)) else (aQ.pj3 F ep rz rA oI oJ nr oK oL ns oM oN nt oO oP nu oQ oR nv nw mF))))
theorem aQ.j4_P {F : Nat} {H0 : Hp} {Ri R0 : List Rs}  {C29_ : Nat → Nat → Nat → Nat → Int → Hp → OA} {ep : Int → Int → Int → Int → List Int → Int → Int → List Int → Int → Int → List Int → Int → Int → List Int → Int → Int → List Int → Bool → Int → Option (Int × Int × List Int × Int × Int × List Int × Int × Int × List Int × Int × Int × List Int × Int × Int × List Int × Bool)} (hC29 : aQ.S29 H0 Ri R0  C29_ ep) {rz rA oI oJ oK oL oM oN oO oP oQ oR mF : Int} {vv vw vx vy vz vA : ON} {tC qi tD tE tF tG tH na : Nat} {vB vC vD vE vF vG : Cap} {vH nr ns nt nu nv : List Int} {vI vJ vK vL vM : List AV} {nw nW : Bool} {H : Hp} (zO : tC = vH.length) (zP : tD = nr.length) (zQ : tE = ns.length) (zR : tF = nt.length) (zS : tG = nu.length) (zT : tH = nv.length) (h0 : Out H0 Ri H (Rs.blk qi [.int .i64 rz, .int .i64 rA, .sl ⟨vv, tC, vB⟩] :: Rs.own ⟨vw, tD, vC⟩ (eInt .i64).z vI :: Rs.own ⟨vx, tE, vD⟩ (eInt .i64).z vJ :: Rs.own ⟨vy, tF, vE⟩ (eInt .i64).z vK :: Rs.own ⟨vz, tG, vF⟩ (eInt .i64).z vL :: Rs.own ⟨vA, tH, vG⟩ (eInt .i64).z vM :: Rs.blk na [.int .i64 oI, .int .i64 oJ, .sl ⟨vw, tD, vC⟩, .int .i64 oK, .int .i64 oL, .sl ⟨vx, tE, vD⟩, .int .i64 oM, .int .i64 oN, .sl ⟨vy, tF, vE⟩, .int .i64 oO, .int .i64 oP, .sl ⟨vz, tG, vF⟩, .int .i64 oQ, .int .i64 oR, .sl ⟨vA, tH, vG⟩, .bool nw] :: R0) fun R => ROs (eInt .i64) H R ⟨vv, tC, vB⟩ vH ∧ CR (eInt .i64) H R vI nr ∧ CR (eInt .i64) H R vJ ns ∧ CR (eInt .i64) H R vK nt ∧ CR (eInt .i64) H R vL nu ∧ CR (eInt .i64) H R vM nv) {r : Int × Int × List Int × Int × Int × List Int × Int × Int × List Int × Int × Int × List Int × Int × Int × List Int × Bool} (hp : aQ.pj4 F ep rz rA oI oJ nr oK oL ns oM oN nt oO oP nu oQ oR nv nw mF nW = some r) : ∃ v H', aQ.j4 F (bL.tw F) (aP.tw F) C29_ qi 0 na 0 mF nW H = some (v, H') ∧ aQ.Q H0 Ri R0  r v H' := by
 obtain ⟨w0, s0, zU, tI, tJ, tK, tL, tM⟩ := h0
 subst zO
 subst zP
 subst zQ
 subst zR
 subst zS
 subst zT
 unfold aQ.pj4 at hp
 unfold aQ.j4
 refine bif_ex (fun hb => ?_) (fun hb => ?_)
 ·replace hp := bif_t hb hp
  obtain ⟨w1, s1⟩ := w0.pick' [1, 2, 3, 4, 5, 6] 7 rfl rfl rfl
  dsimp only [pk, pks, nth, List.drop] at w1 s1
  obtain rfl := Option.some.inj hp
  exact ⟨_, _, rfl, _, _, _, _, _, _, _, _, _, _, _, _, _, _, _, _, _, _, _, _, _, rfl, rfl, rfl, rfl, rfl, rfl, w1, (s0.trans s1), (tI.step s1), (tJ.step s1), (tK.step s1), (tL.step s1), (tM.step s1)⟩
 ·replace hp := bif_f hb hp
  refine bind_ex (ldB_of (w0.ld (i := 6) rfl rfl)) ?_
  refine bif_ex (fun hb => ?_) (fun hb => ?_)
  ·replace hp := bif_t hb hp
   obtain ⟨w2, s2⟩ := w0.pick' [1, 2, 3, 4, 5, 6] 7 rfl rfl rfl
   dsimp only [pk, pks, nth, List.drop] at w2 s2
   obtain rfl := Option.some.inj hp
   exact ⟨_, _, rfl, _, _, _, _, _, _, _, _, _, _, _, _, _, _, _, _, _, _, _, _, _, rfl, rfl, rfl, rfl, rfl, rfl, w2, (s0.trans s2), (tI.step s2), (tJ.step s2), (tK.step s2), (tL.step s2), (tM.step s2)⟩
  ·replace hp := bif_f hb hp
   exact aQ.j3_P (@hC29) rfl rfl rfl rfl rfl rfl ⟨w0, s0, zU, tI, tJ, tK, tL, tM⟩ hp
def aQ.pl938 (F : Nat) (ep : Int → Int → Int → Int → List Int → Int → Int → List Int → Int → Int → List Int → Int → Int → List Int → Int → Int → List Int → Bool → Int → Option (Int × Int × List Int × Int × Int × List Int × Int × Int × List Int × Int × Int × List Int × Int × Int × List Int × Bool)) : Nat → Int → Int → Int → Int → List Int → Int → Int → List Int → Int → Int → List Int → Int → Int → List Int → Int → Int → List Int → Bool → Int → Bool → Bool → Option (Int × Int × List Int × Int × Int × List Int × Int × Int × List Int × Int × Int × List Int × Int × Int × List Int × Bool)
 | 0, _, _, _, _, _, _, _, _, _, _, _, _, _, _, _, _, _, _, _, _, _ => none
 | k + 1, mP, mQ, lZ, l_, mh, mR, ma, mi, mb, mc, mj, md, mf, ml, mS, mg, mm, mn, gT, jP, jH => (bif (!jP) then ((bif (!mn) then ((aP.p F lZ l_ mh ma mi mb mc mj md mf ml mg mm mn gT).bind fun r2 => aQ.pl938 F ep k mP mQ lZ l_ r2.2.2.1 mR ma r2.2.2.2.1 mb mc r2.2.2.2.2.1 md mf r2.2.2.2.2.2.1 mS mg r2.2.2.2.2.2.2.1 r2.2.2.2.2.2.2.2 gT r2.1 r2.2.1) else (aQ.pj4 F ep mP mQ lZ l_ mh mR ma mi mb mc mj md mf ml mS mg mm mn gT jH))) else (aQ.pj4 F ep mP mQ lZ l_ mh mR ma mi mb mc mj md mf ml mS mg mm mn gT jH))
termination_by structural n => n
theorem aQ.l938_P {F : Nat} {H0 : Hp} {Ri R0 : List Rs}  {C29_ : Nat → Nat → Nat → Nat → Int → Hp → OA} {ep : Int → Int → Int → Int → List Int → Int → Int → List Int → Int → Int → List Int → Int → Int → List Int → Int → Int → List Int → Bool → Int → Option (Int × Int × List Int × Int × Int × List Int × Int × Int × List Int × Int × Int × List Int × Int × Int × List Int × Bool)} (hC29 : aQ.S29 H0 Ri R0  C29_ ep) : ∀ k, aQ.S938 H0 Ri R0  (aQ.l938 F (bL.tw F) (aP.tw F) C29_ k) (aQ.pl938 F ep k) := by
 intro k
 induction k with
 | zero =>
  intro mP mQ lZ l_ mR ma mb mc md mf mS mg gT qS qT qU qV qW qX pl iJ pm po pp pq pr iK qY qZ q_ ra rb rc rd mh mi mj ml mm rg rh ri rj rk mn jP jH H vN vO vP vQ vR vS h0 r hp
  exact nomatch (show (none : Option (Int × Int × List Int × Int × Int × List Int × Int × Int × List Int × Int × Int × List Int × Int × Int × List Int × Bool)) = some r from hp)
 | succ k ih =>
  intro mP mQ lZ l_ mR ma mb mc md mf mS mg gT qS qT qU qV qW qX pl iJ pm po pp pq pr iK qY qZ q_ ra rb rc rd mh mi mj ml mm rg rh ri rj rk mn jP jH H vN vO vP vQ vR vS h0 r hp
  obtain ⟨w0, s0, tN, tO, tP, tQ, tR, tS⟩ := h0
  subst vN
  subst vO
  subst vP
  subst vQ
  subst vR
  subst vS
  unfold aQ.pl938 at hp
  unfold aQ.l938
  refine bif_ex (fun hb => ?_) (fun hb => ?_)
  ·replace hp := bif_t hb hp
   refine bind_ex (ldB_of (w0.ld (i := 6) rfl rfl)) ?_
   refine bif_ex (fun hb => ?_) (fun hb => ?_)
   ·replace hp := bif_t hb hp
    obtain ⟨w1, s1⟩ := w0.pick' [1, 2, 3, 4, 5, 6, 0] 7 rfl rfl rfl
    dsimp only [pk, pks, nth, List.drop] at w1 s1
    obtain ⟨r2, e2, hp⟩ := bind_some' hp
    refine call_ex (aP.P rfl rfl rfl rfl rfl ⟨w1, (tO.step s1), (tP.step s1), (tQ.step s1), (tR.step s1), (tS.step s1)⟩ e2) ?_
    rintro _ H3 ⟨BE, BF, BG, BH, BI, rfl, hl3_0, hl3_1, hl3_2, hl3_3, hl3_4, w3, s3, f3_0, f3_1, f3_2, f3_3, f3_4⟩
    refine bind_ex rfl ?_
    refine bind_ex rfl ?_
    refine bind_ex rfl ?_
    refine bind_ex rfl ?_
    refine bind_ex rfl ?_
    obtain ⟨w4, s4⟩ := w3.pick' [6, 0, 1, 2, 3, 4, 5] 7 rfl rfl rfl
    dsimp only [pk, pks, nth, List.drop] at w4 s4
    exact ih rfl hl3_0 hl3_1 hl3_2 hl3_3 hl3_4 ⟨w4, (s0.trans (s1.trans (s3.trans s4))), (tN.step (s1.trans (s3.trans s4))), (f3_0.step s4), (f3_1.step s4), (f3_2.step s4), (f3_3.step s4), (f3_4.step s4)⟩ hp
   ·replace hp := bif_f hb hp
    exact aQ.j4_P (@hC29) rfl rfl rfl rfl rfl rfl ⟨w0, s0, tN, tO, tP, tQ, tR, tS⟩ hp
  ·replace hp := bif_f hb hp
   exact aQ.j4_P (@hC29) rfl rfl rfl rfl rfl rfl ⟨w0, s0, tN, tO, tP, tQ, tR, tS⟩ hp
def aQ.pl29 (F : Nat)  : Nat → Int → Int → Int → Int → List Int → Int → Int → List Int → Int → Int → List Int → Int → Int → List Int → Int → Int → List Int → Bool → Int → Option (Int × Int × List Int × Int × Int × List Int × Int × Int × List Int × Int × Int × List Int × Int × Int × List Int × Bool)
 | 0, _, _, _, _, _, _, _, _, _, _, _, _, _, _, _, _, _, _, _ => none
 | k + 1, mI, mJ, ne, ng, mK, nh, ni, mL, nj, nk, mM, nl, nm, mN, nn, np, mO, nq, jI => (bif (decide (jI < (if mJ < mI then mJ else mI))) then (aQ.pl938 F (aQ.pl29 F k) F mI mJ ne ng mK nh ni mL nj nk mM nl nm mN nn np mO nq jI false false) else (some (ne, ng, mK, nh, ni, mL, nj, nk, mM, nl, nm, mN, nn, np, mO, nq)))
termination_by structural n => n
theorem aQ.l29_P {F : Nat} {H0 : Hp} {Ri R0 : List Rs}   : ∀ k, aQ.S29 H0 Ri R0  (aQ.l29 F (bL.tw F) (aP.tw F)  k) (aQ.pl29 F  k) := by
 intro k
 induction k with
 | zero =>
  intro mI mJ ne ng nh ni nj nk nl nm nn np jI qA qB qC qD qE qF pe jp pf pg ph pi pj jZ qG qH qI qJ qK qL qM mK mL mM mN mO qN qO qP qQ qR nq H vT vU vV vW vX vY h0 r hp
  exact nomatch (show (none : Option (Int × Int × List Int × Int × Int × List Int × Int × Int × List Int × Int × Int × List Int × Int × Int × List Int × Bool)) = some r from hp)
 | succ k ih =>
  intro mI mJ ne ng nh ni nj nk nl nm nn np jI qA qB qC qD qE qF pe jp pf pg ph pi pj jZ qG qH qI qJ qK qL qM mK mL mM mN mO qN qO qP qQ qR nq H vT vU vV vW vX vY h0 r hp
  obtain ⟨w0, s0, zV, vZ, v_, wa, wb, wc⟩ := h0
  subst vT
  subst vU
  subst vV
  subst vW
  subst vX
  subst vY
  unfold aQ.pl29 at hp
  unfold aQ.l29
  refine bind_ex (ldI_of (w0.ld (i := 0) rfl rfl)) ?_
  refine bind_ex (ldI_of (w0.ld (i := 0) rfl rfl)) ?_
  refine bif_ex (fun hb => ?_) (fun hb => ?_)
  ·replace hp := bif_t hb hp
   exact aQ.l938_P (@ih) F rfl rfl rfl rfl rfl rfl ⟨w0, s0, zV, vZ, v_, wa, wb, wc⟩ hp
  ·replace hp := bif_f hb hp
   obtain ⟨w1, s1⟩ := w0.pick' [1, 2, 3, 4, 5, 6] 7 rfl rfl rfl
   dsimp only [pk, pks, nth, List.drop] at w1 s1
   obtain rfl := Option.some.inj hp
   exact ⟨_, _, rfl, _, _, _, _, _, _, _, _, _, _, _, _, _, _, _, _, _, _, _, _, _, rfl, rfl, rfl, rfl, rfl, rfl, w1, (s0.trans s1), (vZ.step s1), (v_.step s1), (wa.step s1), (wb.step s1), (wc.step s1)⟩
def aQ.p (F : Nat) (aa : Int) (ac : Int) (bj : List Int) : Option (Int × Int × List Int × Int × Int × List Int × Int × Int × List Int × Int × Int × List Int × Int × Int × List Int × Bool) := (apn ([] : List Int) bj).bind fun l4 => (bL.p F aa).bind fun r7 => (bL.p F aa).bind fun r10 => (bL.p F ac).bind fun r13 => (bL.p F ac).bind fun r16 => aQ.pl29 F F aa ac aa ac l4 r7.1 r7.2.1 r7.2.2 r10.1 r10.2.1 r10.2.2 r13.1 r13.2.1 r13.2.2 r16.1 r16.2.1 r16.2.2 false 0
theorem aQ.P {F : Nat} {aa ac : Int} {cT : ON} {bJ : Nat} {cU : Cap} {bj : List Int} {H : Hp} {R0 : List Rs} (fp : bJ = bj.length) (h0 : Inn H R0 fun R => ROs (eInt .i64) H R ⟨cT, bJ, cU⟩ bj) {r : Int × Int × List Int × Int × Int × List Int × Int × Int × List Int × Int × Int × List Int × Int × Int × List Int × Bool} (hp : aQ.p F aa ac bj = some r) : ∃ v H', aQ.tw F aa ac ⟨cT, bJ, cU⟩ H = some (v, H') ∧ aQ.Q H R0 R0  r v H' := by
 obtain ⟨w0, eI⟩ := h0
 subst fp
 unfold aQ.p at hp
 unfold aQ.tw aQ.twX
 have s0 := w0.rf
 refine new_k w0 fun H1 w1 s1 => ?_
 refine bind_ex (ldI_of (w1.ld (i := 0) rfl rfl)) ?_
 refine bind_ex (ldI_of (w1.ld (i := 0) rfl rfl)) ?_
 refine newS_k (eInt .i64) w1 (n := 0) (l := ([] : List Int)) rfl CR.empty rfl fun H2 w2 s2 c2 => ?_
 refine bind_ex (ldSl_of (w2.ld (i := 1) rfl rfl)) ?_
 obtain ⟨x3, h3, c3⟩ := (eI.step (s1.trans s2)).row rfl
 refine bind_ex h3 ?_
 obtain ⟨l4, e4, hp⟩ := bind_some' hp
 refine app_k (eInt .i64) w2 (i := 0) rfl rfl c2 c3 rfl rfl e4 fun a5 d5 H5 w5 s5 c5 x5 => ?_
 dsimp only [List.set] at w5 s5 c5
 refine ifs_ex (x5 ⟨_, rfl⟩) ?_
 refine bind_ex (ldI_of (w5.ld (i := 1) rfl rfl)) ?_
 obtain ⟨r7, e7, hp⟩ := bind_some' hp
 refine call_ex (bL.P ⟨w5, trivial⟩ e7) ?_
 rintro _ H8 ⟨o2a_8, o2n_8, o2c_8, o2k_8, rfl, rfl, w8, s8, f8_0⟩
 refine bind_ex rfl ?_
 refine bind_ex rfl ?_
 refine bind_ex rfl ?_
 refine bind_ex rfl ?_
 refine bind_ex rfl ?_
 refine bind_ex rfl ?_
 refine bind_ex rfl ?_
 refine ifs_ex (W.cons_of (Rn := [_]) w5 w8 s8) ?_
 refine bind_ex (ldI_of (w8.ld (i := 2) rfl rfl)) ?_
 obtain ⟨r10, e10, hp⟩ := bind_some' hp
 refine call_ex (bL.P ⟨w8, trivial⟩ e10) ?_
 rintro _ H11 ⟨o2a_11, o2n_11, o2c_11, o2k_11, rfl, rfl, w11, s11, f11_0⟩
 refine bind_ex rfl ?_
 refine bind_ex rfl ?_
 refine bind_ex rfl ?_
 refine bind_ex rfl ?_
 refine bind_ex rfl ?_
 refine bind_ex rfl ?_
 refine bind_ex rfl ?_
 refine ifs_ex (W.cons_of (Rn := [_]) w8 w11 s11) ?_
 refine bind_ex (ldI_of (w11.ld (i := 3) rfl rfl)) ?_
 obtain ⟨r13, e13, hp⟩ := bind_some' hp
 refine call_ex (bL.P ⟨w11, trivial⟩ e13) ?_
 rintro _ H14 ⟨o2a_14, o2n_14, o2c_14, o2k_14, rfl, rfl, w14, s14, f14_0⟩
 refine bind_ex rfl ?_
 refine bind_ex rfl ?_
 refine bind_ex rfl ?_
 refine bind_ex rfl ?_
 refine bind_ex rfl ?_
 refine bind_ex rfl ?_
 refine bind_ex rfl ?_
 refine ifs_ex (W.cons_of (Rn := [_]) w11 w14 s14) ?_
 refine bind_ex (ldI_of (w14.ld (i := 4) rfl rfl)) ?_
 obtain ⟨r16, e16, hp⟩ := bind_some' hp
 refine call_ex (bL.P ⟨w14, trivial⟩ e16) ?_
 rintro _ H17 ⟨o2a_17, o2n_17, o2c_17, o2k_17, rfl, rfl, w17, s17, f17_0⟩
 refine bind_ex rfl ?_
 refine bind_ex rfl ?_
 refine bind_ex rfl ?_
 refine bind_ex rfl ?_
 refine bind_ex rfl ?_
 refine bind_ex rfl ?_
 refine bind_ex rfl ?_
 refine ifs_ex (W.cons_of (Rn := [_]) w14 w17 s17) ?_
 refine new_k w17 fun H19 w19 s19 => ?_
 obtain ⟨w20, s20⟩ := w19.pick' [6, 5, 4, 3, 2, 1, 0] 7 rfl rfl rfl
 dsimp only [pk, pks, nth, List.drop] at w20 s20
 exact aQ.l29_P F rfl rfl rfl rfl rfl rfl ⟨w20, (s0.trans (s1.trans (s2.trans (s5.trans (s8.trans (s11.trans (s14.trans (s17.trans (s19.trans s20))))))))), (eI.step (s1.trans (s2.trans (s5.trans (s8.trans (s11.trans (s14.trans (s17.trans (s19.trans s20))))))))), (c5.step (s8.trans (s11.trans (s14.trans (s17.trans (s19.trans s20)))))), (f8_0.step (s11.trans (s14.trans (s17.trans (s19.trans s20))))), (f11_0.step (s14.trans (s17.trans (s19.trans s20)))), (f14_0.step (s17.trans (s19.trans s20))), (f17_0.step (s19.trans s20))⟩ hp
def bm.Q (H0 : Hp) (Ri R0 : List Rs)  (r : List Int × Bool) (v : AV) (H' : Hp) : Prop := ∃ o0a : ON, ∃ o0n : Nat, ∃ o0c : Cap, ∃ o0k : List AV, v = (.tup [(.sl ⟨o0a, o0n, o0c⟩), (.bool r.2)]) ∧ o0n = (r.1).length ∧ Out H0 Ri H' (Rs.own ⟨o0a, o0n, o0c⟩ (eInt .i64).z o0k :: R0) fun R => CR (eInt .i64) H' R o0k (r.1)
def bm.S61 (H0 : Hp) (Ri R0 : List Rs)  (C : Nat → Nat → Nat → Nat → Sl → Int → Hp → OA) (pC : Int → Int → Int → List Int → Bool → List Int → Int → Option (List Int × Bool)) : Prop := ∀ {mo mp tT mT tU tV tW tX tY tZ t_ ua eM : Int} {rB rC rD rE rF rG rH : ON} {px ja py pz pA pB pE dl pF : Nat} {rI rJ rK rL rM rN rO : Cap} {rP mq rQ rR rS rT lF : List Int} {rU rV rW rX rY rZ : List AV} {lG : Bool}, ∀ {H : Hp}, px = rP.length → py = mq.length → pz = rQ.length → pA = rR.length → pB = rS.length → pE = rT.length → pF = lF.length → (Out H0 Ri H (Rs.blk ja [.int .i64 mo, .int .i64 mp, .sl ⟨rB, px, rI⟩] :: Rs.own ⟨rC, py, rJ⟩ (eInt .i64).z rU :: Rs.own ⟨rD, pz, rK⟩ (eInt .i64).z rV :: Rs.own ⟨rE, pA, rL⟩ (eInt .i64).z rW :: Rs.own ⟨rF, pB, rM⟩ (eInt .i64).z rX :: Rs.own ⟨rG, pE, rN⟩ (eInt .i64).z rY :: Rs.blk dl [.int .i64 tT, .int .i64 mT, .sl ⟨rC, py, rJ⟩, .int .i64 tU, .int .i64 tV, .sl ⟨rD, pz, rK⟩, .int .i64 tW, .int .i64 tX, .sl ⟨rE, pA, rL⟩, .int .i64 tY, .int .i64 tZ, .sl ⟨rF, pB, rM⟩, .int .i64 t_, .int .i64 ua, .sl ⟨rG, pE, rN⟩, .bool lG] :: Rs.own ⟨rH, pF, rO⟩ (eInt .i64).z rZ :: R0) fun R => ROs (eInt .i64) H R ⟨rB, px, rI⟩ rP ∧ CR (eInt .i64) H R rU mq ∧ CR (eInt .i64) H R rV rQ ∧ CR (eInt .i64) H R rW rR ∧ CR (eInt .i64) H R rX rS ∧ CR (eInt .i64) H R rY rT ∧ CR (eInt .i64) H R rZ lF) → ∀ {r : List Int × Bool}, pC mo mp mT mq lG lF eM = some r → ∃ v H', C ja 0 dl 0 ⟨rH, pF, rO⟩ eM H = some (v, H') ∧ bm.Q H0 Ri R0  r v H'
def bm.pj3 (F : Nat) (r_ : Int → Int → Int → List Int → Bool → List Int → Int → Option (List Int × Bool)) (sa : Int) (sb : Int) (se : Int) (pG : List Int) (sf : Bool) (pH : List Int) (nX : Int) : Option (List Int × Bool) := r_ sa sb se pG sf pH (IntKind.i64.wrap (nX + 1))
theorem bm.j3_P {F : Nat} {H0 : Hp} {Ri R0 : List Rs}  {C61_ : Nat → Nat → Nat → Nat → Sl → Int → Hp → OA} {r_ : Int → Int → Int → List Int → Bool → List Int → Int → Option (List Int × Bool)} (hC61 : bm.S61 H0 Ri R0  C61_ r_) {sa sb zW se zX zY zZ z_ Aa Ab Ac Ad nX : Int} {wd wg wh wi wj wk wl : ON} {ub ql uc ud ue uf ug qm uh : Nat} {wm wn wo wp wq wr ws : Cap} {wt pG wu wv ww wx pH : List Int} {wy wz wA wB wC wD : List AV} {sf : Bool} {H : Hp} (Ae : ub = wt.length) (Af : uc = pG.length) (Ag : ud = wu.length) (Ah : ue = wv.length) (Ai : uf = ww.length) (Aj : ug = wx.length) (Ak : uh = pH.length) (h0 : Out H0 Ri H (Rs.blk ql [.int .i64 sa, .int .i64 sb, .sl ⟨wd, ub, wm⟩] :: Rs.own ⟨wg, uc, wn⟩ (eInt .i64).z wy :: Rs.own ⟨wh, ud, wo⟩ (eInt .i64).z wz :: Rs.own ⟨wi, ue, wp⟩ (eInt .i64).z wA :: Rs.own ⟨wj, uf, wq⟩ (eInt .i64).z wB :: Rs.own ⟨wk, ug, wr⟩ (eInt .i64).z wC :: Rs.blk qm [.int .i64 zW, .int .i64 se, .sl ⟨wg, uc, wn⟩, .int .i64 zX, .int .i64 zY, .sl ⟨wh, ud, wo⟩, .int .i64 zZ, .int .i64 z_, .sl ⟨wi, ue, wp⟩, .int .i64 Aa, .int .i64 Ab, .sl ⟨wj, uf, wq⟩, .int .i64 Ac, .int .i64 Ad, .sl ⟨wk, ug, wr⟩, .bool sf] :: Rs.own ⟨wl, uh, ws⟩ (eInt .i64).z wD :: R0) fun R => ROs (eInt .i64) H R ⟨wd, ub, wm⟩ wt ∧ CR (eInt .i64) H R wy pG ∧ CR (eInt .i64) H R wz wu ∧ CR (eInt .i64) H R wA wv ∧ CR (eInt .i64) H R wB ww ∧ CR (eInt .i64) H R wC wx ∧ CR (eInt .i64) H R wD pH) {r : List Int × Bool} (hp : bm.pj3 F r_ sa sb se pG sf pH nX = some r) : ∃ v H', bm.j3 F (aQ.tw F) (aC.tw F) C61_ ql 0 qm 0 ⟨wl, uh, ws⟩ nX H = some (v, H') ∧ bm.Q H0 Ri R0  r v H' := by
 obtain ⟨w0, s0, Al, Am, An, Ao, Ap, Aq, Ar⟩ := h0
 subst Ae
 subst Af
 subst Ag
 subst Ah
 subst Ai
 subst Aj
 subst Ak
 unfold bm.pj3 at hp
 unfold bm.j3
 exact hC61 rfl rfl rfl rfl rfl rfl rfl ⟨w0, s0, Al, Am, An, Ao, Ap, Aq, Ar⟩ hp
def bm.pj2 (F : Nat)  (sg : Bool) (pI : List Int) : Option (List Int × Bool) := some (pI, (!sg))
theorem bm.j2_P {F : Nat} {H0 : Hp} {Ri R0 : List Rs}   {As At Au Av Aw Ax Ay Az AA AB : Int} {wE wF wG wH wI wJ : ON} {ui uj uk ul um qk un : Nat} {wK wL wM wN wO wP : Cap} {wQ wR wS wT wU pI : List Int} {wV wW wX wY wZ w_ : List AV} {sg : Bool} {H : Hp} (AC : ui = wQ.length) (AD : uj = wR.length) (AF : uk = wS.length) (AG : ul = wT.length) (AH : um = wU.length) (AI : un = pI.length) (h0 : Out H0 Ri H (Rs.own ⟨wE, ui, wK⟩ (eInt .i64).z wV :: Rs.own ⟨wF, uj, wL⟩ (eInt .i64).z wW :: Rs.own ⟨wG, uk, wM⟩ (eInt .i64).z wX :: Rs.own ⟨wH, ul, wN⟩ (eInt .i64).z wY :: Rs.own ⟨wI, um, wO⟩ (eInt .i64).z wZ :: Rs.blk qk [.int .i64 As, .int .i64 At, .sl ⟨wE, ui, wK⟩, .int .i64 Au, .int .i64 Av, .sl ⟨wF, uj, wL⟩, .int .i64 Aw, .int .i64 Ax, .sl ⟨wG, uk, wM⟩, .int .i64 Ay, .int .i64 Az, .sl ⟨wH, ul, wN⟩, .int .i64 AA, .int .i64 AB, .sl ⟨wI, um, wO⟩, .bool sg] :: Rs.own ⟨wJ, un, wP⟩ (eInt .i64).z w_ :: R0) fun R => CR (eInt .i64) H R wV wQ ∧ CR (eInt .i64) H R wW wR ∧ CR (eInt .i64) H R wX wS ∧ CR (eInt .i64) H R wY wT ∧ CR (eInt .i64) H R wZ wU ∧ CR (eInt .i64) H R w_ pI) {r : List Int × Bool} (hp : bm.pj2 F  sg pI = some r) : ∃ v H', bm.j2 F (aQ.tw F) (aC.tw F)  qk 0 ⟨wJ, un, wP⟩ H = some (v, H') ∧ bm.Q H0 Ri R0  r v H' := by
 obtain ⟨w0, s0, BJ, BK, BL, BM, BN, AJ⟩ := h0
 subst AC
 subst AD
 subst AF
 subst AG
 subst AH
 subst AI
 unfold bm.pj2 at hp
 unfold bm.j2
 refine bind_ex (ldB_of (w0.ld (i := 5) rfl rfl)) ?_
 obtain ⟨w1, s1⟩ := w0.pick' [6] 7 rfl rfl rfl
 dsimp only [pk, pks, nth, List.drop] at w1 s1
 obtain rfl := Option.some.inj hp
 exact ⟨_, _, rfl, _, _, _, _, rfl, rfl, w1, (s0.trans s1), (AJ.step s1)⟩
def bm.pl61 (F : Nat)  : Nat → Int → Int → Int → List Int → Bool → List Int → Int → Option (List Int × Bool)
 | 0, _, _, _, _, _, _, _ => none
 | k + 1, mo, mp, mT, mq, lG, lF, eM => (bif (decide (eM < (if mp < mo then mp else mo))) then ((bif (!lG) then ((aC.p F mT mq eM eM).bind fun r3 => (bif (r3 != 0) then ((apn lF ([r3] : List Int)).bind fun l7 => bm.pj3 F (bm.pl61 F k) mo mp mT mq lG l7 eM) else (bm.pj3 F (bm.pl61 F k) mo mp mT mq lG lF eM))) else (bm.pj2 F lG lF))) else (bm.pj2 F lG lF))
termination_by structural n => n
theorem bm.l61_P {F : Nat} {H0 : Hp} {Ri R0 : List Rs}   : ∀ k, bm.S61 H0 Ri R0  (bm.l61 F (aQ.tw F) (aC.tw F)  k) (bm.pl61 F  k) := by
 intro k
 induction k with
 | zero =>
  intro mo mp tT mT tU tV tW tX tY tZ t_ ua eM rB rC rD rE rF rG rH px ja py pz pA pB pE dl pF rI rJ rK rL rM rN rO rP mq rQ rR rS rT lF rU rV rW rX rY rZ lG H xa xb xc xd xe xf xh h0 r hp
  exact nomatch (show (none : Option (List Int × Bool)) = some r from hp)
 | succ k ih =>
  intro mo mp tT mT tU tV tW tX tY tZ t_ ua eM rB rC rD rE rF rG rH px ja py pz pA pB pE dl pF rI rJ rK rL rM rN rO rP mq rQ rR rS rT lF rU rV rW rX rY rZ lG H xa xb xc xd xe xf xh h0 r hp
  obtain ⟨w0, s0, xi, pJ, sh, si, sj, sk, sm⟩ := h0
  subst xa
  subst xb
  subst xc
  subst xd
  subst xe
  subst xf
  subst xh
  unfold bm.pl61 at hp
  unfold bm.l61
  refine bind_ex (ldI_of (w0.ld (i := 0) rfl rfl)) ?_
  refine bind_ex (ldI_of (w0.ld (i := 0) rfl rfl)) ?_
  refine bif_ex (fun hb => ?_) (fun hb => ?_)
  ·replace hp := bif_t hb hp
   refine bind_ex (ldB_of (w0.ld (i := 6) rfl rfl)) ?_
   refine bif_ex (fun hb => ?_) (fun hb => ?_)
   ·replace hp := bif_t hb hp
    refine bind_ex (ldI_of (w0.ld (i := 6) rfl rfl)) ?_
    refine bind_ex (ldI_of (w0.ld (i := 6) rfl rfl)) ?_
    refine bind_ex (ldSl_of (w0.ld (i := 6) rfl rfl)) ?_
    obtain ⟨w1, s1⟩ := w0.pick' [1, 0, 2, 3, 4, 5, 6, 7] 8 rfl rfl rfl
    dsimp only [pk, pks, nth, List.drop] at w1 s1
    have f2 := W.borrow1 (eInt .i64) w1 (pJ.step s1)
    obtain ⟨w2, s2⟩ := w1.right1
    obtain ⟨r3, e3, hp⟩ := bind_some' hp
    refine call_ex (aC.P rfl ⟨w2, f2⟩ e3) ?_
    rintro _ H4 ⟨rfl, w4, s4, _⟩
    obtain ⟨w5, s5⟩ := W.frame1 w1 w4 s4
    refine bind_ex rfl ?_
    refine bif_ex (fun hb => ?_) (fun hb => ?_)
    ·replace hp := bif_t hb hp
     refine newS_k (eInt .i64) w5 (n := 1) (l := ([r3] : List Int)) rfl (CR.cons1 rfl CR.empty) rfl fun H6 w6 s6 c6 => ?_
     refine bind_ex (w6.rowo (i := 0) rfl) ?_
     obtain ⟨l7, e7, hp⟩ := bind_some' hp
     refine app_k (eInt .i64) w6 (i := 8) rfl rfl (sm.step (s1.trans (s5.trans s6))) c6 rfl rfl e7 fun a8 d8 H8 w8 s8 c8 x8 => ?_
     dsimp only [List.set] at w8 s8 c8
     obtain ⟨w9, s9⟩ := w8.pick' [2, 1, 3, 4, 5, 6, 7, 8] 9 rfl rfl rfl
     dsimp only [pk, pks, nth, List.drop] at w9 s9
     exact bm.j3_P (@ih) rfl rfl rfl rfl rfl rfl rfl ⟨w9, (s0.trans (s1.trans (s5.trans (s6.trans (s8.trans s9))))), (xi.step (s1.trans (s5.trans (s6.trans (s8.trans s9))))), (pJ.step (s1.trans (s5.trans (s6.trans (s8.trans s9))))), (sh.step (s1.trans (s5.trans (s6.trans (s8.trans s9))))), (si.step (s1.trans (s5.trans (s6.trans (s8.trans s9))))), (sj.step (s1.trans (s5.trans (s6.trans (s8.trans s9))))), (sk.step (s1.trans (s5.trans (s6.trans (s8.trans s9))))), (c8.step s9)⟩ hp
    ·replace hp := bif_f hb hp
     obtain ⟨w10, s10⟩ := w5.pick' [1, 0, 2, 3, 4, 5, 6, 7] 8 rfl rfl rfl
     dsimp only [pk, pks, nth, List.drop] at w10 s10
     exact bm.j3_P (@ih) rfl rfl rfl rfl rfl rfl rfl ⟨w10, (s0.trans (s1.trans (s5.trans s10))), (xi.step (s1.trans (s5.trans s10))), (pJ.step (s1.trans (s5.trans s10))), (sh.step (s1.trans (s5.trans s10))), (si.step (s1.trans (s5.trans s10))), (sj.step (s1.trans (s5.trans s10))), (sk.step (s1.trans (s5.trans s10))), (sm.step (s1.trans (s5.trans s10)))⟩ hp
   ·replace hp := bif_f hb hp
    obtain ⟨w11, s11⟩ := w0.pick' [1, 2, 3, 4, 5, 6, 7] 8 rfl rfl rfl
    dsimp only [pk, pks, nth, List.drop] at w11 s11
    exact bm.j2_P rfl rfl rfl rfl rfl rfl ⟨w11, (s0.trans s11), (pJ.step s11), (sh.step s11), (si.step s11), (sj.step s11), (sk.step s11), (sm.step s11)⟩ hp
  ·replace hp := bif_f hb hp
   obtain ⟨w12, s12⟩ := w0.pick' [1, 2, 3, 4, 5, 6, 7] 8 rfl rfl rfl
   dsimp only [pk, pks, nth, List.drop] at w12 s12
   exact bm.j2_P rfl rfl rfl rfl rfl rfl ⟨w12, (s0.trans s12), (pJ.step s12), (sh.step s12), (si.step s12), (sj.step s12), (sk.step s12), (sm.step s12)⟩ hp
def bm.p (F : Nat) (aa : Int) (ac : Int) (bj : List Int) : Option (List Int × Bool) := (aQ.p F aa ac bj).bind fun r2 => bm.pl61 F F aa ac r2.2.1 r2.2.2.1 r2.2.2.2.2.2.2.2.2.2.2.2.2.2.2.2 ([] : List Int) 0
theorem bm.P {F : Nat} {aa ac : Int} {cT : ON} {bJ : Nat} {cU : Cap} {bj : List Int} {H : Hp} {R0 : List Rs} (fp : bJ = bj.length) (h0 : Inn H R0 fun R => ROs (eInt .i64) H R ⟨cT, bJ, cU⟩ bj) {r : List Int × Bool} (hp : bm.p F aa ac bj = some r) : ∃ v H', bm.tw F aa ac ⟨cT, bJ, cU⟩ H = some (v, H') ∧ bm.Q H R0 R0  r v H' := by
 obtain ⟨w0, eI⟩ := h0
 subst fp
 unfold bm.p at hp
 unfold bm.tw bm.twX
 have s0 := w0.rf
 refine new_k w0 fun H1 w1 s1 => ?_
 refine bind_ex (ldI_of (w1.ld (i := 0) rfl rfl)) ?_
 refine bind_ex (ldI_of (w1.ld (i := 0) rfl rfl)) ?_
 refine bind_ex (ldSl_of (w1.ld (i := 0) rfl rfl)) ?_
 obtain ⟨r2, e2, hp⟩ := bind_some' hp
 refine call_ex (aQ.P rfl ⟨w1, (eI.step s1)⟩ e2) ?_
 rintro _ H3 ⟨o2a_3, o2n_3, o2c_3, o2k_3, o5a_3, o5n_3, o5c_3, o5k_3, o8a_3, o8n_3, o8c_3, o8k_3, o11a_3, o11n_3, o11c_3, o11k_3, o14a_3, o14n_3, o14c_3, o14k_3, ob0_3, rfl, rfl, rfl, rfl, rfl, rfl, w3, s3, f3_0, f3_1, f3_2, f3_3, f3_4⟩
 refine bind_ex rfl ?_
 refine newS_k (eInt .i64) w3 (n := 0) (l := ([] : List Int)) rfl CR.empty rfl fun H4 w4 s4 c4 => ?_
 obtain ⟨w5, s5⟩ := w4.pick' [7, 1, 2, 3, 4, 5, 6, 0] 8 rfl rfl rfl
 dsimp only [pk, pks, nth, List.drop] at w5 s5
 exact bm.l61_P F rfl rfl rfl rfl rfl rfl rfl ⟨w5, (s0.trans (s1.trans (s3.trans (s4.trans s5)))), (eI.step (s1.trans (s3.trans (s4.trans s5)))), (f3_0.step (s4.trans s5)), (f3_1.step (s4.trans s5)), (f3_2.step (s4.trans s5)), (f3_3.step (s4.trans s5)), (f3_4.step (s4.trans s5)), (c4.step s5)⟩ hp
def dG.Q (H0 : Hp) (Ri R0 : List Rs)  (r : List Int × Int) (v : AV) (H' : Hp) : Prop := ∃ o0a : ON, ∃ o0n : Nat, ∃ o0c : Cap, ∃ o0k : List AV, v = (.tup [(.sl ⟨o0a, o0n, o0c⟩), (.int .i64 r.2)]) ∧ o0n = (r.1).length ∧ Out H0 Ri H' (Rs.own ⟨o0a, o0n, o0c⟩ (eInt .i64).z o0k :: R0) fun R => CR (eInt .i64) H' R o0k (r.1)
def dG.p (F : Nat) (aa : Int) (ac : Int) (bj : List Int) : Option (List Int × Int) := (cl.p F aa ac bj).bind fun r2 => (bif (!r2) then (some (([] : List Int), 1)) else ((bm.p F aa ac bj).bind fun r6 => (bif (!r6.2) then (some (([] : List Int), 3)) else (some (r6.1, 0)))))
theorem dG.P {F : Nat} {aa ac : Int} {cT : ON} {bJ : Nat} {cU : Cap} {bj : List Int} {H : Hp} {R0 : List Rs} (fp : bJ = bj.length) (h0 : Inn H R0 fun R => ROs (eInt .i64) H R ⟨cT, bJ, cU⟩ bj) {r : List Int × Int} (hp : dG.p F aa ac bj = some r) : ∃ v H', dG.tw F aa ac ⟨cT, bJ, cU⟩ H = some (v, H') ∧ dG.Q H R0 R0  r v H' := by
 obtain ⟨w0, eI⟩ := h0
 subst fp
 unfold dG.p at hp
 unfold dG.tw dG.twX
 have s0 := w0.rf
 refine new_k w0 fun H1 w1 s1 => ?_
 refine bind_ex (ldI_of (w1.ld (i := 0) rfl rfl)) ?_
 refine bind_ex (ldI_of (w1.ld (i := 0) rfl rfl)) ?_
 refine bind_ex (ldSl_of (w1.ld (i := 0) rfl rfl)) ?_
 obtain ⟨r2, e2, hp⟩ := bind_some' hp
 refine call_ex (cl.P rfl ⟨w1, (eI.step s1)⟩ e2) ?_
 rintro _ H3 ⟨rfl, w3, s3, _⟩
 refine bind_ex rfl ?_
 refine bif_ex (fun hb => ?_) (fun hb => ?_)
 ·replace hp := bif_t hb hp
  refine newS_k (eInt .i64) w3 (n := 0) (l := ([] : List Int)) rfl CR.empty rfl fun H4 w4 s4 c4 => ?_
  obtain ⟨w5, s5⟩ := w4.pick' [0] 2 rfl rfl rfl
  dsimp only [pk, pks, nth, List.drop] at w5 s5
  obtain rfl := Option.some.inj hp
  exact ⟨_, _, rfl, _, _, _, _, rfl, rfl, w5, (s0.trans (s1.trans (s3.trans (s4.trans s5)))), (c4.step s5)⟩
 ·replace hp := bif_f hb hp
  refine bind_ex (ldI_of (w3.ld (i := 0) rfl rfl)) ?_
  refine bind_ex (ldI_of (w3.ld (i := 0) rfl rfl)) ?_
  refine bind_ex (ldSl_of (w3.ld (i := 0) rfl rfl)) ?_
  obtain ⟨r6, e6, hp⟩ := bind_some' hp
  refine call_ex (bm.P rfl ⟨w3, (eI.step (s1.trans s3))⟩ e6) ?_
  rintro _ H7 ⟨o0a_7, o0n_7, o0c_7, o0k_7, rfl, rfl, w7, s7, f7_0⟩
  refine bind_ex rfl ?_
  refine bind_ex rfl ?_
  refine bind_ex rfl ?_
  refine bind_ex rfl ?_
  refine bind_ex rfl ?_
  refine bif_ex (fun hb => ?_) (fun hb => ?_)
  ·replace hp := bif_t hb hp
   refine newS_k (eInt .i64) w7 (n := 0) (l := ([] : List Int)) rfl CR.empty rfl fun H8 w8 s8 c8 => ?_
   obtain ⟨w9, s9⟩ := w8.pick' [0] 3 rfl rfl rfl
   dsimp only [pk, pks, nth, List.drop] at w9 s9
   obtain rfl := Option.some.inj hp
   exact ⟨_, _, rfl, _, _, _, _, rfl, rfl, w9, (s0.trans (s1.trans (s3.trans (s7.trans (s8.trans s9))))), (c8.step s9)⟩
  ·replace hp := bif_f hb hp
   obtain ⟨w10, s10⟩ := w7.pick' [0] 2 rfl rfl rfl
   dsimp only [pk, pks, nth, List.drop] at w10 s10
   obtain rfl := Option.some.inj hp
   exact ⟨_, _, rfl, _, _, _, _, rfl, rfl, w10, (s0.trans (s1.trans (s3.trans (s7.trans s10)))), (f7_0.step s10)⟩
def dH.Q (H0 : Hp) (Ri R0 : List Rs)  (r : Int × Int) (v : AV) (H' : Hp) : Prop := v = (.tup [(.int .i64 r.1), (.int .i64 r.2)]) ∧ Out H0 Ri H' (R0) fun R => True
def dH.p (F : Nat) (aa : Int) (ac : Int) (bj : List Int) : Option (Int × Int) := (dG.p F aa ac bj).bind fun r2 => some ((r2.1.length : Int), r2.2)
theorem dH.P {F : Nat} {aa ac : Int} {cT : ON} {bJ : Nat} {cU : Cap} {bj : List Int} {H : Hp} {R0 : List Rs} (fp : bJ = bj.length) (h0 : Inn H R0 fun R => ROs (eInt .i64) H R ⟨cT, bJ, cU⟩ bj) {r : Int × Int} (hp : dH.p F aa ac bj = some r) : ∃ v H', dH.tw F aa ac ⟨cT, bJ, cU⟩ H = some (v, H') ∧ dH.Q H R0 R0  r v H' := by
 obtain ⟨w0, eI⟩ := h0
 subst fp
 unfold dH.p at hp
 unfold dH.tw dH.twX
 have s0 := w0.rf
 refine new_k w0 fun H1 w1 s1 => ?_
 refine bind_ex (ldI_of (w1.ld (i := 0) rfl rfl)) ?_
 refine bind_ex (ldI_of (w1.ld (i := 0) rfl rfl)) ?_
 refine bind_ex (ldSl_of (w1.ld (i := 0) rfl rfl)) ?_
 obtain ⟨r2, e2, hp⟩ := bind_some' hp
 refine call_ex (dG.P rfl ⟨w1, (eI.step s1)⟩ e2) ?_
 rintro _ H3 ⟨o0a_3, o0n_3, o0c_3, o0k_3, rfl, rfl, w3, s3, f3_0⟩
 refine bind_ex rfl ?_
 refine bind_ex rfl ?_
 refine bind_ex rfl ?_
 refine bind_ex rfl ?_
 refine bind_ex rfl ?_
 obtain ⟨w4, s4⟩ := w3.pick' [] 2 rfl rfl rfl
 dsimp only [pk, pks, nth, List.drop] at w4 s4
 obtain rfl := Option.some.inj hp
 exact ⟨_, _, rfl, rfl, w4, (s0.trans (s1.trans (s3.trans s4))), trivial⟩
def df.Q (H0 : Hp) (Ri R0 : List Rs)  (r : Bool) (v : AV) (H' : Hp) : Prop := v = (.bool r) ∧ Out H0 Ri H' (R0) fun R => True
def df.p (F : Nat) (aa : Int) (ak : Int) (cH : Int) : Option (Bool) := (bif (decide (ak ≤ aa)) then (some (decide (aa ≤ cH))) else (some false))
theorem df.P {F : Nat} {aa ak cH : Int} {H : Hp} {R0 : List Rs}  (h0 : Inn H R0 fun R => True) {r : Bool} (hp : df.p F aa ak cH = some r) : ∃ v H', df.tw F aa ak cH H = some (v, H') ∧ df.Q H R0 R0  r v H' := by
 obtain ⟨w0, _⟩ := h0
 unfold df.p at hp
 unfold df.tw df.twX
 have s0 := w0.rf
 refine bif_ex (fun hb => ?_) (fun hb => ?_)
 ·replace hp := bif_t hb hp
  obtain rfl := Option.some.inj hp
  exact ⟨_, _, rfl, rfl, w0, s0, trivial⟩
 ·replace hp := bif_f hb hp
  obtain rfl := Option.some.inj hp
  exact ⟨_, _, rfl, rfl, w0, s0, trivial⟩
def dk.Q (H0 : Hp) (Ri R0 : List Rs)  (r : Int) (v : AV) (H' : Hp) : Prop := v = (.int .i64 r) ∧ Out H0 Ri H' (R0) fun R => True
def dk.p (F : Nat) (dm : List Int) : Option (Int) := some (dm.length : Int)
theorem dk.P {F : Nat} {fX : ON} {fg : Nat} {fY : Cap} {dm : List Int} {H : Hp} {R0 : List Rs} (iN : fg = dm.length) (h0 : Inn H R0 fun R => ROs (eInt .i64) H R ⟨fX, fg, fY⟩ dm) {r : Int} (hp : dk.p F dm = some r) : ∃ v H', dk.tw F ⟨fX, fg, fY⟩ H = some (v, H') ∧ dk.Q H R0 R0  r v H' := by
 obtain ⟨w0, jS⟩ := h0
 subst iN
 unfold dk.p at hp
 unfold dk.tw dk.twX
 have s0 := w0.rf
 obtain rfl := Option.some.inj hp
 exact ⟨_, _, rfl, rfl, w0, s0, trivial⟩
def dI.Q (H0 : Hp) (Ri R0 : List Rs)  (r : Bool) (v : AV) (H' : Hp) : Prop := v = (.bool r) ∧ Out H0 Ri H' (R0) fun R => True
def dI.p (F : Nat) (aa : Int) : Option (Bool) := (df.p F aa (-1000000000000) 1000000000000).bind fun r1 => some (!r1)
theorem dI.P {F : Nat} {aa : Int} {H : Hp} {R0 : List Rs}  (h0 : Inn H R0 fun R => True) {r : Bool} (hp : dI.p F aa = some r) : ∃ v H', dI.tw F aa H = some (v, H') ∧ dI.Q H R0 R0  r v H' := by
 obtain ⟨w0, _⟩ := h0
 unfold dI.p at hp
 unfold dI.tw dI.twX
 have s0 := w0.rf
 obtain ⟨r1, e1, hp⟩ := bind_some' hp
 refine call_ex (df.P ⟨w0, trivial⟩ e1) ?_
 rintro _ H2 ⟨rfl, w2, s2, _⟩
 refine bind_ex rfl ?_
 obtain rfl := Option.some.inj hp
 exact ⟨_, _, rfl, rfl, w2, (s0.trans s2), trivial⟩
def ct.Q (H0 : Hp) (Ri R0 : List Rs)  (r : Int) (v : AV) (H' : Hp) : Prop := v = (.int .i64 r) ∧ Out H0 Ri H' (R0) fun R => True
def ct.S13 (H0 : Hp) (Ri R0 : List Rs)  (C : Sl → Int → Int → Hp → OA) (pC : List Int → Int → Int → Option (Int)) : Prop := ∀ {mr : ON} {ly : Nat} {ms : Cap} {jD : List Int} {fI eX : Int}, ∀ {H : Hp}, ly = jD.length → (Out H0 Ri H R0 fun R => ROs (eInt .i64) H R ⟨mr, ly, ms⟩ jD) → ∀ {r : Int}, pC jD fI eX = some r → ∃ v H', C ⟨mr, ly, ms⟩ fI eX H = some (v, H') ∧ ct.Q H0 Ri R0  r v H'
def ct.pl13 (F : Nat)  : Nat → List Int → Int → Int → Option (Int)
 | 0, _, _, _ => none
 | k + 1, jD, fI, eX => (bif (decide (eX < fI)) then ((ix jD eX).bind fun n1 => (dI.p F (gt jD n1)).bind fun r2 => (bif r2 then (some eX) else (ct.pl13 F k jD fI (IntKind.i64.wrap (eX + 1))))) else (some (-1)))
termination_by structural n => n
theorem ct.l13_P {F : Nat} {H0 : Hp} {Ri R0 : List Rs}   : ∀ k, ct.S13 H0 Ri R0  (ct.l13 F (dI.tw F)  k) (ct.pl13 F  k) := by
 intro k
 induction k with
 | zero =>
  intro mr ly ms jD fI eX H pK h0 r hp
  exact nomatch (show (none : Option (Int)) = some r from hp)
 | succ k ih =>
  intro mr ly ms jD fI eX H pK h0 r hp
  obtain ⟨w0, s0, pL⟩ := h0
  subst pK
  unfold ct.pl13 at hp
  unfold ct.l13
  refine bif_ex (fun hb => ?_) (fun hb => ?_)
  ·replace hp := bif_t hb hp
   obtain ⟨n1, g1, hp⟩ := bind_some' hp
   obtain ⟨p1, q1, i1, h1, j1⟩ := ROs.ixr pL rfl g1
   refine bind_ex i1 ?_
   have h1 : _ = [_] := h1
   subst h1
   refine bind_ex (ldI_of (j1 0 _ rfl)) ?_
   obtain ⟨r2, e2, hp⟩ := bind_some' hp
   refine call_ex (dI.P ⟨w0, trivial⟩ e2) ?_
   rintro _ H3 ⟨rfl, w3, s3, _⟩
   refine bind_ex rfl ?_
   refine bif_ex (fun hb => ?_) (fun hb => ?_)
   ·replace hp := bif_t hb hp
    obtain rfl := Option.some.inj hp
    exact ⟨_, _, rfl, rfl, w3, (s0.trans s3), trivial⟩
   ·replace hp := bif_f hb hp
    exact ih rfl ⟨w3, (s0.trans s3), (pL.step s3)⟩ hp
  ·replace hp := bif_f hb hp
   obtain rfl := Option.some.inj hp
   exact ⟨_, _, rfl, rfl, w0, s0, trivial⟩
def ct.p (F : Nat) (dm : List Int) : Option (Int) := ct.pl13 F F dm (dm.length : Int) 0
theorem ct.P {F : Nat} {fX : ON} {fg : Nat} {fY : Cap} {dm : List Int} {H : Hp} {R0 : List Rs} (iN : fg = dm.length) (h0 : Inn H R0 fun R => ROs (eInt .i64) H R ⟨fX, fg, fY⟩ dm) {r : Int} (hp : ct.p F dm = some r) : ∃ v H', ct.tw F ⟨fX, fg, fY⟩ H = some (v, H') ∧ ct.Q H R0 R0  r v H' := by
 obtain ⟨w0, jS⟩ := h0
 subst iN
 unfold ct.p at hp
 unfold ct.tw ct.twX
 have s0 := w0.rf
 exact ct.l13_P F rfl ⟨w0, s0, jS⟩ hp
def dT.Q (H0 : Hp) (Ri R0 : List Rs)  (r : Bool) (v : AV) (H' : Hp) : Prop := v = (.bool r) ∧ Out H0 Ri H' (R0) fun R => True
def dT.p (F : Nat) (dm : List Int) : Option (Bool) := (ct.p F dm).bind fun r1 => some (decide (r1 ≥ 0))
theorem dT.P {F : Nat} {fX : ON} {fg : Nat} {fY : Cap} {dm : List Int} {H : Hp} {R0 : List Rs} (iN : fg = dm.length) (h0 : Inn H R0 fun R => ROs (eInt .i64) H R ⟨fX, fg, fY⟩ dm) {r : Bool} (hp : dT.p F dm = some r) : ∃ v H', dT.tw F ⟨fX, fg, fY⟩ H = some (v, H') ∧ dT.Q H R0 R0  r v H' := by
 obtain ⟨w0, jS⟩ := h0
 subst iN
 unfold dT.p at hp
 unfold dT.tw dT.twX
 have s0 := w0.rf
 obtain ⟨r1, e1, hp⟩ := bind_some' hp
 refine call_ex (ct.P rfl ⟨w0, jS⟩ e1) ?_
 rintro _ H2 ⟨rfl, w2, s2, _⟩
 refine bind_ex rfl ?_
 obtain rfl := Option.some.inj hp
 exact ⟨_, _, rfl, rfl, w2, (s0.trans s2), trivial⟩
def dJ.Q (H0 : Hp) (Ri R0 : List Rs)  (r : Bool) (v : AV) (H' : Hp) : Prop := v = (.bool r) ∧ Out H0 Ri H' (R0) fun R => True
def dJ.p (F : Nat) (aa : Int) (ac : Int) (bj : List Int) : Option (Bool) := (df.p F aa 0 48).bind fun r2 => (bif r2 then ((df.p F ac 0 48).bind fun r4 => (bif r4 then ((dk.p F bj).bind fun r6 => (bif (r6 == (IntKind.i64.wrap (aa * ac))) then ((dT.p F bj).bind fun r9 => some (!r9)) else (some false))) else (some false))) else (some false))
theorem dJ.P {F : Nat} {aa ac : Int} {cT : ON} {bJ : Nat} {cU : Cap} {bj : List Int} {H : Hp} {R0 : List Rs} (fp : bJ = bj.length) (h0 : Inn H R0 fun R => ROs (eInt .i64) H R ⟨cT, bJ, cU⟩ bj) {r : Bool} (hp : dJ.p F aa ac bj = some r) : ∃ v H', dJ.tw F aa ac ⟨cT, bJ, cU⟩ H = some (v, H') ∧ dJ.Q H R0 R0  r v H' := by
 obtain ⟨w0, eI⟩ := h0
 subst fp
 unfold dJ.p at hp
 unfold dJ.tw dJ.twX
 have s0 := w0.rf
 refine new_k w0 fun H1 w1 s1 => ?_
 refine bind_ex (ldI_of (w1.ld (i := 0) rfl rfl)) ?_
 obtain ⟨r2, e2, hp⟩ := bind_some' hp
 refine call_ex (df.P ⟨w1, trivial⟩ e2) ?_
 rintro _ H3 ⟨rfl, w3, s3, _⟩
 refine bind_ex rfl ?_
 refine bif_ex (fun hb => ?_) (fun hb => ?_)
 ·replace hp := bif_t hb hp
  refine bind_ex (ldI_of (w3.ld (i := 0) rfl rfl)) ?_
  obtain ⟨r4, e4, hp⟩ := bind_some' hp
  refine call_ex (df.P ⟨w3, trivial⟩ e4) ?_
  rintro _ H5 ⟨rfl, w5, s5, _⟩
  refine bind_ex rfl ?_
  refine bif_ex (fun hb => ?_) (fun hb => ?_)
  ·replace hp := bif_t hb hp
   refine bind_ex (ldSl_of (w5.ld (i := 0) rfl rfl)) ?_
   obtain ⟨r6, e6, hp⟩ := bind_some' hp
   refine call_ex (dk.P rfl ⟨w5, (eI.step (s1.trans (s3.trans s5)))⟩ e6) ?_
   rintro _ H7 ⟨rfl, w7, s7, _⟩
   refine bind_ex rfl ?_
   refine ifs_ex (W.cons_of (Rn := []) w5 w7 s7) ?_
   refine bind_ex (ldI_of (w7.ld (i := 0) rfl rfl)) ?_
   refine bind_ex (ldI_of (w7.ld (i := 0) rfl rfl)) ?_
   refine bif_ex (fun hb => ?_) (fun hb => ?_)
   ·replace hp := bif_t hb hp
    refine bind_ex (ldSl_of (w7.ld (i := 0) rfl rfl)) ?_
    obtain ⟨r9, e9, hp⟩ := bind_some' hp
    refine call_ex (dT.P rfl ⟨w7, (eI.step (s1.trans (s3.trans (s5.trans s7))))⟩ e9) ?_
    rintro _ H10 ⟨rfl, w10, s10, _⟩
    refine bind_ex rfl ?_
    obtain ⟨w11, s11⟩ := w10.pick' [] 1 rfl rfl rfl
    dsimp only [pk, pks, nth, List.drop] at w11 s11
    obtain rfl := Option.some.inj hp
    exact ⟨_, _, rfl, rfl, w11, (s0.trans (s1.trans (s3.trans (s5.trans (s7.trans (s10.trans s11)))))), trivial⟩
   ·replace hp := bif_f hb hp
    obtain ⟨w12, s12⟩ := w7.pick' [] 1 rfl rfl rfl
    dsimp only [pk, pks, nth, List.drop] at w12 s12
    obtain rfl := Option.some.inj hp
    exact ⟨_, _, rfl, rfl, w12, (s0.trans (s1.trans (s3.trans (s5.trans (s7.trans s12))))), trivial⟩
  ·replace hp := bif_f hb hp
   obtain ⟨w13, s13⟩ := w5.pick' [] 1 rfl rfl rfl
   dsimp only [pk, pks, nth, List.drop] at w13 s13
   obtain rfl := Option.some.inj hp
   exact ⟨_, _, rfl, rfl, w13, (s0.trans (s1.trans (s3.trans (s5.trans s13)))), trivial⟩
 ·replace hp := bif_f hb hp
  obtain ⟨w14, s14⟩ := w3.pick' [] 1 rfl rfl rfl
  dsimp only [pk, pks, nth, List.drop] at w14 s14
  obtain rfl := Option.some.inj hp
  exact ⟨_, _, rfl, rfl, w14, (s0.trans (s1.trans (s3.trans s14))), trivial⟩
def dU.Q (H0 : Hp) (Ri R0 : List Rs)  (r : Int × Int × List Int) (v : AV) (H' : Hp) : Prop := ∃ o2a : ON, ∃ o2n : Nat, ∃ o2k : List AV, v = (.agg [(.int .i64 r.1), (.int .i64 r.2.1), (.sl ⟨o2a, o2n, .ex o2n⟩)]) ∧ o2n = (r.2.2).length ∧ Out H0 Ri H' (Rs.own ⟨o2a, o2n, .ex o2n⟩ (eInt .i64).z o2k :: R0) fun R => CR (eInt .i64) H' R o2k (r.2.2)
def dU.p (F : Nat) (aa : Int) (ak : Int) : Option (Int × Int × List Int) := (mkn (IntKind.i64.wrap (aa * ak)) (0 : Int)).bind fun l2 => some (aa, ak, l2)
theorem dU.P {F : Nat} {aa ak : Int} {H : Hp} {R0 : List Rs}  (h0 : Inn H R0 fun R => True) {r : Int × Int × List Int} (hp : dU.p F aa ak = some r) : ∃ v H', dU.tw F aa ak H = some (v, H') ∧ dU.Q H R0 R0  r v H' := by
 obtain ⟨w0, _⟩ := h0
 unfold dU.p at hp
 unfold dU.tw dU.twX
 have s0 := w0.rf
 refine new_k w0 fun H1 w1 s1 => ?_
 obtain ⟨l2, e2, hp⟩ := bind_some' hp
 refine mk_k (eInt .i64) (0 : Int) w1 rfl rfl rfl e2 fun H3 k3 w3 s3 c3 => ?_
 refine st_k w3 (i := 1) rfl rfl rfl fun H4 w4 s4 => ?_
 dsimp only [List.set] at w4 s4
 refine st_k w4 (i := 1) rfl rfl rfl fun H5 w5 s5 => ?_
 dsimp only [List.set] at w5 s5
 refine st_k w5 (i := 1) rfl rfl rfl fun H6 w6 s6 => ?_
 dsimp only [List.set] at w6 s6
 refine bind_ex (ldI_of (w6.ld (i := 1) rfl rfl)) ?_
 refine bind_ex (ldI_of (w6.ld (i := 1) rfl rfl)) ?_
 refine bind_ex (ldSl_of (w6.ld (i := 1) rfl rfl)) ?_
 obtain ⟨w7, s7⟩ := w6.pick' [0] 2 rfl rfl rfl
 dsimp only [pk, pks, nth, List.drop] at w7 s7
 obtain rfl := Option.some.inj hp
 exact ⟨_, _, rfl, _, _, _, rfl, rfl, w7, (s0.trans (s1.trans (s3.trans (s4.trans (s5.trans (s6.trans s7)))))), (c3.step (s4.trans (s5.trans (s6.trans s7))))⟩
def bM.Q (H0 : Hp) (Ri R0 : List Rs)  (r : Int × Int × List Int) (v : AV) (H' : Hp) : Prop := ∃ o2a : ON, ∃ o2n : Nat, ∃ o2c : Cap, ∃ o2k : List AV, v = (.agg [(.int .i64 r.1), (.int .i64 r.2.1), (.sl ⟨o2a, o2n, o2c⟩)]) ∧ o2n = (r.2.2).length ∧ Out H0 Ri H' (Rs.own ⟨o2a, o2n, o2c⟩ (eInt .i64).z o2k :: R0) fun R => CR (eInt .i64) H' R o2k (r.2.2)
def bM.S29 (H0 : Hp) (Ri R0 : List Rs)  (C : Nat → Nat → Nat → Nat → Int → Int → Hp → OA) (pC : Int → Int → List Int → Int → Int → Option (Int × Int × List Int)) : Prop := ∀ {nb nc ki kd jq iy : Int} {lO lP : ON} {lp cf lq fk : Nat} {lQ lR : Cap} {lS jt : List Int} {lT lU : List AV}, ∀ {H : Hp}, lp = lS.length → lq = jt.length → (Out H0 Ri H (Rs.own ⟨lO, lp, lQ⟩ (eInt .i64).z lT :: Rs.blk cf [.int .i64 nb, .int .i64 nc, .sl ⟨lO, lp, lQ⟩] :: Rs.own ⟨lP, lq, lR⟩ (eInt .i64).z lU :: Rs.blk fk [.int .i64 ki, .int .i64 kd, .sl ⟨lP, lq, lR⟩] :: R0) fun R => CR (eInt .i64) H R lT lS ∧ CR (eInt .i64) H R lU jt) → ∀ {r : Int × Int × List Int}, pC ki kd jt jq iy = some r → ∃ v H', C cf 0 fk 0 jq iy H = some (v, H') ∧ bM.Q H0 Ri R0  r v H'
def bM.pl29 (F : Nat)  : Nat → Int → Int → List Int → Int → Int → Option (Int × Int × List Int)
 | 0, _, _, _, _, _ => none
 | k + 1, ki, kd, jt, jq, iy => (bif (decide (iy < jq)) then ((ix jt (IntKind.i64.wrap ((IntKind.i64.wrap (iy * kd)) + iy))).bind fun n2 => (some (jt.set n2 1)).bind fun l3 => bM.pl29 F k ki kd l3 jq (IntKind.i64.wrap (iy + 1))) else (some (ki, kd, jt)))
termination_by structural n => n
theorem bM.l29_P {F : Nat} {H0 : Hp} {Ri R0 : List Rs}   : ∀ k, bM.S29 H0 Ri R0  (bM.l29 F (dU.tw F) (aO.tw F)  k) (bM.pl29 F  k) := by
 intro k
 induction k with
 | zero =>
  intro nb nc ki kd jq iy lO lP lp cf lq fk lQ lR lS jt lT lU H pa pb h0 r hp
  exact nomatch (show (none : Option (Int × Int × List Int)) = some r from hp)
 | succ k ih =>
  intro nb nc ki kd jq iy lO lP lp cf lq fk lQ lR lS jt lT lU H pa pb h0 r hp
  obtain ⟨w0, s0, tp, nd⟩ := h0
  subst pa
  subst pb
  unfold bM.pl29 at hp
  unfold bM.l29
  refine bif_ex (fun hb => ?_) (fun hb => ?_)
  ·replace hp := bif_t hb hp
   refine bind_ex (ldI_of (w0.ld (i := 3) rfl rfl)) ?_
   refine bind_ex (ldI_of (w0.ld (i := 3) rfl rfl)) ?_
   refine bind_ex (ldSl_of (w0.ld (i := 3) rfl rfl)) ?_
   refine aO.inl ?_
   refine new_k w0 fun H1 w1 s1 => ?_
   refine bind_ex (ldSl_of (w1.ld (i := 0) rfl rfl)) ?_
   refine bind_ex (ldI_of (w1.ld (i := 0) rfl rfl)) ?_
   obtain ⟨n2, g2, hp⟩ := bind_some' hp
   obtain ⟨p2, q2, i2, h2, j2⟩ := W.ixo (E := (eInt .i64)) w1 (i := 3) rfl rfl (nd.step s1) g2
   refine bind_ex i2 ?_
   refine ⟨_, _, rfl, ?_⟩
   refine bind_ex rfl ?_
   obtain ⟨l3, e3, hp⟩ := bind_some' hp
   refine sto_k (eInt .i64) w1 (i := 3) (j := 0) (p := p2) rfl rfl (nd.step s1) g2 i2 e3 rfl rfl (fun _ h => by have h : _ = [_] := h; subst h; exact rfl) fun H4 k4 w4 s4 c4 => ?_
   dsimp only [List.set] at w4 s4 c4
   obtain ⟨w5, s5⟩ := w4.pick' [1, 2, 3, 4] 5 rfl rfl rfl
   dsimp only [pk, pks, nth, List.drop] at w5 s5
   exact ih rfl ((st_len e3).symm) ⟨w5, (s0.trans (s1.trans (s4.trans s5))), (tp.step (s1.trans (s4.trans s5))), (c4.step s5)⟩ hp
  ·replace hp := bif_f hb hp
   refine bind_ex (ldI_of (w0.ld (i := 3) rfl rfl)) ?_
   refine bind_ex (ldI_of (w0.ld (i := 3) rfl rfl)) ?_
   refine bind_ex (ldSl_of (w0.ld (i := 3) rfl rfl)) ?_
   refine st_k w0 (i := 1) rfl rfl rfl fun H6 w6 s6 => ?_
   dsimp only [List.set] at w6 s6
   refine st_k w6 (i := 1) rfl rfl rfl fun H7 w7 s7 => ?_
   dsimp only [List.set] at w7 s7
   refine st_k w7 (i := 1) rfl rfl rfl fun H8 w8 s8 => ?_
   dsimp only [List.set] at w8 s8
   refine bind_ex (ldI_of (w8.ld (i := 1) rfl rfl)) ?_
   refine bind_ex (ldI_of (w8.ld (i := 1) rfl rfl)) ?_
   refine bind_ex (ldSl_of (w8.ld (i := 1) rfl rfl)) ?_
   obtain ⟨w9, s9⟩ := w8.pick' [2] 4 rfl rfl rfl
   dsimp only [pk, pks, nth, List.drop] at w9 s9
   obtain rfl := Option.some.inj hp
   exact ⟨_, _, rfl, _, _, _, _, rfl, rfl, w9, (s0.trans (s6.trans (s7.trans (s8.trans s9)))), (nd.step (s6.trans (s7.trans (s8.trans s9))))⟩
def bM.p (F : Nat) (aa : Int) : Option (Int × Int × List Int) := (dU.p F aa aa).bind fun r2 => bM.pl29 F F r2.1 r2.2.1 r2.2.2 aa 0
theorem bM.P {F : Nat} {aa : Int} {H : Hp} {R0 : List Rs}  (h0 : Inn H R0 fun R => True) {r : Int × Int × List Int} (hp : bM.p F aa = some r) : ∃ v H', bM.tw F aa H = some (v, H') ∧ bM.Q H R0 R0  r v H' := by
 obtain ⟨w0, _⟩ := h0
 unfold bM.p at hp
 unfold bM.tw bM.twX
 have s0 := w0.rf
 refine new_k w0 fun H1 w1 s1 => ?_
 obtain ⟨r2, e2, hp⟩ := bind_some' hp
 refine call_ex (dU.P ⟨w1, trivial⟩ e2) ?_
 rintro _ H3 ⟨o2a_3, o2n_3, o2k_3, rfl, rfl, w3, s3, f3_0⟩
 refine bind_ex rfl ?_
 refine bind_ex rfl ?_
 refine bind_ex rfl ?_
 refine bind_ex rfl ?_
 refine bind_ex rfl ?_
 refine bind_ex rfl ?_
 refine bind_ex rfl ?_
 refine new_k w3 fun H4 w4 s4 => ?_
 refine st_k w4 (i := 0) rfl rfl rfl fun H5 w5 s5 => ?_
 dsimp only [List.set] at w5 s5
 refine st_k w5 (i := 0) rfl rfl rfl fun H6 w6 s6 => ?_
 dsimp only [List.set] at w6 s6
 refine st_k w6 (i := 0) rfl rfl rfl fun H7 w7 s7 => ?_
 dsimp only [List.set] at w7 s7
 obtain ⟨w8, s8⟩ := w7.nilS (eInt .i64).z (by decide)
 obtain ⟨w9, s9⟩ := w8.pick' [0, 3, 2, 1] 4 rfl rfl rfl
 dsimp only [pk, pks, nth, List.drop] at w9 s9
 exact bM.l29_P F rfl rfl ⟨w9, (s0.trans (s1.trans (s3.trans (s4.trans (s5.trans (s6.trans (s7.trans (s8.trans s9)))))))), ((CR.empty : CR (eInt .i64) _ _ [] []).step s9), (f3_0.step (s4.trans (s5.trans (s6.trans (s7.trans (s8.trans s9))))))⟩ hp
def ec.Q (H0 : Hp) (Ri R0 : List Rs)  (r : List Int) (v : AV) (H' : Hp) : Prop := ∃ o0a : ON, ∃ o0n : Nat, ∃ o0c : Cap, ∃ o0k : List AV, v = (.sl ⟨o0a, o0n, o0c⟩) ∧ o0n = (r).length ∧ Out H0 Ri H' (Rs.own ⟨o0a, o0n, o0c⟩ (eInt .i64).z o0k :: R0) fun R => CR (eInt .i64) H' R o0k (r)
def ec.p (F : Nat) (dm : List Int) : Option (List Int) := apn ([] : List Int) dm
theorem ec.P {F : Nat} {fX : ON} {fg : Nat} {fY : Cap} {dm : List Int} {H : Hp} {R0 : List Rs} (iN : fg = dm.length) (h0 : Inn H R0 fun R => ROs (eInt .i64) H R ⟨fX, fg, fY⟩ dm) {r : List Int} (hp : ec.p F dm = some r) : ∃ v H', ec.tw F ⟨fX, fg, fY⟩ H = some (v, H') ∧ ec.Q H R0 R0  r v H' := by
 obtain ⟨w0, f0⟩ := h0
 subst iN
 unfold ec.p at hp
 unfold ec.tw ec.twX
 have s0 := w0.rf
 refine bif_ex (fun hb => ?_) (fun hb => ?_)
 ·obtain ⟨w1, s1⟩ := w0.nilS (eInt .i64).z (by decide)
  obtain rfl := ROs.none_nil f0 (Option.isNone_iff_eq_none.1 hb)
  obtain rfl : r = [] := (apn_some hp).2
  exact ⟨_, _, rfl, none, 0, .ex 0, [], rfl, rfl, w1, s0.trans s1, CR.empty⟩
 ·refine newS_k (eInt .i64) w0 (n := 0) (l := []) rfl CR.empty rfl fun H2 w2 s2 c2 => ?_
  obtain ⟨xs, hx, cx⟩ := (f0.step s2).row rfl
  refine bind_ex hx ?_
  refine app_k (eInt .i64) w2 (i := 0) rfl rfl c2 cx rfl rfl hp fun a d H3 w3 s3 c3 _ => ?_
  dsimp only [List.set] at w3 s3 c3
  exact ⟨_, _, rfl, _, _, _, _, rfl, rfl, w3, s0.trans (s2.trans s3), c3⟩
def dK.Q (H0 : Hp) (Ri R0 : List Rs)  (r : Int × Int × List Int) (v : AV) (H' : Hp) : Prop := ∃ o2a : ON, ∃ o2n : Nat, ∃ o2c : Cap, ∃ o2k : List AV, v = (.agg [(.int .i64 r.1), (.int .i64 r.2.1), (.sl ⟨o2a, o2n, o2c⟩)]) ∧ o2n = (r.2.2).length ∧ Out H0 Ri H' (Rs.own ⟨o2a, o2n, o2c⟩ (eInt .i64).z o2k :: R0) fun R => CR (eInt .i64) H' R o2k (r.2.2)
def dK.p (F : Nat) (aa : Int) (ac : Int) (bj : List Int) : Option (Int × Int × List Int) := (ec.p F bj).bind fun r3 => some (aa, ac, r3)
theorem dK.P {F : Nat} {aa ac : Int} {cT : ON} {bJ : Nat} {cU : Cap} {bj : List Int} {H : Hp} {R0 : List Rs} (fp : bJ = bj.length) (h0 : Inn H R0 fun R => ROs (eInt .i64) H R ⟨cT, bJ, cU⟩ bj) {r : Int × Int × List Int} (hp : dK.p F aa ac bj = some r) : ∃ v H', dK.tw F aa ac ⟨cT, bJ, cU⟩ H = some (v, H') ∧ dK.Q H R0 R0  r v H' := by
 obtain ⟨w0, eI⟩ := h0
 subst fp
 unfold dK.p at hp
 unfold dK.tw dK.twX
 have s0 := w0.rf
 refine new_k w0 fun H1 w1 s1 => ?_
 refine new_k w1 fun H2 w2 s2 => ?_
 refine bind_ex (ldSl_of (w2.ld (i := 1) rfl rfl)) ?_
 obtain ⟨r3, e3, hp⟩ := bind_some' hp
 refine call_ex (ec.P rfl ⟨w2, (eI.step (s1.trans s2))⟩ e3) ?_
 rintro _ H4 ⟨o0a_4, o0n_4, o0c_4, o0k_4, rfl, rfl, w4, s4, f4_0⟩
 refine bind_ex rfl ?_
 refine st_k w4 (i := 2) rfl rfl rfl fun H5 w5 s5 => ?_
 dsimp only [List.set] at w5 s5
 refine bind_ex (ldI_of (w5.ld (i := 2) rfl rfl)) ?_
 refine bind_ex (ldI_of (w5.ld (i := 2) rfl rfl)) ?_
 refine bind_ex (ldSl_of (w5.ld (i := 2) rfl rfl)) ?_
 refine st_k w5 (i := 1) rfl rfl rfl fun H6 w6 s6 => ?_
 dsimp only [List.set] at w6 s6
 refine st_k w6 (i := 1) rfl rfl rfl fun H7 w7 s7 => ?_
 dsimp only [List.set] at w7 s7
 refine st_k w7 (i := 1) rfl rfl rfl fun H8 w8 s8 => ?_
 dsimp only [List.set] at w8 s8
 refine bind_ex (ldI_of (w8.ld (i := 1) rfl rfl)) ?_
 refine bind_ex (ldI_of (w8.ld (i := 1) rfl rfl)) ?_
 refine bind_ex (ldSl_of (w8.ld (i := 1) rfl rfl)) ?_
 obtain ⟨w9, s9⟩ := w8.pick' [0] 3 rfl rfl rfl
 dsimp only [pk, pks, nth, List.drop] at w9 s9
 obtain rfl := Option.some.inj hp
 exact ⟨_, _, rfl, _, _, _, _, rfl, rfl, w9, (s0.trans (s1.trans (s2.trans (s4.trans (s5.trans (s6.trans (s7.trans (s8.trans s9)))))))), (f4_0.step (s5.trans (s6.trans (s7.trans (s8.trans s9)))))⟩
def ch.Q (H0 : Hp) (Ri R0 : List Rs)  (r : Int) (v : AV) (H' : Hp) : Prop := v = (.int .i64 r) ∧ Out H0 Ri H' (R0) fun R => True
def ch.p (F : Nat) (aa : Int) : Option (Int) := (bif (decide (aa < 0)) then (some (IntKind.i64.wrap (0 - aa))) else (some aa))
theorem ch.P {F : Nat} {aa : Int} {H : Hp} {R0 : List Rs}  (h0 : Inn H R0 fun R => True) {r : Int} (hp : ch.p F aa = some r) : ∃ v H', ch.tw F aa H = some (v, H') ∧ ch.Q H R0 R0  r v H' := by
 obtain ⟨w0, _⟩ := h0
 unfold ch.p at hp
 unfold ch.tw ch.twX
 have s0 := w0.rf
 refine bif_ex (fun hb => ?_) (fun hb => ?_)
 ·replace hp := bif_t hb hp
  obtain rfl := Option.some.inj hp
  exact ⟨_, _, rfl, rfl, w0, s0, trivial⟩
 ·replace hp := bif_f hb hp
  obtain rfl := Option.some.inj hp
  exact ⟨_, _, rfl, rfl, w0, s0, trivial⟩
def aI.Q (H0 : Hp) (Ri R0 : List Rs) (bk aX bl bb aY aT bc bf bv bg : Int) (ee cW cX cY : Sl) (cm : ON) (bA aa : Nat) (cn : Cap) (db : List Int) (ax : Bool) (r : Int × Int × Bool) (v : AV) (H' : Hp) : Prop := v = (.tup [(.int .i64 r.1), (.int .i64 r.2.1), (.bool r.2.2)]) ∧ Out H0 Ri H' (Rs.blk aa [.int .i64 bk, .int .i64 aX, .sl ee, .int .i64 bl, .int .i64 bb, .sl cW, .int .i64 aY, .int .i64 aT, .sl ⟨cm, bA, cn⟩, .int .i64 bc, .int .i64 bf, .sl cX, .int .i64 bv, .int .i64 bg, .sl cY, .bool ax] :: R0) fun R => True
def aI.S29 (H0 : Hp) (Ri R0 : List Rs) (ay aj aA ap aq ao au av aH aw : Int) (ef cE cF cG : Sl) (aM : ON) (aB az : Nat) (aN : Cap) (ce : List Int) (bw : Bool) (C : Int → Int → Int → Bool → Nat → Nat → Int → Hp → OA) (pC : Int → Int → Int → Bool → Int → Int → List Int → Int → Option (Int × Int × Bool)) : Prop := ∀ {cR eJ fl nx oS jK : Int} {jb : Bool} {j_ : Nat}, ∀ {H : Hp}, aB = ce.length → (Out H0 Ri H (Rs.blk j_ [.int .i64 nx, .int .i64 oS, .sl ⟨aM, aB, aN⟩] :: Rs.blk az [.int .i64 ay, .int .i64 aj, .sl ef, .int .i64 aA, .int .i64 ap, .sl cE, .int .i64 aq, .int .i64 ao, .sl ⟨aM, aB, aN⟩, .int .i64 au, .int .i64 av, .sl cF, .int .i64 aH, .int .i64 aw, .sl cG, .bool bw] :: R0) fun R => ROs (eInt .i64) H R ⟨aM, aB, aN⟩ ce) → ∀ {r : Int × Int × Bool}, pC cR eJ fl jb nx oS ce jK = some r → ∃ v H', C cR eJ fl jb j_ 0 jK H = some (v, H') ∧ aI.Q H0 Ri R0 ay aj aA ap aq ao au av aH aw ef cE cF cG aM aB az aN ce bw r v H'
def aI.S469 (H0 : Hp) (Ri R0 : List Rs) (ay aj aA ap aq ao au av aH aw : Int) (ef cE cF cG : Sl) (aM : ON) (aB az : Nat) (aN : Cap) (ce : List Int) (bw : Bool) (C : Int → Int → Int → Bool → Nat → Nat → Int → Int → Hp → OA) (pC : Int → Int → Int → Bool → Int → Int → List Int → Int → Int → Option (Int × Int × Bool)) : Prop := ∀ {gf gw gF lH kz f_ gg : Int} {gL : Bool} {gx : Nat}, ∀ {H : Hp}, aB = ce.length → (Out H0 Ri H (Rs.blk gx [.int .i64 lH, .int .i64 kz, .sl ⟨aM, aB, aN⟩] :: Rs.blk az [.int .i64 ay, .int .i64 aj, .sl ef, .int .i64 aA, .int .i64 ap, .sl cE, .int .i64 aq, .int .i64 ao, .sl ⟨aM, aB, aN⟩, .int .i64 au, .int .i64 av, .sl cF, .int .i64 aH, .int .i64 aw, .sl cG, .bool bw] :: R0) fun R => ROs (eInt .i64) H R ⟨aM, aB, aN⟩ ce) → ∀ {r : Int × Int × Bool}, pC gf gw gF gL lH kz ce f_ gg = some r → ∃ v H', C gf gw gF gL gx 0 f_ gg H = some (v, H') ∧ aI.Q H0 Ri R0 ay aj aA ap aq ao au av aH aw ef cE cF cG aM aB az aN ce bw r v H'
def aI.pj9 (F : Nat) (lW : Int → Int → Int → Bool → Int → Int → List Int → Int → Int → Option (Int × Int × Bool)) (om : Int) (oo : Int) (oq : Int) (ot : Bool) (sn : Int) (sp : Int) (ce : List Int) (ou : Int) (ov : Int) : Option (Int × Int × Bool) := lW om oo oq ot sn sp ce ou (IntKind.i64.wrap (ov + 1))
theorem aI.j9_P {F : Nat} {H0 : Hp} {Ri R0 : List Rs} {ay aj aA ap aq ao au av aH aw : Int} {ef cE cF cG : Sl} {aM : ON} {aB az : Nat} {aN : Cap} {ce : List Int} {bw : Bool} {C469_ : Int → Int → Int → Bool → Nat → Nat → Int → Int → Hp → OA} {lW : Int → Int → Int → Bool → Int → Int → List Int → Int → Int → Option (Int × Int × Bool)} (hC469 : aI.S469 H0 Ri R0 ay aj aA ap aq ao au av aH aw ef cE cF cG aM aB az aN ce bw C469_ lW) {om oo oq sn sp ou ov : Int} {ot : Bool} {qp : Nat} {H : Hp} (iS : aB = ce.length) (h0 : Out H0 Ri H (Rs.blk qp [.int .i64 sn, .int .i64 sp, .sl ⟨aM, aB, aN⟩] :: Rs.blk az [.int .i64 ay, .int .i64 aj, .sl ef, .int .i64 aA, .int .i64 ap, .sl cE, .int .i64 aq, .int .i64 ao, .sl ⟨aM, aB, aN⟩, .int .i64 au, .int .i64 av, .sl cF, .int .i64 aH, .int .i64 aw, .sl cG, .bool bw] :: R0) fun R => ROs (eInt .i64) H R ⟨aM, aB, aN⟩ ce) {r : Int × Int × Bool} (hp : aI.pj9 F lW om oo oq ot sn sp ce ou ov = some r) : ∃ v H', aI.j9 F (aO.tw F) (ch.tw F) C469_ om oo oq ot qp 0 ou ov H = some (v, H') ∧ aI.Q H0 Ri R0 ay aj aA ap aq ao au av aH aw ef cE cF cG aM aB az aN ce bw r v H' := by
 obtain ⟨w0, s0, gD⟩ := h0
 subst iS
 unfold aI.pj9 at hp
 unfold aI.j9
 exact hC469 rfl ⟨w0, s0, gD⟩ hp
def aI.pj7 (F : Nat) (ep : Int → Int → Int → Bool → Int → Int → List Int → Int → Option (Int × Int × Bool)) (oa : Int) (ob : Int) (oc : Int) (od : Bool) (sq : Int) (ss : Int) (ce : List Int) (oe : Int) : Option (Int × Int × Bool) := ep oa ob oc od sq ss ce (IntKind.i64.wrap (oe + 1))
theorem aI.j7_P {F : Nat} {H0 : Hp} {Ri R0 : List Rs} {ay aj aA ap aq ao au av aH aw : Int} {ef cE cF cG : Sl} {aM : ON} {aB az : Nat} {aN : Cap} {ce : List Int} {bw : Bool} {C29_ : Int → Int → Int → Bool → Nat → Nat → Int → Hp → OA} {ep : Int → Int → Int → Bool → Int → Int → List Int → Int → Option (Int × Int × Bool)} (hC29 : aI.S29 H0 Ri R0 ay aj aA ap aq ao au av aH aw ef cE cF cG aM aB az aN ce bw C29_ ep) {oa ob oc sq ss oe : Int} {od : Bool} {qn : Nat} {H : Hp} (iS : aB = ce.length) (h0 : Out H0 Ri H (Rs.blk qn [.int .i64 sq, .int .i64 ss, .sl ⟨aM, aB, aN⟩] :: Rs.blk az [.int .i64 ay, .int .i64 aj, .sl ef, .int .i64 aA, .int .i64 ap, .sl cE, .int .i64 aq, .int .i64 ao, .sl ⟨aM, aB, aN⟩, .int .i64 au, .int .i64 av, .sl cF, .int .i64 aH, .int .i64 aw, .sl cG, .bool bw] :: R0) fun R => ROs (eInt .i64) H R ⟨aM, aB, aN⟩ ce) {r : Int × Int × Bool} (hp : aI.pj7 F ep oa ob oc od sq ss ce oe = some r) : ∃ v H', aI.j7 F (aO.tw F) (ch.tw F) C29_ oa ob oc od qn 0 oe H = some (v, H') ∧ aI.Q H0 Ri R0 ay aj aA ap aq ao au av aH aw ef cE cF cG aM aB az aN ce bw r v H' := by
 obtain ⟨w0, s0, gD⟩ := h0
 subst iS
 unfold aI.pj7 at hp
 unfold aI.j7
 exact hC29 rfl ⟨w0, s0, gD⟩ hp
def aI.pj8 (F : Nat) (ep : Int → Int → Int → Bool → Int → Int → List Int → Int → Option (Int × Int × Bool)) (og : Int) (oh : Int) (oi : Int) (oj : Bool) (su : Int) (sv : Int) (ce : List Int) (ol : Int) : Option (Int × Int × Bool) := aI.pj7 F ep og oh oi oj su sv ce ol
theorem aI.j8_P {F : Nat} {H0 : Hp} {Ri R0 : List Rs} {ay aj aA ap aq ao au av aH aw : Int} {ef cE cF cG : Sl} {aM : ON} {aB az : Nat} {aN : Cap} {ce : List Int} {bw : Bool} {C29_ : Int → Int → Int → Bool → Nat → Nat → Int → Hp → OA} {ep : Int → Int → Int → Bool → Int → Int → List Int → Int → Option (Int × Int × Bool)} (hC29 : aI.S29 H0 Ri R0 ay aj aA ap aq ao au av aH aw ef cE cF cG aM aB az aN ce bw C29_ ep) {og oh oi su sv ol : Int} {oj : Bool} {qo : Nat} {H : Hp} (iS : aB = ce.length) (h0 : Out H0 Ri H (Rs.blk qo [.int .i64 su, .int .i64 sv, .sl ⟨aM, aB, aN⟩] :: Rs.blk az [.int .i64 ay, .int .i64 aj, .sl ef, .int .i64 aA, .int .i64 ap, .sl cE, .int .i64 aq, .int .i64 ao, .sl ⟨aM, aB, aN⟩, .int .i64 au, .int .i64 av, .sl cF, .int .i64 aH, .int .i64 aw, .sl cG, .bool bw] :: R0) fun R => ROs (eInt .i64) H R ⟨aM, aB, aN⟩ ce) {r : Int × Int × Bool} (hp : aI.pj8 F ep og oh oi oj su sv ce ol = some r) : ∃ v H', aI.j8 F (aO.tw F) (ch.tw F) C29_ og oh oi oj qo 0 ol H = some (v, H') ∧ aI.Q H0 Ri R0 ay aj aA ap aq ao au av aH aw ef cE cF cG aM aB az aN ce bw r v H' := by
 obtain ⟨w0, s0, gD⟩ := h0
 subst iS
 unfold aI.pj8 at hp
 unfold aI.j8
 exact aI.j7_P (@hC29) rfl ⟨w0, s0, gD⟩ hp
def aI.pl469 (F : Nat) (ep : Int → Int → Int → Bool → Int → Int → List Int → Int → Option (Int × Int × Bool)) : Nat → Int → Int → Int → Bool → Int → Int → List Int → Int → Int → Option (Int × Int × Bool)
 | 0, _, _, _, _, _, _, _, _, _ => none
 | k + 1, gf, gw, gF, gL, lH, kz, ce, f_, gg => (bif (decide (gg < kz)) then ((ix ce (IntKind.i64.wrap ((IntKind.i64.wrap (f_ * kz)) + gg))).bind fun n2 => (ch.p F (gt ce n2)).bind fun r3 => (bif (r3 != 0) then ((bif (!gL) then (aI.pl469 F ep k gf f_ gg true lH kz ce f_ (IntKind.i64.wrap (gg + 1))) else ((ix ce (IntKind.i64.wrap ((IntKind.i64.wrap (gw * kz)) + gF))).bind fun n7 => (ch.p F (gt ce n7)).bind fun r8 => (bif (decide (r3 < r8)) then (aI.pj9 F (aI.pl469 F ep k) gf f_ gg true lH kz ce f_ gg) else (aI.pj9 F (aI.pl469 F ep k) gf gw gF gL lH kz ce f_ gg))))) else (aI.pl469 F ep k gf gw gF gL lH kz ce f_ (IntKind.i64.wrap (gg + 1))))) else (aI.pj8 F ep gf gw gF gL lH kz ce f_))
termination_by structural n => n
theorem aI.l469_P {F : Nat} {H0 : Hp} {Ri R0 : List Rs} {ay aj aA ap aq ao au av aH aw : Int} {ef cE cF cG : Sl} {aM : ON} {aB az : Nat} {aN : Cap} {ce : List Int} {bw : Bool} {C29_ : Int → Int → Int → Bool → Nat → Nat → Int → Hp → OA} {ep : Int → Int → Int → Bool → Int → Int → List Int → Int → Option (Int × Int × Bool)} (hC29 : aI.S29 H0 Ri R0 ay aj aA ap aq ao au av aH aw ef cE cF cG aM aB az aN ce bw C29_ ep) : ∀ k, aI.S469 H0 Ri R0 ay aj aA ap aq ao au av aH aw ef cE cF cG aM aB az aN ce bw (aI.l469 F (aO.tw F) (ch.tw F) C29_ k) (aI.pl469 F ep k) := by
 intro k
 induction k with
 | zero =>
  intro gf gw gF lH kz f_ gg gL gx H iS h0 r hp
  exact nomatch (show (none : Option (Int × Int × Bool)) = some r from hp)
 | succ k ih =>
  intro gf gw gF lH kz f_ gg gL gx H iS h0 r hp
  obtain ⟨w0, s0, gD⟩ := h0
  subst iS
  unfold aI.pl469 at hp
  unfold aI.l469
  refine bind_ex (ldI_of (w0.ld (i := 0) rfl rfl)) ?_
  refine bif_ex (fun hb => ?_) (fun hb => ?_)
  ·replace hp := bif_t hb hp
   refine bind_ex (ldI_of (w0.ld (i := 0) rfl rfl)) ?_
   refine bind_ex (ldI_of (w0.ld (i := 0) rfl rfl)) ?_
   refine bind_ex (ldSl_of (w0.ld (i := 0) rfl rfl)) ?_
   refine aO.inl ?_
   refine new_k w0 fun H1 w1 s1 => ?_
   refine bind_ex (ldSl_of (w1.ld (i := 0) rfl rfl)) ?_
   refine bind_ex (ldI_of (w1.ld (i := 0) rfl rfl)) ?_
   obtain ⟨n2, g2, hp⟩ := bind_some' hp
   obtain ⟨p2, q2, i2, h2, j2⟩ := ROs.ixr (gD.step s1) rfl g2
   refine bind_ex i2 ?_
   refine ⟨_, _, rfl, ?_⟩
   refine bind_ex rfl ?_
   have h2 : _ = [_] := h2
   subst h2
   refine bind_ex (ldI_of (j2 0 _ rfl)) ?_
   obtain ⟨r3, e3, hp⟩ := bind_some' hp
   refine call_ex (ch.P ⟨w1, trivial⟩ e3) ?_
   rintro _ H4 ⟨rfl, w4, s4, _⟩
   refine bind_ex rfl ?_
   refine bif_ex (fun hb => ?_) (fun hb => ?_)
   ·replace hp := bif_t hb hp
    refine bif_ex (fun hb => ?_) (fun hb => ?_)
    ·replace hp := bif_t hb hp
     obtain ⟨w5, s5⟩ := w4.pick' [1, 2] 3 rfl rfl rfl
     dsimp only [pk, pks, nth, List.drop] at w5 s5
     exact ih rfl ⟨w5, (s0.trans (s1.trans (s4.trans s5))), (gD.step (s1.trans (s4.trans s5)))⟩ hp
    ·replace hp := bif_f hb hp
     refine bind_ex (ldI_of (w4.ld (i := 1) rfl rfl)) ?_
     refine bind_ex (ldI_of (w4.ld (i := 1) rfl rfl)) ?_
     refine bind_ex (ldSl_of (w4.ld (i := 1) rfl rfl)) ?_
     refine aO.inl ?_
     refine new_k w4 fun H6 w6 s6 => ?_
     refine bind_ex (ldSl_of (w6.ld (i := 0) rfl rfl)) ?_
     refine bind_ex (ldI_of (w6.ld (i := 0) rfl rfl)) ?_
     obtain ⟨n7, g7, hp⟩ := bind_some' hp
     obtain ⟨p7, q7, i7, h7, j7⟩ := ROs.ixr (gD.step (s1.trans (s4.trans s6))) rfl g7
     refine bind_ex i7 ?_
     refine ⟨_, _, rfl, ?_⟩
     refine bind_ex rfl ?_
     have h7 : _ = [_] := h7
     subst h7
     refine bind_ex (ldI_of (j7 0 _ rfl)) ?_
     obtain ⟨r8, e8, hp⟩ := bind_some' hp
     refine call_ex (ch.P ⟨w6, trivial⟩ e8) ?_
     rintro _ H9 ⟨rfl, w9, s9, _⟩
     refine bind_ex rfl ?_
     refine bif_ex (fun hb => ?_) (fun hb => ?_)
     ·replace hp := bif_t hb hp
      obtain ⟨w10, s10⟩ := w9.pick' [2, 3] 4 rfl rfl rfl
      dsimp only [pk, pks, nth, List.drop] at w10 s10
      exact aI.j9_P (@ih) rfl ⟨w10, (s0.trans (s1.trans (s4.trans (s6.trans (s9.trans s10))))), (gD.step (s1.trans (s4.trans (s6.trans (s9.trans s10)))))⟩ hp
     ·replace hp := bif_f hb hp
      obtain ⟨w11, s11⟩ := w9.pick' [2, 3] 4 rfl rfl rfl
      dsimp only [pk, pks, nth, List.drop] at w11 s11
      exact aI.j9_P (@ih) rfl ⟨w11, (s0.trans (s1.trans (s4.trans (s6.trans (s9.trans s11))))), (gD.step (s1.trans (s4.trans (s6.trans (s9.trans s11)))))⟩ hp
   ·replace hp := bif_f hb hp
    obtain ⟨w12, s12⟩ := w4.pick' [1, 2] 3 rfl rfl rfl
    dsimp only [pk, pks, nth, List.drop] at w12 s12
    exact ih rfl ⟨w12, (s0.trans (s1.trans (s4.trans s12))), (gD.step (s1.trans (s4.trans s12)))⟩ hp
  ·replace hp := bif_f hb hp
   exact aI.j8_P (@hC29) rfl ⟨w0, s0, gD⟩ hp
def aI.pj5 (F : Nat)  (nY : Int) (nZ : Int) (n_ : Bool) : Option (Int × Int × Bool) := some (nY, nZ, n_)
theorem aI.j5_P {F : Nat} {H0 : Hp} {Ri R0 : List Rs} {ay aj aA ap aq ao au av aH aw : Int} {ef cE cF cG : Sl} {aM : ON} {aB az : Nat} {aN : Cap} {ce : List Int} {bw : Bool}  {nY nZ : Int} {n_ : Bool} {H : Hp} (iS : aB = ce.length) (h0 : Out H0 Ri H (Rs.blk az [.int .i64 ay, .int .i64 aj, .sl ef, .int .i64 aA, .int .i64 ap, .sl cE, .int .i64 aq, .int .i64 ao, .sl ⟨aM, aB, aN⟩, .int .i64 au, .int .i64 av, .sl cF, .int .i64 aH, .int .i64 aw, .sl cG, .bool bw] :: R0) fun R => ROs (eInt .i64) H R ⟨aM, aB, aN⟩ ce) {r : Int × Int × Bool} (hp : aI.pj5 F  nY nZ n_ = some r) : ∃ v H', aI.j5 F (aO.tw F) (ch.tw F)  nY nZ n_ H = some (v, H') ∧ aI.Q H0 Ri R0 ay aj aA ap aq ao au av aH aw ef cE cF cG aM aB az aN ce bw r v H' := by
 obtain ⟨w0, s0, gD⟩ := h0
 subst iS
 unfold aI.pj5 at hp
 unfold aI.j5
 obtain rfl := Option.some.inj hp
 exact ⟨_, _, rfl, rfl, w0, s0, trivial⟩
def aI.pl29 (F : Nat)  : Nat → Int → Int → Int → Bool → Int → Int → List Int → Int → Option (Int × Int × Bool)
 | 0, _, _, _, _, _, _, _, _ => none
 | k + 1, cR, eJ, fl, jb, nx, oS, ce, jK => (bif (decide (jK < nx)) then (aI.pl469 F (aI.pl29 F k) F cR eJ fl jb nx oS ce jK cR) else (aI.pj5 F eJ fl jb))
termination_by structural n => n
theorem aI.l29_P {F : Nat} {H0 : Hp} {Ri R0 : List Rs} {ay aj aA ap aq ao au av aH aw : Int} {ef cE cF cG : Sl} {aM : ON} {aB az : Nat} {aN : Cap} {ce : List Int} {bw : Bool}  : ∀ k, aI.S29 H0 Ri R0 ay aj aA ap aq ao au av aH aw ef cE cF cG aM aB az aN ce bw (aI.l29 F (aO.tw F) (ch.tw F)  k) (aI.pl29 F  k) := by
 intro k
 induction k with
 | zero =>
  intro cR eJ fl nx oS jK jb j_ H iS h0 r hp
  exact nomatch (show (none : Option (Int × Int × Bool)) = some r from hp)
 | succ k ih =>
  intro cR eJ fl nx oS jK jb j_ H iS h0 r hp
  obtain ⟨w0, s0, gD⟩ := h0
  subst iS
  unfold aI.pl29 at hp
  unfold aI.l29
  refine bind_ex (ldI_of (w0.ld (i := 0) rfl rfl)) ?_
  refine bif_ex (fun hb => ?_) (fun hb => ?_)
  ·replace hp := bif_t hb hp
   exact aI.l469_P (@ih) F rfl ⟨w0, s0, gD⟩ hp
  ·replace hp := bif_f hb hp
   obtain ⟨w1, s1⟩ := w0.pick' [1] 2 rfl rfl rfl
   dsimp only [pk, pks, nth, List.drop] at w1 s1
   exact aI.j5_P rfl ⟨w1, (s0.trans s1), (gD.step s1)⟩ hp
def aI.p (F : Nat) (aY : Int) (aT : Int) (db : List Int) (ae : Int) : Option (Int × Int × Bool) := aI.pl29 F F ae 0 0 false aY aT db ae
theorem aI.P {F : Nat} {bk aX bl bb aY aT bc bf bv bg ae : Int} {ee cW cX cY : Sl} {cm : ON} {bA aa : Nat} {cn : Cap} {db : List Int} {ax : Bool} {H : Hp} {R0 : List Rs} (iR : bA = db.length) (h0 : Inn H (Rs.blk aa [.int .i64 bk, .int .i64 aX, .sl ee, .int .i64 bl, .int .i64 bb, .sl cW, .int .i64 aY, .int .i64 aT, .sl ⟨cm, bA, cn⟩, .int .i64 bc, .int .i64 bf, .sl cX, .int .i64 bv, .int .i64 bg, .sl cY, .bool ax] :: R0) fun R => ROs (eInt .i64) H R ⟨cm, bA, cn⟩ db) {r : Int × Int × Bool} (hp : aI.p F aY aT db ae = some r) : ∃ v H', aI.tw F aa 0 ae H = some (v, H') ∧ aI.Q H (Rs.blk aa [.int .i64 bk, .int .i64 aX, .sl ee, .int .i64 bl, .int .i64 bb, .sl cW, .int .i64 aY, .int .i64 aT, .sl ⟨cm, bA, cn⟩, .int .i64 bc, .int .i64 bf, .sl cX, .int .i64 bv, .int .i64 bg, .sl cY, .bool ax] :: R0) R0 bk aX bl bb aY aT bc bf bv bg ee cW cX cY cm bA aa cn db ax r v H' := by
 obtain ⟨w0, g_⟩ := h0
 subst iR
 unfold aI.p at hp
 unfold aI.tw aI.twX
 have s0 := w0.rf
 refine bind_ex (ldI_of (w0.ld (i := 0) rfl rfl)) ?_
 refine bind_ex (ldI_of (w0.ld (i := 0) rfl rfl)) ?_
 refine bind_ex (ldSl_of (w0.ld (i := 0) rfl rfl)) ?_
 refine new_k w0 fun H1 w1 s1 => ?_
 refine st_k w1 (i := 0) rfl rfl rfl fun H2 w2 s2 => ?_
 dsimp only [List.set] at w2 s2
 refine st_k w2 (i := 0) rfl rfl rfl fun H3 w3 s3 => ?_
 dsimp only [List.set] at w3 s3
 refine st_k w3 (i := 0) rfl rfl rfl fun H4 w4 s4 => ?_
 dsimp only [List.set] at w4 s4
 exact aI.l29_P F rfl ⟨w4, (s0.trans (s1.trans (s2.trans (s3.trans s4)))), (g_.step (s1.trans (s2.trans (s3.trans s4))))⟩ hp
def bO.Q (H0 : Hp) (Ri R0 : List Rs) (cT : ON) (bJ : Nat) (cU : Cap) (hJ : Bool) (hK hL : List AV) (r : List Int) (v : AV) (H' : Hp) : Prop := ∃ lr : List AV, v = (.tup []) ∧ bJ = (r).length ∧ Out H0 Ri H' (Rs.ow hJ ⟨cT, bJ, cU⟩ (eInt .i64).z hK lr hL :: R0) fun R => CR (eInt .i64) H' R lr (r)
def bO.S7 (H0 : Hp) (Ri R0 : List Rs) (hN : ON) (gy : Nat) (hO : Cap) (ju : Bool) (jv jw : List AV) (C : Int → Int → Nat → Nat → Int → Int → Hp → OA) (pC : Int → Int → Int → List Int → Int → Int → Option (List Int)) : Prop := ∀ {eY fe ny jU fJ eZ : Int} {gM : List Int} {mu : List AV} {cI : Nat}, ∀ {H : Hp}, gy = gM.length → (Out H0 Ri H (Rs.ow ju ⟨hN, gy, hO⟩ (eInt .i64).z jv mu jw :: Rs.blk cI [.int .i64 ny, .int .i64 jU, .sl ⟨hN, gy, hO⟩] :: R0) fun R => CR (eInt .i64) H R mu gM) → ∀ {r : List Int}, pC eY fe jU gM fJ eZ = some r → ∃ v H', C eY fe cI 0 fJ eZ H = some (v, H') ∧ bO.Q H0 Ri R0 hN gy hO ju jv jw r v H'
def bO.pl7 (F : Nat)  : Nat → Int → Int → Int → List Int → Int → Int → Option (List Int)
 | 0, _, _, _, _, _, _ => none
 | k + 1, eY, fe, jU, gM, fJ, eZ => (bif (decide (eZ < fJ)) then ((ix gM (IntKind.i64.wrap ((IntKind.i64.wrap (eY * jU)) + eZ))).bind fun n2 => (ix gM (IntKind.i64.wrap ((IntKind.i64.wrap (fe * jU)) + eZ))).bind fun n5 => (some (gM.set n2 (gt gM n5))).bind fun l7 => (some (l7.set n5 (gt gM n2))).bind fun l9 => bO.pl7 F k eY fe jU l9 fJ (IntKind.i64.wrap (eZ + 1))) else (some gM))
termination_by structural n => n
theorem bO.l7_P {F : Nat} {H0 : Hp} {Ri R0 : List Rs} {hN : ON} {gy : Nat} {hO : Cap} {ju : Bool} {jv jw : List AV}  : ∀ k, bO.S7 H0 Ri R0 hN gy hO ju jv jw (bO.l7 F (aO.tw F)  k) (bO.pl7 F  k) := by
 intro k
 induction k with
 | zero =>
  intro eY fe ny jU fJ eZ gM mu cI H pM h0 r hp
  exact nomatch (show (none : Option (List Int)) = some r from hp)
 | succ k ih =>
  intro eY fe ny jU fJ eZ gM mu cI H pM h0 r hp
  obtain ⟨w0, s0, lz⟩ := h0
  subst pM
  unfold bO.pl7 at hp
  unfold bO.l7
  refine bif_ex (fun hb => ?_) (fun hb => ?_)
  ·replace hp := bif_t hb hp
   refine bind_ex (ldI_of (w0.ld (i := 1) rfl rfl)) ?_
   refine bind_ex (ldI_of (w0.ld (i := 1) rfl rfl)) ?_
   refine bind_ex (ldSl_of (w0.ld (i := 1) rfl rfl)) ?_
   refine aO.inl ?_
   refine new_k w0 fun H1 w1 s1 => ?_
   refine bind_ex (ldSl_of (w1.ld (i := 0) rfl rfl)) ?_
   refine bind_ex (ldI_of (w1.ld (i := 0) rfl rfl)) ?_
   obtain ⟨n2, g2, hp⟩ := bind_some' hp
   obtain ⟨p2, q2, i2, h2, j2⟩ := W.ixo (E := (eInt .i64)) w1 (i := 1) rfl rfl (lz.step s1) g2
   refine bind_ex i2 ?_
   refine ⟨_, _, rfl, ?_⟩
   refine bind_ex rfl ?_
   refine ifs_ex (W.cons_of (Rn := [_]) w0 w1 s1) ?_
   refine bind_ex (ldI_of (w1.ld (i := 2) rfl rfl)) ?_
   refine bind_ex (ldI_of (w1.ld (i := 2) rfl rfl)) ?_
   refine bind_ex (ldSl_of (w1.ld (i := 2) rfl rfl)) ?_
   refine aO.inl ?_
   refine new_k w1 fun H4 w4 s4 => ?_
   refine bind_ex (ldSl_of (w4.ld (i := 0) rfl rfl)) ?_
   refine bind_ex (ldI_of (w4.ld (i := 0) rfl rfl)) ?_
   obtain ⟨n5, g5, hp⟩ := bind_some' hp
   obtain ⟨p5, q5, i5, h5, j5⟩ := W.ixo (E := (eInt .i64)) w4 (i := 2) rfl rfl (lz.step (s1.trans s4)) g5
   refine bind_ex i5 ?_
   refine ⟨_, _, rfl, ?_⟩
   refine bind_ex rfl ?_
   have h5 : _ = [_] := h5
   subst h5
   refine bind_ex (ldI_of (j5 0 _ rfl)) ?_
   obtain ⟨p6, q6, i6, h6, j6⟩ := W.ixo (E := (eInt .i64)) w4 (i := 2) rfl rfl (lz.step (s1.trans s4)) g2
   obtain rfl := Option.some.inj (i2.symm.trans i6)
   have h6 : _ = [_] := h6
   subst h6
   refine bind_ex (ldI_of (j6 0 _ rfl)) ?_
   obtain ⟨l7, e7, hp⟩ := bind_some' hp
   refine sto_k (eInt .i64) w4 (i := 2) (j := 0) (p := p2) rfl rfl (lz.step (s1.trans s4)) g2 i2 e7 rfl rfl (fun _ h => by have h : _ = [_] := h; subst h; exact rfl) fun H8 k8 w8 s8 c8 => ?_
   dsimp only [List.set] at w8 s8 c8
   obtain ⟨l9, e9, hp⟩ := bind_some' hp
   refine sto_k (eInt .i64) w8 (i := 2) (j := 0) (p := p5) rfl rfl c8 (ix_len g5 (st_len e7)) i5 e9 rfl rfl (fun _ h => by have h : _ = [_] := h; subst h; exact rfl) fun H10 k10 w10 s10 c10 => ?_
   dsimp only [List.set] at w10 s10 c10
   obtain ⟨w11, s11⟩ := w10.pick' [2, 3] 4 rfl rfl rfl
   dsimp only [pk, pks, nth, List.drop] at w11 s11
   exact ih ((st_len e7).symm.trans (st_len e9).symm) ⟨w11, (s0.trans (s1.trans (s4.trans (s8.trans (s10.trans s11))))), (c10.step s11)⟩ hp
  ·replace hp := bif_f hb hp
   obtain ⟨w12, s12⟩ := w0.pick' [0] 2 rfl rfl rfl
   dsimp only [pk, pks, nth, List.drop] at w12 s12
   obtain rfl := Option.some.inj hp
   exact ⟨_, _, rfl, _, rfl, rfl, w12, (s0.trans s12), (lz.step s12)⟩
def bO.p (F : Nat) (ac : Int) (bj : List Int) (ag : Int) (bh : Int) : Option (List Int) := bO.pl7 F F ag bh ac bj ac 0
theorem bO.P {F : Nat} {aa ac ag bh : Int} {cT : ON} {bJ : Nat} {cU : Cap} {bj : List Int} {hJ : Bool} {hK hL kj : List AV} {H : Hp} {R0 : List Rs} (fp : bJ = bj.length) (h0 : Inn H (Rs.ow hJ ⟨cT, bJ, cU⟩ (eInt .i64).z hK kj hL :: R0) fun R => CR (eInt .i64) H R kj bj) {r : List Int} (hp : bO.p F ac bj ag bh = some r) : ∃ v H', bO.tw F aa ac ⟨cT, bJ, cU⟩ ag bh H = some (v, H') ∧ bO.Q H (Rs.ow hJ ⟨cT, bJ, cU⟩ (eInt .i64).z hK kj hL :: R0) R0 cT bJ cU hJ hK hL r v H' := by
 obtain ⟨w0, eI⟩ := h0
 subst fp
 unfold bO.p at hp
 unfold bO.tw bO.twX
 have s0 := w0.rf
 refine new_k w0 fun H1 w1 s1 => ?_
 refine bind_ex (ldI_of (w1.ld (i := 0) rfl rfl)) ?_
 obtain ⟨w2, s2⟩ := w1.pick' [1, 0] 2 rfl rfl rfl
 dsimp only [pk, pks, nth, List.drop] at w2 s2
 exact bO.l7_P F rfl ⟨w2, (s0.trans (s1.trans s2)), (eI.step (s1.trans s2))⟩ hp
def bP.Q (H0 : Hp) (Ri R0 : List Rs) (cT : ON) (bJ : Nat) (cU : Cap) (hJ : Bool) (hK hL : List AV) (r : List Int) (v : AV) (H' : Hp) : Prop := ∃ lr : List AV, v = (.tup []) ∧ bJ = (r).length ∧ Out H0 Ri H' (Rs.ow hJ ⟨cT, bJ, cU⟩ (eInt .i64).z hK lr hL :: R0) fun R => CR (eInt .i64) H' R lr (r)
def bP.S7 (H0 : Hp) (Ri R0 : List Rs) (hN : ON) (gy : Nat) (hO : Cap) (ju : Bool) (jv jw : List AV) (C : Int → Int → Nat → Nat → Int → Int → Hp → OA) (pC : Int → Int → Int → List Int → Int → Int → Option (List Int)) : Prop := ∀ {eY fe ny jU fJ eZ : Int} {gM : List Int} {mu : List AV} {cI : Nat}, ∀ {H : Hp}, gy = gM.length → (Out H0 Ri H (Rs.ow ju ⟨hN, gy, hO⟩ (eInt .i64).z jv mu jw :: Rs.blk cI [.int .i64 ny, .int .i64 jU, .sl ⟨hN, gy, hO⟩] :: R0) fun R => CR (eInt .i64) H R mu gM) → ∀ {r : List Int}, pC eY fe jU gM fJ eZ = some r → ∃ v H', C eY fe cI 0 fJ eZ H = some (v, H') ∧ bP.Q H0 Ri R0 hN gy hO ju jv jw r v H'
def bP.pl7 (F : Nat)  : Nat → Int → Int → Int → List Int → Int → Int → Option (List Int)
 | 0, _, _, _, _, _, _ => none
 | k + 1, eY, fe, jU, gM, fJ, eZ => (bif (decide (eZ < fJ)) then ((ix gM (IntKind.i64.wrap ((IntKind.i64.wrap (eZ * jU)) + eY))).bind fun n2 => (ix gM (IntKind.i64.wrap ((IntKind.i64.wrap (eZ * jU)) + fe))).bind fun n5 => (some (gM.set n2 (gt gM n5))).bind fun l7 => (some (l7.set n5 (gt gM n2))).bind fun l9 => bP.pl7 F k eY fe jU l9 fJ (IntKind.i64.wrap (eZ + 1))) else (some gM))
termination_by structural n => n
theorem bP.l7_P {F : Nat} {H0 : Hp} {Ri R0 : List Rs} {hN : ON} {gy : Nat} {hO : Cap} {ju : Bool} {jv jw : List AV}  : ∀ k, bP.S7 H0 Ri R0 hN gy hO ju jv jw (bP.l7 F (aO.tw F)  k) (bP.pl7 F  k) := by
 intro k
 induction k with
 | zero =>
  intro eY fe ny jU fJ eZ gM mu cI H pM h0 r hp
  exact nomatch (show (none : Option (List Int)) = some r from hp)
 | succ k ih =>
  intro eY fe ny jU fJ eZ gM mu cI H pM h0 r hp
  obtain ⟨w0, s0, lz⟩ := h0
  subst pM
  unfold bP.pl7 at hp
  unfold bP.l7
  refine bif_ex (fun hb => ?_) (fun hb => ?_)
  ·replace hp := bif_t hb hp
   refine bind_ex (ldI_of (w0.ld (i := 1) rfl rfl)) ?_
   refine bind_ex (ldI_of (w0.ld (i := 1) rfl rfl)) ?_
   refine bind_ex (ldSl_of (w0.ld (i := 1) rfl rfl)) ?_
   refine aO.inl ?_
   refine new_k w0 fun H1 w1 s1 => ?_
   refine bind_ex (ldSl_of (w1.ld (i := 0) rfl rfl)) ?_
   refine bind_ex (ldI_of (w1.ld (i := 0) rfl rfl)) ?_
   obtain ⟨n2, g2, hp⟩ := bind_some' hp
   obtain ⟨p2, q2, i2, h2, j2⟩ := W.ixo (E := (eInt .i64)) w1 (i := 1) rfl rfl (lz.step s1) g2
   refine bind_ex i2 ?_
   refine ⟨_, _, rfl, ?_⟩
   refine bind_ex rfl ?_
   refine ifs_ex (W.cons_of (Rn := [_]) w0 w1 s1) ?_
   refine bind_ex (ldI_of (w1.ld (i := 2) rfl rfl)) ?_
   refine bind_ex (ldI_of (w1.ld (i := 2) rfl rfl)) ?_
   refine bind_ex (ldSl_of (w1.ld (i := 2) rfl rfl)) ?_
   refine aO.inl ?_
   refine new_k w1 fun H4 w4 s4 => ?_
   refine bind_ex (ldSl_of (w4.ld (i := 0) rfl rfl)) ?_
   refine bind_ex (ldI_of (w4.ld (i := 0) rfl rfl)) ?_
   obtain ⟨n5, g5, hp⟩ := bind_some' hp
   obtain ⟨p5, q5, i5, h5, j5⟩ := W.ixo (E := (eInt .i64)) w4 (i := 2) rfl rfl (lz.step (s1.trans s4)) g5
   refine bind_ex i5 ?_
   refine ⟨_, _, rfl, ?_⟩
   refine bind_ex rfl ?_
   have h5 : _ = [_] := h5
   subst h5
   refine bind_ex (ldI_of (j5 0 _ rfl)) ?_
   obtain ⟨p6, q6, i6, h6, j6⟩ := W.ixo (E := (eInt .i64)) w4 (i := 2) rfl rfl (lz.step (s1.trans s4)) g2
   obtain rfl := Option.some.inj (i2.symm.trans i6)
   have h6 : _ = [_] := h6
   subst h6
   refine bind_ex (ldI_of (j6 0 _ rfl)) ?_
   obtain ⟨l7, e7, hp⟩ := bind_some' hp
   refine sto_k (eInt .i64) w4 (i := 2) (j := 0) (p := p2) rfl rfl (lz.step (s1.trans s4)) g2 i2 e7 rfl rfl (fun _ h => by have h : _ = [_] := h; subst h; exact rfl) fun H8 k8 w8 s8 c8 => ?_
   dsimp only [List.set] at w8 s8 c8
   obtain ⟨l9, e9, hp⟩ := bind_some' hp
   refine sto_k (eInt .i64) w8 (i := 2) (j := 0) (p := p5) rfl rfl c8 (ix_len g5 (st_len e7)) i5 e9 rfl rfl (fun _ h => by have h : _ = [_] := h; subst h; exact rfl) fun H10 k10 w10 s10 c10 => ?_
   dsimp only [List.set] at w10 s10 c10
   obtain ⟨w11, s11⟩ := w10.pick' [2, 3] 4 rfl rfl rfl
   dsimp only [pk, pks, nth, List.drop] at w11 s11
   exact ih ((st_len e7).symm.trans (st_len e9).symm) ⟨w11, (s0.trans (s1.trans (s4.trans (s8.trans (s10.trans s11))))), (c10.step s11)⟩ hp
  ·replace hp := bif_f hb hp
   obtain ⟨w12, s12⟩ := w0.pick' [0] 2 rfl rfl rfl
   dsimp only [pk, pks, nth, List.drop] at w12 s12
   obtain rfl := Option.some.inj hp
   exact ⟨_, _, rfl, _, rfl, rfl, w12, (s0.trans s12), (lz.step s12)⟩
def bP.p (F : Nat) (aa : Int) (ac : Int) (bj : List Int) (ag : Int) (bh : Int) : Option (List Int) := bP.pl7 F F ag bh ac bj aa 0
theorem bP.P {F : Nat} {aa ac ag bh : Int} {cT : ON} {bJ : Nat} {cU : Cap} {bj : List Int} {hJ : Bool} {hK hL kj : List AV} {H : Hp} {R0 : List Rs} (fp : bJ = bj.length) (h0 : Inn H (Rs.ow hJ ⟨cT, bJ, cU⟩ (eInt .i64).z hK kj hL :: R0) fun R => CR (eInt .i64) H R kj bj) {r : List Int} (hp : bP.p F aa ac bj ag bh = some r) : ∃ v H', bP.tw F aa ac ⟨cT, bJ, cU⟩ ag bh H = some (v, H') ∧ bP.Q H (Rs.ow hJ ⟨cT, bJ, cU⟩ (eInt .i64).z hK kj hL :: R0) R0 cT bJ cU hJ hK hL r v H' := by
 obtain ⟨w0, eI⟩ := h0
 subst fp
 unfold bP.p at hp
 unfold bP.tw bP.twX
 have s0 := w0.rf
 refine new_k w0 fun H1 w1 s1 => ?_
 refine bind_ex (ldI_of (w1.ld (i := 0) rfl rfl)) ?_
 obtain ⟨w2, s2⟩ := w1.pick' [1, 0] 2 rfl rfl rfl
 dsimp only [pk, pks, nth, List.drop] at w2 s2
 exact bP.l7_P F rfl ⟨w2, (s0.trans (s1.trans s2)), (eI.step (s1.trans s2))⟩ hp
def cu.Q (H0 : Hp) (Ri R0 : List Rs)  (r : List Int) (v : AV) (H' : Hp) : Prop := ∃ o0a : ON, ∃ o0n : Nat, ∃ o0c : Cap, v = (.sl ⟨o0a, o0n, o0c⟩) ∧ o0n = (r).length ∧ Out H0 Ri H' (R0) fun R => ROs (eInt .i64) H' R ⟨o0a, o0n, o0c⟩ (r)
def cu.p (F : Nat) (ac : Int) (bj : List Int) (ag : Int) : Option (List Int) := (cutf bj (IntKind.i64.wrap (ag * ac)) (IntKind.i64.wrap ((IntKind.i64.wrap (ag + 1)) * ac))).bind fun l2 => some l2
theorem cu.P {F : Nat} {aa ac ag : Int} {cT : ON} {bJ : Nat} {cU : Cap} {bj : List Int} {H : Hp} {R0 : List Rs} (fp : bJ = bj.length) (h0 : Inn H R0 fun R => ROs (eInt .i64) H R ⟨cT, bJ, cU⟩ bj) {r : List Int} (hp : cu.p F ac bj ag = some r) : ∃ v H', cu.tw F aa ac ⟨cT, bJ, cU⟩ ag H = some (v, H') ∧ cu.Q H R0 R0  r v H' := by
 obtain ⟨w0, eI⟩ := h0
 subst fp
 unfold cu.p at hp
 unfold cu.tw cu.twX
 have s0 := w0.rf
 refine new_k w0 fun H1 w1 s1 => ?_
 refine bind_ex (ldSl_of (w1.ld (i := 0) rfl rfl)) ?_
 refine bind_ex (ldI_of (w1.ld (i := 0) rfl rfl)) ?_
 refine bind_ex (ldI_of (w1.ld (i := 0) rfl rfl)) ?_
 obtain ⟨l2, e2, hp⟩ := bind_some' hp
 obtain ⟨a2, d2, h2, f2⟩ := ROs.cutf (eI.step s1) rfl e2
 refine bind_ex h2 ?_
 obtain ⟨w3, s3⟩ := w1.pick' [] 1 rfl rfl rfl
 dsimp only [pk, pks, nth, List.drop] at w3 s3
 obtain rfl := Option.some.inj hp
 exact ⟨_, _, rfl, _, _, _, rfl, rfl, w3, (s0.trans (s1.trans s3)), (f2.step s3)⟩
def aW.Q (H0 : Hp) (Ri R0 : List Rs) (bk aX bl bb aY aT bc bf bv bg : Int) (cN dW cm dX dY : ON) (bK cZ bA c_ da aa : Nat) (cO dZ cn d_ ea : Cap) (eN fq eO fr ft ax : Bool) (eP eQ fu fv eR eS fw fx fy fz : List AV) (r : Bool × List Int × List Int × List Int × List Int × List Int) (v : AV) (H' : Hp) : Prop := ∃ hT : List AV, ∃ jg : List AV, ∃ hU : List AV, ∃ jh : List AV, ∃ ji : List AV, v = (.bool r.1) ∧ bK = (r.2.1).length ∧ cZ = (r.2.2.1).length ∧ bA = (r.2.2.2.1).length ∧ c_ = (r.2.2.2.2.1).length ∧ da = (r.2.2.2.2.2).length ∧ Out H0 Ri H' (Rs.ow eN ⟨cN, bK, cO⟩ (eInt .i64).z eP hT eQ :: Rs.ow fq ⟨dW, cZ, dZ⟩ (eInt .i64).z fu jg fv :: Rs.ow eO ⟨cm, bA, cn⟩ (eInt .i64).z eR hU eS :: Rs.ow fr ⟨dX, c_, d_⟩ (eInt .i64).z fw jh fx :: Rs.ow ft ⟨dY, da, ea⟩ (eInt .i64).z fy ji fz :: Rs.blk aa [.int .i64 bk, .int .i64 aX, .sl ⟨cN, bK, cO⟩, .int .i64 bl, .int .i64 bb, .sl ⟨dW, cZ, dZ⟩, .int .i64 aY, .int .i64 aT, .sl ⟨cm, bA, cn⟩, .int .i64 bc, .int .i64 bf, .sl ⟨dX, c_, d_⟩, .int .i64 bv, .int .i64 bg, .sl ⟨dY, da, ea⟩, .bool ax] :: R0) fun R => CR (eInt .i64) H' R hT (r.2.1) ∧ CR (eInt .i64) H' R jg (r.2.2.1) ∧ CR (eInt .i64) H' R hU (r.2.2.2.1) ∧ CR (eInt .i64) H' R jh (r.2.2.2.2.1) ∧ CR (eInt .i64) H' R ji (r.2.2.2.2.2)
theorem aW.neg_l {F : Nat} {C : Nat → Nat → Int → Sl → Int → Int → Hp → OA} {y0 o : Nat} {y1 : Int} {y94 : Sl} {y95 y96 : Int} {R : List Rs} {t : Bool} {pre rest : List AV} {s : Sl} {i lo n : Nat} {c : Cap} {H : Hp} {cells : List AV} {l : List Int}
  (ht : ∀ z o, c ≠ .tip z o) (hd : s.ad = s.a) (w : W H R) (hi : R[i]? = some (.ow t s (eInt .i64).z pre cells rest)) (cr : CR (eInt .i64) H R cells l) (hb : lo + n ≤ l.length) : ∀ (k j : Nat), n - j < k → j ≤ n → l.length < 4611686018427387904 →
  ∃ H' cells', aW.l2095707 F (aI.tw F) (bO.tw F) (bP.tw F) (aO.tw F) (cu.tw F) C k y0 o y1 y94 y95 y96 ⟨s.a.map (fun p => (p.1, p.2 + lo * 1)), n, c⟩ (n : Int) (j : Int) H = C y0 o y1 y94 y95 (IntKind.i64.wrap (y96 + 1)) H' ∧
   W H' (R.set i (.ow t s (eInt .i64).z pre cells' rest)) ∧ Fr H R H' (R.set i (.ow t s (eInt .i64).z pre cells' rest)) ∧ CR (eInt .i64) H' (R.set i (.ow t s (eInt .i64).z pre cells' rest)) cells' (negr l (lo + j) (n - j)) := by
 intro k
 induction k generalizing H cells l R with
 | zero => intro j h; exact absurd h (Nat.not_lt_zero _)
 | succ k ih =>
  intro j hk hj hlen
  unfold aW.l2095707
  by_cases c1 : j < n
  ·have e1 : decide ((j : Int) < (n : Int)) = true := decide_eq_true (by omega)
   have hsn := w.own_n hi cr
   have hix : ix l ((lo : Int) + j) = some (lo + j) := by unfold ix; rw [if_pos ⟨by omega, by omega⟩]; rfl
   obtain ⟨p, cs, g1, g2, g3⟩ := W.ixo (E := eInt .i64) (z := 1) w hi rfl cr hix
   have g2 : cs = [_] := g2
   subst g2
   have hv : Sl.idx ⟨s.a.map (fun p => (p.1, p.2 + lo * 1)), n, c⟩ (j : Int) 1 = some p := by rw [vidx ht hd (by omega) (by omega) (by rw [hsn]; omega)]; exact g1
   have hset : ∀ cells', (R.set i (.ow t s (eInt .i64).z pre cells' rest))[i]? = some (.ow t s (eInt .i64).z pre cells' rest) := fun cells' => List.getElem?_set_self (List.getElem?_eq_some_iff.1 hi).1
   obtain ⟨H', cells', h1, h2, h3, h4⟩ := W.sto (E := eInt .i64) (j := 0) (v := .int .i64 (IntKind.i64.wrap (0 - gt l (lo + j)))) (x' := IntKind.i64.wrap (0 - gt l (lo + j))) w hi rfl cr (n := lo + j) (k := (lo : Int) + j) (by omega) (by omega) g1 (by decide) rfl (fun _ h => by have h : _ = [_] := h; subst h; rfl)
   have hw : IntKind.i64.wrap ((j : Int) + 1) = ((j + 1 : Nat) : Int) := by rw [w64_in (by omega) (by omega)]; omega
   have hp0 : H.ldI .i64 p.1 p.2 = some (gt l (lo + j)) := ldI_of (g3 0 _ rfl)
   have hst : H.st p.1 p.2 (.int .i64 (IntKind.i64.wrap (0 - gt l (lo + j)))) = some H' := h1
   simp only [e1, cond_true, hv, Option.bind_some, hp0, hst, hw]
   obtain ⟨H2, cells2, q1, q2, q3, q4⟩ := ih h2 (hset _) h4 (by rw [List.length_set]; exact hb) (j + 1) (by omega) (by omega) (by rw [List.length_set]; exact hlen)
   refine ⟨H2, cells2, q1, ?_, ?_, ?_⟩
   ·rw [List.set_set] at q2; exact q2
   ·rw [List.set_set] at q3; exact h3.trans q3
   ·rw [List.set_set] at q4
    rw [show n - j = (n - (j + 1)) + 1 by omega]
    exact q4
  ·have e1 : decide ((j : Int) < (n : Int)) = false := decide_eq_false (by omega)
   simp only [e1, cond_false]
   have : n - j = 0 := by omega
   refine ⟨H, cells, rfl, ?_, ?_, ?_⟩
   all_goals
    have e : R.set i (.ow t s (eInt .i64).z pre cells rest) = R := by
     apply List.ext_getElem?
     intro j
     by_cases ej : i = j
     ·subst ej; rw [List.getElem?_set_self (List.getElem?_eq_some_iff.1 hi).1, hi]
     ·rw [List.getElem?_set_ne ej]
    rw [e]
   ·exact w
   ·exact Fr.refl _ _
   ·rw [this]; exact cr
theorem aW.neg_k {F : Nat} {C : Nat → Nat → Int → Sl → Int → Int → Hp → OA} {y0 o : Nat} {y1 : Int} {y94 : Sl} {y95 y96 : Int} {R : List Rs} {t : Bool} {pre rest : List AV} {s : Sl} {i : Nat} {c : Cap} {H : Hp} {cells : List AV} {l x : List Int} {a b : Int} {k : Nat} {Q : AV → Hp → Prop}
  (ht : ∀ z o, c ≠ .tip z o) (hd : s.ad = s.a) (w : W H R) (hi : R[i]? = some (.ow t s (eInt .i64).z pre cells rest)) (cr : CR (eInt .i64) H R cells l) (hx : cuts l a b = some x) (hk : l.length < k) (hl : l.length ≤ 4294967296)
  (g : ∀ H' cells', W H' (R.set i (.ow t s (eInt .i64).z pre cells' rest)) → Fr H R H' (R.set i (.ow t s (eInt .i64).z pre cells' rest)) → CR (eInt .i64) H' (R.set i (.ow t s (eInt .i64).z pre cells' rest)) cells' (negr l a.toNat x.length) →
   ∃ v H'', C y0 o y1 y94 y95 (IntKind.i64.wrap (y96 + 1)) H' = some (v, H'') ∧ Q v H'') :
  ∃ v H'', aW.l2095707 F (aI.tw F) (bO.tw F) (bP.tw F) (aO.tw F) (cu.tw F) C k y0 o y1 y94 y95 y96 ⟨s.a.map (fun p => (p.1, p.2 + a.toNat * (eInt .i64).z)), x.length, c⟩ ((⟨s.a.map (fun p => (p.1, p.2 + a.toNat * (eInt .i64).z)), x.length, c⟩ : Sl).n : Int) 0 H = some (v, H'') ∧ Q v H'' := by
 obtain ⟨h1, h2, h3⟩ := cuts_some hx
 have hxl : x.length = b.toNat - a.toNat := by rw [h2, List.length_drop, List.length_take]; omega
 obtain ⟨H', cells', e, q1, q2, q3⟩ := aW.neg_l (F := F) (C := C) (y0 := y0) (o := o) (y1 := y1) (y94 := y94) (y95 := y95) (y96 := y96) (c := c) (lo := a.toNat) (n := x.length) ht hd w hi cr (by omega) k 0 (by omega) (Nat.zero_le _) (by omega)
 rw [Nat.add_zero, Nat.sub_zero] at q3
 obtain ⟨v, H'', g1, g2⟩ := g H' cells' q1 q2 q3
 exact ⟨v, H'', Eq.trans e g1, g2⟩
def aW.S32747 (H0 : Hp) (Ri R0 : List Rs) (ay aj aA ap aq ao au av aH aw : Int) (aR bn aM bo bp : ON) (aF aZ aB a_ ba az : Nat) (aS br aN bs bt : Cap) (bQ bR bS bT bU bw : Bool) (bV bW bX bY bZ b_ ca cb cc cd : List AV) (C : Nat → Nat → Int → Int → Int → Hp → OA) (pC : List Int → Int → List Int → List Int → List Int → List Int → Int → Int → Int → Option (Bool × List Int × List Int × List Int × List Int × List Int)) : Prop := ∀ {aD aG aE aK aL : List Int} {cz cA cB cC cD : List AV} {iA jr iB : Int}, ∀ {H : Hp}, aF = aD.length → aZ = aG.length → aB = aE.length → a_ = aK.length → ba = aL.length → (Out H0 Ri H (Rs.ow bQ ⟨aR, aF, aS⟩ (eInt .i64).z bV cz bW :: Rs.ow bR ⟨bn, aZ, br⟩ (eInt .i64).z bX cA bY :: Rs.ow bS ⟨aM, aB, aN⟩ (eInt .i64).z bZ cB b_ :: Rs.ow bT ⟨bo, a_, bs⟩ (eInt .i64).z ca cC cb :: Rs.ow bU ⟨bp, ba, bt⟩ (eInt .i64).z cc cD cd :: Rs.blk az [.int .i64 ay, .int .i64 aj, .sl ⟨aR, aF, aS⟩, .int .i64 aA, .int .i64 ap, .sl ⟨bn, aZ, br⟩, .int .i64 aq, .int .i64 ao, .sl ⟨aM, aB, aN⟩, .int .i64 au, .int .i64 av, .sl ⟨bo, a_, bs⟩, .int .i64 aH, .int .i64 aw, .sl ⟨bp, ba, bt⟩, .bool bw] :: R0) fun R => CR (eInt .i64) H R cz aD ∧ CR (eInt .i64) H R cA aG ∧ CR (eInt .i64) H R cB aE ∧ CR (eInt .i64) H R cC aK ∧ CR (eInt .i64) H R cD aL) → ∀ {r : Bool × List Int × List Int × List Int × List Int × List Int}, pC aD ap aG aE aK aL iA jr iB = some r → ∃ v H', C az 0 iA jr iB H = some (v, H') ∧ aW.Q H0 Ri R0 ay aj aA ap aq ao au av aH aw aR bn aM bo bp aF aZ aB a_ ba az aS br aN bs bt bQ bR bS bT bU bw bV bW bX bY bZ b_ ca cb cc cd r v H'
def aW.pl32747 (F : Nat)  : Nat → List Int → Int → List Int → List Int → List Int → List Int → Int → Int → Int → Option (Bool × List Int × List Int × List Int × List Int × List Int)
 | 0, _, _, _, _, _, _, _, _, _ => none
 | k + 1, aD, ap, aG, aE, aK, aL, iA, jr, iB => (bif (decide (iB < jr)) then ((ix aG (IntKind.i64.wrap ((IntKind.i64.wrap (iB * ap)) + iA))).bind fun n2 => (ix aG (IntKind.i64.wrap ((IntKind.i64.wrap (iB * ap)) + iA))).bind fun n5 => (some (aG.set n2 (IntKind.i64.wrap (0 - (gt aG n5))))).bind fun l6 => aW.pl32747 F k aD ap l6 aE aK aL iA jr (IntKind.i64.wrap (iB + 1))) else (some (true, aD, aG, aE, aK, aL)))
termination_by structural n => n
theorem aW.l32747_P {F : Nat} {H0 : Hp} {Ri R0 : List Rs} {ay aj aA ap aq ao au av aH aw : Int} {aR bn aM bo bp : ON} {aF aZ aB a_ ba az : Nat} {aS br aN bs bt : Cap} {bQ bR bS bT bU bw : Bool} {bV bW bX bY bZ b_ ca cb cc cd : List AV}  : ∀ k, aW.S32747 H0 Ri R0 ay aj aA ap aq ao au av aH aw aR bn aM bo bp aF aZ aB a_ ba az aS br aN bs bt bQ bR bS bT bU bw bV bW bX bY bZ b_ ca cb cc cd (aW.l32747 F (aI.tw F) (bO.tw F) (bP.tw F) (aO.tw F) (cu.tw F)  k) (aW.pl32747 F  k) := by
 intro k
 induction k with
 | zero =>
  intro aD aG aE aK aL cz cA cB cC cD iA jr iB H eg eh ei ek el h0 r hp
  exact nomatch (show (none : Option (Bool × List Int × List Int × List Int × List Int × List Int)) = some r from hp)
 | succ k ih =>
  intro aD aG aE aK aL cz cA cB cC cD iA jr iB H eg eh ei ek el h0 r hp
  obtain ⟨w0, s0, cQ, de, cV, dn, dp⟩ := h0
  subst eg
  subst eh
  subst ei
  subst ek
  subst el
  unfold aW.pl32747 at hp
  unfold aW.l32747
  refine bif_ex (fun hb => ?_) (fun hb => ?_)
  ·replace hp := bif_t hb hp
   refine bind_ex (ldI_of (w0.ld (i := 5) rfl rfl)) ?_
   refine bind_ex (ldI_of (w0.ld (i := 5) rfl rfl)) ?_
   refine bind_ex (ldSl_of (w0.ld (i := 5) rfl rfl)) ?_
   refine aO.inl ?_
   refine new_k w0 fun H1 w1 s1 => ?_
   refine bind_ex (ldSl_of (w1.ld (i := 0) rfl rfl)) ?_
   refine bind_ex (ldI_of (w1.ld (i := 0) rfl rfl)) ?_
   obtain ⟨n2, g2, hp⟩ := bind_some' hp
   obtain ⟨p2, q2, i2, h2, j2⟩ := W.ixo (E := (eInt .i64)) w1 (i := 2) rfl rfl (de.step s1) g2
   refine bind_ex i2 ?_
   refine ⟨_, _, rfl, ?_⟩
   refine bind_ex rfl ?_
   refine ifs_ex (W.cons_of (Rn := [_]) w0 w1 s1) ?_
   refine bind_ex (ldI_of (w1.ld (i := 6) rfl rfl)) ?_
   refine bind_ex (ldI_of (w1.ld (i := 6) rfl rfl)) ?_
   refine bind_ex (ldSl_of (w1.ld (i := 6) rfl rfl)) ?_
   refine aO.inl ?_
   refine new_k w1 fun H4 w4 s4 => ?_
   refine bind_ex (ldSl_of (w4.ld (i := 0) rfl rfl)) ?_
   refine bind_ex (ldI_of (w4.ld (i := 0) rfl rfl)) ?_
   obtain ⟨n5, g5, hp⟩ := bind_some' hp
   obtain ⟨p5, q5, i5, h5, j5⟩ := W.ixo (E := (eInt .i64)) w4 (i := 3) rfl rfl (de.step (s1.trans s4)) g5
   refine bind_ex i5 ?_
   refine ⟨_, _, rfl, ?_⟩
   refine bind_ex rfl ?_
   have h5 : _ = [_] := h5
   subst h5
   refine bind_ex (ldI_of (j5 0 _ rfl)) ?_
   obtain ⟨l6, e6, hp⟩ := bind_some' hp
   refine sto_k (eInt .i64) w4 (i := 3) (j := 0) (p := p2) rfl rfl (de.step (s1.trans s4)) g2 i2 e6 rfl rfl (fun _ h => by have h : _ = [_] := h; subst h; exact rfl) fun H7 k7 w7 s7 c7 => ?_
   dsimp only [List.set] at w7 s7 c7
   obtain ⟨w8, s8⟩ := w7.pick' [2, 3, 4, 5, 6, 7] 8 rfl rfl rfl
   dsimp only [pk, pks, nth, List.drop] at w8 s8
   exact ih rfl ((st_len e6).symm) rfl rfl rfl ⟨w8, (s0.trans (s1.trans (s4.trans (s7.trans s8)))), (cQ.step (s1.trans (s4.trans (s7.trans s8)))), (c7.step s8), (cV.step (s1.trans (s4.trans (s7.trans s8)))), (dn.step (s1.trans (s4.trans (s7.trans s8)))), (dp.step (s1.trans (s4.trans (s7.trans s8))))⟩ hp
  ·replace hp := bif_f hb hp
   obtain rfl := Option.some.inj hp
   exact ⟨_, _, rfl, _, _, _, _, _, rfl, rfl, rfl, rfl, rfl, rfl, w0, s0, cQ, de, cV, dn, dp⟩
def aW.pj3 (F : Nat)  (aD : List Int) (aA : Int) (ap : Int) (aG : List Int) (aE : List Int) (aK : List Int) (aL : List Int) (ox : Int) : Option (Bool × List Int × List Int × List Int × List Int × List Int) := aW.pl32747 F F aD ap aG aE aK aL ox aA 0
theorem aW.j3_P {F : Nat} {H0 : Hp} {Ri R0 : List Rs} {ay aj aA ap aq ao au av aH aw : Int} {aR bn aM bo bp : ON} {aF aZ aB a_ ba az : Nat} {aS br aN bs bt : Cap} {bQ bR bS bT bU bw : Bool} {bV bW bX bY bZ b_ ca cb cc cd : List AV}  {aD aG aE aK aL : List Int} {cz cA cB cC cD : List AV} {ox : Int} {H : Hp} (eg : aF = aD.length) (eh : aZ = aG.length) (ei : aB = aE.length) (ek : a_ = aK.length) (el : ba = aL.length) (h0 : Out H0 Ri H (Rs.ow bQ ⟨aR, aF, aS⟩ (eInt .i64).z bV cz bW :: Rs.ow bR ⟨bn, aZ, br⟩ (eInt .i64).z bX cA bY :: Rs.ow bS ⟨aM, aB, aN⟩ (eInt .i64).z bZ cB b_ :: Rs.ow bT ⟨bo, a_, bs⟩ (eInt .i64).z ca cC cb :: Rs.ow bU ⟨bp, ba, bt⟩ (eInt .i64).z cc cD cd :: Rs.blk az [.int .i64 ay, .int .i64 aj, .sl ⟨aR, aF, aS⟩, .int .i64 aA, .int .i64 ap, .sl ⟨bn, aZ, br⟩, .int .i64 aq, .int .i64 ao, .sl ⟨aM, aB, aN⟩, .int .i64 au, .int .i64 av, .sl ⟨bo, a_, bs⟩, .int .i64 aH, .int .i64 aw, .sl ⟨bp, ba, bt⟩, .bool bw] :: R0) fun R => CR (eInt .i64) H R cz aD ∧ CR (eInt .i64) H R cA aG ∧ CR (eInt .i64) H R cB aE ∧ CR (eInt .i64) H R cC aK ∧ CR (eInt .i64) H R cD aL) {r : Bool × List Int × List Int × List Int × List Int × List Int} (hp : aW.pj3 F  aD aA ap aG aE aK aL ox = some r) : ∃ v H', aW.j3 F (aI.tw F) (bO.tw F) (bP.tw F) (aO.tw F) (cu.tw F)  az 0 ox H = some (v, H') ∧ aW.Q H0 Ri R0 ay aj aA ap aq ao au av aH aw aR bn aM bo bp aF aZ aB a_ ba az aS br aN bs bt bQ bR bS bT bU bw bV bW bX bY bZ b_ ca cb cc cd r v H' := by
 obtain ⟨w0, s0, cQ, de, cV, dn, dp⟩ := h0
 subst eg
 subst eh
 subst ei
 subst ek
 subst el
 unfold aW.pj3 at hp
 unfold aW.j3
 refine bind_ex (ldI_of (w0.ld (i := 5) rfl rfl)) ?_
 exact aW.l32747_P F rfl rfl rfl rfl rfl ⟨w0, s0, cQ, de, cV, dn, dp⟩ hp
def aW.p (F : Nat) (aX : Int) (dy : List Int) (bl : Int) (bb : Int) (fh : List Int) (aY : Int) (aT : Int) (db : List Int) (bc : Int) (bf : Int) (fi : List Int) (bg : Int) (fj : List Int) (ae : Int) : Option (Bool × List Int × List Int × List Int × List Int × List Int) := (aI.p F aY aT db ae).bind fun r3 => (bif (!r3.2.2) then (some (false, dy, fh, db, fi, fj)) else ((bO.p F aT db r3.1 ae).bind fun r7 => (bO.p F aX dy r3.1 ae).bind fun r10 => (bP.p F bl bb fh r3.1 ae).bind fun r13 => (bP.p F aY aT r7 r3.2.1 ae).bind fun r16 => (bP.p F bc bf fi r3.2.1 ae).bind fun r19 => (bO.p F bg fj r3.2.1 ae).bind fun r22 => (ix r16 (IntKind.i64.wrap ((IntKind.i64.wrap (ae * aT)) + ae))).bind fun n25 => (bif (decide ((gt r16 n25) < 0)) then ((cuts r16 (IntKind.i64.wrap (ae * aT)) (IntKind.i64.wrap ((IntKind.i64.wrap (ae + 1)) * aT))).bind fun x27 => (cuts r10 (IntKind.i64.wrap (ae * aX)) (IntKind.i64.wrap ((IntKind.i64.wrap (ae + 1)) * aX))).bind fun x29 => (if r16.length + 3 < F ∧ r10.length + 3 < F ∧ r16.length + r10.length ≤ 4294967296 then ((some (negr r16 ((IntKind.i64.wrap (ae * aT)) : Int).toNat x27.length)).bind fun l32 => (some (negr r10 ((IntKind.i64.wrap (ae * aX)) : Int).toNat x29.length)).bind fun l34 => aW.pj3 F l34 bl bb r13 l32 r19 r22 ae) else none)) else (some (true, r10, r13, r16, r19, r22)))))
theorem aW.P {F : Nat} {bk aX bl bb aY aT bc bf bv bg ae : Int} {cN dW cm dX dY : ON} {bK cZ bA c_ da aa : Nat} {cO dZ cn d_ ea : Cap} {dy fh db fi fj : List Int} {eN fq eO fr ft ax : Bool} {eP eQ ga fu fv gz eR eS gb fw fx gA fy fz gB : List AV} {H : Hp} {R0 : List Rs} (jx : bK = dy.length) (kw : cZ = fh.length) (iR : bA = db.length) (kx : c_ = fi.length) (ky : da = fj.length) (h0 : Inn H (Rs.ow eN ⟨cN, bK, cO⟩ (eInt .i64).z eP ga eQ :: Rs.ow fq ⟨dW, cZ, dZ⟩ (eInt .i64).z fu gz fv :: Rs.ow eO ⟨cm, bA, cn⟩ (eInt .i64).z eR gb eS :: Rs.ow fr ⟨dX, c_, d_⟩ (eInt .i64).z fw gA fx :: Rs.ow ft ⟨dY, da, ea⟩ (eInt .i64).z fy gB fz :: Rs.blk aa [.int .i64 bk, .int .i64 aX, .sl ⟨cN, bK, cO⟩, .int .i64 bl, .int .i64 bb, .sl ⟨dW, cZ, dZ⟩, .int .i64 aY, .int .i64 aT, .sl ⟨cm, bA, cn⟩, .int .i64 bc, .int .i64 bf, .sl ⟨dX, c_, d_⟩, .int .i64 bv, .int .i64 bg, .sl ⟨dY, da, ea⟩, .bool ax] :: R0) fun R => CR (eInt .i64) H R ga dy ∧ CR (eInt .i64) H R gz fh ∧ CR (eInt .i64) H R gb db ∧ CR (eInt .i64) H R gA fi ∧ CR (eInt .i64) H R gB fj) {r : Bool × List Int × List Int × List Int × List Int × List Int} (hp : aW.p F aX dy bl bb fh aY aT db bc bf fi bg fj ae = some r) : ∃ v H', aW.tw F aa 0 ae H = some (v, H') ∧ aW.Q H (Rs.ow eN ⟨cN, bK, cO⟩ (eInt .i64).z eP ga eQ :: Rs.ow fq ⟨dW, cZ, dZ⟩ (eInt .i64).z fu gz fv :: Rs.ow eO ⟨cm, bA, cn⟩ (eInt .i64).z eR gb eS :: Rs.ow fr ⟨dX, c_, d_⟩ (eInt .i64).z fw gA fx :: Rs.ow ft ⟨dY, da, ea⟩ (eInt .i64).z fy gB fz :: Rs.blk aa [.int .i64 bk, .int .i64 aX, .sl ⟨cN, bK, cO⟩, .int .i64 bl, .int .i64 bb, .sl ⟨dW, cZ, dZ⟩, .int .i64 aY, .int .i64 aT, .sl ⟨cm, bA, cn⟩, .int .i64 bc, .int .i64 bf, .sl ⟨dX, c_, d_⟩, .int .i64 bv, .int .i64 bg, .sl ⟨dY, da, ea⟩, .bool ax] :: R0) R0 bk aX bl bb aY aT bc bf bv bg cN dW cm dX dY bK cZ bA c_ da aa cO dZ cn d_ ea eN fq eO fr ft ax eP eQ fu fv eR eS fw fx fy fz r v H' := by
 obtain ⟨w0, iI, kk, g_, kl, km⟩ := h0
 subst jx
 subst kw
 subst iR
 subst kx
 subst ky
 unfold aW.p at hp
 unfold aW.tw aW.twX
 have s0 := w0.rf
 obtain ⟨w1, s1⟩ := w0.pick' [2, 5, 0, 1, 3, 4] 6 rfl rfl rfl
 dsimp only [pk, pks, nth, List.drop] at w1 s1
 have f2 := W.borrow1 (eInt .i64) w1 (g_.step s1)
 obtain ⟨w2, s2⟩ := w1.right1
 obtain ⟨r3, e3, hp⟩ := bind_some' hp
 refine call_ex (aI.P rfl ⟨w2, f2⟩ e3) ?_
 rintro _ H4 ⟨rfl, w4, s4, _⟩
 obtain ⟨w5, s5⟩ := W.frame1 w1 w4 s4
 refine bind_ex rfl ?_
 refine bind_ex rfl ?_
 refine bind_ex rfl ?_
 refine bind_ex rfl ?_
 refine bind_ex rfl ?_
 refine bind_ex rfl ?_
 refine bind_ex rfl ?_
 refine bif_ex (fun hb => ?_) (fun hb => ?_)
 ·replace hp := bif_t hb hp
  obtain ⟨w6, s6⟩ := w5.pick' [2, 3, 0, 4, 5, 1] 6 rfl rfl rfl
  dsimp only [pk, pks, nth, List.drop] at w6 s6
  obtain rfl := Option.some.inj hp
  exact ⟨_, _, rfl, _, _, _, _, _, rfl, rfl, rfl, rfl, rfl, rfl, w6, (s0.trans (s1.trans (s5.trans s6))), (iI.step (s1.trans (s5.trans s6))), (kk.step (s1.trans (s5.trans s6))), (g_.step (s1.trans (s5.trans s6))), (kl.step (s1.trans (s5.trans s6))), (km.step (s1.trans (s5.trans s6)))⟩
 ·replace hp := bif_f hb hp
  refine bind_ex (ldI_of (w5.ld (i := 1) rfl rfl)) ?_
  refine bind_ex (ldI_of (w5.ld (i := 1) rfl rfl)) ?_
  refine bind_ex (ldSl_of (w5.ld (i := 1) rfl rfl)) ?_
  obtain ⟨r7, e7, hp⟩ := bind_some' hp
  refine call_ex (bO.P rfl ⟨w5, (g_.step (s1.trans s5))⟩ e7) ?_
  rintro _ H8 ⟨zq, rfl, hl8_0, w8, s8, f8_0⟩
  refine bind_ex (ldI_of (w8.ld (i := 1) rfl rfl)) ?_
  refine bind_ex (ldI_of (w8.ld (i := 1) rfl rfl)) ?_
  refine bind_ex (ldSl_of (w8.ld (i := 1) rfl rfl)) ?_
  obtain ⟨w9, s9⟩ := w8.pick' [2, 0, 1, 3, 4, 5] 6 rfl rfl rfl
  dsimp only [pk, pks, nth, List.drop] at w9 s9
  obtain ⟨r10, e10, hp⟩ := bind_some' hp
  refine call_ex (bO.P rfl ⟨w9, (iI.step (s1.trans (s5.trans (s8.trans s9))))⟩ e10) ?_
  rintro _ H11 ⟨zr, rfl, hl11_0, w11, s11, f11_0⟩
  refine bind_ex (ldI_of (w11.ld (i := 2) rfl rfl)) ?_
  refine bind_ex (ldI_of (w11.ld (i := 2) rfl rfl)) ?_
  refine bind_ex (ldSl_of (w11.ld (i := 2) rfl rfl)) ?_
  obtain ⟨w12, s12⟩ := w11.pick' [3, 0, 1, 2, 4, 5] 6 rfl rfl rfl
  dsimp only [pk, pks, nth, List.drop] at w12 s12
  obtain ⟨r13, e13, hp⟩ := bind_some' hp
  refine call_ex (bP.P rfl ⟨w12, (kk.step (s1.trans (s5.trans (s8.trans (s9.trans (s11.trans s12))))))⟩ e13) ?_
  rintro _ H14 ⟨zs, rfl, hl14_0, w14, s14, f14_0⟩
  refine bind_ex (ldI_of (w14.ld (i := 3) rfl rfl)) ?_
  refine bind_ex (ldI_of (w14.ld (i := 3) rfl rfl)) ?_
  refine bind_ex (ldSl_of (w14.ld (i := 3) rfl rfl)) ?_
  obtain ⟨w15, s15⟩ := w14.pick' [2, 0, 1, 3, 4, 5] 6 rfl rfl rfl
  dsimp only [pk, pks, nth, List.drop] at w15 s15
  obtain ⟨r16, e16, hp⟩ := bind_some' hp
  refine call_ex (bP.P hl8_0 ⟨w15, (f8_0.step (s9.trans (s11.trans (s12.trans (s14.trans s15)))))⟩ e16) ?_
  rintro _ H17 ⟨zt, rfl, hl17_0, w17, s17, f17_0⟩
  refine bind_ex (ldI_of (w17.ld (i := 3) rfl rfl)) ?_
  refine bind_ex (ldI_of (w17.ld (i := 3) rfl rfl)) ?_
  refine bind_ex (ldSl_of (w17.ld (i := 3) rfl rfl)) ?_
  obtain ⟨w18, s18⟩ := w17.pick' [4, 0, 1, 2, 3, 5] 6 rfl rfl rfl
  dsimp only [pk, pks, nth, List.drop] at w18 s18
  obtain ⟨r19, e19, hp⟩ := bind_some' hp
  refine call_ex (bP.P rfl ⟨w18, (kl.step (s1.trans (s5.trans (s8.trans (s9.trans (s11.trans (s12.trans (s14.trans (s15.trans (s17.trans s18))))))))))⟩ e19) ?_
  rintro _ H20 ⟨BO, rfl, hl20_0, w20, s20, f20_0⟩
  refine bind_ex (ldI_of (w20.ld (i := 4) rfl rfl)) ?_
  refine bind_ex (ldI_of (w20.ld (i := 4) rfl rfl)) ?_
  refine bind_ex (ldSl_of (w20.ld (i := 4) rfl rfl)) ?_
  obtain ⟨w21, s21⟩ := w20.pick' [5, 0, 1, 2, 3, 4] 6 rfl rfl rfl
  dsimp only [pk, pks, nth, List.drop] at w21 s21
  obtain ⟨r22, e22, hp⟩ := bind_some' hp
  refine call_ex (bO.P rfl ⟨w21, (km.step (s1.trans (s5.trans (s8.trans (s9.trans (s11.trans (s12.trans (s14.trans (s15.trans (s17.trans (s18.trans (s20.trans s21))))))))))))⟩ e22) ?_
  rintro _ H23 ⟨BP, rfl, hl23_0, w23, s23, f23_0⟩
  refine bind_ex (ldI_of (w23.ld (i := 5) rfl rfl)) ?_
  refine bind_ex (ldI_of (w23.ld (i := 5) rfl rfl)) ?_
  refine bind_ex (ldSl_of (w23.ld (i := 5) rfl rfl)) ?_
  refine aO.inl ?_
  refine new_k w23 fun H24 w24 s24 => ?_
  refine bind_ex (ldSl_of (w24.ld (i := 0) rfl rfl)) ?_
  refine bind_ex (ldI_of (w24.ld (i := 0) rfl rfl)) ?_
  obtain ⟨n25, g25, hp⟩ := bind_some' hp
  obtain ⟨p25, q25, i25, h25, j25⟩ := W.ixo (E := (eInt .i64)) w24 (i := 3) rfl rfl (f17_0.step (s18.trans (s20.trans (s21.trans (s23.trans s24))))) g25
  refine bind_ex i25 ?_
  refine ⟨_, _, rfl, ?_⟩
  refine bind_ex rfl ?_
  have h25 : _ = [_] := h25
  subst h25
  refine bind_ex (ldI_of (j25 0 _ rfl)) ?_
  refine bif_ex (fun hb => ?_) (fun hb => ?_)
  ·replace hp := bif_t hb hp
   refine bind_ex (ldI_of (w24.ld (i := 6) rfl rfl)) ?_
   refine bind_ex (ldI_of (w24.ld (i := 6) rfl rfl)) ?_
   refine bind_ex (ldSl_of (w24.ld (i := 6) rfl rfl)) ?_
   refine cu.inl ?_
   refine new_k w24 fun H26 w26 s26 => ?_
   refine bind_ex (ldSl_of (w26.ld (i := 0) rfl rfl)) ?_
   refine bind_ex (ldI_of (w26.ld (i := 0) rfl rfl)) ?_
   refine bind_ex (ldI_of (w26.ld (i := 0) rfl rfl)) ?_
   obtain ⟨x27, e27, hp⟩ := bind_some' hp
   obtain ⟨d27, h27, t27, u27⟩ := W.cutv (E := (eInt .i64)) w26 (i := 4) rfl (f17_0.step (s18.trans (s20.trans (s21.trans (s23.trans (s24.trans s26)))))) e27
   refine bind_ex h27 ?_
   refine ⟨_, _, rfl, ?_⟩
   refine bind_ex rfl ?_
   refine ifs_ex (W.cons_of (Rn := [_]) w24 w26 s26) ?_
   refine bind_ex (ldI_of (w26.ld (i := 7) rfl rfl)) ?_
   refine bind_ex (ldI_of (w26.ld (i := 7) rfl rfl)) ?_
   refine bind_ex (ldSl_of (w26.ld (i := 7) rfl rfl)) ?_
   refine cu.inl ?_
   refine new_k w26 fun H28 w28 s28 => ?_
   refine bind_ex (ldSl_of (w28.ld (i := 0) rfl rfl)) ?_
   refine bind_ex (ldI_of (w28.ld (i := 0) rfl rfl)) ?_
   refine bind_ex (ldI_of (w28.ld (i := 0) rfl rfl)) ?_
   obtain ⟨x29, e29, hp⟩ := bind_some' hp
   obtain ⟨d29, h29, t29, u29⟩ := W.cutv (E := (eInt .i64)) w28 (i := 7) rfl (f11_0.step (s12.trans (s14.trans (s15.trans (s17.trans (s18.trans (s20.trans (s21.trans (s23.trans (s24.trans (s26.trans s28))))))))))) e29
   refine bind_ex h29 ?_
   refine ⟨_, _, rfl, ?_⟩
   refine bind_ex rfl ?_
   refine new_k w28 fun H30 w30 s30 => ?_
   obtain ⟨⟨hF, hl6, hl0⟩, hp⟩ := ifs_p hp
   obtain ⟨k, rfl⟩ : ∃ k, F = k + 3 := ⟨F - 3, by omega⟩
   unfold aW.l32745
   refine bif_ex (fun _ => ?_) (fun hb => absurd (show decide ((0 : Int) < ((2 : Nat) : Int)) = false from hb) (by decide))
   refine bind_ex (show _ = some (_, _) from rfl) ?_
   refine bind_ex (ldSl_of (w30.ld (i := 0) rfl rfl)) ?_
   refine aW.neg_k (i := 6) t27 u27 w30 rfl (f17_0.step (s18.trans (s20.trans (s21.trans (s23.trans (s24.trans (s26.trans (s28.trans s30)))))))) e27 (by omega) (by omega) fun H31 k31 w31 s31 c31 => ?_
   dsimp only [List.set] at w31 s31 c31
   obtain ⟨l32, e32, hp⟩ := bind_some' hp
   obtain rfl := Option.some.inj e32
   unfold aW.l32745
   refine bif_ex (fun _ => ?_) (fun hb => absurd (show decide ((IntKind.i64.wrap (0 + 1)) < ((2 : Nat) : Int)) = false from hb) (by decide))
   refine bind_ex (show _ = some (_, _) from rfl) ?_
   refine bind_ex (ldSl_of (w31.ld (i := 0) rfl rfl)) ?_
   refine aW.neg_k (i := 8) t29 u29 w31 rfl (f11_0.step (s12.trans (s14.trans (s15.trans (s17.trans (s18.trans (s20.trans (s21.trans (s23.trans (s24.trans (s26.trans (s28.trans (s30.trans s31))))))))))))) e29 (by omega) (by omega) fun H33 k33 w33 s33 c33 => ?_
   dsimp only [List.set] at w33 s33 c33
   obtain ⟨l34, e34, hp⟩ := bind_some' hp
   obtain rfl := Option.some.inj e34
   unfold aW.l32745
   refine bif_ex (fun hb => absurd (show decide (IntKind.i64.wrap (IntKind.i64.wrap (0 + 1) + 1) < ((2 : Nat) : Int)) = true from hb) (by decide)) (fun _ => ?_)
   obtain ⟨w35, s35⟩ := w33.pick' [8, 7, 6, 5, 4, 9] 10 rfl rfl rfl
   dsimp only [pk, pks, nth, List.drop] at w35 s35
   exact aW.j3_P (hl11_0.trans (negr_len _ _ _).symm) hl14_0 (hl17_0.trans (negr_len _ _ _).symm) hl20_0 hl23_0 ⟨w35, (s0.trans (s1.trans (s5.trans (s8.trans (s9.trans (s11.trans (s12.trans (s14.trans (s15.trans (s17.trans (s18.trans (s20.trans (s21.trans (s23.trans (s24.trans (s26.trans (s28.trans (s30.trans (s31.trans (s33.trans s35)))))))))))))))))))), (c33.step s35), (f14_0.step (s15.trans (s17.trans (s18.trans (s20.trans (s21.trans (s23.trans (s24.trans (s26.trans (s28.trans (s30.trans (s31.trans (s33.trans s35))))))))))))), (c31.step (s33.trans s35)), (f20_0.step (s21.trans (s23.trans (s24.trans (s26.trans (s28.trans (s30.trans (s31.trans (s33.trans s35))))))))), (f23_0.step (s24.trans (s26.trans (s28.trans (s30.trans (s31.trans (s33.trans s35)))))))⟩ hp
  ·replace hp := bif_f hb hp
   obtain ⟨w36, s36⟩ := w24.pick' [5, 4, 3, 2, 1, 6] 7 rfl rfl rfl
   dsimp only [pk, pks, nth, List.drop] at w36 s36
   obtain rfl := Option.some.inj hp
   exact ⟨_, _, rfl, _, _, _, _, _, rfl, hl11_0, hl14_0, hl17_0, hl20_0, hl23_0, w36, (s0.trans (s1.trans (s5.trans (s8.trans (s9.trans (s11.trans (s12.trans (s14.trans (s15.trans (s17.trans (s18.trans (s20.trans (s21.trans (s23.trans (s24.trans s36))))))))))))))), (f11_0.step (s12.trans (s14.trans (s15.trans (s17.trans (s18.trans (s20.trans (s21.trans (s23.trans (s24.trans s36)))))))))), (f14_0.step (s15.trans (s17.trans (s18.trans (s20.trans (s21.trans (s23.trans (s24.trans s36)))))))), (f17_0.step (s18.trans (s20.trans (s21.trans (s23.trans (s24.trans s36)))))), (f20_0.step (s21.trans (s23.trans (s24.trans s36)))), (f23_0.step (s24.trans s36))⟩
def dr.Q (H0 : Hp) (Ri R0 : List Rs)  (r : Int) (v : AV) (H' : Hp) : Prop := v = (.int .i64 r) ∧ Out H0 Ri H' (R0) fun R => True
def dr.p (F : Nat) (aa : Int) (ak : Int) : Option (Int) := (if ak = 0 then none else ((if ak = 0 then none else ((bif (decide ((Int.tmod aa ak) < 0)) then (some (IntKind.i64.wrap ((IntKind.i64.wrap (Int.tdiv aa ak)) - 1))) else (some (IntKind.i64.wrap (Int.tdiv aa ak))))))))
theorem dr.P {F : Nat} {aa ak : Int} {H : Hp} {R0 : List Rs}  (h0 : Inn H R0 fun R => True) {r : Int} (hp : dr.p F aa ak = some r) : ∃ v H', dr.tw F aa ak H = some (v, H') ∧ dr.Q H R0 R0  r v H' := by
 obtain ⟨w0, _⟩ := h0
 unfold dr.p at hp
 unfold dr.tw dr.twX
 have s0 := w0.rf
 obtain ⟨g1, hp⟩ := ifn_p hp
 refine ifn_ex g1 ?_
 obtain ⟨g2, hp⟩ := ifn_p hp
 refine ifn_ex g2 ?_
 refine bif_ex (fun hb => ?_) (fun hb => ?_)
 ·replace hp := bif_t hb hp
  obtain rfl := Option.some.inj hp
  exact ⟨_, _, rfl, rfl, w0, s0, trivial⟩
 ·replace hp := bif_f hb hp
  obtain rfl := Option.some.inj hp
  exact ⟨_, _, rfl, rfl, w0, s0, trivial⟩
def dw.Q (H0 : Hp) (Ri R0 : List Rs)  (r : Int × Bool) (v : AV) (H' : Hp) : Prop := v = (.tup [(.int .i64 r.1), (.bool r.2)]) ∧ Out H0 Ri H' (R0) fun R => True
def dw.p (F : Nat) (aa : Int) (ak : Int) (cH : Int) : Option (Int × Bool) := (bif (aa != 0) then ((ch.p F ak).bind fun r1 => (ch.p F aa).bind fun r3 => (if r3 = 0 then none else ((bif (decide (r1 > (IntKind.i64.wrap (Int.tdiv cH r3)))) then (some (0, false)) else (some ((IntKind.i64.wrap (aa * ak)), true)))))) else (some ((IntKind.i64.wrap (aa * ak)), true)))
theorem dw.P {F : Nat} {aa ak cH : Int} {H : Hp} {R0 : List Rs}  (h0 : Inn H R0 fun R => True) {r : Int × Bool} (hp : dw.p F aa ak cH = some r) : ∃ v H', dw.tw F aa ak cH H = some (v, H') ∧ dw.Q H R0 R0  r v H' := by
 obtain ⟨w0, _⟩ := h0
 unfold dw.p at hp
 unfold dw.tw dw.twX
 have s0 := w0.rf
 refine bif_ex (fun hb => ?_) (fun hb => ?_)
 ·replace hp := bif_t hb hp
  obtain ⟨r1, e1, hp⟩ := bind_some' hp
  refine call_ex (ch.P ⟨w0, trivial⟩ e1) ?_
  rintro _ H2 ⟨rfl, w2, s2, _⟩
  refine bind_ex rfl ?_
  obtain ⟨r3, e3, hp⟩ := bind_some' hp
  refine call_ex (ch.P ⟨w2, trivial⟩ e3) ?_
  rintro _ H4 ⟨rfl, w4, s4, _⟩
  refine bind_ex rfl ?_
  obtain ⟨g5, hp⟩ := ifn_p hp
  refine ifn_ex g5 ?_
  refine bif_ex (fun hb => ?_) (fun hb => ?_)
  ·replace hp := bif_t hb hp
   obtain rfl := Option.some.inj hp
   exact ⟨_, _, rfl, rfl, w4, (s0.trans (s2.trans s4)), trivial⟩
  ·replace hp := bif_f hb hp
   obtain rfl := Option.some.inj hp
   exact ⟨_, _, rfl, rfl, w4, (s0.trans (s2.trans s4)), trivial⟩
 ·replace hp := bif_f hb hp
  obtain rfl := Option.some.inj hp
  exact ⟨_, _, rfl, rfl, w0, s0, trivial⟩
def dj.Q (H0 : Hp) (Ri R0 : List Rs) (bk aX bl bb aY aT bc bf bv bg : Int) (ee cW ev cX cY : Sl) (aa ae : Nat) (r : Bool × Int) (v : AV) (H' : Hp) : Prop := v = (.tup []) ∧ Out H0 Ri H' (Rs.blk aa [.int .i64 bk, .int .i64 aX, .sl ee, .int .i64 bl, .int .i64 bb, .sl cW, .int .i64 aY, .int .i64 aT, .sl ev, .int .i64 bc, .int .i64 bf, .sl cX, .int .i64 bv, .int .i64 bg, .sl cY, .bool (r.1)] :: Rs.blk ae [.int .i64 (r.2)] :: R0) fun R => True
def dj.p (F : Nat) (ax : Bool) (oT : Int) (bh : Int) (jc : Int) : Option (Bool × Int) := (dw.p F bh jc 2000000000000).bind fun r1 => (bif (!r1.2) then (some (true, 0)) else ((ch.p F (IntKind.i64.wrap (oT + r1.1))).bind fun r6 => (bif (decide (r6 > 1000000000000)) then (some (true, 0)) else (some (ax, (IntKind.i64.wrap (oT + r1.1)))))))
theorem dj.P {F : Nat} {bk aX bl bb aY aT bc bf bv bg oT bh jc : Int} {ee cW ev cX cY : Sl} {ax : Bool} {aa ae : Nat} {H : Hp} {R0 : List Rs}  (h0 : Inn H (Rs.blk aa [.int .i64 bk, .int .i64 aX, .sl ee, .int .i64 bl, .int .i64 bb, .sl cW, .int .i64 aY, .int .i64 aT, .sl ev, .int .i64 bc, .int .i64 bf, .sl cX, .int .i64 bv, .int .i64 bg, .sl cY, .bool ax] :: Rs.blk ae [.int .i64 oT] :: R0) fun R => True) {r : Bool × Int} (hp : dj.p F ax oT bh jc = some r) : ∃ v H', dj.tw F aa 0 ae 0 bh jc H = some (v, H') ∧ dj.Q H (Rs.blk aa [.int .i64 bk, .int .i64 aX, .sl ee, .int .i64 bl, .int .i64 bb, .sl cW, .int .i64 aY, .int .i64 aT, .sl ev, .int .i64 bc, .int .i64 bf, .sl cX, .int .i64 bv, .int .i64 bg, .sl cY, .bool ax] :: Rs.blk ae [.int .i64 oT] :: R0) R0 bk aX bl bb aY aT bc bf bv bg ee cW ev cX cY aa ae r v H' := by
 obtain ⟨w0, _⟩ := h0
 unfold dj.p at hp
 unfold dj.tw dj.twX
 have s0 := w0.rf
 obtain ⟨r1, e1, hp⟩ := bind_some' hp
 refine call_ex (dw.P ⟨w0, trivial⟩ e1) ?_
 rintro _ H2 ⟨rfl, w2, s2, _⟩
 refine bind_ex rfl ?_
 refine bind_ex rfl ?_
 refine bind_ex rfl ?_
 refine bind_ex rfl ?_
 refine bind_ex rfl ?_
 refine bind_ex (ldI_of (w2.ld (i := 1) rfl rfl)) ?_
 refine st_k w2 (i := 1) rfl rfl rfl fun H3 w3 s3 => ?_
 dsimp only [List.set] at w3 s3
 refine bif_ex (fun hb => ?_) (fun hb => ?_)
 ·replace hp := bif_t hb hp
  refine st_k w3 (i := 0) rfl rfl rfl fun H4 w4 s4 => ?_
  dsimp only [List.set] at w4 s4
  refine st_k w4 (i := 1) rfl rfl rfl fun H5 w5 s5 => ?_
  dsimp only [List.set] at w5 s5
  obtain rfl := Option.some.inj hp
  exact ⟨_, _, rfl, rfl, w5, (s0.trans (s2.trans (s3.trans (s4.trans s5)))), trivial⟩
 ·replace hp := bif_f hb hp
  refine bind_ex (ldI_of (w3.ld (i := 1) rfl rfl)) ?_
  obtain ⟨r6, e6, hp⟩ := bind_some' hp
  refine call_ex (ch.P ⟨w3, trivial⟩ e6) ?_
  rintro _ H7 ⟨rfl, w7, s7, _⟩
  refine bind_ex rfl ?_
  refine bif_ex (fun hb => ?_) (fun hb => ?_)
  ·replace hp := bif_t hb hp
   refine st_k w7 (i := 0) rfl rfl rfl fun H8 w8 s8 => ?_
   dsimp only [List.set] at w8 s8
   refine st_k w8 (i := 1) rfl rfl rfl fun H9 w9 s9 => ?_
   dsimp only [List.set] at w9 s9
   obtain rfl := Option.some.inj hp
   exact ⟨_, _, rfl, rfl, w9, (s0.trans (s2.trans (s3.trans (s7.trans (s8.trans s9))))), trivial⟩
  ·replace hp := bif_f hb hp
   obtain rfl := Option.some.inj hp
   exact ⟨_, _, rfl, rfl, w7, (s0.trans (s2.trans (s3.trans s7))), trivial⟩
def bF.Q (H0 : Hp) (Ri R0 : List Rs) (bk aX bl bb aY aT bc bf bv bg : Int) (ee cW ev cX cY : Sl) (aa fc : Nat) (fP : ON) (fQ : Cap) (gn : Bool) (gp gq : List AV) (r : Bool × List Int) (v : AV) (H' : Hp) : Prop := ∃ kq : List AV, v = (.tup []) ∧ fc = (r.2).length ∧ Out H0 Ri H' (Rs.blk aa [.int .i64 bk, .int .i64 aX, .sl ee, .int .i64 bl, .int .i64 bb, .sl cW, .int .i64 aY, .int .i64 aT, .sl ev, .int .i64 bc, .int .i64 bf, .sl cX, .int .i64 bv, .int .i64 bg, .sl cY, .bool (r.1)] :: Rs.ow gn ⟨fP, fc, fQ⟩ (eInt .i64).z gp kq gq :: R0) fun R => CR (eInt .i64) H' R kq (r.2)
def bF.S7 (H0 : Hp) (Ri R0 : List Rs) (ay aj aA ap aq ao au av aH aw : Int) (ef cE eD cF cG : Sl) (az gC : Nat) (hX : ON) (hY : Cap) (jz : Bool) (jA jB : List AV) (C : Nat → Nat → Int → Int → Int → Nat → Nat → Int → Int → Hp → OA) (pC : Bool → Int → Int → Int → Int → List Int → Int → Int → Option (Bool × List Int)) : Prop := ∀ {ax : Bool} {cf dL dl nz iT ff eH : Int} {gN : List Int} {mv : List AV} {cL : Nat}, ∀ {H : Hp}, gC = gN.length → (Out H0 Ri H (Rs.blk az [.int .i64 ay, .int .i64 aj, .sl ef, .int .i64 aA, .int .i64 ap, .sl cE, .int .i64 aq, .int .i64 ao, .sl eD, .int .i64 au, .int .i64 av, .sl cF, .int .i64 aH, .int .i64 aw, .sl cG, .bool ax] :: Rs.ow jz ⟨hX, gC, hY⟩ (eInt .i64).z jA mv jB :: Rs.blk cL [.int .i64 nz, .int .i64 iT, .sl ⟨hX, gC, hY⟩] :: R0) fun R => CR (eInt .i64) H R mv gN) → ∀ {r : Bool × List Int}, pC ax cf dL dl iT gN ff eH = some r → ∃ v H', C az 0 cf dL dl cL 0 ff eH H = some (v, H') ∧ bF.Q H0 Ri R0 ay aj aA ap aq ao au av aH aw ef cE eD cF cG az gC hX hY jz jA jB r v H'
def bF.pl7 (F : Nat)  : Nat → Bool → Int → Int → Int → Int → List Int → Int → Int → Option (Bool × List Int)
 | 0, _, _, _, _, _, _, _, _ => none
 | k + 1, ax, cf, dL, dl, iT, gN, ff, eH => (bif (decide (eH < ff)) then ((ix gN (IntKind.i64.wrap ((IntKind.i64.wrap (cf * iT)) + eH))).bind fun n2 => (ix gN (IntKind.i64.wrap ((IntKind.i64.wrap (dL * iT)) + eH))).bind fun n5 => (dw.p F (gt gN n5) dl 2000000000000).bind fun r6 => (some (gN.set n2 (IntKind.i64.wrap ((gt gN n2) + r6.1)))).bind fun l9 => (bif (!r6.2) then ((some (l9.set n2 0)).bind fun l12 => bF.pl7 F k true cf dL dl iT l12 ff (IntKind.i64.wrap (eH + 1))) else ((ch.p F (gt l9 n2)).bind fun r16 => (bif (decide (r16 > 1000000000000)) then ((some (l9.set n2 0)).bind fun l19 => bF.pl7 F k true cf dL dl iT l19 ff (IntKind.i64.wrap (eH + 1))) else (bF.pl7 F k ax cf dL dl iT l9 ff (IntKind.i64.wrap (eH + 1))))))) else (some (ax, gN)))
termination_by structural n => n
end Go.Proofs.Ytnkgeongfneafaa.AE
