import Derived.Test.YtnkgeongfneafaaT2
import Derived.Test.YtnkgeongfneafaaE2
set_option linter.unusedVariables false
set_option linter.unusedSimpArgs false
namespace Go.Proofs.Ytnkgeongfneafaa.AE
open Go Go.AE Go.Proofs
set_option linter.unusedVariables false
set_option maxHeartbeats 4000000
set_option maxRecDepth 100000
theorem aO.inl {F : Nat} {aa : Int} {ac : Int} {ak : Sl} {af : Int} {bh : Int} {H : Hp} {K : AV × Hp → OA} {Q : AV → Hp → Prop} (h : ∃ u H1, ((Hp.new H [(.int .i64 aa), (.int .i64 ac), (.sl ak)]).bind fun H6 => (Hp.ldSl H6 H.length 2).bind fun s7 => (Hp.ldI H6 .i64 H.length 1).bind fun n8 => (Sl.idx s7 (IntKind.i64.wrap ((IntKind.i64.wrap (af * n8)) + bh)) 1).bind fun p9 => some ((.ptr p9.1 p9.2), H6)) = some (u, H1) ∧ ∃ v H', K (u, H1) = some (v, H') ∧ Q v H') : ∃ v H', (aO.tw F aa ac ak af bh H).bind K = some (v, H') ∧ Q v H' := inl_ex h
theorem cy.inl {F : Nat} {aa : Int} {ac : Int} {ak : Sl} {af : Int} {H : Hp} {K : AV × Hp → OA} {Q : AV → Hp → Prop} (h : ∃ u H1, ((Hp.new H [(.int .i64 aa), (.int .i64 ac), (.sl ak)]).bind fun H5 => (Hp.ldSl H5 H.length 2).bind fun s6 => (Hp.ldI H5 .i64 H.length 1).bind fun n7 => (Hp.ldI H5 .i64 H.length 1).bind fun n8 => (Sl.cut s6 1 (IntKind.i64.wrap (af * n7)) (IntKind.i64.wrap ((IntKind.i64.wrap (af + 1)) * n8))).bind fun s9 => some ((.sl s9), H5)) = some (u, H1) ∧ ∃ v H', K (u, H1) = some (v, H') ∧ Q v H') : ∃ v H', (cy.tw F aa ac ak af H).bind K = some (v, H') ∧ Q v H' := inl_ex h
theorem dn.inl {F : Nat} {aa : Nat} {ac : Nat} {ae : Nat} {af : Nat} {bh : Int} {jh : Int} {H : Hp} {K : AV × Hp → OA} {Q : AV → Hp → Prop} (h : ∃ u H1, ((dz.tw F bh jh 2000000000000 H).bind fun r7 => ((r7.1).asTup 2).bind fun l8 => (l8[0]?).bind fun v9 => ((v9).asI .i64).bind fun n10 => (l8[1]?).bind fun v11 => ((v11).asB).bind fun b12 => (Hp.ldI r7.2 .i64 ae af).bind fun n13 => (Hp.st r7.2 ae af (.int .i64 (IntKind.i64.wrap (n13 + n10)))).bind fun H14 => (bif (!b12) then ((Hp.st H14 aa (ac + 15) (.bool true)).bind fun H15 => (Hp.st H15 ae af (.int .i64 0)).bind fun H16 => some ((.tup []), H16)) else ((Hp.ldI H14 .i64 ae af).bind fun n17 => (cj.tw F n17 H14).bind fun r18 => ((r18.1).asI .i64).bind fun n19 => (bif (decide (n19 > 1000000000000)) then ((Hp.st r18.2 aa (ac + 15) (.bool true)).bind fun H20 => (Hp.st H20 ae af (.int .i64 0)).bind fun H21 => some ((.tup []), H21)) else (some ((.tup []), r18.2)))))) = some (u, H1) ∧ ∃ v H', K (u, H1) = some (v, H') ∧ Q v H') : ∃ v H', (dn.tw F aa ac ae af bh jh H).bind K = some (v, H') ∧ Q v H' := inl_ex h
theorem eC.inl {F : Nat} {aa : Int} {ac : Int} {ak : Sl} {H : Hp} {K : AV × Hp → OA} {Q : AV → Hp → Prop} (h : ∃ u H1, ((Hp.new H [(.int .i64 aa), (.int .i64 ac), (.sl ak)]).bind fun H4 => (Hp.ldI H4 .i64 H.length 0).bind fun n5 => (bN.tw F n5 H4).bind fun r6 => ((r6.1).asAgg 3).bind fun l7 => (l7[0]?).bind fun v8 => ((v8).asI .i64).bind fun n9 => (l7[1]?).bind fun v10 => ((v10).asI .i64).bind fun n11 => (l7[2]?).bind fun v12 => ((v12).asSl).bind fun s13 => (if Cons H4 r6.2 then ((Hp.ldI r6.2 .i64 H.length 0).bind fun n14 => (bN.tw F n14 r6.2).bind fun r15 => ((r15.1).asAgg 3).bind fun l16 => (l16[0]?).bind fun v17 => ((v17).asI .i64).bind fun n18 => (l16[1]?).bind fun v19 => ((v19).asI .i64).bind fun n20 => (l16[2]?).bind fun v21 => ((v21).asSl).bind fun s22 => (if Cons r6.2 r15.2 then ((Hp.ldI r15.2 .i64 H.length 0).bind fun n23 => (Hp.ldI r15.2 .i64 H.length (0 + 1)).bind fun n24 => (Hp.ldSl r15.2 H.length (0 + 2)).bind fun s25 => (dM.tw F n23 n24 s25 r15.2).bind fun r26 => ((r26.1).asAgg 3).bind fun l27 => (l27[0]?).bind fun v28 => ((v28).asI .i64).bind fun n29 => (l27[1]?).bind fun v30 => ((v30).asI .i64).bind fun n31 => (l27[2]?).bind fun v32 => ((v32).asSl).bind fun s33 => (if Cons r15.2 r26.2 then ((Hp.ldI r26.2 .i64 H.length 1).bind fun n34 => (bN.tw F n34 r26.2).bind fun r35 => ((r35.1).asAgg 3).bind fun l36 => (l36[0]?).bind fun v37 => ((v37).asI .i64).bind fun n38 => (l36[1]?).bind fun v39 => ((v39).asI .i64).bind fun n40 => (l36[2]?).bind fun v41 => ((v41).asSl).bind fun s42 => (if Cons r26.2 r35.2 then ((Hp.ldI r35.2 .i64 H.length 1).bind fun n43 => (bN.tw F n43 r35.2).bind fun r44 => ((r44.1).asAgg 3).bind fun l45 => (l45[0]?).bind fun v46 => ((v46).asI .i64).bind fun n47 => (l45[1]?).bind fun v48 => ((v48).asI .i64).bind fun n49 => (l45[2]?).bind fun v50 => ((v50).asSl).bind fun s51 => (Hp.new r44.2 [(.int .i64 n9), (.int .i64 n11), (.sl s13), (.int .i64 n18), (.int .i64 n20), (.sl s22), (.int .i64 n29), (.int .i64 n31), (.sl s33), (.int .i64 n38), (.int .i64 n40), (.sl s42), (.int .i64 n47), (.int .i64 n49), (.sl s51), (.bool false)]).bind fun H52 => some ((.ptr r44.2.length 0), H52)) else none)) else none)) else none)) else none)) = some (u, H1) ∧ ∃ v H', K (u, H1) = some (v, H') ∧ Q v H') : ∃ v H', (eC.tw F aa ac ak H).bind K = some (v, H') ∧ Q v H' := inl_ex h
def ec.Q (H0 : Hp) (Ri R0 : List Rs)  (r : Int) (v : AV) (H' : Hp) : Prop := v = (.int .i64 r) ∧ Out H0 Ri H' (R0) fun R => True
def ec.p (F : Nat) (cS : List Int) (ag : Int) : Option (Int) := (bif (decide ((IntKind.i64.wrap (ag - (cS.length : Int))) < 0)) then (some (-1)) else (some (IntKind.i64.wrap (ag - (cS.length : Int)))))
theorem ec.P {F : Nat} {fr : ON} {eo : Nat} {ft : Cap} {cS : List Int} {ag : Int} {H : Hp} {R0 : List Rs} (gU : eo = cS.length) (h0 : Inn H R0 fun R => ROs (eInt .i64) H R ⟨fr, eo, ft⟩ cS) {r : Int} (hp : ec.p F cS ag = some r) : ∃ v H', ec.tw F ⟨fr, eo, ft⟩ ag H = some (v, H') ∧ ec.Q H R0 R0  r v H' := by
 obtain ⟨w0, iW⟩ := h0
 subst gU
 unfold ec.p at hp
 unfold ec.tw ec.twX
 have s0 := w0.rf
 refine bif_ex (fun hb => ?_) (fun hb => ?_)
 ·replace hp := bif_t hb hp
  obtain rfl := Option.some.inj hp
  exact ⟨_, _, rfl, rfl, w0, s0, trivial⟩
 ·replace hp := bif_f hb hp
  obtain rfl := Option.some.inj hp
  exact ⟨_, _, rfl, rfl, w0, s0, trivial⟩
def dH.Q (H0 : Hp) (Ri R0 : List Rs)  (r : Int) (v : AV) (H' : Hp) : Prop := v = (.int .i64 r) ∧ Out H0 Ri H' (R0) fun R => True
def dH.p (F : Nat) (bk : List Int) (af : Int) : Option (Int) := (ec.p F bk af).bind fun r2 => (bif (decide (r2 < 0)) then (some (-1)) else (some r2))
theorem dH.P {F : Nat} {aa ac af : Int} {cV : ON} {bK : Nat} {cW : Cap} {bk : List Int} {H : Hp} {R0 : List Rs} (fP : bK = bk.length) (h0 : Inn H R0 fun R => ROs (eInt .i64) H R ⟨cV, bK, cW⟩ bk) {r : Int} (hp : dH.p F bk af = some r) : ∃ v H', dH.tw F aa ac ⟨cV, bK, cW⟩ af H = some (v, H') ∧ dH.Q H R0 R0  r v H' := by
 obtain ⟨w0, eM⟩ := h0
 subst fP
 unfold dH.p at hp
 unfold dH.tw dH.twX
 have s0 := w0.rf
 refine new_k w0 fun H1 w1 s1 => ?_
 refine bind_ex (ldSl_of (w1.ld (i := 0) rfl rfl)) ?_
 obtain ⟨r2, e2, hp⟩ := bind_some' hp
 refine call_ex (ec.P rfl ⟨w1, (eM.step s1)⟩ e2) ?_
 rintro _ H3 ⟨rfl, w3, s3, _⟩
 refine bind_ex rfl ?_
 refine bif_ex (fun hb => ?_) (fun hb => ?_)
 ·replace hp := bif_t hb hp
  obtain ⟨w4, s4⟩ := w3.pick' [] 1 rfl rfl rfl
  dsimp only [pk, pks, nth, List.drop] at w4 s4
  obtain rfl := Option.some.inj hp
  exact ⟨_, _, rfl, rfl, w4, (s0.trans (s1.trans (s3.trans s4))), trivial⟩
 ·replace hp := bif_f hb hp
  obtain ⟨w5, s5⟩ := w3.pick' [] 1 rfl rfl rfl
  dsimp only [pk, pks, nth, List.drop] at w5 s5
  obtain rfl := Option.some.inj hp
  exact ⟨_, _, rfl, rfl, w5, (s0.trans (s1.trans (s3.trans s5))), trivial⟩
def ct.Q (H0 : Hp) (Ri R0 : List Rs)  (r : List Int) (v : AV) (H' : Hp) : Prop := ∃ o0a : ON, ∃ o0n : Nat, ∃ o0c : Cap, ∃ o0k : List AV, v = (.sl ⟨o0a, o0n, o0c⟩) ∧ o0n = (r).length ∧ Out H0 Ri H' (Rs.own ⟨o0a, o0n, o0c⟩ (eInt .i64).z o0k :: R0) fun R => CR (eInt .i64) H' R o0k (r)
def ct.S29 (H0 : Hp) (Ri R0 : List Rs)  (C : Sl → Sl → Int → Hp → OA) (pC : List Int → List Int → Int → Option (List Int)) : Prop := ∀ {kx qE : ON} {jY pc : Nat} {ky qF : Cap} {fj lS : List Int} {qG : List AV} {ik : Int}, ∀ {H : Hp}, jY = fj.length → pc = lS.length → (Out H0 Ri H (Rs.own ⟨qE, pc, qF⟩ (eInt .i64).z qG :: R0) fun R => ROs (eInt .i64) H R ⟨kx, jY, ky⟩ fj ∧ CR (eInt .i64) H R qG lS) → ∀ {r : List Int}, pC fj lS ik = some r → ∃ v H', C ⟨kx, jY, ky⟩ ⟨qE, pc, qF⟩ ik H = some (v, H') ∧ ct.Q H0 Ri R0  r v H'
def ct.pl29 (F : Nat)  : Nat → List Int → List Int → Int → Option (List Int)
 | 0, _, _, _ => none
 | k + 1, fj, lS, ik => (bif (decide (ik < (fj.length : Int))) then ((ix fj ik).bind fun n1 => (ix lS ik).bind fun n2 => (some (lS.set n2 (gt fj n1))).bind fun l3 => ct.pl29 F k fj l3 (IntKind.i64.wrap (ik + 1))) else (some lS))
termination_by structural n => n
theorem ct.l29_P {F : Nat} {H0 : Hp} {Ri R0 : List Rs}   : ∀ k, ct.S29 H0 Ri R0  (ct.l29 F   k) (ct.pl29 F  k) := by
 intro k
 induction k with
 | zero =>
  intro kx qE jY pc ky qF fj lS qG ik H lx vn h0 r hp
  exact nomatch (show (none : Option (List Int)) = some r from hp)
 | succ k ih =>
  intro kx qE jY pc ky qF fj lS qG ik H lx vn h0 r hp
  obtain ⟨w0, s0, kR, tC⟩ := h0
  subst lx
  subst vn
  unfold ct.pl29 at hp
  unfold ct.l29
  refine bif_ex (fun hb => ?_) (fun hb => ?_)
  ·replace hp := bif_t hb hp
   obtain ⟨n1, g1, hp⟩ := bind_some' hp
   obtain ⟨p1, q1, i1, h1, j1⟩ := ROs.ixr kR rfl g1
   refine bind_ex i1 ?_
   have h1 : _ = [_] := h1
   subst h1
   refine bind_ex (ldI_of (j1 0 _ rfl)) ?_
   obtain ⟨n2, g2, hp⟩ := bind_some' hp
   obtain ⟨p2, q2, i2, h2, j2⟩ := W.ixo (E := (eInt .i64)) w0 (i := 0) rfl rfl tC g2
   refine bind_ex i2 ?_
   obtain ⟨l3, e3, hp⟩ := bind_some' hp
   refine sto_k (eInt .i64) w0 (i := 0) (j := 0) (p := p2) rfl rfl tC g2 i2 e3 rfl rfl (fun _ h => by have h : _ = [_] := h; subst h; exact rfl) fun H4 k4 w4 s4 c4 => ?_
   dsimp only [List.set] at w4 s4 c4
   exact ih rfl ((st_len e3).symm) ⟨w4, (s0.trans s4), (kR.step s4), c4⟩ hp
  ·replace hp := bif_f hb hp
   obtain rfl := Option.some.inj hp
   exact ⟨_, _, rfl, _, _, _, _, rfl, rfl, w0, s0, tC⟩
def ct.p (F : Nat) (cS : List Int) : Option (List Int) := (mkn (cS.length : Int) (0 : Int)).bind fun l1 => ct.pl29 F F cS l1 0
theorem ct.P {F : Nat} {fr : ON} {eo : Nat} {ft : Cap} {cS : List Int} {H : Hp} {R0 : List Rs} (gU : eo = cS.length) (h0 : Inn H R0 fun R => ROs (eInt .i64) H R ⟨fr, eo, ft⟩ cS) {r : List Int} (hp : ct.p F cS = some r) : ∃ v H', ct.tw F ⟨fr, eo, ft⟩ H = some (v, H') ∧ ct.Q H R0 R0  r v H' := by
 obtain ⟨w0, iW⟩ := h0
 subst gU
 unfold ct.p at hp
 unfold ct.tw ct.twX
 have s0 := w0.rf
 obtain ⟨l1, e1, hp⟩ := bind_some' hp
 refine mk_k (eInt .i64) (0 : Int) w0 rfl rfl rfl e1 fun H2 k2 w2 s2 c2 => ?_
 exact ct.l29_P F rfl rfl ⟨w2, (s0.trans s2), (iW.step s2), c2⟩ hp
def du.Q (H0 : Hp) (Ri R0 : List Rs)  (r : Int × Int × List Int) (v : AV) (H' : Hp) : Prop := ∃ o2a : ON, ∃ o2n : Nat, ∃ o2c : Cap, ∃ o2k : List AV, v = (.agg [(.int .i64 r.1), (.int .i64 r.2.1), (.sl ⟨o2a, o2n, o2c⟩)]) ∧ o2n = (r.2.2).length ∧ Out H0 Ri H' (Rs.own ⟨o2a, o2n, o2c⟩ (eInt .i64).z o2k :: R0) fun R => CR (eInt .i64) H' R o2k (r.2.2)
def du.p (F : Nat) (aa : Int) (ac : Int) (bk : List Int) : Option (Int × Int × List Int) := (ct.p F bk).bind fun r6 => some (aa, ac, r6)
theorem du.P {F : Nat} {aa ac : Int} {cV : ON} {bK : Nat} {cW : Cap} {bk : List Int} {H : Hp} {R0 : List Rs} (fP : bK = bk.length) (h0 : Inn H R0 fun R => ROs (eInt .i64) H R ⟨cV, bK, cW⟩ bk) {r : Int × Int × List Int} (hp : du.p F aa ac bk = some r) : ∃ v H', du.tw F aa ac ⟨cV, bK, cW⟩ H = some (v, H') ∧ du.Q H R0 R0  r v H' := by
 obtain ⟨w0, eM⟩ := h0
 subst fP
 unfold du.p at hp
 unfold du.tw du.twX
 have s0 := w0.rf
 refine new_k w0 fun H1 w1 s1 => ?_
 refine new_k w1 fun H2 w2 s2 => ?_
 refine new_k w2 fun H3 w3 s3 => ?_
 refine bind_ex (ldI_of (w3.ld (i := 2) rfl rfl)) ?_
 refine st_k w3 (i := 0) rfl rfl rfl fun H4 w4 s4 => ?_
 dsimp only [List.set] at w4 s4
 refine bind_ex (ldI_of (w4.ld (i := 2) rfl rfl)) ?_
 refine st_k w4 (i := 0) rfl rfl rfl fun H5 w5 s5 => ?_
 dsimp only [List.set] at w5 s5
 refine bind_ex (ldSl_of (w5.ld (i := 2) rfl rfl)) ?_
 obtain ⟨r6, e6, hp⟩ := bind_some' hp
 refine call_ex (ct.P rfl ⟨w5, (eM.step (s1.trans (s2.trans (s3.trans (s4.trans s5)))))⟩ e6) ?_
 rintro _ H7 ⟨o0a_7, o0n_7, o0c_7, o0k_7, rfl, rfl, w7, s7, f7_0⟩
 refine bind_ex rfl ?_
 refine st_k w7 (i := 1) rfl rfl rfl fun H8 w8 s8 => ?_
 dsimp only [List.set] at w8 s8
 refine bind_ex (ldI_of (w8.ld (i := 1) rfl rfl)) ?_
 refine bind_ex (ldI_of (w8.ld (i := 1) rfl rfl)) ?_
 refine bind_ex (ldSl_of (w8.ld (i := 1) rfl rfl)) ?_
 refine st_k w8 (i := 2) rfl rfl rfl fun H9 w9 s9 => ?_
 dsimp only [List.set] at w9 s9
 refine st_k w9 (i := 2) rfl rfl rfl fun H10 w10 s10 => ?_
 dsimp only [List.set] at w10 s10
 refine st_k w10 (i := 2) rfl rfl rfl fun H11 w11 s11 => ?_
 dsimp only [List.set] at w11 s11
 refine bind_ex (ldI_of (w11.ld (i := 2) rfl rfl)) ?_
 refine bind_ex (ldI_of (w11.ld (i := 2) rfl rfl)) ?_
 refine bind_ex (ldSl_of (w11.ld (i := 2) rfl rfl)) ?_
 obtain ⟨w12, s12⟩ := w11.pick' [0] 4 rfl rfl rfl
 dsimp only [pk, pks, nth, List.drop] at w12 s12
 obtain rfl := Option.some.inj hp
 exact ⟨_, _, rfl, _, _, _, _, rfl, rfl, w12, (s0.trans (s1.trans (s2.trans (s3.trans (s4.trans (s5.trans (s7.trans (s8.trans (s9.trans (s10.trans (s11.trans s12))))))))))), (f7_0.step (s8.trans (s9.trans (s10.trans (s11.trans s12)))))⟩
def dC.Q (H0 : Hp) (Ri R0 : List Rs)  (r : Bool) (v : AV) (H' : Hp) : Prop := v = (.bool r) ∧ Out H0 Ri H' (R0) fun R => True
def dC.p (F : Nat) (aa : Int) (ag : Int) (cJ : Int) : Option (Bool) := (bif (decide (aa ≥ ag)) then (some (decide (aa ≤ cJ))) else (some false))
theorem dC.P {F : Nat} {aa ag cJ : Int} {H : Hp} {R0 : List Rs}  (h0 : Inn H R0 fun R => True) {r : Bool} (hp : dC.p F aa ag cJ = some r) : ∃ v H', dC.tw F aa ag cJ H = some (v, H') ∧ dC.Q H R0 R0  r v H' := by
 obtain ⟨w0, _⟩ := h0
 unfold dC.p at hp
 unfold dC.tw dC.twX
 have s0 := w0.rf
 refine bif_ex (fun hb => ?_) (fun hb => ?_)
 ·replace hp := bif_t hb hp
  obtain rfl := Option.some.inj hp
  exact ⟨_, _, rfl, rfl, w0, s0, trivial⟩
 ·replace hp := bif_f hb hp
  obtain rfl := Option.some.inj hp
  exact ⟨_, _, rfl, rfl, w0, s0, trivial⟩
def co.Q (H0 : Hp) (Ri R0 : List Rs)  (r : Bool) (v : AV) (H' : Hp) : Prop := v = (.bool r) ∧ Out H0 Ri H' (R0) fun R => True
def co.S29 (H0 : Hp) (Ri R0 : List Rs)  (C : Nat → Nat → Int → Hp → OA) (pC : List Int → Int → Option (Bool)) : Prop := ∀ {tD tE ja : Int} {qH : ON} {pd jU : Nat} {qI : Cap} {lL : List Int}, ∀ {H : Hp}, pd = lL.length → (Out H0 Ri H (Rs.blk jU [.int .i64 tD, .int .i64 tE, .sl ⟨qH, pd, qI⟩] :: R0) fun R => ROs (eInt .i64) H R ⟨qH, pd, qI⟩ lL) → ∀ {r : Bool}, pC lL ja = some r → ∃ v H', C jU 0 ja H = some (v, H') ∧ co.Q H0 Ri R0  r v H'
def co.pl29 (F : Nat)  : Nat → List Int → Int → Option (Bool)
 | 0, _, _ => none
 | k + 1, lL, ja => (bif (decide (ja < (lL.length : Int))) then ((ix lL ja).bind fun n1 => (dC.p F (gt lL n1) (-1000000000000) 1000000000000).bind fun r2 => (bif (!r2) then (some false) else (co.pl29 F k lL (IntKind.i64.wrap (ja + 1))))) else (some true))
termination_by structural n => n
theorem co.l29_P {F : Nat} {H0 : Hp} {Ri R0 : List Rs}   : ∀ k, co.S29 H0 Ri R0  (co.l29 F (dC.tw F)  k) (co.pl29 F  k) := by
 intro k
 induction k with
 | zero =>
  intro tD tE ja qH pd jU qI lL H vo h0 r hp
  exact nomatch (show (none : Option (Bool)) = some r from hp)
 | succ k ih =>
  intro tD tE ja qH pd jU qI lL H vo h0 r hp
  obtain ⟨w0, s0, vp⟩ := h0
  subst vo
  unfold co.pl29 at hp
  unfold co.l29
  refine bind_ex (ldSl_of (w0.ld (i := 0) rfl rfl)) ?_
  refine bif_ex (fun hb => ?_) (fun hb => ?_)
  ·replace hp := bif_t hb hp
   refine bind_ex (ldSl_of (w0.ld (i := 0) rfl rfl)) ?_
   obtain ⟨n1, g1, hp⟩ := bind_some' hp
   obtain ⟨p1, q1, i1, h1, j1⟩ := ROs.ixr vp rfl g1
   refine bind_ex i1 ?_
   have h1 : _ = [_] := h1
   subst h1
   refine bind_ex (ldI_of (j1 0 _ rfl)) ?_
   obtain ⟨r2, e2, hp⟩ := bind_some' hp
   refine call_ex (dC.P ⟨w0, trivial⟩ e2) ?_
   rintro _ H3 ⟨rfl, w3, s3, _⟩
   refine bind_ex rfl ?_
   refine bif_ex (fun hb => ?_) (fun hb => ?_)
   ·replace hp := bif_t hb hp
    obtain ⟨w4, s4⟩ := w3.pick' [] 1 rfl rfl rfl
    dsimp only [pk, pks, nth, List.drop] at w4 s4
    obtain rfl := Option.some.inj hp
    exact ⟨_, _, rfl, rfl, w4, (s0.trans (s3.trans s4)), trivial⟩
   ·replace hp := bif_f hb hp
    exact ih rfl ⟨w3, (s0.trans s3), (vp.step s3)⟩ hp
  ·replace hp := bif_f hb hp
   obtain ⟨w5, s5⟩ := w0.pick' [] 1 rfl rfl rfl
   dsimp only [pk, pks, nth, List.drop] at w5 s5
   obtain rfl := Option.some.inj hp
   exact ⟨_, _, rfl, rfl, w5, (s0.trans s5), trivial⟩
def co.p (F : Nat) (aa : Int) (ac : Int) (bk : List Int) : Option (Bool) := (dC.p F aa 0 48).bind fun r2 => (bif (!r2) then (some false) else ((dC.p F ac 0 48).bind fun r5 => (bif (!r5) then (some false) else ((bif ((bk.length : Int) != (IntKind.i64.wrap (aa * ac))) then (some false) else (co.pl29 F F bk 0))))))
theorem co.P {F : Nat} {aa ac : Int} {cV : ON} {bK : Nat} {cW : Cap} {bk : List Int} {H : Hp} {R0 : List Rs} (fP : bK = bk.length) (h0 : Inn H R0 fun R => ROs (eInt .i64) H R ⟨cV, bK, cW⟩ bk) {r : Bool} (hp : co.p F aa ac bk = some r) : ∃ v H', co.tw F aa ac ⟨cV, bK, cW⟩ H = some (v, H') ∧ co.Q H R0 R0  r v H' := by
 obtain ⟨w0, eM⟩ := h0
 subst fP
 unfold co.p at hp
 unfold co.tw co.twX
 have s0 := w0.rf
 refine new_k w0 fun H1 w1 s1 => ?_
 refine bind_ex (ldI_of (w1.ld (i := 0) rfl rfl)) ?_
 obtain ⟨r2, e2, hp⟩ := bind_some' hp
 refine call_ex (dC.P ⟨w1, trivial⟩ e2) ?_
 rintro _ H3 ⟨rfl, w3, s3, _⟩
 refine bind_ex rfl ?_
 refine bif_ex (fun hb => ?_) (fun hb => ?_)
 ·replace hp := bif_t hb hp
  obtain ⟨w4, s4⟩ := w3.pick' [] 1 rfl rfl rfl
  dsimp only [pk, pks, nth, List.drop] at w4 s4
  obtain rfl := Option.some.inj hp
  exact ⟨_, _, rfl, rfl, w4, (s0.trans (s1.trans (s3.trans s4))), trivial⟩
 ·replace hp := bif_f hb hp
  refine bind_ex (ldI_of (w3.ld (i := 0) rfl rfl)) ?_
  obtain ⟨r5, e5, hp⟩ := bind_some' hp
  refine call_ex (dC.P ⟨w3, trivial⟩ e5) ?_
  rintro _ H6 ⟨rfl, w6, s6, _⟩
  refine bind_ex rfl ?_
  refine bif_ex (fun hb => ?_) (fun hb => ?_)
  ·replace hp := bif_t hb hp
   obtain ⟨w7, s7⟩ := w6.pick' [] 1 rfl rfl rfl
   dsimp only [pk, pks, nth, List.drop] at w7 s7
   obtain rfl := Option.some.inj hp
   exact ⟨_, _, rfl, rfl, w7, (s0.trans (s1.trans (s3.trans (s6.trans s7)))), trivial⟩
  ·replace hp := bif_f hb hp
   refine bind_ex (ldSl_of (w6.ld (i := 0) rfl rfl)) ?_
   refine bind_ex (ldI_of (w6.ld (i := 0) rfl rfl)) ?_
   refine bind_ex (ldI_of (w6.ld (i := 0) rfl rfl)) ?_
   refine bif_ex (fun hb => ?_) (fun hb => ?_)
   ·replace hp := bif_t hb hp
    obtain ⟨w8, s8⟩ := w6.pick' [] 1 rfl rfl rfl
    dsimp only [pk, pks, nth, List.drop] at w8 s8
    obtain rfl := Option.some.inj hp
    exact ⟨_, _, rfl, rfl, w8, (s0.trans (s1.trans (s3.trans (s6.trans s8)))), trivial⟩
   ·replace hp := bif_f hb hp
    exact co.l29_P F rfl ⟨w6, (s0.trans (s1.trans (s3.trans s6))), (eM.step (s1.trans (s3.trans s6)))⟩ hp
def dS.Q (H0 : Hp) (Ri R0 : List Rs)  (r : Int × Int × List Int) (v : AV) (H' : Hp) : Prop := ∃ o2a : ON, ∃ o2n : Nat, ∃ o2k : List AV, v = (.agg [(.int .i64 r.1), (.int .i64 r.2.1), (.sl ⟨o2a, o2n, .ex o2n⟩)]) ∧ o2n = (r.2.2).length ∧ Out H0 Ri H' (Rs.own ⟨o2a, o2n, .ex o2n⟩ (eInt .i64).z o2k :: R0) fun R => CR (eInt .i64) H' R o2k (r.2.2)
def dS.p (F : Nat) (aa : Int) (ag : Int) : Option (Int × Int × List Int) := (mkn (IntKind.i64.wrap (aa * ag)) (0 : Int)).bind fun l2 => some (aa, ag, l2)
theorem dS.P {F : Nat} {aa ag : Int} {H : Hp} {R0 : List Rs}  (h0 : Inn H R0 fun R => True) {r : Int × Int × List Int} (hp : dS.p F aa ag = some r) : ∃ v H', dS.tw F aa ag H = some (v, H') ∧ dS.Q H R0 R0  r v H' := by
 obtain ⟨w0, _⟩ := h0
 unfold dS.p at hp
 unfold dS.tw dS.twX
 have s0 := w0.rf
 refine new_k w0 fun H1 w1 s1 => ?_
 obtain ⟨l2, e2, hp⟩ := bind_some' hp
 refine mk_k (eInt .i64) (0 : Int) w1 rfl rfl rfl e2 fun H3 k3 w3 s3 c3 => ?_
 refine st_k w3 (i := 1) rfl rfl rfl fun H4 w4 s4 => ?_
 dsimp only [List.set] at w4 s4
 refine st_k w4 (i := 1) rfl rfl rfl fun H5 w5 s5 => ?_
 dsimp only [List.set] at w5 s5
 refine st_k w5 (i := 1) rfl rfl rfl fun H6 w6 s6 => ?_
 dsimp only [List.set] at w6 s6
 refine bind_ex (ldI_of (w6.ld (i := 1) rfl rfl)) ?_
 refine bind_ex (ldI_of (w6.ld (i := 1) rfl rfl)) ?_
 refine bind_ex (ldSl_of (w6.ld (i := 1) rfl rfl)) ?_
 obtain ⟨w7, s7⟩ := w6.pick' [0] 2 rfl rfl rfl
 dsimp only [pk, pks, nth, List.drop] at w7 s7
 obtain rfl := Option.some.inj hp
 exact ⟨_, _, rfl, _, _, _, rfl, rfl, w7, (s0.trans (s1.trans (s3.trans (s4.trans (s5.trans (s6.trans s7)))))), (c3.step (s4.trans (s5.trans (s6.trans s7))))⟩
def bM.Q (H0 : Hp) (Ri R0 : List Rs)  (r : Int × Int × List Int) (v : AV) (H' : Hp) : Prop := ∃ o2a : ON, ∃ o2n : Nat, ∃ o2c : Cap, ∃ o2k : List AV, v = (.agg [(.int .i64 r.1), (.int .i64 r.2.1), (.sl ⟨o2a, o2n, o2c⟩)]) ∧ o2n = (r.2.2).length ∧ Out H0 Ri H' (Rs.own ⟨o2a, o2n, o2c⟩ (eInt .i64).z o2k :: R0) fun R => CR (eInt .i64) H' R o2k (r.2.2)
def bM.S29 (H0 : Hp) (Ri R0 : List Rs)  (C : Int → Nat → Nat → Nat → Nat → Int → Hp → OA) (pC : Int → Int → Int → List Int → Int → Option (Int × Int × List Int)) : Prop := ∀ {hQ nh ni ko kj im : Int} {lT lU : ON} {ly ch lz fo : Nat} {lV lW : Cap} {lX jy : List Int} {lY lZ : List AV}, ∀ {H : Hp}, ly = lX.length → lz = jy.length → (Out H0 Ri H (Rs.own ⟨lT, ly, lV⟩ (eInt .i64).z lY :: Rs.blk ch [.int .i64 nh, .int .i64 ni, .sl ⟨lT, ly, lV⟩] :: Rs.own ⟨lU, lz, lW⟩ (eInt .i64).z lZ :: Rs.blk fo [.int .i64 ko, .int .i64 kj, .sl ⟨lU, lz, lW⟩] :: R0) fun R => CR (eInt .i64) H R lY lX ∧ CR (eInt .i64) H R lZ jy) → ∀ {r : Int × Int × List Int}, pC hQ ko kj jy im = some r → ∃ v H', C hQ ch 0 fo 0 im H = some (v, H') ∧ bM.Q H0 Ri R0  r v H'
def bM.pl29 (F : Nat)  : Nat → Int → Int → Int → List Int → Int → Option (Int × Int × List Int)
 | 0, _, _, _, _, _ => none
 | k + 1, hQ, ko, kj, jy, im => (bif (decide (im < hQ)) then ((ix jy (IntKind.i64.wrap ((IntKind.i64.wrap (im * hQ)) + im))).bind fun n1 => (some (jy.set n1 1)).bind fun l2 => bM.pl29 F k hQ ko kj l2 (IntKind.i64.wrap (im + 1))) else (some (ko, kj, jy)))
termination_by structural n => n
theorem bM.l29_P {F : Nat} {H0 : Hp} {Ri R0 : List Rs}   : ∀ k, bM.S29 H0 Ri R0  (bM.l29 F (dS.tw F)  k) (bM.pl29 F  k) := by
 intro k
 induction k with
 | zero =>
  intro hQ nh ni ko kj im lT lU ly ch lz fo lV lW lX jy lY lZ H pe pf h0 r hp
  exact nomatch (show (none : Option (Int × Int × List Int)) = some r from hp)
 | succ k ih =>
  intro hQ nh ni ko kj im lT lU ly ch lz fo lV lW lX jy lY lZ H pe pf h0 r hp
  obtain ⟨w0, s0, tF, nj⟩ := h0
  subst pe
  subst pf
  unfold bM.pl29 at hp
  unfold bM.l29
  refine bif_ex (fun hb => ?_) (fun hb => ?_)
  ·replace hp := bif_t hb hp
   refine bind_ex (ldSl_of (w0.ld (i := 3) rfl rfl)) ?_
   obtain ⟨n1, g1, hp⟩ := bind_some' hp
   obtain ⟨p1, q1, i1, h1, j1⟩ := W.ixo (E := (eInt .i64)) w0 (i := 2) rfl rfl nj g1
   refine bind_ex i1 ?_
   obtain ⟨l2, e2, hp⟩ := bind_some' hp
   refine sto_k (eInt .i64) w0 (i := 2) (j := 0) (p := p1) rfl rfl nj g1 i1 e2 rfl rfl (fun _ h => by have h : _ = [_] := h; subst h; exact rfl) fun H3 k3 w3 s3 c3 => ?_
   dsimp only [List.set] at w3 s3 c3
   exact ih rfl ((st_len e2).symm) ⟨w3, (s0.trans s3), (tF.step s3), c3⟩ hp
  ·replace hp := bif_f hb hp
   refine bind_ex (ldI_of (w0.ld (i := 3) rfl rfl)) ?_
   refine bind_ex (ldI_of (w0.ld (i := 3) rfl rfl)) ?_
   refine bind_ex (ldSl_of (w0.ld (i := 3) rfl rfl)) ?_
   refine st_k w0 (i := 1) rfl rfl rfl fun H4 w4 s4 => ?_
   dsimp only [List.set] at w4 s4
   refine st_k w4 (i := 1) rfl rfl rfl fun H5 w5 s5 => ?_
   dsimp only [List.set] at w5 s5
   refine st_k w5 (i := 1) rfl rfl rfl fun H6 w6 s6 => ?_
   dsimp only [List.set] at w6 s6
   refine bind_ex (ldI_of (w6.ld (i := 1) rfl rfl)) ?_
   refine bind_ex (ldI_of (w6.ld (i := 1) rfl rfl)) ?_
   refine bind_ex (ldSl_of (w6.ld (i := 1) rfl rfl)) ?_
   obtain ⟨w7, s7⟩ := w6.pick' [2] 4 rfl rfl rfl
   dsimp only [pk, pks, nth, List.drop] at w7 s7
   obtain rfl := Option.some.inj hp
   exact ⟨_, _, rfl, _, _, _, _, rfl, rfl, w7, (s0.trans (s4.trans (s5.trans (s6.trans s7)))), (nj.step (s4.trans (s5.trans (s6.trans s7))))⟩
def bM.p (F : Nat) (aa : Int) : Option (Int × Int × List Int) := (dS.p F aa aa).bind fun r2 => bM.pl29 F F aa r2.1 r2.2.1 r2.2.2 0
theorem bM.P {F : Nat} {aa : Int} {H : Hp} {R0 : List Rs}  (h0 : Inn H R0 fun R => True) {r : Int × Int × List Int} (hp : bM.p F aa = some r) : ∃ v H', bM.tw F aa H = some (v, H') ∧ bM.Q H R0 R0  r v H' := by
 obtain ⟨w0, _⟩ := h0
 unfold bM.p at hp
 unfold bM.tw bM.twX
 have s0 := w0.rf
 refine new_k w0 fun H1 w1 s1 => ?_
 obtain ⟨r2, e2, hp⟩ := bind_some' hp
 refine call_ex (dS.P ⟨w1, trivial⟩ e2) ?_
 rintro _ H3 ⟨o2a_3, o2n_3, o2k_3, rfl, rfl, w3, s3, f3_0⟩
 refine bind_ex rfl ?_
 refine bind_ex rfl ?_
 refine bind_ex rfl ?_
 refine bind_ex rfl ?_
 refine bind_ex rfl ?_
 refine bind_ex rfl ?_
 refine bind_ex rfl ?_
 refine new_k w3 fun H4 w4 s4 => ?_
 refine st_k w4 (i := 0) rfl rfl rfl fun H5 w5 s5 => ?_
 dsimp only [List.set] at w5 s5
 refine st_k w5 (i := 0) rfl rfl rfl fun H6 w6 s6 => ?_
 dsimp only [List.set] at w6 s6
 refine st_k w6 (i := 0) rfl rfl rfl fun H7 w7 s7 => ?_
 dsimp only [List.set] at w7 s7
 obtain ⟨w8, s8⟩ := w7.nilS (eInt .i64).z (by decide)
 obtain ⟨w9, s9⟩ := w8.pick' [0, 3, 2, 1] 4 rfl rfl rfl
 dsimp only [pk, pks, nth, List.drop] at w9 s9
 exact bM.l29_P F rfl rfl ⟨w9, (s0.trans (s1.trans (s3.trans (s4.trans (s5.trans (s6.trans (s7.trans (s8.trans s9)))))))), ((CR.empty : CR (eInt .i64) _ _ [] []).step s9), (f3_0.step (s4.trans (s5.trans (s6.trans (s7.trans (s8.trans s9))))))⟩ hp
def aC.Q (H0 : Hp) (Ri R0 : List Rs)  (r : Int) (v : AV) (H' : Hp) : Prop := v = (.int .i64 r) ∧ Out H0 Ri H' (R0) fun R => True
def aC.p (F : Nat) (ac : Int) (bk : List Int) (af : Int) (bh : Int) : Option (Int) := (ix bk (IntKind.i64.wrap ((IntKind.i64.wrap (af * ac)) + bh))).bind fun n2 => some (gt bk n2)
theorem aC.P {F : Nat} {aa ac af bh : Int} {cV : ON} {bK : Nat} {cW : Cap} {bk : List Int} {H : Hp} {R0 : List Rs} (fP : bK = bk.length) (h0 : Inn H R0 fun R => ROs (eInt .i64) H R ⟨cV, bK, cW⟩ bk) {r : Int} (hp : aC.p F ac bk af bh = some r) : ∃ v H', aC.tw F aa ac ⟨cV, bK, cW⟩ af bh H = some (v, H') ∧ aC.Q H R0 R0  r v H' := by
 obtain ⟨w0, eM⟩ := h0
 subst fP
 unfold aC.p at hp
 unfold aC.tw aC.twX
 have s0 := w0.rf
 refine new_k w0 fun H1 w1 s1 => ?_
 refine bind_ex (ldSl_of (w1.ld (i := 0) rfl rfl)) ?_
 refine bind_ex (ldI_of (w1.ld (i := 0) rfl rfl)) ?_
 obtain ⟨n2, g2, hp⟩ := bind_some' hp
 obtain ⟨p2, q2, i2, h2, j2⟩ := ROs.ixr (eM.step s1) rfl g2
 refine bind_ex i2 ?_
 have h2 : _ = [_] := h2
 subst h2
 refine bind_ex (ldI_of (j2 0 _ rfl)) ?_
 obtain ⟨w3, s3⟩ := w1.pick' [] 1 rfl rfl rfl
 dsimp only [pk, pks, nth, List.drop] at w3 s3
 obtain rfl := Option.some.inj hp
 exact ⟨_, _, rfl, rfl, w3, (s0.trans (s1.trans s3)), trivial⟩
def cl.Q (H0 : Hp) (Ri R0 : List Rs)  (r : Int) (v : AV) (H' : Hp) : Prop := v = (.int .i64 r) ∧ Out H0 Ri H' (R0) fun R => True
def cl.p (F : Nat) (aa : Int) : Option (Int) := some (if (IntKind.i64.wrap (0 - aa)) > aa then (IntKind.i64.wrap (0 - aa)) else aa)
theorem cl.P {F : Nat} {aa : Int} {H : Hp} {R0 : List Rs}  (h0 : Inn H R0 fun R => True) {r : Int} (hp : cl.p F aa = some r) : ∃ v H', cl.tw F aa H = some (v, H') ∧ cl.Q H R0 R0  r v H' := by
 obtain ⟨w0, _⟩ := h0
 unfold cl.p at hp
 unfold cl.tw cl.twX
 have s0 := w0.rf
 obtain rfl := Option.some.inj hp
 exact ⟨_, _, rfl, rfl, w0, s0, trivial⟩
def bH.Q (H0 : Hp) (Ri R0 : List Rs) (cV : ON) (bK : Nat) (cW : Cap) (gu : Bool) (gv gw : List AV) (r : List Int) (v : AV) (H' : Hp) : Prop := ∃ kz : List AV, v = (.tup []) ∧ bK = (r).length ∧ Out H0 Ri H' (Rs.ow gu ⟨cV, bK, cW⟩ (eInt .i64).z gv kz gw :: R0) fun R => CR (eInt .i64) H' R kz (r)
def bH.S7 (H0 : Hp) (Ri R0 : List Rs) (hZ : ON) (gF : Nat) (h_ : Cap) (jz : Bool) (jA jB : List AV) (C : Int → Int → Nat → Nat → Int → Hp → OA) (pC : Int → Int → Int → List Int → Int → Option (List Int)) : Prop := ∀ {eO eW lA iO eB : Int} {ia : List Int} {l_ : List AV} {eA : Nat}, ∀ {H : Hp}, gF = ia.length → (Out H0 Ri H (Rs.ow jz ⟨hZ, gF, h_⟩ (eInt .i64).z jA l_ jB :: Rs.blk eA [.int .i64 lA, .int .i64 iO, .sl ⟨hZ, gF, h_⟩] :: R0) fun R => CR (eInt .i64) H R l_ ia) → ∀ {r : List Int}, pC eO eW iO ia eB = some r → ∃ v H', C eO eW eA 0 eB H = some (v, H') ∧ bH.Q H0 Ri R0 hZ gF h_ jz jA jB r v H'
def bH.pl7 (F : Nat)  : Nat → Int → Int → Int → List Int → Int → Option (List Int)
 | 0, _, _, _, _, _ => none
 | k + 1, eO, eW, iO, ia, eB => (bif (decide (eB < iO)) then ((aC.p F iO ia eO eB).bind fun r2 => (aC.p F iO ia eW eB).bind fun r6 => (ix ia (IntKind.i64.wrap ((IntKind.i64.wrap (eO * iO)) + eB))).bind fun n10 => (some (ia.set n10 r6)).bind fun l11 => (ix l11 (IntKind.i64.wrap ((IntKind.i64.wrap (eW * iO)) + eB))).bind fun n13 => (some (l11.set n13 r2)).bind fun l14 => bH.pl7 F k eO eW iO l14 (IntKind.i64.wrap (eB + 1))) else (some ia))
termination_by structural n => n
theorem bH.l7_P {F : Nat} {H0 : Hp} {Ri R0 : List Rs} {hZ : ON} {gF : Nat} {h_ : Cap} {jz : Bool} {jA jB : List AV}  : ∀ k, bH.S7 H0 Ri R0 hZ gF h_ jz jA jB (bH.l7 F (aC.tw F)  k) (bH.pl7 F  k) := by
 intro k
 induction k with
 | zero =>
  intro eO eW lA iO eB ia l_ eA H pg h0 r hp
  exact nomatch (show (none : Option (List Int)) = some r from hp)
 | succ k ih =>
  intro eO eW lA iO eB ia l_ eA H pg h0 r hp
  obtain ⟨w0, s0, lB⟩ := h0
  subst pg
  unfold bH.pl7 at hp
  unfold bH.l7
  refine bind_ex (ldI_of (w0.ld (i := 1) rfl rfl)) ?_
  refine bif_ex (fun hb => ?_) (fun hb => ?_)
  ·replace hp := bif_t hb hp
   refine bind_ex (ldI_of (w0.ld (i := 1) rfl rfl)) ?_
   refine bind_ex (ldI_of (w0.ld (i := 1) rfl rfl)) ?_
   refine bind_ex (ldSl_of (w0.ld (i := 1) rfl rfl)) ?_
   have f1 := W.borrow1 (eInt .i64) w0 lB
   obtain ⟨w1, s1⟩ := w0.right1
   obtain ⟨r2, e2, hp⟩ := bind_some' hp
   refine call_ex (aC.P rfl ⟨w1, f1⟩ e2) ?_
   rintro _ H3 ⟨rfl, w3, s3, _⟩
   obtain ⟨w4, s4⟩ := W.frame1 w0 w3 s3
   refine bind_ex rfl ?_
   refine bind_ex (ldSl_of (w4.ld (i := 1) rfl rfl)) ?_
   refine bind_ex (ldI_of (w4.ld (i := 1) rfl rfl)) ?_
   refine bind_ex (ldI_of (w4.ld (i := 1) rfl rfl)) ?_
   refine bind_ex (ldI_of (w4.ld (i := 1) rfl rfl)) ?_
   refine bind_ex (ldSl_of (w4.ld (i := 1) rfl rfl)) ?_
   have f5 := W.borrow1 (eInt .i64) w4 (lB.step s4)
   obtain ⟨w5, s5⟩ := w4.right1
   obtain ⟨r6, e6, hp⟩ := bind_some' hp
   refine call_ex (aC.P rfl ⟨w5, f5⟩ e6) ?_
   rintro _ H7 ⟨rfl, w7, s7, _⟩
   obtain ⟨w8, s8⟩ := W.frame1 w4 w7 s7
   refine bind_ex rfl ?_
   refine ifs_ex (W.cons_of (Rn := []) w5 w7 s7) ?_
   obtain ⟨n10, g10, hp⟩ := bind_some' hp
   obtain ⟨p10, q10, i10, h10, j10⟩ := W.ixo (E := (eInt .i64)) w8 (i := 0) rfl rfl (lB.step (s4.trans s8)) g10
   refine bind_ex i10 ?_
   obtain ⟨l11, e11, hp⟩ := bind_some' hp
   refine sto_k (eInt .i64) w8 (i := 0) (j := 0) (p := p10) rfl rfl (lB.step (s4.trans s8)) g10 i10 e11 rfl rfl (fun _ h => by have h : _ = [_] := h; subst h; exact rfl) fun H12 k12 w12 s12 c12 => ?_
   dsimp only [List.set] at w12 s12 c12
   refine bind_ex (ldSl_of (w12.ld (i := 1) rfl rfl)) ?_
   refine bind_ex (ldI_of (w12.ld (i := 1) rfl rfl)) ?_
   obtain ⟨n13, g13, hp⟩ := bind_some' hp
   obtain ⟨p13, q13, i13, h13, j13⟩ := W.ixo (E := (eInt .i64)) w12 (i := 0) rfl rfl c12 g13
   refine bind_ex i13 ?_
   obtain ⟨l14, e14, hp⟩ := bind_some' hp
   refine sto_k (eInt .i64) w12 (i := 0) (j := 0) (p := p13) rfl rfl c12 g13 i13 e14 rfl rfl (fun _ h => by have h : _ = [_] := h; subst h; exact rfl) fun H15 k15 w15 s15 c15 => ?_
   dsimp only [List.set] at w15 s15 c15
   exact ih ((st_len e11).symm.trans (st_len e14).symm) ⟨w15, (s0.trans (s4.trans (s8.trans (s12.trans s15)))), c15⟩ hp
  ·replace hp := bif_f hb hp
   obtain ⟨w16, s16⟩ := w0.pick' [0] 2 rfl rfl rfl
   dsimp only [pk, pks, nth, List.drop] at w16 s16
   obtain rfl := Option.some.inj hp
   exact ⟨_, _, rfl, _, rfl, rfl, w16, (s0.trans s16), (lB.step s16)⟩
def bH.p (F : Nat) (ac : Int) (bk : List Int) (af : Int) (bh : Int) : Option (List Int) := bH.pl7 F F af bh ac bk 0
theorem bH.P {F : Nat} {aa ac af bh : Int} {cV : ON} {bK : Nat} {cW : Cap} {bk : List Int} {gu : Bool} {gv gw jC : List AV} {H : Hp} {R0 : List Rs} (fP : bK = bk.length) (h0 : Inn H (Rs.ow gu ⟨cV, bK, cW⟩ (eInt .i64).z gv jC gw :: R0) fun R => CR (eInt .i64) H R jC bk) {r : List Int} (hp : bH.p F ac bk af bh = some r) : ∃ v H', bH.tw F aa ac ⟨cV, bK, cW⟩ af bh H = some (v, H') ∧ bH.Q H (Rs.ow gu ⟨cV, bK, cW⟩ (eInt .i64).z gv jC gw :: R0) R0 cV bK cW gu gv gw r v H' := by
 obtain ⟨w0, eM⟩ := h0
 subst fP
 unfold bH.p at hp
 unfold bH.tw bH.twX
 have s0 := w0.rf
 refine new_k w0 fun H1 w1 s1 => ?_
 obtain ⟨w2, s2⟩ := w1.pick' [1, 0] 2 rfl rfl rfl
 dsimp only [pk, pks, nth, List.drop] at w2 s2
 exact bH.l7_P F rfl ⟨w2, (s0.trans (s1.trans s2)), (eM.step (s1.trans s2))⟩ hp
def bI.Q (H0 : Hp) (Ri R0 : List Rs) (cV : ON) (bK : Nat) (cW : Cap) (gu : Bool) (gv gw : List AV) (r : List Int) (v : AV) (H' : Hp) : Prop := ∃ kz : List AV, v = (.tup []) ∧ bK = (r).length ∧ Out H0 Ri H' (Rs.ow gu ⟨cV, bK, cW⟩ (eInt .i64).z gv kz gw :: R0) fun R => CR (eInt .i64) H' R kz (r)
def bI.S7 (H0 : Hp) (Ri R0 : List Rs) (hZ : ON) (gF : Nat) (h_ : Cap) (jz : Bool) (jA jB : List AV) (C : Int → Int → Nat → Nat → Int → Hp → OA) (pC : Int → Int → Int → Int → List Int → Int → Option (List Int)) : Prop := ∀ {eO eW lA iO eB : Int} {ia : List Int} {l_ : List AV} {eA : Nat}, ∀ {H : Hp}, gF = ia.length → (Out H0 Ri H (Rs.ow jz ⟨hZ, gF, h_⟩ (eInt .i64).z jA l_ jB :: Rs.blk eA [.int .i64 lA, .int .i64 iO, .sl ⟨hZ, gF, h_⟩] :: R0) fun R => CR (eInt .i64) H R l_ ia) → ∀ {r : List Int}, pC eO eW lA iO ia eB = some r → ∃ v H', C eO eW eA 0 eB H = some (v, H') ∧ bI.Q H0 Ri R0 hZ gF h_ jz jA jB r v H'
def bI.pl7 (F : Nat)  : Nat → Int → Int → Int → Int → List Int → Int → Option (List Int)
 | 0, _, _, _, _, _, _ => none
 | k + 1, eO, eW, lA, iO, ia, eB => (bif (decide (eB < lA)) then ((aC.p F iO ia eB eO).bind fun r2 => (aC.p F iO ia eB eW).bind fun r6 => (ix ia (IntKind.i64.wrap ((IntKind.i64.wrap (eB * iO)) + eO))).bind fun n10 => (some (ia.set n10 r6)).bind fun l11 => (ix l11 (IntKind.i64.wrap ((IntKind.i64.wrap (eB * iO)) + eW))).bind fun n13 => (some (l11.set n13 r2)).bind fun l14 => bI.pl7 F k eO eW lA iO l14 (IntKind.i64.wrap (eB + 1))) else (some ia))
termination_by structural n => n
theorem bI.l7_P {F : Nat} {H0 : Hp} {Ri R0 : List Rs} {hZ : ON} {gF : Nat} {h_ : Cap} {jz : Bool} {jA jB : List AV}  : ∀ k, bI.S7 H0 Ri R0 hZ gF h_ jz jA jB (bI.l7 F (aC.tw F)  k) (bI.pl7 F  k) := by
 intro k
 induction k with
 | zero =>
  intro eO eW lA iO eB ia l_ eA H pg h0 r hp
  exact nomatch (show (none : Option (List Int)) = some r from hp)
 | succ k ih =>
  intro eO eW lA iO eB ia l_ eA H pg h0 r hp
  obtain ⟨w0, s0, lB⟩ := h0
  subst pg
  unfold bI.pl7 at hp
  unfold bI.l7
  refine bind_ex (ldI_of (w0.ld (i := 1) rfl rfl)) ?_
  refine bif_ex (fun hb => ?_) (fun hb => ?_)
  ·replace hp := bif_t hb hp
   refine bind_ex (ldI_of (w0.ld (i := 1) rfl rfl)) ?_
   refine bind_ex (ldI_of (w0.ld (i := 1) rfl rfl)) ?_
   refine bind_ex (ldSl_of (w0.ld (i := 1) rfl rfl)) ?_
   have f1 := W.borrow1 (eInt .i64) w0 lB
   obtain ⟨w1, s1⟩ := w0.right1
   obtain ⟨r2, e2, hp⟩ := bind_some' hp
   refine call_ex (aC.P rfl ⟨w1, f1⟩ e2) ?_
   rintro _ H3 ⟨rfl, w3, s3, _⟩
   obtain ⟨w4, s4⟩ := W.frame1 w0 w3 s3
   refine bind_ex rfl ?_
   refine bind_ex (ldSl_of (w4.ld (i := 1) rfl rfl)) ?_
   refine bind_ex (ldI_of (w4.ld (i := 1) rfl rfl)) ?_
   refine bind_ex (ldI_of (w4.ld (i := 1) rfl rfl)) ?_
   refine bind_ex (ldI_of (w4.ld (i := 1) rfl rfl)) ?_
   refine bind_ex (ldSl_of (w4.ld (i := 1) rfl rfl)) ?_
   have f5 := W.borrow1 (eInt .i64) w4 (lB.step s4)
   obtain ⟨w5, s5⟩ := w4.right1
   obtain ⟨r6, e6, hp⟩ := bind_some' hp
   refine call_ex (aC.P rfl ⟨w5, f5⟩ e6) ?_
   rintro _ H7 ⟨rfl, w7, s7, _⟩
   obtain ⟨w8, s8⟩ := W.frame1 w4 w7 s7
   refine bind_ex rfl ?_
   refine ifs_ex (W.cons_of (Rn := []) w5 w7 s7) ?_
   obtain ⟨n10, g10, hp⟩ := bind_some' hp
   obtain ⟨p10, q10, i10, h10, j10⟩ := W.ixo (E := (eInt .i64)) w8 (i := 0) rfl rfl (lB.step (s4.trans s8)) g10
   refine bind_ex i10 ?_
   obtain ⟨l11, e11, hp⟩ := bind_some' hp
   refine sto_k (eInt .i64) w8 (i := 0) (j := 0) (p := p10) rfl rfl (lB.step (s4.trans s8)) g10 i10 e11 rfl rfl (fun _ h => by have h : _ = [_] := h; subst h; exact rfl) fun H12 k12 w12 s12 c12 => ?_
   dsimp only [List.set] at w12 s12 c12
   refine bind_ex (ldSl_of (w12.ld (i := 1) rfl rfl)) ?_
   refine bind_ex (ldI_of (w12.ld (i := 1) rfl rfl)) ?_
   obtain ⟨n13, g13, hp⟩ := bind_some' hp
   obtain ⟨p13, q13, i13, h13, j13⟩ := W.ixo (E := (eInt .i64)) w12 (i := 0) rfl rfl c12 g13
   refine bind_ex i13 ?_
   obtain ⟨l14, e14, hp⟩ := bind_some' hp
   refine sto_k (eInt .i64) w12 (i := 0) (j := 0) (p := p13) rfl rfl c12 g13 i13 e14 rfl rfl (fun _ h => by have h : _ = [_] := h; subst h; exact rfl) fun H15 k15 w15 s15 c15 => ?_
   dsimp only [List.set] at w15 s15 c15
   exact ih ((st_len e11).symm.trans (st_len e14).symm) ⟨w15, (s0.trans (s4.trans (s8.trans (s12.trans s15)))), c15⟩ hp
  ·replace hp := bif_f hb hp
   obtain ⟨w16, s16⟩ := w0.pick' [0] 2 rfl rfl rfl
   dsimp only [pk, pks, nth, List.drop] at w16 s16
   obtain rfl := Option.some.inj hp
   exact ⟨_, _, rfl, _, rfl, rfl, w16, (s0.trans s16), (lB.step s16)⟩
def bI.p (F : Nat) (aa : Int) (ac : Int) (bk : List Int) (af : Int) (bh : Int) : Option (List Int) := bI.pl7 F F af bh aa ac bk 0
theorem bI.P {F : Nat} {aa ac af bh : Int} {cV : ON} {bK : Nat} {cW : Cap} {bk : List Int} {gu : Bool} {gv gw jC : List AV} {H : Hp} {R0 : List Rs} (fP : bK = bk.length) (h0 : Inn H (Rs.ow gu ⟨cV, bK, cW⟩ (eInt .i64).z gv jC gw :: R0) fun R => CR (eInt .i64) H R jC bk) {r : List Int} (hp : bI.p F aa ac bk af bh = some r) : ∃ v H', bI.tw F aa ac ⟨cV, bK, cW⟩ af bh H = some (v, H') ∧ bI.Q H (Rs.ow gu ⟨cV, bK, cW⟩ (eInt .i64).z gv jC gw :: R0) R0 cV bK cW gu gv gw r v H' := by
 obtain ⟨w0, eM⟩ := h0
 subst fP
 unfold bI.p at hp
 unfold bI.tw bI.twX
 have s0 := w0.rf
 refine new_k w0 fun H1 w1 s1 => ?_
 obtain ⟨w2, s2⟩ := w1.pick' [1, 0] 2 rfl rfl rfl
 dsimp only [pk, pks, nth, List.drop] at w2 s2
 exact bI.l7_P F rfl ⟨w2, (s0.trans (s1.trans s2)), (eM.step (s1.trans s2))⟩ hp
def ar.Q (H0 : Hp) (Ri R0 : List Rs) (bj aX bl bb aY aT bc bf bv bg : Int) (cP dX cp dY dZ : ON) (bL dc bA dd de aa : Nat) (cQ d_ cq ea eb : Cap) (dB : List Int) (eQ fw eR fx fy ax : Bool) (eS eT fz fA eU eV fB fC fD fE : List AV) (r : Bool × List Int × List Int × List Int × List Int × List Int) (v : AV) (H' : Hp) : Prop := ∃ ib : List AV, ∃ jl : List AV, ∃ ic : List AV, ∃ jm : List AV, ∃ jn : List AV, v = (.bool r.1) ∧ bL = (r.2.1).length ∧ dc = (r.2.2.1).length ∧ bA = (r.2.2.2.1).length ∧ dd = (r.2.2.2.2.1).length ∧ de = (r.2.2.2.2.2).length ∧ Out H0 Ri H' (Rs.ow eQ ⟨cP, bL, cQ⟩ (eInt .i64).z eS ib eT :: Rs.ow fw ⟨dX, dc, d_⟩ (eInt .i64).z fz jl fA :: Rs.ow eR ⟨cp, bA, cq⟩ (eInt .i64).z eU ic eV :: Rs.ow fx ⟨dY, dd, ea⟩ (eInt .i64).z fB jm fC :: Rs.ow fy ⟨dZ, de, eb⟩ (eInt .i64).z fD jn fE :: Rs.blk aa [.int .i64 bj, .int .i64 aX, .sl ⟨cP, bL, cQ⟩, .int .i64 bl, .int .i64 bb, .sl ⟨dX, dc, d_⟩, .int .i64 aY, .int .i64 aT, .sl ⟨cp, bA, cq⟩, .int .i64 bc, .int .i64 bf, .sl ⟨dY, dd, ea⟩, .int .i64 bv, .int .i64 bg, .sl ⟨dZ, de, eb⟩, .bool ax] :: R0) fun R => CR (eInt .i64) H' R ib (r.2.1) ∧ CR (eInt .i64) H' R jl (r.2.2.1) ∧ CR (eInt .i64) H' R ic (r.2.2.2.1) ∧ CR (eInt .i64) H' R jm (r.2.2.2.2.1) ∧ CR (eInt .i64) H' R jn (r.2.2.2.2.2)
def ar.S29 (H0 : Hp) (Ri R0 : List Rs) (ay aj aA ap aq ao au av aH aw : Int) (aR bn aM bo bp : ON) (aF aZ aB a_ ba az : Nat) (aS br aN bs bt : Cap) (cm : List Int) (bS bT bU bV bW bw : Bool) (bX bY bZ b_ ca cb cc cd ce cf : List AV) (C : Nat → Nat → Int → Int → Int → Int → Hp → OA) (pC : Int → Int → List Int → Int → List Int → Int → Int → List Int → Int → Int → List Int → Int → List Int → Int → Int → Int → Int → Option (Bool × List Int × List Int × List Int × List Int × List Int)) : Prop := ∀ {aD aG aE aK aL : List Int} {cB cC cD cE cF : List AV} {dE ef js jM : Int}, ∀ {H : Hp}, aF = aD.length → aZ = aG.length → aB = aE.length → a_ = aK.length → ba = aL.length → (Out H0 Ri H (Rs.ow bS ⟨aR, aF, aS⟩ (eInt .i64).z bX cB bY :: Rs.ow bT ⟨bn, aZ, br⟩ (eInt .i64).z bZ cC b_ :: Rs.ow bU ⟨aM, aB, aN⟩ (eInt .i64).z ca cD cb :: Rs.ow bV ⟨bo, a_, bs⟩ (eInt .i64).z cc cE cd :: Rs.ow bW ⟨bp, ba, bt⟩ (eInt .i64).z ce cF cf :: Rs.blk az [.int .i64 ay, .int .i64 aj, .sl ⟨aR, aF, aS⟩, .int .i64 aA, .int .i64 ap, .sl ⟨bn, aZ, br⟩, .int .i64 aq, .int .i64 ao, .sl ⟨aM, aB, aN⟩, .int .i64 au, .int .i64 av, .sl ⟨bo, a_, bs⟩, .int .i64 aH, .int .i64 aw, .sl ⟨bp, ba, bt⟩, .bool bw] :: R0) fun R => CR (eInt .i64) H R cB aD ∧ CR (eInt .i64) H R cC aG ∧ CR (eInt .i64) H R cD aE ∧ CR (eInt .i64) H R cE aK ∧ CR (eInt .i64) H R cF aL) → ∀ {r : Bool × List Int × List Int × List Int × List Int × List Int}, pC ay aj aD ap aG aq ao aE au av aK aw aL dE ef js jM = some r → ∃ v H', C az 0 dE ef js jM H = some (v, H') ∧ ar.Q H0 Ri R0 ay aj aA ap aq ao au av aH aw aR bn aM bo bp aF aZ aB a_ ba az aS br aN bs bt cm bS bT bU bV bW bw bX bY bZ b_ ca cb cc cd ce cf r v H'
def ar.S469 (H0 : Hp) (Ri R0 : List Rs) (ay aj aA ap aq ao au av aH aw : Int) (aR bn aM bo bp : ON) (aF aZ aB a_ ba az : Nat) (aS br aN bs bt : Cap) (cm : List Int) (bS bT bU bV bW bw : Bool) (bX bY bZ b_ ca cb cc cd ce cf : List AV) (C : Nat → Nat → Int → Int → Int → Int → Int → Hp → OA) (pC : Int → Int → List Int → Int → List Int → Int → Int → List Int → Int → Int → List Int → Int → List Int → Int → Int → Int → Int → Int → Option (Bool × List Int × List Int × List Int × List Int × List Int)) : Prop := ∀ {aD aG aE aK aL : List Int} {cB cC cD cE cF : List AV} {gA gC gY gc gi : Int}, ∀ {H : Hp}, aF = aD.length → aZ = aG.length → aB = aE.length → a_ = aK.length → ba = aL.length → (Out H0 Ri H (Rs.ow bS ⟨aR, aF, aS⟩ (eInt .i64).z bX cB bY :: Rs.ow bT ⟨bn, aZ, br⟩ (eInt .i64).z bZ cC b_ :: Rs.ow bU ⟨aM, aB, aN⟩ (eInt .i64).z ca cD cb :: Rs.ow bV ⟨bo, a_, bs⟩ (eInt .i64).z cc cE cd :: Rs.ow bW ⟨bp, ba, bt⟩ (eInt .i64).z ce cF cf :: Rs.blk az [.int .i64 ay, .int .i64 aj, .sl ⟨aR, aF, aS⟩, .int .i64 aA, .int .i64 ap, .sl ⟨bn, aZ, br⟩, .int .i64 aq, .int .i64 ao, .sl ⟨aM, aB, aN⟩, .int .i64 au, .int .i64 av, .sl ⟨bo, a_, bs⟩, .int .i64 aH, .int .i64 aw, .sl ⟨bp, ba, bt⟩, .bool bw] :: R0) fun R => CR (eInt .i64) H R cB aD ∧ CR (eInt .i64) H R cC aG ∧ CR (eInt .i64) H R cD aE ∧ CR (eInt .i64) H R cE aK ∧ CR (eInt .i64) H R cF aL) → ∀ {r : Bool × List Int × List Int × List Int × List Int × List Int}, pC ay aj aD ap aG aq ao aE au av aK aw aL gA gC gY gc gi = some r → ∃ v H', C az 0 gA gC gY gc gi H = some (v, H') ∧ ar.Q H0 Ri R0 ay aj aA ap aq ao au av aH aw aR bn aM bo bp aF aZ aB a_ ba az aS br aN bs bt cm bS bT bU bV bW bw bX bY bZ b_ ca cb cc cd ce cf r v H'
def ar.pj10 (F : Nat) (ma : Int → Int → List Int → Int → List Int → Int → Int → List Int → Int → Int → List Int → Int → List Int → Int → Int → Int → Int → Int → Option (Bool × List Int × List Int × List Int × List Int × List Int)) (ay : Int) (aj : Int) (aD : List Int) (ap : Int) (aG : List Int) (aq : Int) (ao : Int) (aE : List Int) (au : Int) (av : Int) (aK : List Int) (aw : Int) (aL : List Int) (nQ : Int) (nR : Int) (nS : Int) (nT : Int) (nU : Int) : Option (Bool × List Int × List Int × List Int × List Int × List Int) := ma ay aj aD ap aG aq ao aE au av aK aw aL nQ nR nS nT (IntKind.i64.wrap (nU + 1))
theorem ar.j10_P {F : Nat} {H0 : Hp} {Ri R0 : List Rs} {ay aj aA ap aq ao au av aH aw : Int} {aR bn aM bo bp : ON} {aF aZ aB a_ ba az : Nat} {aS br aN bs bt : Cap} {cm : List Int} {bS bT bU bV bW bw : Bool} {bX bY bZ b_ ca cb cc cd ce cf : List AV} {C469_ : Nat → Nat → Int → Int → Int → Int → Int → Hp → OA} {ma : Int → Int → List Int → Int → List Int → Int → Int → List Int → Int → Int → List Int → Int → List Int → Int → Int → Int → Int → Int → Option (Bool × List Int × List Int × List Int × List Int × List Int)} (hC469 : ar.S469 H0 Ri R0 ay aj aA ap aq ao au av aH aw aR bn aM bo bp aF aZ aB a_ ba az aS br aN bs bt cm bS bT bU bV bW bw bX bY bZ b_ ca cb cc cd ce cf C469_ ma) {aD aG aE aK aL : List Int} {cB cC cD cE cF : List AV} {nQ nR nS nT nU : Int} {H : Hp} (ei : aF = aD.length) (ek : aZ = aG.length) (el : aB = aE.length) (em : a_ = aK.length) (en : ba = aL.length) (h0 : Out H0 Ri H (Rs.ow bS ⟨aR, aF, aS⟩ (eInt .i64).z bX cB bY :: Rs.ow bT ⟨bn, aZ, br⟩ (eInt .i64).z bZ cC b_ :: Rs.ow bU ⟨aM, aB, aN⟩ (eInt .i64).z ca cD cb :: Rs.ow bV ⟨bo, a_, bs⟩ (eInt .i64).z cc cE cd :: Rs.ow bW ⟨bp, ba, bt⟩ (eInt .i64).z ce cF cf :: Rs.blk az [.int .i64 ay, .int .i64 aj, .sl ⟨aR, aF, aS⟩, .int .i64 aA, .int .i64 ap, .sl ⟨bn, aZ, br⟩, .int .i64 aq, .int .i64 ao, .sl ⟨aM, aB, aN⟩, .int .i64 au, .int .i64 av, .sl ⟨bo, a_, bs⟩, .int .i64 aH, .int .i64 aw, .sl ⟨bp, ba, bt⟩, .bool bw] :: R0) fun R => CR (eInt .i64) H R cB aD ∧ CR (eInt .i64) H R cC aG ∧ CR (eInt .i64) H R cD aE ∧ CR (eInt .i64) H R cE aK ∧ CR (eInt .i64) H R cF aL) {r : Bool × List Int × List Int × List Int × List Int × List Int} (hp : ar.pj10 F ma ay aj aD ap aG aq ao aE au av aK aw aL nQ nR nS nT nU = some r) : ∃ v H', ar.j10 F (aC.tw F) (cl.tw F) (bH.tw F) (bI.tw F) C469_ az 0 nQ nR nS nT nU H = some (v, H') ∧ ar.Q H0 Ri R0 ay aj aA ap aq ao au av aH aw aR bn aM bo bp aF aZ aB a_ ba az aS br aN bs bt cm bS bT bU bV bW bw bX bY bZ b_ ca cb cc cd ce cf r v H' := by
 obtain ⟨w0, s0, cT, di, cZ, dq, dr⟩ := h0
 subst ei
 subst ek
 subst el
 subst em
 subst en
 unfold ar.pj10 at hp
 unfold ar.j10
 exact hC469 rfl rfl rfl rfl rfl ⟨w0, s0, cT, di, cZ, dq, dr⟩ hp
def ar.pj8 (F : Nat) (ev : Int → Int → List Int → Int → List Int → Int → Int → List Int → Int → Int → List Int → Int → List Int → Int → Int → Int → Int → Option (Bool × List Int × List Int × List Int × List Int × List Int)) (ay : Int) (aj : Int) (aD : List Int) (ap : Int) (aG : List Int) (aq : Int) (ao : Int) (aE : List Int) (au : Int) (av : Int) (aK : List Int) (aw : Int) (aL : List Int) (nI : Int) (nJ : Int) (nK : Int) (nL : Int) : Option (Bool × List Int × List Int × List Int × List Int × List Int) := ev ay aj aD ap aG aq ao aE au av aK aw aL nI nJ nK (IntKind.i64.wrap (nL + 1))
theorem ar.j8_P {F : Nat} {H0 : Hp} {Ri R0 : List Rs} {ay aj aA ap aq ao au av aH aw : Int} {aR bn aM bo bp : ON} {aF aZ aB a_ ba az : Nat} {aS br aN bs bt : Cap} {cm : List Int} {bS bT bU bV bW bw : Bool} {bX bY bZ b_ ca cb cc cd ce cf : List AV} {C29_ : Nat → Nat → Int → Int → Int → Int → Hp → OA} {ev : Int → Int → List Int → Int → List Int → Int → Int → List Int → Int → Int → List Int → Int → List Int → Int → Int → Int → Int → Option (Bool × List Int × List Int × List Int × List Int × List Int)} (hC29 : ar.S29 H0 Ri R0 ay aj aA ap aq ao au av aH aw aR bn aM bo bp aF aZ aB a_ ba az aS br aN bs bt cm bS bT bU bV bW bw bX bY bZ b_ ca cb cc cd ce cf C29_ ev) {aD aG aE aK aL : List Int} {cB cC cD cE cF : List AV} {nI nJ nK nL : Int} {H : Hp} (ei : aF = aD.length) (ek : aZ = aG.length) (el : aB = aE.length) (em : a_ = aK.length) (en : ba = aL.length) (h0 : Out H0 Ri H (Rs.ow bS ⟨aR, aF, aS⟩ (eInt .i64).z bX cB bY :: Rs.ow bT ⟨bn, aZ, br⟩ (eInt .i64).z bZ cC b_ :: Rs.ow bU ⟨aM, aB, aN⟩ (eInt .i64).z ca cD cb :: Rs.ow bV ⟨bo, a_, bs⟩ (eInt .i64).z cc cE cd :: Rs.ow bW ⟨bp, ba, bt⟩ (eInt .i64).z ce cF cf :: Rs.blk az [.int .i64 ay, .int .i64 aj, .sl ⟨aR, aF, aS⟩, .int .i64 aA, .int .i64 ap, .sl ⟨bn, aZ, br⟩, .int .i64 aq, .int .i64 ao, .sl ⟨aM, aB, aN⟩, .int .i64 au, .int .i64 av, .sl ⟨bo, a_, bs⟩, .int .i64 aH, .int .i64 aw, .sl ⟨bp, ba, bt⟩, .bool bw] :: R0) fun R => CR (eInt .i64) H R cB aD ∧ CR (eInt .i64) H R cC aG ∧ CR (eInt .i64) H R cD aE ∧ CR (eInt .i64) H R cE aK ∧ CR (eInt .i64) H R cF aL) {r : Bool × List Int × List Int × List Int × List Int × List Int} (hp : ar.pj8 F ev ay aj aD ap aG aq ao aE au av aK aw aL nI nJ nK nL = some r) : ∃ v H', ar.j8 F (aC.tw F) (cl.tw F) (bH.tw F) (bI.tw F) C29_ az 0 nI nJ nK nL H = some (v, H') ∧ ar.Q H0 Ri R0 ay aj aA ap aq ao au av aH aw aR bn aM bo bp aF aZ aB a_ ba az aS br aN bs bt cm bS bT bU bV bW bw bX bY bZ b_ ca cb cc cd ce cf r v H' := by
 obtain ⟨w0, s0, cT, di, cZ, dq, dr⟩ := h0
 subst ei
 subst ek
 subst el
 subst em
 subst en
 unfold ar.pj8 at hp
 unfold ar.j8
 exact hC29 rfl rfl rfl rfl rfl ⟨w0, s0, cT, di, cZ, dq, dr⟩ hp
def ar.pj9 (F : Nat) (ev : Int → Int → List Int → Int → List Int → Int → Int → List Int → Int → Int → List Int → Int → List Int → Int → Int → Int → Int → Option (Bool × List Int × List Int × List Int × List Int × List Int)) (ay : Int) (aj : Int) (aD : List Int) (ap : Int) (aG : List Int) (aq : Int) (ao : Int) (aE : List Int) (au : Int) (av : Int) (aK : List Int) (aw : Int) (aL : List Int) (nM : Int) (nN : Int) (nO : Int) (nP : Int) : Option (Bool × List Int × List Int × List Int × List Int × List Int) := ar.pj8 F ev ay aj aD ap aG aq ao aE au av aK aw aL nM nN nO nP
theorem ar.j9_P {F : Nat} {H0 : Hp} {Ri R0 : List Rs} {ay aj aA ap aq ao au av aH aw : Int} {aR bn aM bo bp : ON} {aF aZ aB a_ ba az : Nat} {aS br aN bs bt : Cap} {cm : List Int} {bS bT bU bV bW bw : Bool} {bX bY bZ b_ ca cb cc cd ce cf : List AV} {C29_ : Nat → Nat → Int → Int → Int → Int → Hp → OA} {ev : Int → Int → List Int → Int → List Int → Int → Int → List Int → Int → Int → List Int → Int → List Int → Int → Int → Int → Int → Option (Bool × List Int × List Int × List Int × List Int × List Int)} (hC29 : ar.S29 H0 Ri R0 ay aj aA ap aq ao au av aH aw aR bn aM bo bp aF aZ aB a_ ba az aS br aN bs bt cm bS bT bU bV bW bw bX bY bZ b_ ca cb cc cd ce cf C29_ ev) {aD aG aE aK aL : List Int} {cB cC cD cE cF : List AV} {nM nN nO nP : Int} {H : Hp} (ei : aF = aD.length) (ek : aZ = aG.length) (el : aB = aE.length) (em : a_ = aK.length) (en : ba = aL.length) (h0 : Out H0 Ri H (Rs.ow bS ⟨aR, aF, aS⟩ (eInt .i64).z bX cB bY :: Rs.ow bT ⟨bn, aZ, br⟩ (eInt .i64).z bZ cC b_ :: Rs.ow bU ⟨aM, aB, aN⟩ (eInt .i64).z ca cD cb :: Rs.ow bV ⟨bo, a_, bs⟩ (eInt .i64).z cc cE cd :: Rs.ow bW ⟨bp, ba, bt⟩ (eInt .i64).z ce cF cf :: Rs.blk az [.int .i64 ay, .int .i64 aj, .sl ⟨aR, aF, aS⟩, .int .i64 aA, .int .i64 ap, .sl ⟨bn, aZ, br⟩, .int .i64 aq, .int .i64 ao, .sl ⟨aM, aB, aN⟩, .int .i64 au, .int .i64 av, .sl ⟨bo, a_, bs⟩, .int .i64 aH, .int .i64 aw, .sl ⟨bp, ba, bt⟩, .bool bw] :: R0) fun R => CR (eInt .i64) H R cB aD ∧ CR (eInt .i64) H R cC aG ∧ CR (eInt .i64) H R cD aE ∧ CR (eInt .i64) H R cE aK ∧ CR (eInt .i64) H R cF aL) {r : Bool × List Int × List Int × List Int × List Int × List Int} (hp : ar.pj9 F ev ay aj aD ap aG aq ao aE au av aK aw aL nM nN nO nP = some r) : ∃ v H', ar.j9 F (aC.tw F) (cl.tw F) (bH.tw F) (bI.tw F) C29_ az 0 nM nN nO nP H = some (v, H') ∧ ar.Q H0 Ri R0 ay aj aA ap aq ao au av aH aw aR bn aM bo bp aF aZ aB a_ ba az aS br aN bs bt cm bS bT bU bV bW bw bX bY bZ b_ ca cb cc cd ce cf r v H' := by
 obtain ⟨w0, s0, cT, di, cZ, dq, dr⟩ := h0
 subst ei
 subst ek
 subst el
 subst em
 subst en
 unfold ar.pj9 at hp
 unfold ar.j9
 exact ar.j8_P (@hC29) rfl rfl rfl rfl rfl ⟨w0, s0, cT, di, cZ, dq, dr⟩ hp
def ar.pl469 (F : Nat) (ev : Int → Int → List Int → Int → List Int → Int → Int → List Int → Int → Int → List Int → Int → List Int → Int → Int → Int → Int → Option (Bool × List Int × List Int × List Int × List Int × List Int)) : Nat → Int → Int → List Int → Int → List Int → Int → Int → List Int → Int → Int → List Int → Int → List Int → Int → Int → Int → Int → Int → Option (Bool × List Int × List Int × List Int × List Int × List Int)
 | 0, _, _, _, _, _, _, _, _, _, _, _, _, _, _, _, _, _, _ => none
 | k + 1, ay, aj, aD, ap, aG, aq, ao, aE, au, av, aK, aw, aL, gA, gC, gY, gc, gi => (bif (decide (gi < aj)) then ((aC.p F aj aD gc gi).bind fun r2 => (cl.p F r2).bind fun r5 => (bif (decide (r5 > 0)) then ((bif (decide (gC < 0)) then (ar.pl469 F ev k ay aj aD ap aG aq ao aE au av aK aw aL gA gc gi gc (IntKind.i64.wrap (gi + 1))) else ((aC.p F aj aD gC gY).bind fun r8 => (cl.p F r8).bind fun r11 => (bif (decide (r5 < r11)) then (ar.pj10 F (ar.pl469 F ev k) ay aj aD ap aG aq ao aE au av aK aw aL gA gc gi gc gi) else (ar.pj10 F (ar.pl469 F ev k) ay aj aD ap aG aq ao aE au av aK aw aL gA gC gY gc gi))))) else (ar.pl469 F ev k ay aj aD ap aG aq ao aE au av aK aw aL gA gC gY gc (IntKind.i64.wrap (gi + 1))))) else (ar.pj9 F ev ay aj aD ap aG aq ao aE au av aK aw aL gA gC gY gc))
termination_by structural n => n
theorem ar.l469_P {F : Nat} {H0 : Hp} {Ri R0 : List Rs} {ay aj aA ap aq ao au av aH aw : Int} {aR bn aM bo bp : ON} {aF aZ aB a_ ba az : Nat} {aS br aN bs bt : Cap} {cm : List Int} {bS bT bU bV bW bw : Bool} {bX bY bZ b_ ca cb cc cd ce cf : List AV} {C29_ : Nat → Nat → Int → Int → Int → Int → Hp → OA} {ev : Int → Int → List Int → Int → List Int → Int → Int → List Int → Int → Int → List Int → Int → List Int → Int → Int → Int → Int → Option (Bool × List Int × List Int × List Int × List Int × List Int)} (hC29 : ar.S29 H0 Ri R0 ay aj aA ap aq ao au av aH aw aR bn aM bo bp aF aZ aB a_ ba az aS br aN bs bt cm bS bT bU bV bW bw bX bY bZ b_ ca cb cc cd ce cf C29_ ev) : ∀ k, ar.S469 H0 Ri R0 ay aj aA ap aq ao au av aH aw aR bn aM bo bp aF aZ aB a_ ba az aS br aN bs bt cm bS bT bU bV bW bw bX bY bZ b_ ca cb cc cd ce cf (ar.l469 F (aC.tw F) (cl.tw F) (bH.tw F) (bI.tw F) C29_ k) (ar.pl469 F ev k) := by
 intro k
 induction k with
 | zero =>
  intro aD aG aE aK aL cB cC cD cE cF gA gC gY gc gi H ei ek el em en h0 r hp
  exact nomatch (show (none : Option (Bool × List Int × List Int × List Int × List Int × List Int)) = some r from hp)
 | succ k ih =>
  intro aD aG aE aK aL cB cC cD cE cF gA gC gY gc gi H ei ek el em en h0 r hp
  obtain ⟨w0, s0, cT, di, cZ, dq, dr⟩ := h0
  subst ei
  subst ek
  subst el
  subst em
  subst en
  unfold ar.pl469 at hp
  unfold ar.l469
  refine bind_ex (ldI_of (w0.ld (i := 5) rfl rfl)) ?_
  refine bif_ex (fun hb => ?_) (fun hb => ?_)
  ·replace hp := bif_t hb hp
   refine bind_ex (ldI_of (w0.ld (i := 5) rfl rfl)) ?_
   refine bind_ex (ldI_of (w0.ld (i := 5) rfl rfl)) ?_
   refine bind_ex (ldSl_of (w0.ld (i := 5) rfl rfl)) ?_
   have f1 := W.borrow1 (eInt .i64) w0 cT
   obtain ⟨w1, s1⟩ := w0.right1
   obtain ⟨r2, e2, hp⟩ := bind_some' hp
   refine call_ex (aC.P rfl ⟨w1, f1⟩ e2) ?_
   rintro _ H3 ⟨rfl, w3, s3, _⟩
   obtain ⟨w4, s4⟩ := W.frame1 w0 w3 s3
   refine bind_ex rfl ?_
   obtain ⟨r5, e5, hp⟩ := bind_some' hp
   refine call_ex (cl.P ⟨w4, trivial⟩ e5) ?_
   rintro _ H6 ⟨rfl, w6, s6, _⟩
   refine bind_ex rfl ?_
   refine bif_ex (fun hb => ?_) (fun hb => ?_)
   ·replace hp := bif_t hb hp
    refine bif_ex (fun hb => ?_) (fun hb => ?_)
    ·replace hp := bif_t hb hp
     exact ih rfl rfl rfl rfl rfl ⟨w6, (s0.trans (s4.trans s6)), (cT.step (s4.trans s6)), (di.step (s4.trans s6)), (cZ.step (s4.trans s6)), (dq.step (s4.trans s6)), (dr.step (s4.trans s6))⟩ hp
    ·replace hp := bif_f hb hp
     refine bind_ex (ldI_of (w6.ld (i := 5) rfl rfl)) ?_
     refine bind_ex (ldI_of (w6.ld (i := 5) rfl rfl)) ?_
     refine bind_ex (ldSl_of (w6.ld (i := 5) rfl rfl)) ?_
     have f7 := W.borrow1 (eInt .i64) w6 (cT.step (s4.trans s6))
     obtain ⟨w7, s7⟩ := w6.right1
     obtain ⟨r8, e8, hp⟩ := bind_some' hp
     refine call_ex (aC.P rfl ⟨w7, f7⟩ e8) ?_
     rintro _ H9 ⟨rfl, w9, s9, _⟩
     obtain ⟨w10, s10⟩ := W.frame1 w6 w9 s9
     refine bind_ex rfl ?_
     obtain ⟨r11, e11, hp⟩ := bind_some' hp
     refine call_ex (cl.P ⟨w10, trivial⟩ e11) ?_
     rintro _ H12 ⟨rfl, w12, s12, _⟩
     refine bind_ex rfl ?_
     refine bif_ex (fun hb => ?_) (fun hb => ?_)
     ·replace hp := bif_t hb hp
      exact ar.j10_P (@ih) rfl rfl rfl rfl rfl ⟨w12, (s0.trans (s4.trans (s6.trans (s10.trans s12)))), (cT.step (s4.trans (s6.trans (s10.trans s12)))), (di.step (s4.trans (s6.trans (s10.trans s12)))), (cZ.step (s4.trans (s6.trans (s10.trans s12)))), (dq.step (s4.trans (s6.trans (s10.trans s12)))), (dr.step (s4.trans (s6.trans (s10.trans s12))))⟩ hp
     ·replace hp := bif_f hb hp
      exact ar.j10_P (@ih) rfl rfl rfl rfl rfl ⟨w12, (s0.trans (s4.trans (s6.trans (s10.trans s12)))), (cT.step (s4.trans (s6.trans (s10.trans s12)))), (di.step (s4.trans (s6.trans (s10.trans s12)))), (cZ.step (s4.trans (s6.trans (s10.trans s12)))), (dq.step (s4.trans (s6.trans (s10.trans s12)))), (dr.step (s4.trans (s6.trans (s10.trans s12))))⟩ hp
   ·replace hp := bif_f hb hp
    exact ih rfl rfl rfl rfl rfl ⟨w6, (s0.trans (s4.trans s6)), (cT.step (s4.trans s6)), (di.step (s4.trans s6)), (cZ.step (s4.trans s6)), (dq.step (s4.trans s6)), (dr.step (s4.trans s6))⟩ hp
  ·replace hp := bif_f hb hp
   exact ar.j9_P (@hC29) rfl rfl rfl rfl rfl ⟨w0, s0, cT, di, cZ, dq, dr⟩ hp
def ar.S65513 (H0 : Hp) (Ri R0 : List Rs) (ay aj aA ap aq ao au av aH aw : Int) (aR bn aM bo bp : ON) (aF aZ aB a_ ba az : Nat) (aS br aN bs bt : Cap) (cm : List Int) (bS bT bU bV bW bw : Bool) (bX bY bZ b_ ca cb cc cd ce cf : List AV) (C : Nat → Nat → Int → Int → Hp → OA) (pC : Int → List Int → Int → List Int → Int → List Int → List Int → List Int → Int → Int → Option (Bool × List Int × List Int × List Int × List Int × List Int)) : Prop := ∀ {aD aG aE aK aL : List Int} {cB cC cD cE cF : List AV} {hT iq : Int}, ∀ {H : Hp}, aF = aD.length → aZ = aG.length → aB = aE.length → a_ = aK.length → ba = aL.length → (Out H0 Ri H (Rs.ow bS ⟨aR, aF, aS⟩ (eInt .i64).z bX cB bY :: Rs.ow bT ⟨bn, aZ, br⟩ (eInt .i64).z bZ cC b_ :: Rs.ow bU ⟨aM, aB, aN⟩ (eInt .i64).z ca cD cb :: Rs.ow bV ⟨bo, a_, bs⟩ (eInt .i64).z cc cE cd :: Rs.ow bW ⟨bp, ba, bt⟩ (eInt .i64).z ce cF cf :: Rs.blk az [.int .i64 ay, .int .i64 aj, .sl ⟨aR, aF, aS⟩, .int .i64 aA, .int .i64 ap, .sl ⟨bn, aZ, br⟩, .int .i64 aq, .int .i64 ao, .sl ⟨aM, aB, aN⟩, .int .i64 au, .int .i64 av, .sl ⟨bo, a_, bs⟩, .int .i64 aH, .int .i64 aw, .sl ⟨bp, ba, bt⟩, .bool bw] :: R0) fun R => CR (eInt .i64) H R cB aD ∧ CR (eInt .i64) H R cC aG ∧ CR (eInt .i64) H R cD aE ∧ CR (eInt .i64) H R cE aK ∧ CR (eInt .i64) H R cF aL) → ∀ {r : Bool × List Int × List Int × List Int × List Int × List Int}, pC aj aD ap aG ao aE aK aL hT iq = some r → ∃ v H', C az 0 hT iq H = some (v, H') ∧ ar.Q H0 Ri R0 ay aj aA ap aq ao au av aH aw aR bn aM bo bp aF aZ aB a_ ba az aS br aN bs bt cm bS bT bU bV bW bw bX bY bZ b_ ca cb cc cd ce cf r v H'
def ar.S65515 (H0 : Hp) (Ri R0 : List Rs) (ay aj aA ap aq ao au av aH aw : Int) (aR bn aM bo bp : ON) (aF aZ aB a_ ba az : Nat) (aS br aN bs bt : Cap) (cm : List Int) (bS bT bU bV bW bw : Bool) (bX bY bZ b_ ca cb cc cd ce cf : List AV) (C : Nat → Nat → Int → Int → Hp → OA) (pC : List Int → Int → List Int → Int → List Int → List Int → List Int → Int → Int → Option (Bool × List Int × List Int × List Int × List Int × List Int)) : Prop := ∀ {aD aG aE aK aL : List Int} {cB cC cD cE cF : List AV} {gP gL : Int}, ∀ {H : Hp}, aF = aD.length → aZ = aG.length → aB = aE.length → a_ = aK.length → ba = aL.length → (Out H0 Ri H (Rs.ow bS ⟨aR, aF, aS⟩ (eInt .i64).z bX cB bY :: Rs.ow bT ⟨bn, aZ, br⟩ (eInt .i64).z bZ cC b_ :: Rs.ow bU ⟨aM, aB, aN⟩ (eInt .i64).z ca cD cb :: Rs.ow bV ⟨bo, a_, bs⟩ (eInt .i64).z cc cE cd :: Rs.ow bW ⟨bp, ba, bt⟩ (eInt .i64).z ce cF cf :: Rs.blk az [.int .i64 ay, .int .i64 aj, .sl ⟨aR, aF, aS⟩, .int .i64 aA, .int .i64 ap, .sl ⟨bn, aZ, br⟩, .int .i64 aq, .int .i64 ao, .sl ⟨aM, aB, aN⟩, .int .i64 au, .int .i64 av, .sl ⟨bo, a_, bs⟩, .int .i64 aH, .int .i64 aw, .sl ⟨bp, ba, bt⟩, .bool bw] :: R0) fun R => CR (eInt .i64) H R cB aD ∧ CR (eInt .i64) H R cC aG ∧ CR (eInt .i64) H R cD aE ∧ CR (eInt .i64) H R cE aK ∧ CR (eInt .i64) H R cF aL) → ∀ {r : Bool × List Int × List Int × List Int × List Int × List Int}, pC aD ap aG ao aE aK aL gP gL = some r → ∃ v H', C az 0 gP gL H = some (v, H') ∧ ar.Q H0 Ri R0 ay aj aA ap aq ao au av aH aw aR bn aM bo bp aF aZ aB a_ ba az aS br aN bs bt cm bS bT bU bV bW bw bX bY bZ b_ ca cb cc cd ce cf r v H'
def ar.pl65515 (F : Nat)  : Nat → List Int → Int → List Int → Int → List Int → List Int → List Int → Int → Int → Option (Bool × List Int × List Int × List Int × List Int × List Int)
 | 0, _, _, _, _, _, _, _, _, _ => none
 | k + 1, aD, ap, aG, ao, aE, aK, aL, gP, gL => (bif (decide (gL < ap)) then ((aC.p F ap aG gP gL).bind fun r3 => (ix aG (IntKind.i64.wrap ((IntKind.i64.wrap (gP * ap)) + gL))).bind fun n7 => (some (aG.set n7 (IntKind.i64.wrap (0 - r3)))).bind fun l8 => (aC.p F ao aE gL gP).bind fun r12 => (ix aE (IntKind.i64.wrap ((IntKind.i64.wrap (gL * ao)) + gP))).bind fun n16 => (some (aE.set n16 (IntKind.i64.wrap (0 - r12)))).bind fun l17 => ar.pl65515 F k aD ap l8 ao l17 aK aL gP (IntKind.i64.wrap (gL + 1))) else (some (true, aD, aG, aE, aK, aL)))
termination_by structural n => n
theorem ar.l65515_P {F : Nat} {H0 : Hp} {Ri R0 : List Rs} {ay aj aA ap aq ao au av aH aw : Int} {aR bn aM bo bp : ON} {aF aZ aB a_ ba az : Nat} {aS br aN bs bt : Cap} {cm : List Int} {bS bT bU bV bW bw : Bool} {bX bY bZ b_ ca cb cc cd ce cf : List AV}  : ∀ k, ar.S65515 H0 Ri R0 ay aj aA ap aq ao au av aH aw aR bn aM bo bp aF aZ aB a_ ba az aS br aN bs bt cm bS bT bU bV bW bw bX bY bZ b_ ca cb cc cd ce cf (ar.l65515 F (aC.tw F) (cl.tw F) (bH.tw F) (bI.tw F)  k) (ar.pl65515 F  k) := by
 intro k
 induction k with
 | zero =>
  intro aD aG aE aK aL cB cC cD cE cF gP gL H ei ek el em en h0 r hp
  exact nomatch (show (none : Option (Bool × List Int × List Int × List Int × List Int × List Int)) = some r from hp)
 | succ k ih =>
  intro aD aG aE aK aL cB cC cD cE cF gP gL H ei ek el em en h0 r hp
  obtain ⟨w0, s0, cT, di, cZ, dq, dr⟩ := h0
  subst ei
  subst ek
  subst el
  subst em
  subst en
  unfold ar.pl65515 at hp
  unfold ar.l65515
  refine bind_ex (ldI_of (w0.ld (i := 5) rfl rfl)) ?_
  refine bif_ex (fun hb => ?_) (fun hb => ?_)
  ·replace hp := bif_t hb hp
   refine bind_ex (ldSl_of (w0.ld (i := 5) rfl rfl)) ?_
   refine bind_ex (ldI_of (w0.ld (i := 5) rfl rfl)) ?_
   refine bind_ex (ldI_of (w0.ld (i := 5) rfl rfl)) ?_
   refine bind_ex (ldI_of (w0.ld (i := 5) rfl rfl)) ?_
   refine bind_ex (ldSl_of (w0.ld (i := 5) rfl rfl)) ?_
   obtain ⟨w1, s1⟩ := w0.pick' [1, 0, 2, 3, 4, 5] 6 rfl rfl rfl
   dsimp only [pk, pks, nth, List.drop] at w1 s1
   have f2 := W.borrow1 (eInt .i64) w1 (di.step s1)
   obtain ⟨w2, s2⟩ := w1.right1
   obtain ⟨r3, e3, hp⟩ := bind_some' hp
   refine call_ex (aC.P rfl ⟨w2, f2⟩ e3) ?_
   rintro _ H4 ⟨rfl, w4, s4, _⟩
   obtain ⟨w5, s5⟩ := W.frame1 w1 w4 s4
   refine bind_ex rfl ?_
   refine ifs_ex (Cons.tr (Cons.refl _) s1 (W.cons_of (Rn := []) w2 w4 s4)) ?_
   obtain ⟨n7, g7, hp⟩ := bind_some' hp
   obtain ⟨p7, q7, i7, h7, j7⟩ := W.ixo (E := (eInt .i64)) w5 (i := 0) rfl rfl (di.step (s1.trans s5)) g7
   refine bind_ex i7 ?_
   obtain ⟨l8, e8, hp⟩ := bind_some' hp
   refine sto_k (eInt .i64) w5 (i := 0) (j := 0) (p := p7) rfl rfl (di.step (s1.trans s5)) g7 i7 e8 rfl rfl (fun _ h => by have h : _ = [_] := h; subst h; exact rfl) fun H9 k9 w9 s9 c9 => ?_
   dsimp only [List.set] at w9 s9 c9
   refine bind_ex (ldSl_of (w9.ld (i := 5) rfl rfl)) ?_
   refine bind_ex (ldI_of (w9.ld (i := 5) rfl rfl)) ?_
   refine bind_ex (ldI_of (w9.ld (i := 5) rfl rfl)) ?_
   refine bind_ex (ldI_of (w9.ld (i := 5) rfl rfl)) ?_
   refine bind_ex (ldSl_of (w9.ld (i := 5) rfl rfl)) ?_
   obtain ⟨w10, s10⟩ := w9.pick' [2, 0, 1, 3, 4, 5] 6 rfl rfl rfl
   dsimp only [pk, pks, nth, List.drop] at w10 s10
   have f11 := W.borrow1 (eInt .i64) w10 (cZ.step (s1.trans (s5.trans (s9.trans s10))))
   obtain ⟨w11, s11⟩ := w10.right1
   obtain ⟨r12, e12, hp⟩ := bind_some' hp
   refine call_ex (aC.P rfl ⟨w11, f11⟩ e12) ?_
   rintro _ H13 ⟨rfl, w13, s13, _⟩
   obtain ⟨w14, s14⟩ := W.frame1 w10 w13 s13
   refine bind_ex rfl ?_
   refine ifs_ex (Cons.tr (Cons.refl _) s10 (W.cons_of (Rn := []) w11 w13 s13)) ?_
   obtain ⟨n16, g16, hp⟩ := bind_some' hp
   obtain ⟨p16, q16, i16, h16, j16⟩ := W.ixo (E := (eInt .i64)) w14 (i := 0) rfl rfl (cZ.step (s1.trans (s5.trans (s9.trans (s10.trans s14))))) g16
   refine bind_ex i16 ?_
   obtain ⟨l17, e17, hp⟩ := bind_some' hp
   refine sto_k (eInt .i64) w14 (i := 0) (j := 0) (p := p16) rfl rfl (cZ.step (s1.trans (s5.trans (s9.trans (s10.trans s14))))) g16 i16 e17 rfl rfl (fun _ h => by have h : _ = [_] := h; subst h; exact rfl) fun H18 k18 w18 s18 c18 => ?_
   dsimp only [List.set] at w18 s18 c18
   obtain ⟨w19, s19⟩ := w18.pick' [2, 1, 0, 3, 4, 5] 6 rfl rfl rfl
   dsimp only [pk, pks, nth, List.drop] at w19 s19
   exact ih rfl ((st_len e8).symm) ((st_len e17).symm) rfl rfl ⟨w19, (s0.trans (s1.trans (s5.trans (s9.trans (s10.trans (s14.trans (s18.trans s19))))))), (cT.step (s1.trans (s5.trans (s9.trans (s10.trans (s14.trans (s18.trans s19))))))), (c9.step (s10.trans (s14.trans (s18.trans s19)))), (c18.step s19), (dq.step (s1.trans (s5.trans (s9.trans (s10.trans (s14.trans (s18.trans s19))))))), (dr.step (s1.trans (s5.trans (s9.trans (s10.trans (s14.trans (s18.trans s19)))))))⟩ hp
  ·replace hp := bif_f hb hp
   obtain rfl := Option.some.inj hp
   exact ⟨_, _, rfl, _, _, _, _, _, rfl, rfl, rfl, rfl, rfl, rfl, w0, s0, cT, di, cZ, dq, dr⟩
def ar.pj5 (F : Nat)  (aD : List Int) (ap : Int) (aG : List Int) (ao : Int) (aE : List Int) (aK : List Int) (aL : List Int) (nH : Int) : Option (Bool × List Int × List Int × List Int × List Int × List Int) := ar.pl65515 F F aD ap aG ao aE aK aL nH 0
theorem ar.j5_P {F : Nat} {H0 : Hp} {Ri R0 : List Rs} {ay aj aA ap aq ao au av aH aw : Int} {aR bn aM bo bp : ON} {aF aZ aB a_ ba az : Nat} {aS br aN bs bt : Cap} {cm : List Int} {bS bT bU bV bW bw : Bool} {bX bY bZ b_ ca cb cc cd ce cf : List AV}  {aD aG aE aK aL : List Int} {cB cC cD cE cF : List AV} {nH : Int} {H : Hp} (ei : aF = aD.length) (ek : aZ = aG.length) (el : aB = aE.length) (em : a_ = aK.length) (en : ba = aL.length) (h0 : Out H0 Ri H (Rs.ow bS ⟨aR, aF, aS⟩ (eInt .i64).z bX cB bY :: Rs.ow bT ⟨bn, aZ, br⟩ (eInt .i64).z bZ cC b_ :: Rs.ow bU ⟨aM, aB, aN⟩ (eInt .i64).z ca cD cb :: Rs.ow bV ⟨bo, a_, bs⟩ (eInt .i64).z cc cE cd :: Rs.ow bW ⟨bp, ba, bt⟩ (eInt .i64).z ce cF cf :: Rs.blk az [.int .i64 ay, .int .i64 aj, .sl ⟨aR, aF, aS⟩, .int .i64 aA, .int .i64 ap, .sl ⟨bn, aZ, br⟩, .int .i64 aq, .int .i64 ao, .sl ⟨aM, aB, aN⟩, .int .i64 au, .int .i64 av, .sl ⟨bo, a_, bs⟩, .int .i64 aH, .int .i64 aw, .sl ⟨bp, ba, bt⟩, .bool bw] :: R0) fun R => CR (eInt .i64) H R cB aD ∧ CR (eInt .i64) H R cC aG ∧ CR (eInt .i64) H R cD aE ∧ CR (eInt .i64) H R cE aK ∧ CR (eInt .i64) H R cF aL) {r : Bool × List Int × List Int × List Int × List Int × List Int} (hp : ar.pj5 F  aD ap aG ao aE aK aL nH = some r) : ∃ v H', ar.j5 F (aC.tw F) (cl.tw F) (bH.tw F) (bI.tw F)  az 0 nH H = some (v, H') ∧ ar.Q H0 Ri R0 ay aj aA ap aq ao au av aH aw aR bn aM bo bp aF aZ aB a_ ba az aS br aN bs bt cm bS bT bU bV bW bw bX bY bZ b_ ca cb cc cd ce cf r v H' := by
 obtain ⟨w0, s0, cT, di, cZ, dq, dr⟩ := h0
 subst ei
 subst ek
 subst el
 subst em
 subst en
 unfold ar.pj5 at hp
 unfold ar.j5
 exact ar.l65515_P F rfl rfl rfl rfl rfl ⟨w0, s0, cT, di, cZ, dq, dr⟩ hp
def ar.pl65513 (F : Nat)  : Nat → Int → List Int → Int → List Int → Int → List Int → List Int → List Int → Int → Int → Option (Bool × List Int × List Int × List Int × List Int × List Int)
 | 0, _, _, _, _, _, _, _, _, _, _ => none
 | k + 1, aj, aD, ap, aG, ao, aE, aK, aL, hT, iq => (bif (decide (iq < aj)) then ((aC.p F aj aD hT iq).bind fun r2 => (ix aD (IntKind.i64.wrap ((IntKind.i64.wrap (hT * aj)) + iq))).bind fun n6 => (some (aD.set n6 (IntKind.i64.wrap (0 - r2)))).bind fun l7 => ar.pl65513 F k aj l7 ap aG ao aE aK aL hT (IntKind.i64.wrap (iq + 1))) else (ar.pj5 F aD ap aG ao aE aK aL hT))
termination_by structural n => n
theorem ar.l65513_P {F : Nat} {H0 : Hp} {Ri R0 : List Rs} {ay aj aA ap aq ao au av aH aw : Int} {aR bn aM bo bp : ON} {aF aZ aB a_ ba az : Nat} {aS br aN bs bt : Cap} {cm : List Int} {bS bT bU bV bW bw : Bool} {bX bY bZ b_ ca cb cc cd ce cf : List AV}  : ∀ k, ar.S65513 H0 Ri R0 ay aj aA ap aq ao au av aH aw aR bn aM bo bp aF aZ aB a_ ba az aS br aN bs bt cm bS bT bU bV bW bw bX bY bZ b_ ca cb cc cd ce cf (ar.l65513 F (aC.tw F) (cl.tw F) (bH.tw F) (bI.tw F)  k) (ar.pl65513 F  k) := by
 intro k
 induction k with
 | zero =>
  intro aD aG aE aK aL cB cC cD cE cF hT iq H ei ek el em en h0 r hp
  exact nomatch (show (none : Option (Bool × List Int × List Int × List Int × List Int × List Int)) = some r from hp)
 | succ k ih =>
  intro aD aG aE aK aL cB cC cD cE cF hT iq H ei ek el em en h0 r hp
  obtain ⟨w0, s0, cT, di, cZ, dq, dr⟩ := h0
  subst ei
  subst ek
  subst el
  subst em
  subst en
  unfold ar.pl65513 at hp
  unfold ar.l65513
  refine bind_ex (ldI_of (w0.ld (i := 5) rfl rfl)) ?_
  refine bif_ex (fun hb => ?_) (fun hb => ?_)
  ·replace hp := bif_t hb hp
   refine bind_ex (ldSl_of (w0.ld (i := 5) rfl rfl)) ?_
   refine bind_ex (ldI_of (w0.ld (i := 5) rfl rfl)) ?_
   refine bind_ex (ldI_of (w0.ld (i := 5) rfl rfl)) ?_
   refine bind_ex (ldI_of (w0.ld (i := 5) rfl rfl)) ?_
   refine bind_ex (ldSl_of (w0.ld (i := 5) rfl rfl)) ?_
   have f1 := W.borrow1 (eInt .i64) w0 cT
   obtain ⟨w1, s1⟩ := w0.right1
   obtain ⟨r2, e2, hp⟩ := bind_some' hp
   refine call_ex (aC.P rfl ⟨w1, f1⟩ e2) ?_
   rintro _ H3 ⟨rfl, w3, s3, _⟩
   obtain ⟨w4, s4⟩ := W.frame1 w0 w3 s3
   refine bind_ex rfl ?_
   refine ifs_ex (W.cons_of (Rn := []) w1 w3 s3) ?_
   obtain ⟨n6, g6, hp⟩ := bind_some' hp
   obtain ⟨p6, q6, i6, h6, j6⟩ := W.ixo (E := (eInt .i64)) w4 (i := 0) rfl rfl (cT.step s4) g6
   refine bind_ex i6 ?_
   obtain ⟨l7, e7, hp⟩ := bind_some' hp
   refine sto_k (eInt .i64) w4 (i := 0) (j := 0) (p := p6) rfl rfl (cT.step s4) g6 i6 e7 rfl rfl (fun _ h => by have h : _ = [_] := h; subst h; exact rfl) fun H8 k8 w8 s8 c8 => ?_
   dsimp only [List.set] at w8 s8 c8
   exact ih ((st_len e7).symm) rfl rfl rfl rfl ⟨w8, (s0.trans (s4.trans s8)), c8, (di.step (s4.trans s8)), (cZ.step (s4.trans s8)), (dq.step (s4.trans s8)), (dr.step (s4.trans s8))⟩ hp
  ·replace hp := bif_f hb hp
   exact ar.j5_P rfl rfl rfl rfl rfl ⟨w0, s0, cT, di, cZ, dq, dr⟩ hp
def ar.pj6 (F : Nat)  (ay : Int) (aj : Int) (aD : List Int) (ap : Int) (aG : List Int) (aq : Int) (ao : Int) (aE : List Int) (au : Int) (av : Int) (aK : List Int) (aw : Int) (aL : List Int) (iw : Int) (kK : Int) (lJ : Int) : Option (Bool × List Int × List Int × List Int × List Int × List Int) := (bif (decide (kK < 0)) then (some (false, aD, aG, aE, aK, aL)) else ((bH.p F aj aD kK iw).bind fun r1 => (bH.p F ap aG kK iw).bind fun r4 => (bI.p F aq ao aE kK iw).bind fun r7 => (bI.p F ay aj r1 lJ iw).bind fun r10 => (bI.p F au av aK lJ iw).bind fun r13 => (bH.p F aw aL lJ iw).bind fun r16 => (aC.p F aj r10 iw iw).bind fun r20 => (bif (decide (r20 < 0)) then (ar.pl65513 F F aj r10 ap r4 ao r7 r13 r16 iw 0) else (some (true, r10, r4, r7, r13, r16)))))
theorem ar.j6_P {F : Nat} {H0 : Hp} {Ri R0 : List Rs} {ay aj aA ap aq ao au av aH aw : Int} {aR bn aM bo bp : ON} {aF aZ aB a_ ba az : Nat} {aS br aN bs bt : Cap} {cm : List Int} {bS bT bU bV bW bw : Bool} {bX bY bZ b_ ca cb cc cd ce cf : List AV}  {aD aG aE aK aL : List Int} {cB cC cD cE cF : List AV} {iw kK lJ : Int} {H : Hp} (ei : aF = aD.length) (ek : aZ = aG.length) (el : aB = aE.length) (em : a_ = aK.length) (en : ba = aL.length) (h0 : Out H0 Ri H (Rs.ow bS ⟨aR, aF, aS⟩ (eInt .i64).z bX cB bY :: Rs.ow bT ⟨bn, aZ, br⟩ (eInt .i64).z bZ cC b_ :: Rs.ow bU ⟨aM, aB, aN⟩ (eInt .i64).z ca cD cb :: Rs.ow bV ⟨bo, a_, bs⟩ (eInt .i64).z cc cE cd :: Rs.ow bW ⟨bp, ba, bt⟩ (eInt .i64).z ce cF cf :: Rs.blk az [.int .i64 ay, .int .i64 aj, .sl ⟨aR, aF, aS⟩, .int .i64 aA, .int .i64 ap, .sl ⟨bn, aZ, br⟩, .int .i64 aq, .int .i64 ao, .sl ⟨aM, aB, aN⟩, .int .i64 au, .int .i64 av, .sl ⟨bo, a_, bs⟩, .int .i64 aH, .int .i64 aw, .sl ⟨bp, ba, bt⟩, .bool bw] :: R0) fun R => CR (eInt .i64) H R cB aD ∧ CR (eInt .i64) H R cC aG ∧ CR (eInt .i64) H R cD aE ∧ CR (eInt .i64) H R cE aK ∧ CR (eInt .i64) H R cF aL) {r : Bool × List Int × List Int × List Int × List Int × List Int} (hp : ar.pj6 F  ay aj aD ap aG aq ao aE au av aK aw aL iw kK lJ = some r) : ∃ v H', ar.j6 F (aC.tw F) (cl.tw F) (bH.tw F) (bI.tw F)  az 0 iw kK lJ H = some (v, H') ∧ ar.Q H0 Ri R0 ay aj aA ap aq ao au av aH aw aR bn aM bo bp aF aZ aB a_ ba az aS br aN bs bt cm bS bT bU bV bW bw bX bY bZ b_ ca cb cc cd ce cf r v H' := by
 obtain ⟨w0, s0, cT, di, cZ, dq, dr⟩ := h0
 subst ei
 subst ek
 subst el
 subst em
 subst en
 unfold ar.pj6 at hp
 unfold ar.j6
 refine bif_ex (fun hb => ?_) (fun hb => ?_)
 ·replace hp := bif_t hb hp
  obtain rfl := Option.some.inj hp
  exact ⟨_, _, rfl, _, _, _, _, _, rfl, rfl, rfl, rfl, rfl, rfl, w0, s0, cT, di, cZ, dq, dr⟩
 ·replace hp := bif_f hb hp
  refine bind_ex (ldI_of (w0.ld (i := 5) rfl rfl)) ?_
  refine bind_ex (ldI_of (w0.ld (i := 5) rfl rfl)) ?_
  refine bind_ex (ldSl_of (w0.ld (i := 5) rfl rfl)) ?_
  obtain ⟨r1, e1, hp⟩ := bind_some' hp
  refine call_ex (bH.P rfl ⟨w0, cT⟩ e1) ?_
  rintro _ H2 ⟨BP, rfl, hl2_0, w2, s2, f2_0⟩
  refine bind_ex (ldI_of (w2.ld (i := 5) rfl rfl)) ?_
  refine bind_ex (ldI_of (w2.ld (i := 5) rfl rfl)) ?_
  refine bind_ex (ldSl_of (w2.ld (i := 5) rfl rfl)) ?_
  obtain ⟨w3, s3⟩ := w2.pick' [1, 0, 2, 3, 4, 5] 6 rfl rfl rfl
  dsimp only [pk, pks, nth, List.drop] at w3 s3
  obtain ⟨r4, e4, hp⟩ := bind_some' hp
  refine call_ex (bH.P rfl ⟨w3, (di.step (s2.trans s3))⟩ e4) ?_
  rintro _ H5 ⟨BQ, rfl, hl5_0, w5, s5, f5_0⟩
  refine bind_ex (ldI_of (w5.ld (i := 5) rfl rfl)) ?_
  refine bind_ex (ldI_of (w5.ld (i := 5) rfl rfl)) ?_
  refine bind_ex (ldSl_of (w5.ld (i := 5) rfl rfl)) ?_
  obtain ⟨w6, s6⟩ := w5.pick' [2, 0, 1, 3, 4, 5] 6 rfl rfl rfl
  dsimp only [pk, pks, nth, List.drop] at w6 s6
  obtain ⟨r7, e7, hp⟩ := bind_some' hp
  refine call_ex (bI.P rfl ⟨w6, (cZ.step (s2.trans (s3.trans (s5.trans s6))))⟩ e7) ?_
  rintro _ H8 ⟨zF, rfl, hl8_0, w8, s8, f8_0⟩
  refine bind_ex (ldI_of (w8.ld (i := 5) rfl rfl)) ?_
  refine bind_ex (ldI_of (w8.ld (i := 5) rfl rfl)) ?_
  refine bind_ex (ldSl_of (w8.ld (i := 5) rfl rfl)) ?_
  obtain ⟨w9, s9⟩ := w8.pick' [2, 0, 1, 3, 4, 5] 6 rfl rfl rfl
  dsimp only [pk, pks, nth, List.drop] at w9 s9
  obtain ⟨r10, e10, hp⟩ := bind_some' hp
  refine call_ex (bI.P hl2_0 ⟨w9, (f2_0.step (s3.trans (s5.trans (s6.trans (s8.trans s9)))))⟩ e10) ?_
  rintro _ H11 ⟨zG, rfl, hl11_0, w11, s11, f11_0⟩
  refine bind_ex (ldI_of (w11.ld (i := 5) rfl rfl)) ?_
  refine bind_ex (ldI_of (w11.ld (i := 5) rfl rfl)) ?_
  refine bind_ex (ldSl_of (w11.ld (i := 5) rfl rfl)) ?_
  obtain ⟨w12, s12⟩ := w11.pick' [3, 0, 1, 2, 4, 5] 6 rfl rfl rfl
  dsimp only [pk, pks, nth, List.drop] at w12 s12
  obtain ⟨r13, e13, hp⟩ := bind_some' hp
  refine call_ex (bI.P rfl ⟨w12, (dq.step (s2.trans (s3.trans (s5.trans (s6.trans (s8.trans (s9.trans (s11.trans s12))))))))⟩ e13) ?_
  rintro _ H14 ⟨zH, rfl, hl14_0, w14, s14, f14_0⟩
  refine bind_ex (ldI_of (w14.ld (i := 5) rfl rfl)) ?_
  refine bind_ex (ldI_of (w14.ld (i := 5) rfl rfl)) ?_
  refine bind_ex (ldSl_of (w14.ld (i := 5) rfl rfl)) ?_
  obtain ⟨w15, s15⟩ := w14.pick' [4, 0, 1, 2, 3, 5] 6 rfl rfl rfl
  dsimp only [pk, pks, nth, List.drop] at w15 s15
  obtain ⟨r16, e16, hp⟩ := bind_some' hp
  refine call_ex (bH.P rfl ⟨w15, (dr.step (s2.trans (s3.trans (s5.trans (s6.trans (s8.trans (s9.trans (s11.trans (s12.trans (s14.trans s15))))))))))⟩ e16) ?_
  rintro _ H17 ⟨zI, rfl, hl17_0, w17, s17, f17_0⟩
  refine bind_ex (ldI_of (w17.ld (i := 5) rfl rfl)) ?_
  refine bind_ex (ldI_of (w17.ld (i := 5) rfl rfl)) ?_
  refine bind_ex (ldSl_of (w17.ld (i := 5) rfl rfl)) ?_
  obtain ⟨w18, s18⟩ := w17.pick' [2, 0, 1, 3, 4, 5] 6 rfl rfl rfl
  dsimp only [pk, pks, nth, List.drop] at w18 s18
  have f19 := W.borrow1 (eInt .i64) w18 (f11_0.step (s12.trans (s14.trans (s15.trans (s17.trans s18)))))
  obtain ⟨w19, s19⟩ := w18.right1
  obtain ⟨r20, e20, hp⟩ := bind_some' hp
  refine call_ex (aC.P hl11_0 ⟨w19, f19⟩ e20) ?_
  rintro _ H21 ⟨rfl, w21, s21, _⟩
  obtain ⟨w22, s22⟩ := W.frame1 w18 w21 s21
  refine bind_ex rfl ?_
  refine bif_ex (fun hb => ?_) (fun hb => ?_)
  ·replace hp := bif_t hb hp
   obtain ⟨w23, s23⟩ := w22.pick' [0, 4, 3, 2, 1, 5] 6 rfl rfl rfl
   dsimp only [pk, pks, nth, List.drop] at w23 s23
   exact ar.l65513_P F hl11_0 hl5_0 hl8_0 hl14_0 hl17_0 ⟨w23, (s0.trans (s2.trans (s3.trans (s5.trans (s6.trans (s8.trans (s9.trans (s11.trans (s12.trans (s14.trans (s15.trans (s17.trans (s18.trans (s22.trans s23)))))))))))))), (f11_0.step (s12.trans (s14.trans (s15.trans (s17.trans (s18.trans (s22.trans s23))))))), (f5_0.step (s6.trans (s8.trans (s9.trans (s11.trans (s12.trans (s14.trans (s15.trans (s17.trans (s18.trans (s22.trans s23))))))))))), (f8_0.step (s9.trans (s11.trans (s12.trans (s14.trans (s15.trans (s17.trans (s18.trans (s22.trans s23))))))))), (f14_0.step (s15.trans (s17.trans (s18.trans (s22.trans s23))))), (f17_0.step (s18.trans (s22.trans s23)))⟩ hp
  ·replace hp := bif_f hb hp
   obtain ⟨w24, s24⟩ := w22.pick' [0, 4, 3, 2, 1, 5] 6 rfl rfl rfl
   dsimp only [pk, pks, nth, List.drop] at w24 s24
   obtain rfl := Option.some.inj hp
   exact ⟨_, _, rfl, _, _, _, _, _, rfl, hl11_0, hl5_0, hl8_0, hl14_0, hl17_0, w24, (s0.trans (s2.trans (s3.trans (s5.trans (s6.trans (s8.trans (s9.trans (s11.trans (s12.trans (s14.trans (s15.trans (s17.trans (s18.trans (s22.trans s24)))))))))))))), (f11_0.step (s12.trans (s14.trans (s15.trans (s17.trans (s18.trans (s22.trans s24))))))), (f5_0.step (s6.trans (s8.trans (s9.trans (s11.trans (s12.trans (s14.trans (s15.trans (s17.trans (s18.trans (s22.trans s24))))))))))), (f8_0.step (s9.trans (s11.trans (s12.trans (s14.trans (s15.trans (s17.trans (s18.trans (s22.trans s24))))))))), (f14_0.step (s15.trans (s17.trans (s18.trans (s22.trans s24))))), (f17_0.step (s18.trans (s22.trans s24)))⟩
def ar.pl29 (F : Nat)  : Nat → Int → Int → List Int → Int → List Int → Int → Int → List Int → Int → Int → List Int → Int → List Int → Int → Int → Int → Int → Option (Bool × List Int × List Int × List Int × List Int × List Int)
 | 0, _, _, _, _, _, _, _, _, _, _, _, _, _, _, _, _, _ => none
 | k + 1, ay, aj, aD, ap, aG, aq, ao, aE, au, av, aK, aw, aL, dE, ef, js, jM => (bif (decide (jM < ay)) then (ar.pl469 F (ar.pl29 F k) F ay aj aD ap aG aq ao aE au av aK aw aL dE ef js jM dE) else (ar.pj6 F ay aj aD ap aG aq ao aE au av aK aw aL dE ef js))
termination_by structural n => n
theorem ar.l29_P {F : Nat} {H0 : Hp} {Ri R0 : List Rs} {ay aj aA ap aq ao au av aH aw : Int} {aR bn aM bo bp : ON} {aF aZ aB a_ ba az : Nat} {aS br aN bs bt : Cap} {cm : List Int} {bS bT bU bV bW bw : Bool} {bX bY bZ b_ ca cb cc cd ce cf : List AV}  : ∀ k, ar.S29 H0 Ri R0 ay aj aA ap aq ao au av aH aw aR bn aM bo bp aF aZ aB a_ ba az aS br aN bs bt cm bS bT bU bV bW bw bX bY bZ b_ ca cb cc cd ce cf (ar.l29 F (aC.tw F) (cl.tw F) (bH.tw F) (bI.tw F)  k) (ar.pl29 F  k) := by
 intro k
 induction k with
 | zero =>
  intro aD aG aE aK aL cB cC cD cE cF dE ef js jM H ei ek el em en h0 r hp
  exact nomatch (show (none : Option (Bool × List Int × List Int × List Int × List Int × List Int)) = some r from hp)
 | succ k ih =>
  intro aD aG aE aK aL cB cC cD cE cF dE ef js jM H ei ek el em en h0 r hp
  obtain ⟨w0, s0, cT, di, cZ, dq, dr⟩ := h0
  subst ei
  subst ek
  subst el
  subst em
  subst en
  unfold ar.pl29 at hp
  unfold ar.l29
  refine bind_ex (ldI_of (w0.ld (i := 5) rfl rfl)) ?_
  refine bif_ex (fun hb => ?_) (fun hb => ?_)
  ·replace hp := bif_t hb hp
   exact ar.l469_P (@ih) F rfl rfl rfl rfl rfl ⟨w0, s0, cT, di, cZ, dq, dr⟩ hp
  ·replace hp := bif_f hb hp
   exact ar.j6_P rfl rfl rfl rfl rfl ⟨w0, s0, cT, di, cZ, dq, dr⟩ hp
def ar.p (F : Nat) (bj : Int) (aX : Int) (dB : List Int) (bb : Int) (fk : List Int) (aY : Int) (aT : Int) (df : List Int) (bc : Int) (bf : Int) (fl : List Int) (bg : Int) (fm : List Int) (ae : Int) : Option (Bool × List Int × List Int × List Int × List Int × List Int) := ar.pl29 F F bj aX dB bb fk aY aT df bc bf fl bg fm ae (-1) (-1) ae
theorem ar.P {F : Nat} {bj aX bl bb aY aT bc bf bv bg ae : Int} {cP dX cp dY dZ : ON} {bL dc bA dd de aa : Nat} {cQ d_ cq ea eb : Cap} {dB fk df fl fm : List Int} {eQ fw eR fx fy ax : Bool} {eS eT gf fz fA gG eU eV gg fB fC gH fD fE gI : List AV} {H : Hp} {R0 : List Rs} (jD : bL = dB.length) (kE : dc = fk.length) (iX : bA = df.length) (kF : dd = fl.length) (kG : de = fm.length) (h0 : Inn H (Rs.ow eQ ⟨cP, bL, cQ⟩ (eInt .i64).z eS gf eT :: Rs.ow fw ⟨dX, dc, d_⟩ (eInt .i64).z fz gG fA :: Rs.ow eR ⟨cp, bA, cq⟩ (eInt .i64).z eU gg eV :: Rs.ow fx ⟨dY, dd, ea⟩ (eInt .i64).z fB gH fC :: Rs.ow fy ⟨dZ, de, eb⟩ (eInt .i64).z fD gI fE :: Rs.blk aa [.int .i64 bj, .int .i64 aX, .sl ⟨cP, bL, cQ⟩, .int .i64 bl, .int .i64 bb, .sl ⟨dX, dc, d_⟩, .int .i64 aY, .int .i64 aT, .sl ⟨cp, bA, cq⟩, .int .i64 bc, .int .i64 bf, .sl ⟨dY, dd, ea⟩, .int .i64 bv, .int .i64 bg, .sl ⟨dZ, de, eb⟩, .bool ax] :: R0) fun R => CR (eInt .i64) H R gf dB ∧ CR (eInt .i64) H R gG fk ∧ CR (eInt .i64) H R gg df ∧ CR (eInt .i64) H R gH fl ∧ CR (eInt .i64) H R gI fm) {r : Bool × List Int × List Int × List Int × List Int × List Int} (hp : ar.p F bj aX dB bb fk aY aT df bc bf fl bg fm ae = some r) : ∃ v H', ar.tw F aa 0 ae H = some (v, H') ∧ ar.Q H (Rs.ow eQ ⟨cP, bL, cQ⟩ (eInt .i64).z eS gf eT :: Rs.ow fw ⟨dX, dc, d_⟩ (eInt .i64).z fz gG fA :: Rs.ow eR ⟨cp, bA, cq⟩ (eInt .i64).z eU gg eV :: Rs.ow fx ⟨dY, dd, ea⟩ (eInt .i64).z fB gH fC :: Rs.ow fy ⟨dZ, de, eb⟩ (eInt .i64).z fD gI fE :: Rs.blk aa [.int .i64 bj, .int .i64 aX, .sl ⟨cP, bL, cQ⟩, .int .i64 bl, .int .i64 bb, .sl ⟨dX, dc, d_⟩, .int .i64 aY, .int .i64 aT, .sl ⟨cp, bA, cq⟩, .int .i64 bc, .int .i64 bf, .sl ⟨dY, dd, ea⟩, .int .i64 bv, .int .i64 bg, .sl ⟨dZ, de, eb⟩, .bool ax] :: R0) R0 bj aX bl bb aY aT bc bf bv bg cP dX cp dY dZ bL dc bA dd de aa cQ d_ cq ea eb dB eQ fw eR fx fy ax eS eT fz fA eU eV fB fC fD fE r v H' := by
 obtain ⟨w0, iR, kp, hO, kq, kr⟩ := h0
 subst jD
 subst kE
 subst iX
 subst kF
 subst kG
 unfold ar.p at hp
 unfold ar.tw ar.twX
 have s0 := w0.rf
 exact ar.l29_P F rfl rfl rfl rfl rfl ⟨w0, s0, iR, kp, hO, kq, kr⟩ hp
def dx.Q (H0 : Hp) (Ri R0 : List Rs)  (r : Int) (v : AV) (H' : Hp) : Prop := v = (.int .i64 r) ∧ Out H0 Ri H' (R0) fun R => True
def dx.p (F : Nat) (aa : Int) (ag : Int) : Option (Int) := (if ag = 0 then none else ((if ag = 0 then none else ((bif (decide ((Int.tmod aa ag) < 0)) then (some (IntKind.i64.wrap ((IntKind.i64.wrap (Int.tdiv aa ag)) - 1))) else (some (IntKind.i64.wrap (Int.tdiv aa ag))))))))
theorem dx.P {F : Nat} {aa ag : Int} {H : Hp} {R0 : List Rs}  (h0 : Inn H R0 fun R => True) {r : Int} (hp : dx.p F aa ag = some r) : ∃ v H', dx.tw F aa ag H = some (v, H') ∧ dx.Q H R0 R0  r v H' := by
 obtain ⟨w0, _⟩ := h0
 unfold dx.p at hp
 unfold dx.tw dx.twX
 have s0 := w0.rf
 obtain ⟨g1, hp⟩ := ifn_p hp
 refine ifn_ex g1 ?_
 obtain ⟨g2, hp⟩ := ifn_p hp
 refine ifn_ex g2 ?_
 refine bif_ex (fun hb => ?_) (fun hb => ?_)
 ·replace hp := bif_t hb hp
  obtain rfl := Option.some.inj hp
  exact ⟨_, _, rfl, rfl, w0, s0, trivial⟩
 ·replace hp := bif_f hb hp
  obtain rfl := Option.some.inj hp
  exact ⟨_, _, rfl, rfl, w0, s0, trivial⟩
def dI.Q (H0 : Hp) (Ri R0 : List Rs)  (r : Int × Bool) (v : AV) (H' : Hp) : Prop := v = (.tup [(.int .i64 r.1), (.bool r.2)]) ∧ Out H0 Ri H' (R0) fun R => True
def dI.p (F : Nat) (aa : Int) (ag : Int) (cJ : Int) : Option (Int × Bool) := (bif (aa != 0) then ((cl.p F ag).bind fun r1 => (cl.p F aa).bind fun r3 => (if r3 = 0 then none else ((bif (decide (r1 > (IntKind.i64.wrap (Int.tdiv cJ r3)))) then (some (0, false)) else (some ((IntKind.i64.wrap (aa * ag)), true)))))) else (some ((IntKind.i64.wrap (aa * ag)), true)))
theorem dI.P {F : Nat} {aa ag cJ : Int} {H : Hp} {R0 : List Rs}  (h0 : Inn H R0 fun R => True) {r : Int × Bool} (hp : dI.p F aa ag cJ = some r) : ∃ v H', dI.tw F aa ag cJ H = some (v, H') ∧ dI.Q H R0 R0  r v H' := by
 obtain ⟨w0, _⟩ := h0
 unfold dI.p at hp
 unfold dI.tw dI.twX
 have s0 := w0.rf
 refine bif_ex (fun hb => ?_) (fun hb => ?_)
 ·replace hp := bif_t hb hp
  obtain ⟨r1, e1, hp⟩ := bind_some' hp
  refine call_ex (cl.P ⟨w0, trivial⟩ e1) ?_
  rintro _ H2 ⟨rfl, w2, s2, _⟩
  refine bind_ex rfl ?_
  obtain ⟨r3, e3, hp⟩ := bind_some' hp
  refine call_ex (cl.P ⟨w2, trivial⟩ e3) ?_
  rintro _ H4 ⟨rfl, w4, s4, _⟩
  refine bind_ex rfl ?_
  obtain ⟨g5, hp⟩ := ifn_p hp
  refine ifn_ex g5 ?_
  refine bif_ex (fun hb => ?_) (fun hb => ?_)
  ·replace hp := bif_t hb hp
   obtain rfl := Option.some.inj hp
   exact ⟨_, _, rfl, rfl, w4, (s0.trans (s2.trans s4)), trivial⟩
  ·replace hp := bif_f hb hp
   obtain rfl := Option.some.inj hp
   exact ⟨_, _, rfl, rfl, w4, (s0.trans (s2.trans s4)), trivial⟩
 ·replace hp := bif_f hb hp
  obtain rfl := Option.some.inj hp
  exact ⟨_, _, rfl, rfl, w0, s0, trivial⟩
def dg.Q (H0 : Hp) (Ri R0 : List Rs)  (r : Int) (v : AV) (H' : Hp) : Prop := v = (.int .i64 r) ∧ Out H0 Ri H' (R0) fun R => True
def dg.p (F : Nat) (aa : Int) (ag : Int) (cJ : Int) : Option (Int) := (dI.p F ag cJ 2000000000000).bind fun r1 => (bif (!r1.2) then (some 3000000000000) else (some (IntKind.i64.wrap (aa - r1.1))))
theorem dg.P {F : Nat} {aa ag cJ : Int} {H : Hp} {R0 : List Rs}  (h0 : Inn H R0 fun R => True) {r : Int} (hp : dg.p F aa ag cJ = some r) : ∃ v H', dg.tw F aa ag cJ H = some (v, H') ∧ dg.Q H R0 R0  r v H' := by
 obtain ⟨w0, _⟩ := h0
 unfold dg.p at hp
 unfold dg.tw dg.twX
 have s0 := w0.rf
 obtain ⟨r1, e1, hp⟩ := bind_some' hp
 refine call_ex (dI.P ⟨w0, trivial⟩ e1) ?_
 rintro _ H2 ⟨rfl, w2, s2, _⟩
 refine bind_ex rfl ?_
 refine bind_ex rfl ?_
 refine bind_ex rfl ?_
 refine bind_ex rfl ?_
 refine bind_ex rfl ?_
 refine bif_ex (fun hb => ?_) (fun hb => ?_)
 ·replace hp := bif_t hb hp
  obtain rfl := Option.some.inj hp
  exact ⟨_, _, rfl, rfl, w2, (s0.trans s2), trivial⟩
 ·replace hp := bif_f hb hp
  obtain rfl := Option.some.inj hp
  exact ⟨_, _, rfl, rfl, w2, (s0.trans s2), trivial⟩
def dh.Q (H0 : Hp) (Ri R0 : List Rs) (bj aX bl bb aY aT bc bf bv bg : Int) (eg c_ eD da db : Sl) (aa ff : Nat) (fV : ON) (fW : Cap) (gx : Bool) (gy gz : List AV) (r : Bool × List Int) (v : AV) (H' : Hp) : Prop := ∃ kA : List AV, v = (.tup []) ∧ ff = (r.2).length ∧ Out H0 Ri H' (Rs.blk aa [.int .i64 bj, .int .i64 aX, .sl eg, .int .i64 bl, .int .i64 bb, .sl c_, .int .i64 aY, .int .i64 aT, .sl eD, .int .i64 bc, .int .i64 bf, .sl da, .int .i64 bv, .int .i64 bg, .sl db, .bool (r.1)] :: Rs.ow gx ⟨fV, ff, fW⟩ (eInt .i64).z gy kA gz :: R0) fun R => CR (eInt .i64) H' R kA (r.2)
def dh.p (F : Nat) (ax : Bool) (af : Int) (gh : List Int) (cL : Int) (cM : Int) (cu : Int) : Option (Bool × List Int) := (cl.p F cu).bind fun r2 => (bif (decide (r2 > 1000000000000)) then (some (true, gh)) else ((ix gh (IntKind.i64.wrap ((IntKind.i64.wrap (cL * af)) + cM))).bind fun n6 => (some (gh.set n6 cu)).bind fun l7 => some (ax, l7)))
theorem dh.P {F : Nat} {bj aX bl bb aY aT bc bf bv bg ae af cL cM cu : Int} {eg c_ eD da db : Sl} {ax gx : Bool} {aa ff : Nat} {fV : ON} {fW : Cap} {gh : List Int} {gy gz jE : List AV} {H : Hp} {R0 : List Rs} (mb : ff = gh.length) (h0 : Inn H (Rs.blk aa [.int .i64 bj, .int .i64 aX, .sl eg, .int .i64 bl, .int .i64 bb, .sl c_, .int .i64 aY, .int .i64 aT, .sl eD, .int .i64 bc, .int .i64 bf, .sl da, .int .i64 bv, .int .i64 bg, .sl db, .bool ax] :: Rs.ow gx ⟨fV, ff, fW⟩ (eInt .i64).z gy jE gz :: R0) fun R => CR (eInt .i64) H R jE gh) {r : Bool × List Int} (hp : dh.p F ax af gh cL cM cu = some r) : ∃ v H', dh.tw F aa 0 ae af ⟨fV, ff, fW⟩ cL cM cu H = some (v, H') ∧ dh.Q H (Rs.blk aa [.int .i64 bj, .int .i64 aX, .sl eg, .int .i64 bl, .int .i64 bb, .sl c_, .int .i64 aY, .int .i64 aT, .sl eD, .int .i64 bc, .int .i64 bf, .sl da, .int .i64 bv, .int .i64 bg, .sl db, .bool ax] :: Rs.ow gx ⟨fV, ff, fW⟩ (eInt .i64).z gy jE gz :: R0) R0 bj aX bl bb aY aT bc bf bv bg eg c_ eD da db aa ff fV fW gx gy gz r v H' := by
 obtain ⟨w0, lC⟩ := h0
 subst mb
 unfold dh.p at hp
 unfold dh.tw dh.twX
 have s0 := w0.rf
 refine new_k w0 fun H1 w1 s1 => ?_
 obtain ⟨r2, e2, hp⟩ := bind_some' hp
 refine call_ex (cl.P ⟨w1, trivial⟩ e2) ?_
 rintro _ H3 ⟨rfl, w3, s3, _⟩
 refine bind_ex rfl ?_
 refine bif_ex (fun hb => ?_) (fun hb => ?_)
 ·replace hp := bif_t hb hp
  refine st_k w3 (i := 1) rfl rfl rfl fun H4 w4 s4 => ?_
  dsimp only [List.set] at w4 s4
  obtain ⟨w5, s5⟩ := w4.pick' [1, 2] 3 rfl rfl rfl
  dsimp only [pk, pks, nth, List.drop] at w5 s5
  obtain rfl := Option.some.inj hp
  exact ⟨_, _, rfl, _, rfl, rfl, w5, (s0.trans (s1.trans (s3.trans (s4.trans s5)))), (lC.step (s1.trans (s3.trans (s4.trans s5))))⟩
 ·replace hp := bif_f hb hp
  refine bind_ex (ldSl_of (w3.ld (i := 0) rfl rfl)) ?_
  refine bind_ex (ldI_of (w3.ld (i := 0) rfl rfl)) ?_
  obtain ⟨n6, g6, hp⟩ := bind_some' hp
  obtain ⟨p6, q6, i6, h6, j6⟩ := W.ixo (E := (eInt .i64)) w3 (i := 2) rfl rfl (lC.step (s1.trans s3)) g6
  refine bind_ex i6 ?_
  obtain ⟨l7, e7, hp⟩ := bind_some' hp
  refine sto_k (eInt .i64) w3 (i := 2) (j := 0) (p := p6) rfl rfl (lC.step (s1.trans s3)) g6 i6 e7 rfl rfl (fun _ h => by have h : _ = [_] := h; subst h; exact rfl) fun H8 k8 w8 s8 c8 => ?_
  dsimp only [List.set] at w8 s8 c8
  obtain ⟨w9, s9⟩ := w8.pick' [1, 2] 3 rfl rfl rfl
  dsimp only [pk, pks, nth, List.drop] at w9 s9
  obtain rfl := Option.some.inj hp
  exact ⟨_, _, rfl, _, rfl, (st_len e7).symm, w9, (s0.trans (s1.trans (s3.trans (s8.trans s9)))), (c8.step s9)⟩
def bD.Q (H0 : Hp) (Ri R0 : List Rs) (bj aX bl bb aY aT bc bf bv bg : Int) (eg c_ eD da db : Sl) (aa ff : Nat) (fV : ON) (fW : Cap) (gx : Bool) (gy gz : List AV) (r : Bool × List Int) (v : AV) (H' : Hp) : Prop := ∃ kA : List AV, v = (.tup []) ∧ ff = (r.2).length ∧ Out H0 Ri H' (Rs.blk aa [.int .i64 bj, .int .i64 aX, .sl eg, .int .i64 bl, .int .i64 bb, .sl c_, .int .i64 aY, .int .i64 aT, .sl eD, .int .i64 bc, .int .i64 bf, .sl da, .int .i64 bv, .int .i64 bg, .sl db, .bool (r.1)] :: Rs.ow gx ⟨fV, ff, fW⟩ (eInt .i64).z gy kA gz :: R0) fun R => CR (eInt .i64) H' R kA (r.2)
def bD.S7 (H0 : Hp) (Ri R0 : List Rs) (ay aj aA ap aq ao au av aH aw : Int) (eh cG eH cH cI : Sl) (az gJ : Nat) (ie : ON) (ig : Cap) (jF : Bool) (jG jH : List AV) (C : Nat → Nat → Int → Int → Int → Nat → Nat → Int → Hp → OA) (pC : Bool → Int → Int → Int → Int → List Int → Int → Option (Bool × List Int)) : Prop := ∀ {ax : Bool} {eI dT fu lD jo eJ : Int} {ii : List Int} {mc : List AV} {eF : Nat}, ∀ {H : Hp}, gJ = ii.length → (Out H0 Ri H (Rs.blk az [.int .i64 ay, .int .i64 aj, .sl eh, .int .i64 aA, .int .i64 ap, .sl cG, .int .i64 aq, .int .i64 ao, .sl eH, .int .i64 au, .int .i64 av, .sl cH, .int .i64 aH, .int .i64 aw, .sl cI, .bool ax] :: Rs.ow jF ⟨ie, gJ, ig⟩ (eInt .i64).z jG mc jH :: Rs.blk eF [.int .i64 lD, .int .i64 jo, .sl ⟨ie, gJ, ig⟩] :: R0) fun R => CR (eInt .i64) H R mc ii) → ∀ {r : Bool × List Int}, pC ax eI dT fu jo ii eJ = some r → ∃ v H', C az 0 eI dT fu eF 0 eJ H = some (v, H') ∧ bD.Q H0 Ri R0 ay aj aA ap aq ao au av aH aw eh cG eH cH cI az gJ ie ig jF jG jH r v H'
def bD.pl7 (F : Nat)  : Nat → Bool → Int → Int → Int → Int → List Int → Int → Option (Bool × List Int)
 | 0, _, _, _, _, _, _, _ => none
 | k + 1, ax, eI, dT, fu, jo, ii, eJ => (bif (decide (eJ < jo)) then ((bif (!ax) then ((aC.p F jo ii eI eJ).bind fun r3 => (aC.p F jo ii dT eJ).bind fun r8 => (dg.p F r3 fu r8).bind fun r12 => (dh.p F ax jo ii eI eJ r12).bind fun r16 => bD.pl7 F k r16.1 eI dT fu jo r16.2 (IntKind.i64.wrap (eJ + 1))) else (some (ax, ii)))) else (some (ax, ii)))
termination_by structural n => n
theorem bD.l7_P {F : Nat} {H0 : Hp} {Ri R0 : List Rs} {ay aj aA ap aq ao au av aH aw : Int} {eh cG eH cH cI : Sl} {az gJ : Nat} {ie : ON} {ig : Cap} {jF : Bool} {jG jH : List AV}  : ∀ k, bD.S7 H0 Ri R0 ay aj aA ap aq ao au av aH aw eh cG eH cH cI az gJ ie ig jF jG jH (bD.l7 F (aC.tw F) (dg.tw F) (dh.tw F)  k) (bD.pl7 F  k) := by
 intro k
 induction k with
 | zero =>
  intro ax eI dT fu lD jo eJ ii mc eF H ph h0 r hp
  exact nomatch (show (none : Option (Bool × List Int)) = some r from hp)
 | succ k ih =>
  intro ax eI dT fu lD jo eJ ii mc eF H ph h0 r hp
  obtain ⟨w0, s0, lE⟩ := h0
  subst ph
  unfold bD.pl7 at hp
  unfold bD.l7
  refine bind_ex (ldI_of (w0.ld (i := 2) rfl rfl)) ?_
  refine bif_ex (fun hb => ?_) (fun hb => ?_)
  ·replace hp := bif_t hb hp
   refine bind_ex (ldB_of (w0.ld (i := 0) rfl rfl)) ?_
   refine bif_ex (fun hb => ?_) (fun hb => ?_)
   ·replace hp := bif_t hb hp
    refine bind_ex (ldI_of (w0.ld (i := 2) rfl rfl)) ?_
    refine bind_ex (ldI_of (w0.ld (i := 2) rfl rfl)) ?_
    refine bind_ex (ldSl_of (w0.ld (i := 2) rfl rfl)) ?_
    refine bind_ex (ldI_of (w0.ld (i := 2) rfl rfl)) ?_
    refine bind_ex (ldI_of (w0.ld (i := 2) rfl rfl)) ?_
    refine bind_ex (ldSl_of (w0.ld (i := 2) rfl rfl)) ?_
    obtain ⟨w1, s1⟩ := w0.pick' [1, 0, 2] 3 rfl rfl rfl
    dsimp only [pk, pks, nth, List.drop] at w1 s1
    have f2 := W.borrow1 (eInt .i64) w1 (lE.step s1)
    obtain ⟨w2, s2⟩ := w1.right1
    obtain ⟨r3, e3, hp⟩ := bind_some' hp
    refine call_ex (aC.P rfl ⟨w2, f2⟩ e3) ?_
    rintro _ H4 ⟨rfl, w4, s4, _⟩
    obtain ⟨w5, s5⟩ := W.frame1 w1 w4 s4
    refine bind_ex rfl ?_
    refine ifs_ex (Cons.tr (Cons.refl _) s1 (W.cons_of (Rn := []) w2 w4 s4)) ?_
    refine bind_ex (ldI_of (w5.ld (i := 2) rfl rfl)) ?_
    refine bind_ex (ldI_of (w5.ld (i := 2) rfl rfl)) ?_
    refine bind_ex (ldSl_of (w5.ld (i := 2) rfl rfl)) ?_
    have f7 := W.borrow1 (eInt .i64) w5 (lE.step (s1.trans s5))
    obtain ⟨w7, s7⟩ := w5.right1
    obtain ⟨r8, e8, hp⟩ := bind_some' hp
    refine call_ex (aC.P rfl ⟨w7, f7⟩ e8) ?_
    rintro _ H9 ⟨rfl, w9, s9, _⟩
    obtain ⟨w10, s10⟩ := W.frame1 w5 w9 s9
    refine bind_ex rfl ?_
    refine ifs_ex (W.cons_of (Rn := []) w7 w9 s9) ?_
    obtain ⟨r12, e12, hp⟩ := bind_some' hp
    refine call_ex (dg.P ⟨w10, trivial⟩ e12) ?_
    rintro _ H13 ⟨rfl, w13, s13, _⟩
    refine bind_ex rfl ?_
    refine ifs_ex (W.cons_of (Rn := []) w10 w13 s13) ?_
    obtain ⟨w15, s15⟩ := w13.pick' [1, 0, 2] 3 rfl rfl rfl
    dsimp only [pk, pks, nth, List.drop] at w15 s15
    obtain ⟨r16, e16, hp⟩ := bind_some' hp
    refine call_ex (dh.P rfl ⟨w15, (lE.step (s1.trans (s5.trans (s10.trans (s13.trans s15)))))⟩ e16) ?_
    rintro _ H17 ⟨zJ, rfl, hl17_0, w17, s17, f17_0⟩
    exact ih hl17_0 ⟨w17, (s0.trans (s1.trans (s5.trans (s10.trans (s13.trans (s15.trans s17)))))), f17_0⟩ hp
   ·replace hp := bif_f hb hp
    obtain ⟨w18, s18⟩ := w0.pick' [0, 1] 3 rfl rfl rfl
    dsimp only [pk, pks, nth, List.drop] at w18 s18
    obtain rfl := Option.some.inj hp
    exact ⟨_, _, rfl, _, rfl, rfl, w18, (s0.trans s18), (lE.step s18)⟩
  ·replace hp := bif_f hb hp
   obtain ⟨w19, s19⟩ := w0.pick' [0, 1] 3 rfl rfl rfl
   dsimp only [pk, pks, nth, List.drop] at w19 s19
   obtain rfl := Option.some.inj hp
   exact ⟨_, _, rfl, _, rfl, rfl, w19, (s0.trans s19), (lE.step s19)⟩
def bD.p (F : Nat) (ax : Bool) (af : Int) (gh : List Int) (cL : Int) (cM : Int) (cu : Int) : Option (Bool × List Int) := bD.pl7 F F ax cL cM cu af gh 0
theorem bD.P {F : Nat} {bj aX bl bb aY aT bc bf bv bg ae af cL cM cu : Int} {eg c_ eD da db : Sl} {ax gx : Bool} {aa ff : Nat} {fV : ON} {fW : Cap} {gh : List Int} {gy gz jE : List AV} {H : Hp} {R0 : List Rs} (mb : ff = gh.length) (h0 : Inn H (Rs.blk aa [.int .i64 bj, .int .i64 aX, .sl eg, .int .i64 bl, .int .i64 bb, .sl c_, .int .i64 aY, .int .i64 aT, .sl eD, .int .i64 bc, .int .i64 bf, .sl da, .int .i64 bv, .int .i64 bg, .sl db, .bool ax] :: Rs.ow gx ⟨fV, ff, fW⟩ (eInt .i64).z gy jE gz :: R0) fun R => CR (eInt .i64) H R jE gh) {r : Bool × List Int} (hp : bD.p F ax af gh cL cM cu = some r) : ∃ v H', bD.tw F aa 0 ae af ⟨fV, ff, fW⟩ cL cM cu H = some (v, H') ∧ bD.Q H (Rs.blk aa [.int .i64 bj, .int .i64 aX, .sl eg, .int .i64 bl, .int .i64 bb, .sl c_, .int .i64 aY, .int .i64 aT, .sl eD, .int .i64 bc, .int .i64 bf, .sl da, .int .i64 bv, .int .i64 bg, .sl db, .bool ax] :: Rs.ow gx ⟨fV, ff, fW⟩ (eInt .i64).z gy jE gz :: R0) R0 bj aX bl bb aY aT bc bf bv bg eg c_ eD da db aa ff fV fW gx gy gz r v H' := by
 obtain ⟨w0, lC⟩ := h0
 subst mb
 unfold bD.p at hp
 unfold bD.tw bD.twX
 have s0 := w0.rf
 refine new_k w0 fun H1 w1 s1 => ?_
 obtain ⟨w2, s2⟩ := w1.pick' [1, 2, 0] 3 rfl rfl rfl
 dsimp only [pk, pks, nth, List.drop] at w2 s2
 exact bD.l7_P F rfl ⟨w2, (s0.trans (s1.trans s2)), (lC.step (s1.trans s2))⟩ hp
def bE.Q (H0 : Hp) (Ri R0 : List Rs) (bj aX bl bb aY aT bc bf bv bg : Int) (eg c_ eD da db : Sl) (aa ff : Nat) (fV : ON) (fW : Cap) (gx : Bool) (gy gz : List AV) (r : Bool × List Int) (v : AV) (H' : Hp) : Prop := ∃ kA : List AV, v = (.tup []) ∧ ff = (r.2).length ∧ Out H0 Ri H' (Rs.blk aa [.int .i64 bj, .int .i64 aX, .sl eg, .int .i64 bl, .int .i64 bb, .sl c_, .int .i64 aY, .int .i64 aT, .sl eD, .int .i64 bc, .int .i64 bf, .sl da, .int .i64 bv, .int .i64 bg, .sl db, .bool (r.1)] :: Rs.ow gx ⟨fV, ff, fW⟩ (eInt .i64).z gy kA gz :: R0) fun R => CR (eInt .i64) H' R kA (r.2)
def bE.S7 (H0 : Hp) (Ri R0 : List Rs) (ay aj aA ap aq ao au av aH aw : Int) (eh cG eH cH cI : Sl) (az gJ : Nat) (ie : ON) (ig : Cap) (jF : Bool) (jG jH : List AV) (C : Nat → Nat → Int → Int → Int → Nat → Nat → Int → Hp → OA) (pC : Bool → Int → Int → Int → Int → Int → List Int → Int → Option (Bool × List Int)) : Prop := ∀ {ax : Bool} {eI dT fu lD jo eJ : Int} {ii : List Int} {mc : List AV} {eF : Nat}, ∀ {H : Hp}, gJ = ii.length → (Out H0 Ri H (Rs.blk az [.int .i64 ay, .int .i64 aj, .sl eh, .int .i64 aA, .int .i64 ap, .sl cG, .int .i64 aq, .int .i64 ao, .sl eH, .int .i64 au, .int .i64 av, .sl cH, .int .i64 aH, .int .i64 aw, .sl cI, .bool ax] :: Rs.ow jF ⟨ie, gJ, ig⟩ (eInt .i64).z jG mc jH :: Rs.blk eF [.int .i64 lD, .int .i64 jo, .sl ⟨ie, gJ, ig⟩] :: R0) fun R => CR (eInt .i64) H R mc ii) → ∀ {r : Bool × List Int}, pC ax eI dT fu lD jo ii eJ = some r → ∃ v H', C az 0 eI dT fu eF 0 eJ H = some (v, H') ∧ bE.Q H0 Ri R0 ay aj aA ap aq ao au av aH aw eh cG eH cH cI az gJ ie ig jF jG jH r v H'
def bE.pl7 (F : Nat)  : Nat → Bool → Int → Int → Int → Int → Int → List Int → Int → Option (Bool × List Int)
 | 0, _, _, _, _, _, _, _, _ => none
 | k + 1, ax, eI, dT, fu, lD, jo, ii, eJ => (bif (decide (eJ < lD)) then ((bif (!ax) then ((aC.p F jo ii eJ eI).bind fun r3 => (aC.p F jo ii eJ dT).bind fun r8 => (dg.p F r3 fu r8).bind fun r12 => (dh.p F ax jo ii eJ eI r12).bind fun r16 => bE.pl7 F k r16.1 eI dT fu lD jo r16.2 (IntKind.i64.wrap (eJ + 1))) else (some (ax, ii)))) else (some (ax, ii)))
termination_by structural n => n
theorem bE.l7_P {F : Nat} {H0 : Hp} {Ri R0 : List Rs} {ay aj aA ap aq ao au av aH aw : Int} {eh cG eH cH cI : Sl} {az gJ : Nat} {ie : ON} {ig : Cap} {jF : Bool} {jG jH : List AV}  : ∀ k, bE.S7 H0 Ri R0 ay aj aA ap aq ao au av aH aw eh cG eH cH cI az gJ ie ig jF jG jH (bE.l7 F (aC.tw F) (dg.tw F) (dh.tw F)  k) (bE.pl7 F  k) := by
 intro k
 induction k with
 | zero =>
  intro ax eI dT fu lD jo eJ ii mc eF H ph h0 r hp
  exact nomatch (show (none : Option (Bool × List Int)) = some r from hp)
 | succ k ih =>
  intro ax eI dT fu lD jo eJ ii mc eF H ph h0 r hp
  obtain ⟨w0, s0, lE⟩ := h0
  subst ph
  unfold bE.pl7 at hp
  unfold bE.l7
  refine bind_ex (ldI_of (w0.ld (i := 2) rfl rfl)) ?_
  refine bif_ex (fun hb => ?_) (fun hb => ?_)
  ·replace hp := bif_t hb hp
   refine bind_ex (ldB_of (w0.ld (i := 0) rfl rfl)) ?_
   refine bif_ex (fun hb => ?_) (fun hb => ?_)
   ·replace hp := bif_t hb hp
    refine bind_ex (ldI_of (w0.ld (i := 2) rfl rfl)) ?_
    refine bind_ex (ldI_of (w0.ld (i := 2) rfl rfl)) ?_
    refine bind_ex (ldSl_of (w0.ld (i := 2) rfl rfl)) ?_
    refine bind_ex (ldI_of (w0.ld (i := 2) rfl rfl)) ?_
    refine bind_ex (ldI_of (w0.ld (i := 2) rfl rfl)) ?_
    refine bind_ex (ldSl_of (w0.ld (i := 2) rfl rfl)) ?_
    obtain ⟨w1, s1⟩ := w0.pick' [1, 0, 2] 3 rfl rfl rfl
    dsimp only [pk, pks, nth, List.drop] at w1 s1
    have f2 := W.borrow1 (eInt .i64) w1 (lE.step s1)
    obtain ⟨w2, s2⟩ := w1.right1
    obtain ⟨r3, e3, hp⟩ := bind_some' hp
    refine call_ex (aC.P rfl ⟨w2, f2⟩ e3) ?_
    rintro _ H4 ⟨rfl, w4, s4, _⟩
    obtain ⟨w5, s5⟩ := W.frame1 w1 w4 s4
    refine bind_ex rfl ?_
    refine ifs_ex (Cons.tr (Cons.refl _) s1 (W.cons_of (Rn := []) w2 w4 s4)) ?_
    refine bind_ex (ldI_of (w5.ld (i := 2) rfl rfl)) ?_
    refine bind_ex (ldI_of (w5.ld (i := 2) rfl rfl)) ?_
    refine bind_ex (ldSl_of (w5.ld (i := 2) rfl rfl)) ?_
    have f7 := W.borrow1 (eInt .i64) w5 (lE.step (s1.trans s5))
    obtain ⟨w7, s7⟩ := w5.right1
    obtain ⟨r8, e8, hp⟩ := bind_some' hp
    refine call_ex (aC.P rfl ⟨w7, f7⟩ e8) ?_
    rintro _ H9 ⟨rfl, w9, s9, _⟩
    obtain ⟨w10, s10⟩ := W.frame1 w5 w9 s9
    refine bind_ex rfl ?_
    refine ifs_ex (W.cons_of (Rn := []) w7 w9 s9) ?_
    obtain ⟨r12, e12, hp⟩ := bind_some' hp
    refine call_ex (dg.P ⟨w10, trivial⟩ e12) ?_
    rintro _ H13 ⟨rfl, w13, s13, _⟩
    refine bind_ex rfl ?_
    refine ifs_ex (W.cons_of (Rn := []) w10 w13 s13) ?_
    obtain ⟨w15, s15⟩ := w13.pick' [1, 0, 2] 3 rfl rfl rfl
    dsimp only [pk, pks, nth, List.drop] at w15 s15
    obtain ⟨r16, e16, hp⟩ := bind_some' hp
    refine call_ex (dh.P rfl ⟨w15, (lE.step (s1.trans (s5.trans (s10.trans (s13.trans s15)))))⟩ e16) ?_
    rintro _ H17 ⟨zJ, rfl, hl17_0, w17, s17, f17_0⟩
    exact ih hl17_0 ⟨w17, (s0.trans (s1.trans (s5.trans (s10.trans (s13.trans (s15.trans s17)))))), f17_0⟩ hp
   ·replace hp := bif_f hb hp
    obtain ⟨w18, s18⟩ := w0.pick' [0, 1] 3 rfl rfl rfl
    dsimp only [pk, pks, nth, List.drop] at w18 s18
    obtain rfl := Option.some.inj hp
    exact ⟨_, _, rfl, _, rfl, rfl, w18, (s0.trans s18), (lE.step s18)⟩
  ·replace hp := bif_f hb hp
   obtain ⟨w19, s19⟩ := w0.pick' [0, 1] 3 rfl rfl rfl
   dsimp only [pk, pks, nth, List.drop] at w19 s19
   obtain rfl := Option.some.inj hp
   exact ⟨_, _, rfl, _, rfl, rfl, w19, (s0.trans s19), (lE.step s19)⟩
def bE.p (F : Nat) (ax : Bool) (ae : Int) (af : Int) (gh : List Int) (cL : Int) (cM : Int) (cu : Int) : Option (Bool × List Int) := bE.pl7 F F ax cL cM cu ae af gh 0
theorem bE.P {F : Nat} {bj aX bl bb aY aT bc bf bv bg ae af cL cM cu : Int} {eg c_ eD da db : Sl} {ax gx : Bool} {aa ff : Nat} {fV : ON} {fW : Cap} {gh : List Int} {gy gz jE : List AV} {H : Hp} {R0 : List Rs} (mb : ff = gh.length) (h0 : Inn H (Rs.blk aa [.int .i64 bj, .int .i64 aX, .sl eg, .int .i64 bl, .int .i64 bb, .sl c_, .int .i64 aY, .int .i64 aT, .sl eD, .int .i64 bc, .int .i64 bf, .sl da, .int .i64 bv, .int .i64 bg, .sl db, .bool ax] :: Rs.ow gx ⟨fV, ff, fW⟩ (eInt .i64).z gy jE gz :: R0) fun R => CR (eInt .i64) H R jE gh) {r : Bool × List Int} (hp : bE.p F ax ae af gh cL cM cu = some r) : ∃ v H', bE.tw F aa 0 ae af ⟨fV, ff, fW⟩ cL cM cu H = some (v, H') ∧ bE.Q H (Rs.blk aa [.int .i64 bj, .int .i64 aX, .sl eg, .int .i64 bl, .int .i64 bb, .sl c_, .int .i64 aY, .int .i64 aT, .sl eD, .int .i64 bc, .int .i64 bf, .sl da, .int .i64 bv, .int .i64 bg, .sl db, .bool ax] :: Rs.ow gx ⟨fV, ff, fW⟩ (eInt .i64).z gy jE gz :: R0) R0 bj aX bl bb aY aT bc bf bv bg eg c_ eD da db aa ff fV fW gx gy gz r v H' := by
 obtain ⟨w0, lC⟩ := h0
 subst mb
 unfold bE.p at hp
 unfold bE.tw bE.twX
 have s0 := w0.rf
 refine new_k w0 fun H1 w1 s1 => ?_
 obtain ⟨w2, s2⟩ := w1.pick' [1, 2, 0] 3 rfl rfl rfl
 dsimp only [pk, pks, nth, List.drop] at w2 s2
 exact bE.l7_P F rfl ⟨w2, (s0.trans (s1.trans s2)), (lC.step (s1.trans s2))⟩ hp
def dt.Q (H0 : Hp) (Ri R0 : List Rs) (bj aX bl bb aY aT bc bf bv bg : Int) (cP dX cp : ON) (bL dc bA aa : Nat) (cQ d_ cq : Cap) (eQ fw eR : Bool) (eS eT fz fA eU eV : List AV) (da db : Sl) (r : List Int × List Int × List Int × Bool) (v : AV) (H' : Hp) : Prop := ∃ ib : List AV, ∃ jl : List AV, ∃ ic : List AV, v = (.tup []) ∧ bL = (r.1).length ∧ dc = (r.2.1).length ∧ bA = (r.2.2.1).length ∧ Out H0 Ri H' (Rs.ow eQ ⟨cP, bL, cQ⟩ (eInt .i64).z eS ib eT :: Rs.ow fw ⟨dX, dc, d_⟩ (eInt .i64).z fz jl fA :: Rs.ow eR ⟨cp, bA, cq⟩ (eInt .i64).z eU ic eV :: Rs.blk aa [.int .i64 bj, .int .i64 aX, .sl ⟨cP, bL, cQ⟩, .int .i64 bl, .int .i64 bb, .sl ⟨dX, dc, d_⟩, .int .i64 aY, .int .i64 aT, .sl ⟨cp, bA, cq⟩, .int .i64 bc, .int .i64 bf, .sl da, .int .i64 bv, .int .i64 bg, .sl db, .bool (r.2.2.2)] :: R0) fun R => CR (eInt .i64) H' R ib (r.1) ∧ CR (eInt .i64) H' R jl (r.2.1) ∧ CR (eInt .i64) H' R ic (r.2.2.1)
def dt.p (F : Nat) (aX : Int) (dB : List Int) (bb : Int) (fk : List Int) (aY : Int) (aT : Int) (df : List Int) (ax : Bool) (ae : Int) (bC : Int) (cv : Int) : Option (List Int × List Int × List Int × Bool) := (bif (cv != 0) then ((bD.p F ax aX dB ae bC cv).bind fun r2 => (bD.p F r2.1 bb fk ae bC cv).bind fun r5 => (bE.p F r5.1 aY aT df bC ae (IntKind.i64.wrap (0 - cv))).bind fun r8 => some (r2.2, r5.2, r8.2, r8.1)) else (some (dB, fk, df, ax)))
theorem dt.P {F : Nat} {bj aX bl bb aY aT bc bf bv bg ae bC cv : Int} {cP dX cp : ON} {bL dc bA aa : Nat} {cQ d_ cq : Cap} {dB fk df : List Int} {eQ fw eR ax : Bool} {eS eT gf fz fA gG eU eV gg : List AV} {da db : Sl} {H : Hp} {R0 : List Rs} (jD : bL = dB.length) (kE : dc = fk.length) (iX : bA = df.length) (h0 : Inn H (Rs.ow eQ ⟨cP, bL, cQ⟩ (eInt .i64).z eS gf eT :: Rs.ow fw ⟨dX, dc, d_⟩ (eInt .i64).z fz gG fA :: Rs.ow eR ⟨cp, bA, cq⟩ (eInt .i64).z eU gg eV :: Rs.blk aa [.int .i64 bj, .int .i64 aX, .sl ⟨cP, bL, cQ⟩, .int .i64 bl, .int .i64 bb, .sl ⟨dX, dc, d_⟩, .int .i64 aY, .int .i64 aT, .sl ⟨cp, bA, cq⟩, .int .i64 bc, .int .i64 bf, .sl da, .int .i64 bv, .int .i64 bg, .sl db, .bool ax] :: R0) fun R => CR (eInt .i64) H R gf dB ∧ CR (eInt .i64) H R gG fk ∧ CR (eInt .i64) H R gg df) {r : List Int × List Int × List Int × Bool} (hp : dt.p F aX dB bb fk aY aT df ax ae bC cv = some r) : ∃ v H', dt.tw F aa 0 ae bC cv H = some (v, H') ∧ dt.Q H (Rs.ow eQ ⟨cP, bL, cQ⟩ (eInt .i64).z eS gf eT :: Rs.ow fw ⟨dX, dc, d_⟩ (eInt .i64).z fz gG fA :: Rs.ow eR ⟨cp, bA, cq⟩ (eInt .i64).z eU gg eV :: Rs.blk aa [.int .i64 bj, .int .i64 aX, .sl ⟨cP, bL, cQ⟩, .int .i64 bl, .int .i64 bb, .sl ⟨dX, dc, d_⟩, .int .i64 aY, .int .i64 aT, .sl ⟨cp, bA, cq⟩, .int .i64 bc, .int .i64 bf, .sl da, .int .i64 bv, .int .i64 bg, .sl db, .bool ax] :: R0) R0 bj aX bl bb aY aT bc bf bv bg cP dX cp bL dc bA aa cQ d_ cq eQ fw eR eS eT fz fA eU eV da db r v H' := by
 obtain ⟨w0, iR, kp, hO⟩ := h0
 subst jD
 subst kE
 subst iX
 unfold dt.p at hp
 unfold dt.tw dt.twX
 have s0 := w0.rf
 refine bif_ex (fun hb => ?_) (fun hb => ?_)
 ·replace hp := bif_t hb hp
  refine bind_ex (ldI_of (w0.ld (i := 3) rfl rfl)) ?_
  refine bind_ex (ldI_of (w0.ld (i := 3) rfl rfl)) ?_
  refine bind_ex (ldSl_of (w0.ld (i := 3) rfl rfl)) ?_
  obtain ⟨w1, s1⟩ := w0.pick' [3, 0, 1, 2] 4 rfl rfl rfl
  dsimp only [pk, pks, nth, List.drop] at w1 s1
  obtain ⟨r2, e2, hp⟩ := bind_some' hp
  refine call_ex (bD.P rfl ⟨w1, (iR.step s1)⟩ e2) ?_
  rintro _ H3 ⟨tG, rfl, hl3_0, w3, s3, f3_0⟩
  refine bind_ex (ldI_of (w3.ld (i := 0) rfl rfl)) ?_
  refine bind_ex (ldI_of (w3.ld (i := 0) rfl rfl)) ?_
  refine bind_ex (ldSl_of (w3.ld (i := 0) rfl rfl)) ?_
  obtain ⟨w4, s4⟩ := w3.pick' [0, 2, 1, 3] 4 rfl rfl rfl
  dsimp only [pk, pks, nth, List.drop] at w4 s4
  obtain ⟨r5, e5, hp⟩ := bind_some' hp
  refine call_ex (bD.P rfl ⟨w4, (kp.step (s1.trans (s3.trans s4)))⟩ e5) ?_
  rintro _ H6 ⟨tH, rfl, hl6_0, w6, s6, f6_0⟩
  refine bind_ex (ldI_of (w6.ld (i := 0) rfl rfl)) ?_
  refine bind_ex (ldI_of (w6.ld (i := 0) rfl rfl)) ?_
  refine bind_ex (ldSl_of (w6.ld (i := 0) rfl rfl)) ?_
  obtain ⟨w7, s7⟩ := w6.pick' [0, 3, 1, 2] 4 rfl rfl rfl
  dsimp only [pk, pks, nth, List.drop] at w7 s7
  obtain ⟨r8, e8, hp⟩ := bind_some' hp
  refine call_ex (bE.P rfl ⟨w7, (hO.step (s1.trans (s3.trans (s4.trans (s6.trans s7)))))⟩ e8) ?_
  rintro _ H9 ⟨tI, rfl, hl9_0, w9, s9, f9_0⟩
  obtain ⟨w10, s10⟩ := w9.pick' [3, 2, 1, 0] 4 rfl rfl rfl
  dsimp only [pk, pks, nth, List.drop] at w10 s10
  obtain rfl := Option.some.inj hp
  exact ⟨_, _, rfl, _, _, _, rfl, hl3_0, hl6_0, hl9_0, w10, (s0.trans (s1.trans (s3.trans (s4.trans (s6.trans (s7.trans (s9.trans s10))))))), (f3_0.step (s4.trans (s6.trans (s7.trans (s9.trans s10))))), (f6_0.step (s7.trans (s9.trans s10))), (f9_0.step s10)⟩
 ·replace hp := bif_f hb hp
  obtain rfl := Option.some.inj hp
  exact ⟨_, _, rfl, _, _, _, rfl, rfl, rfl, rfl, w0, s0, iR, kp, hO⟩
def dy.Q (H0 : Hp) (Ri R0 : List Rs) (bj aX bl bb aY aT bc bf bv bg : Int) (cP dY dZ : ON) (bL dd de aa : Nat) (cQ ea eb : Cap) (eQ fx fy : Bool) (eS eT fB fC fD fE : List AV) (c_ eD : Sl) (r : List Int × List Int × List Int × Bool) (v : AV) (H' : Hp) : Prop := ∃ ib : List AV, ∃ jm : List AV, ∃ jn : List AV, v = (.tup []) ∧ bL = (r.1).length ∧ dd = (r.2.1).length ∧ de = (r.2.2.1).length ∧ Out H0 Ri H' (Rs.ow eQ ⟨cP, bL, cQ⟩ (eInt .i64).z eS ib eT :: Rs.ow fx ⟨dY, dd, ea⟩ (eInt .i64).z fB jm fC :: Rs.ow fy ⟨dZ, de, eb⟩ (eInt .i64).z fD jn fE :: Rs.blk aa [.int .i64 bj, .int .i64 aX, .sl ⟨cP, bL, cQ⟩, .int .i64 bl, .int .i64 bb, .sl c_, .int .i64 aY, .int .i64 aT, .sl eD, .int .i64 bc, .int .i64 bf, .sl ⟨dY, dd, ea⟩, .int .i64 bv, .int .i64 bg, .sl ⟨dZ, de, eb⟩, .bool (r.2.2.2)] :: R0) fun R => CR (eInt .i64) H' R ib (r.1) ∧ CR (eInt .i64) H' R jm (r.2.1) ∧ CR (eInt .i64) H' R jn (r.2.2.1)
def dy.p (F : Nat) (bj : Int) (aX : Int) (dB : List Int) (bc : Int) (bf : Int) (fl : List Int) (bg : Int) (fm : List Int) (ax : Bool) (ae : Int) (bC : Int) (cv : Int) : Option (List Int × List Int × List Int × Bool) := (bif (cv != 0) then ((bE.p F ax bj aX dB ae bC cv).bind fun r2 => (bE.p F r2.1 bc bf fl ae bC cv).bind fun r5 => (bD.p F r5.1 bg fm bC ae (IntKind.i64.wrap (0 - cv))).bind fun r8 => some (r2.2, r5.2, r8.2, r8.1)) else (some (dB, fl, fm, ax)))
theorem dy.P {F : Nat} {bj aX bl bb aY aT bc bf bv bg ae bC cv : Int} {cP dY dZ : ON} {bL dd de aa : Nat} {cQ ea eb : Cap} {dB fl fm : List Int} {eQ fx fy ax : Bool} {eS eT gf fB fC gH fD fE gI : List AV} {c_ eD : Sl} {H : Hp} {R0 : List Rs} (jD : bL = dB.length) (kF : dd = fl.length) (kG : de = fm.length) (h0 : Inn H (Rs.ow eQ ⟨cP, bL, cQ⟩ (eInt .i64).z eS gf eT :: Rs.ow fx ⟨dY, dd, ea⟩ (eInt .i64).z fB gH fC :: Rs.ow fy ⟨dZ, de, eb⟩ (eInt .i64).z fD gI fE :: Rs.blk aa [.int .i64 bj, .int .i64 aX, .sl ⟨cP, bL, cQ⟩, .int .i64 bl, .int .i64 bb, .sl c_, .int .i64 aY, .int .i64 aT, .sl eD, .int .i64 bc, .int .i64 bf, .sl ⟨dY, dd, ea⟩, .int .i64 bv, .int .i64 bg, .sl ⟨dZ, de, eb⟩, .bool ax] :: R0) fun R => CR (eInt .i64) H R gf dB ∧ CR (eInt .i64) H R gH fl ∧ CR (eInt .i64) H R gI fm) {r : List Int × List Int × List Int × Bool} (hp : dy.p F bj aX dB bc bf fl bg fm ax ae bC cv = some r) : ∃ v H', dy.tw F aa 0 ae bC cv H = some (v, H') ∧ dy.Q H (Rs.ow eQ ⟨cP, bL, cQ⟩ (eInt .i64).z eS gf eT :: Rs.ow fx ⟨dY, dd, ea⟩ (eInt .i64).z fB gH fC :: Rs.ow fy ⟨dZ, de, eb⟩ (eInt .i64).z fD gI fE :: Rs.blk aa [.int .i64 bj, .int .i64 aX, .sl ⟨cP, bL, cQ⟩, .int .i64 bl, .int .i64 bb, .sl c_, .int .i64 aY, .int .i64 aT, .sl eD, .int .i64 bc, .int .i64 bf, .sl ⟨dY, dd, ea⟩, .int .i64 bv, .int .i64 bg, .sl ⟨dZ, de, eb⟩, .bool ax] :: R0) R0 bj aX bl bb aY aT bc bf bv bg cP dY dZ bL dd de aa cQ ea eb eQ fx fy eS eT fB fC fD fE c_ eD r v H' := by
 obtain ⟨w0, iR, kq, kr⟩ := h0
 subst jD
 subst kF
 subst kG
 unfold dy.p at hp
 unfold dy.tw dy.twX
 have s0 := w0.rf
 refine bif_ex (fun hb => ?_) (fun hb => ?_)
 ·replace hp := bif_t hb hp
  refine bind_ex (ldI_of (w0.ld (i := 3) rfl rfl)) ?_
  refine bind_ex (ldI_of (w0.ld (i := 3) rfl rfl)) ?_
  refine bind_ex (ldSl_of (w0.ld (i := 3) rfl rfl)) ?_
  obtain ⟨w1, s1⟩ := w0.pick' [3, 0, 1, 2] 4 rfl rfl rfl
  dsimp only [pk, pks, nth, List.drop] at w1 s1
  obtain ⟨r2, e2, hp⟩ := bind_some' hp
  refine call_ex (bE.P rfl ⟨w1, (iR.step s1)⟩ e2) ?_
  rintro _ H3 ⟨tG, rfl, hl3_0, w3, s3, f3_0⟩
  refine bind_ex (ldI_of (w3.ld (i := 0) rfl rfl)) ?_
  refine bind_ex (ldI_of (w3.ld (i := 0) rfl rfl)) ?_
  refine bind_ex (ldSl_of (w3.ld (i := 0) rfl rfl)) ?_
  obtain ⟨w4, s4⟩ := w3.pick' [0, 2, 1, 3] 4 rfl rfl rfl
  dsimp only [pk, pks, nth, List.drop] at w4 s4
  obtain ⟨r5, e5, hp⟩ := bind_some' hp
  refine call_ex (bE.P rfl ⟨w4, (kq.step (s1.trans (s3.trans s4)))⟩ e5) ?_
  rintro _ H6 ⟨tH, rfl, hl6_0, w6, s6, f6_0⟩
  refine bind_ex (ldI_of (w6.ld (i := 0) rfl rfl)) ?_
  refine bind_ex (ldI_of (w6.ld (i := 0) rfl rfl)) ?_
  refine bind_ex (ldSl_of (w6.ld (i := 0) rfl rfl)) ?_
  obtain ⟨w7, s7⟩ := w6.pick' [0, 3, 1, 2] 4 rfl rfl rfl
  dsimp only [pk, pks, nth, List.drop] at w7 s7
  obtain ⟨r8, e8, hp⟩ := bind_some' hp
  refine call_ex (bD.P rfl ⟨w7, (kr.step (s1.trans (s3.trans (s4.trans (s6.trans s7)))))⟩ e8) ?_
  rintro _ H9 ⟨tI, rfl, hl9_0, w9, s9, f9_0⟩
  obtain ⟨w10, s10⟩ := w9.pick' [3, 2, 1, 0] 4 rfl rfl rfl
  dsimp only [pk, pks, nth, List.drop] at w10 s10
  obtain rfl := Option.some.inj hp
  exact ⟨_, _, rfl, _, _, _, rfl, hl3_0, hl6_0, hl9_0, w10, (s0.trans (s1.trans (s3.trans (s4.trans (s6.trans (s7.trans (s9.trans s10))))))), (f3_0.step (s4.trans (s6.trans (s7.trans (s9.trans s10))))), (f6_0.step (s7.trans (s9.trans s10))), (f9_0.step s10)⟩
 ·replace hp := bif_f hb hp
  obtain rfl := Option.some.inj hp
  exact ⟨_, _, rfl, _, _, _, rfl, rfl, rfl, rfl, w0, s0, iR, kq, kr⟩
def bi.Q (H0 : Hp) (Ri R0 : List Rs) (bj aX bl bb aY aT bc bf bv bg : Int) (cP : ON) (bL aa : Nat) (cQ : Cap) (dB : List Int) (c_ eD da db : Sl) (ax : Bool) (r : Bool) (v : AV) (H' : Hp) : Prop := v = (.bool r) ∧ Out H0 Ri H' (Rs.blk aa [.int .i64 bj, .int .i64 aX, .sl ⟨cP, bL, cQ⟩, .int .i64 bl, .int .i64 bb, .sl c_, .int .i64 aY, .int .i64 aT, .sl eD, .int .i64 bc, .int .i64 bf, .sl da, .int .i64 bv, .int .i64 bg, .sl db, .bool ax] :: R0) fun R => True
def bi.S13 (H0 : Hp) (Ri R0 : List Rs) (ay aj aA ap aq ao au av aH aw : Int) (aR : ON) (aF az : Nat) (aS : Cap) (cm : List Int) (cG eH cH cI : Sl) (bw : Bool) (C : Nat → Nat → Int → Int → Hp → OA) (pC : Int → Int → List Int → Int → Int → Option (Bool)) : Prop := ∀ {dE ef : Int}, ∀ {H : Hp}, aF = cm.length → (Out H0 Ri H (Rs.blk az [.int .i64 ay, .int .i64 aj, .sl ⟨aR, aF, aS⟩, .int .i64 aA, .int .i64 ap, .sl cG, .int .i64 aq, .int .i64 ao, .sl eH, .int .i64 au, .int .i64 av, .sl cH, .int .i64 aH, .int .i64 aw, .sl cI, .bool bw] :: R0) fun R => ROs (eInt .i64) H R ⟨aR, aF, aS⟩ cm) → ∀ {r : Bool}, pC ay aj cm dE ef = some r → ∃ v H', C az 0 dE ef H = some (v, H') ∧ bi.Q H0 Ri R0 ay aj aA ap aq ao au av aH aw aR aF az aS cm cG eH cH cI bw r v H'
def bi.S29 (H0 : Hp) (Ri R0 : List Rs) (ay aj aA ap aq ao au av aH aw : Int) (aR : ON) (aF az : Nat) (aS : Cap) (cm : List Int) (cG eH cH cI : Sl) (bw : Bool) (C : Nat → Nat → Int → Int → Hp → OA) (pC : Int → List Int → Int → Int → Option (Bool)) : Prop := ∀ {jt jb : Int}, ∀ {H : Hp}, aF = cm.length → (Out H0 Ri H (Rs.blk az [.int .i64 ay, .int .i64 aj, .sl ⟨aR, aF, aS⟩, .int .i64 aA, .int .i64 ap, .sl cG, .int .i64 aq, .int .i64 ao, .sl eH, .int .i64 au, .int .i64 av, .sl cH, .int .i64 aH, .int .i64 aw, .sl cI, .bool bw] :: R0) fun R => ROs (eInt .i64) H R ⟨aR, aF, aS⟩ cm) → ∀ {r : Bool}, pC aj cm jt jb = some r → ∃ v H', C az 0 jt jb H = some (v, H') ∧ bi.Q H0 Ri R0 ay aj aA ap aq ao au av aH aw aR aF az aS cm cG eH cH cI bw r v H'
def bi.pl29 (F : Nat)  : Nat → Int → List Int → Int → Int → Option (Bool)
 | 0, _, _, _, _ => none
 | k + 1, aj, cm, jt, jb => (bif (decide (jb < aj)) then ((aC.p F aj cm jt jb).bind fun r1 => (bif (r1 != 0) then (some false) else (bi.pl29 F k aj cm jt (IntKind.i64.wrap (jb + 1))))) else (some true))
termination_by structural n => n
theorem bi.l29_P {F : Nat} {H0 : Hp} {Ri R0 : List Rs} {ay aj aA ap aq ao au av aH aw : Int} {aR : ON} {aF az : Nat} {aS : Cap} {cm : List Int} {cG eH cH cI : Sl} {bw : Bool}  : ∀ k, bi.S29 H0 Ri R0 ay aj aA ap aq ao au av aH aw aR aF az aS cm cG eH cH cI bw (bi.l29 F (aC.tw F)  k) (bi.pl29 F  k) := by
 intro k
 induction k with
 | zero =>
  intro jt jb H jZ h0 r hp
  exact nomatch (show (none : Option (Bool)) = some r from hp)
 | succ k ih =>
  intro jt jb H jZ h0 r hp
  obtain ⟨w0, s0, jI⟩ := h0
  subst jZ
  unfold bi.pl29 at hp
  unfold bi.l29
  refine bind_ex (ldI_of (w0.ld (i := 0) rfl rfl)) ?_
  refine bif_ex (fun hb => ?_) (fun hb => ?_)
  ·replace hp := bif_t hb hp
   refine bind_ex (ldI_of (w0.ld (i := 0) rfl rfl)) ?_
   refine bind_ex (ldI_of (w0.ld (i := 0) rfl rfl)) ?_
   refine bind_ex (ldSl_of (w0.ld (i := 0) rfl rfl)) ?_
   obtain ⟨r1, e1, hp⟩ := bind_some' hp
   refine call_ex (aC.P rfl ⟨w0, jI⟩ e1) ?_
   rintro _ H2 ⟨rfl, w2, s2, _⟩
   refine bind_ex rfl ?_
   refine bif_ex (fun hb => ?_) (fun hb => ?_)
   ·replace hp := bif_t hb hp
    obtain rfl := Option.some.inj hp
    exact ⟨_, _, rfl, rfl, w2, (s0.trans s2), trivial⟩
   ·replace hp := bif_f hb hp
    exact ih rfl ⟨w2, (s0.trans s2), (jI.step s2)⟩ hp
  ·replace hp := bif_f hb hp
   obtain rfl := Option.some.inj hp
   exact ⟨_, _, rfl, rfl, w0, s0, trivial⟩
def bi.pj1 (F : Nat)  (aj : Int) (cm : List Int) (mH : Int) : Option (Bool) := bi.pl29 F F aj cm mH (IntKind.i64.wrap (mH + 1))
theorem bi.j1_P {F : Nat} {H0 : Hp} {Ri R0 : List Rs} {ay aj aA ap aq ao au av aH aw : Int} {aR : ON} {aF az : Nat} {aS : Cap} {cm : List Int} {cG eH cH cI : Sl} {bw : Bool}  {mH : Int} {H : Hp} (jZ : aF = cm.length) (h0 : Out H0 Ri H (Rs.blk az [.int .i64 ay, .int .i64 aj, .sl ⟨aR, aF, aS⟩, .int .i64 aA, .int .i64 ap, .sl cG, .int .i64 aq, .int .i64 ao, .sl eH, .int .i64 au, .int .i64 av, .sl cH, .int .i64 aH, .int .i64 aw, .sl cI, .bool bw] :: R0) fun R => ROs (eInt .i64) H R ⟨aR, aF, aS⟩ cm) {r : Bool} (hp : bi.pj1 F  aj cm mH = some r) : ∃ v H', bi.j1 F (aC.tw F)  az 0 mH H = some (v, H') ∧ bi.Q H0 Ri R0 ay aj aA ap aq ao au av aH aw aR aF az aS cm cG eH cH cI bw r v H' := by
 obtain ⟨w0, s0, jI⟩ := h0
 subst jZ
 unfold bi.pj1 at hp
 unfold bi.j1
 exact bi.l29_P F rfl ⟨w0, s0, jI⟩ hp
def bi.pl13 (F : Nat)  : Nat → Int → Int → List Int → Int → Int → Option (Bool)
 | 0, _, _, _, _, _ => none
 | k + 1, ay, aj, cm, dE, ef => (bif (decide (ef < ay)) then ((aC.p F aj cm ef dE).bind fun r1 => (bif (r1 != 0) then (some false) else (bi.pl13 F k ay aj cm dE (IntKind.i64.wrap (ef + 1))))) else (bi.pj1 F aj cm dE))
termination_by structural n => n
theorem bi.l13_P {F : Nat} {H0 : Hp} {Ri R0 : List Rs} {ay aj aA ap aq ao au av aH aw : Int} {aR : ON} {aF az : Nat} {aS : Cap} {cm : List Int} {cG eH cH cI : Sl} {bw : Bool}  : ∀ k, bi.S13 H0 Ri R0 ay aj aA ap aq ao au av aH aw aR aF az aS cm cG eH cH cI bw (bi.l13 F (aC.tw F)  k) (bi.pl13 F  k) := by
 intro k
 induction k with
 | zero =>
  intro dE ef H jZ h0 r hp
  exact nomatch (show (none : Option (Bool)) = some r from hp)
 | succ k ih =>
  intro dE ef H jZ h0 r hp
  obtain ⟨w0, s0, jI⟩ := h0
  subst jZ
  unfold bi.pl13 at hp
  unfold bi.l13
  refine bind_ex (ldI_of (w0.ld (i := 0) rfl rfl)) ?_
  refine bif_ex (fun hb => ?_) (fun hb => ?_)
  ·replace hp := bif_t hb hp
   refine bind_ex (ldI_of (w0.ld (i := 0) rfl rfl)) ?_
   refine bind_ex (ldI_of (w0.ld (i := 0) rfl rfl)) ?_
   refine bind_ex (ldSl_of (w0.ld (i := 0) rfl rfl)) ?_
   obtain ⟨r1, e1, hp⟩ := bind_some' hp
   refine call_ex (aC.P rfl ⟨w0, jI⟩ e1) ?_
   rintro _ H2 ⟨rfl, w2, s2, _⟩
   refine bind_ex rfl ?_
   refine bif_ex (fun hb => ?_) (fun hb => ?_)
   ·replace hp := bif_t hb hp
    obtain rfl := Option.some.inj hp
    exact ⟨_, _, rfl, rfl, w2, (s0.trans s2), trivial⟩
   ·replace hp := bif_f hb hp
    exact ih rfl ⟨w2, (s0.trans s2), (jI.step s2)⟩ hp
  ·replace hp := bif_f hb hp
   exact bi.j1_P rfl ⟨w0, s0, jI⟩ hp
def bi.p (F : Nat) (bj : Int) (aX : Int) (dB : List Int) (ae : Int) : Option (Bool) := bi.pl13 F F bj aX dB ae (IntKind.i64.wrap (ae + 1))
theorem bi.P {F : Nat} {bj aX bl bb aY aT bc bf bv bg ae : Int} {cP : ON} {bL aa : Nat} {cQ : Cap} {dB : List Int} {c_ eD da db : Sl} {ax : Bool} {H : Hp} {R0 : List Rs} (jD : bL = dB.length) (h0 : Inn H (Rs.blk aa [.int .i64 bj, .int .i64 aX, .sl ⟨cP, bL, cQ⟩, .int .i64 bl, .int .i64 bb, .sl c_, .int .i64 aY, .int .i64 aT, .sl eD, .int .i64 bc, .int .i64 bf, .sl da, .int .i64 bv, .int .i64 bg, .sl db, .bool ax] :: R0) fun R => ROs (eInt .i64) H R ⟨cP, bL, cQ⟩ dB) {r : Bool} (hp : bi.p F bj aX dB ae = some r) : ∃ v H', bi.tw F aa 0 ae H = some (v, H') ∧ bi.Q H (Rs.blk aa [.int .i64 bj, .int .i64 aX, .sl ⟨cP, bL, cQ⟩, .int .i64 bl, .int .i64 bb, .sl c_, .int .i64 aY, .int .i64 aT, .sl eD, .int .i64 bc, .int .i64 bf, .sl da, .int .i64 bv, .int .i64 bg, .sl db, .bool ax] :: R0) R0 bj aX bl bb aY aT bc bf bv bg cP bL aa cQ dB c_ eD da db ax r v H' := by
 obtain ⟨w0, iR⟩ := h0
 subst jD
 unfold bi.p at hp
 unfold bi.tw bi.twX
 have s0 := w0.rf
 exact bi.l13_P F rfl ⟨w0, s0, iR⟩ hp
def aU.Q (H0 : Hp) (Ri R0 : List Rs) (bj aX bl bb aY aT bc bf bv bg : Int) (cP : ON) (bL aa : Nat) (cQ : Cap) (dB : List Int) (c_ eD da db : Sl) (ax : Bool) (r : Int) (v : AV) (H' : Hp) : Prop := v = (.int .i64 r) ∧ Out H0 Ri H' (Rs.blk aa [.int .i64 bj, .int .i64 aX, .sl ⟨cP, bL, cQ⟩, .int .i64 bl, .int .i64 bb, .sl c_, .int .i64 aY, .int .i64 aT, .sl eD, .int .i64 bc, .int .i64 bf, .sl da, .int .i64 bv, .int .i64 bg, .sl db, .bool ax] :: R0) fun R => True
def aU.S13 (H0 : Hp) (Ri R0 : List Rs) (ay aj aA ap aq ao au av aH aw : Int) (aR : ON) (aF az : Nat) (aS : Cap) (cm : List Int) (cG eH cH cI : Sl) (bw : Bool) (C : Nat → Nat → Int → Int → Hp → OA) (pC : Int → Int → List Int → Int → Int → Option (Int)) : Prop := ∀ {dE ef : Int}, ∀ {H : Hp}, aF = cm.length → (Out H0 Ri H (Rs.blk az [.int .i64 ay, .int .i64 aj, .sl ⟨aR, aF, aS⟩, .int .i64 aA, .int .i64 ap, .sl cG, .int .i64 aq, .int .i64 ao, .sl eH, .int .i64 au, .int .i64 av, .sl cH, .int .i64 aH, .int .i64 aw, .sl cI, .bool bw] :: R0) fun R => ROs (eInt .i64) H R ⟨aR, aF, aS⟩ cm) → ∀ {r : Int}, pC ay aj cm dE ef = some r → ∃ v H', C az 0 dE ef H = some (v, H') ∧ aU.Q H0 Ri R0 ay aj aA ap aq ao au av aH aw aR aF az aS cm cG eH cH cI bw r v H'
def aU.S213 (H0 : Hp) (Ri R0 : List Rs) (ay aj aA ap aq ao au av aH aw : Int) (aR : ON) (aF az : Nat) (aS : Cap) (cm : List Int) (cG eH cH cI : Sl) (bw : Bool) (C : Nat → Nat → Int → Int → Int → Hp → OA) (pC : Int → Int → List Int → Int → Int → Int → Option (Int)) : Prop := ∀ {hD hU je : Int}, ∀ {H : Hp}, aF = cm.length → (Out H0 Ri H (Rs.blk az [.int .i64 ay, .int .i64 aj, .sl ⟨aR, aF, aS⟩, .int .i64 aA, .int .i64 ap, .sl cG, .int .i64 aq, .int .i64 ao, .sl eH, .int .i64 au, .int .i64 av, .sl cH, .int .i64 aH, .int .i64 aw, .sl cI, .bool bw] :: R0) fun R => ROs (eInt .i64) H R ⟨aR, aF, aS⟩ cm) → ∀ {r : Int}, pC ay aj cm hD hU je = some r → ∃ v H', C az 0 hD hU je H = some (v, H') ∧ aU.Q H0 Ri R0 ay aj aA ap aq ao au av aH aw aR aF az aS cm cG eH cH cI bw r v H'
def aU.pj3 (F : Nat) (jp : Int → Int → List Int → Int → Int → Option (Int)) (ay : Int) (aj : Int) (cm : List Int) (nV : Int) (nW : Int) : Option (Int) := jp ay aj cm nV (IntKind.i64.wrap (nW + 1))
theorem aU.j3_P {F : Nat} {H0 : Hp} {Ri R0 : List Rs} {ay aj aA ap aq ao au av aH aw : Int} {aR : ON} {aF az : Nat} {aS : Cap} {cm : List Int} {cG eH cH cI : Sl} {bw : Bool} {C13_ : Nat → Nat → Int → Int → Hp → OA} {jp : Int → Int → List Int → Int → Int → Option (Int)} (hC13 : aU.S13 H0 Ri R0 ay aj aA ap aq ao au av aH aw aR aF az aS cm cG eH cH cI bw C13_ jp) {nV nW : Int} {H : Hp} (jZ : aF = cm.length) (h0 : Out H0 Ri H (Rs.blk az [.int .i64 ay, .int .i64 aj, .sl ⟨aR, aF, aS⟩, .int .i64 aA, .int .i64 ap, .sl cG, .int .i64 aq, .int .i64 ao, .sl eH, .int .i64 au, .int .i64 av, .sl cH, .int .i64 aH, .int .i64 aw, .sl cI, .bool bw] :: R0) fun R => ROs (eInt .i64) H R ⟨aR, aF, aS⟩ cm) {r : Int} (hp : aU.pj3 F jp ay aj cm nV nW = some r) : ∃ v H', aU.j3 F (aC.tw F) C13_ az 0 nV nW H = some (v, H') ∧ aU.Q H0 Ri R0 ay aj aA ap aq ao au av aH aw aR aF az aS cm cG eH cH cI bw r v H' := by
 obtain ⟨w0, s0, jI⟩ := h0
 subst jZ
 unfold aU.pj3 at hp
 unfold aU.j3
 exact hC13 rfl ⟨w0, s0, jI⟩ hp
def aU.pj4 (F : Nat) (jp : Int → Int → List Int → Int → Int → Option (Int)) (ay : Int) (aj : Int) (cm : List Int) (nX : Int) (mI : Int) : Option (Int) := aU.pj3 F jp ay aj cm nX mI
theorem aU.j4_P {F : Nat} {H0 : Hp} {Ri R0 : List Rs} {ay aj aA ap aq ao au av aH aw : Int} {aR : ON} {aF az : Nat} {aS : Cap} {cm : List Int} {cG eH cH cI : Sl} {bw : Bool} {C13_ : Nat → Nat → Int → Int → Hp → OA} {jp : Int → Int → List Int → Int → Int → Option (Int)} (hC13 : aU.S13 H0 Ri R0 ay aj aA ap aq ao au av aH aw aR aF az aS cm cG eH cH cI bw C13_ jp) {nX mI : Int} {H : Hp} (jZ : aF = cm.length) (h0 : Out H0 Ri H (Rs.blk az [.int .i64 ay, .int .i64 aj, .sl ⟨aR, aF, aS⟩, .int .i64 aA, .int .i64 ap, .sl cG, .int .i64 aq, .int .i64 ao, .sl eH, .int .i64 au, .int .i64 av, .sl cH, .int .i64 aH, .int .i64 aw, .sl cI, .bool bw] :: R0) fun R => ROs (eInt .i64) H R ⟨aR, aF, aS⟩ cm) {r : Int} (hp : aU.pj4 F jp ay aj cm nX mI = some r) : ∃ v H', aU.j4 F (aC.tw F) C13_ az 0 nX mI H = some (v, H') ∧ aU.Q H0 Ri R0 ay aj aA ap aq ao au av aH aw aR aF az aS cm cG eH cH cI bw r v H' := by
 obtain ⟨w0, s0, jI⟩ := h0
 subst jZ
 unfold aU.pj4 at hp
 unfold aU.j4
 exact aU.j3_P (@hC13) rfl ⟨w0, s0, jI⟩ hp
def aU.pl213 (F : Nat) (jp : Int → Int → List Int → Int → Int → Option (Int)) : Nat → Int → Int → List Int → Int → Int → Int → Option (Int)
 | 0, _, _, _, _, _, _ => none
 | k + 1, ay, aj, cm, hD, hU, je => (bif (decide (je < aj)) then ((aC.p F aj cm hU je).bind fun r1 => (aC.p F aj cm hD hD).bind fun r4 => (if r4 = 0 then none else ((bif ((Int.tmod r1 r4) != 0) then (some hU) else (aU.pl213 F jp k ay aj cm hD hU (IntKind.i64.wrap (je + 1))))))) else (aU.pj4 F jp ay aj cm hD hU))
termination_by structural n => n
theorem aU.l213_P {F : Nat} {H0 : Hp} {Ri R0 : List Rs} {ay aj aA ap aq ao au av aH aw : Int} {aR : ON} {aF az : Nat} {aS : Cap} {cm : List Int} {cG eH cH cI : Sl} {bw : Bool} {C13_ : Nat → Nat → Int → Int → Hp → OA} {jp : Int → Int → List Int → Int → Int → Option (Int)} (hC13 : aU.S13 H0 Ri R0 ay aj aA ap aq ao au av aH aw aR aF az aS cm cG eH cH cI bw C13_ jp) : ∀ k, aU.S213 H0 Ri R0 ay aj aA ap aq ao au av aH aw aR aF az aS cm cG eH cH cI bw (aU.l213 F (aC.tw F) C13_ k) (aU.pl213 F jp k) := by
 intro k
 induction k with
 | zero =>
  intro hD hU je H jZ h0 r hp
  exact nomatch (show (none : Option (Int)) = some r from hp)
 | succ k ih =>
  intro hD hU je H jZ h0 r hp
  obtain ⟨w0, s0, jI⟩ := h0
  subst jZ
  unfold aU.pl213 at hp
  unfold aU.l213
  refine bind_ex (ldI_of (w0.ld (i := 0) rfl rfl)) ?_
  refine bif_ex (fun hb => ?_) (fun hb => ?_)
  ·replace hp := bif_t hb hp
   refine bind_ex (ldI_of (w0.ld (i := 0) rfl rfl)) ?_
   refine bind_ex (ldI_of (w0.ld (i := 0) rfl rfl)) ?_
   refine bind_ex (ldSl_of (w0.ld (i := 0) rfl rfl)) ?_
   obtain ⟨r1, e1, hp⟩ := bind_some' hp
   refine call_ex (aC.P rfl ⟨w0, jI⟩ e1) ?_
   rintro _ H2 ⟨rfl, w2, s2, _⟩
   refine bind_ex rfl ?_
   refine ifs_ex (W.cons_of (Rn := []) w0 w2 s2) ?_
   refine bind_ex (ldI_of (w2.ld (i := 0) rfl rfl)) ?_
   refine bind_ex (ldI_of (w2.ld (i := 0) rfl rfl)) ?_
   refine bind_ex (ldSl_of (w2.ld (i := 0) rfl rfl)) ?_
   obtain ⟨r4, e4, hp⟩ := bind_some' hp
   refine call_ex (aC.P rfl ⟨w2, (jI.step s2)⟩ e4) ?_
   rintro _ H5 ⟨rfl, w5, s5, _⟩
   refine bind_ex rfl ?_
   obtain ⟨g6, hp⟩ := ifn_p hp
   refine ifn_ex g6 ?_
   refine bif_ex (fun hb => ?_) (fun hb => ?_)
   ·replace hp := bif_t hb hp
    obtain rfl := Option.some.inj hp
    exact ⟨_, _, rfl, rfl, w5, (s0.trans (s2.trans s5)), trivial⟩
   ·replace hp := bif_f hb hp
    exact ih rfl ⟨w5, (s0.trans (s2.trans s5)), (jI.step (s2.trans s5))⟩ hp
  ·replace hp := bif_f hb hp
   exact aU.j4_P (@hC13) rfl ⟨w0, s0, jI⟩ hp
def aU.pl13 (F : Nat)  : Nat → Int → Int → List Int → Int → Int → Option (Int)
 | 0, _, _, _, _, _ => none
 | k + 1, ay, aj, cm, dE, ef => (bif (decide (ef < ay)) then (aU.pl213 F (aU.pl13 F k) F ay aj cm dE ef (IntKind.i64.wrap (dE + 1))) else (some (-1)))
termination_by structural n => n
theorem aU.l13_P {F : Nat} {H0 : Hp} {Ri R0 : List Rs} {ay aj aA ap aq ao au av aH aw : Int} {aR : ON} {aF az : Nat} {aS : Cap} {cm : List Int} {cG eH cH cI : Sl} {bw : Bool}  : ∀ k, aU.S13 H0 Ri R0 ay aj aA ap aq ao au av aH aw aR aF az aS cm cG eH cH cI bw (aU.l13 F (aC.tw F)  k) (aU.pl13 F  k) := by
 intro k
 induction k with
 | zero =>
  intro dE ef H jZ h0 r hp
  exact nomatch (show (none : Option (Int)) = some r from hp)
 | succ k ih =>
  intro dE ef H jZ h0 r hp
  obtain ⟨w0, s0, jI⟩ := h0
  subst jZ
  unfold aU.pl13 at hp
  unfold aU.l13
  refine bind_ex (ldI_of (w0.ld (i := 0) rfl rfl)) ?_
  refine bif_ex (fun hb => ?_) (fun hb => ?_)
  ·replace hp := bif_t hb hp
   exact aU.l213_P (@ih) F rfl ⟨w0, s0, jI⟩ hp
  ·replace hp := bif_f hb hp
   obtain rfl := Option.some.inj hp
   exact ⟨_, _, rfl, rfl, w0, s0, trivial⟩
def aU.p (F : Nat) (bj : Int) (aX : Int) (dB : List Int) (ae : Int) : Option (Int) := aU.pl13 F F bj aX dB ae (IntKind.i64.wrap (ae + 1))
theorem aU.P {F : Nat} {bj aX bl bb aY aT bc bf bv bg ae : Int} {cP : ON} {bL aa : Nat} {cQ : Cap} {dB : List Int} {c_ eD da db : Sl} {ax : Bool} {H : Hp} {R0 : List Rs} (jD : bL = dB.length) (h0 : Inn H (Rs.blk aa [.int .i64 bj, .int .i64 aX, .sl ⟨cP, bL, cQ⟩, .int .i64 bl, .int .i64 bb, .sl c_, .int .i64 aY, .int .i64 aT, .sl eD, .int .i64 bc, .int .i64 bf, .sl da, .int .i64 bv, .int .i64 bg, .sl db, .bool ax] :: R0) fun R => ROs (eInt .i64) H R ⟨cP, bL, cQ⟩ dB) {r : Int} (hp : aU.p F bj aX dB ae = some r) : ∃ v H', aU.tw F aa 0 ae H = some (v, H') ∧ aU.Q H (Rs.blk aa [.int .i64 bj, .int .i64 aX, .sl ⟨cP, bL, cQ⟩, .int .i64 bl, .int .i64 bb, .sl c_, .int .i64 aY, .int .i64 aT, .sl eD, .int .i64 bc, .int .i64 bf, .sl da, .int .i64 bv, .int .i64 bg, .sl db, .bool ax] :: R0) R0 bj aX bl bb aY aT bc bf bv bg cP bL aa cQ dB c_ eD da db ax r v H' := by
 obtain ⟨w0, iR⟩ := h0
 subst jD
 unfold aU.p at hp
 unfold aU.tw aU.twX
 have s0 := w0.rf
 exact aU.l13_P F rfl ⟨w0, s0, iR⟩ hp
def aP.Q (H0 : Hp) (Ri R0 : List Rs) (bj aX bl bb aY aT bc bf bv bg : Int) (cP dX cp dY dZ : ON) (bL dc bA dd de aa : Nat) (cQ d_ cq ea eb : Cap) (eQ fw eR fx fy : Bool) (eS eT fz fA eU eV fB fC fD fE : List AV) (r : Bool × Bool × List Int × List Int × List Int × List Int × List Int × Bool) (v : AV) (H' : Hp) : Prop := ∃ ib : List AV, ∃ jl : List AV, ∃ ic : List AV, ∃ jm : List AV, ∃ jn : List AV, v = (.tup [(.bool r.1), (.bool r.2.1)]) ∧ bL = (r.2.2.1).length ∧ dc = (r.2.2.2.1).length ∧ bA = (r.2.2.2.2.1).length ∧ dd = (r.2.2.2.2.2.1).length ∧ de = (r.2.2.2.2.2.2.1).length ∧ Out H0 Ri H' (Rs.ow eQ ⟨cP, bL, cQ⟩ (eInt .i64).z eS ib eT :: Rs.ow fw ⟨dX, dc, d_⟩ (eInt .i64).z fz jl fA :: Rs.ow eR ⟨cp, bA, cq⟩ (eInt .i64).z eU ic eV :: Rs.ow fx ⟨dY, dd, ea⟩ (eInt .i64).z fB jm fC :: Rs.ow fy ⟨dZ, de, eb⟩ (eInt .i64).z fD jn fE :: Rs.blk aa [.int .i64 bj, .int .i64 aX, .sl ⟨cP, bL, cQ⟩, .int .i64 bl, .int .i64 bb, .sl ⟨dX, dc, d_⟩, .int .i64 aY, .int .i64 aT, .sl ⟨cp, bA, cq⟩, .int .i64 bc, .int .i64 bf, .sl ⟨dY, dd, ea⟩, .int .i64 bv, .int .i64 bg, .sl ⟨dZ, de, eb⟩, .bool (r.2.2.2.2.2.2.2)] :: R0) fun R => CR (eInt .i64) H' R ib (r.2.2.1) ∧ CR (eInt .i64) H' R jl (r.2.2.2.1) ∧ CR (eInt .i64) H' R ic (r.2.2.2.2.1) ∧ CR (eInt .i64) H' R jm (r.2.2.2.2.2.1) ∧ CR (eInt .i64) H' R jn (r.2.2.2.2.2.2.1)
def aP.S29 (H0 : Hp) (Ri R0 : List Rs) (ay aj aA ap aq ao au av aH aw : Int) (aR bn aM bo bp : ON) (aF aZ aB a_ ba az : Nat) (aS br aN bs bt : Cap) (bS bT bU bV bW : Bool) (bX bY bZ b_ ca cb cc cd ce cf : List AV) (C : Nat → Nat → Int → Int → Hp → OA) (pC : Int → Int → List Int → Int → List Int → Int → Int → List Int → Int → Int → List Int → Int → List Int → Bool → Int → Int → Option (Bool × Bool × List Int × List Int × List Int × List Int × List Int × Bool)) : Prop := ∀ {aD aG aE aK aL : List Int} {cB cC cD cE cF : List AV} {ax : Bool} {gp iC : Int}, ∀ {H : Hp}, aF = aD.length → aZ = aG.length → aB = aE.length → a_ = aK.length → ba = aL.length → (Out H0 Ri H (Rs.ow bS ⟨aR, aF, aS⟩ (eInt .i64).z bX cB bY :: Rs.ow bT ⟨bn, aZ, br⟩ (eInt .i64).z bZ cC b_ :: Rs.ow bU ⟨aM, aB, aN⟩ (eInt .i64).z ca cD cb :: Rs.ow bV ⟨bo, a_, bs⟩ (eInt .i64).z cc cE cd :: Rs.ow bW ⟨bp, ba, bt⟩ (eInt .i64).z ce cF cf :: Rs.blk az [.int .i64 ay, .int .i64 aj, .sl ⟨aR, aF, aS⟩, .int .i64 aA, .int .i64 ap, .sl ⟨bn, aZ, br⟩, .int .i64 aq, .int .i64 ao, .sl ⟨aM, aB, aN⟩, .int .i64 au, .int .i64 av, .sl ⟨bo, a_, bs⟩, .int .i64 aH, .int .i64 aw, .sl ⟨bp, ba, bt⟩, .bool ax] :: R0) fun R => CR (eInt .i64) H R cB aD ∧ CR (eInt .i64) H R cC aG ∧ CR (eInt .i64) H R cD aE ∧ CR (eInt .i64) H R cE aK ∧ CR (eInt .i64) H R cF aL) → ∀ {r : Bool × Bool × List Int × List Int × List Int × List Int × List Int × Bool}, pC ay aj aD ap aG aq ao aE au av aK aw aL ax gp iC = some r → ∃ v H', C az 0 gp iC H = some (v, H') ∧ aP.Q H0 Ri R0 ay aj aA ap aq ao au av aH aw aR bn aM bo bp aF aZ aB a_ ba az aS br aN bs bt bS bT bU bV bW bX bY bZ b_ ca cb cc cd ce cf r v H'
def aP.S61 (H0 : Hp) (Ri R0 : List Rs) (ay aj aA ap aq ao au av aH aw : Int) (aR bn aM bo bp : ON) (aF aZ aB a_ ba az : Nat) (aS br aN bs bt : Cap) (bS bT bU bV bW : Bool) (bX bY bZ b_ ca cb cc cd ce cf : List AV) (C : Nat → Nat → Int → Int → Hp → OA) (pC : Int → Int → List Int → Int → List Int → Int → Int → List Int → Int → Int → List Int → Int → List Int → Bool → Int → Int → Option (Bool × Bool × List Int × List Int × List Int × List Int × List Int × Bool)) : Prop := ∀ {aD aG aE aK aL : List Int} {cB cC cD cE cF : List AV} {ax : Bool} {gn iA : Int}, ∀ {H : Hp}, aF = aD.length → aZ = aG.length → aB = aE.length → a_ = aK.length → ba = aL.length → (Out H0 Ri H (Rs.ow bS ⟨aR, aF, aS⟩ (eInt .i64).z bX cB bY :: Rs.ow bT ⟨bn, aZ, br⟩ (eInt .i64).z bZ cC b_ :: Rs.ow bU ⟨aM, aB, aN⟩ (eInt .i64).z ca cD cb :: Rs.ow bV ⟨bo, a_, bs⟩ (eInt .i64).z cc cE cd :: Rs.ow bW ⟨bp, ba, bt⟩ (eInt .i64).z ce cF cf :: Rs.blk az [.int .i64 ay, .int .i64 aj, .sl ⟨aR, aF, aS⟩, .int .i64 aA, .int .i64 ap, .sl ⟨bn, aZ, br⟩, .int .i64 aq, .int .i64 ao, .sl ⟨aM, aB, aN⟩, .int .i64 au, .int .i64 av, .sl ⟨bo, a_, bs⟩, .int .i64 aH, .int .i64 aw, .sl ⟨bp, ba, bt⟩, .bool ax] :: R0) fun R => CR (eInt .i64) H R cB aD ∧ CR (eInt .i64) H R cC aG ∧ CR (eInt .i64) H R cD aE ∧ CR (eInt .i64) H R cE aK ∧ CR (eInt .i64) H R cF aL) → ∀ {r : Bool × Bool × List Int × List Int × List Int × List Int × List Int × Bool}, pC ay aj aD ap aG aq ao aE au av aK aw aL ax gn iA = some r → ∃ v H', C az 0 gn iA H = some (v, H') ∧ aP.Q H0 Ri R0 ay aj aA ap aq ao au av aH aw aR bn aM bo bp aF aZ aB a_ ba az aS br aN bs bt bS bT bU bV bW bX bY bZ b_ ca cb cc cd ce cf r v H'
def aP.pj1 (F : Nat)  (ay : Int) (aj : Int) (aD : List Int) (ap : Int) (aG : List Int) (aq : Int) (ao : Int) (aE : List Int) (aK : List Int) (aL : List Int) (ax : Bool) (lK : Int) : Option (Bool × Bool × List Int × List Int × List Int × List Int × List Int × Bool) := (bif ax then (some (false, false, aD, aG, aE, aK, aL, ax)) else ((bi.p F ay aj aD lK).bind fun r3 => (bif (!r3) then (some (false, false, aD, aG, aE, aK, aL, ax)) else ((aU.p F ay aj aD lK).bind fun r8 => (bif (decide (r8 < 0)) then (some (true, false, aD, aG, aE, aK, aL, ax)) else ((dt.p F aj aD ap aG aq ao aE ax lK r8 (-1)).bind fun r13 => some (false, false, r13.1, r13.2.1, r13.2.2.1, aK, aL, r13.2.2.2)))))))
theorem aP.j1_P {F : Nat} {H0 : Hp} {Ri R0 : List Rs} {ay aj aA ap aq ao au av aH aw : Int} {aR bn aM bo bp : ON} {aF aZ aB a_ ba az : Nat} {aS br aN bs bt : Cap} {bS bT bU bV bW : Bool} {bX bY bZ b_ ca cb cc cd ce cf : List AV}  {aD aG aE aK aL : List Int} {cB cC cD cE cF : List AV} {ax : Bool} {lK : Int} {H : Hp} (ei : aF = aD.length) (ek : aZ = aG.length) (el : aB = aE.length) (em : a_ = aK.length) (en : ba = aL.length) (h0 : Out H0 Ri H (Rs.ow bS ⟨aR, aF, aS⟩ (eInt .i64).z bX cB bY :: Rs.ow bT ⟨bn, aZ, br⟩ (eInt .i64).z bZ cC b_ :: Rs.ow bU ⟨aM, aB, aN⟩ (eInt .i64).z ca cD cb :: Rs.ow bV ⟨bo, a_, bs⟩ (eInt .i64).z cc cE cd :: Rs.ow bW ⟨bp, ba, bt⟩ (eInt .i64).z ce cF cf :: Rs.blk az [.int .i64 ay, .int .i64 aj, .sl ⟨aR, aF, aS⟩, .int .i64 aA, .int .i64 ap, .sl ⟨bn, aZ, br⟩, .int .i64 aq, .int .i64 ao, .sl ⟨aM, aB, aN⟩, .int .i64 au, .int .i64 av, .sl ⟨bo, a_, bs⟩, .int .i64 aH, .int .i64 aw, .sl ⟨bp, ba, bt⟩, .bool ax] :: R0) fun R => CR (eInt .i64) H R cB aD ∧ CR (eInt .i64) H R cC aG ∧ CR (eInt .i64) H R cD aE ∧ CR (eInt .i64) H R cE aK ∧ CR (eInt .i64) H R cF aL) {r : Bool × Bool × List Int × List Int × List Int × List Int × List Int × Bool} (hp : aP.pj1 F  ay aj aD ap aG aq ao aE aK aL ax lK = some r) : ∃ v H', aP.j1 F (ar.tw F) (aC.tw F) (dx.tw F) (dt.tw F) (dy.tw F) (bi.tw F) (aU.tw F)  az 0 lK H = some (v, H') ∧ aP.Q H0 Ri R0 ay aj aA ap aq ao au av aH aw aR bn aM bo bp aF aZ aB a_ ba az aS br aN bs bt bS bT bU bV bW bX bY bZ b_ ca cb cc cd ce cf r v H' := by
 obtain ⟨w0, s0, cT, di, cZ, dq, dr⟩ := h0
 subst ei
 subst ek
 subst el
 subst em
 subst en
 unfold aP.pj1 at hp
 unfold aP.j1
 refine bind_ex (ldB_of (w0.ld (i := 5) rfl rfl)) ?_
 refine bif_ex (fun hb => ?_) (fun hb => ?_)
 ·replace hp := bif_t hb hp
  obtain rfl := Option.some.inj hp
  exact ⟨_, _, rfl, _, _, _, _, _, rfl, rfl, rfl, rfl, rfl, rfl, w0, s0, cT, di, cZ, dq, dr⟩
 ·replace hp := bif_f hb hp
  obtain ⟨w1, s1⟩ := w0.pick' [0, 5, 1, 2, 3, 4] 6 rfl rfl rfl
  dsimp only [pk, pks, nth, List.drop] at w1 s1
  have f2 := W.borrow1 (eInt .i64) w1 (cT.step s1)
  obtain ⟨w2, s2⟩ := w1.right1
  obtain ⟨r3, e3, hp⟩ := bind_some' hp
  refine call_ex (bi.P rfl ⟨w2, f2⟩ e3) ?_
  rintro _ H4 ⟨rfl, w4, s4, _⟩
  obtain ⟨w5, s5⟩ := W.frame1 w1 w4 s4
  refine bind_ex rfl ?_
  refine bif_ex (fun hb => ?_) (fun hb => ?_)
  ·replace hp := bif_t hb hp
   obtain ⟨w6, s6⟩ := w5.pick' [0, 2, 3, 4, 5, 1] 6 rfl rfl rfl
   dsimp only [pk, pks, nth, List.drop] at w6 s6
   obtain rfl := Option.some.inj hp
   exact ⟨_, _, rfl, _, _, _, _, _, rfl, rfl, rfl, rfl, rfl, rfl, w6, (s0.trans (s1.trans (s5.trans s6))), (cT.step (s1.trans (s5.trans s6))), (di.step (s1.trans (s5.trans s6))), (cZ.step (s1.trans (s5.trans s6))), (dq.step (s1.trans (s5.trans s6))), (dr.step (s1.trans (s5.trans s6)))⟩
  ·replace hp := bif_f hb hp
   have f7 := W.borrow1 (eInt .i64) w5 (cT.step (s1.trans s5))
   obtain ⟨w7, s7⟩ := w5.right1
   obtain ⟨r8, e8, hp⟩ := bind_some' hp
   refine call_ex (aU.P rfl ⟨w7, f7⟩ e8) ?_
   rintro _ H9 ⟨rfl, w9, s9, _⟩
   obtain ⟨w10, s10⟩ := W.frame1 w5 w9 s9
   refine bind_ex rfl ?_
   refine bif_ex (fun hb => ?_) (fun hb => ?_)
   ·replace hp := bif_t hb hp
    obtain ⟨w11, s11⟩ := w10.pick' [0, 2, 3, 4, 5, 1] 6 rfl rfl rfl
    dsimp only [pk, pks, nth, List.drop] at w11 s11
    obtain rfl := Option.some.inj hp
    exact ⟨_, _, rfl, _, _, _, _, _, rfl, rfl, rfl, rfl, rfl, rfl, w11, (s0.trans (s1.trans (s5.trans (s10.trans s11)))), (cT.step (s1.trans (s5.trans (s10.trans s11)))), (di.step (s1.trans (s5.trans (s10.trans s11)))), (cZ.step (s1.trans (s5.trans (s10.trans s11)))), (dq.step (s1.trans (s5.trans (s10.trans s11)))), (dr.step (s1.trans (s5.trans (s10.trans s11))))⟩
   ·replace hp := bif_f hb hp
    obtain ⟨w12, s12⟩ := w10.pick' [0, 2, 3, 1, 4, 5] 6 rfl rfl rfl
    dsimp only [pk, pks, nth, List.drop] at w12 s12
    obtain ⟨r13, e13, hp⟩ := bind_some' hp
    refine call_ex (dt.P rfl rfl rfl ⟨w12, (cT.step (s1.trans (s5.trans (s10.trans s12)))), (di.step (s1.trans (s5.trans (s10.trans s12)))), (cZ.step (s1.trans (s5.trans (s10.trans s12))))⟩ e13) ?_
    rintro _ H14 ⟨vq, zK, zL, rfl, hl14_0, hl14_1, hl14_2, w14, s14, f14_0, f14_1, f14_2⟩
    obtain ⟨w15, s15⟩ := w14.pick' [0, 1, 2, 4, 5, 3] 6 rfl rfl rfl
    dsimp only [pk, pks, nth, List.drop] at w15 s15
    obtain rfl := Option.some.inj hp
    exact ⟨_, _, rfl, _, _, _, _, _, rfl, hl14_0, hl14_1, hl14_2, rfl, rfl, w15, (s0.trans (s1.trans (s5.trans (s10.trans (s12.trans (s14.trans s15)))))), (f14_0.step s15), (f14_1.step s15), (f14_2.step s15), (dq.step (s1.trans (s5.trans (s10.trans (s12.trans (s14.trans s15)))))), (dr.step (s1.trans (s5.trans (s10.trans (s12.trans (s14.trans s15))))))⟩
def aP.pl61 (F : Nat)  : Nat → Int → Int → List Int → Int → List Int → Int → Int → List Int → Int → Int → List Int → Int → List Int → Bool → Int → Int → Option (Bool × Bool × List Int × List Int × List Int × List Int × List Int × Bool)
 | 0, _, _, _, _, _, _, _, _, _, _, _, _, _, _, _, _ => none
 | k + 1, ay, aj, aD, ap, aG, aq, ao, aE, au, av, aK, aw, aL, ax, gn, iA => (bif (decide (iA < aj)) then ((bif (!ax) then ((aC.p F aj aD gn iA).bind fun r2 => (aC.p F aj aD gn gn).bind fun r7 => (dx.p F r2 r7).bind fun r10 => (dy.p F ay aj aD au av aK aw aL ax iA gn r10).bind fun r13 => aP.pl61 F k ay aj r13.1 ap aG aq ao aE au av r13.2.1 aw r13.2.2.1 r13.2.2.2 gn (IntKind.i64.wrap (iA + 1))) else (aP.pj1 F ay aj aD ap aG aq ao aE aK aL ax gn))) else (aP.pj1 F ay aj aD ap aG aq ao aE aK aL ax gn))
termination_by structural n => n
theorem aP.l61_P {F : Nat} {H0 : Hp} {Ri R0 : List Rs} {ay aj aA ap aq ao au av aH aw : Int} {aR bn aM bo bp : ON} {aF aZ aB a_ ba az : Nat} {aS br aN bs bt : Cap} {bS bT bU bV bW : Bool} {bX bY bZ b_ ca cb cc cd ce cf : List AV}  : ∀ k, aP.S61 H0 Ri R0 ay aj aA ap aq ao au av aH aw aR bn aM bo bp aF aZ aB a_ ba az aS br aN bs bt bS bT bU bV bW bX bY bZ b_ ca cb cc cd ce cf (aP.l61 F (ar.tw F) (aC.tw F) (dx.tw F) (dt.tw F) (dy.tw F) (bi.tw F) (aU.tw F)  k) (aP.pl61 F  k) := by
 intro k
 induction k with
 | zero =>
  intro aD aG aE aK aL cB cC cD cE cF ax gn iA H ei ek el em en h0 r hp
  exact nomatch (show (none : Option (Bool × Bool × List Int × List Int × List Int × List Int × List Int × Bool)) = some r from hp)
 | succ k ih =>
  intro aD aG aE aK aL cB cC cD cE cF ax gn iA H ei ek el em en h0 r hp
  obtain ⟨w0, s0, cT, di, cZ, dq, dr⟩ := h0
  subst ei
  subst ek
  subst el
  subst em
  subst en
  unfold aP.pl61 at hp
  unfold aP.l61
  refine bind_ex (ldI_of (w0.ld (i := 5) rfl rfl)) ?_
  refine bif_ex (fun hb => ?_) (fun hb => ?_)
  ·replace hp := bif_t hb hp
   refine bind_ex (ldB_of (w0.ld (i := 5) rfl rfl)) ?_
   refine bif_ex (fun hb => ?_) (fun hb => ?_)
   ·replace hp := bif_t hb hp
    refine bind_ex (ldI_of (w0.ld (i := 5) rfl rfl)) ?_
    refine bind_ex (ldI_of (w0.ld (i := 5) rfl rfl)) ?_
    refine bind_ex (ldSl_of (w0.ld (i := 5) rfl rfl)) ?_
    have f1 := W.borrow1 (eInt .i64) w0 cT
    obtain ⟨w1, s1⟩ := w0.right1
    obtain ⟨r2, e2, hp⟩ := bind_some' hp
    refine call_ex (aC.P rfl ⟨w1, f1⟩ e2) ?_
    rintro _ H3 ⟨rfl, w3, s3, _⟩
    obtain ⟨w4, s4⟩ := W.frame1 w0 w3 s3
    refine bind_ex rfl ?_
    refine ifs_ex (W.cons_of (Rn := []) w1 w3 s3) ?_
    refine bind_ex (ldI_of (w4.ld (i := 5) rfl rfl)) ?_
    refine bind_ex (ldI_of (w4.ld (i := 5) rfl rfl)) ?_
    refine bind_ex (ldSl_of (w4.ld (i := 5) rfl rfl)) ?_
    have f6 := W.borrow1 (eInt .i64) w4 (cT.step s4)
    obtain ⟨w6, s6⟩ := w4.right1
    obtain ⟨r7, e7, hp⟩ := bind_some' hp
    refine call_ex (aC.P rfl ⟨w6, f6⟩ e7) ?_
    rintro _ H8 ⟨rfl, w8, s8, _⟩
    obtain ⟨w9, s9⟩ := W.frame1 w4 w8 s8
    refine bind_ex rfl ?_
    obtain ⟨r10, e10, hp⟩ := bind_some' hp
    refine call_ex (dx.P ⟨w9, trivial⟩ e10) ?_
    rintro _ H11 ⟨rfl, w11, s11, _⟩
    refine bind_ex rfl ?_
    obtain ⟨w12, s12⟩ := w11.pick' [0, 3, 4, 5, 1, 2] 6 rfl rfl rfl
    dsimp only [pk, pks, nth, List.drop] at w12 s12
    obtain ⟨r13, e13, hp⟩ := bind_some' hp
    refine call_ex (dy.P rfl rfl rfl ⟨w12, (cT.step (s4.trans (s9.trans (s11.trans s12)))), (dq.step (s4.trans (s9.trans (s11.trans s12)))), (dr.step (s4.trans (s9.trans (s11.trans s12))))⟩ e13) ?_
    rintro _ H14 ⟨vq, BR, BS, rfl, hl14_0, hl14_1, hl14_2, w14, s14, f14_0, f14_1, f14_2⟩
    obtain ⟨w15, s15⟩ := w14.pick' [0, 4, 5, 1, 2, 3] 6 rfl rfl rfl
    dsimp only [pk, pks, nth, List.drop] at w15 s15
    exact ih hl14_0 rfl rfl hl14_1 hl14_2 ⟨w15, (s0.trans (s4.trans (s9.trans (s11.trans (s12.trans (s14.trans s15)))))), (f14_0.step s15), (di.step (s4.trans (s9.trans (s11.trans (s12.trans (s14.trans s15)))))), (cZ.step (s4.trans (s9.trans (s11.trans (s12.trans (s14.trans s15)))))), (f14_1.step s15), (f14_2.step s15)⟩ hp
   ·replace hp := bif_f hb hp
    exact aP.j1_P rfl rfl rfl rfl rfl ⟨w0, s0, cT, di, cZ, dq, dr⟩ hp
  ·replace hp := bif_f hb hp
   exact aP.j1_P rfl rfl rfl rfl rfl ⟨w0, s0, cT, di, cZ, dq, dr⟩ hp
def aP.pj2 (F : Nat)  (ay : Int) (aj : Int) (aD : List Int) (ap : Int) (aG : List Int) (aq : Int) (ao : Int) (aE : List Int) (au : Int) (av : Int) (aK : List Int) (aw : Int) (aL : List Int) (ax : Bool) (mJ : Int) : Option (Bool × Bool × List Int × List Int × List Int × List Int × List Int × Bool) := aP.pl61 F F ay aj aD ap aG aq ao aE au av aK aw aL ax mJ (IntKind.i64.wrap (mJ + 1))
theorem aP.j2_P {F : Nat} {H0 : Hp} {Ri R0 : List Rs} {ay aj aA ap aq ao au av aH aw : Int} {aR bn aM bo bp : ON} {aF aZ aB a_ ba az : Nat} {aS br aN bs bt : Cap} {bS bT bU bV bW : Bool} {bX bY bZ b_ ca cb cc cd ce cf : List AV}  {aD aG aE aK aL : List Int} {cB cC cD cE cF : List AV} {ax : Bool} {mJ : Int} {H : Hp} (ei : aF = aD.length) (ek : aZ = aG.length) (el : aB = aE.length) (em : a_ = aK.length) (en : ba = aL.length) (h0 : Out H0 Ri H (Rs.ow bS ⟨aR, aF, aS⟩ (eInt .i64).z bX cB bY :: Rs.ow bT ⟨bn, aZ, br⟩ (eInt .i64).z bZ cC b_ :: Rs.ow bU ⟨aM, aB, aN⟩ (eInt .i64).z ca cD cb :: Rs.ow bV ⟨bo, a_, bs⟩ (eInt .i64).z cc cE cd :: Rs.ow bW ⟨bp, ba, bt⟩ (eInt .i64).z ce cF cf :: Rs.blk az [.int .i64 ay, .int .i64 aj, .sl ⟨aR, aF, aS⟩, .int .i64 aA, .int .i64 ap, .sl ⟨bn, aZ, br⟩, .int .i64 aq, .int .i64 ao, .sl ⟨aM, aB, aN⟩, .int .i64 au, .int .i64 av, .sl ⟨bo, a_, bs⟩, .int .i64 aH, .int .i64 aw, .sl ⟨bp, ba, bt⟩, .bool ax] :: R0) fun R => CR (eInt .i64) H R cB aD ∧ CR (eInt .i64) H R cC aG ∧ CR (eInt .i64) H R cD aE ∧ CR (eInt .i64) H R cE aK ∧ CR (eInt .i64) H R cF aL) {r : Bool × Bool × List Int × List Int × List Int × List Int × List Int × Bool} (hp : aP.pj2 F  ay aj aD ap aG aq ao aE au av aK aw aL ax mJ = some r) : ∃ v H', aP.j2 F (ar.tw F) (aC.tw F) (dx.tw F) (dt.tw F) (dy.tw F) (bi.tw F) (aU.tw F)  az 0 mJ H = some (v, H') ∧ aP.Q H0 Ri R0 ay aj aA ap aq ao au av aH aw aR bn aM bo bp aF aZ aB a_ ba az aS br aN bs bt bS bT bU bV bW bX bY bZ b_ ca cb cc cd ce cf r v H' := by
 obtain ⟨w0, s0, cT, di, cZ, dq, dr⟩ := h0
 subst ei
 subst ek
 subst el
 subst em
 subst en
 unfold aP.pj2 at hp
 unfold aP.j2
 exact aP.l61_P F rfl rfl rfl rfl rfl ⟨w0, s0, cT, di, cZ, dq, dr⟩ hp
def aP.pl29 (F : Nat)  : Nat → Int → Int → List Int → Int → List Int → Int → Int → List Int → Int → Int → List Int → Int → List Int → Bool → Int → Int → Option (Bool × Bool × List Int × List Int × List Int × List Int × List Int × Bool)
 | 0, _, _, _, _, _, _, _, _, _, _, _, _, _, _, _, _ => none
 | k + 1, ay, aj, aD, ap, aG, aq, ao, aE, au, av, aK, aw, aL, ax, gp, iC => (bif (decide (iC < ay)) then ((bif (!ax) then ((aC.p F aj aD iC gp).bind fun r2 => (aC.p F aj aD gp gp).bind fun r7 => (dx.p F r2 r7).bind fun r10 => (dt.p F aj aD ap aG aq ao aE ax iC gp r10).bind fun r13 => aP.pl29 F k ay aj r13.1 ap r13.2.1 aq ao r13.2.2.1 au av aK aw aL r13.2.2.2 gp (IntKind.i64.wrap (iC + 1))) else (aP.pj2 F ay aj aD ap aG aq ao aE au av aK aw aL ax gp))) else (aP.pj2 F ay aj aD ap aG aq ao aE au av aK aw aL ax gp))
termination_by structural n => n
theorem aP.l29_P {F : Nat} {H0 : Hp} {Ri R0 : List Rs} {ay aj aA ap aq ao au av aH aw : Int} {aR bn aM bo bp : ON} {aF aZ aB a_ ba az : Nat} {aS br aN bs bt : Cap} {bS bT bU bV bW : Bool} {bX bY bZ b_ ca cb cc cd ce cf : List AV}  : ∀ k, aP.S29 H0 Ri R0 ay aj aA ap aq ao au av aH aw aR bn aM bo bp aF aZ aB a_ ba az aS br aN bs bt bS bT bU bV bW bX bY bZ b_ ca cb cc cd ce cf (aP.l29 F (ar.tw F) (aC.tw F) (dx.tw F) (dt.tw F) (dy.tw F) (bi.tw F) (aU.tw F)  k) (aP.pl29 F  k) := by
 intro k
 induction k with
 | zero =>
  intro aD aG aE aK aL cB cC cD cE cF ax gp iC H ei ek el em en h0 r hp
  exact nomatch (show (none : Option (Bool × Bool × List Int × List Int × List Int × List Int × List Int × Bool)) = some r from hp)
 | succ k ih =>
  intro aD aG aE aK aL cB cC cD cE cF ax gp iC H ei ek el em en h0 r hp
  obtain ⟨w0, s0, cT, di, cZ, dq, dr⟩ := h0
  subst ei
  subst ek
  subst el
  subst em
  subst en
  unfold aP.pl29 at hp
  unfold aP.l29
  refine bind_ex (ldI_of (w0.ld (i := 5) rfl rfl)) ?_
  refine bif_ex (fun hb => ?_) (fun hb => ?_)
  ·replace hp := bif_t hb hp
   refine bind_ex (ldB_of (w0.ld (i := 5) rfl rfl)) ?_
   refine bif_ex (fun hb => ?_) (fun hb => ?_)
   ·replace hp := bif_t hb hp
    refine bind_ex (ldI_of (w0.ld (i := 5) rfl rfl)) ?_
    refine bind_ex (ldI_of (w0.ld (i := 5) rfl rfl)) ?_
    refine bind_ex (ldSl_of (w0.ld (i := 5) rfl rfl)) ?_
    have f1 := W.borrow1 (eInt .i64) w0 cT
    obtain ⟨w1, s1⟩ := w0.right1
    obtain ⟨r2, e2, hp⟩ := bind_some' hp
    refine call_ex (aC.P rfl ⟨w1, f1⟩ e2) ?_
    rintro _ H3 ⟨rfl, w3, s3, _⟩
    obtain ⟨w4, s4⟩ := W.frame1 w0 w3 s3
    refine bind_ex rfl ?_
    refine ifs_ex (W.cons_of (Rn := []) w1 w3 s3) ?_
    refine bind_ex (ldI_of (w4.ld (i := 5) rfl rfl)) ?_
    refine bind_ex (ldI_of (w4.ld (i := 5) rfl rfl)) ?_
    refine bind_ex (ldSl_of (w4.ld (i := 5) rfl rfl)) ?_
    have f6 := W.borrow1 (eInt .i64) w4 (cT.step s4)
    obtain ⟨w6, s6⟩ := w4.right1
    obtain ⟨r7, e7, hp⟩ := bind_some' hp
    refine call_ex (aC.P rfl ⟨w6, f6⟩ e7) ?_
    rintro _ H8 ⟨rfl, w8, s8, _⟩
    obtain ⟨w9, s9⟩ := W.frame1 w4 w8 s8
    refine bind_ex rfl ?_
    obtain ⟨r10, e10, hp⟩ := bind_some' hp
    refine call_ex (dx.P ⟨w9, trivial⟩ e10) ?_
    rintro _ H11 ⟨rfl, w11, s11, _⟩
    refine bind_ex rfl ?_
    obtain ⟨w12, s12⟩ := w11.pick' [0, 1, 2, 5, 3, 4] 6 rfl rfl rfl
    dsimp only [pk, pks, nth, List.drop] at w12 s12
    obtain ⟨r13, e13, hp⟩ := bind_some' hp
    refine call_ex (dt.P rfl rfl rfl ⟨w12, (cT.step (s4.trans (s9.trans (s11.trans s12)))), (di.step (s4.trans (s9.trans (s11.trans s12)))), (cZ.step (s4.trans (s9.trans (s11.trans s12))))⟩ e13) ?_
    rintro _ H14 ⟨vq, zK, zL, rfl, hl14_0, hl14_1, hl14_2, w14, s14, f14_0, f14_1, f14_2⟩
    obtain ⟨w15, s15⟩ := w14.pick' [0, 1, 2, 4, 5, 3] 6 rfl rfl rfl
    dsimp only [pk, pks, nth, List.drop] at w15 s15
    exact ih hl14_0 hl14_1 hl14_2 rfl rfl ⟨w15, (s0.trans (s4.trans (s9.trans (s11.trans (s12.trans (s14.trans s15)))))), (f14_0.step s15), (f14_1.step s15), (f14_2.step s15), (dq.step (s4.trans (s9.trans (s11.trans (s12.trans (s14.trans s15)))))), (dr.step (s4.trans (s9.trans (s11.trans (s12.trans (s14.trans s15))))))⟩ hp
   ·replace hp := bif_f hb hp
    exact aP.j2_P rfl rfl rfl rfl rfl ⟨w0, s0, cT, di, cZ, dq, dr⟩ hp
  ·replace hp := bif_f hb hp
   exact aP.j2_P rfl rfl rfl rfl rfl ⟨w0, s0, cT, di, cZ, dq, dr⟩ hp
def aP.p (F : Nat) (bj : Int) (aX : Int) (dB : List Int) (bb : Int) (fk : List Int) (aY : Int) (aT : Int) (df : List Int) (bc : Int) (bf : Int) (fl : List Int) (bg : Int) (fm : List Int) (ax : Bool) (ae : Int) : Option (Bool × Bool × List Int × List Int × List Int × List Int × List Int × Bool) := (ar.p F bj aX dB bb fk aY aT df bc bf fl bg fm ae).bind fun r1 => (bif (!r1.1) then (some (true, true, r1.2.1, r1.2.2.1, r1.2.2.2.1, r1.2.2.2.2.1, r1.2.2.2.2.2, ax)) else (aP.pl29 F F bj aX r1.2.1 bb r1.2.2.1 aY aT r1.2.2.2.1 bc bf r1.2.2.2.2.1 bg r1.2.2.2.2.2 ax ae (IntKind.i64.wrap (ae + 1))))
theorem aP.P {F : Nat} {bj aX bl bb aY aT bc bf bv bg ae : Int} {cP dX cp dY dZ : ON} {bL dc bA dd de aa : Nat} {cQ d_ cq ea eb : Cap} {dB fk df fl fm : List Int} {eQ fw eR fx fy ax : Bool} {eS eT gf fz fA gG eU eV gg fB fC gH fD fE gI : List AV} {H : Hp} {R0 : List Rs} (jD : bL = dB.length) (kE : dc = fk.length) (iX : bA = df.length) (kF : dd = fl.length) (kG : de = fm.length) (h0 : Inn H (Rs.ow eQ ⟨cP, bL, cQ⟩ (eInt .i64).z eS gf eT :: Rs.ow fw ⟨dX, dc, d_⟩ (eInt .i64).z fz gG fA :: Rs.ow eR ⟨cp, bA, cq⟩ (eInt .i64).z eU gg eV :: Rs.ow fx ⟨dY, dd, ea⟩ (eInt .i64).z fB gH fC :: Rs.ow fy ⟨dZ, de, eb⟩ (eInt .i64).z fD gI fE :: Rs.blk aa [.int .i64 bj, .int .i64 aX, .sl ⟨cP, bL, cQ⟩, .int .i64 bl, .int .i64 bb, .sl ⟨dX, dc, d_⟩, .int .i64 aY, .int .i64 aT, .sl ⟨cp, bA, cq⟩, .int .i64 bc, .int .i64 bf, .sl ⟨dY, dd, ea⟩, .int .i64 bv, .int .i64 bg, .sl ⟨dZ, de, eb⟩, .bool ax] :: R0) fun R => CR (eInt .i64) H R gf dB ∧ CR (eInt .i64) H R gG fk ∧ CR (eInt .i64) H R gg df ∧ CR (eInt .i64) H R gH fl ∧ CR (eInt .i64) H R gI fm) {r : Bool × Bool × List Int × List Int × List Int × List Int × List Int × Bool} (hp : aP.p F bj aX dB bb fk aY aT df bc bf fl bg fm ax ae = some r) : ∃ v H', aP.tw F aa 0 ae H = some (v, H') ∧ aP.Q H (Rs.ow eQ ⟨cP, bL, cQ⟩ (eInt .i64).z eS gf eT :: Rs.ow fw ⟨dX, dc, d_⟩ (eInt .i64).z fz gG fA :: Rs.ow eR ⟨cp, bA, cq⟩ (eInt .i64).z eU gg eV :: Rs.ow fx ⟨dY, dd, ea⟩ (eInt .i64).z fB gH fC :: Rs.ow fy ⟨dZ, de, eb⟩ (eInt .i64).z fD gI fE :: Rs.blk aa [.int .i64 bj, .int .i64 aX, .sl ⟨cP, bL, cQ⟩, .int .i64 bl, .int .i64 bb, .sl ⟨dX, dc, d_⟩, .int .i64 aY, .int .i64 aT, .sl ⟨cp, bA, cq⟩, .int .i64 bc, .int .i64 bf, .sl ⟨dY, dd, ea⟩, .int .i64 bv, .int .i64 bg, .sl ⟨dZ, de, eb⟩, .bool ax] :: R0) R0 bj aX bl bb aY aT bc bf bv bg cP dX cp dY dZ bL dc bA dd de aa cQ d_ cq ea eb eQ fw eR fx fy eS eT fz fA eU eV fB fC fD fE r v H' := by
 obtain ⟨w0, iR, kp, hO, kq, kr⟩ := h0
 subst jD
 subst kE
 subst iX
 subst kF
 subst kG
 unfold aP.p at hp
 unfold aP.tw aP.twX
 have s0 := w0.rf
 obtain ⟨r1, e1, hp⟩ := bind_some' hp
 refine call_ex (ar.P rfl rfl rfl rfl rfl ⟨w0, iR, kp, hO, kq, kr⟩ e1) ?_
 rintro _ H2 ⟨zM, zN, zO, zP, zQ, rfl, hl2_0, hl2_1, hl2_2, hl2_3, hl2_4, w2, s2, f2_0, f2_1, f2_2, f2_3, f2_4⟩
 refine bind_ex rfl ?_
 refine bif_ex (fun hb => ?_) (fun hb => ?_)
 ·replace hp := bif_t hb hp
  obtain rfl := Option.some.inj hp
  exact ⟨_, _, rfl, _, _, _, _, _, rfl, hl2_0, hl2_1, hl2_2, hl2_3, hl2_4, w2, (s0.trans s2), f2_0, f2_1, f2_2, f2_3, f2_4⟩
 ·replace hp := bif_f hb hp
  exact aP.l29_P F hl2_0 hl2_1 hl2_2 hl2_3 hl2_4 ⟨w2, (s0.trans s2), f2_0, f2_1, f2_2, f2_3, f2_4⟩ hp
def aQ.Q (H0 : Hp) (Ri R0 : List Rs)  (r : Int × Int × List Int × Int × Int × List Int × Int × Int × List Int × Int × Int × List Int × Int × Int × List Int × Bool) (v : AV) (H' : Hp) : Prop := ∃ o2a : ON, ∃ o2n : Nat, ∃ o2c : Cap, ∃ o2k : List AV, ∃ o5a : ON, ∃ o5n : Nat, ∃ o5c : Cap, ∃ o5k : List AV, ∃ o8a : ON, ∃ o8n : Nat, ∃ o8c : Cap, ∃ o8k : List AV, ∃ o11a : ON, ∃ o11n : Nat, ∃ o11c : Cap, ∃ o11k : List AV, ∃ o14a : ON, ∃ o14n : Nat, ∃ o14c : Cap, ∃ o14k : List AV, ∃ ob0 : Nat, v = (.ptr ob0 0) ∧ o2n = (r.2.2.1).length ∧ o5n = (r.2.2.2.2.2.1).length ∧ o8n = (r.2.2.2.2.2.2.2.2.1).length ∧ o11n = (r.2.2.2.2.2.2.2.2.2.2.2.1).length ∧ o14n = (r.2.2.2.2.2.2.2.2.2.2.2.2.2.2.1).length ∧ Out H0 Ri H' (Rs.own ⟨o2a, o2n, o2c⟩ (eInt .i64).z o2k :: Rs.own ⟨o5a, o5n, o5c⟩ (eInt .i64).z o5k :: Rs.own ⟨o8a, o8n, o8c⟩ (eInt .i64).z o8k :: Rs.own ⟨o11a, o11n, o11c⟩ (eInt .i64).z o11k :: Rs.own ⟨o14a, o14n, o14c⟩ (eInt .i64).z o14k :: Rs.blk ob0 [.int .i64 r.1, .int .i64 r.2.1, .sl ⟨o2a, o2n, o2c⟩, .int .i64 r.2.2.2.1, .int .i64 r.2.2.2.2.1, .sl ⟨o5a, o5n, o5c⟩, .int .i64 r.2.2.2.2.2.2.1, .int .i64 r.2.2.2.2.2.2.2.1, .sl ⟨o8a, o8n, o8c⟩, .int .i64 r.2.2.2.2.2.2.2.2.2.1, .int .i64 r.2.2.2.2.2.2.2.2.2.2.1, .sl ⟨o11a, o11n, o11c⟩, .int .i64 r.2.2.2.2.2.2.2.2.2.2.2.2.1, .int .i64 r.2.2.2.2.2.2.2.2.2.2.2.2.2.1, .sl ⟨o14a, o14n, o14c⟩, .bool r.2.2.2.2.2.2.2.2.2.2.2.2.2.2.2] :: R0) fun R => CR (eInt .i64) H' R o2k (r.2.2.1) ∧ CR (eInt .i64) H' R o5k (r.2.2.2.2.2.1) ∧ CR (eInt .i64) H' R o8k (r.2.2.2.2.2.2.2.2.1) ∧ CR (eInt .i64) H' R o11k (r.2.2.2.2.2.2.2.2.2.2.2.1) ∧ CR (eInt .i64) H' R o14k (r.2.2.2.2.2.2.2.2.2.2.2.2.2.2.1)
def aQ.S29 (H0 : Hp) (Ri R0 : List Rs)  (C : Nat → Nat → Nat → Nat → Int → Hp → OA) (pC : Int → Int → Int → Int → List Int → Int → Int → List Int → Int → Int → List Int → Int → Int → List Int → Int → Int → List Int → Bool → Int → Option (Int × Int × List Int × Int × Int × List Int × Int × Int × List Int × Int × Int × List Int × Int × Int × List Int × Bool)) : Prop := ∀ {mN mO nk nl nm nn np nq nr ns nt nu jO : Int} {qJ qK qL qM qN qO : ON} {pi ju pj pl pm po pp ke : Nat} {qP qQ qR qS qT qU : Cap} {qV mP mQ mR mS mT : List Int} {qW qX qY qZ q_ : List AV} {nv : Bool}, ∀ {H : Hp}, pi = qV.length → pj = mP.length → pl = mQ.length → pm = mR.length → po = mS.length → pp = mT.length → (Out H0 Ri H (Rs.blk ju [.int .i64 mN, .int .i64 mO, .sl ⟨qJ, pi, qP⟩] :: Rs.own ⟨qK, pj, qQ⟩ (eInt .i64).z qW :: Rs.own ⟨qL, pl, qR⟩ (eInt .i64).z qX :: Rs.own ⟨qM, pm, qS⟩ (eInt .i64).z qY :: Rs.own ⟨qN, po, qT⟩ (eInt .i64).z qZ :: Rs.own ⟨qO, pp, qU⟩ (eInt .i64).z q_ :: Rs.blk ke [.int .i64 nk, .int .i64 nl, .sl ⟨qK, pj, qQ⟩, .int .i64 nm, .int .i64 nn, .sl ⟨qL, pl, qR⟩, .int .i64 np, .int .i64 nq, .sl ⟨qM, pm, qS⟩, .int .i64 nr, .int .i64 ns, .sl ⟨qN, po, qT⟩, .int .i64 nt, .int .i64 nu, .sl ⟨qO, pp, qU⟩, .bool nv] :: R0) fun R => ROs (eInt .i64) H R ⟨qJ, pi, qP⟩ qV ∧ CR (eInt .i64) H R qW mP ∧ CR (eInt .i64) H R qX mQ ∧ CR (eInt .i64) H R qY mR ∧ CR (eInt .i64) H R qZ mS ∧ CR (eInt .i64) H R q_ mT) → ∀ {r : Int × Int × List Int × Int × Int × List Int × Int × Int × List Int × Int × Int × List Int × Int × Int × List Int × Bool}, pC mN mO nk nl mP nm nn mQ np nq mR nr ns mS nt nu mT nv jO = some r → ∃ v H', C ju 0 ke 0 jO H = some (v, H') ∧ aQ.Q H0 Ri R0  r v H'
def aQ.S938 (H0 : Hp) (Ri R0 : List Rs)  (C : Nat → Nat → Nat → Nat → Int → Bool → Bool → Hp → OA) (pC : Int → Int → Int → Int → List Int → Int → Int → List Int → Int → Int → List Int → Int → Int → List Int → Int → Int → List Int → Bool → Int → Bool → Bool → Option (Int × Int × List Int × Int × Int × List Int × Int × Int × List Int × Int × Int × List Int × Int × Int × List Int × Bool)) : Prop := ∀ {mU mV md mf mW mg mh mi mj ml mX mm hE : Int} {ra rb rc rd rg rh : ON} {pq iS pr ps pt pu pv iT : Nat} {ri rj rk rl rm rn : Cap} {ro mn mo mp mq mr : List Int} {rp rq rr rs rt : List AV} {ms jV jN : Bool}, ∀ {H : Hp}, pq = ro.length → pr = mn.length → ps = mo.length → pt = mp.length → pu = mq.length → pv = mr.length → (Out H0 Ri H (Rs.blk iS [.int .i64 mU, .int .i64 mV, .sl ⟨ra, pq, ri⟩] :: Rs.own ⟨rb, pr, rj⟩ (eInt .i64).z rp :: Rs.own ⟨rc, ps, rk⟩ (eInt .i64).z rq :: Rs.own ⟨rd, pt, rl⟩ (eInt .i64).z rr :: Rs.own ⟨rg, pu, rm⟩ (eInt .i64).z rs :: Rs.own ⟨rh, pv, rn⟩ (eInt .i64).z rt :: Rs.blk iT [.int .i64 md, .int .i64 mf, .sl ⟨rb, pr, rj⟩, .int .i64 mW, .int .i64 mg, .sl ⟨rc, ps, rk⟩, .int .i64 mh, .int .i64 mi, .sl ⟨rd, pt, rl⟩, .int .i64 mj, .int .i64 ml, .sl ⟨rg, pu, rm⟩, .int .i64 mX, .int .i64 mm, .sl ⟨rh, pv, rn⟩, .bool ms] :: R0) fun R => ROs (eInt .i64) H R ⟨ra, pq, ri⟩ ro ∧ CR (eInt .i64) H R rp mn ∧ CR (eInt .i64) H R rq mo ∧ CR (eInt .i64) H R rr mp ∧ CR (eInt .i64) H R rs mq ∧ CR (eInt .i64) H R rt mr) → ∀ {r : Int × Int × List Int × Int × Int × List Int × Int × Int × List Int × Int × Int × List Int × Int × Int × List Int × Bool}, pC mU mV md mf mn mW mg mo mh mi mp mj ml mq mX mm mr ms hE jV jN = some r → ∃ v H', C iS 0 iT 0 hE jV jN H = some (v, H') ∧ aQ.Q H0 Ri R0  r v H'
def aQ.pj3 (F : Nat) (ev : Int → Int → Int → Int → List Int → Int → Int → List Int → Int → Int → List Int → Int → Int → List Int → Int → Int → List Int → Bool → Int → Option (Int × Int × List Int × Int × Int × List Int × Int × Int × List Int × Int × Int × List Int × Int × Int × List Int × Bool)) (ru : Int) (rv : Int) (rx : Int) (ry : Int) (pw : List Int) (rz : Int) (rA : Int) (px : List Int) (rB : Int) (rC : Int) (py : List Int) (rD : Int) (rE : Int) (pz : List Int) (rF : Int) (rG : Int) (pA : List Int) (rH : Bool) (n_ : Int) : Option (Int × Int × List Int × Int × Int × List Int × Int × Int × List Int × Int × Int × List Int × Int × Int × List Int × Bool) := ev ru rv rx ry pw rz rA px rB rC py rD rE pz rF rG pA rH (IntKind.i64.wrap (n_ + 1))
theorem aQ.j3_P {F : Nat} {H0 : Hp} {Ri R0 : List Rs}  {C29_ : Nat → Nat → Nat → Nat → Int → Hp → OA} {ev : Int → Int → Int → Int → List Int → Int → Int → List Int → Int → Int → List Int → Int → Int → List Int → Int → Int → List Int → Bool → Int → Option (Int × Int × List Int × Int × Int × List Int × Int × Int × List Int × Int × Int × List Int × Int × Int × List Int × Bool)} (hC29 : aQ.S29 H0 Ri R0  C29_ ev) {ru rv rx ry rz rA rB rC rD rE rF rG n_ : Int} {vr vs vt vu vv vw : ON} {tJ qp tK tL tM tN tO qq : Nat} {vx vy vz vA vB vC : Cap} {vD pw px py pz pA : List Int} {vE vF vG vH vI : List AV} {rH : Bool} {H : Hp} (zR : tJ = vD.length) (zS : tK = pw.length) (zT : tL = px.length) (zU : tM = py.length) (zV : tN = pz.length) (zW : tO = pA.length) (h0 : Out H0 Ri H (Rs.blk qp [.int .i64 ru, .int .i64 rv, .sl ⟨vr, tJ, vx⟩] :: Rs.own ⟨vs, tK, vy⟩ (eInt .i64).z vE :: Rs.own ⟨vt, tL, vz⟩ (eInt .i64).z vF :: Rs.own ⟨vu, tM, vA⟩ (eInt .i64).z vG :: Rs.own ⟨vv, tN, vB⟩ (eInt .i64).z vH :: Rs.own ⟨vw, tO, vC⟩ (eInt .i64).z vI :: Rs.blk qq [.int .i64 rx, .int .i64 ry, .sl ⟨vs, tK, vy⟩, .int .i64 rz, .int .i64 rA, .sl ⟨vt, tL, vz⟩, .int .i64 rB, .int .i64 rC, .sl ⟨vu, tM, vA⟩, .int .i64 rD, .int .i64 rE, .sl ⟨vv, tN, vB⟩, .int .i64 rF, .int .i64 rG, .sl ⟨vw, tO, vC⟩, .bool rH] :: R0) fun R => ROs (eInt .i64) H R ⟨vr, tJ, vx⟩ vD ∧ CR (eInt .i64) H R vE pw ∧ CR (eInt .i64) H R vF px ∧ CR (eInt .i64) H R vG py ∧ CR (eInt .i64) H R vH pz ∧ CR (eInt .i64) H R vI pA) {r : Int × Int × List Int × Int × Int × List Int × Int × Int × List Int × Int × Int × List Int × Int × Int × List Int × Bool} (hp : aQ.pj3 F ev ru rv rx ry pw rz rA px rB rC py rD rE pz rF rG pA rH n_ = some r) : ∃ v H', aQ.j3 F (bM.tw F) (aP.tw F) C29_ qp 0 qq 0 n_ H = some (v, H') ∧ aQ.Q H0 Ri R0  r v H' := by
 obtain ⟨w0, s0, zX, zY, zZ, z_, Aa, Ab⟩ := h0
 subst zR
 subst zS
 subst zT
 subst zU
 subst zV
 subst zW
 unfold aQ.pj3 at hp
 unfold aQ.j3
 exact hC29 rfl rfl rfl rfl rfl rfl ⟨w0, s0, zX, zY, zZ, z_, Aa, Ab⟩ hp
def aQ.pj4 (F : Nat) (ev : Int → Int → Int → Int → List Int → Int → Int → List Int → Int → Int → List Int → Int → Int → List Int → Int → Int → List Int → Bool → Int → Option (Int × Int × List Int × Int × Int × List Int × Int × Int × List Int × Int × Int × List Int × Int × Int × List Int × Bool)) (rI : Int) (rJ : Int) (oN : Int) (oO : Int) (nw : List Int) (oP : Int) (oQ : Int) (nx : List Int) (oR : Int) (oS : Int) (ny : List Int) (oT : Int) (oU : Int) (nz : List Int) (oV : Int) (oW : Int) (nA : List Int) (nB : Bool) (mK : Int) (oa : Bool) : Option (Int × Int × List Int × Int × Int × List Int × Int × Int × List Int × Int × Int × List Int × Int × Int × List Int × Bool) := (bif oa then (some (oN, oO, nw, oP, oQ, nx, oR, oS, ny, oT, oU, nz, oV, oW, nA, nB)) else ((bif nB then (some (oN, oO, nw, oP, oQ, nx, oR, oS, ny, oT, oU, nz, oV, oW, nA, nB)) else (aQ.pj3 F ev rI rJ oN oO nw oP oQ nx oR oS ny oT oU nz oV oW nA nB mK))))
theorem aQ.j4_P {F : Nat} {H0 : Hp} {Ri R0 : List Rs}  {C29_ : Nat → Nat → Nat → Nat → Int → Hp → OA} {ev : Int → Int → Int → Int → List Int → Int → Int → List Int → Int → Int → List Int → Int → Int → List Int → Int → Int → List Int → Bool → Int → Option (Int × Int × List Int × Int × Int × List Int × Int × Int × List Int × Int × Int × List Int × Int × Int × List Int × Bool)} (hC29 : aQ.S29 H0 Ri R0  C29_ ev) {rI rJ oN oO oP oQ oR oS oT oU oV oW mK : Int} {vJ vK vL vM vN vO : ON} {tP qr tQ tR tS tT tU ng : Nat} {vP vQ vR vS vT vU : Cap} {vV nw nx ny nz nA : List Int} {vW vX vY vZ v_ : List AV} {nB oa : Bool} {H : Hp} (Ac : tP = vV.length) (Ad : tQ = nw.length) (Ae : tR = nx.length) (Af : tS = ny.length) (Ag : tT = nz.length) (Ah : tU = nA.length) (h0 : Out H0 Ri H (Rs.blk qr [.int .i64 rI, .int .i64 rJ, .sl ⟨vJ, tP, vP⟩] :: Rs.own ⟨vK, tQ, vQ⟩ (eInt .i64).z vW :: Rs.own ⟨vL, tR, vR⟩ (eInt .i64).z vX :: Rs.own ⟨vM, tS, vS⟩ (eInt .i64).z vY :: Rs.own ⟨vN, tT, vT⟩ (eInt .i64).z vZ :: Rs.own ⟨vO, tU, vU⟩ (eInt .i64).z v_ :: Rs.blk ng [.int .i64 oN, .int .i64 oO, .sl ⟨vK, tQ, vQ⟩, .int .i64 oP, .int .i64 oQ, .sl ⟨vL, tR, vR⟩, .int .i64 oR, .int .i64 oS, .sl ⟨vM, tS, vS⟩, .int .i64 oT, .int .i64 oU, .sl ⟨vN, tT, vT⟩, .int .i64 oV, .int .i64 oW, .sl ⟨vO, tU, vU⟩, .bool nB] :: R0) fun R => ROs (eInt .i64) H R ⟨vJ, tP, vP⟩ vV ∧ CR (eInt .i64) H R vW nw ∧ CR (eInt .i64) H R vX nx ∧ CR (eInt .i64) H R vY ny ∧ CR (eInt .i64) H R vZ nz ∧ CR (eInt .i64) H R v_ nA) {r : Int × Int × List Int × Int × Int × List Int × Int × Int × List Int × Int × Int × List Int × Int × Int × List Int × Bool} (hp : aQ.pj4 F ev rI rJ oN oO nw oP oQ nx oR oS ny oT oU nz oV oW nA nB mK oa = some r) : ∃ v H', aQ.j4 F (bM.tw F) (aP.tw F) C29_ qr 0 ng 0 mK oa H = some (v, H') ∧ aQ.Q H0 Ri R0  r v H' := by
 obtain ⟨w0, s0, Ai, tV, tW, tX, tY, tZ⟩ := h0
 subst Ac
 subst Ad
 subst Ae
 subst Af
 subst Ag
 subst Ah
 unfold aQ.pj4 at hp
 unfold aQ.j4
 refine bif_ex (fun hb => ?_) (fun hb => ?_)
 ·replace hp := bif_t hb hp
  obtain ⟨w1, s1⟩ := w0.pick' [1, 2, 3, 4, 5, 6] 7 rfl rfl rfl
  dsimp only [pk, pks, nth, List.drop] at w1 s1
  obtain rfl := Option.some.inj hp
  exact ⟨_, _, rfl, _, _, _, _, _, _, _, _, _, _, _, _, _, _, _, _, _, _, _, _, _, rfl, rfl, rfl, rfl, rfl, rfl, w1, (s0.trans s1), (tV.step s1), (tW.step s1), (tX.step s1), (tY.step s1), (tZ.step s1)⟩
 ·replace hp := bif_f hb hp
  refine bind_ex (ldB_of (w0.ld (i := 6) rfl rfl)) ?_
  refine bif_ex (fun hb => ?_) (fun hb => ?_)
  ·replace hp := bif_t hb hp
   obtain ⟨w2, s2⟩ := w0.pick' [1, 2, 3, 4, 5, 6] 7 rfl rfl rfl
   dsimp only [pk, pks, nth, List.drop] at w2 s2
   obtain rfl := Option.some.inj hp
   exact ⟨_, _, rfl, _, _, _, _, _, _, _, _, _, _, _, _, _, _, _, _, _, _, _, _, _, rfl, rfl, rfl, rfl, rfl, rfl, w2, (s0.trans s2), (tV.step s2), (tW.step s2), (tX.step s2), (tY.step s2), (tZ.step s2)⟩
  ·replace hp := bif_f hb hp
   exact aQ.j3_P (@hC29) rfl rfl rfl rfl rfl rfl ⟨w0, s0, Ai, tV, tW, tX, tY, tZ⟩ hp
def aQ.pl938 (F : Nat) (ev : Int → Int → Int → Int → List Int → Int → Int → List Int → Int → Int → List Int → Int → Int → List Int → Int → Int → List Int → Bool → Int → Option (Int × Int × List Int × Int × Int × List Int × Int × Int × List Int × Int × Int × List Int × Int × Int × List Int × Bool)) : Nat → Int → Int → Int → Int → List Int → Int → Int → List Int → Int → Int → List Int → Int → Int → List Int → Int → Int → List Int → Bool → Int → Bool → Bool → Option (Int × Int × List Int × Int × Int × List Int × Int × Int × List Int × Int × Int × List Int × Int × Int × List Int × Bool)
 | 0, _, _, _, _, _, _, _, _, _, _, _, _, _, _, _, _, _, _, _, _, _ => none
 | k + 1, mU, mV, md, mf, mn, mW, mg, mo, mh, mi, mp, mj, ml, mq, mX, mm, mr, ms, hE, jV, jN => (bif (!jV) then ((bif (!ms) then ((aP.p F md mf mn mg mo mh mi mp mj ml mq mm mr ms hE).bind fun r2 => aQ.pl938 F ev k mU mV md mf r2.2.2.1 mW mg r2.2.2.2.1 mh mi r2.2.2.2.2.1 mj ml r2.2.2.2.2.2.1 mX mm r2.2.2.2.2.2.2.1 r2.2.2.2.2.2.2.2 hE r2.1 r2.2.1) else (aQ.pj4 F ev mU mV md mf mn mW mg mo mh mi mp mj ml mq mX mm mr ms hE jN))) else (aQ.pj4 F ev mU mV md mf mn mW mg mo mh mi mp mj ml mq mX mm mr ms hE jN))
termination_by structural n => n
theorem aQ.l938_P {F : Nat} {H0 : Hp} {Ri R0 : List Rs}  {C29_ : Nat → Nat → Nat → Nat → Int → Hp → OA} {ev : Int → Int → Int → Int → List Int → Int → Int → List Int → Int → Int → List Int → Int → Int → List Int → Int → Int → List Int → Bool → Int → Option (Int × Int × List Int × Int × Int × List Int × Int × Int × List Int × Int × Int × List Int × Int × Int × List Int × Bool)} (hC29 : aQ.S29 H0 Ri R0  C29_ ev) : ∀ k, aQ.S938 H0 Ri R0  (aQ.l938 F (bM.tw F) (aP.tw F) C29_ k) (aQ.pl938 F ev k) := by
 intro k
 induction k with
 | zero =>
  intro mU mV md mf mW mg mh mi mj ml mX mm hE ra rb rc rd rg rh pq iS pr ps pt pu pv iT ri rj rk rl rm rn ro mn mo mp mq mr rp rq rr rs rt ms jV jN H wa wb wc wd wg wh h0 r hp
  exact nomatch (show (none : Option (Int × Int × List Int × Int × Int × List Int × Int × Int × List Int × Int × Int × List Int × Int × Int × List Int × Bool)) = some r from hp)
 | succ k ih =>
  intro mU mV md mf mW mg mh mi mj ml mX mm hE ra rb rc rd rg rh pq iS pr ps pt pu pv iT ri rj rk rl rm rn ro mn mo mp mq mr rp rq rr rs rt ms jV jN H wa wb wc wd wg wh h0 r hp
  obtain ⟨w0, s0, t_, ua, ub, uc, ud, ue⟩ := h0
  subst wa
  subst wb
  subst wc
  subst wd
  subst wg
  subst wh
  unfold aQ.pl938 at hp
  unfold aQ.l938
  refine bif_ex (fun hb => ?_) (fun hb => ?_)
  ·replace hp := bif_t hb hp
   refine bind_ex (ldB_of (w0.ld (i := 6) rfl rfl)) ?_
   refine bif_ex (fun hb => ?_) (fun hb => ?_)
   ·replace hp := bif_t hb hp
    obtain ⟨w1, s1⟩ := w0.pick' [1, 2, 3, 4, 5, 6, 0] 7 rfl rfl rfl
    dsimp only [pk, pks, nth, List.drop] at w1 s1
    obtain ⟨r2, e2, hp⟩ := bind_some' hp
    refine call_ex (aP.P rfl rfl rfl rfl rfl ⟨w1, (ua.step s1), (ub.step s1), (uc.step s1), (ud.step s1), (ue.step s1)⟩ e2) ?_
    rintro _ H3 ⟨BT, BU, BV, BW, BX, rfl, hl3_0, hl3_1, hl3_2, hl3_3, hl3_4, w3, s3, f3_0, f3_1, f3_2, f3_3, f3_4⟩
    refine bind_ex rfl ?_
    refine bind_ex rfl ?_
    refine bind_ex rfl ?_
    refine bind_ex rfl ?_
    refine bind_ex rfl ?_
    obtain ⟨w4, s4⟩ := w3.pick' [6, 0, 1, 2, 3, 4, 5] 7 rfl rfl rfl
    dsimp only [pk, pks, nth, List.drop] at w4 s4
    exact ih rfl hl3_0 hl3_1 hl3_2 hl3_3 hl3_4 ⟨w4, (s0.trans (s1.trans (s3.trans s4))), (t_.step (s1.trans (s3.trans s4))), (f3_0.step s4), (f3_1.step s4), (f3_2.step s4), (f3_3.step s4), (f3_4.step s4)⟩ hp
   ·replace hp := bif_f hb hp
    exact aQ.j4_P (@hC29) rfl rfl rfl rfl rfl rfl ⟨w0, s0, t_, ua, ub, uc, ud, ue⟩ hp
  ·replace hp := bif_f hb hp
   exact aQ.j4_P (@hC29) rfl rfl rfl rfl rfl rfl ⟨w0, s0, t_, ua, ub, uc, ud, ue⟩ hp
def aQ.pl29 (F : Nat)  : Nat → Int → Int → Int → Int → List Int → Int → Int → List Int → Int → Int → List Int → Int → Int → List Int → Int → Int → List Int → Bool → Int → Option (Int × Int × List Int × Int × Int × List Int × Int × Int × List Int × Int × Int × List Int × Int × Int × List Int × Bool)
 | 0, _, _, _, _, _, _, _, _, _, _, _, _, _, _, _, _, _, _, _ => none
 | k + 1, mN, mO, nk, nl, mP, nm, nn, mQ, np, nq, mR, nr, ns, mS, nt, nu, mT, nv, jO => (bif (decide (jO < (if mO < mN then mO else mN))) then (aQ.pl938 F (aQ.pl29 F k) F mN mO nk nl mP nm nn mQ np nq mR nr ns mS nt nu mT nv jO false false) else (some (nk, nl, mP, nm, nn, mQ, np, nq, mR, nr, ns, mS, nt, nu, mT, nv)))
termination_by structural n => n
theorem aQ.l29_P {F : Nat} {H0 : Hp} {Ri R0 : List Rs}   : ∀ k, aQ.S29 H0 Ri R0  (aQ.l29 F (bM.tw F) (aP.tw F)  k) (aQ.pl29 F  k) := by
 intro k
 induction k with
 | zero =>
  intro mN mO nk nl nm nn np nq nr ns nt nu jO qJ qK qL qM qN qO pi ju pj pl pm po pp ke qP qQ qR qS qT qU qV mP mQ mR mS mT qW qX qY qZ q_ nv H wi wj wk wl wm wn h0 r hp
  exact nomatch (show (none : Option (Int × Int × List Int × Int × Int × List Int × Int × Int × List Int × Int × Int × List Int × Int × Int × List Int × Bool)) = some r from hp)
 | succ k ih =>
  intro mN mO nk nl nm nn np nq nr ns nt nu jO qJ qK qL qM qN qO pi ju pj pl pm po pp ke qP qQ qR qS qT qU qV mP mQ mR mS mT qW qX qY qZ q_ nv H wi wj wk wl wm wn h0 r hp
  obtain ⟨w0, s0, Aj, wo, wp, wq, wr, ws⟩ := h0
  subst wi
  subst wj
  subst wk
  subst wl
  subst wm
  subst wn
  unfold aQ.pl29 at hp
  unfold aQ.l29
  refine bind_ex (ldI_of (w0.ld (i := 0) rfl rfl)) ?_
  refine bind_ex (ldI_of (w0.ld (i := 0) rfl rfl)) ?_
  refine bif_ex (fun hb => ?_) (fun hb => ?_)
  ·replace hp := bif_t hb hp
   exact aQ.l938_P (@ih) F rfl rfl rfl rfl rfl rfl ⟨w0, s0, Aj, wo, wp, wq, wr, ws⟩ hp
  ·replace hp := bif_f hb hp
   obtain ⟨w1, s1⟩ := w0.pick' [1, 2, 3, 4, 5, 6] 7 rfl rfl rfl
   dsimp only [pk, pks, nth, List.drop] at w1 s1
   obtain rfl := Option.some.inj hp
   exact ⟨_, _, rfl, _, _, _, _, _, _, _, _, _, _, _, _, _, _, _, _, _, _, _, _, _, rfl, rfl, rfl, rfl, rfl, rfl, w1, (s0.trans s1), (wo.step s1), (wp.step s1), (wq.step s1), (wr.step s1), (ws.step s1)⟩
def aQ.p (F : Nat) (aa : Int) (ac : Int) (bk : List Int) : Option (Int × Int × List Int × Int × Int × List Int × Int × Int × List Int × Int × Int × List Int × Int × Int × List Int × Bool) := (apn ([] : List Int) bk).bind fun l4 => (bM.p F aa).bind fun r7 => (bM.p F aa).bind fun r10 => (bM.p F ac).bind fun r13 => (bM.p F ac).bind fun r16 => aQ.pl29 F F aa ac aa ac l4 r7.1 r7.2.1 r7.2.2 r10.1 r10.2.1 r10.2.2 r13.1 r13.2.1 r13.2.2 r16.1 r16.2.1 r16.2.2 false 0
theorem aQ.P {F : Nat} {aa ac : Int} {cV : ON} {bK : Nat} {cW : Cap} {bk : List Int} {H : Hp} {R0 : List Rs} (fP : bK = bk.length) (h0 : Inn H R0 fun R => ROs (eInt .i64) H R ⟨cV, bK, cW⟩ bk) {r : Int × Int × List Int × Int × Int × List Int × Int × Int × List Int × Int × Int × List Int × Int × Int × List Int × Bool} (hp : aQ.p F aa ac bk = some r) : ∃ v H', aQ.tw F aa ac ⟨cV, bK, cW⟩ H = some (v, H') ∧ aQ.Q H R0 R0  r v H' := by
 obtain ⟨w0, eM⟩ := h0
 subst fP
 unfold aQ.p at hp
 unfold aQ.tw aQ.twX
 have s0 := w0.rf
 refine new_k w0 fun H1 w1 s1 => ?_
 refine bind_ex (ldI_of (w1.ld (i := 0) rfl rfl)) ?_
 refine bind_ex (ldI_of (w1.ld (i := 0) rfl rfl)) ?_
 refine newS_k (eInt .i64) w1 (n := 0) (l := ([] : List Int)) rfl CR.empty rfl fun H2 w2 s2 c2 => ?_
 refine bind_ex (ldSl_of (w2.ld (i := 1) rfl rfl)) ?_
 obtain ⟨x3, h3, c3⟩ := (eM.step (s1.trans s2)).row rfl
 refine bind_ex h3 ?_
 obtain ⟨l4, e4, hp⟩ := bind_some' hp
 refine app_k (eInt .i64) w2 (i := 0) rfl rfl c2 c3 rfl rfl e4 fun a5 d5 H5 w5 s5 c5 x5 => ?_
 dsimp only [List.set] at w5 s5 c5
 refine ifs_ex (x5 ⟨_, rfl⟩) ?_
 refine bind_ex (ldI_of (w5.ld (i := 1) rfl rfl)) ?_
 obtain ⟨r7, e7, hp⟩ := bind_some' hp
 refine call_ex (bM.P ⟨w5, trivial⟩ e7) ?_
 rintro _ H8 ⟨o2a_8, o2n_8, o2c_8, o2k_8, rfl, rfl, w8, s8, f8_0⟩
 refine bind_ex rfl ?_
 refine bind_ex rfl ?_
 refine bind_ex rfl ?_
 refine bind_ex rfl ?_
 refine bind_ex rfl ?_
 refine bind_ex rfl ?_
 refine bind_ex rfl ?_
 refine ifs_ex (W.cons_of (Rn := [_]) w5 w8 s8) ?_
 refine bind_ex (ldI_of (w8.ld (i := 2) rfl rfl)) ?_
 obtain ⟨r10, e10, hp⟩ := bind_some' hp
 refine call_ex (bM.P ⟨w8, trivial⟩ e10) ?_
 rintro _ H11 ⟨o2a_11, o2n_11, o2c_11, o2k_11, rfl, rfl, w11, s11, f11_0⟩
 refine bind_ex rfl ?_
 refine bind_ex rfl ?_
 refine bind_ex rfl ?_
 refine bind_ex rfl ?_
 refine bind_ex rfl ?_
 refine bind_ex rfl ?_
 refine bind_ex rfl ?_
 refine ifs_ex (W.cons_of (Rn := [_]) w8 w11 s11) ?_
 refine bind_ex (ldI_of (w11.ld (i := 3) rfl rfl)) ?_
 obtain ⟨r13, e13, hp⟩ := bind_some' hp
 refine call_ex (bM.P ⟨w11, trivial⟩ e13) ?_
 rintro _ H14 ⟨o2a_14, o2n_14, o2c_14, o2k_14, rfl, rfl, w14, s14, f14_0⟩
 refine bind_ex rfl ?_
 refine bind_ex rfl ?_
 refine bind_ex rfl ?_
 refine bind_ex rfl ?_
 refine bind_ex rfl ?_
 refine bind_ex rfl ?_
 refine bind_ex rfl ?_
 refine ifs_ex (W.cons_of (Rn := [_]) w11 w14 s14) ?_
 refine bind_ex (ldI_of (w14.ld (i := 4) rfl rfl)) ?_
 obtain ⟨r16, e16, hp⟩ := bind_some' hp
 refine call_ex (bM.P ⟨w14, trivial⟩ e16) ?_
 rintro _ H17 ⟨o2a_17, o2n_17, o2c_17, o2k_17, rfl, rfl, w17, s17, f17_0⟩
 refine bind_ex rfl ?_
 refine bind_ex rfl ?_
 refine bind_ex rfl ?_
 refine bind_ex rfl ?_
 refine bind_ex rfl ?_
 refine bind_ex rfl ?_
 refine bind_ex rfl ?_
 refine ifs_ex (W.cons_of (Rn := [_]) w14 w17 s17) ?_
 refine new_k w17 fun H19 w19 s19 => ?_
 obtain ⟨w20, s20⟩ := w19.pick' [6, 5, 4, 3, 2, 1, 0] 7 rfl rfl rfl
 dsimp only [pk, pks, nth, List.drop] at w20 s20
 exact aQ.l29_P F rfl rfl rfl rfl rfl rfl ⟨w20, (s0.trans (s1.trans (s2.trans (s5.trans (s8.trans (s11.trans (s14.trans (s17.trans (s19.trans s20))))))))), (eM.step (s1.trans (s2.trans (s5.trans (s8.trans (s11.trans (s14.trans (s17.trans (s19.trans s20))))))))), (c5.step (s8.trans (s11.trans (s14.trans (s17.trans (s19.trans s20)))))), (f8_0.step (s11.trans (s14.trans (s17.trans (s19.trans s20))))), (f11_0.step (s14.trans (s17.trans (s19.trans s20)))), (f14_0.step (s17.trans (s19.trans s20))), (f17_0.step (s19.trans s20))⟩ hp
def bm.Q (H0 : Hp) (Ri R0 : List Rs)  (r : List Int × Bool) (v : AV) (H' : Hp) : Prop := ∃ o0a : ON, ∃ o0n : Nat, ∃ o0c : Cap, ∃ o0k : List AV, v = (.tup [(.sl ⟨o0a, o0n, o0c⟩), (.bool r.2)]) ∧ o0n = (r.1).length ∧ Out H0 Ri H' (Rs.own ⟨o0a, o0n, o0c⟩ (eInt .i64).z o0k :: R0) fun R => CR (eInt .i64) H' R o0k (r.1)
def bm.S61 (H0 : Hp) (Ri R0 : List Rs)  (C : Nat → Nat → Nat → Nat → Sl → Int → Hp → OA) (pC : Int → Int → Int → List Int → Bool → List Int → Int → Option (List Int × Bool)) : Prop := ∀ {mu mv uf mY ug uh ui uj uk ul um un eP : Int} {rK rL rM rN rO rP rQ : ON} {pB jf pE pF pG pH pI dp pJ : Nat} {rR rS rT rU rV rW rX : Cap} {rY mw rZ r_ sa sb lM : List Int} {se sf sg sh si sj : List AV} {lN : Bool}, ∀ {H : Hp}, pB = rY.length → pE = mw.length → pF = rZ.length → pG = r_.length → pH = sa.length → pI = sb.length → pJ = lM.length → (Out H0 Ri H (Rs.blk jf [.int .i64 mu, .int .i64 mv, .sl ⟨rK, pB, rR⟩] :: Rs.own ⟨rL, pE, rS⟩ (eInt .i64).z se :: Rs.own ⟨rM, pF, rT⟩ (eInt .i64).z sf :: Rs.own ⟨rN, pG, rU⟩ (eInt .i64).z sg :: Rs.own ⟨rO, pH, rV⟩ (eInt .i64).z sh :: Rs.own ⟨rP, pI, rW⟩ (eInt .i64).z si :: Rs.blk dp [.int .i64 uf, .int .i64 mY, .sl ⟨rL, pE, rS⟩, .int .i64 ug, .int .i64 uh, .sl ⟨rM, pF, rT⟩, .int .i64 ui, .int .i64 uj, .sl ⟨rN, pG, rU⟩, .int .i64 uk, .int .i64 ul, .sl ⟨rO, pH, rV⟩, .int .i64 um, .int .i64 un, .sl ⟨rP, pI, rW⟩, .bool lN] :: Rs.own ⟨rQ, pJ, rX⟩ (eInt .i64).z sj :: R0) fun R => ROs (eInt .i64) H R ⟨rK, pB, rR⟩ rY ∧ CR (eInt .i64) H R se mw ∧ CR (eInt .i64) H R sf rZ ∧ CR (eInt .i64) H R sg r_ ∧ CR (eInt .i64) H R sh sa ∧ CR (eInt .i64) H R si sb ∧ CR (eInt .i64) H R sj lM) → ∀ {r : List Int × Bool}, pC mu mv mY mw lN lM eP = some r → ∃ v H', C jf 0 dp 0 ⟨rQ, pJ, rX⟩ eP H = some (v, H') ∧ bm.Q H0 Ri R0  r v H'
def bm.pj3 (F : Nat) (sk : Int → Int → Int → List Int → Bool → List Int → Int → Option (List Int × Bool)) (sm : Int) (sn : Int) (sp : Int) (pK : List Int) (sq : Bool) (pL : List Int) (ob : Int) : Option (List Int × Bool) := sk sm sn sp pK sq pL (IntKind.i64.wrap (ob + 1))
theorem bm.j3_P {F : Nat} {H0 : Hp} {Ri R0 : List Rs}  {C61_ : Nat → Nat → Nat → Nat → Sl → Int → Hp → OA} {sk : Int → Int → Int → List Int → Bool → List Int → Int → Option (List Int × Bool)} (hC61 : bm.S61 H0 Ri R0  C61_ sk) {sm sn Ak sp Al Am An Ao Ap Aq Ar As ob : Int} {wt wu wv ww wx wy wz : ON} {uo qu uq ur ut uu uv qv uw : Nat} {wA wB wC wD wE wF wG : Cap} {wH pK wI wJ wK wL pL : List Int} {wM wN wO wP wQ wR : List AV} {sq : Bool} {H : Hp} (At : uo = wH.length) (Au : uq = pK.length) (Av : ur = wI.length) (Aw : ut = wJ.length) (Ax : uu = wK.length) (Ay : uv = wL.length) (Az : uw = pL.length) (h0 : Out H0 Ri H (Rs.blk qu [.int .i64 sm, .int .i64 sn, .sl ⟨wt, uo, wA⟩] :: Rs.own ⟨wu, uq, wB⟩ (eInt .i64).z wM :: Rs.own ⟨wv, ur, wC⟩ (eInt .i64).z wN :: Rs.own ⟨ww, ut, wD⟩ (eInt .i64).z wO :: Rs.own ⟨wx, uu, wE⟩ (eInt .i64).z wP :: Rs.own ⟨wy, uv, wF⟩ (eInt .i64).z wQ :: Rs.blk qv [.int .i64 Ak, .int .i64 sp, .sl ⟨wu, uq, wB⟩, .int .i64 Al, .int .i64 Am, .sl ⟨wv, ur, wC⟩, .int .i64 An, .int .i64 Ao, .sl ⟨ww, ut, wD⟩, .int .i64 Ap, .int .i64 Aq, .sl ⟨wx, uu, wE⟩, .int .i64 Ar, .int .i64 As, .sl ⟨wy, uv, wF⟩, .bool sq] :: Rs.own ⟨wz, uw, wG⟩ (eInt .i64).z wR :: R0) fun R => ROs (eInt .i64) H R ⟨wt, uo, wA⟩ wH ∧ CR (eInt .i64) H R wM pK ∧ CR (eInt .i64) H R wN wI ∧ CR (eInt .i64) H R wO wJ ∧ CR (eInt .i64) H R wP wK ∧ CR (eInt .i64) H R wQ wL ∧ CR (eInt .i64) H R wR pL) {r : List Int × Bool} (hp : bm.pj3 F sk sm sn sp pK sq pL ob = some r) : ∃ v H', bm.j3 F (aQ.tw F) (aC.tw F) C61_ qu 0 qv 0 ⟨wz, uw, wG⟩ ob H = some (v, H') ∧ bm.Q H0 Ri R0  r v H' := by
 obtain ⟨w0, s0, AA, AB, AC, AD, AF, AG, AH⟩ := h0
 subst At
 subst Au
 subst Av
 subst Aw
 subst Ax
 subst Ay
 subst Az
 unfold bm.pj3 at hp
 unfold bm.j3
 exact hC61 rfl rfl rfl rfl rfl rfl rfl ⟨w0, s0, AA, AB, AC, AD, AF, AG, AH⟩ hp
def bm.pj2 (F : Nat)  (ss : Bool) (pM : List Int) : Option (List Int × Bool) := some (pM, (!ss))
theorem bm.j2_P {F : Nat} {H0 : Hp} {Ri R0 : List Rs}   {AI AJ AK AL AM AN AO AP AQ AR : Int} {wS wT wU wV wW wX : ON} {ux uy uz uA uB qt uC : Nat} {wY wZ w_ xa xb xc : Cap} {xd xe xf xh xi pM : List Int} {xj xk xm xn xo xp : List AV} {ss : Bool} {H : Hp} (AS : ux = xd.length) (AT : uy = xe.length) (AU : uz = xf.length) (AW : uA = xh.length) (AX : uB = xi.length) (AY : uC = pM.length) (h0 : Out H0 Ri H (Rs.own ⟨wS, ux, wY⟩ (eInt .i64).z xj :: Rs.own ⟨wT, uy, wZ⟩ (eInt .i64).z xk :: Rs.own ⟨wU, uz, w_⟩ (eInt .i64).z xm :: Rs.own ⟨wV, uA, xa⟩ (eInt .i64).z xn :: Rs.own ⟨wW, uB, xb⟩ (eInt .i64).z xo :: Rs.blk qt [.int .i64 AI, .int .i64 AJ, .sl ⟨wS, ux, wY⟩, .int .i64 AK, .int .i64 AL, .sl ⟨wT, uy, wZ⟩, .int .i64 AM, .int .i64 AN, .sl ⟨wU, uz, w_⟩, .int .i64 AO, .int .i64 AP, .sl ⟨wV, uA, xa⟩, .int .i64 AQ, .int .i64 AR, .sl ⟨wW, uB, xb⟩, .bool ss] :: Rs.own ⟨wX, uC, xc⟩ (eInt .i64).z xp :: R0) fun R => CR (eInt .i64) H R xj xd ∧ CR (eInt .i64) H R xk xe ∧ CR (eInt .i64) H R xm xf ∧ CR (eInt .i64) H R xn xh ∧ CR (eInt .i64) H R xo xi ∧ CR (eInt .i64) H R xp pM) {r : List Int × Bool} (hp : bm.pj2 F  ss pM = some r) : ∃ v H', bm.j2 F (aQ.tw F) (aC.tw F)  qt 0 ⟨wX, uC, xc⟩ H = some (v, H') ∧ bm.Q H0 Ri R0  r v H' := by
 obtain ⟨w0, s0, BY, BZ, B_, Ca, Cb, AZ⟩ := h0
 subst AS
 subst AT
 subst AU
 subst AW
 subst AX
 subst AY
 unfold bm.pj2 at hp
 unfold bm.j2
 refine bind_ex (ldB_of (w0.ld (i := 5) rfl rfl)) ?_
 obtain ⟨w1, s1⟩ := w0.pick' [6] 7 rfl rfl rfl
 dsimp only [pk, pks, nth, List.drop] at w1 s1
 obtain rfl := Option.some.inj hp
 exact ⟨_, _, rfl, _, _, _, _, rfl, rfl, w1, (s0.trans s1), (AZ.step s1)⟩
def bm.pl61 (F : Nat)  : Nat → Int → Int → Int → List Int → Bool → List Int → Int → Option (List Int × Bool)
 | 0, _, _, _, _, _, _, _ => none
 | k + 1, mu, mv, mY, mw, lN, lM, eP => (bif (decide (eP < (if mv < mu then mv else mu))) then ((bif (!lN) then ((aC.p F mY mw eP eP).bind fun r3 => (bif (r3 != 0) then ((apn lM ([r3] : List Int)).bind fun l7 => bm.pj3 F (bm.pl61 F k) mu mv mY mw lN l7 eP) else (bm.pj3 F (bm.pl61 F k) mu mv mY mw lN lM eP))) else (bm.pj2 F lN lM))) else (bm.pj2 F lN lM))
termination_by structural n => n
theorem bm.l61_P {F : Nat} {H0 : Hp} {Ri R0 : List Rs}   : ∀ k, bm.S61 H0 Ri R0  (bm.l61 F (aQ.tw F) (aC.tw F)  k) (bm.pl61 F  k) := by
 intro k
 induction k with
 | zero =>
  intro mu mv uf mY ug uh ui uj uk ul um un eP rK rL rM rN rO rP rQ pB jf pE pF pG pH pI dp pJ rR rS rT rU rV rW rX rY mw rZ r_ sa sb lM se sf sg sh si sj lN H xq xr xt xu xv xw xx h0 r hp
  exact nomatch (show (none : Option (List Int × Bool)) = some r from hp)
 | succ k ih =>
  intro mu mv uf mY ug uh ui uj uk ul um un eP rK rL rM rN rO rP rQ pB jf pE pF pG pH pI dp pJ rR rS rT rU rV rW rX rY mw rZ r_ sa sb lM se sf sg sh si sj lN H xq xr xt xu xv xw xx h0 r hp
  obtain ⟨w0, s0, xy, pN, su, sv, sx, sy, sz⟩ := h0
  subst xq
  subst xr
  subst xt
  subst xu
  subst xv
  subst xw
  subst xx
  unfold bm.pl61 at hp
  unfold bm.l61
  refine bind_ex (ldI_of (w0.ld (i := 0) rfl rfl)) ?_
  refine bind_ex (ldI_of (w0.ld (i := 0) rfl rfl)) ?_
  refine bif_ex (fun hb => ?_) (fun hb => ?_)
  ·replace hp := bif_t hb hp
   refine bind_ex (ldB_of (w0.ld (i := 6) rfl rfl)) ?_
   refine bif_ex (fun hb => ?_) (fun hb => ?_)
   ·replace hp := bif_t hb hp
    refine bind_ex (ldI_of (w0.ld (i := 6) rfl rfl)) ?_
    refine bind_ex (ldI_of (w0.ld (i := 6) rfl rfl)) ?_
    refine bind_ex (ldSl_of (w0.ld (i := 6) rfl rfl)) ?_
    obtain ⟨w1, s1⟩ := w0.pick' [1, 0, 2, 3, 4, 5, 6, 7] 8 rfl rfl rfl
    dsimp only [pk, pks, nth, List.drop] at w1 s1
    have f2 := W.borrow1 (eInt .i64) w1 (pN.step s1)
    obtain ⟨w2, s2⟩ := w1.right1
    obtain ⟨r3, e3, hp⟩ := bind_some' hp
    refine call_ex (aC.P rfl ⟨w2, f2⟩ e3) ?_
    rintro _ H4 ⟨rfl, w4, s4, _⟩
    obtain ⟨w5, s5⟩ := W.frame1 w1 w4 s4
    refine bind_ex rfl ?_
    refine bif_ex (fun hb => ?_) (fun hb => ?_)
    ·replace hp := bif_t hb hp
     refine newS_k (eInt .i64) w5 (n := 1) (l := ([r3] : List Int)) rfl (CR.cons1 rfl CR.empty) rfl fun H6 w6 s6 c6 => ?_
     refine bind_ex (w6.rowo (i := 0) rfl) ?_
     obtain ⟨l7, e7, hp⟩ := bind_some' hp
     refine app_k (eInt .i64) w6 (i := 8) rfl rfl (sz.step (s1.trans (s5.trans s6))) c6 rfl rfl e7 fun a8 d8 H8 w8 s8 c8 x8 => ?_
     dsimp only [List.set] at w8 s8 c8
     obtain ⟨w9, s9⟩ := w8.pick' [2, 1, 3, 4, 5, 6, 7, 8] 9 rfl rfl rfl
     dsimp only [pk, pks, nth, List.drop] at w9 s9
     exact bm.j3_P (@ih) rfl rfl rfl rfl rfl rfl rfl ⟨w9, (s0.trans (s1.trans (s5.trans (s6.trans (s8.trans s9))))), (xy.step (s1.trans (s5.trans (s6.trans (s8.trans s9))))), (pN.step (s1.trans (s5.trans (s6.trans (s8.trans s9))))), (su.step (s1.trans (s5.trans (s6.trans (s8.trans s9))))), (sv.step (s1.trans (s5.trans (s6.trans (s8.trans s9))))), (sx.step (s1.trans (s5.trans (s6.trans (s8.trans s9))))), (sy.step (s1.trans (s5.trans (s6.trans (s8.trans s9))))), (c8.step s9)⟩ hp
    ·replace hp := bif_f hb hp
     obtain ⟨w10, s10⟩ := w5.pick' [1, 0, 2, 3, 4, 5, 6, 7] 8 rfl rfl rfl
     dsimp only [pk, pks, nth, List.drop] at w10 s10
     exact bm.j3_P (@ih) rfl rfl rfl rfl rfl rfl rfl ⟨w10, (s0.trans (s1.trans (s5.trans s10))), (xy.step (s1.trans (s5.trans s10))), (pN.step (s1.trans (s5.trans s10))), (su.step (s1.trans (s5.trans s10))), (sv.step (s1.trans (s5.trans s10))), (sx.step (s1.trans (s5.trans s10))), (sy.step (s1.trans (s5.trans s10))), (sz.step (s1.trans (s5.trans s10)))⟩ hp
   ·replace hp := bif_f hb hp
    obtain ⟨w11, s11⟩ := w0.pick' [1, 2, 3, 4, 5, 6, 7] 8 rfl rfl rfl
    dsimp only [pk, pks, nth, List.drop] at w11 s11
    exact bm.j2_P rfl rfl rfl rfl rfl rfl ⟨w11, (s0.trans s11), (pN.step s11), (su.step s11), (sv.step s11), (sx.step s11), (sy.step s11), (sz.step s11)⟩ hp
  ·replace hp := bif_f hb hp
   obtain ⟨w12, s12⟩ := w0.pick' [1, 2, 3, 4, 5, 6, 7] 8 rfl rfl rfl
   dsimp only [pk, pks, nth, List.drop] at w12 s12
   exact bm.j2_P rfl rfl rfl rfl rfl rfl ⟨w12, (s0.trans s12), (pN.step s12), (su.step s12), (sv.step s12), (sx.step s12), (sy.step s12), (sz.step s12)⟩ hp
def bm.p (F : Nat) (aa : Int) (ac : Int) (bk : List Int) : Option (List Int × Bool) := (aQ.p F aa ac bk).bind fun r2 => bm.pl61 F F aa ac r2.2.1 r2.2.2.1 r2.2.2.2.2.2.2.2.2.2.2.2.2.2.2.2 ([] : List Int) 0
theorem bm.P {F : Nat} {aa ac : Int} {cV : ON} {bK : Nat} {cW : Cap} {bk : List Int} {H : Hp} {R0 : List Rs} (fP : bK = bk.length) (h0 : Inn H R0 fun R => ROs (eInt .i64) H R ⟨cV, bK, cW⟩ bk) {r : List Int × Bool} (hp : bm.p F aa ac bk = some r) : ∃ v H', bm.tw F aa ac ⟨cV, bK, cW⟩ H = some (v, H') ∧ bm.Q H R0 R0  r v H' := by
 obtain ⟨w0, eM⟩ := h0
 subst fP
 unfold bm.p at hp
 unfold bm.tw bm.twX
 have s0 := w0.rf
 refine new_k w0 fun H1 w1 s1 => ?_
 refine bind_ex (ldI_of (w1.ld (i := 0) rfl rfl)) ?_
 refine bind_ex (ldI_of (w1.ld (i := 0) rfl rfl)) ?_
 refine bind_ex (ldSl_of (w1.ld (i := 0) rfl rfl)) ?_
 obtain ⟨r2, e2, hp⟩ := bind_some' hp
 refine call_ex (aQ.P rfl ⟨w1, (eM.step s1)⟩ e2) ?_
 rintro _ H3 ⟨o2a_3, o2n_3, o2c_3, o2k_3, o5a_3, o5n_3, o5c_3, o5k_3, o8a_3, o8n_3, o8c_3, o8k_3, o11a_3, o11n_3, o11c_3, o11k_3, o14a_3, o14n_3, o14c_3, o14k_3, ob0_3, rfl, rfl, rfl, rfl, rfl, rfl, w3, s3, f3_0, f3_1, f3_2, f3_3, f3_4⟩
 refine bind_ex rfl ?_
 refine newS_k (eInt .i64) w3 (n := 0) (l := ([] : List Int)) rfl CR.empty rfl fun H4 w4 s4 c4 => ?_
 obtain ⟨w5, s5⟩ := w4.pick' [7, 1, 2, 3, 4, 5, 6, 0] 8 rfl rfl rfl
 dsimp only [pk, pks, nth, List.drop] at w5 s5
 exact bm.l61_P F rfl rfl rfl rfl rfl rfl rfl ⟨w5, (s0.trans (s1.trans (s3.trans (s4.trans s5)))), (eM.step (s1.trans (s3.trans (s4.trans s5)))), (f3_0.step (s4.trans s5)), (f3_1.step (s4.trans s5)), (f3_2.step (s4.trans s5)), (f3_3.step (s4.trans s5)), (f3_4.step (s4.trans s5)), (c4.step s5)⟩ hp
def dJ.Q (H0 : Hp) (Ri R0 : List Rs)  (r : List Int × Int) (v : AV) (H' : Hp) : Prop := ∃ o0a : ON, ∃ o0n : Nat, ∃ o0c : Cap, ∃ o0k : List AV, v = (.tup [(.sl ⟨o0a, o0n, o0c⟩), (.int .i64 r.2)]) ∧ o0n = (r.1).length ∧ Out H0 Ri H' (Rs.own ⟨o0a, o0n, o0c⟩ (eInt .i64).z o0k :: R0) fun R => CR (eInt .i64) H' R o0k (r.1)
def dJ.p (F : Nat) (aa : Int) (ac : Int) (bk : List Int) : Option (List Int × Int) := (co.p F aa ac bk).bind fun r2 => (bif (!r2) then (some (([] : List Int), 1)) else ((bm.p F aa ac bk).bind fun r6 => (bif (!r6.2) then (some (([] : List Int), 3)) else (some (r6.1, 0)))))
theorem dJ.P {F : Nat} {aa ac : Int} {cV : ON} {bK : Nat} {cW : Cap} {bk : List Int} {H : Hp} {R0 : List Rs} (fP : bK = bk.length) (h0 : Inn H R0 fun R => ROs (eInt .i64) H R ⟨cV, bK, cW⟩ bk) {r : List Int × Int} (hp : dJ.p F aa ac bk = some r) : ∃ v H', dJ.tw F aa ac ⟨cV, bK, cW⟩ H = some (v, H') ∧ dJ.Q H R0 R0  r v H' := by
 obtain ⟨w0, eM⟩ := h0
 subst fP
 unfold dJ.p at hp
 unfold dJ.tw dJ.twX
 have s0 := w0.rf
 refine new_k w0 fun H1 w1 s1 => ?_
 refine bind_ex (ldI_of (w1.ld (i := 0) rfl rfl)) ?_
 refine bind_ex (ldI_of (w1.ld (i := 0) rfl rfl)) ?_
 refine bind_ex (ldSl_of (w1.ld (i := 0) rfl rfl)) ?_
 obtain ⟨r2, e2, hp⟩ := bind_some' hp
 refine call_ex (co.P rfl ⟨w1, (eM.step s1)⟩ e2) ?_
 rintro _ H3 ⟨rfl, w3, s3, _⟩
 refine bind_ex rfl ?_
 refine bif_ex (fun hb => ?_) (fun hb => ?_)
 ·replace hp := bif_t hb hp
  refine newS_k (eInt .i64) w3 (n := 0) (l := ([] : List Int)) rfl CR.empty rfl fun H4 w4 s4 c4 => ?_
  obtain ⟨w5, s5⟩ := w4.pick' [0] 2 rfl rfl rfl
  dsimp only [pk, pks, nth, List.drop] at w5 s5
  obtain rfl := Option.some.inj hp
  exact ⟨_, _, rfl, _, _, _, _, rfl, rfl, w5, (s0.trans (s1.trans (s3.trans (s4.trans s5)))), (c4.step s5)⟩
 ·replace hp := bif_f hb hp
  refine bind_ex (ldI_of (w3.ld (i := 0) rfl rfl)) ?_
  refine bind_ex (ldI_of (w3.ld (i := 0) rfl rfl)) ?_
  refine bind_ex (ldSl_of (w3.ld (i := 0) rfl rfl)) ?_
  obtain ⟨r6, e6, hp⟩ := bind_some' hp
  refine call_ex (bm.P rfl ⟨w3, (eM.step (s1.trans s3))⟩ e6) ?_
  rintro _ H7 ⟨o0a_7, o0n_7, o0c_7, o0k_7, rfl, rfl, w7, s7, f7_0⟩
  refine bind_ex rfl ?_
  refine bind_ex rfl ?_
  refine bind_ex rfl ?_
  refine bind_ex rfl ?_
  refine bind_ex rfl ?_
  refine bif_ex (fun hb => ?_) (fun hb => ?_)
  ·replace hp := bif_t hb hp
   refine newS_k (eInt .i64) w7 (n := 0) (l := ([] : List Int)) rfl CR.empty rfl fun H8 w8 s8 c8 => ?_
   obtain ⟨w9, s9⟩ := w8.pick' [0] 3 rfl rfl rfl
   dsimp only [pk, pks, nth, List.drop] at w9 s9
   obtain rfl := Option.some.inj hp
   exact ⟨_, _, rfl, _, _, _, _, rfl, rfl, w9, (s0.trans (s1.trans (s3.trans (s7.trans (s8.trans s9))))), (c8.step s9)⟩
  ·replace hp := bif_f hb hp
   obtain ⟨w10, s10⟩ := w7.pick' [0] 2 rfl rfl rfl
   dsimp only [pk, pks, nth, List.drop] at w10 s10
   obtain rfl := Option.some.inj hp
   exact ⟨_, _, rfl, _, _, _, _, rfl, rfl, w10, (s0.trans (s1.trans (s3.trans (s7.trans s10)))), (f7_0.step s10)⟩
def dj.Q (H0 : Hp) (Ri R0 : List Rs)  (r : Bool) (v : AV) (H' : Hp) : Prop := v = (.bool r) ∧ Out H0 Ri H' (R0) fun R => True
def dj.p (F : Nat) (aa : Int) (ag : Int) (cJ : Int) : Option (Bool) := (bif (decide (ag ≤ aa)) then (some (decide (aa ≤ cJ))) else (some false))
theorem dj.P {F : Nat} {aa ag cJ : Int} {H : Hp} {R0 : List Rs}  (h0 : Inn H R0 fun R => True) {r : Bool} (hp : dj.p F aa ag cJ = some r) : ∃ v H', dj.tw F aa ag cJ H = some (v, H') ∧ dj.Q H R0 R0  r v H' := by
 obtain ⟨w0, _⟩ := h0
 unfold dj.p at hp
 unfold dj.tw dj.twX
 have s0 := w0.rf
 refine bif_ex (fun hb => ?_) (fun hb => ?_)
 ·replace hp := bif_t hb hp
  obtain rfl := Option.some.inj hp
  exact ⟨_, _, rfl, rfl, w0, s0, trivial⟩
 ·replace hp := bif_f hb hp
  obtain rfl := Option.some.inj hp
  exact ⟨_, _, rfl, rfl, w0, s0, trivial⟩
def ed.Q (H0 : Hp) (Ri R0 : List Rs)  (r : Int) (v : AV) (H' : Hp) : Prop := v = (.int .i64 r) ∧ Out H0 Ri H' (R0) fun R => True
def ed.p (F : Nat) (cS : List Int) : Option (Int) := some (cS.length : Int)
theorem ed.P {F : Nat} {fr : ON} {eo : Nat} {ft : Cap} {cS : List Int} {H : Hp} {R0 : List Rs} (gU : eo = cS.length) (h0 : Inn H R0 fun R => ROs (eInt .i64) H R ⟨fr, eo, ft⟩ cS) {r : Int} (hp : ed.p F cS = some r) : ∃ v H', ed.tw F ⟨fr, eo, ft⟩ H = some (v, H') ∧ ed.Q H R0 R0  r v H' := by
 obtain ⟨w0, iW⟩ := h0
 subst gU
 unfold ed.p at hp
 unfold ed.tw ed.twX
 have s0 := w0.rf
 obtain rfl := Option.some.inj hp
 exact ⟨_, _, rfl, rfl, w0, s0, trivial⟩
def dK.Q (H0 : Hp) (Ri R0 : List Rs)  (r : Bool) (v : AV) (H' : Hp) : Prop := v = (.bool r) ∧ Out H0 Ri H' (R0) fun R => True
def dK.p (F : Nat) (aa : Int) : Option (Bool) := (dj.p F aa (-1000000000000) 1000000000000).bind fun r1 => some (!r1)
theorem dK.P {F : Nat} {aa : Int} {H : Hp} {R0 : List Rs}  (h0 : Inn H R0 fun R => True) {r : Bool} (hp : dK.p F aa = some r) : ∃ v H', dK.tw F aa H = some (v, H') ∧ dK.Q H R0 R0  r v H' := by
 obtain ⟨w0, _⟩ := h0
 unfold dK.p at hp
 unfold dK.tw dK.twX
 have s0 := w0.rf
 obtain ⟨r1, e1, hp⟩ := bind_some' hp
 refine call_ex (dj.P ⟨w0, trivial⟩ e1) ?_
 rintro _ H2 ⟨rfl, w2, s2, _⟩
 refine bind_ex rfl ?_
 obtain rfl := Option.some.inj hp
 exact ⟨_, _, rfl, rfl, w2, (s0.trans s2), trivial⟩
def cw.Q (H0 : Hp) (Ri R0 : List Rs)  (r : Int) (v : AV) (H' : Hp) : Prop := v = (.int .i64 r) ∧ Out H0 Ri H' (R0) fun R => True
def cw.S13 (H0 : Hp) (Ri R0 : List Rs)  (C : Sl → Int → Int → Hp → OA) (pC : List Int → Int → Int → Option (Int)) : Prop := ∀ {mx : ON} {lF : Nat} {mz : Cap} {jJ : List Int} {fN e_ : Int}, ∀ {H : Hp}, lF = jJ.length → (Out H0 Ri H R0 fun R => ROs (eInt .i64) H R ⟨mx, lF, mz⟩ jJ) → ∀ {r : Int}, pC jJ fN e_ = some r → ∃ v H', C ⟨mx, lF, mz⟩ fN e_ H = some (v, H') ∧ cw.Q H0 Ri R0  r v H'
def cw.pl13 (F : Nat)  : Nat → List Int → Int → Int → Option (Int)
 | 0, _, _, _ => none
 | k + 1, jJ, fN, e_ => (bif (decide (e_ < fN)) then ((ix jJ e_).bind fun n1 => (dK.p F (gt jJ n1)).bind fun r2 => (bif r2 then (some e_) else (cw.pl13 F k jJ fN (IntKind.i64.wrap (e_ + 1))))) else (some (-1)))
termination_by structural n => n
theorem cw.l13_P {F : Nat} {H0 : Hp} {Ri R0 : List Rs}   : ∀ k, cw.S13 H0 Ri R0  (cw.l13 F (dK.tw F)  k) (cw.pl13 F  k) := by
 intro k
 induction k with
 | zero =>
  intro mx lF mz jJ fN e_ H pO h0 r hp
  exact nomatch (show (none : Option (Int)) = some r from hp)
 | succ k ih =>
  intro mx lF mz jJ fN e_ H pO h0 r hp
  obtain ⟨w0, s0, pP⟩ := h0
  subst pO
  unfold cw.pl13 at hp
  unfold cw.l13
  refine bif_ex (fun hb => ?_) (fun hb => ?_)
  ·replace hp := bif_t hb hp
   obtain ⟨n1, g1, hp⟩ := bind_some' hp
   obtain ⟨p1, q1, i1, h1, j1⟩ := ROs.ixr pP rfl g1
   refine bind_ex i1 ?_
   have h1 : _ = [_] := h1
   subst h1
   refine bind_ex (ldI_of (j1 0 _ rfl)) ?_
   obtain ⟨r2, e2, hp⟩ := bind_some' hp
   refine call_ex (dK.P ⟨w0, trivial⟩ e2) ?_
   rintro _ H3 ⟨rfl, w3, s3, _⟩
   refine bind_ex rfl ?_
   refine bif_ex (fun hb => ?_) (fun hb => ?_)
   ·replace hp := bif_t hb hp
    obtain rfl := Option.some.inj hp
    exact ⟨_, _, rfl, rfl, w3, (s0.trans s3), trivial⟩
   ·replace hp := bif_f hb hp
    exact ih rfl ⟨w3, (s0.trans s3), (pP.step s3)⟩ hp
  ·replace hp := bif_f hb hp
   obtain rfl := Option.some.inj hp
   exact ⟨_, _, rfl, rfl, w0, s0, trivial⟩
def cw.p (F : Nat) (cS : List Int) : Option (Int) := cw.pl13 F F cS (cS.length : Int) 0
theorem cw.P {F : Nat} {fr : ON} {eo : Nat} {ft : Cap} {cS : List Int} {H : Hp} {R0 : List Rs} (gU : eo = cS.length) (h0 : Inn H R0 fun R => ROs (eInt .i64) H R ⟨fr, eo, ft⟩ cS) {r : Int} (hp : cw.p F cS = some r) : ∃ v H', cw.tw F ⟨fr, eo, ft⟩ H = some (v, H') ∧ cw.Q H R0 R0  r v H' := by
 obtain ⟨w0, iW⟩ := h0
 subst gU
 unfold cw.p at hp
 unfold cw.tw cw.twX
 have s0 := w0.rf
 exact cw.l13_P F rfl ⟨w0, s0, iW⟩ hp
def dU.Q (H0 : Hp) (Ri R0 : List Rs)  (r : Bool) (v : AV) (H' : Hp) : Prop := v = (.bool r) ∧ Out H0 Ri H' (R0) fun R => True
def dU.p (F : Nat) (cS : List Int) : Option (Bool) := (cw.p F cS).bind fun r1 => some (decide (r1 ≥ 0))
theorem dU.P {F : Nat} {fr : ON} {eo : Nat} {ft : Cap} {cS : List Int} {H : Hp} {R0 : List Rs} (gU : eo = cS.length) (h0 : Inn H R0 fun R => ROs (eInt .i64) H R ⟨fr, eo, ft⟩ cS) {r : Bool} (hp : dU.p F cS = some r) : ∃ v H', dU.tw F ⟨fr, eo, ft⟩ H = some (v, H') ∧ dU.Q H R0 R0  r v H' := by
 obtain ⟨w0, iW⟩ := h0
 subst gU
 unfold dU.p at hp
 unfold dU.tw dU.twX
 have s0 := w0.rf
 obtain ⟨r1, e1, hp⟩ := bind_some' hp
 refine call_ex (cw.P rfl ⟨w0, iW⟩ e1) ?_
 rintro _ H2 ⟨rfl, w2, s2, _⟩
 refine bind_ex rfl ?_
 obtain rfl := Option.some.inj hp
 exact ⟨_, _, rfl, rfl, w2, (s0.trans s2), trivial⟩
def dL.Q (H0 : Hp) (Ri R0 : List Rs)  (r : Bool) (v : AV) (H' : Hp) : Prop := v = (.bool r) ∧ Out H0 Ri H' (R0) fun R => True
def dL.p (F : Nat) (aa : Int) (ac : Int) (bk : List Int) : Option (Bool) := (dj.p F aa 0 48).bind fun r2 => (bif r2 then ((dj.p F ac 0 48).bind fun r4 => (bif r4 then ((ed.p F bk).bind fun r6 => (bif (r6 == (IntKind.i64.wrap (aa * ac))) then ((dU.p F bk).bind fun r9 => some (!r9)) else (some false))) else (some false))) else (some false))
theorem dL.P {F : Nat} {aa ac : Int} {cV : ON} {bK : Nat} {cW : Cap} {bk : List Int} {H : Hp} {R0 : List Rs} (fP : bK = bk.length) (h0 : Inn H R0 fun R => ROs (eInt .i64) H R ⟨cV, bK, cW⟩ bk) {r : Bool} (hp : dL.p F aa ac bk = some r) : ∃ v H', dL.tw F aa ac ⟨cV, bK, cW⟩ H = some (v, H') ∧ dL.Q H R0 R0  r v H' := by
 obtain ⟨w0, eM⟩ := h0
 subst fP
 unfold dL.p at hp
 unfold dL.tw dL.twX
 have s0 := w0.rf
 refine new_k w0 fun H1 w1 s1 => ?_
 refine bind_ex (ldI_of (w1.ld (i := 0) rfl rfl)) ?_
 obtain ⟨r2, e2, hp⟩ := bind_some' hp
 refine call_ex (dj.P ⟨w1, trivial⟩ e2) ?_
 rintro _ H3 ⟨rfl, w3, s3, _⟩
 refine bind_ex rfl ?_
 refine bif_ex (fun hb => ?_) (fun hb => ?_)
 ·replace hp := bif_t hb hp
  refine bind_ex (ldI_of (w3.ld (i := 0) rfl rfl)) ?_
  obtain ⟨r4, e4, hp⟩ := bind_some' hp
  refine call_ex (dj.P ⟨w3, trivial⟩ e4) ?_
  rintro _ H5 ⟨rfl, w5, s5, _⟩
  refine bind_ex rfl ?_
  refine bif_ex (fun hb => ?_) (fun hb => ?_)
  ·replace hp := bif_t hb hp
   refine bind_ex (ldSl_of (w5.ld (i := 0) rfl rfl)) ?_
   obtain ⟨r6, e6, hp⟩ := bind_some' hp
   refine call_ex (ed.P rfl ⟨w5, (eM.step (s1.trans (s3.trans s5)))⟩ e6) ?_
   rintro _ H7 ⟨rfl, w7, s7, _⟩
   refine bind_ex rfl ?_
   refine ifs_ex (W.cons_of (Rn := []) w5 w7 s7) ?_
   refine bind_ex (ldI_of (w7.ld (i := 0) rfl rfl)) ?_
   refine bind_ex (ldI_of (w7.ld (i := 0) rfl rfl)) ?_
   refine bif_ex (fun hb => ?_) (fun hb => ?_)
   ·replace hp := bif_t hb hp
    refine bind_ex (ldSl_of (w7.ld (i := 0) rfl rfl)) ?_
    obtain ⟨r9, e9, hp⟩ := bind_some' hp
    refine call_ex (dU.P rfl ⟨w7, (eM.step (s1.trans (s3.trans (s5.trans s7))))⟩ e9) ?_
    rintro _ H10 ⟨rfl, w10, s10, _⟩
    refine bind_ex rfl ?_
    obtain ⟨w11, s11⟩ := w10.pick' [] 1 rfl rfl rfl
    dsimp only [pk, pks, nth, List.drop] at w11 s11
    obtain rfl := Option.some.inj hp
    exact ⟨_, _, rfl, rfl, w11, (s0.trans (s1.trans (s3.trans (s5.trans (s7.trans (s10.trans s11)))))), trivial⟩
   ·replace hp := bif_f hb hp
    obtain ⟨w12, s12⟩ := w7.pick' [] 1 rfl rfl rfl
    dsimp only [pk, pks, nth, List.drop] at w12 s12
    obtain rfl := Option.some.inj hp
    exact ⟨_, _, rfl, rfl, w12, (s0.trans (s1.trans (s3.trans (s5.trans (s7.trans s12))))), trivial⟩
  ·replace hp := bif_f hb hp
   obtain ⟨w13, s13⟩ := w5.pick' [] 1 rfl rfl rfl
   dsimp only [pk, pks, nth, List.drop] at w13 s13
   obtain rfl := Option.some.inj hp
   exact ⟨_, _, rfl, rfl, w13, (s0.trans (s1.trans (s3.trans (s5.trans s13)))), trivial⟩
 ·replace hp := bif_f hb hp
  obtain ⟨w14, s14⟩ := w3.pick' [] 1 rfl rfl rfl
  dsimp only [pk, pks, nth, List.drop] at w14 s14
  obtain rfl := Option.some.inj hp
  exact ⟨_, _, rfl, rfl, w14, (s0.trans (s1.trans (s3.trans s14))), trivial⟩
def dV.Q (H0 : Hp) (Ri R0 : List Rs)  (r : Int × Int × List Int) (v : AV) (H' : Hp) : Prop := ∃ o2a : ON, ∃ o2n : Nat, ∃ o2k : List AV, v = (.agg [(.int .i64 r.1), (.int .i64 r.2.1), (.sl ⟨o2a, o2n, .ex o2n⟩)]) ∧ o2n = (r.2.2).length ∧ Out H0 Ri H' (Rs.own ⟨o2a, o2n, .ex o2n⟩ (eInt .i64).z o2k :: R0) fun R => CR (eInt .i64) H' R o2k (r.2.2)
def dV.p (F : Nat) (aa : Int) (ag : Int) : Option (Int × Int × List Int) := (mkn (IntKind.i64.wrap (aa * ag)) (0 : Int)).bind fun l2 => some (aa, ag, l2)
theorem dV.P {F : Nat} {aa ag : Int} {H : Hp} {R0 : List Rs}  (h0 : Inn H R0 fun R => True) {r : Int × Int × List Int} (hp : dV.p F aa ag = some r) : ∃ v H', dV.tw F aa ag H = some (v, H') ∧ dV.Q H R0 R0  r v H' := by
 obtain ⟨w0, _⟩ := h0
 unfold dV.p at hp
 unfold dV.tw dV.twX
 have s0 := w0.rf
 refine new_k w0 fun H1 w1 s1 => ?_
 obtain ⟨l2, e2, hp⟩ := bind_some' hp
 refine mk_k (eInt .i64) (0 : Int) w1 rfl rfl rfl e2 fun H3 k3 w3 s3 c3 => ?_
 refine st_k w3 (i := 1) rfl rfl rfl fun H4 w4 s4 => ?_
 dsimp only [List.set] at w4 s4
 refine st_k w4 (i := 1) rfl rfl rfl fun H5 w5 s5 => ?_
 dsimp only [List.set] at w5 s5
 refine st_k w5 (i := 1) rfl rfl rfl fun H6 w6 s6 => ?_
 dsimp only [List.set] at w6 s6
 refine bind_ex (ldI_of (w6.ld (i := 1) rfl rfl)) ?_
 refine bind_ex (ldI_of (w6.ld (i := 1) rfl rfl)) ?_
 refine bind_ex (ldSl_of (w6.ld (i := 1) rfl rfl)) ?_
 obtain ⟨w7, s7⟩ := w6.pick' [0] 2 rfl rfl rfl
 dsimp only [pk, pks, nth, List.drop] at w7 s7
 obtain rfl := Option.some.inj hp
 exact ⟨_, _, rfl, _, _, _, rfl, rfl, w7, (s0.trans (s1.trans (s3.trans (s4.trans (s5.trans (s6.trans s7)))))), (c3.step (s4.trans (s5.trans (s6.trans s7))))⟩
def bN.Q (H0 : Hp) (Ri R0 : List Rs)  (r : Int × Int × List Int) (v : AV) (H' : Hp) : Prop := ∃ o2a : ON, ∃ o2n : Nat, ∃ o2c : Cap, ∃ o2k : List AV, v = (.agg [(.int .i64 r.1), (.int .i64 r.2.1), (.sl ⟨o2a, o2n, o2c⟩)]) ∧ o2n = (r.2.2).length ∧ Out H0 Ri H' (Rs.own ⟨o2a, o2n, o2c⟩ (eInt .i64).z o2k :: R0) fun R => CR (eInt .i64) H' R o2k (r.2.2)
def bN.S29 (H0 : Hp) (Ri R0 : List Rs)  (C : Nat → Nat → Nat → Nat → Int → Int → Hp → OA) (pC : Int → Int → List Int → Int → Int → Option (Int × Int × List Int)) : Prop := ∀ {nh ni ko kj jv iF : Int} {lT lU : ON} {ly ch lz fo : Nat} {lV lW : Cap} {lX jy : List Int} {lY lZ : List AV}, ∀ {H : Hp}, ly = lX.length → lz = jy.length → (Out H0 Ri H (Rs.own ⟨lT, ly, lV⟩ (eInt .i64).z lY :: Rs.blk ch [.int .i64 nh, .int .i64 ni, .sl ⟨lT, ly, lV⟩] :: Rs.own ⟨lU, lz, lW⟩ (eInt .i64).z lZ :: Rs.blk fo [.int .i64 ko, .int .i64 kj, .sl ⟨lU, lz, lW⟩] :: R0) fun R => CR (eInt .i64) H R lY lX ∧ CR (eInt .i64) H R lZ jy) → ∀ {r : Int × Int × List Int}, pC ko kj jy jv iF = some r → ∃ v H', C ch 0 fo 0 jv iF H = some (v, H') ∧ bN.Q H0 Ri R0  r v H'
def bN.pl29 (F : Nat)  : Nat → Int → Int → List Int → Int → Int → Option (Int × Int × List Int)
 | 0, _, _, _, _, _ => none
 | k + 1, ko, kj, jy, jv, iF => (bif (decide (iF < jv)) then ((ix jy (IntKind.i64.wrap ((IntKind.i64.wrap (iF * kj)) + iF))).bind fun n2 => (some (jy.set n2 1)).bind fun l3 => bN.pl29 F k ko kj l3 jv (IntKind.i64.wrap (iF + 1))) else (some (ko, kj, jy)))
termination_by structural n => n
theorem bN.l29_P {F : Nat} {H0 : Hp} {Ri R0 : List Rs}   : ∀ k, bN.S29 H0 Ri R0  (bN.l29 F (dV.tw F) (aO.tw F)  k) (bN.pl29 F  k) := by
 intro k
 induction k with
 | zero =>
  intro nh ni ko kj jv iF lT lU ly ch lz fo lV lW lX jy lY lZ H pe pf h0 r hp
  exact nomatch (show (none : Option (Int × Int × List Int)) = some r from hp)
 | succ k ih =>
  intro nh ni ko kj jv iF lT lU ly ch lz fo lV lW lX jy lY lZ H pe pf h0 r hp
  obtain ⟨w0, s0, tF, nj⟩ := h0
  subst pe
  subst pf
  unfold bN.pl29 at hp
  unfold bN.l29
  refine bif_ex (fun hb => ?_) (fun hb => ?_)
  ·replace hp := bif_t hb hp
   refine bind_ex (ldI_of (w0.ld (i := 3) rfl rfl)) ?_
   refine bind_ex (ldI_of (w0.ld (i := 3) rfl rfl)) ?_
   refine bind_ex (ldSl_of (w0.ld (i := 3) rfl rfl)) ?_
   refine aO.inl ?_
   refine new_k w0 fun H1 w1 s1 => ?_
   refine bind_ex (ldSl_of (w1.ld (i := 0) rfl rfl)) ?_
   refine bind_ex (ldI_of (w1.ld (i := 0) rfl rfl)) ?_
   obtain ⟨n2, g2, hp⟩ := bind_some' hp
   obtain ⟨p2, q2, i2, h2, j2⟩ := W.ixo (E := (eInt .i64)) w1 (i := 3) rfl rfl (nj.step s1) g2
   refine bind_ex i2 ?_
   refine ⟨_, _, rfl, ?_⟩
   refine bind_ex rfl ?_
   obtain ⟨l3, e3, hp⟩ := bind_some' hp
   refine sto_k (eInt .i64) w1 (i := 3) (j := 0) (p := p2) rfl rfl (nj.step s1) g2 i2 e3 rfl rfl (fun _ h => by have h : _ = [_] := h; subst h; exact rfl) fun H4 k4 w4 s4 c4 => ?_
   dsimp only [List.set] at w4 s4 c4
   obtain ⟨w5, s5⟩ := w4.pick' [1, 2, 3, 4] 5 rfl rfl rfl
   dsimp only [pk, pks, nth, List.drop] at w5 s5
   exact ih rfl ((st_len e3).symm) ⟨w5, (s0.trans (s1.trans (s4.trans s5))), (tF.step (s1.trans (s4.trans s5))), (c4.step s5)⟩ hp
  ·replace hp := bif_f hb hp
   refine bind_ex (ldI_of (w0.ld (i := 3) rfl rfl)) ?_
   refine bind_ex (ldI_of (w0.ld (i := 3) rfl rfl)) ?_
   refine bind_ex (ldSl_of (w0.ld (i := 3) rfl rfl)) ?_
   refine st_k w0 (i := 1) rfl rfl rfl fun H6 w6 s6 => ?_
   dsimp only [List.set] at w6 s6
   refine st_k w6 (i := 1) rfl rfl rfl fun H7 w7 s7 => ?_
   dsimp only [List.set] at w7 s7
   refine st_k w7 (i := 1) rfl rfl rfl fun H8 w8 s8 => ?_
   dsimp only [List.set] at w8 s8
   refine bind_ex (ldI_of (w8.ld (i := 1) rfl rfl)) ?_
   refine bind_ex (ldI_of (w8.ld (i := 1) rfl rfl)) ?_
   refine bind_ex (ldSl_of (w8.ld (i := 1) rfl rfl)) ?_
   obtain ⟨w9, s9⟩ := w8.pick' [2] 4 rfl rfl rfl
   dsimp only [pk, pks, nth, List.drop] at w9 s9
   obtain rfl := Option.some.inj hp
   exact ⟨_, _, rfl, _, _, _, _, rfl, rfl, w9, (s0.trans (s6.trans (s7.trans (s8.trans s9)))), (nj.step (s6.trans (s7.trans (s8.trans s9))))⟩
def bN.p (F : Nat) (aa : Int) : Option (Int × Int × List Int) := (dV.p F aa aa).bind fun r2 => bN.pl29 F F r2.1 r2.2.1 r2.2.2 aa 0
theorem bN.P {F : Nat} {aa : Int} {H : Hp} {R0 : List Rs}  (h0 : Inn H R0 fun R => True) {r : Int × Int × List Int} (hp : bN.p F aa = some r) : ∃ v H', bN.tw F aa H = some (v, H') ∧ bN.Q H R0 R0  r v H' := by
 obtain ⟨w0, _⟩ := h0
 unfold bN.p at hp
 unfold bN.tw bN.twX
 have s0 := w0.rf
 refine new_k w0 fun H1 w1 s1 => ?_
 obtain ⟨r2, e2, hp⟩ := bind_some' hp
 refine call_ex (dV.P ⟨w1, trivial⟩ e2) ?_
 rintro _ H3 ⟨o2a_3, o2n_3, o2k_3, rfl, rfl, w3, s3, f3_0⟩
 refine bind_ex rfl ?_
 refine bind_ex rfl ?_
 refine bind_ex rfl ?_
 refine bind_ex rfl ?_
 refine bind_ex rfl ?_
 refine bind_ex rfl ?_
 refine bind_ex rfl ?_
 refine new_k w3 fun H4 w4 s4 => ?_
 refine st_k w4 (i := 0) rfl rfl rfl fun H5 w5 s5 => ?_
 dsimp only [List.set] at w5 s5
 refine st_k w5 (i := 0) rfl rfl rfl fun H6 w6 s6 => ?_
 dsimp only [List.set] at w6 s6
 refine st_k w6 (i := 0) rfl rfl rfl fun H7 w7 s7 => ?_
 dsimp only [List.set] at w7 s7
 obtain ⟨w8, s8⟩ := w7.nilS (eInt .i64).z (by decide)
 obtain ⟨w9, s9⟩ := w8.pick' [0, 3, 2, 1] 4 rfl rfl rfl
 dsimp only [pk, pks, nth, List.drop] at w9 s9
 exact bN.l29_P F rfl rfl ⟨w9, (s0.trans (s1.trans (s3.trans (s4.trans (s5.trans (s6.trans (s7.trans (s8.trans s9)))))))), ((CR.empty : CR (eInt .i64) _ _ [] []).step s9), (f3_0.step (s4.trans (s5.trans (s6.trans (s7.trans (s8.trans s9))))))⟩ hp
def ee.Q (H0 : Hp) (Ri R0 : List Rs)  (r : List Int) (v : AV) (H' : Hp) : Prop := ∃ o0a : ON, ∃ o0n : Nat, ∃ o0c : Cap, ∃ o0k : List AV, v = (.sl ⟨o0a, o0n, o0c⟩) ∧ o0n = (r).length ∧ Out H0 Ri H' (Rs.own ⟨o0a, o0n, o0c⟩ (eInt .i64).z o0k :: R0) fun R => CR (eInt .i64) H' R o0k (r)
def ee.p (F : Nat) (cS : List Int) : Option (List Int) := apn ([] : List Int) cS
theorem ee.P {F : Nat} {fr : ON} {eo : Nat} {ft : Cap} {cS : List Int} {H : Hp} {R0 : List Rs} (gU : eo = cS.length) (h0 : Inn H R0 fun R => ROs (eInt .i64) H R ⟨fr, eo, ft⟩ cS) {r : List Int} (hp : ee.p F cS = some r) : ∃ v H', ee.tw F ⟨fr, eo, ft⟩ H = some (v, H') ∧ ee.Q H R0 R0  r v H' := by
 obtain ⟨w0, f0⟩ := h0
 subst gU
 unfold ee.p at hp
 unfold ee.tw ee.twX
 have s0 := w0.rf
 refine bif_ex (fun hb => ?_) (fun hb => ?_)
 ·obtain ⟨w1, s1⟩ := w0.nilS (eInt .i64).z (by decide)
  obtain rfl := ROs.none_nil f0 (Option.isNone_iff_eq_none.1 hb)
  obtain rfl : r = [] := (apn_some hp).2
  exact ⟨_, _, rfl, none, 0, .ex 0, [], rfl, rfl, w1, s0.trans s1, CR.empty⟩
 ·refine newS_k (eInt .i64) w0 (n := 0) (l := []) rfl CR.empty rfl fun H2 w2 s2 c2 => ?_
  obtain ⟨xs, hx, cx⟩ := (f0.step s2).row rfl
  refine bind_ex hx ?_
  refine app_k (eInt .i64) w2 (i := 0) rfl rfl c2 cx rfl rfl hp fun a d H3 w3 s3 c3 _ => ?_
  dsimp only [List.set] at w3 s3 c3
  exact ⟨_, _, rfl, _, _, _, _, rfl, rfl, w3, s0.trans (s2.trans s3), c3⟩
def dM.Q (H0 : Hp) (Ri R0 : List Rs)  (r : Int × Int × List Int) (v : AV) (H' : Hp) : Prop := ∃ o2a : ON, ∃ o2n : Nat, ∃ o2c : Cap, ∃ o2k : List AV, v = (.agg [(.int .i64 r.1), (.int .i64 r.2.1), (.sl ⟨o2a, o2n, o2c⟩)]) ∧ o2n = (r.2.2).length ∧ Out H0 Ri H' (Rs.own ⟨o2a, o2n, o2c⟩ (eInt .i64).z o2k :: R0) fun R => CR (eInt .i64) H' R o2k (r.2.2)
def dM.p (F : Nat) (aa : Int) (ac : Int) (bk : List Int) : Option (Int × Int × List Int) := (ee.p F bk).bind fun r3 => some (aa, ac, r3)
theorem dM.P {F : Nat} {aa ac : Int} {cV : ON} {bK : Nat} {cW : Cap} {bk : List Int} {H : Hp} {R0 : List Rs} (fP : bK = bk.length) (h0 : Inn H R0 fun R => ROs (eInt .i64) H R ⟨cV, bK, cW⟩ bk) {r : Int × Int × List Int} (hp : dM.p F aa ac bk = some r) : ∃ v H', dM.tw F aa ac ⟨cV, bK, cW⟩ H = some (v, H') ∧ dM.Q H R0 R0  r v H' := by
 obtain ⟨w0, eM⟩ := h0
 subst fP
 unfold dM.p at hp
 unfold dM.tw dM.twX
 have s0 := w0.rf
 refine new_k w0 fun H1 w1 s1 => ?_
 refine new_k w1 fun H2 w2 s2 => ?_
 refine bind_ex (ldSl_of (w2.ld (i := 1) rfl rfl)) ?_
 obtain ⟨r3, e3, hp⟩ := bind_some' hp
 refine call_ex (ee.P rfl ⟨w2, (eM.step (s1.trans s2))⟩ e3) ?_
 rintro _ H4 ⟨o0a_4, o0n_4, o0c_4, o0k_4, rfl, rfl, w4, s4, f4_0⟩
 refine bind_ex rfl ?_
 refine st_k w4 (i := 2) rfl rfl rfl fun H5 w5 s5 => ?_
 dsimp only [List.set] at w5 s5
 refine bind_ex (ldI_of (w5.ld (i := 2) rfl rfl)) ?_
 refine bind_ex (ldI_of (w5.ld (i := 2) rfl rfl)) ?_
 refine bind_ex (ldSl_of (w5.ld (i := 2) rfl rfl)) ?_
 refine st_k w5 (i := 1) rfl rfl rfl fun H6 w6 s6 => ?_
 dsimp only [List.set] at w6 s6
 refine st_k w6 (i := 1) rfl rfl rfl fun H7 w7 s7 => ?_
 dsimp only [List.set] at w7 s7
 refine st_k w7 (i := 1) rfl rfl rfl fun H8 w8 s8 => ?_
 dsimp only [List.set] at w8 s8
 refine bind_ex (ldI_of (w8.ld (i := 1) rfl rfl)) ?_
 refine bind_ex (ldI_of (w8.ld (i := 1) rfl rfl)) ?_
 refine bind_ex (ldSl_of (w8.ld (i := 1) rfl rfl)) ?_
 obtain ⟨w9, s9⟩ := w8.pick' [0] 3 rfl rfl rfl
 dsimp only [pk, pks, nth, List.drop] at w9 s9
 obtain rfl := Option.some.inj hp
 exact ⟨_, _, rfl, _, _, _, _, rfl, rfl, w9, (s0.trans (s1.trans (s2.trans (s4.trans (s5.trans (s6.trans (s7.trans (s8.trans s9)))))))), (f4_0.step (s5.trans (s6.trans (s7.trans (s8.trans s9)))))⟩
def cj.Q (H0 : Hp) (Ri R0 : List Rs)  (r : Int) (v : AV) (H' : Hp) : Prop := v = (.int .i64 r) ∧ Out H0 Ri H' (R0) fun R => True
def cj.p (F : Nat) (aa : Int) : Option (Int) := (bif (decide (aa < 0)) then (some (IntKind.i64.wrap (0 - aa))) else (some aa))
theorem cj.P {F : Nat} {aa : Int} {H : Hp} {R0 : List Rs}  (h0 : Inn H R0 fun R => True) {r : Int} (hp : cj.p F aa = some r) : ∃ v H', cj.tw F aa H = some (v, H') ∧ cj.Q H R0 R0  r v H' := by
 obtain ⟨w0, _⟩ := h0
 unfold cj.p at hp
 unfold cj.tw cj.twX
 have s0 := w0.rf
 refine bif_ex (fun hb => ?_) (fun hb => ?_)
 ·replace hp := bif_t hb hp
  obtain rfl := Option.some.inj hp
  exact ⟨_, _, rfl, rfl, w0, s0, trivial⟩
 ·replace hp := bif_f hb hp
  obtain rfl := Option.some.inj hp
  exact ⟨_, _, rfl, rfl, w0, s0, trivial⟩
def aI.Q (H0 : Hp) (Ri R0 : List Rs) (bj aX bl bb aY aT bc bf bv bg : Int) (eg c_ da db : Sl) (cp : ON) (bA aa : Nat) (cq : Cap) (df : List Int) (ax : Bool) (r : Int × Int × Bool) (v : AV) (H' : Hp) : Prop := v = (.tup [(.int .i64 r.1), (.int .i64 r.2.1), (.bool r.2.2)]) ∧ Out H0 Ri H' (Rs.blk aa [.int .i64 bj, .int .i64 aX, .sl eg, .int .i64 bl, .int .i64 bb, .sl c_, .int .i64 aY, .int .i64 aT, .sl ⟨cp, bA, cq⟩, .int .i64 bc, .int .i64 bf, .sl da, .int .i64 bv, .int .i64 bg, .sl db, .bool ax] :: R0) fun R => True
def aI.S29 (H0 : Hp) (Ri R0 : List Rs) (ay aj aA ap aq ao au av aH aw : Int) (eh cG cH cI : Sl) (aM : ON) (aB az : Nat) (aN : Cap) (cg : List Int) (bw : Bool) (C : Int → Int → Int → Bool → Nat → Nat → Int → Hp → OA) (pC : Int → Int → Int → Bool → Int → Int → List Int → Int → Option (Int × Int × Bool)) : Prop := ∀ {cU eL fp nC oX jQ : Int} {jg : Bool} {kf : Nat}, ∀ {H : Hp}, aB = cg.length → (Out H0 Ri H (Rs.blk kf [.int .i64 nC, .int .i64 oX, .sl ⟨aM, aB, aN⟩] :: Rs.blk az [.int .i64 ay, .int .i64 aj, .sl eh, .int .i64 aA, .int .i64 ap, .sl cG, .int .i64 aq, .int .i64 ao, .sl ⟨aM, aB, aN⟩, .int .i64 au, .int .i64 av, .sl cH, .int .i64 aH, .int .i64 aw, .sl cI, .bool bw] :: R0) fun R => ROs (eInt .i64) H R ⟨aM, aB, aN⟩ cg) → ∀ {r : Int × Int × Bool}, pC cU eL fp jg nC oX cg jQ = some r → ∃ v H', C cU eL fp jg kf 0 jQ H = some (v, H') ∧ aI.Q H0 Ri R0 ay aj aA ap aq ao au av aH aw eh cG cH cI aM aB az aN cg bw r v H'
def aI.S469 (H0 : Hp) (Ri R0 : List Rs) (ay aj aA ap aq ao au av aH aw : Int) (eh cG cH cI : Sl) (aM : ON) (aB az : Nat) (aN : Cap) (cg : List Int) (bw : Bool) (C : Int → Int → Int → Bool → Nat → Nat → Int → Int → Hp → OA) (pC : Int → Int → Int → Bool → Int → Int → List Int → Int → Int → Option (Int × Int × Bool)) : Prop := ∀ {gj gD gM lO kH gd gk : Int} {gS : Bool} {gE : Nat}, ∀ {H : Hp}, aB = cg.length → (Out H0 Ri H (Rs.blk gE [.int .i64 lO, .int .i64 kH, .sl ⟨aM, aB, aN⟩] :: Rs.blk az [.int .i64 ay, .int .i64 aj, .sl eh, .int .i64 aA, .int .i64 ap, .sl cG, .int .i64 aq, .int .i64 ao, .sl ⟨aM, aB, aN⟩, .int .i64 au, .int .i64 av, .sl cH, .int .i64 aH, .int .i64 aw, .sl cI, .bool bw] :: R0) fun R => ROs (eInt .i64) H R ⟨aM, aB, aN⟩ cg) → ∀ {r : Int × Int × Bool}, pC gj gD gM gS lO kH cg gd gk = some r → ∃ v H', C gj gD gM gS gE 0 gd gk H = some (v, H') ∧ aI.Q H0 Ri R0 ay aj aA ap aq ao au av aH aw eh cG cH cI aM aB az aN cg bw r v H'
def aI.pj9 (F : Nat) (ma : Int → Int → Int → Bool → Int → Int → List Int → Int → Int → Option (Int × Int × Bool)) (ov : Int) (ox : Int) (oy : Int) (oz : Bool) (sA : Int) (sB : Int) (cg : List Int) (oA : Int) (oB : Int) : Option (Int × Int × Bool) := ma ov ox oy oz sA sB cg oA (IntKind.i64.wrap (oB + 1))
theorem aI.j9_P {F : Nat} {H0 : Hp} {Ri R0 : List Rs} {ay aj aA ap aq ao au av aH aw : Int} {eh cG cH cI : Sl} {aM : ON} {aB az : Nat} {aN : Cap} {cg : List Int} {bw : Bool} {C469_ : Int → Int → Int → Bool → Nat → Nat → Int → Int → Hp → OA} {ma : Int → Int → Int → Bool → Int → Int → List Int → Int → Int → Option (Int × Int × Bool)} (hC469 : aI.S469 H0 Ri R0 ay aj aA ap aq ao au av aH aw eh cG cH cI aM aB az aN cg bw C469_ ma) {ov ox oy sA sB oA oB : Int} {oz : Bool} {qy : Nat} {H : Hp} (iY : aB = cg.length) (h0 : Out H0 Ri H (Rs.blk qy [.int .i64 sA, .int .i64 sB, .sl ⟨aM, aB, aN⟩] :: Rs.blk az [.int .i64 ay, .int .i64 aj, .sl eh, .int .i64 aA, .int .i64 ap, .sl cG, .int .i64 aq, .int .i64 ao, .sl ⟨aM, aB, aN⟩, .int .i64 au, .int .i64 av, .sl cH, .int .i64 aH, .int .i64 aw, .sl cI, .bool bw] :: R0) fun R => ROs (eInt .i64) H R ⟨aM, aB, aN⟩ cg) {r : Int × Int × Bool} (hp : aI.pj9 F ma ov ox oy oz sA sB cg oA oB = some r) : ∃ v H', aI.j9 F (aO.tw F) (cj.tw F) C469_ ov ox oy oz qy 0 oA oB H = some (v, H') ∧ aI.Q H0 Ri R0 ay aj aA ap aq ao au av aH aw eh cG cH cI aM aB az aN cg bw r v H' := by
 obtain ⟨w0, s0, gK⟩ := h0
 subst iY
 unfold aI.pj9 at hp
 unfold aI.j9
 exact hC469 rfl ⟨w0, s0, gK⟩ hp
def aI.pj7 (F : Nat) (ev : Int → Int → Int → Bool → Int → Int → List Int → Int → Option (Int × Int × Bool)) (og : Int) (oh : Int) (oi : Int) (oj : Bool) (sC : Int) (sD : Int) (cg : List Int) (ol : Int) : Option (Int × Int × Bool) := ev og oh oi oj sC sD cg (IntKind.i64.wrap (ol + 1))
theorem aI.j7_P {F : Nat} {H0 : Hp} {Ri R0 : List Rs} {ay aj aA ap aq ao au av aH aw : Int} {eh cG cH cI : Sl} {aM : ON} {aB az : Nat} {aN : Cap} {cg : List Int} {bw : Bool} {C29_ : Int → Int → Int → Bool → Nat → Nat → Int → Hp → OA} {ev : Int → Int → Int → Bool → Int → Int → List Int → Int → Option (Int × Int × Bool)} (hC29 : aI.S29 H0 Ri R0 ay aj aA ap aq ao au av aH aw eh cG cH cI aM aB az aN cg bw C29_ ev) {og oh oi sC sD ol : Int} {oj : Bool} {qw : Nat} {H : Hp} (iY : aB = cg.length) (h0 : Out H0 Ri H (Rs.blk qw [.int .i64 sC, .int .i64 sD, .sl ⟨aM, aB, aN⟩] :: Rs.blk az [.int .i64 ay, .int .i64 aj, .sl eh, .int .i64 aA, .int .i64 ap, .sl cG, .int .i64 aq, .int .i64 ao, .sl ⟨aM, aB, aN⟩, .int .i64 au, .int .i64 av, .sl cH, .int .i64 aH, .int .i64 aw, .sl cI, .bool bw] :: R0) fun R => ROs (eInt .i64) H R ⟨aM, aB, aN⟩ cg) {r : Int × Int × Bool} (hp : aI.pj7 F ev og oh oi oj sC sD cg ol = some r) : ∃ v H', aI.j7 F (aO.tw F) (cj.tw F) C29_ og oh oi oj qw 0 ol H = some (v, H') ∧ aI.Q H0 Ri R0 ay aj aA ap aq ao au av aH aw eh cG cH cI aM aB az aN cg bw r v H' := by
 obtain ⟨w0, s0, gK⟩ := h0
 subst iY
 unfold aI.pj7 at hp
 unfold aI.j7
 exact hC29 rfl ⟨w0, s0, gK⟩ hp
def aI.pj8 (F : Nat) (ev : Int → Int → Int → Bool → Int → Int → List Int → Int → Option (Int × Int × Bool)) (om : Int) (oo : Int) (oq : Int) (ot : Bool) (sE : Int) (sF : Int) (cg : List Int) (ou : Int) : Option (Int × Int × Bool) := aI.pj7 F ev om oo oq ot sE sF cg ou
theorem aI.j8_P {F : Nat} {H0 : Hp} {Ri R0 : List Rs} {ay aj aA ap aq ao au av aH aw : Int} {eh cG cH cI : Sl} {aM : ON} {aB az : Nat} {aN : Cap} {cg : List Int} {bw : Bool} {C29_ : Int → Int → Int → Bool → Nat → Nat → Int → Hp → OA} {ev : Int → Int → Int → Bool → Int → Int → List Int → Int → Option (Int × Int × Bool)} (hC29 : aI.S29 H0 Ri R0 ay aj aA ap aq ao au av aH aw eh cG cH cI aM aB az aN cg bw C29_ ev) {om oo oq sE sF ou : Int} {ot : Bool} {qx : Nat} {H : Hp} (iY : aB = cg.length) (h0 : Out H0 Ri H (Rs.blk qx [.int .i64 sE, .int .i64 sF, .sl ⟨aM, aB, aN⟩] :: Rs.blk az [.int .i64 ay, .int .i64 aj, .sl eh, .int .i64 aA, .int .i64 ap, .sl cG, .int .i64 aq, .int .i64 ao, .sl ⟨aM, aB, aN⟩, .int .i64 au, .int .i64 av, .sl cH, .int .i64 aH, .int .i64 aw, .sl cI, .bool bw] :: R0) fun R => ROs (eInt .i64) H R ⟨aM, aB, aN⟩ cg) {r : Int × Int × Bool} (hp : aI.pj8 F ev om oo oq ot sE sF cg ou = some r) : ∃ v H', aI.j8 F (aO.tw F) (cj.tw F) C29_ om oo oq ot qx 0 ou H = some (v, H') ∧ aI.Q H0 Ri R0 ay aj aA ap aq ao au av aH aw eh cG cH cI aM aB az aN cg bw r v H' := by
 obtain ⟨w0, s0, gK⟩ := h0
 subst iY
 unfold aI.pj8 at hp
 unfold aI.j8
 exact aI.j7_P (@hC29) rfl ⟨w0, s0, gK⟩ hp
def aI.pl469 (F : Nat) (ev : Int → Int → Int → Bool → Int → Int → List Int → Int → Option (Int × Int × Bool)) : Nat → Int → Int → Int → Bool → Int → Int → List Int → Int → Int → Option (Int × Int × Bool)
 | 0, _, _, _, _, _, _, _, _, _ => none
 | k + 1, gj, gD, gM, gS, lO, kH, cg, gd, gk => (bif (decide (gk < kH)) then ((ix cg (IntKind.i64.wrap ((IntKind.i64.wrap (gd * kH)) + gk))).bind fun n2 => (cj.p F (gt cg n2)).bind fun r3 => (bif (r3 != 0) then ((bif (!gS) then (aI.pl469 F ev k gj gd gk true lO kH cg gd (IntKind.i64.wrap (gk + 1))) else ((ix cg (IntKind.i64.wrap ((IntKind.i64.wrap (gD * kH)) + gM))).bind fun n7 => (cj.p F (gt cg n7)).bind fun r8 => (bif (decide (r3 < r8)) then (aI.pj9 F (aI.pl469 F ev k) gj gd gk true lO kH cg gd gk) else (aI.pj9 F (aI.pl469 F ev k) gj gD gM gS lO kH cg gd gk))))) else (aI.pl469 F ev k gj gD gM gS lO kH cg gd (IntKind.i64.wrap (gk + 1))))) else (aI.pj8 F ev gj gD gM gS lO kH cg gd))
termination_by structural n => n
theorem aI.l469_P {F : Nat} {H0 : Hp} {Ri R0 : List Rs} {ay aj aA ap aq ao au av aH aw : Int} {eh cG cH cI : Sl} {aM : ON} {aB az : Nat} {aN : Cap} {cg : List Int} {bw : Bool} {C29_ : Int → Int → Int → Bool → Nat → Nat → Int → Hp → OA} {ev : Int → Int → Int → Bool → Int → Int → List Int → Int → Option (Int × Int × Bool)} (hC29 : aI.S29 H0 Ri R0 ay aj aA ap aq ao au av aH aw eh cG cH cI aM aB az aN cg bw C29_ ev) : ∀ k, aI.S469 H0 Ri R0 ay aj aA ap aq ao au av aH aw eh cG cH cI aM aB az aN cg bw (aI.l469 F (aO.tw F) (cj.tw F) C29_ k) (aI.pl469 F ev k) := by
 intro k
 induction k with
 | zero =>
  intro gj gD gM lO kH gd gk gS gE H iY h0 r hp
  exact nomatch (show (none : Option (Int × Int × Bool)) = some r from hp)
 | succ k ih =>
  intro gj gD gM lO kH gd gk gS gE H iY h0 r hp
  obtain ⟨w0, s0, gK⟩ := h0
  subst iY
  unfold aI.pl469 at hp
  unfold aI.l469
  refine bind_ex (ldI_of (w0.ld (i := 0) rfl rfl)) ?_
  refine bif_ex (fun hb => ?_) (fun hb => ?_)
  ·replace hp := bif_t hb hp
   refine bind_ex (ldI_of (w0.ld (i := 0) rfl rfl)) ?_
   refine bind_ex (ldI_of (w0.ld (i := 0) rfl rfl)) ?_
   refine bind_ex (ldSl_of (w0.ld (i := 0) rfl rfl)) ?_
   refine aO.inl ?_
   refine new_k w0 fun H1 w1 s1 => ?_
   refine bind_ex (ldSl_of (w1.ld (i := 0) rfl rfl)) ?_
   refine bind_ex (ldI_of (w1.ld (i := 0) rfl rfl)) ?_
   obtain ⟨n2, g2, hp⟩ := bind_some' hp
   obtain ⟨p2, q2, i2, h2, j2⟩ := ROs.ixr (gK.step s1) rfl g2
   refine bind_ex i2 ?_
   refine ⟨_, _, rfl, ?_⟩
   refine bind_ex rfl ?_
   have h2 : _ = [_] := h2
   subst h2
   refine bind_ex (ldI_of (j2 0 _ rfl)) ?_
   obtain ⟨r3, e3, hp⟩ := bind_some' hp
   refine call_ex (cj.P ⟨w1, trivial⟩ e3) ?_
   rintro _ H4 ⟨rfl, w4, s4, _⟩
   refine bind_ex rfl ?_
   refine bif_ex (fun hb => ?_) (fun hb => ?_)
   ·replace hp := bif_t hb hp
    refine bif_ex (fun hb => ?_) (fun hb => ?_)
    ·replace hp := bif_t hb hp
     obtain ⟨w5, s5⟩ := w4.pick' [1, 2] 3 rfl rfl rfl
     dsimp only [pk, pks, nth, List.drop] at w5 s5
     exact ih rfl ⟨w5, (s0.trans (s1.trans (s4.trans s5))), (gK.step (s1.trans (s4.trans s5)))⟩ hp
    ·replace hp := bif_f hb hp
     refine bind_ex (ldI_of (w4.ld (i := 1) rfl rfl)) ?_
     refine bind_ex (ldI_of (w4.ld (i := 1) rfl rfl)) ?_
     refine bind_ex (ldSl_of (w4.ld (i := 1) rfl rfl)) ?_
     refine aO.inl ?_
     refine new_k w4 fun H6 w6 s6 => ?_
     refine bind_ex (ldSl_of (w6.ld (i := 0) rfl rfl)) ?_
     refine bind_ex (ldI_of (w6.ld (i := 0) rfl rfl)) ?_
     obtain ⟨n7, g7, hp⟩ := bind_some' hp
     obtain ⟨p7, q7, i7, h7, j7⟩ := ROs.ixr (gK.step (s1.trans (s4.trans s6))) rfl g7
     refine bind_ex i7 ?_
     refine ⟨_, _, rfl, ?_⟩
     refine bind_ex rfl ?_
     have h7 : _ = [_] := h7
     subst h7
     refine bind_ex (ldI_of (j7 0 _ rfl)) ?_
     obtain ⟨r8, e8, hp⟩ := bind_some' hp
     refine call_ex (cj.P ⟨w6, trivial⟩ e8) ?_
     rintro _ H9 ⟨rfl, w9, s9, _⟩
     refine bind_ex rfl ?_
     refine bif_ex (fun hb => ?_) (fun hb => ?_)
     ·replace hp := bif_t hb hp
      obtain ⟨w10, s10⟩ := w9.pick' [2, 3] 4 rfl rfl rfl
      dsimp only [pk, pks, nth, List.drop] at w10 s10
      exact aI.j9_P (@ih) rfl ⟨w10, (s0.trans (s1.trans (s4.trans (s6.trans (s9.trans s10))))), (gK.step (s1.trans (s4.trans (s6.trans (s9.trans s10)))))⟩ hp
     ·replace hp := bif_f hb hp
      obtain ⟨w11, s11⟩ := w9.pick' [2, 3] 4 rfl rfl rfl
      dsimp only [pk, pks, nth, List.drop] at w11 s11
      exact aI.j9_P (@ih) rfl ⟨w11, (s0.trans (s1.trans (s4.trans (s6.trans (s9.trans s11))))), (gK.step (s1.trans (s4.trans (s6.trans (s9.trans s11)))))⟩ hp
   ·replace hp := bif_f hb hp
    obtain ⟨w12, s12⟩ := w4.pick' [1, 2] 3 rfl rfl rfl
    dsimp only [pk, pks, nth, List.drop] at w12 s12
    exact ih rfl ⟨w12, (s0.trans (s1.trans (s4.trans s12))), (gK.step (s1.trans (s4.trans s12)))⟩ hp
  ·replace hp := bif_f hb hp
   exact aI.j8_P (@hC29) rfl ⟨w0, s0, gK⟩ hp
def aI.pj5 (F : Nat)  (oc : Int) (od : Int) (oe : Bool) : Option (Int × Int × Bool) := some (oc, od, oe)
theorem aI.j5_P {F : Nat} {H0 : Hp} {Ri R0 : List Rs} {ay aj aA ap aq ao au av aH aw : Int} {eh cG cH cI : Sl} {aM : ON} {aB az : Nat} {aN : Cap} {cg : List Int} {bw : Bool}  {oc od : Int} {oe : Bool} {H : Hp} (iY : aB = cg.length) (h0 : Out H0 Ri H (Rs.blk az [.int .i64 ay, .int .i64 aj, .sl eh, .int .i64 aA, .int .i64 ap, .sl cG, .int .i64 aq, .int .i64 ao, .sl ⟨aM, aB, aN⟩, .int .i64 au, .int .i64 av, .sl cH, .int .i64 aH, .int .i64 aw, .sl cI, .bool bw] :: R0) fun R => ROs (eInt .i64) H R ⟨aM, aB, aN⟩ cg) {r : Int × Int × Bool} (hp : aI.pj5 F  oc od oe = some r) : ∃ v H', aI.j5 F (aO.tw F) (cj.tw F)  oc od oe H = some (v, H') ∧ aI.Q H0 Ri R0 ay aj aA ap aq ao au av aH aw eh cG cH cI aM aB az aN cg bw r v H' := by
 obtain ⟨w0, s0, gK⟩ := h0
 subst iY
 unfold aI.pj5 at hp
 unfold aI.j5
 obtain rfl := Option.some.inj hp
 exact ⟨_, _, rfl, rfl, w0, s0, trivial⟩
def aI.pl29 (F : Nat)  : Nat → Int → Int → Int → Bool → Int → Int → List Int → Int → Option (Int × Int × Bool)
 | 0, _, _, _, _, _, _, _, _ => none
 | k + 1, cU, eL, fp, jg, nC, oX, cg, jQ => (bif (decide (jQ < nC)) then (aI.pl469 F (aI.pl29 F k) F cU eL fp jg nC oX cg jQ cU) else (aI.pj5 F eL fp jg))
termination_by structural n => n
theorem aI.l29_P {F : Nat} {H0 : Hp} {Ri R0 : List Rs} {ay aj aA ap aq ao au av aH aw : Int} {eh cG cH cI : Sl} {aM : ON} {aB az : Nat} {aN : Cap} {cg : List Int} {bw : Bool}  : ∀ k, aI.S29 H0 Ri R0 ay aj aA ap aq ao au av aH aw eh cG cH cI aM aB az aN cg bw (aI.l29 F (aO.tw F) (cj.tw F)  k) (aI.pl29 F  k) := by
 intro k
 induction k with
 | zero =>
  intro cU eL fp nC oX jQ jg kf H iY h0 r hp
  exact nomatch (show (none : Option (Int × Int × Bool)) = some r from hp)
 | succ k ih =>
  intro cU eL fp nC oX jQ jg kf H iY h0 r hp
  obtain ⟨w0, s0, gK⟩ := h0
  subst iY
  unfold aI.pl29 at hp
  unfold aI.l29
  refine bind_ex (ldI_of (w0.ld (i := 0) rfl rfl)) ?_
  refine bif_ex (fun hb => ?_) (fun hb => ?_)
  ·replace hp := bif_t hb hp
   exact aI.l469_P (@ih) F rfl ⟨w0, s0, gK⟩ hp
  ·replace hp := bif_f hb hp
   obtain ⟨w1, s1⟩ := w0.pick' [1] 2 rfl rfl rfl
   dsimp only [pk, pks, nth, List.drop] at w1 s1
   exact aI.j5_P rfl ⟨w1, (s0.trans s1), (gK.step s1)⟩ hp
def aI.p (F : Nat) (aY : Int) (aT : Int) (df : List Int) (ae : Int) : Option (Int × Int × Bool) := aI.pl29 F F ae 0 0 false aY aT df ae
theorem aI.P {F : Nat} {bj aX bl bb aY aT bc bf bv bg ae : Int} {eg c_ da db : Sl} {cp : ON} {bA aa : Nat} {cq : Cap} {df : List Int} {ax : Bool} {H : Hp} {R0 : List Rs} (iX : bA = df.length) (h0 : Inn H (Rs.blk aa [.int .i64 bj, .int .i64 aX, .sl eg, .int .i64 bl, .int .i64 bb, .sl c_, .int .i64 aY, .int .i64 aT, .sl ⟨cp, bA, cq⟩, .int .i64 bc, .int .i64 bf, .sl da, .int .i64 bv, .int .i64 bg, .sl db, .bool ax] :: R0) fun R => ROs (eInt .i64) H R ⟨cp, bA, cq⟩ df) {r : Int × Int × Bool} (hp : aI.p F aY aT df ae = some r) : ∃ v H', aI.tw F aa 0 ae H = some (v, H') ∧ aI.Q H (Rs.blk aa [.int .i64 bj, .int .i64 aX, .sl eg, .int .i64 bl, .int .i64 bb, .sl c_, .int .i64 aY, .int .i64 aT, .sl ⟨cp, bA, cq⟩, .int .i64 bc, .int .i64 bf, .sl da, .int .i64 bv, .int .i64 bg, .sl db, .bool ax] :: R0) R0 bj aX bl bb aY aT bc bf bv bg eg c_ da db cp bA aa cq df ax r v H' := by
 obtain ⟨w0, hO⟩ := h0
 subst iX
 unfold aI.p at hp
 unfold aI.tw aI.twX
 have s0 := w0.rf
 refine bind_ex (ldI_of (w0.ld (i := 0) rfl rfl)) ?_
 refine bind_ex (ldI_of (w0.ld (i := 0) rfl rfl)) ?_
 refine bind_ex (ldSl_of (w0.ld (i := 0) rfl rfl)) ?_
 refine new_k w0 fun H1 w1 s1 => ?_
 refine st_k w1 (i := 0) rfl rfl rfl fun H2 w2 s2 => ?_
 dsimp only [List.set] at w2 s2
 refine st_k w2 (i := 0) rfl rfl rfl fun H3 w3 s3 => ?_
 dsimp only [List.set] at w3 s3
 refine st_k w3 (i := 0) rfl rfl rfl fun H4 w4 s4 => ?_
 dsimp only [List.set] at w4 s4
 exact aI.l29_P F rfl ⟨w4, (s0.trans (s1.trans (s2.trans (s3.trans s4)))), (hO.step (s1.trans (s2.trans (s3.trans s4))))⟩ hp
def bQ.Q (H0 : Hp) (Ri R0 : List Rs) (cV : ON) (bK : Nat) (cW : Cap) (gu : Bool) (gv gw : List AV) (r : List Int) (v : AV) (H' : Hp) : Prop := ∃ kz : List AV, v = (.tup []) ∧ bK = (r).length ∧ Out H0 Ri H' (Rs.ow gu ⟨cV, bK, cW⟩ (eInt .i64).z gv kz gw :: R0) fun R => CR (eInt .i64) H' R kz (r)
def bQ.S7 (H0 : Hp) (Ri R0 : List Rs) (hZ : ON) (gF : Nat) (h_ : Cap) (jz : Bool) (jA jB : List AV) (C : Int → Int → Nat → Nat → Int → Int → Hp → OA) (pC : Int → Int → Int → List Int → Int → Int → Option (List Int)) : Prop := ∀ {fa fh nD j_ fO fb : Int} {gV : List Int} {mA : List AV} {cK : Nat}, ∀ {H : Hp}, gF = gV.length → (Out H0 Ri H (Rs.ow jz ⟨hZ, gF, h_⟩ (eInt .i64).z jA mA jB :: Rs.blk cK [.int .i64 nD, .int .i64 j_, .sl ⟨hZ, gF, h_⟩] :: R0) fun R => CR (eInt .i64) H R mA gV) → ∀ {r : List Int}, pC fa fh j_ gV fO fb = some r → ∃ v H', C fa fh cK 0 fO fb H = some (v, H') ∧ bQ.Q H0 Ri R0 hZ gF h_ jz jA jB r v H'
def bQ.pl7 (F : Nat)  : Nat → Int → Int → Int → List Int → Int → Int → Option (List Int)
 | 0, _, _, _, _, _, _ => none
 | k + 1, fa, fh, j_, gV, fO, fb => (bif (decide (fb < fO)) then ((ix gV (IntKind.i64.wrap ((IntKind.i64.wrap (fa * j_)) + fb))).bind fun n2 => (ix gV (IntKind.i64.wrap ((IntKind.i64.wrap (fh * j_)) + fb))).bind fun n5 => (some (gV.set n2 (gt gV n5))).bind fun l7 => (some (l7.set n5 (gt gV n2))).bind fun l9 => bQ.pl7 F k fa fh j_ l9 fO (IntKind.i64.wrap (fb + 1))) else (some gV))
termination_by structural n => n
theorem bQ.l7_P {F : Nat} {H0 : Hp} {Ri R0 : List Rs} {hZ : ON} {gF : Nat} {h_ : Cap} {jz : Bool} {jA jB : List AV}  : ∀ k, bQ.S7 H0 Ri R0 hZ gF h_ jz jA jB (bQ.l7 F (aO.tw F)  k) (bQ.pl7 F  k) := by
 intro k
 induction k with
 | zero =>
  intro fa fh nD j_ fO fb gV mA cK H pQ h0 r hp
  exact nomatch (show (none : Option (List Int)) = some r from hp)
 | succ k ih =>
  intro fa fh nD j_ fO fb gV mA cK H pQ h0 r hp
  obtain ⟨w0, s0, lG⟩ := h0
  subst pQ
  unfold bQ.pl7 at hp
  unfold bQ.l7
  refine bif_ex (fun hb => ?_) (fun hb => ?_)
  ·replace hp := bif_t hb hp
   refine bind_ex (ldI_of (w0.ld (i := 1) rfl rfl)) ?_
   refine bind_ex (ldI_of (w0.ld (i := 1) rfl rfl)) ?_
   refine bind_ex (ldSl_of (w0.ld (i := 1) rfl rfl)) ?_
   refine aO.inl ?_
   refine new_k w0 fun H1 w1 s1 => ?_
   refine bind_ex (ldSl_of (w1.ld (i := 0) rfl rfl)) ?_
   refine bind_ex (ldI_of (w1.ld (i := 0) rfl rfl)) ?_
   obtain ⟨n2, g2, hp⟩ := bind_some' hp
   obtain ⟨p2, q2, i2, h2, j2⟩ := W.ixo (E := (eInt .i64)) w1 (i := 1) rfl rfl (lG.step s1) g2
   refine bind_ex i2 ?_
   refine ⟨_, _, rfl, ?_⟩
   refine bind_ex rfl ?_
   refine ifs_ex (W.cons_of (Rn := [_]) w0 w1 s1) ?_
   refine bind_ex (ldI_of (w1.ld (i := 2) rfl rfl)) ?_
   refine bind_ex (ldI_of (w1.ld (i := 2) rfl rfl)) ?_
   refine bind_ex (ldSl_of (w1.ld (i := 2) rfl rfl)) ?_
   refine aO.inl ?_
   refine new_k w1 fun H4 w4 s4 => ?_
   refine bind_ex (ldSl_of (w4.ld (i := 0) rfl rfl)) ?_
   refine bind_ex (ldI_of (w4.ld (i := 0) rfl rfl)) ?_
   obtain ⟨n5, g5, hp⟩ := bind_some' hp
   obtain ⟨p5, q5, i5, h5, j5⟩ := W.ixo (E := (eInt .i64)) w4 (i := 2) rfl rfl (lG.step (s1.trans s4)) g5
   refine bind_ex i5 ?_
   refine ⟨_, _, rfl, ?_⟩
   refine bind_ex rfl ?_
   have h5 : _ = [_] := h5
   subst h5
   refine bind_ex (ldI_of (j5 0 _ rfl)) ?_
   obtain ⟨p6, q6, i6, h6, j6⟩ := W.ixo (E := (eInt .i64)) w4 (i := 2) rfl rfl (lG.step (s1.trans s4)) g2
   obtain rfl := Option.some.inj (i2.symm.trans i6)
   have h6 : _ = [_] := h6
   subst h6
   refine bind_ex (ldI_of (j6 0 _ rfl)) ?_
   obtain ⟨l7, e7, hp⟩ := bind_some' hp
   refine sto_k (eInt .i64) w4 (i := 2) (j := 0) (p := p2) rfl rfl (lG.step (s1.trans s4)) g2 i2 e7 rfl rfl (fun _ h => by have h : _ = [_] := h; subst h; exact rfl) fun H8 k8 w8 s8 c8 => ?_
   dsimp only [List.set] at w8 s8 c8
   obtain ⟨l9, e9, hp⟩ := bind_some' hp
   refine sto_k (eInt .i64) w8 (i := 2) (j := 0) (p := p5) rfl rfl c8 (ix_len g5 (st_len e7)) i5 e9 rfl rfl (fun _ h => by have h : _ = [_] := h; subst h; exact rfl) fun H10 k10 w10 s10 c10 => ?_
   dsimp only [List.set] at w10 s10 c10
   obtain ⟨w11, s11⟩ := w10.pick' [2, 3] 4 rfl rfl rfl
   dsimp only [pk, pks, nth, List.drop] at w11 s11
   exact ih ((st_len e7).symm.trans (st_len e9).symm) ⟨w11, (s0.trans (s1.trans (s4.trans (s8.trans (s10.trans s11))))), (c10.step s11)⟩ hp
  ·replace hp := bif_f hb hp
   obtain ⟨w12, s12⟩ := w0.pick' [0] 2 rfl rfl rfl
   dsimp only [pk, pks, nth, List.drop] at w12 s12
   obtain rfl := Option.some.inj hp
   exact ⟨_, _, rfl, _, rfl, rfl, w12, (s0.trans s12), (lG.step s12)⟩
def bQ.p (F : Nat) (ac : Int) (bk : List Int) (af : Int) (bh : Int) : Option (List Int) := bQ.pl7 F F af bh ac bk ac 0
theorem bQ.P {F : Nat} {aa ac af bh : Int} {cV : ON} {bK : Nat} {cW : Cap} {bk : List Int} {gu : Bool} {gv gw jC : List AV} {H : Hp} {R0 : List Rs} (fP : bK = bk.length) (h0 : Inn H (Rs.ow gu ⟨cV, bK, cW⟩ (eInt .i64).z gv jC gw :: R0) fun R => CR (eInt .i64) H R jC bk) {r : List Int} (hp : bQ.p F ac bk af bh = some r) : ∃ v H', bQ.tw F aa ac ⟨cV, bK, cW⟩ af bh H = some (v, H') ∧ bQ.Q H (Rs.ow gu ⟨cV, bK, cW⟩ (eInt .i64).z gv jC gw :: R0) R0 cV bK cW gu gv gw r v H' := by
 obtain ⟨w0, eM⟩ := h0
 subst fP
 unfold bQ.p at hp
 unfold bQ.tw bQ.twX
 have s0 := w0.rf
 refine new_k w0 fun H1 w1 s1 => ?_
 refine bind_ex (ldI_of (w1.ld (i := 0) rfl rfl)) ?_
 obtain ⟨w2, s2⟩ := w1.pick' [1, 0] 2 rfl rfl rfl
 dsimp only [pk, pks, nth, List.drop] at w2 s2
 exact bQ.l7_P F rfl ⟨w2, (s0.trans (s1.trans s2)), (eM.step (s1.trans s2))⟩ hp
def bR.Q (H0 : Hp) (Ri R0 : List Rs) (cV : ON) (bK : Nat) (cW : Cap) (gu : Bool) (gv gw : List AV) (r : List Int) (v : AV) (H' : Hp) : Prop := ∃ kz : List AV, v = (.tup []) ∧ bK = (r).length ∧ Out H0 Ri H' (Rs.ow gu ⟨cV, bK, cW⟩ (eInt .i64).z gv kz gw :: R0) fun R => CR (eInt .i64) H' R kz (r)
def bR.S7 (H0 : Hp) (Ri R0 : List Rs) (hZ : ON) (gF : Nat) (h_ : Cap) (jz : Bool) (jA jB : List AV) (C : Int → Int → Nat → Nat → Int → Int → Hp → OA) (pC : Int → Int → Int → List Int → Int → Int → Option (List Int)) : Prop := ∀ {fa fh nD j_ fO fb : Int} {gV : List Int} {mA : List AV} {cK : Nat}, ∀ {H : Hp}, gF = gV.length → (Out H0 Ri H (Rs.ow jz ⟨hZ, gF, h_⟩ (eInt .i64).z jA mA jB :: Rs.blk cK [.int .i64 nD, .int .i64 j_, .sl ⟨hZ, gF, h_⟩] :: R0) fun R => CR (eInt .i64) H R mA gV) → ∀ {r : List Int}, pC fa fh j_ gV fO fb = some r → ∃ v H', C fa fh cK 0 fO fb H = some (v, H') ∧ bR.Q H0 Ri R0 hZ gF h_ jz jA jB r v H'
def bR.pl7 (F : Nat)  : Nat → Int → Int → Int → List Int → Int → Int → Option (List Int)
 | 0, _, _, _, _, _, _ => none
 | k + 1, fa, fh, j_, gV, fO, fb => (bif (decide (fb < fO)) then ((ix gV (IntKind.i64.wrap ((IntKind.i64.wrap (fb * j_)) + fa))).bind fun n2 => (ix gV (IntKind.i64.wrap ((IntKind.i64.wrap (fb * j_)) + fh))).bind fun n5 => (some (gV.set n2 (gt gV n5))).bind fun l7 => (some (l7.set n5 (gt gV n2))).bind fun l9 => bR.pl7 F k fa fh j_ l9 fO (IntKind.i64.wrap (fb + 1))) else (some gV))
termination_by structural n => n
theorem bR.l7_P {F : Nat} {H0 : Hp} {Ri R0 : List Rs} {hZ : ON} {gF : Nat} {h_ : Cap} {jz : Bool} {jA jB : List AV}  : ∀ k, bR.S7 H0 Ri R0 hZ gF h_ jz jA jB (bR.l7 F (aO.tw F)  k) (bR.pl7 F  k) := by
 intro k
 induction k with
 | zero =>
  intro fa fh nD j_ fO fb gV mA cK H pQ h0 r hp
  exact nomatch (show (none : Option (List Int)) = some r from hp)
 | succ k ih =>
  intro fa fh nD j_ fO fb gV mA cK H pQ h0 r hp
  obtain ⟨w0, s0, lG⟩ := h0
  subst pQ
  unfold bR.pl7 at hp
  unfold bR.l7
  refine bif_ex (fun hb => ?_) (fun hb => ?_)
  ·replace hp := bif_t hb hp
   refine bind_ex (ldI_of (w0.ld (i := 1) rfl rfl)) ?_
   refine bind_ex (ldI_of (w0.ld (i := 1) rfl rfl)) ?_
   refine bind_ex (ldSl_of (w0.ld (i := 1) rfl rfl)) ?_
   refine aO.inl ?_
   refine new_k w0 fun H1 w1 s1 => ?_
   refine bind_ex (ldSl_of (w1.ld (i := 0) rfl rfl)) ?_
   refine bind_ex (ldI_of (w1.ld (i := 0) rfl rfl)) ?_
   obtain ⟨n2, g2, hp⟩ := bind_some' hp
   obtain ⟨p2, q2, i2, h2, j2⟩ := W.ixo (E := (eInt .i64)) w1 (i := 1) rfl rfl (lG.step s1) g2
   refine bind_ex i2 ?_
   refine ⟨_, _, rfl, ?_⟩
   refine bind_ex rfl ?_
   refine ifs_ex (W.cons_of (Rn := [_]) w0 w1 s1) ?_
   refine bind_ex (ldI_of (w1.ld (i := 2) rfl rfl)) ?_
   refine bind_ex (ldI_of (w1.ld (i := 2) rfl rfl)) ?_
   refine bind_ex (ldSl_of (w1.ld (i := 2) rfl rfl)) ?_
   refine aO.inl ?_
   refine new_k w1 fun H4 w4 s4 => ?_
   refine bind_ex (ldSl_of (w4.ld (i := 0) rfl rfl)) ?_
   refine bind_ex (ldI_of (w4.ld (i := 0) rfl rfl)) ?_
   obtain ⟨n5, g5, hp⟩ := bind_some' hp
   obtain ⟨p5, q5, i5, h5, j5⟩ := W.ixo (E := (eInt .i64)) w4 (i := 2) rfl rfl (lG.step (s1.trans s4)) g5
   refine bind_ex i5 ?_
   refine ⟨_, _, rfl, ?_⟩
   refine bind_ex rfl ?_
   have h5 : _ = [_] := h5
   subst h5
   refine bind_ex (ldI_of (j5 0 _ rfl)) ?_
   obtain ⟨p6, q6, i6, h6, j6⟩ := W.ixo (E := (eInt .i64)) w4 (i := 2) rfl rfl (lG.step (s1.trans s4)) g2
   obtain rfl := Option.some.inj (i2.symm.trans i6)
   have h6 : _ = [_] := h6
   subst h6
   refine bind_ex (ldI_of (j6 0 _ rfl)) ?_
   obtain ⟨l7, e7, hp⟩ := bind_some' hp
   refine sto_k (eInt .i64) w4 (i := 2) (j := 0) (p := p2) rfl rfl (lG.step (s1.trans s4)) g2 i2 e7 rfl rfl (fun _ h => by have h : _ = [_] := h; subst h; exact rfl) fun H8 k8 w8 s8 c8 => ?_
   dsimp only [List.set] at w8 s8 c8
   obtain ⟨l9, e9, hp⟩ := bind_some' hp
   refine sto_k (eInt .i64) w8 (i := 2) (j := 0) (p := p5) rfl rfl c8 (ix_len g5 (st_len e7)) i5 e9 rfl rfl (fun _ h => by have h : _ = [_] := h; subst h; exact rfl) fun H10 k10 w10 s10 c10 => ?_
   dsimp only [List.set] at w10 s10 c10
   obtain ⟨w11, s11⟩ := w10.pick' [2, 3] 4 rfl rfl rfl
   dsimp only [pk, pks, nth, List.drop] at w11 s11
   exact ih ((st_len e7).symm.trans (st_len e9).symm) ⟨w11, (s0.trans (s1.trans (s4.trans (s8.trans (s10.trans s11))))), (c10.step s11)⟩ hp
  ·replace hp := bif_f hb hp
   obtain ⟨w12, s12⟩ := w0.pick' [0] 2 rfl rfl rfl
   dsimp only [pk, pks, nth, List.drop] at w12 s12
   obtain rfl := Option.some.inj hp
   exact ⟨_, _, rfl, _, rfl, rfl, w12, (s0.trans s12), (lG.step s12)⟩
def bR.p (F : Nat) (aa : Int) (ac : Int) (bk : List Int) (af : Int) (bh : Int) : Option (List Int) := bR.pl7 F F af bh ac bk aa 0
theorem bR.P {F : Nat} {aa ac af bh : Int} {cV : ON} {bK : Nat} {cW : Cap} {bk : List Int} {gu : Bool} {gv gw jC : List AV} {H : Hp} {R0 : List Rs} (fP : bK = bk.length) (h0 : Inn H (Rs.ow gu ⟨cV, bK, cW⟩ (eInt .i64).z gv jC gw :: R0) fun R => CR (eInt .i64) H R jC bk) {r : List Int} (hp : bR.p F aa ac bk af bh = some r) : ∃ v H', bR.tw F aa ac ⟨cV, bK, cW⟩ af bh H = some (v, H') ∧ bR.Q H (Rs.ow gu ⟨cV, bK, cW⟩ (eInt .i64).z gv jC gw :: R0) R0 cV bK cW gu gv gw r v H' := by
 obtain ⟨w0, eM⟩ := h0
 subst fP
 unfold bR.p at hp
 unfold bR.tw bR.twX
 have s0 := w0.rf
 refine new_k w0 fun H1 w1 s1 => ?_
 refine bind_ex (ldI_of (w1.ld (i := 0) rfl rfl)) ?_
 obtain ⟨w2, s2⟩ := w1.pick' [1, 0] 2 rfl rfl rfl
 dsimp only [pk, pks, nth, List.drop] at w2 s2
 exact bR.l7_P F rfl ⟨w2, (s0.trans (s1.trans s2)), (eM.step (s1.trans s2))⟩ hp
def cy.Q (H0 : Hp) (Ri R0 : List Rs)  (r : List Int) (v : AV) (H' : Hp) : Prop := ∃ o0a : ON, ∃ o0n : Nat, ∃ o0c : Cap, v = (.sl ⟨o0a, o0n, o0c⟩) ∧ o0n = (r).length ∧ Out H0 Ri H' (R0) fun R => ROs (eInt .i64) H' R ⟨o0a, o0n, o0c⟩ (r)
def cy.p (F : Nat) (ac : Int) (bk : List Int) (af : Int) : Option (List Int) := (cutf bk (IntKind.i64.wrap (af * ac)) (IntKind.i64.wrap ((IntKind.i64.wrap (af + 1)) * ac))).bind fun l2 => some l2
theorem cy.P {F : Nat} {aa ac af : Int} {cV : ON} {bK : Nat} {cW : Cap} {bk : List Int} {H : Hp} {R0 : List Rs} (fP : bK = bk.length) (h0 : Inn H R0 fun R => ROs (eInt .i64) H R ⟨cV, bK, cW⟩ bk) {r : List Int} (hp : cy.p F ac bk af = some r) : ∃ v H', cy.tw F aa ac ⟨cV, bK, cW⟩ af H = some (v, H') ∧ cy.Q H R0 R0  r v H' := by
 obtain ⟨w0, eM⟩ := h0
 subst fP
 unfold cy.p at hp
 unfold cy.tw cy.twX
 have s0 := w0.rf
 refine new_k w0 fun H1 w1 s1 => ?_
 refine bind_ex (ldSl_of (w1.ld (i := 0) rfl rfl)) ?_
 refine bind_ex (ldI_of (w1.ld (i := 0) rfl rfl)) ?_
 refine bind_ex (ldI_of (w1.ld (i := 0) rfl rfl)) ?_
 obtain ⟨l2, e2, hp⟩ := bind_some' hp
 obtain ⟨a2, d2, h2, f2⟩ := ROs.cutf (eM.step s1) rfl e2
 refine bind_ex h2 ?_
 obtain ⟨w3, s3⟩ := w1.pick' [] 1 rfl rfl rfl
 dsimp only [pk, pks, nth, List.drop] at w3 s3
 obtain rfl := Option.some.inj hp
 exact ⟨_, _, rfl, _, _, _, rfl, rfl, w3, (s0.trans (s1.trans s3)), (f2.step s3)⟩
def aW.Q (H0 : Hp) (Ri R0 : List Rs) (bj aX bl bb aY aT bc bf bv bg : Int) (cP dX cp dY dZ : ON) (bL dc bA dd de aa : Nat) (cQ d_ cq ea eb : Cap) (eQ fw eR fx fy ax : Bool) (eS eT fz fA eU eV fB fC fD fE : List AV) (r : Bool × List Int × List Int × List Int × List Int × List Int) (v : AV) (H' : Hp) : Prop := ∃ ib : List AV, ∃ jl : List AV, ∃ ic : List AV, ∃ jm : List AV, ∃ jn : List AV, v = (.bool r.1) ∧ bL = (r.2.1).length ∧ dc = (r.2.2.1).length ∧ bA = (r.2.2.2.1).length ∧ dd = (r.2.2.2.2.1).length ∧ de = (r.2.2.2.2.2).length ∧ Out H0 Ri H' (Rs.ow eQ ⟨cP, bL, cQ⟩ (eInt .i64).z eS ib eT :: Rs.ow fw ⟨dX, dc, d_⟩ (eInt .i64).z fz jl fA :: Rs.ow eR ⟨cp, bA, cq⟩ (eInt .i64).z eU ic eV :: Rs.ow fx ⟨dY, dd, ea⟩ (eInt .i64).z fB jm fC :: Rs.ow fy ⟨dZ, de, eb⟩ (eInt .i64).z fD jn fE :: Rs.blk aa [.int .i64 bj, .int .i64 aX, .sl ⟨cP, bL, cQ⟩, .int .i64 bl, .int .i64 bb, .sl ⟨dX, dc, d_⟩, .int .i64 aY, .int .i64 aT, .sl ⟨cp, bA, cq⟩, .int .i64 bc, .int .i64 bf, .sl ⟨dY, dd, ea⟩, .int .i64 bv, .int .i64 bg, .sl ⟨dZ, de, eb⟩, .bool ax] :: R0) fun R => CR (eInt .i64) H' R ib (r.2.1) ∧ CR (eInt .i64) H' R jl (r.2.2.1) ∧ CR (eInt .i64) H' R ic (r.2.2.2.1) ∧ CR (eInt .i64) H' R jm (r.2.2.2.2.1) ∧ CR (eInt .i64) H' R jn (r.2.2.2.2.2)
theorem aW.neg_l {F : Nat} {C : Nat → Nat → Int → Sl → Int → Int → Hp → OA} {y0 o : Nat} {y1 : Int} {y94 : Sl} {y95 y96 : Int} {R : List Rs} {t : Bool} {pre rest : List AV} {s : Sl} {i lo n : Nat} {c : Cap} {H : Hp} {cells : List AV} {l : List Int}
  (ht : ∀ z o, c ≠ .tip z o) (hd : s.ad = s.a) (w : W H R) (hi : R[i]? = some (.ow t s (eInt .i64).z pre cells rest)) (cr : CR (eInt .i64) H R cells l) (hb : lo + n ≤ l.length) : ∀ (k j : Nat), n - j < k → j ≤ n → l.length < 4611686018427387904 →
  ∃ H' cells', aW.l2095707 F (aI.tw F) (bQ.tw F) (bR.tw F) (aO.tw F) (cy.tw F) C k y0 o y1 y94 y95 y96 ⟨s.a.map (fun p => (p.1, p.2 + lo * 1)), n, c⟩ (n : Int) (j : Int) H = C y0 o y1 y94 y95 (IntKind.i64.wrap (y96 + 1)) H' ∧
   W H' (R.set i (.ow t s (eInt .i64).z pre cells' rest)) ∧ Fr H R H' (R.set i (.ow t s (eInt .i64).z pre cells' rest)) ∧ CR (eInt .i64) H' (R.set i (.ow t s (eInt .i64).z pre cells' rest)) cells' (negr l (lo + j) (n - j)) := by
 intro k
 induction k generalizing H cells l R with
 | zero => intro j h; exact absurd h (Nat.not_lt_zero _)
 | succ k ih =>
  intro j hk hj hlen
  unfold aW.l2095707
  by_cases c1 : j < n
  ·have e1 : decide ((j : Int) < (n : Int)) = true := decide_eq_true (by omega)
   have hsn := w.own_n hi cr
   have hix : ix l ((lo : Int) + j) = some (lo + j) := by unfold ix; rw [if_pos ⟨by omega, by omega⟩]; rfl
   obtain ⟨p, cs, g1, g2, g3⟩ := W.ixo (E := eInt .i64) (z := 1) w hi rfl cr hix
   have g2 : cs = [_] := g2
   subst g2
   have hv : Sl.idx ⟨s.a.map (fun p => (p.1, p.2 + lo * 1)), n, c⟩ (j : Int) 1 = some p := by rw [vidx ht hd (by omega) (by omega) (by rw [hsn]; omega)]; exact g1
   have hset : ∀ cells', (R.set i (.ow t s (eInt .i64).z pre cells' rest))[i]? = some (.ow t s (eInt .i64).z pre cells' rest) := fun cells' => List.getElem?_set_self (List.getElem?_eq_some_iff.1 hi).1
   obtain ⟨H', cells', h1, h2, h3, h4⟩ := W.sto (E := eInt .i64) (j := 0) (v := .int .i64 (IntKind.i64.wrap (0 - gt l (lo + j)))) (x' := IntKind.i64.wrap (0 - gt l (lo + j))) w hi rfl cr (n := lo + j) (k := (lo : Int) + j) (by omega) (by omega) g1 (by decide) rfl (fun _ h => by have h : _ = [_] := h; subst h; rfl)
   have hw : IntKind.i64.wrap ((j : Int) + 1) = ((j + 1 : Nat) : Int) := by rw [w64_in (by omega) (by omega)]; omega
   have hp0 : H.ldI .i64 p.1 p.2 = some (gt l (lo + j)) := ldI_of (g3 0 _ rfl)
   have hst : H.st p.1 p.2 (.int .i64 (IntKind.i64.wrap (0 - gt l (lo + j)))) = some H' := h1
   simp only [e1, cond_true, hv, Option.bind_some, hp0, hst, hw]
   obtain ⟨H2, cells2, q1, q2, q3, q4⟩ := ih h2 (hset _) h4 (by rw [List.length_set]; exact hb) (j + 1) (by omega) (by omega) (by rw [List.length_set]; exact hlen)
   refine ⟨H2, cells2, q1, ?_, ?_, ?_⟩
   ·rw [List.set_set] at q2; exact q2
   ·rw [List.set_set] at q3; exact h3.trans q3
   ·rw [List.set_set] at q4
    rw [show n - j = (n - (j + 1)) + 1 by omega]
    exact q4
  ·have e1 : decide ((j : Int) < (n : Int)) = false := decide_eq_false (by omega)
   simp only [e1, cond_false]
   have : n - j = 0 := by omega
   refine ⟨H, cells, rfl, ?_, ?_, ?_⟩
   all_goals
    have e : R.set i (.ow t s (eInt .i64).z pre cells rest) = R := by
     apply List.ext_getElem?
     intro j
     by_cases ej : i = j
     ·subst ej; rw [List.getElem?_set_self (List.getElem?_eq_some_iff.1 hi).1, hi]
     ·rw [List.getElem?_set_ne ej]
    rw [e]
   ·exact w
   ·exact Fr.refl _ _
   ·rw [this]; exact cr
theorem aW.neg_k {F : Nat} {C : Nat → Nat → Int → Sl → Int → Int → Hp → OA} {y0 o : Nat} {y1 : Int} {y94 : Sl} {y95 y96 : Int} {R : List Rs} {t : Bool} {pre rest : List AV} {s : Sl} {i : Nat} {c : Cap} {H : Hp} {cells : List AV} {l x : List Int} {a b : Int} {k : Nat} {Q : AV → Hp → Prop}
  (ht : ∀ z o, c ≠ .tip z o) (hd : s.ad = s.a) (w : W H R) (hi : R[i]? = some (.ow t s (eInt .i64).z pre cells rest)) (cr : CR (eInt .i64) H R cells l) (hx : cuts l a b = some x) (hk : l.length < k) (hl : l.length ≤ 4294967296)
  (g : ∀ H' cells', W H' (R.set i (.ow t s (eInt .i64).z pre cells' rest)) → Fr H R H' (R.set i (.ow t s (eInt .i64).z pre cells' rest)) → CR (eInt .i64) H' (R.set i (.ow t s (eInt .i64).z pre cells' rest)) cells' (negr l a.toNat x.length) →
   ∃ v H'', C y0 o y1 y94 y95 (IntKind.i64.wrap (y96 + 1)) H' = some (v, H'') ∧ Q v H'') :
  ∃ v H'', aW.l2095707 F (aI.tw F) (bQ.tw F) (bR.tw F) (aO.tw F) (cy.tw F) C k y0 o y1 y94 y95 y96 ⟨s.a.map (fun p => (p.1, p.2 + a.toNat * (eInt .i64).z)), x.length, c⟩ ((⟨s.a.map (fun p => (p.1, p.2 + a.toNat * (eInt .i64).z)), x.length, c⟩ : Sl).n : Int) 0 H = some (v, H'') ∧ Q v H'' := by
 obtain ⟨h1, h2, h3⟩ := cuts_some hx
 have hxl : x.length = b.toNat - a.toNat := by rw [h2, List.length_drop, List.length_take]; omega
 obtain ⟨H', cells', e, q1, q2, q3⟩ := aW.neg_l (F := F) (C := C) (y0 := y0) (o := o) (y1 := y1) (y94 := y94) (y95 := y95) (y96 := y96) (c := c) (lo := a.toNat) (n := x.length) ht hd w hi cr (by omega) k 0 (by omega) (Nat.zero_le _) (by omega)
 rw [Nat.add_zero, Nat.sub_zero] at q3
 obtain ⟨v, H'', g1, g2⟩ := g H' cells' q1 q2 q3
 exact ⟨v, H'', Eq.trans e g1, g2⟩
def aW.S32747 (H0 : Hp) (Ri R0 : List Rs) (ay aj aA ap aq ao au av aH aw : Int) (aR bn aM bo bp : ON) (aF aZ aB a_ ba az : Nat) (aS br aN bs bt : Cap) (bS bT bU bV bW bw : Bool) (bX bY bZ b_ ca cb cc cd ce cf : List AV) (C : Nat → Nat → Int → Int → Int → Hp → OA) (pC : List Int → Int → List Int → List Int → List Int → List Int → Int → Int → Int → Option (Bool × List Int × List Int × List Int × List Int × List Int)) : Prop := ∀ {aD aG aE aK aL : List Int} {cB cC cD cE cF : List AV} {iH jw iI : Int}, ∀ {H : Hp}, aF = aD.length → aZ = aG.length → aB = aE.length → a_ = aK.length → ba = aL.length → (Out H0 Ri H (Rs.ow bS ⟨aR, aF, aS⟩ (eInt .i64).z bX cB bY :: Rs.ow bT ⟨bn, aZ, br⟩ (eInt .i64).z bZ cC b_ :: Rs.ow bU ⟨aM, aB, aN⟩ (eInt .i64).z ca cD cb :: Rs.ow bV ⟨bo, a_, bs⟩ (eInt .i64).z cc cE cd :: Rs.ow bW ⟨bp, ba, bt⟩ (eInt .i64).z ce cF cf :: Rs.blk az [.int .i64 ay, .int .i64 aj, .sl ⟨aR, aF, aS⟩, .int .i64 aA, .int .i64 ap, .sl ⟨bn, aZ, br⟩, .int .i64 aq, .int .i64 ao, .sl ⟨aM, aB, aN⟩, .int .i64 au, .int .i64 av, .sl ⟨bo, a_, bs⟩, .int .i64 aH, .int .i64 aw, .sl ⟨bp, ba, bt⟩, .bool bw] :: R0) fun R => CR (eInt .i64) H R cB aD ∧ CR (eInt .i64) H R cC aG ∧ CR (eInt .i64) H R cD aE ∧ CR (eInt .i64) H R cE aK ∧ CR (eInt .i64) H R cF aL) → ∀ {r : Bool × List Int × List Int × List Int × List Int × List Int}, pC aD ap aG aE aK aL iH jw iI = some r → ∃ v H', C az 0 iH jw iI H = some (v, H') ∧ aW.Q H0 Ri R0 ay aj aA ap aq ao au av aH aw aR bn aM bo bp aF aZ aB a_ ba az aS br aN bs bt bS bT bU bV bW bw bX bY bZ b_ ca cb cc cd ce cf r v H'
def aW.pl32747 (F : Nat)  : Nat → List Int → Int → List Int → List Int → List Int → List Int → Int → Int → Int → Option (Bool × List Int × List Int × List Int × List Int × List Int)
 | 0, _, _, _, _, _, _, _, _, _ => none
 | k + 1, aD, ap, aG, aE, aK, aL, iH, jw, iI => (bif (decide (iI < jw)) then ((ix aG (IntKind.i64.wrap ((IntKind.i64.wrap (iI * ap)) + iH))).bind fun n2 => (ix aG (IntKind.i64.wrap ((IntKind.i64.wrap (iI * ap)) + iH))).bind fun n5 => (some (aG.set n2 (IntKind.i64.wrap (0 - (gt aG n5))))).bind fun l6 => aW.pl32747 F k aD ap l6 aE aK aL iH jw (IntKind.i64.wrap (iI + 1))) else (some (true, aD, aG, aE, aK, aL)))
termination_by structural n => n
theorem aW.l32747_P {F : Nat} {H0 : Hp} {Ri R0 : List Rs} {ay aj aA ap aq ao au av aH aw : Int} {aR bn aM bo bp : ON} {aF aZ aB a_ ba az : Nat} {aS br aN bs bt : Cap} {bS bT bU bV bW bw : Bool} {bX bY bZ b_ ca cb cc cd ce cf : List AV}  : ∀ k, aW.S32747 H0 Ri R0 ay aj aA ap aq ao au av aH aw aR bn aM bo bp aF aZ aB a_ ba az aS br aN bs bt bS bT bU bV bW bw bX bY bZ b_ ca cb cc cd ce cf (aW.l32747 F (aI.tw F) (bQ.tw F) (bR.tw F) (aO.tw F) (cy.tw F)  k) (aW.pl32747 F  k) := by
 intro k
 induction k with
 | zero =>
  intro aD aG aE aK aL cB cC cD cE cF iH jw iI H ei ek el em en h0 r hp
  exact nomatch (show (none : Option (Bool × List Int × List Int × List Int × List Int × List Int)) = some r from hp)
 | succ k ih =>
  intro aD aG aE aK aL cB cC cD cE cF iH jw iI H ei ek el em en h0 r hp
  obtain ⟨w0, s0, cT, di, cZ, dq, dr⟩ := h0
  subst ei
  subst ek
  subst el
  subst em
  subst en
  unfold aW.pl32747 at hp
  unfold aW.l32747
  refine bif_ex (fun hb => ?_) (fun hb => ?_)
  ·replace hp := bif_t hb hp
   refine bind_ex (ldI_of (w0.ld (i := 5) rfl rfl)) ?_
   refine bind_ex (ldI_of (w0.ld (i := 5) rfl rfl)) ?_
   refine bind_ex (ldSl_of (w0.ld (i := 5) rfl rfl)) ?_
   refine aO.inl ?_
   refine new_k w0 fun H1 w1 s1 => ?_
   refine bind_ex (ldSl_of (w1.ld (i := 0) rfl rfl)) ?_
   refine bind_ex (ldI_of (w1.ld (i := 0) rfl rfl)) ?_
   obtain ⟨n2, g2, hp⟩ := bind_some' hp
   obtain ⟨p2, q2, i2, h2, j2⟩ := W.ixo (E := (eInt .i64)) w1 (i := 2) rfl rfl (di.step s1) g2
   refine bind_ex i2 ?_
   refine ⟨_, _, rfl, ?_⟩
   refine bind_ex rfl ?_
   refine ifs_ex (W.cons_of (Rn := [_]) w0 w1 s1) ?_
   refine bind_ex (ldI_of (w1.ld (i := 6) rfl rfl)) ?_
   refine bind_ex (ldI_of (w1.ld (i := 6) rfl rfl)) ?_
   refine bind_ex (ldSl_of (w1.ld (i := 6) rfl rfl)) ?_
   refine aO.inl ?_
   refine new_k w1 fun H4 w4 s4 => ?_
   refine bind_ex (ldSl_of (w4.ld (i := 0) rfl rfl)) ?_
   refine bind_ex (ldI_of (w4.ld (i := 0) rfl rfl)) ?_
   obtain ⟨n5, g5, hp⟩ := bind_some' hp
   obtain ⟨p5, q5, i5, h5, j5⟩ := W.ixo (E := (eInt .i64)) w4 (i := 3) rfl rfl (di.step (s1.trans s4)) g5
   refine bind_ex i5 ?_
   refine ⟨_, _, rfl, ?_⟩
   refine bind_ex rfl ?_
   have h5 : _ = [_] := h5
   subst h5
   refine bind_ex (ldI_of (j5 0 _ rfl)) ?_
   obtain ⟨l6, e6, hp⟩ := bind_some' hp
   refine sto_k (eInt .i64) w4 (i := 3) (j := 0) (p := p2) rfl rfl (di.step (s1.trans s4)) g2 i2 e6 rfl rfl (fun _ h => by have h : _ = [_] := h; subst h; exact rfl) fun H7 k7 w7 s7 c7 => ?_
   dsimp only [List.set] at w7 s7 c7
   obtain ⟨w8, s8⟩ := w7.pick' [2, 3, 4, 5, 6, 7] 8 rfl rfl rfl
   dsimp only [pk, pks, nth, List.drop] at w8 s8
   exact ih rfl ((st_len e6).symm) rfl rfl rfl ⟨w8, (s0.trans (s1.trans (s4.trans (s7.trans s8)))), (cT.step (s1.trans (s4.trans (s7.trans s8)))), (c7.step s8), (cZ.step (s1.trans (s4.trans (s7.trans s8)))), (dq.step (s1.trans (s4.trans (s7.trans s8)))), (dr.step (s1.trans (s4.trans (s7.trans s8))))⟩ hp
  ·replace hp := bif_f hb hp
   obtain rfl := Option.some.inj hp
   exact ⟨_, _, rfl, _, _, _, _, _, rfl, rfl, rfl, rfl, rfl, rfl, w0, s0, cT, di, cZ, dq, dr⟩
def aW.pj3 (F : Nat)  (aD : List Int) (aA : Int) (ap : Int) (aG : List Int) (aE : List Int) (aK : List Int) (aL : List Int) (oC : Int) : Option (Bool × List Int × List Int × List Int × List Int × List Int) := aW.pl32747 F F aD ap aG aE aK aL oC aA 0
theorem aW.j3_P {F : Nat} {H0 : Hp} {Ri R0 : List Rs} {ay aj aA ap aq ao au av aH aw : Int} {aR bn aM bo bp : ON} {aF aZ aB a_ ba az : Nat} {aS br aN bs bt : Cap} {bS bT bU bV bW bw : Bool} {bX bY bZ b_ ca cb cc cd ce cf : List AV}  {aD aG aE aK aL : List Int} {cB cC cD cE cF : List AV} {oC : Int} {H : Hp} (ei : aF = aD.length) (ek : aZ = aG.length) (el : aB = aE.length) (em : a_ = aK.length) (en : ba = aL.length) (h0 : Out H0 Ri H (Rs.ow bS ⟨aR, aF, aS⟩ (eInt .i64).z bX cB bY :: Rs.ow bT ⟨bn, aZ, br⟩ (eInt .i64).z bZ cC b_ :: Rs.ow bU ⟨aM, aB, aN⟩ (eInt .i64).z ca cD cb :: Rs.ow bV ⟨bo, a_, bs⟩ (eInt .i64).z cc cE cd :: Rs.ow bW ⟨bp, ba, bt⟩ (eInt .i64).z ce cF cf :: Rs.blk az [.int .i64 ay, .int .i64 aj, .sl ⟨aR, aF, aS⟩, .int .i64 aA, .int .i64 ap, .sl ⟨bn, aZ, br⟩, .int .i64 aq, .int .i64 ao, .sl ⟨aM, aB, aN⟩, .int .i64 au, .int .i64 av, .sl ⟨bo, a_, bs⟩, .int .i64 aH, .int .i64 aw, .sl ⟨bp, ba, bt⟩, .bool bw] :: R0) fun R => CR (eInt .i64) H R cB aD ∧ CR (eInt .i64) H R cC aG ∧ CR (eInt .i64) H R cD aE ∧ CR (eInt .i64) H R cE aK ∧ CR (eInt .i64) H R cF aL) {r : Bool × List Int × List Int × List Int × List Int × List Int} (hp : aW.pj3 F  aD aA ap aG aE aK aL oC = some r) : ∃ v H', aW.j3 F (aI.tw F) (bQ.tw F) (bR.tw F) (aO.tw F) (cy.tw F)  az 0 oC H = some (v, H') ∧ aW.Q H0 Ri R0 ay aj aA ap aq ao au av aH aw aR bn aM bo bp aF aZ aB a_ ba az aS br aN bs bt bS bT bU bV bW bw bX bY bZ b_ ca cb cc cd ce cf r v H' := by
 obtain ⟨w0, s0, cT, di, cZ, dq, dr⟩ := h0
 subst ei
 subst ek
 subst el
 subst em
 subst en
 unfold aW.pj3 at hp
 unfold aW.j3
 refine bind_ex (ldI_of (w0.ld (i := 5) rfl rfl)) ?_
 exact aW.l32747_P F rfl rfl rfl rfl rfl ⟨w0, s0, cT, di, cZ, dq, dr⟩ hp
def aW.p (F : Nat) (aX : Int) (dB : List Int) (bl : Int) (bb : Int) (fk : List Int) (aY : Int) (aT : Int) (df : List Int) (bc : Int) (bf : Int) (fl : List Int) (bg : Int) (fm : List Int) (ae : Int) : Option (Bool × List Int × List Int × List Int × List Int × List Int) := (aI.p F aY aT df ae).bind fun r3 => (bif (!r3.2.2) then (some (false, dB, fk, df, fl, fm)) else ((bQ.p F aT df r3.1 ae).bind fun r7 => (bQ.p F aX dB r3.1 ae).bind fun r10 => (bR.p F bl bb fk r3.1 ae).bind fun r13 => (bR.p F aY aT r7 r3.2.1 ae).bind fun r16 => (bR.p F bc bf fl r3.2.1 ae).bind fun r19 => (bQ.p F bg fm r3.2.1 ae).bind fun r22 => (ix r16 (IntKind.i64.wrap ((IntKind.i64.wrap (ae * aT)) + ae))).bind fun n25 => (bif (decide ((gt r16 n25) < 0)) then ((cuts r16 (IntKind.i64.wrap (ae * aT)) (IntKind.i64.wrap ((IntKind.i64.wrap (ae + 1)) * aT))).bind fun x27 => (cuts r10 (IntKind.i64.wrap (ae * aX)) (IntKind.i64.wrap ((IntKind.i64.wrap (ae + 1)) * aX))).bind fun x29 => (if r16.length + 3 < F ∧ r10.length + 3 < F ∧ r16.length + r10.length ≤ 4294967296 then ((some (negr r16 ((IntKind.i64.wrap (ae * aT)) : Int).toNat x27.length)).bind fun l32 => (some (negr r10 ((IntKind.i64.wrap (ae * aX)) : Int).toNat x29.length)).bind fun l34 => aW.pj3 F l34 bl bb r13 l32 r19 r22 ae) else none)) else (some (true, r10, r13, r16, r19, r22)))))
theorem aW.P {F : Nat} {bj aX bl bb aY aT bc bf bv bg ae : Int} {cP dX cp dY dZ : ON} {bL dc bA dd de aa : Nat} {cQ d_ cq ea eb : Cap} {dB fk df fl fm : List Int} {eQ fw eR fx fy ax : Bool} {eS eT gf fz fA gG eU eV gg fB fC gH fD fE gI : List AV} {H : Hp} {R0 : List Rs} (jD : bL = dB.length) (kE : dc = fk.length) (iX : bA = df.length) (kF : dd = fl.length) (kG : de = fm.length) (h0 : Inn H (Rs.ow eQ ⟨cP, bL, cQ⟩ (eInt .i64).z eS gf eT :: Rs.ow fw ⟨dX, dc, d_⟩ (eInt .i64).z fz gG fA :: Rs.ow eR ⟨cp, bA, cq⟩ (eInt .i64).z eU gg eV :: Rs.ow fx ⟨dY, dd, ea⟩ (eInt .i64).z fB gH fC :: Rs.ow fy ⟨dZ, de, eb⟩ (eInt .i64).z fD gI fE :: Rs.blk aa [.int .i64 bj, .int .i64 aX, .sl ⟨cP, bL, cQ⟩, .int .i64 bl, .int .i64 bb, .sl ⟨dX, dc, d_⟩, .int .i64 aY, .int .i64 aT, .sl ⟨cp, bA, cq⟩, .int .i64 bc, .int .i64 bf, .sl ⟨dY, dd, ea⟩, .int .i64 bv, .int .i64 bg, .sl ⟨dZ, de, eb⟩, .bool ax] :: R0) fun R => CR (eInt .i64) H R gf dB ∧ CR (eInt .i64) H R gG fk ∧ CR (eInt .i64) H R gg df ∧ CR (eInt .i64) H R gH fl ∧ CR (eInt .i64) H R gI fm) {r : Bool × List Int × List Int × List Int × List Int × List Int} (hp : aW.p F aX dB bl bb fk aY aT df bc bf fl bg fm ae = some r) : ∃ v H', aW.tw F aa 0 ae H = some (v, H') ∧ aW.Q H (Rs.ow eQ ⟨cP, bL, cQ⟩ (eInt .i64).z eS gf eT :: Rs.ow fw ⟨dX, dc, d_⟩ (eInt .i64).z fz gG fA :: Rs.ow eR ⟨cp, bA, cq⟩ (eInt .i64).z eU gg eV :: Rs.ow fx ⟨dY, dd, ea⟩ (eInt .i64).z fB gH fC :: Rs.ow fy ⟨dZ, de, eb⟩ (eInt .i64).z fD gI fE :: Rs.blk aa [.int .i64 bj, .int .i64 aX, .sl ⟨cP, bL, cQ⟩, .int .i64 bl, .int .i64 bb, .sl ⟨dX, dc, d_⟩, .int .i64 aY, .int .i64 aT, .sl ⟨cp, bA, cq⟩, .int .i64 bc, .int .i64 bf, .sl ⟨dY, dd, ea⟩, .int .i64 bv, .int .i64 bg, .sl ⟨dZ, de, eb⟩, .bool ax] :: R0) R0 bj aX bl bb aY aT bc bf bv bg cP dX cp dY dZ bL dc bA dd de aa cQ d_ cq ea eb eQ fw eR fx fy ax eS eT fz fA eU eV fB fC fD fE r v H' := by
 obtain ⟨w0, iR, kp, hO, kq, kr⟩ := h0
 subst jD
 subst kE
 subst iX
 subst kF
 subst kG
 unfold aW.p at hp
 unfold aW.tw aW.twX
 have s0 := w0.rf
 obtain ⟨w1, s1⟩ := w0.pick' [2, 5, 0, 1, 3, 4] 6 rfl rfl rfl
 dsimp only [pk, pks, nth, List.drop] at w1 s1
 have f2 := W.borrow1 (eInt .i64) w1 (hO.step s1)
 obtain ⟨w2, s2⟩ := w1.right1
 obtain ⟨r3, e3, hp⟩ := bind_some' hp
 refine call_ex (aI.P rfl ⟨w2, f2⟩ e3) ?_
 rintro _ H4 ⟨rfl, w4, s4, _⟩
 obtain ⟨w5, s5⟩ := W.frame1 w1 w4 s4
 refine bind_ex rfl ?_
 refine bind_ex rfl ?_
 refine bind_ex rfl ?_
 refine bind_ex rfl ?_
 refine bind_ex rfl ?_
 refine bind_ex rfl ?_
 refine bind_ex rfl ?_
 refine bif_ex (fun hb => ?_) (fun hb => ?_)
 ·replace hp := bif_t hb hp
  obtain ⟨w6, s6⟩ := w5.pick' [2, 3, 0, 4, 5, 1] 6 rfl rfl rfl
  dsimp only [pk, pks, nth, List.drop] at w6 s6
  obtain rfl := Option.some.inj hp
  exact ⟨_, _, rfl, _, _, _, _, _, rfl, rfl, rfl, rfl, rfl, rfl, w6, (s0.trans (s1.trans (s5.trans s6))), (iR.step (s1.trans (s5.trans s6))), (kp.step (s1.trans (s5.trans s6))), (hO.step (s1.trans (s5.trans s6))), (kq.step (s1.trans (s5.trans s6))), (kr.step (s1.trans (s5.trans s6)))⟩
 ·replace hp := bif_f hb hp
  refine bind_ex (ldI_of (w5.ld (i := 1) rfl rfl)) ?_
  refine bind_ex (ldI_of (w5.ld (i := 1) rfl rfl)) ?_
  refine bind_ex (ldSl_of (w5.ld (i := 1) rfl rfl)) ?_
  obtain ⟨r7, e7, hp⟩ := bind_some' hp
  refine call_ex (bQ.P rfl ⟨w5, (hO.step (s1.trans s5))⟩ e7) ?_
  rintro _ H8 ⟨zF, rfl, hl8_0, w8, s8, f8_0⟩
  refine bind_ex (ldI_of (w8.ld (i := 1) rfl rfl)) ?_
  refine bind_ex (ldI_of (w8.ld (i := 1) rfl rfl)) ?_
  refine bind_ex (ldSl_of (w8.ld (i := 1) rfl rfl)) ?_
  obtain ⟨w9, s9⟩ := w8.pick' [2, 0, 1, 3, 4, 5] 6 rfl rfl rfl
  dsimp only [pk, pks, nth, List.drop] at w9 s9
  obtain ⟨r10, e10, hp⟩ := bind_some' hp
  refine call_ex (bQ.P rfl ⟨w9, (iR.step (s1.trans (s5.trans (s8.trans s9))))⟩ e10) ?_
  rintro _ H11 ⟨zG, rfl, hl11_0, w11, s11, f11_0⟩
  refine bind_ex (ldI_of (w11.ld (i := 2) rfl rfl)) ?_
  refine bind_ex (ldI_of (w11.ld (i := 2) rfl rfl)) ?_
  refine bind_ex (ldSl_of (w11.ld (i := 2) rfl rfl)) ?_
  obtain ⟨w12, s12⟩ := w11.pick' [3, 0, 1, 2, 4, 5] 6 rfl rfl rfl
  dsimp only [pk, pks, nth, List.drop] at w12 s12
  obtain ⟨r13, e13, hp⟩ := bind_some' hp
  refine call_ex (bR.P rfl ⟨w12, (kp.step (s1.trans (s5.trans (s8.trans (s9.trans (s11.trans s12))))))⟩ e13) ?_
  rintro _ H14 ⟨zH, rfl, hl14_0, w14, s14, f14_0⟩
  refine bind_ex (ldI_of (w14.ld (i := 3) rfl rfl)) ?_
  refine bind_ex (ldI_of (w14.ld (i := 3) rfl rfl)) ?_
  refine bind_ex (ldSl_of (w14.ld (i := 3) rfl rfl)) ?_
  obtain ⟨w15, s15⟩ := w14.pick' [2, 0, 1, 3, 4, 5] 6 rfl rfl rfl
  dsimp only [pk, pks, nth, List.drop] at w15 s15
  obtain ⟨r16, e16, hp⟩ := bind_some' hp
  refine call_ex (bR.P hl8_0 ⟨w15, (f8_0.step (s9.trans (s11.trans (s12.trans (s14.trans s15)))))⟩ e16) ?_
  rintro _ H17 ⟨zI, rfl, hl17_0, w17, s17, f17_0⟩
  refine bind_ex (ldI_of (w17.ld (i := 3) rfl rfl)) ?_
  refine bind_ex (ldI_of (w17.ld (i := 3) rfl rfl)) ?_
  refine bind_ex (ldSl_of (w17.ld (i := 3) rfl rfl)) ?_
  obtain ⟨w18, s18⟩ := w17.pick' [4, 0, 1, 2, 3, 5] 6 rfl rfl rfl
  dsimp only [pk, pks, nth, List.drop] at w18 s18
  obtain ⟨r19, e19, hp⟩ := bind_some' hp
  refine call_ex (bR.P rfl ⟨w18, (kq.step (s1.trans (s5.trans (s8.trans (s9.trans (s11.trans (s12.trans (s14.trans (s15.trans (s17.trans s18))))))))))⟩ e19) ?_
  rintro _ H20 ⟨Cc, rfl, hl20_0, w20, s20, f20_0⟩
  refine bind_ex (ldI_of (w20.ld (i := 4) rfl rfl)) ?_
  refine bind_ex (ldI_of (w20.ld (i := 4) rfl rfl)) ?_
  refine bind_ex (ldSl_of (w20.ld (i := 4) rfl rfl)) ?_
  obtain ⟨w21, s21⟩ := w20.pick' [5, 0, 1, 2, 3, 4] 6 rfl rfl rfl
  dsimp only [pk, pks, nth, List.drop] at w21 s21
  obtain ⟨r22, e22, hp⟩ := bind_some' hp
  refine call_ex (bQ.P rfl ⟨w21, (kr.step (s1.trans (s5.trans (s8.trans (s9.trans (s11.trans (s12.trans (s14.trans (s15.trans (s17.trans (s18.trans (s20.trans s21))))))))))))⟩ e22) ?_
  rintro _ H23 ⟨Cd, rfl, hl23_0, w23, s23, f23_0⟩
  refine bind_ex (ldI_of (w23.ld (i := 5) rfl rfl)) ?_
  refine bind_ex (ldI_of (w23.ld (i := 5) rfl rfl)) ?_
  refine bind_ex (ldSl_of (w23.ld (i := 5) rfl rfl)) ?_
  refine aO.inl ?_
  refine new_k w23 fun H24 w24 s24 => ?_
  refine bind_ex (ldSl_of (w24.ld (i := 0) rfl rfl)) ?_
  refine bind_ex (ldI_of (w24.ld (i := 0) rfl rfl)) ?_
  obtain ⟨n25, g25, hp⟩ := bind_some' hp
  obtain ⟨p25, q25, i25, h25, j25⟩ := W.ixo (E := (eInt .i64)) w24 (i := 3) rfl rfl (f17_0.step (s18.trans (s20.trans (s21.trans (s23.trans s24))))) g25
  refine bind_ex i25 ?_
  refine ⟨_, _, rfl, ?_⟩
  refine bind_ex rfl ?_
  have h25 : _ = [_] := h25
  subst h25
  refine bind_ex (ldI_of (j25 0 _ rfl)) ?_
  refine bif_ex (fun hb => ?_) (fun hb => ?_)
  ·replace hp := bif_t hb hp
   refine bind_ex (ldI_of (w24.ld (i := 6) rfl rfl)) ?_
   refine bind_ex (ldI_of (w24.ld (i := 6) rfl rfl)) ?_
   refine bind_ex (ldSl_of (w24.ld (i := 6) rfl rfl)) ?_
   refine cy.inl ?_
   refine new_k w24 fun H26 w26 s26 => ?_
   refine bind_ex (ldSl_of (w26.ld (i := 0) rfl rfl)) ?_
   refine bind_ex (ldI_of (w26.ld (i := 0) rfl rfl)) ?_
   refine bind_ex (ldI_of (w26.ld (i := 0) rfl rfl)) ?_
   obtain ⟨x27, e27, hp⟩ := bind_some' hp
   obtain ⟨d27, h27, t27, u27⟩ := W.cutv (E := (eInt .i64)) w26 (i := 4) rfl (f17_0.step (s18.trans (s20.trans (s21.trans (s23.trans (s24.trans s26)))))) e27
   refine bind_ex h27 ?_
   refine ⟨_, _, rfl, ?_⟩
   refine bind_ex rfl ?_
   refine ifs_ex (W.cons_of (Rn := [_]) w24 w26 s26) ?_
   refine bind_ex (ldI_of (w26.ld (i := 7) rfl rfl)) ?_
   refine bind_ex (ldI_of (w26.ld (i := 7) rfl rfl)) ?_
   refine bind_ex (ldSl_of (w26.ld (i := 7) rfl rfl)) ?_
   refine cy.inl ?_
   refine new_k w26 fun H28 w28 s28 => ?_
   refine bind_ex (ldSl_of (w28.ld (i := 0) rfl rfl)) ?_
   refine bind_ex (ldI_of (w28.ld (i := 0) rfl rfl)) ?_
   refine bind_ex (ldI_of (w28.ld (i := 0) rfl rfl)) ?_
   obtain ⟨x29, e29, hp⟩ := bind_some' hp
   obtain ⟨d29, h29, t29, u29⟩ := W.cutv (E := (eInt .i64)) w28 (i := 7) rfl (f11_0.step (s12.trans (s14.trans (s15.trans (s17.trans (s18.trans (s20.trans (s21.trans (s23.trans (s24.trans (s26.trans s28))))))))))) e29
   refine bind_ex h29 ?_
   refine ⟨_, _, rfl, ?_⟩
   refine bind_ex rfl ?_
   refine new_k w28 fun H30 w30 s30 => ?_
   obtain ⟨⟨hF, hl6, hl0⟩, hp⟩ := ifs_p hp
   obtain ⟨k, rfl⟩ : ∃ k, F = k + 3 := ⟨F - 3, by omega⟩
   unfold aW.l32745
   refine bif_ex (fun _ => ?_) (fun hb => absurd (show decide ((0 : Int) < ((2 : Nat) : Int)) = false from hb) (by decide))
   refine bind_ex (show _ = some (_, _) from rfl) ?_
   refine bind_ex (ldSl_of (w30.ld (i := 0) rfl rfl)) ?_
   refine aW.neg_k (i := 6) t27 u27 w30 rfl (f17_0.step (s18.trans (s20.trans (s21.trans (s23.trans (s24.trans (s26.trans (s28.trans s30)))))))) e27 (by omega) (by omega) fun H31 k31 w31 s31 c31 => ?_
   dsimp only [List.set] at w31 s31 c31
   obtain ⟨l32, e32, hp⟩ := bind_some' hp
   obtain rfl := Option.some.inj e32
   unfold aW.l32745
   refine bif_ex (fun _ => ?_) (fun hb => absurd (show decide ((IntKind.i64.wrap (0 + 1)) < ((2 : Nat) : Int)) = false from hb) (by decide))
   refine bind_ex (show _ = some (_, _) from rfl) ?_
   refine bind_ex (ldSl_of (w31.ld (i := 0) rfl rfl)) ?_
   refine aW.neg_k (i := 8) t29 u29 w31 rfl (f11_0.step (s12.trans (s14.trans (s15.trans (s17.trans (s18.trans (s20.trans (s21.trans (s23.trans (s24.trans (s26.trans (s28.trans (s30.trans s31))))))))))))) e29 (by omega) (by omega) fun H33 k33 w33 s33 c33 => ?_
   dsimp only [List.set] at w33 s33 c33
   obtain ⟨l34, e34, hp⟩ := bind_some' hp
   obtain rfl := Option.some.inj e34
   unfold aW.l32745
   refine bif_ex (fun hb => absurd (show decide (IntKind.i64.wrap (IntKind.i64.wrap (0 + 1) + 1) < ((2 : Nat) : Int)) = true from hb) (by decide)) (fun _ => ?_)
   obtain ⟨w35, s35⟩ := w33.pick' [8, 7, 6, 5, 4, 9] 10 rfl rfl rfl
   dsimp only [pk, pks, nth, List.drop] at w35 s35
   exact aW.j3_P (hl11_0.trans (negr_len _ _ _).symm) hl14_0 (hl17_0.trans (negr_len _ _ _).symm) hl20_0 hl23_0 ⟨w35, (s0.trans (s1.trans (s5.trans (s8.trans (s9.trans (s11.trans (s12.trans (s14.trans (s15.trans (s17.trans (s18.trans (s20.trans (s21.trans (s23.trans (s24.trans (s26.trans (s28.trans (s30.trans (s31.trans (s33.trans s35)))))))))))))))))))), (c33.step s35), (f14_0.step (s15.trans (s17.trans (s18.trans (s20.trans (s21.trans (s23.trans (s24.trans (s26.trans (s28.trans (s30.trans (s31.trans (s33.trans s35))))))))))))), (c31.step (s33.trans s35)), (f20_0.step (s21.trans (s23.trans (s24.trans (s26.trans (s28.trans (s30.trans (s31.trans (s33.trans s35))))))))), (f23_0.step (s24.trans (s26.trans (s28.trans (s30.trans (s31.trans (s33.trans s35)))))))⟩ hp
  ·replace hp := bif_f hb hp
   obtain ⟨w36, s36⟩ := w24.pick' [5, 4, 3, 2, 1, 6] 7 rfl rfl rfl
   dsimp only [pk, pks, nth, List.drop] at w36 s36
   obtain rfl := Option.some.inj hp
   exact ⟨_, _, rfl, _, _, _, _, _, rfl, hl11_0, hl14_0, hl17_0, hl20_0, hl23_0, w36, (s0.trans (s1.trans (s5.trans (s8.trans (s9.trans (s11.trans (s12.trans (s14.trans (s15.trans (s17.trans (s18.trans (s20.trans (s21.trans (s23.trans (s24.trans s36))))))))))))))), (f11_0.step (s12.trans (s14.trans (s15.trans (s17.trans (s18.trans (s20.trans (s21.trans (s23.trans (s24.trans s36)))))))))), (f14_0.step (s15.trans (s17.trans (s18.trans (s20.trans (s21.trans (s23.trans (s24.trans s36)))))))), (f17_0.step (s18.trans (s20.trans (s21.trans (s23.trans (s24.trans s36)))))), (f20_0.step (s21.trans (s23.trans (s24.trans s36)))), (f23_0.step (s24.trans s36))⟩
def dv.Q (H0 : Hp) (Ri R0 : List Rs)  (r : Int) (v : AV) (H' : Hp) : Prop := v = (.int .i64 r) ∧ Out H0 Ri H' (R0) fun R => True
def dv.p (F : Nat) (aa : Int) (ag : Int) : Option (Int) := (if ag = 0 then none else ((if ag = 0 then none else ((bif (decide ((Int.tmod aa ag) < 0)) then (some (IntKind.i64.wrap ((IntKind.i64.wrap (Int.tdiv aa ag)) - 1))) else (some (IntKind.i64.wrap (Int.tdiv aa ag))))))))
theorem dv.P {F : Nat} {aa ag : Int} {H : Hp} {R0 : List Rs}  (h0 : Inn H R0 fun R => True) {r : Int} (hp : dv.p F aa ag = some r) : ∃ v H', dv.tw F aa ag H = some (v, H') ∧ dv.Q H R0 R0  r v H' := by
 obtain ⟨w0, _⟩ := h0
 unfold dv.p at hp
 unfold dv.tw dv.twX
 have s0 := w0.rf
 obtain ⟨g1, hp⟩ := ifn_p hp
 refine ifn_ex g1 ?_
 obtain ⟨g2, hp⟩ := ifn_p hp
 refine ifn_ex g2 ?_
 refine bif_ex (fun hb => ?_) (fun hb => ?_)
 ·replace hp := bif_t hb hp
  obtain rfl := Option.some.inj hp
  exact ⟨_, _, rfl, rfl, w0, s0, trivial⟩
 ·replace hp := bif_f hb hp
  obtain rfl := Option.some.inj hp
  exact ⟨_, _, rfl, rfl, w0, s0, trivial⟩
def dz.Q (H0 : Hp) (Ri R0 : List Rs)  (r : Int × Bool) (v : AV) (H' : Hp) : Prop := v = (.tup [(.int .i64 r.1), (.bool r.2)]) ∧ Out H0 Ri H' (R0) fun R => True
def dz.p (F : Nat) (aa : Int) (ag : Int) (cJ : Int) : Option (Int × Bool) := (bif (aa != 0) then ((cj.p F ag).bind fun r1 => (cj.p F aa).bind fun r3 => (if r3 = 0 then none else ((bif (decide (r1 > (IntKind.i64.wrap (Int.tdiv cJ r3)))) then (some (0, false)) else (some ((IntKind.i64.wrap (aa * ag)), true)))))) else (some ((IntKind.i64.wrap (aa * ag)), true)))
theorem dz.P {F : Nat} {aa ag cJ : Int} {H : Hp} {R0 : List Rs}  (h0 : Inn H R0 fun R => True) {r : Int × Bool} (hp : dz.p F aa ag cJ = some r) : ∃ v H', dz.tw F aa ag cJ H = some (v, H') ∧ dz.Q H R0 R0  r v H' := by
 obtain ⟨w0, _⟩ := h0
 unfold dz.p at hp
 unfold dz.tw dz.twX
 have s0 := w0.rf
 refine bif_ex (fun hb => ?_) (fun hb => ?_)
 ·replace hp := bif_t hb hp
  obtain ⟨r1, e1, hp⟩ := bind_some' hp
  refine call_ex (cj.P ⟨w0, trivial⟩ e1) ?_
  rintro _ H2 ⟨rfl, w2, s2, _⟩
  refine bind_ex rfl ?_
  obtain ⟨r3, e3, hp⟩ := bind_some' hp
  refine call_ex (cj.P ⟨w2, trivial⟩ e3) ?_
  rintro _ H4 ⟨rfl, w4, s4, _⟩
  refine bind_ex rfl ?_
  obtain ⟨g5, hp⟩ := ifn_p hp
  refine ifn_ex g5 ?_
  refine bif_ex (fun hb => ?_) (fun hb => ?_)
  ·replace hp := bif_t hb hp
   obtain rfl := Option.some.inj hp
   exact ⟨_, _, rfl, rfl, w4, (s0.trans (s2.trans s4)), trivial⟩
  ·replace hp := bif_f hb hp
   obtain rfl := Option.some.inj hp
   exact ⟨_, _, rfl, rfl, w4, (s0.trans (s2.trans s4)), trivial⟩
 ·replace hp := bif_f hb hp
  obtain rfl := Option.some.inj hp
  exact ⟨_, _, rfl, rfl, w0, s0, trivial⟩
def dn.Q (H0 : Hp) (Ri R0 : List Rs) (bj aX bl bb aY aT bc bf bv bg : Int) (eg c_ eD da db : Sl) (aa ae : Nat) (r : Bool × Int) (v : AV) (H' : Hp) : Prop := v = (.tup []) ∧ Out H0 Ri H' (Rs.blk aa [.int .i64 bj, .int .i64 aX, .sl eg, .int .i64 bl, .int .i64 bb, .sl c_, .int .i64 aY, .int .i64 aT, .sl eD, .int .i64 bc, .int .i64 bf, .sl da, .int .i64 bv, .int .i64 bg, .sl db, .bool (r.1)] :: Rs.blk ae [.int .i64 (r.2)] :: R0) fun R => True
def dn.p (F : Nat) (ax : Bool) (oY : Int) (bh : Int) (jh : Int) : Option (Bool × Int) := (dz.p F bh jh 2000000000000).bind fun r1 => (bif (!r1.2) then (some (true, 0)) else ((cj.p F (IntKind.i64.wrap (oY + r1.1))).bind fun r6 => (bif (decide (r6 > 1000000000000)) then (some (true, 0)) else (some (ax, (IntKind.i64.wrap (oY + r1.1)))))))
theorem dn.P {F : Nat} {bj aX bl bb aY aT bc bf bv bg oY bh jh : Int} {eg c_ eD da db : Sl} {ax : Bool} {aa ae : Nat} {H : Hp} {R0 : List Rs}  (h0 : Inn H (Rs.blk aa [.int .i64 bj, .int .i64 aX, .sl eg, .int .i64 bl, .int .i64 bb, .sl c_, .int .i64 aY, .int .i64 aT, .sl eD, .int .i64 bc, .int .i64 bf, .sl da, .int .i64 bv, .int .i64 bg, .sl db, .bool ax] :: Rs.blk ae [.int .i64 oY] :: R0) fun R => True) {r : Bool × Int} (hp : dn.p F ax oY bh jh = some r) : ∃ v H', dn.tw F aa 0 ae 0 bh jh H = some (v, H') ∧ dn.Q H (Rs.blk aa [.int .i64 bj, .int .i64 aX, .sl eg, .int .i64 bl, .int .i64 bb, .sl c_, .int .i64 aY, .int .i64 aT, .sl eD, .int .i64 bc, .int .i64 bf, .sl da, .int .i64 bv, .int .i64 bg, .sl db, .bool ax] :: Rs.blk ae [.int .i64 oY] :: R0) R0 bj aX bl bb aY aT bc bf bv bg eg c_ eD da db aa ae r v H' := by
 obtain ⟨w0, _⟩ := h0
 unfold dn.p at hp
 unfold dn.tw dn.twX
 have s0 := w0.rf
 obtain ⟨r1, e1, hp⟩ := bind_some' hp
 refine call_ex (dz.P ⟨w0, trivial⟩ e1) ?_
 rintro _ H2 ⟨rfl, w2, s2, _⟩
 refine bind_ex rfl ?_
 refine bind_ex rfl ?_
 refine bind_ex rfl ?_
 refine bind_ex rfl ?_
 refine bind_ex rfl ?_
 refine bind_ex (ldI_of (w2.ld (i := 1) rfl rfl)) ?_
 refine st_k w2 (i := 1) rfl rfl rfl fun H3 w3 s3 => ?_
 dsimp only [List.set] at w3 s3
 refine bif_ex (fun hb => ?_) (fun hb => ?_)
 ·replace hp := bif_t hb hp
  refine st_k w3 (i := 0) rfl rfl rfl fun H4 w4 s4 => ?_
  dsimp only [List.set] at w4 s4
  refine st_k w4 (i := 1) rfl rfl rfl fun H5 w5 s5 => ?_
  dsimp only [List.set] at w5 s5
  obtain rfl := Option.some.inj hp
  exact ⟨_, _, rfl, rfl, w5, (s0.trans (s2.trans (s3.trans (s4.trans s5)))), trivial⟩
 ·replace hp := bif_f hb hp
  refine bind_ex (ldI_of (w3.ld (i := 1) rfl rfl)) ?_
  obtain ⟨r6, e6, hp⟩ := bind_some' hp
  refine call_ex (cj.P ⟨w3, trivial⟩ e6) ?_
  rintro _ H7 ⟨rfl, w7, s7, _⟩
  refine bind_ex rfl ?_
  refine bif_ex (fun hb => ?_) (fun hb => ?_)
  ·replace hp := bif_t hb hp
   refine st_k w7 (i := 0) rfl rfl rfl fun H8 w8 s8 => ?_
   dsimp only [List.set] at w8 s8
   refine st_k w8 (i := 1) rfl rfl rfl fun H9 w9 s9 => ?_
   dsimp only [List.set] at w9 s9
   obtain rfl := Option.some.inj hp
   exact ⟨_, _, rfl, rfl, w9, (s0.trans (s2.trans (s3.trans (s7.trans (s8.trans s9))))), trivial⟩
  ·replace hp := bif_f hb hp
   obtain rfl := Option.some.inj hp
   exact ⟨_, _, rfl, rfl, w7, (s0.trans (s2.trans (s3.trans s7))), trivial⟩
def bF.Q (H0 : Hp) (Ri R0 : List Rs) (bj aX bl bb aY aT bc bf bv bg : Int) (eg c_ eD da db : Sl) (aa ff : Nat) (fV : ON) (fW : Cap) (gx : Bool) (gy gz : List AV) (r : Bool × List Int) (v : AV) (H' : Hp) : Prop := ∃ kA : List AV, v = (.tup []) ∧ ff = (r.2).length ∧ Out H0 Ri H' (Rs.blk aa [.int .i64 bj, .int .i64 aX, .sl eg, .int .i64 bl, .int .i64 bb, .sl c_, .int .i64 aY, .int .i64 aT, .sl eD, .int .i64 bc, .int .i64 bf, .sl da, .int .i64 bv, .int .i64 bg, .sl db, .bool (r.1)] :: Rs.ow gx ⟨fV, ff, fW⟩ (eInt .i64).z gy kA gz :: R0) fun R => CR (eInt .i64) H' R kA (r.2)
def bF.S7 (H0 : Hp) (Ri R0 : List Rs) (ay aj aA ap aq ao au av aH aw : Int) (eh cG eH cH cI : Sl) (az gJ : Nat) (ie : ON) (ig : Cap) (jF : Bool) (jG jH : List AV) (C : Nat → Nat → Int → Int → Int → Nat → Nat → Int → Int → Hp → OA) (pC : Bool → Int → Int → Int → Int → List Int → Int → Int → Option (Bool × List Int)) : Prop := ∀ {ax : Bool} {ch dN dp nE iZ fi eK : Int} {gW : List Int} {mB : List AV} {cN : Nat}, ∀ {H : Hp}, gJ = gW.length → (Out H0 Ri H (Rs.blk az [.int .i64 ay, .int .i64 aj, .sl eh, .int .i64 aA, .int .i64 ap, .sl cG, .int .i64 aq, .int .i64 ao, .sl eH, .int .i64 au, .int .i64 av, .sl cH, .int .i64 aH, .int .i64 aw, .sl cI, .bool ax] :: Rs.ow jF ⟨ie, gJ, ig⟩ (eInt .i64).z jG mB jH :: Rs.blk cN [.int .i64 nE, .int .i64 iZ, .sl ⟨ie, gJ, ig⟩] :: R0) fun R => CR (eInt .i64) H R mB gW) → ∀ {r : Bool × List Int}, pC ax ch dN dp iZ gW fi eK = some r → ∃ v H', C az 0 ch dN dp cN 0 fi eK H = some (v, H') ∧ bF.Q H0 Ri R0 ay aj aA ap aq ao au av aH aw eh cG eH cH cI az gJ ie ig jF jG jH r v H'
def bF.pl7 (F : Nat)  : Nat → Bool → Int → Int → Int → Int → List Int → Int → Int → Option (Bool × List Int)
 | 0, _, _, _, _, _, _, _, _ => none
 | k + 1, ax, ch, dN, dp, iZ, gW, fi, eK => (bif (decide (eK < fi)) then ((ix gW (IntKind.i64.wrap ((IntKind.i64.wrap (ch * iZ)) + eK))).bind fun n2 => (ix gW (IntKind.i64.wrap ((IntKind.i64.wrap (dN * iZ)) + eK))).bind fun n5 => (dz.p F (gt gW n5) dp 2000000000000).bind fun r6 => (some (gW.set n2 (IntKind.i64.wrap ((gt gW n2) + r6.1)))).bind fun l9 => (bif (!r6.2) then ((some (l9.set n2 0)).bind fun l12 => bF.pl7 F k true ch dN dp iZ l12 fi (IntKind.i64.wrap (eK + 1))) else ((cj.p F (gt l9 n2)).bind fun r16 => (bif (decide (r16 > 1000000000000)) then ((some (l9.set n2 0)).bind fun l19 => bF.pl7 F k true ch dN dp iZ l19 fi (IntKind.i64.wrap (eK + 1))) else (bF.pl7 F k ax ch dN dp iZ l9 fi (IntKind.i64.wrap (eK + 1))))))) else (some (ax, gW)))
termination_by structural n => n
end Go.Proofs.Ytnkgeongfneafaa.AE
