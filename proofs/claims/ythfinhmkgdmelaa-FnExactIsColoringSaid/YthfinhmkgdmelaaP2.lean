import Derived.Test.YthfinhmkgdmelaaP1
import Derived.Test.YthfinhmkgdmelaaT2
import Derived.Test.YthfinhmkgdmelaaE2
set_option linter.unusedVariables false
set_option linter.unusedSimpArgs false
namespace Go.Proofs.Ythfinhmkgdmelaa.AE
open Go Go.AE Go.Proofs
set_option linter.unusedVariables false
set_option maxHeartbeats 4000000
set_option maxRecDepth 100000
def aX.S29 (H0:Hp) (Ri R0:List Rs)  (C:Sl→Sl→Int→Hp→OA) (pC:List Int→List Int→Int→Option (Bool)):Prop:=∀ {fo gA:ON} {dR fO:Nat} {fp gB:Cap} {bR cB:List Int} {ca:Int},∀ {H:Hp},dR = bR.length→fO = cB.length→(Out H0 Ri H R0 fun R=>ROs (eInt .i64) H R ⟨fo,dR,fp⟩ bR∧ROs (eInt .i64) H R ⟨gA,fO,gB⟩ cB)→∀ {r:Bool},pC bR cB ca = some r→∃ v H',C ⟨fo,dR,fp⟩ ⟨gA,fO,gB⟩ ca H = some (v,H')∧aX.Q H0 Ri R0  r v H'
def aX.pl29 (F:Nat) :Nat→List Int→List Int→Int→Option (Bool)
 | 0,_,_,_=>none
 | k + 1,bR,cB,ca=>(bif (decide (ca < (bR.length:Int))) then ((ix bR ca).bind fun n1=>(ix cB ca).bind fun n2=>(bif ((gt bR n1) != (gt cB n2)) then (some false) else (aX.pl29 F k bR cB (IntKind.i64.wrap (ca + 1))))) else (some true))
termination_by structural n=>n
theorem aX.l29_P {F:Nat} {H0:Hp} {Ri R0:List Rs}  :∀ k,aX.S29 H0 Ri R0  (aX.l29 F   k) (aX.pl29 F  k):=by
 intro k
 induction k with
 | zero=>
  intro fo gA dR fO fp gB bR cB ca H il kf h0 r hp
  exact nomatch (show (none:Option (Bool)) = some r from hp)
 | succ k ih=>
  intro fo gA dR fO fp gB bR cB ca H il kf h0 r hp
  obtain ⟨w0,s0,im,kg⟩:=h0
  subst il
  subst kf
  unfold aX.pl29 at hp
  unfold aX.l29
  refine bif_ex (fun hb=>?_) (fun hb=>?_)
  ·replace hp:=bif_t hb hp
   obtain ⟨n1,g1,hp⟩:=bind_some' hp
   obtain ⟨p1,q1,i1,h1,j1⟩:=ROs.ixr im rfl g1
   refine bind_ex i1 ?_
   have h1:_ = [_]:=h1
   subst h1
   refine bind_ex (ldI_of (j1 0 _ rfl)) ?_
   obtain ⟨n2,g2,hp⟩:=bind_some' hp
   obtain ⟨p2,q2,i2,h2,j2⟩:=ROs.ixr kg rfl g2
   refine bind_ex i2 ?_
   have h2:_ = [_]:=h2
   subst h2
   refine bind_ex (ldI_of (j2 0 _ rfl)) ?_
   refine bif_ex (fun hb=>?_) (fun hb=>?_)
   ·replace hp:=bif_t hb hp
    obtain rfl:=Option.some.inj hp
    exact ⟨_,_,rfl,rfl,w0,s0,trivial⟩
   ·replace hp:=bif_f hb hp
    exact ih rfl rfl ⟨w0,s0,im,kg⟩ hp
  ·replace hp:=bif_f hb hp
   obtain rfl:=Option.some.inj hp
   exact ⟨_,_,rfl,rfl,w0,s0,trivial⟩
def aX.p (F:Nat) (ac:List Int) (ft:List Int):Option (Bool):=(bif ((ac.length:Int) != (ft.length:Int)) then (some false) else (aX.pl29 F F ac ft 0))
theorem aX.P {F:Nat} {av kh:ON} {aj iL:Nat} {aw ki:Cap} {ac ft:List Int} {H:Hp} {R0:List Rs} (ba:aj = ac.length) (oX:iL = ft.length) (h0:Inn H R0 fun R=>ROs (eInt .i64) H R ⟨av,aj,aw⟩ ac∧ROs (eInt .i64) H R ⟨kh,iL,ki⟩ ft) {r:Bool} (hp:aX.p F ac ft = some r):∃ v H',aX.tw F ⟨av,aj,aw⟩ ⟨kh,iL,ki⟩ H = some (v,H')∧aX.Q H R0 R0  r v H':=by
 obtain ⟨w0,aH,oY⟩:=h0
 subst ba
 subst oX
 unfold aX.p at hp
 unfold aX.tw aX.twX
 have s0:=w0.rf
 refine bif_ex (fun hb=>?_) (fun hb=>?_)
 ·replace hp:=bif_t hb hp
  obtain rfl:=Option.some.inj hp
  exact ⟨_,_,rfl,rfl,w0,s0,trivial⟩
 ·replace hp:=bif_f hb hp
  exact aX.l29_P F rfl rfl ⟨w0,s0,aH,oY⟩ hp
def bP.Q (H0:Hp) (Ri R0:List Rs)  (r:Bool) (v:AV) (H':Hp):Prop:=v = (.bool r)∧Out H0 Ri H' (R0) fun R=>True
def bP.p (F:Nat) (ac:List (Int×Int×Int×Int×Int)) (ab:Int) (af:Int) (dg:List Int):Option (Bool):=(bif (decide ((dg.length:Int) > 1048576)) then (some true) else ((bs.p F ac 1048576).bind fun r3=>(bif (decide (r3 < 0)) then (some true) else ((bp.p F ac ab).bind fun r6=>(aI.p F dg).bind fun r8=>(aB.p F r6.1 r6.2 af r8).bind fun r13=>(bp.p F ac ab).bind fun r17=>(aI.p F dg).bind fun r22=>(aS.p F r17.1 r17.2 af r22).bind fun r27=>(bif (!(r27 == r13)) then (some false) else ((bp.p F ac ab).bind fun r32=>(bB.p F r17.1 r17.2 r32.1 r32.2).bind fun r38=>(bif (!r38) then (some false) else ((aI.p F dg).bind fun r43=>(aX.p F r22 r43).bind fun r48=>(bif (!r48) then (some false) else (some true))))))))))
theorem bP.P {F:Nat} {av jQ:ON} {aj iG:Nat} {aw jR:Cap} {ac:List (Int×Int×Int×Int×Int)} {ab af:Int} {dg:List Int} {H:Hp} {R0:List Rs} (ba:aj = ac.length) (nQ:iG = dg.length) (h0:Inn H R0 fun R=>ROs (ePair (eInt .i64) (ePair (eInt .i64) (ePair (eInt .i64) (ePair (eInt .i64) (eInt .i64))))) H R ⟨av,aj,aw⟩ ac∧ROs (eInt .i64) H R ⟨jQ,iG,jR⟩ dg) {r:Bool} (hp:bP.p F ac ab af dg = some r):∃ v H',bP.tw F ⟨av,aj,aw⟩ ab af ⟨jQ,iG,jR⟩ H = some (v,H')∧bP.Q H R0 R0  r v H':=by
 obtain ⟨w0,aH,jk⟩:=h0
 subst ba
 subst nQ
 unfold bP.p at hp
 unfold bP.tw bP.twX
 have s0:=w0.rf
 refine new_k w0 fun H1 w1 s1=>?_
 refine bif_ex (fun hb=>?_) (fun hb=>?_)
 ·replace hp:=bif_t hb hp
  obtain ⟨w2,s2⟩:=w1.pick' [] 1 rfl rfl rfl
  dsimp only [pk,pks,nth,List.drop] at w2 s2
  obtain rfl:=Option.some.inj hp
  exact ⟨_,_,rfl,rfl,w2,(s0.trans (s1.trans s2)),trivial⟩
 ·replace hp:=bif_f hb hp
  refine bind_ex (ldSl_of (w1.ld (i:=0) rfl rfl)) ?_
  refine bind_ex (ldI_of (w1.ld (i:=0) rfl rfl)) ?_
  obtain ⟨r3,e3,hp⟩:=bind_some' hp
  refine call_ex (bs.P rfl ⟨w1,(aH.step s1)⟩ e3) ?_
  rintro _ H4 ⟨rfl,w4,s4,_⟩
  refine bind_ex rfl ?_
  refine bif_ex (fun hb=>?_) (fun hb=>?_)
  ·replace hp:=bif_t hb hp
   obtain ⟨w5,s5⟩:=w4.pick' [] 1 rfl rfl rfl
   dsimp only [pk,pks,nth,List.drop] at w5 s5
   obtain rfl:=Option.some.inj hp
   exact ⟨_,_,rfl,rfl,w5,(s0.trans (s1.trans (s4.trans s5))),trivial⟩
  ·replace hp:=bif_f hb hp
   refine bind_ex (ldSl_of (w4.ld (i:=0) rfl rfl)) ?_
   refine bind_ex (ldI_of (w4.ld (i:=0) rfl rfl)) ?_
   obtain ⟨r6,e6,hp⟩:=bind_some' hp
   refine call_ex (bp.P rfl ⟨w4,(aH.step (s1.trans s4))⟩ e6) ?_
   rintro _ H7 ⟨o0a_7,o0n_7,o0c_7,o0k_7,rfl,rfl,w7,s7,f7_0⟩
   refine bind_ex rfl ?_
   refine bind_ex rfl ?_
   refine bind_ex rfl ?_
   refine bind_ex rfl ?_
   refine bind_ex rfl ?_
   obtain ⟨r8,e8,hp⟩:=bind_some' hp
   refine call_ex (aI.P rfl ⟨w7,(jk.step (s1.trans (s4.trans s7)))⟩ e8) ?_
   rintro _ H9 ⟨o0a_9,o0n_9,o0c_9,o0k_9,rfl,rfl,w9,s9,f9_0⟩
   refine bind_ex rfl ?_
   obtain ⟨w10,s10⟩:=w9.pick' [1,0,2] 3 rfl rfl rfl
   dsimp only [pk,pks,nth,List.drop] at w10 s10
   have f11:=W.borrow1 (ePair (eInt .i64) (ePair (eInt .i64) (ePair (eInt .i64) (ePair (eInt .i64) (eInt .i64))))) w10 (f7_0.step (s9.trans s10))
   obtain ⟨w11,s11⟩:=w10.right1
   have f12:=W.borrow1 (eInt .i64) w11 ((f9_0.step s10).step s11)
   obtain ⟨w12,s12⟩:=w11.right1
   obtain ⟨r13,e13,hp⟩:=bind_some' hp
   refine call_ex (aB.P rfl rfl ⟨w12,(f11.step s12),f12⟩ e13) ?_
   rintro _ H14 ⟨rfl,w14,s14,_⟩
   obtain ⟨w15,s15⟩:=W.frame1 w11 w14 s14
   obtain ⟨w16,s16⟩:=W.frame1 w10 w15 s15
   refine bind_ex rfl ?_
   refine bind_ex (ldSl_of (w16.ld (i:=2) rfl rfl)) ?_
   refine bind_ex (ldI_of (w16.ld (i:=2) rfl rfl)) ?_
   obtain ⟨r17,e17,hp⟩:=bind_some' hp
   refine call_ex (bp.P rfl ⟨w16,(aH.step (s1.trans (s4.trans (s7.trans (s9.trans (s10.trans s16))))))⟩ e17) ?_
   rintro _ H18 ⟨o0a_18,o0n_18,o0c_18,o0k_18,rfl,rfl,w18,s18,f18_0⟩
   refine bind_ex rfl ?_
   refine bind_ex rfl ?_
   refine bind_ex rfl ?_
   refine bind_ex rfl ?_
   refine bind_ex rfl ?_
   refine new_k w18 fun H19 w19 s19=>?_
   refine st_k w19 (i:=0) rfl rfl rfl fun H20 w20 s20=>?_
   dsimp only [List.set] at w20 s20
   refine st_k w20 (i:=0) rfl rfl rfl fun H21 w21 s21=>?_
   dsimp only [List.set] at w21 s21
   obtain ⟨r22,e22,hp⟩:=bind_some' hp
   refine call_ex (aI.P rfl ⟨w21,(jk.step (s1.trans (s4.trans (s7.trans (s9.trans (s10.trans (s16.trans (s18.trans (s19.trans (s20.trans s21))))))))))⟩ e22) ?_
   rintro _ H23 ⟨o0a_23,o0n_23,o0c_23,o0k_23,rfl,rfl,w23,s23,f23_0⟩
   refine bind_ex rfl ?_
   refine bind_ex (ldSl_of (w23.ld (i:=1) rfl rfl)) ?_
   refine bind_ex (ldI_of (w23.ld (i:=1) rfl rfl)) ?_
   obtain ⟨w24,s24⟩:=w23.pick' [2,0,1,3,4,5] 6 rfl rfl rfl
   dsimp only [pk,pks,nth,List.drop] at w24 s24
   have f25:=W.borrow1 (ePair (eInt .i64) (ePair (eInt .i64) (ePair (eInt .i64) (ePair (eInt .i64) (eInt .i64))))) w24 (f18_0.step (s19.trans (s20.trans (s21.trans (s23.trans s24)))))
   obtain ⟨w25,s25⟩:=w24.right1
   have f26:=W.borrow1 (eInt .i64) w25 ((f23_0.step s24).step s25)
   obtain ⟨w26,s26⟩:=w25.right1
   obtain ⟨r27,e27,hp⟩:=bind_some' hp
   refine call_ex (aS.P rfl rfl ⟨w26,(f25.step s26),f26⟩ e27) ?_
   rintro _ H28 ⟨rfl,w28,s28,_⟩
   obtain ⟨w29,s29⟩:=W.frame1 w25 w28 s28
   obtain ⟨w30,s30⟩:=W.frame1 w24 w29 s29
   refine bind_ex rfl ?_
   refine bif_ex (fun hb=>?_) (fun hb=>?_)
   ·replace hp:=bif_t hb hp
    obtain ⟨w31,s31⟩:=w30.pick' [] 6 rfl rfl rfl
    dsimp only [pk,pks,nth,List.drop] at w31 s31
    obtain rfl:=Option.some.inj hp
    exact ⟨_,_,rfl,rfl,w31,(s0.trans (s1.trans (s4.trans (s7.trans (s9.trans (s10.trans (s16.trans (s18.trans (s19.trans (s20.trans (s21.trans (s23.trans (s24.trans (s30.trans s31)))))))))))))),trivial⟩
   ·replace hp:=bif_f hb hp
    refine bind_ex (ldSl_of (w30.ld (i:=2) rfl rfl)) ?_
    refine bind_ex (ldI_of (w30.ld (i:=2) rfl rfl)) ?_
    refine bind_ex (ldSl_of (w30.ld (i:=5) rfl rfl)) ?_
    refine bind_ex (ldI_of (w30.ld (i:=5) rfl rfl)) ?_
    obtain ⟨r32,e32,hp⟩:=bind_some' hp
    refine call_ex (bp.P rfl ⟨w30,(aH.step (s1.trans (s4.trans (s7.trans (s9.trans (s10.trans (s16.trans (s18.trans (s19.trans (s20.trans (s21.trans (s23.trans (s24.trans s30)))))))))))))⟩ e32) ?_
    rintro _ H33 ⟨o0a_33,o0n_33,o0c_33,o0k_33,rfl,rfl,w33,s33,f33_0⟩
    refine bind_ex rfl ?_
    refine bind_ex rfl ?_
    refine bind_ex rfl ?_
    refine bind_ex rfl ?_
    refine bind_ex rfl ?_
    refine ifs_ex (W.cons_of (Rn:=[_]) w30 w33 s33) ?_
    obtain ⟨w35,s35⟩:=w33.pick' [1,0,2,3,4,5,6] 7 rfl rfl rfl
    dsimp only [pk,pks,nth,List.drop] at w35 s35
    have f36:=W.borrow1 (ePair (eInt .i64) (ePair (eInt .i64) (ePair (eInt .i64) (ePair (eInt .i64) (eInt .i64))))) w35 (f18_0.step (s19.trans (s20.trans (s21.trans (s23.trans (s24.trans (s30.trans (s33.trans s35))))))))
    obtain ⟨w36,s36⟩:=w35.right1
    have f37:=W.borrow1 (ePair (eInt .i64) (ePair (eInt .i64) (ePair (eInt .i64) (ePair (eInt .i64) (eInt .i64))))) w36 ((f33_0.step s35).step s36)
    obtain ⟨w37,s37⟩:=w36.right1
    obtain ⟨r38,e38,hp⟩:=bind_some' hp
    refine call_ex (bB.P rfl rfl ⟨w37,(f36.step s37),f37⟩ e38) ?_
    rintro _ H39 ⟨rfl,w39,s39,_⟩
    obtain ⟨w40,s40⟩:=W.frame1 w36 w39 s39
    obtain ⟨w41,s41⟩:=W.frame1 w35 w40 s40
    refine bind_ex rfl ?_
    refine bif_ex (fun hb=>?_) (fun hb=>?_)
    ·replace hp:=bif_t hb hp
     obtain ⟨w42,s42⟩:=w41.pick' [] 7 rfl rfl rfl
     dsimp only [pk,pks,nth,List.drop] at w42 s42
     obtain rfl:=Option.some.inj hp
     exact ⟨_,_,rfl,rfl,w42,(s0.trans (s1.trans (s4.trans (s7.trans (s9.trans (s10.trans (s16.trans (s18.trans (s19.trans (s20.trans (s21.trans (s23.trans (s24.trans (s30.trans (s33.trans (s35.trans (s41.trans s42))))))))))))))))),trivial⟩
    ·replace hp:=bif_f hb hp
     obtain ⟨r43,e43,hp⟩:=bind_some' hp
     refine call_ex (aI.P rfl ⟨w41,(jk.step (s1.trans (s4.trans (s7.trans (s9.trans (s10.trans (s16.trans (s18.trans (s19.trans (s20.trans (s21.trans (s23.trans (s24.trans (s30.trans (s33.trans (s35.trans s41))))))))))))))))⟩ e43) ?_
     rintro _ H44 ⟨o0a_44,o0n_44,o0c_44,o0k_44,rfl,rfl,w44,s44,f44_0⟩
     refine bind_ex rfl ?_
     obtain ⟨w45,s45⟩:=w44.pick' [3,0,1,2,4,5,6,7] 8 rfl rfl rfl
     dsimp only [pk,pks,nth,List.drop] at w45 s45
     have f46:=W.borrow1 (eInt .i64) w45 (f23_0.step (s24.trans (s30.trans (s33.trans (s35.trans (s41.trans (s44.trans s45)))))))
     obtain ⟨w46,s46⟩:=w45.right1
     have f47:=W.borrow1 (eInt .i64) w46 ((f44_0.step s45).step s46)
     obtain ⟨w47,s47⟩:=w46.right1
     obtain ⟨r48,e48,hp⟩:=bind_some' hp
     refine call_ex (aX.P rfl rfl ⟨w47,(f46.step s47),f47⟩ e48) ?_
     rintro _ H49 ⟨rfl,w49,s49,_⟩
     obtain ⟨w50,s50⟩:=W.frame1 w46 w49 s49
     obtain ⟨w51,s51⟩:=W.frame1 w45 w50 s50
     refine bind_ex rfl ?_
     refine bif_ex (fun hb=>?_) (fun hb=>?_)
     ·replace hp:=bif_t hb hp
      obtain ⟨w52,s52⟩:=w51.pick' [] 8 rfl rfl rfl
      dsimp only [pk,pks,nth,List.drop] at w52 s52
      obtain rfl:=Option.some.inj hp
      exact ⟨_,_,rfl,rfl,w52,(s0.trans (s1.trans (s4.trans (s7.trans (s9.trans (s10.trans (s16.trans (s18.trans (s19.trans (s20.trans (s21.trans (s23.trans (s24.trans (s30.trans (s33.trans (s35.trans (s41.trans (s44.trans (s45.trans (s51.trans s52)))))))))))))))))))),trivial⟩
     ·replace hp:=bif_f hb hp
      obtain ⟨w53,s53⟩:=w51.pick' [] 8 rfl rfl rfl
      dsimp only [pk,pks,nth,List.drop] at w53 s53
      obtain rfl:=Option.some.inj hp
      exact ⟨_,_,rfl,rfl,w53,(s0.trans (s1.trans (s4.trans (s7.trans (s9.trans (s10.trans (s16.trans (s18.trans (s19.trans (s20.trans (s21.trans (s23.trans (s24.trans (s30.trans (s33.trans (s35.trans (s41.trans (s44.trans (s45.trans (s51.trans s53)))))))))))))))))))),trivial⟩
end Go.Proofs.Ythfinhmkgdmelaa.AE
