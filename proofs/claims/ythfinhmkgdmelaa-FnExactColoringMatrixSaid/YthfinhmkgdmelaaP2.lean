import Derived.Test.YthfinhmkgdmelaaP1
import Derived.Test.YthfinhmkgdmelaaT2
import Derived.Test.YthfinhmkgdmelaaE2
set_option linter.unusedVariables false
set_option linter.unusedSimpArgs false
namespace Go.Proofs.Ythfinhmkgdmelaa.AE
open Go Go.AE Go.Proofs
set_option linter.unusedVariables false
set_option maxHeartbeats 4000000
set_option maxRecDepth 100000
theorem bJ.P {F:Nat} {ap:ON} {ag:Nat} {aq:Cap} {ac:List (Int×Int×Int×Int×Int)} {ab:Int} {H:Hp} {R0:List Rs} (aY:ag = ac.length) (h0:Inn H R0 fun R=>ROs (ePair (eInt .i64) (ePair (eInt .i64) (ePair (eInt .i64) (ePair (eInt .i64) (eInt .i64))))) H R ⟨ap,ag,aq⟩ ac) {r:Bool} (hp:bJ.p F ac ab = some r):∃ v H',bJ.tw F ⟨ap,ag,aq⟩ ab H = some (v,H')∧bJ.Q H R0 R0  r v H':=by
 obtain ⟨w0,aG⟩:=h0
 subst aY
 unfold bJ.p at hp
 unfold bJ.tw bJ.twX
 have s0:=w0.rf
 refine new_k w0 fun H1 w1 s1=>?_
 refine bind_ex (ldSl_of (w1.ld (i:=0) rfl rfl)) ?_
 refine bind_ex (ldI_of (w1.ld (i:=0) rfl rfl)) ?_
 obtain ⟨r2,e2,hp⟩:=bind_some' hp
 refine call_ex (bq.P rfl ⟨w1,(aG.step s1)⟩ e2) ?_
 rintro _ H3 ⟨rfl,w3,s3,_⟩
 refine bind_ex rfl ?_
 refine bif_ex (fun hb=>?_) (fun hb=>?_)
 ·replace hp:=bif_t hb hp
  obtain ⟨w4,s4⟩:=w3.pick' [] 1 rfl rfl rfl
  dsimp only [pk,pks,nth,List.drop] at w4 s4
  obtain rfl:=Option.some.inj hp
  exact ⟨_,_,rfl,rfl,w4,(s0.trans (s1.trans (s3.trans s4))),trivial⟩
 ·replace hp:=bif_f hb hp
  refine bind_ex (ldSl_of (w3.ld (i:=0) rfl rfl)) ?_
  refine bind_ex (ldI_of (w3.ld (i:=0) rfl rfl)) ?_
  obtain ⟨r5,e5,hp⟩:=bind_some' hp
  refine call_ex (bj.P rfl ⟨w3,(aG.step (s1.trans s3))⟩ e5) ?_
  rintro _ H6 ⟨o0a_6,o0n_6,o0c_6,o0k_6,rfl,rfl,w6,s6,f6_0⟩
  refine bind_ex rfl ?_
  refine bind_ex rfl ?_
  refine bind_ex rfl ?_
  refine bind_ex rfl ?_
  refine bind_ex rfl ?_
  have f7:=W.borrow1 (ePair (eInt .i64) (ePair (eInt .i64) (ePair (eInt .i64) (ePair (eInt .i64) (eInt .i64))))) w6 f6_0
  obtain ⟨w7,s7⟩:=w6.right1
  obtain ⟨r8,e8,hp⟩:=bind_some' hp
  refine call_ex (bu.P rfl ⟨w7,f7⟩ e8) ?_
  rintro _ H9 ⟨o2a_9,o2n_9,o2c_9,o2k_9,rfl,rfl,w9,s9,f9_0⟩
  obtain ⟨w10,s10⟩:=W.frame1 w6 w9 s9
  refine bind_ex rfl ?_
  refine bind_ex rfl ?_
  refine bind_ex rfl ?_
  refine bind_ex rfl ?_
  refine bind_ex rfl ?_
  refine bind_ex rfl ?_
  refine bind_ex rfl ?_
  refine bind_ex rfl ?_
  refine bind_ex rfl ?_
  refine bind_ex rfl ?_
  refine bind_ex rfl ?_
  refine new_k w10 fun H11 w11 s11=>?_
  refine st_k w11 (i:=0) rfl rfl rfl fun H12 w12 s12=>?_
  dsimp only [List.set] at w12 s12
  refine st_k w12 (i:=0) rfl rfl rfl fun H13 w13 s13=>?_
  dsimp only [List.set] at w13 s13
  refine st_k w13 (i:=0) rfl rfl rfl fun H14 w14 s14=>?_
  dsimp only [List.set] at w14 s14
  refine bind_ex (ldSl_of (w14.ld (i:=3) rfl rfl)) ?_
  refine bind_ex (ldI_of (w14.ld (i:=3) rfl rfl)) ?_
  obtain ⟨r15,e15,hp⟩:=bind_some' hp
  refine call_ex (bj.P rfl ⟨w14,(aG.step (s1.trans (s3.trans (s6.trans (s10.trans (s11.trans (s12.trans (s13.trans s14))))))))⟩ e15) ?_
  rintro _ H16 ⟨o0a_16,o0n_16,o0c_16,o0k_16,rfl,rfl,w16,s16,f16_0⟩
  refine bind_ex rfl ?_
  refine bind_ex rfl ?_
  refine bind_ex rfl ?_
  refine bind_ex rfl ?_
  refine bind_ex rfl ?_
  refine new_k w16 fun H17 w17 s17=>?_
  refine st_k w17 (i:=0) rfl rfl rfl fun H18 w18 s18=>?_
  dsimp only [List.set] at w18 s18
  refine st_k w18 (i:=0) rfl rfl rfl fun H19 w19 s19=>?_
  dsimp only [List.set] at w19 s19
  refine bind_ex (ldSl_of (w19.ld (i:=0) rfl rfl)) ?_
  refine bind_ex (ldI_of (w19.ld (i:=0) rfl rfl)) ?_
  obtain ⟨w20,s20⟩:=w19.pick' [1,0,2,3,4,5] 6 rfl rfl rfl
  dsimp only [pk,pks,nth,List.drop] at w20 s20
  have f21:=W.borrow1 (ePair (eInt .i64) (ePair (eInt .i64) (ePair (eInt .i64) (ePair (eInt .i64) (eInt .i64))))) w20 (f16_0.step (s17.trans (s18.trans (s19.trans s20))))
  obtain ⟨w21,s21⟩:=w20.right1
  obtain ⟨r22,e22,hp⟩:=bind_some' hp
  refine call_ex (bs.P rfl ⟨w21,f21⟩ e22) ?_
  rintro _ H23 ⟨o2a_23,o2n_23,o2c_23,o2k_23,rfl,rfl,w23,s23,f23_0⟩
  obtain ⟨w24,s24⟩:=W.frame1 w20 w23 s23
  refine bind_ex rfl ?_
  refine bind_ex rfl ?_
  refine bind_ex rfl ?_
  refine bind_ex rfl ?_
  refine bind_ex rfl ?_
  refine bind_ex rfl ?_
  refine bind_ex rfl ?_
  refine bind_ex rfl ?_
  refine bind_ex rfl ?_
  refine bind_ex rfl ?_
  refine bind_ex rfl ?_
  refine new_k w24 fun H25 w25 s25=>?_
  refine st_k w25 (i:=0) rfl rfl rfl fun H26 w26 s26=>?_
  dsimp only [List.set] at w26 s26
  refine st_k w26 (i:=0) rfl rfl rfl fun H27 w27 s27=>?_
  dsimp only [List.set] at w27 s27
  refine st_k w27 (i:=0) rfl rfl rfl fun H28 w28 s28=>?_
  dsimp only [List.set] at w28 s28
  refine bind_ex (ldI_of (w28.ld (i:=0) rfl rfl)) ?_
  refine bind_ex (ldI_of (w28.ld (i:=0) rfl rfl)) ?_
  refine bind_ex (ldSl_of (w28.ld (i:=0) rfl rfl)) ?_
  refine bind_ex (ldI_of (w28.ld (i:=4) rfl rfl)) ?_
  refine bind_ex (ldI_of (w28.ld (i:=4) rfl rfl)) ?_
  refine bind_ex (ldSl_of (w28.ld (i:=4) rfl rfl)) ?_
  obtain ⟨w29,s29⟩:=w28.pick' [2,6,0,1,3,4,5,7] 8 rfl rfl rfl
  dsimp only [pk,pks,nth,List.drop] at w29 s29
  have f30:=W.borrow1 (eInt .i64) w29 ((CR.flat (eInt_flat .i64) f23_0).step (s25.trans (s26.trans (s27.trans (s28.trans s29)))))
  obtain ⟨w30,s30⟩:=w29.right1
  have f31:=W.borrow1 (eInt .i64) w30 (((CR.flat (eInt_flat .i64) f9_0).step (s11.trans (s12.trans (s13.trans (s14.trans (s16.trans (s17.trans (s18.trans (s19.trans (s20.trans (s24.trans (s25.trans (s26.trans (s27.trans (s28.trans s29))))))))))))))).step s30)
  obtain ⟨w31,s31⟩:=w30.right1
  obtain ⟨r32,e32,hp⟩:=bind_some' hp
  refine call_ex (bo.P rfl rfl ⟨w31,(f30.step s31),f31⟩ e32) ?_
  rintro _ H33 ⟨rfl,w33,s33,_⟩
  obtain ⟨w34,s34⟩:=W.frame1 w30 w33 s33
  obtain ⟨w35,s35⟩:=W.frame1 w29 w34 s34
  refine bind_ex rfl ?_
  refine bif_ex (fun hb=>?_) (fun hb=>?_)
  ·replace hp:=bif_t hb hp
   obtain ⟨w36,s36⟩:=w35.pick' [] 8 rfl rfl rfl
   dsimp only [pk,pks,nth,List.drop] at w36 s36
   obtain rfl:=Option.some.inj hp
   exact ⟨_,_,rfl,rfl,w36,(s0.trans (s1.trans (s3.trans (s6.trans (s10.trans (s11.trans (s12.trans (s13.trans (s14.trans (s16.trans (s17.trans (s18.trans (s19.trans (s20.trans (s24.trans (s25.trans (s26.trans (s27.trans (s28.trans (s29.trans (s35.trans s36))))))))))))))))))))),trivial⟩
  ·replace hp:=bif_f hb hp
   refine bif_ex (fun hb=>?_) (fun hb=>?_)
   ·replace hp:=bif_t hb hp
    obtain ⟨w37,s37⟩:=w35.pick' [] 8 rfl rfl rfl
    dsimp only [pk,pks,nth,List.drop] at w37 s37
    obtain rfl:=Option.some.inj hp
    exact ⟨_,_,rfl,rfl,w37,(s0.trans (s1.trans (s3.trans (s6.trans (s10.trans (s11.trans (s12.trans (s13.trans (s14.trans (s16.trans (s17.trans (s18.trans (s19.trans (s20.trans (s24.trans (s25.trans (s26.trans (s27.trans (s28.trans (s29.trans (s35.trans s37))))))))))))))))))))),trivial⟩
   ·replace hp:=bif_f hb hp
    refine bind_ex (ldSl_of (w35.ld (i:=4) rfl rfl)) ?_
    refine bind_ex (ldI_of (w35.ld (i:=4) rfl rfl)) ?_
    refine bind_ex (ldSl_of (w35.ld (i:=7) rfl rfl)) ?_
    refine bind_ex (ldI_of (w35.ld (i:=7) rfl rfl)) ?_
    obtain ⟨r38,e38,hp⟩:=bind_some' hp
    refine call_ex (bj.P rfl ⟨w35,(aG.step (s1.trans (s3.trans (s6.trans (s10.trans (s11.trans (s12.trans (s13.trans (s14.trans (s16.trans (s17.trans (s18.trans (s19.trans (s20.trans (s24.trans (s25.trans (s26.trans (s27.trans (s28.trans (s29.trans s35))))))))))))))))))))⟩ e38) ?_
    rintro _ H39 ⟨o0a_39,o0n_39,o0c_39,o0k_39,rfl,rfl,w39,s39,f39_0⟩
    refine bind_ex rfl ?_
    refine bind_ex rfl ?_
    refine bind_ex rfl ?_
    refine bind_ex rfl ?_
    refine bind_ex rfl ?_
    refine ifs_ex (W.cons_of (Rn:=[_]) w35 w39 s39) ?_
    obtain ⟨w41,s41⟩:=w39.pick' [4,0,1,2,3,5,6,7,8] 9 rfl rfl rfl
    dsimp only [pk,pks,nth,List.drop] at w41 s41
    have f42:=W.borrow1 (ePair (eInt .i64) (ePair (eInt .i64) (ePair (eInt .i64) (ePair (eInt .i64) (eInt .i64))))) w41 (f16_0.step (s17.trans (s18.trans (s19.trans (s20.trans (s24.trans (s25.trans (s26.trans (s27.trans (s28.trans (s29.trans (s35.trans (s39.trans s41)))))))))))))
    obtain ⟨w42,s42⟩:=w41.right1
    have f43:=W.borrow1 (ePair (eInt .i64) (ePair (eInt .i64) (ePair (eInt .i64) (ePair (eInt .i64) (eInt .i64))))) w42 ((f39_0.step s41).step s42)
    obtain ⟨w43,s43⟩:=w42.right1
    obtain ⟨r44,e44,hp⟩:=bind_some' hp
    refine call_ex (bw.P rfl rfl ⟨w43,(f42.step s43),f43⟩ e44) ?_
    rintro _ H45 ⟨rfl,w45,s45,_⟩
    obtain ⟨w46,s46⟩:=W.frame1 w42 w45 s45
    obtain ⟨w47,s47⟩:=W.frame1 w41 w46 s46
    refine bind_ex rfl ?_
    refine bif_ex (fun hb=>?_) (fun hb=>?_)
    ·replace hp:=bif_t hb hp
     obtain ⟨w48,s48⟩:=w47.pick' [] 9 rfl rfl rfl
     dsimp only [pk,pks,nth,List.drop] at w48 s48
     obtain rfl:=Option.some.inj hp
     exact ⟨_,_,rfl,rfl,w48,(s0.trans (s1.trans (s3.trans (s6.trans (s10.trans (s11.trans (s12.trans (s13.trans (s14.trans (s16.trans (s17.trans (s18.trans (s19.trans (s20.trans (s24.trans (s25.trans (s26.trans (s27.trans (s28.trans (s29.trans (s35.trans (s39.trans (s41.trans (s47.trans s48)))))))))))))))))))))))),trivial⟩
    ·replace hp:=bif_f hb hp
     refine bind_ex (ldSl_of (w47.ld (i:=5) rfl rfl)) ?_
     refine bind_ex (ldI_of (w47.ld (i:=5) rfl rfl)) ?_
     obtain ⟨r49,e49,hp⟩:=bind_some' hp
     refine call_ex (bx.P rfl ⟨w47,(f16_0.step (s17.trans (s18.trans (s19.trans (s20.trans (s24.trans (s25.trans (s26.trans (s27.trans (s28.trans (s29.trans (s35.trans (s39.trans (s41.trans s47))))))))))))))⟩ e49) ?_
     rintro _ H50 ⟨Ca,rfl,hl50_0,w50,s50,f50_0⟩
     refine bind_ex rfl ?_
     refine bif_ex (fun hb=>?_) (fun hb=>?_)
     ·replace hp:=bif_t hb hp
      obtain ⟨w51,s51⟩:=w50.pick' [] 9 rfl rfl rfl
      dsimp only [pk,pks,nth,List.drop] at w51 s51
      obtain rfl:=Option.some.inj hp
      exact ⟨_,_,rfl,rfl,w51,(s0.trans (s1.trans (s3.trans (s6.trans (s10.trans (s11.trans (s12.trans (s13.trans (s14.trans (s16.trans (s17.trans (s18.trans (s19.trans (s20.trans (s24.trans (s25.trans (s26.trans (s27.trans (s28.trans (s29.trans (s35.trans (s39.trans (s41.trans (s47.trans (s50.trans s51))))))))))))))))))))))))),trivial⟩
     ·replace hp:=bif_f hb hp
      refine bind_ex (ldI_of (w50.ld (i:=4) rfl rfl)) ?_
      refine bind_ex (ldI_of (w50.ld (i:=4) rfl rfl)) ?_
      refine bind_ex (ldSl_of (w50.ld (i:=4) rfl rfl)) ?_
      refine bind_ex (ldI_of (w50.ld (i:=6) rfl rfl)) ?_
      refine bind_ex (ldI_of (w50.ld (i:=6) rfl rfl)) ?_
      refine bind_ex (ldSl_of (w50.ld (i:=6) rfl rfl)) ?_
      obtain ⟨w52,s52⟩:=w50.pick' [2,3,0,1,4,5,6,7,8] 9 rfl rfl rfl
      dsimp only [pk,pks,nth,List.drop] at w52 s52
      have f53:=W.borrow1 (eInt .i64) w52 ((CR.flat (eInt_flat .i64) f23_0).step (s25.trans (s26.trans (s27.trans (s28.trans (s29.trans (s35.trans (s39.trans (s41.trans (s47.trans (s50.trans s52)))))))))))
      obtain ⟨w53,s53⟩:=w52.right1
      have f54:=W.borrow1 (eInt .i64) w53 (((CR.flat (eInt_flat .i64) f9_0).step (s11.trans (s12.trans (s13.trans (s14.trans (s16.trans (s17.trans (s18.trans (s19.trans (s20.trans (s24.trans (s25.trans (s26.trans (s27.trans (s28.trans (s29.trans (s35.trans (s39.trans (s41.trans (s47.trans (s50.trans s52))))))))))))))))))))).step s53)
      obtain ⟨w54,s54⟩:=w53.right1
      obtain ⟨r55,e55,hp⟩:=bind_some' hp
      refine call_ex (bo.P rfl rfl ⟨w54,(f53.step s54),f54⟩ e55) ?_
      rintro _ H56 ⟨rfl,w56,s56,_⟩
      obtain ⟨w57,s57⟩:=W.frame1 w53 w56 s56
      obtain ⟨w58,s58⟩:=W.frame1 w52 w57 s57
      refine bind_ex rfl ?_
      refine bif_ex (fun hb=>?_) (fun hb=>?_)
      ·replace hp:=bif_t hb hp
       obtain ⟨w59,s59⟩:=w58.pick' [] 9 rfl rfl rfl
       dsimp only [pk,pks,nth,List.drop] at w59 s59
       obtain rfl:=Option.some.inj hp
       exact ⟨_,_,rfl,rfl,w59,(s0.trans (s1.trans (s3.trans (s6.trans (s10.trans (s11.trans (s12.trans (s13.trans (s14.trans (s16.trans (s17.trans (s18.trans (s19.trans (s20.trans (s24.trans (s25.trans (s26.trans (s27.trans (s28.trans (s29.trans (s35.trans (s39.trans (s41.trans (s47.trans (s50.trans (s52.trans (s58.trans s59))))))))))))))))))))))))))),trivial⟩
      ·replace hp:=bif_f hb hp
       refine bif_ex (fun hb=>?_) (fun hb=>?_)
       ·replace hp:=bif_t hb hp
        obtain ⟨w60,s60⟩:=w58.pick' [] 9 rfl rfl rfl
        dsimp only [pk,pks,nth,List.drop] at w60 s60
        obtain rfl:=Option.some.inj hp
        exact ⟨_,_,rfl,rfl,w60,(s0.trans (s1.trans (s3.trans (s6.trans (s10.trans (s11.trans (s12.trans (s13.trans (s14.trans (s16.trans (s17.trans (s18.trans (s19.trans (s20.trans (s24.trans (s25.trans (s26.trans (s27.trans (s28.trans (s29.trans (s35.trans (s39.trans (s41.trans (s47.trans (s50.trans (s52.trans (s58.trans s60))))))))))))))))))))))))))),trivial⟩
       ·replace hp:=bif_f hb hp
        refine bind_ex (ldI_of (w58.ld (i:=4) rfl rfl)) ?_
        refine bind_ex (ldI_of (w58.ld (i:=4) rfl rfl)) ?_
        refine bind_ex (ldSl_of (w58.ld (i:=4) rfl rfl)) ?_
        obtain ⟨r61,e61,hp⟩:=bind_some' hp
        refine call_ex (bF.P rfl ⟨w58,((CR.flat (eInt_flat .i64) f23_0).step (s25.trans (s26.trans (s27.trans (s28.trans (s29.trans (s35.trans (s39.trans (s41.trans (s47.trans (s50.trans (s52.trans s58))))))))))))⟩ e61) ?_
        rintro _ H62 ⟨Cb,rfl,hl62_0,w62,s62,f62_0⟩
        refine bind_ex rfl ?_
        refine bind_ex (ldI_of (w62.ld (i:=4) rfl rfl)) ?_
        refine bind_ex (ldI_of (w62.ld (i:=4) rfl rfl)) ?_
        refine bind_ex (ldSl_of (w62.ld (i:=4) rfl rfl)) ?_
        have f63:=W.borrow1 (eInt .i64) w62 f62_0
        obtain ⟨w63,s63⟩:=w62.right1
        obtain ⟨r64,e64,hp⟩:=bind_some' hp
        refine call_ex (bt.P hl62_0 ⟨w63,f63⟩ e64) ?_
        rintro _ H65 ⟨rfl,w65,s65,_⟩
        obtain ⟨w66,s66⟩:=W.frame1 w62 w65 s65
        refine bind_ex rfl ?_
        refine bif_ex (fun hb=>?_) (fun hb=>?_)
        ·replace hp:=bif_t hb hp
         obtain ⟨w67,s67⟩:=w66.pick' [] 9 rfl rfl rfl
         dsimp only [pk,pks,nth,List.drop] at w67 s67
         obtain rfl:=Option.some.inj hp
         exact ⟨_,_,rfl,rfl,w67,(s0.trans (s1.trans (s3.trans (s6.trans (s10.trans (s11.trans (s12.trans (s13.trans (s14.trans (s16.trans (s17.trans (s18.trans (s19.trans (s20.trans (s24.trans (s25.trans (s26.trans (s27.trans (s28.trans (s29.trans (s35.trans (s39.trans (s41.trans (s47.trans (s50.trans (s52.trans (s58.trans (s62.trans (s66.trans s67))))))))))))))))))))))))))))),trivial⟩
        ·replace hp:=bif_f hb hp
         refine bif_ex (fun hb=>?_) (fun hb=>?_)
         ·replace hp:=bif_t hb hp
          obtain ⟨w68,s68⟩:=w66.pick' [] 9 rfl rfl rfl
          dsimp only [pk,pks,nth,List.drop] at w68 s68
          obtain rfl:=Option.some.inj hp
          exact ⟨_,_,rfl,rfl,w68,(s0.trans (s1.trans (s3.trans (s6.trans (s10.trans (s11.trans (s12.trans (s13.trans (s14.trans (s16.trans (s17.trans (s18.trans (s19.trans (s20.trans (s24.trans (s25.trans (s26.trans (s27.trans (s28.trans (s29.trans (s35.trans (s39.trans (s41.trans (s47.trans (s50.trans (s52.trans (s58.trans (s62.trans (s66.trans s68))))))))))))))))))))))))))))),trivial⟩
         ·replace hp:=bif_f hb hp
          refine bind_ex (ldSl_of (w66.ld (i:=8) rfl rfl)) ?_
          refine bind_ex (ldI_of (w66.ld (i:=8) rfl rfl)) ?_
          obtain ⟨r69,e69,hp⟩:=bind_some' hp
          refine call_ex (bj.P rfl ⟨w66,(aG.step (s1.trans (s3.trans (s6.trans (s10.trans (s11.trans (s12.trans (s13.trans (s14.trans (s16.trans (s17.trans (s18.trans (s19.trans (s20.trans (s24.trans (s25.trans (s26.trans (s27.trans (s28.trans (s29.trans (s35.trans (s39.trans (s41.trans (s47.trans (s50.trans (s52.trans (s58.trans (s62.trans s66))))))))))))))))))))))))))))⟩ e69) ?_
          rintro _ H70 ⟨o0a_70,o0n_70,o0c_70,o0k_70,rfl,rfl,w70,s70,f70_0⟩
          refine bind_ex rfl ?_
          refine bind_ex rfl ?_
          refine bind_ex rfl ?_
          refine bind_ex rfl ?_
          refine bind_ex rfl ?_
          have f71:=W.borrow1 (ePair (eInt .i64) (ePair (eInt .i64) (ePair (eInt .i64) (ePair (eInt .i64) (eInt .i64))))) w70 f70_0
          obtain ⟨w71,s71⟩:=w70.right1
          obtain ⟨r72,e72,hp⟩:=bind_some' hp
          refine call_ex (bs.P rfl ⟨w71,f71⟩ e72) ?_
          rintro _ H73 ⟨o2a_73,o2n_73,o2c_73,o2k_73,rfl,rfl,w73,s73,f73_0⟩
          obtain ⟨w74,s74⟩:=W.frame1 w70 w73 s73
          refine bind_ex rfl ?_
          refine bind_ex rfl ?_
          refine bind_ex rfl ?_
          refine bind_ex rfl ?_
          refine bind_ex rfl ?_
          refine bind_ex rfl ?_
          refine bind_ex rfl ?_
          refine bind_ex rfl ?_
          refine bind_ex rfl ?_
          refine bind_ex rfl ?_
          refine bind_ex rfl ?_
          refine new_k w74 fun H75 w75 s75=>?_
          refine st_k w75 (i:=0) rfl rfl rfl fun H76 w76 s76=>?_
          dsimp only [List.set] at w76 s76
          refine st_k w76 (i:=0) rfl rfl rfl fun H77 w77 s77=>?_
          dsimp only [List.set] at w77 s77
          refine st_k w77 (i:=0) rfl rfl rfl fun H78 w78 s78=>?_
          dsimp only [List.set] at w78 s78
          refine bind_ex (ldI_of (w78.ld (i:=0) rfl rfl)) ?_
          refine bind_ex (ldI_of (w78.ld (i:=0) rfl rfl)) ?_
          refine bind_ex (ldSl_of (w78.ld (i:=0) rfl rfl)) ?_
          refine bind_ex (ldI_of (w78.ld (i:=9) rfl rfl)) ?_
          refine bind_ex (ldI_of (w78.ld (i:=9) rfl rfl)) ?_
          refine bind_ex (ldSl_of (w78.ld (i:=9) rfl rfl)) ?_
          obtain ⟨w79,s79⟩:=w78.pick' [2,4,0,1,3,5,6,7,8,9,10,11] 12 rfl rfl rfl
          dsimp only [pk,pks,nth,List.drop] at w79 s79
          have f80:=W.borrow1 (eInt .i64) w79 ((CR.flat (eInt_flat .i64) f73_0).step (s75.trans (s76.trans (s77.trans (s78.trans s79)))))
          obtain ⟨w80,s80⟩:=w79.right1
          have f81:=W.borrow1 (eInt .i64) w80 (((CR.flat (eInt_flat .i64) f9_0).step (s11.trans (s12.trans (s13.trans (s14.trans (s16.trans (s17.trans (s18.trans (s19.trans (s20.trans (s24.trans (s25.trans (s26.trans (s27.trans (s28.trans (s29.trans (s35.trans (s39.trans (s41.trans (s47.trans (s50.trans (s52.trans (s58.trans (s62.trans (s66.trans (s70.trans (s74.trans (s75.trans (s76.trans (s77.trans (s78.trans s79))))))))))))))))))))))))))))))).step s80)
          obtain ⟨w81,s81⟩:=w80.right1
          obtain ⟨r82,e82,hp⟩:=bind_some' hp
          refine call_ex (bo.P rfl rfl ⟨w81,(f80.step s81),f81⟩ e82) ?_
          rintro _ H83 ⟨rfl,w83,s83,_⟩
          obtain ⟨w84,s84⟩:=W.frame1 w80 w83 s83
          obtain ⟨w85,s85⟩:=W.frame1 w79 w84 s84
          refine bind_ex rfl ?_
          refine bif_ex (fun hb=>?_) (fun hb=>?_)
          ·replace hp:=bif_t hb hp
           obtain ⟨w86,s86⟩:=w85.pick' [] 12 rfl rfl rfl
           dsimp only [pk,pks,nth,List.drop] at w86 s86
           obtain rfl:=Option.some.inj hp
           exact ⟨_,_,rfl,rfl,w86,(s0.trans (s1.trans (s3.trans (s6.trans (s10.trans (s11.trans (s12.trans (s13.trans (s14.trans (s16.trans (s17.trans (s18.trans (s19.trans (s20.trans (s24.trans (s25.trans (s26.trans (s27.trans (s28.trans (s29.trans (s35.trans (s39.trans (s41.trans (s47.trans (s50.trans (s52.trans (s58.trans (s62.trans (s66.trans (s70.trans (s74.trans (s75.trans (s76.trans (s77.trans (s78.trans (s79.trans (s85.trans s86))))))))))))))))))))))))))))))))))))),trivial⟩
          ·replace hp:=bif_f hb hp
           refine bif_ex (fun hb=>?_) (fun hb=>?_)
           ·replace hp:=bif_t hb hp
            obtain ⟨w87,s87⟩:=w85.pick' [] 12 rfl rfl rfl
            dsimp only [pk,pks,nth,List.drop] at w87 s87
            obtain rfl:=Option.some.inj hp
            exact ⟨_,_,rfl,rfl,w87,(s0.trans (s1.trans (s3.trans (s6.trans (s10.trans (s11.trans (s12.trans (s13.trans (s14.trans (s16.trans (s17.trans (s18.trans (s19.trans (s20.trans (s24.trans (s25.trans (s26.trans (s27.trans (s28.trans (s29.trans (s35.trans (s39.trans (s41.trans (s47.trans (s50.trans (s52.trans (s58.trans (s62.trans (s66.trans (s70.trans (s74.trans (s75.trans (s76.trans (s77.trans (s78.trans (s79.trans (s85.trans s87))))))))))))))))))))))))))))))))))))),trivial⟩
           ·replace hp:=bif_f hb hp
            refine bind_ex (ldI_of (w85.ld (i:=7) rfl rfl)) ?_
            refine bind_ex (ldI_of (w85.ld (i:=7) rfl rfl)) ?_
            refine bind_ex (ldSl_of (w85.ld (i:=7) rfl rfl)) ?_
            obtain ⟨w88,s88⟩:=w85.pick' [4,0,1,2,3,5,6,7,8,9,10,11] 12 rfl rfl rfl
            dsimp only [pk,pks,nth,List.drop] at w88 s88
            have f89:=W.borrow1 (eInt .i64) w88 (f62_0.step (s66.trans (s70.trans (s74.trans (s75.trans (s76.trans (s77.trans (s78.trans (s79.trans (s85.trans s88))))))))))
            obtain ⟨w89,s89⟩:=w88.right1
            obtain ⟨r90,e90,hp⟩:=bind_some' hp
            refine call_ex (bt.P hl62_0 ⟨w89,f89⟩ e90) ?_
            rintro _ H91 ⟨rfl,w91,s91,_⟩
            obtain ⟨w92,s92⟩:=W.frame1 w88 w91 s91
            refine bind_ex rfl ?_
            refine bif_ex (fun hb=>?_) (fun hb=>?_)
            ·replace hp:=bif_t hb hp
             obtain ⟨w93,s93⟩:=w92.pick' [] 12 rfl rfl rfl
             dsimp only [pk,pks,nth,List.drop] at w93 s93
             obtain rfl:=Option.some.inj hp
             exact ⟨_,_,rfl,rfl,w93,(s0.trans (s1.trans (s3.trans (s6.trans (s10.trans (s11.trans (s12.trans (s13.trans (s14.trans (s16.trans (s17.trans (s18.trans (s19.trans (s20.trans (s24.trans (s25.trans (s26.trans (s27.trans (s28.trans (s29.trans (s35.trans (s39.trans (s41.trans (s47.trans (s50.trans (s52.trans (s58.trans (s62.trans (s66.trans (s70.trans (s74.trans (s75.trans (s76.trans (s77.trans (s78.trans (s79.trans (s85.trans (s88.trans (s92.trans s93))))))))))))))))))))))))))))))))))))))),trivial⟩
            ·replace hp:=bif_f hb hp
             refine bif_ex (fun hb=>?_) (fun hb=>?_)
             ·replace hp:=bif_t hb hp
              obtain ⟨w94,s94⟩:=w92.pick' [] 12 rfl rfl rfl
              dsimp only [pk,pks,nth,List.drop] at w94 s94
              obtain rfl:=Option.some.inj hp
              exact ⟨_,_,rfl,rfl,w94,(s0.trans (s1.trans (s3.trans (s6.trans (s10.trans (s11.trans (s12.trans (s13.trans (s14.trans (s16.trans (s17.trans (s18.trans (s19.trans (s20.trans (s24.trans (s25.trans (s26.trans (s27.trans (s28.trans (s29.trans (s35.trans (s39.trans (s41.trans (s47.trans (s50.trans (s52.trans (s58.trans (s62.trans (s66.trans (s70.trans (s74.trans (s75.trans (s76.trans (s77.trans (s78.trans (s79.trans (s85.trans (s88.trans (s92.trans s94))))))))))))))))))))))))))))))))))))))),trivial⟩
             ·replace hp:=bif_f hb hp
              obtain ⟨w95,s95⟩:=w92.pick' [] 12 rfl rfl rfl
              dsimp only [pk,pks,nth,List.drop] at w95 s95
              obtain rfl:=Option.some.inj hp
              exact ⟨_,_,rfl,rfl,w95,(s0.trans (s1.trans (s3.trans (s6.trans (s10.trans (s11.trans (s12.trans (s13.trans (s14.trans (s16.trans (s17.trans (s18.trans (s19.trans (s20.trans (s24.trans (s25.trans (s26.trans (s27.trans (s28.trans (s29.trans (s35.trans (s39.trans (s41.trans (s47.trans (s50.trans (s52.trans (s58.trans (s62.trans (s66.trans (s70.trans (s74.trans (s75.trans (s76.trans (s77.trans (s78.trans (s79.trans (s85.trans (s88.trans (s92.trans s95))))))))))))))))))))))))))))))))))))))),trivial⟩
end Go.Proofs.Ythfinhmkgdmelaa.AE
