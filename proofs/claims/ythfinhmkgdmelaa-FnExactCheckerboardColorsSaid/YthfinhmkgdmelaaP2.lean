import Derived.Test.YthfinhmkgdmelaaP1
import Derived.Test.YthfinhmkgdmelaaT2
import Derived.Test.YthfinhmkgdmelaaE2
set_option linter.unusedVariables false
set_option linter.unusedSimpArgs false
namespace Go.Proofs.Ythfinhmkgdmelaa.AE
open Go Go.AE Go.Proofs
set_option linter.unusedVariables false
set_option maxHeartbeats 4000000
set_option maxRecDepth 100000
theorem bM.P {F:Nat} {av:ON} {aj:Nat} {aw:Cap} {ad:List (Int×Int×Int×Int×Int)} {ab:Int} {H:Hp} {R0:List Rs} (ba:aj = ad.length) (h0:Inn H R0 fun R=>ROs (ePair (eInt .i64) (ePair (eInt .i64) (ePair (eInt .i64) (ePair (eInt .i64) (eInt .i64))))) H R ⟨av,aj,aw⟩ ad) {r:Bool} (hp:bM.p F ad ab = some r):∃ v H',bM.tw F ⟨av,aj,aw⟩ ab H = some (v,H')∧bM.Q H R0 R0  r v H':=by
 obtain ⟨w0,aL⟩:=h0
 subst ba
 unfold bM.p at hp
 unfold bM.tw bM.twX
 have s0:=w0.rf
 refine new_k w0 fun H1 w1 s1=>?_
 refine bind_ex (ldSl_of (w1.ld (i:=0) rfl rfl)) ?_
 refine bind_ex (ldI_of (w1.ld (i:=0) rfl rfl)) ?_
 obtain ⟨r2,e2,hp⟩:=bind_some' hp
 refine call_ex (bw.P rfl ⟨w1,(aL.step s1)⟩ e2) ?_
 rintro _ H3 ⟨rfl,w3,s3,_⟩
 refine bind_ex rfl ?_
 refine bif_ex (fun hb=>?_) (fun hb=>?_)
 ·replace hp:=bif_t hb hp
  obtain ⟨w4,s4⟩:=w3.pick' [] 1 rfl rfl rfl
  dsimp only [pk,pks,nth,List.drop] at w4 s4
  obtain rfl:=Option.some.inj hp
  exact ⟨_,_,rfl,rfl,w4,(s0.trans (s1.trans (s3.trans s4))),trivial⟩
 ·replace hp:=bif_f hb hp
  refine bind_ex (ldSl_of (w3.ld (i:=0) rfl rfl)) ?_
  refine bind_ex (ldI_of (w3.ld (i:=0) rfl rfl)) ?_
  obtain ⟨r5,e5,hp⟩:=bind_some' hp
  refine call_ex (bp.P rfl ⟨w3,(aL.step (s1.trans s3))⟩ e5) ?_
  rintro _ H6 ⟨o0a_6,o0n_6,o0c_6,o0k_6,rfl,rfl,w6,s6,f6_0⟩
  refine bind_ex rfl ?_
  refine bind_ex rfl ?_
  refine bind_ex rfl ?_
  refine bind_ex rfl ?_
  refine bind_ex rfl ?_
  have f7:=W.borrow1 (ePair (eInt .i64) (ePair (eInt .i64) (ePair (eInt .i64) (ePair (eInt .i64) (eInt .i64))))) w6 f6_0
  obtain ⟨w7,s7⟩:=w6.right1
  obtain ⟨r8,e8,hp⟩:=bind_some' hp
  refine call_ex (bA.P rfl ⟨w7,f7⟩ e8) ?_
  rintro _ H9 ⟨o0a_9,o0n_9,o0c_9,o0k_9,rfl,rfl,w9,s9,f9_0⟩
  obtain ⟨w10,s10⟩:=W.frame1 w6 w9 s9
  refine bind_ex rfl ?_
  refine bind_ex rfl ?_
  refine bind_ex rfl ?_
  refine bind_ex rfl ?_
  refine bind_ex rfl ?_
  refine bind_ex (ldSl_of (w10.ld (i:=2) rfl rfl)) ?_
  refine bind_ex (ldI_of (w10.ld (i:=2) rfl rfl)) ?_
  obtain ⟨r11,e11,hp⟩:=bind_some' hp
  refine call_ex (bp.P rfl ⟨w10,(aL.step (s1.trans (s3.trans (s6.trans s10))))⟩ e11) ?_
  rintro _ H12 ⟨o0a_12,o0n_12,o0c_12,o0k_12,rfl,rfl,w12,s12,f12_0⟩
  refine bind_ex rfl ?_
  refine bind_ex rfl ?_
  refine bind_ex rfl ?_
  refine bind_ex rfl ?_
  refine bind_ex rfl ?_
  refine new_k w12 fun H13 w13 s13=>?_
  refine st_k w13 (i:=0) rfl rfl rfl fun H14 w14 s14=>?_
  dsimp only [List.set] at w14 s14
  refine st_k w14 (i:=0) rfl rfl rfl fun H15 w15 s15=>?_
  dsimp only [List.set] at w15 s15
  refine bind_ex (ldSl_of (w15.ld (i:=0) rfl rfl)) ?_
  refine bind_ex (ldI_of (w15.ld (i:=0) rfl rfl)) ?_
  obtain ⟨w16,s16⟩:=w15.pick' [1,0,2,3,4] 5 rfl rfl rfl
  dsimp only [pk,pks,nth,List.drop] at w16 s16
  have f17:=W.borrow1 (ePair (eInt .i64) (ePair (eInt .i64) (ePair (eInt .i64) (ePair (eInt .i64) (eInt .i64))))) w16 (f12_0.step (s13.trans (s14.trans (s15.trans s16))))
  obtain ⟨w17,s17⟩:=w16.right1
  obtain ⟨r18,e18,hp⟩:=bind_some' hp
  refine call_ex (bx.P rfl ⟨w17,f17⟩ e18) ?_
  rintro _ H19 ⟨o0a_19,o0n_19,o0c_19,o0k_19,rfl,rfl,w19,s19,f19_0⟩
  obtain ⟨w20,s20⟩:=W.frame1 w16 w19 s19
  refine bind_ex rfl ?_
  refine bind_ex rfl ?_
  refine bind_ex rfl ?_
  refine bind_ex rfl ?_
  refine bind_ex rfl ?_
  obtain ⟨w21,s21⟩:=w20.pick' [1,4,0,2,3,5] 6 rfl rfl rfl
  dsimp only [pk,pks,nth,List.drop] at w21 s21
  have f22:=W.borrow1 (eInt .i64) w21 ((CR.flat (eInt_flat .i64) f19_0).step s21)
  obtain ⟨w22,s22⟩:=w21.right1
  have f23:=W.borrow1 (eInt .i64) w22 (((CR.flat (eInt_flat .i64) f9_0).step (s12.trans (s13.trans (s14.trans (s15.trans (s16.trans (s20.trans s21))))))).step s22)
  obtain ⟨w23,s23⟩:=w22.right1
  obtain ⟨r24,e24,hp⟩:=bind_some' hp
  refine call_ex (aM.P rfl rfl ⟨w23,(f22.step s23),f23⟩ e24) ?_
  rintro _ H25 ⟨rfl,w25,s25,_⟩
  obtain ⟨w26,s26⟩:=W.frame1 w22 w25 s25
  obtain ⟨w27,s27⟩:=W.frame1 w21 w26 s26
  refine bind_ex rfl ?_
  refine bif_ex (fun hb=>?_) (fun hb=>?_)
  ·replace hp:=bif_t hb hp
   obtain ⟨w28,s28⟩:=w27.pick' [] 6 rfl rfl rfl
   dsimp only [pk,pks,nth,List.drop] at w28 s28
   obtain rfl:=Option.some.inj hp
   exact ⟨_,_,rfl,rfl,w28,(s0.trans (s1.trans (s3.trans (s6.trans (s10.trans (s12.trans (s13.trans (s14.trans (s15.trans (s16.trans (s20.trans (s21.trans (s27.trans s28))))))))))))),trivial⟩
  ·replace hp:=bif_f hb hp
   refine bif_ex (fun hb=>?_) (fun hb=>?_)
   ·replace hp:=bif_t hb hp
    obtain ⟨w29,s29⟩:=w27.pick' [] 6 rfl rfl rfl
    dsimp only [pk,pks,nth,List.drop] at w29 s29
    obtain rfl:=Option.some.inj hp
    exact ⟨_,_,rfl,rfl,w29,(s0.trans (s1.trans (s3.trans (s6.trans (s10.trans (s12.trans (s13.trans (s14.trans (s15.trans (s16.trans (s20.trans (s21.trans (s27.trans s29))))))))))))),trivial⟩
   ·replace hp:=bif_f hb hp
    refine bind_ex (ldSl_of (w27.ld (i:=3) rfl rfl)) ?_
    refine bind_ex (ldI_of (w27.ld (i:=3) rfl rfl)) ?_
    refine bind_ex (ldSl_of (w27.ld (i:=5) rfl rfl)) ?_
    refine bind_ex (ldI_of (w27.ld (i:=5) rfl rfl)) ?_
    obtain ⟨r30,e30,hp⟩:=bind_some' hp
    refine call_ex (bp.P rfl ⟨w27,(aL.step (s1.trans (s3.trans (s6.trans (s10.trans (s12.trans (s13.trans (s14.trans (s15.trans (s16.trans (s20.trans (s21.trans s27))))))))))))⟩ e30) ?_
    rintro _ H31 ⟨o0a_31,o0n_31,o0c_31,o0k_31,rfl,rfl,w31,s31,f31_0⟩
    refine bind_ex rfl ?_
    refine bind_ex rfl ?_
    refine bind_ex rfl ?_
    refine bind_ex rfl ?_
    refine bind_ex rfl ?_
    refine ifs_ex (W.cons_of (Rn:=[_]) w27 w31 s31) ?_
    obtain ⟨w33,s33⟩:=w31.pick' [3,0,1,2,4,5,6] 7 rfl rfl rfl
    dsimp only [pk,pks,nth,List.drop] at w33 s33
    have f34:=W.borrow1 (ePair (eInt .i64) (ePair (eInt .i64) (ePair (eInt .i64) (ePair (eInt .i64) (eInt .i64))))) w33 (f12_0.step (s13.trans (s14.trans (s15.trans (s16.trans (s20.trans (s21.trans (s27.trans (s31.trans s33)))))))))
    obtain ⟨w34,s34⟩:=w33.right1
    have f35:=W.borrow1 (ePair (eInt .i64) (ePair (eInt .i64) (ePair (eInt .i64) (ePair (eInt .i64) (eInt .i64))))) w34 ((f31_0.step s33).step s34)
    obtain ⟨w35,s35⟩:=w34.right1
    obtain ⟨r36,e36,hp⟩:=bind_some' hp
    refine call_ex (bC.P rfl rfl ⟨w35,(f34.step s35),f35⟩ e36) ?_
    rintro _ H37 ⟨rfl,w37,s37,_⟩
    obtain ⟨w38,s38⟩:=W.frame1 w34 w37 s37
    obtain ⟨w39,s39⟩:=W.frame1 w33 w38 s38
    refine bind_ex rfl ?_
    refine bif_ex (fun hb=>?_) (fun hb=>?_)
    ·replace hp:=bif_t hb hp
     obtain ⟨w40,s40⟩:=w39.pick' [] 7 rfl rfl rfl
     dsimp only [pk,pks,nth,List.drop] at w40 s40
     obtain rfl:=Option.some.inj hp
     exact ⟨_,_,rfl,rfl,w40,(s0.trans (s1.trans (s3.trans (s6.trans (s10.trans (s12.trans (s13.trans (s14.trans (s15.trans (s16.trans (s20.trans (s21.trans (s27.trans (s31.trans (s33.trans (s39.trans s40)))))))))))))))),trivial⟩
    ·replace hp:=bif_f hb hp
     refine bind_ex (ldSl_of (w39.ld (i:=4) rfl rfl)) ?_
     refine bind_ex (ldI_of (w39.ld (i:=4) rfl rfl)) ?_
     obtain ⟨r41,e41,hp⟩:=bind_some' hp
     refine call_ex (bD.P rfl ⟨w39,(f12_0.step (s13.trans (s14.trans (s15.trans (s16.trans (s20.trans (s21.trans (s27.trans (s31.trans (s33.trans s39))))))))))⟩ e41) ?_
     rintro _ H42 ⟨HQ,rfl,hl42_0,w42,s42,f42_0⟩
     refine bind_ex rfl ?_
     refine bif_ex (fun hb=>?_) (fun hb=>?_)
     ·replace hp:=bif_t hb hp
      obtain ⟨w43,s43⟩:=w42.pick' [] 7 rfl rfl rfl
      dsimp only [pk,pks,nth,List.drop] at w43 s43
      obtain rfl:=Option.some.inj hp
      exact ⟨_,_,rfl,rfl,w43,(s0.trans (s1.trans (s3.trans (s6.trans (s10.trans (s12.trans (s13.trans (s14.trans (s15.trans (s16.trans (s20.trans (s21.trans (s27.trans (s31.trans (s33.trans (s39.trans (s42.trans s43))))))))))))))))),trivial⟩
     ·replace hp:=bif_f hb hp
      obtain ⟨w44,s44⟩:=w42.pick' [2,3,0,1,4,5,6] 7 rfl rfl rfl
      dsimp only [pk,pks,nth,List.drop] at w44 s44
      have f45:=W.borrow1 (eInt .i64) w44 ((CR.flat (eInt_flat .i64) f19_0).step (s21.trans (s27.trans (s31.trans (s33.trans (s39.trans (s42.trans s44)))))))
      obtain ⟨w45,s45⟩:=w44.right1
      have f46:=W.borrow1 (eInt .i64) w45 (((CR.flat (eInt_flat .i64) f9_0).step (s12.trans (s13.trans (s14.trans (s15.trans (s16.trans (s20.trans (s21.trans (s27.trans (s31.trans (s33.trans (s39.trans (s42.trans s44))))))))))))).step s45)
      obtain ⟨w46,s46⟩:=w45.right1
      obtain ⟨r47,e47,hp⟩:=bind_some' hp
      refine call_ex (aM.P rfl rfl ⟨w46,(f45.step s46),f46⟩ e47) ?_
      rintro _ H48 ⟨rfl,w48,s48,_⟩
      obtain ⟨w49,s49⟩:=W.frame1 w45 w48 s48
      obtain ⟨w50,s50⟩:=W.frame1 w44 w49 s49
      refine bind_ex rfl ?_
      refine bif_ex (fun hb=>?_) (fun hb=>?_)
      ·replace hp:=bif_t hb hp
       obtain ⟨w51,s51⟩:=w50.pick' [] 7 rfl rfl rfl
       dsimp only [pk,pks,nth,List.drop] at w51 s51
       obtain rfl:=Option.some.inj hp
       exact ⟨_,_,rfl,rfl,w51,(s0.trans (s1.trans (s3.trans (s6.trans (s10.trans (s12.trans (s13.trans (s14.trans (s15.trans (s16.trans (s20.trans (s21.trans (s27.trans (s31.trans (s33.trans (s39.trans (s42.trans (s44.trans (s50.trans s51))))))))))))))))))),trivial⟩
      ·replace hp:=bif_f hb hp
       refine bif_ex (fun hb=>?_) (fun hb=>?_)
       ·replace hp:=bif_t hb hp
        obtain ⟨w52,s52⟩:=w50.pick' [] 7 rfl rfl rfl
        dsimp only [pk,pks,nth,List.drop] at w52 s52
        obtain rfl:=Option.some.inj hp
        exact ⟨_,_,rfl,rfl,w52,(s0.trans (s1.trans (s3.trans (s6.trans (s10.trans (s12.trans (s13.trans (s14.trans (s15.trans (s16.trans (s20.trans (s21.trans (s27.trans (s31.trans (s33.trans (s39.trans (s42.trans (s44.trans (s50.trans s52))))))))))))))))))),trivial⟩
       ·replace hp:=bif_f hb hp
        obtain ⟨r53,e53,hp⟩:=bind_some' hp
        refine call_ex (aW.P rfl ⟨w50,((CR.flat (eInt_flat .i64) f19_0).step (s21.trans (s27.trans (s31.trans (s33.trans (s39.trans (s42.trans (s44.trans s50))))))))⟩ e53) ?_
        rintro _ H54 ⟨HR,rfl,hl54_0,w54,s54,f54_0⟩
        refine bind_ex rfl ?_
        have f55:=W.borrow1 (eInt .i64) w54 f54_0
        obtain ⟨w55,s55⟩:=w54.right1
        obtain ⟨r56,e56,hp⟩:=bind_some' hp
        refine call_ex (aN.P hl54_0 ⟨w55,f55⟩ e56) ?_
        rintro _ H57 ⟨rfl,w57,s57,_⟩
        obtain ⟨w58,s58⟩:=W.frame1 w54 w57 s57
        refine bind_ex rfl ?_
        refine bif_ex (fun hb=>?_) (fun hb=>?_)
        ·replace hp:=bif_t hb hp
         obtain ⟨w59,s59⟩:=w58.pick' [] 7 rfl rfl rfl
         dsimp only [pk,pks,nth,List.drop] at w59 s59
         obtain rfl:=Option.some.inj hp
         exact ⟨_,_,rfl,rfl,w59,(s0.trans (s1.trans (s3.trans (s6.trans (s10.trans (s12.trans (s13.trans (s14.trans (s15.trans (s16.trans (s20.trans (s21.trans (s27.trans (s31.trans (s33.trans (s39.trans (s42.trans (s44.trans (s50.trans (s54.trans (s58.trans s59))))))))))))))))))))),trivial⟩
        ·replace hp:=bif_f hb hp
         refine bif_ex (fun hb=>?_) (fun hb=>?_)
         ·replace hp:=bif_t hb hp
          obtain ⟨w60,s60⟩:=w58.pick' [] 7 rfl rfl rfl
          dsimp only [pk,pks,nth,List.drop] at w60 s60
          obtain rfl:=Option.some.inj hp
          exact ⟨_,_,rfl,rfl,w60,(s0.trans (s1.trans (s3.trans (s6.trans (s10.trans (s12.trans (s13.trans (s14.trans (s15.trans (s16.trans (s20.trans (s21.trans (s27.trans (s31.trans (s33.trans (s39.trans (s42.trans (s44.trans (s50.trans (s54.trans (s58.trans s60))))))))))))))))))))),trivial⟩
         ·replace hp:=bif_f hb hp
          refine bind_ex (ldSl_of (w58.ld (i:=6) rfl rfl)) ?_
          refine bind_ex (ldI_of (w58.ld (i:=6) rfl rfl)) ?_
          obtain ⟨r61,e61,hp⟩:=bind_some' hp
          refine call_ex (bp.P rfl ⟨w58,(aL.step (s1.trans (s3.trans (s6.trans (s10.trans (s12.trans (s13.trans (s14.trans (s15.trans (s16.trans (s20.trans (s21.trans (s27.trans (s31.trans (s33.trans (s39.trans (s42.trans (s44.trans (s50.trans (s54.trans s58))))))))))))))))))))⟩ e61) ?_
          rintro _ H62 ⟨o0a_62,o0n_62,o0c_62,o0k_62,rfl,rfl,w62,s62,f62_0⟩
          refine bind_ex rfl ?_
          refine bind_ex rfl ?_
          refine bind_ex rfl ?_
          refine bind_ex rfl ?_
          refine bind_ex rfl ?_
          have f63:=W.borrow1 (ePair (eInt .i64) (ePair (eInt .i64) (ePair (eInt .i64) (ePair (eInt .i64) (eInt .i64))))) w62 f62_0
          obtain ⟨w63,s63⟩:=w62.right1
          obtain ⟨r64,e64,hp⟩:=bind_some' hp
          refine call_ex (bx.P rfl ⟨w63,f63⟩ e64) ?_
          rintro _ H65 ⟨o0a_65,o0n_65,o0c_65,o0k_65,rfl,rfl,w65,s65,f65_0⟩
          obtain ⟨w66,s66⟩:=W.frame1 w62 w65 s65
          refine bind_ex rfl ?_
          refine bind_ex rfl ?_
          refine bind_ex rfl ?_
          refine bind_ex rfl ?_
          refine bind_ex rfl ?_
          obtain ⟨w67,s67⟩:=w66.pick' [1,3,0,2,4,5,6,7,8] 9 rfl rfl rfl
          dsimp only [pk,pks,nth,List.drop] at w67 s67
          have f68:=W.borrow1 (eInt .i64) w67 ((CR.flat (eInt_flat .i64) f65_0).step s67)
          obtain ⟨w68,s68⟩:=w67.right1
          have f69:=W.borrow1 (eInt .i64) w68 (((CR.flat (eInt_flat .i64) f9_0).step (s12.trans (s13.trans (s14.trans (s15.trans (s16.trans (s20.trans (s21.trans (s27.trans (s31.trans (s33.trans (s39.trans (s42.trans (s44.trans (s50.trans (s54.trans (s58.trans (s62.trans (s66.trans s67))))))))))))))))))).step s68)
          obtain ⟨w69,s69⟩:=w68.right1
          obtain ⟨r70,e70,hp⟩:=bind_some' hp
          refine call_ex (aM.P rfl rfl ⟨w69,(f68.step s69),f69⟩ e70) ?_
          rintro _ H71 ⟨rfl,w71,s71,_⟩
          obtain ⟨w72,s72⟩:=W.frame1 w68 w71 s71
          obtain ⟨w73,s73⟩:=W.frame1 w67 w72 s72
          refine bind_ex rfl ?_
          refine bif_ex (fun hb=>?_) (fun hb=>?_)
          ·replace hp:=bif_t hb hp
           obtain ⟨w74,s74⟩:=w73.pick' [] 9 rfl rfl rfl
           dsimp only [pk,pks,nth,List.drop] at w74 s74
           obtain rfl:=Option.some.inj hp
           exact ⟨_,_,rfl,rfl,w74,(s0.trans (s1.trans (s3.trans (s6.trans (s10.trans (s12.trans (s13.trans (s14.trans (s15.trans (s16.trans (s20.trans (s21.trans (s27.trans (s31.trans (s33.trans (s39.trans (s42.trans (s44.trans (s50.trans (s54.trans (s58.trans (s62.trans (s66.trans (s67.trans (s73.trans s74))))))))))))))))))))))))),trivial⟩
          ·replace hp:=bif_f hb hp
           refine bif_ex (fun hb=>?_) (fun hb=>?_)
           ·replace hp:=bif_t hb hp
            obtain ⟨w75,s75⟩:=w73.pick' [] 9 rfl rfl rfl
            dsimp only [pk,pks,nth,List.drop] at w75 s75
            obtain rfl:=Option.some.inj hp
            exact ⟨_,_,rfl,rfl,w75,(s0.trans (s1.trans (s3.trans (s6.trans (s10.trans (s12.trans (s13.trans (s14.trans (s15.trans (s16.trans (s20.trans (s21.trans (s27.trans (s31.trans (s33.trans (s39.trans (s42.trans (s44.trans (s50.trans (s54.trans (s58.trans (s62.trans (s66.trans (s67.trans (s73.trans s75))))))))))))))))))))))))),trivial⟩
           ·replace hp:=bif_f hb hp
            obtain ⟨w76,s76⟩:=w73.pick' [3,0,1,2,4,5,6,7,8] 9 rfl rfl rfl
            dsimp only [pk,pks,nth,List.drop] at w76 s76
            have f77:=W.borrow1 (eInt .i64) w76 (f54_0.step (s58.trans (s62.trans (s66.trans (s67.trans (s73.trans s76))))))
            obtain ⟨w77,s77⟩:=w76.right1
            obtain ⟨r78,e78,hp⟩:=bind_some' hp
            refine call_ex (aN.P hl54_0 ⟨w77,f77⟩ e78) ?_
            rintro _ H79 ⟨rfl,w79,s79,_⟩
            obtain ⟨w80,s80⟩:=W.frame1 w76 w79 s79
            refine bind_ex rfl ?_
            refine bif_ex (fun hb=>?_) (fun hb=>?_)
            ·replace hp:=bif_t hb hp
             obtain ⟨w81,s81⟩:=w80.pick' [] 9 rfl rfl rfl
             dsimp only [pk,pks,nth,List.drop] at w81 s81
             obtain rfl:=Option.some.inj hp
             exact ⟨_,_,rfl,rfl,w81,(s0.trans (s1.trans (s3.trans (s6.trans (s10.trans (s12.trans (s13.trans (s14.trans (s15.trans (s16.trans (s20.trans (s21.trans (s27.trans (s31.trans (s33.trans (s39.trans (s42.trans (s44.trans (s50.trans (s54.trans (s58.trans (s62.trans (s66.trans (s67.trans (s73.trans (s76.trans (s80.trans s81))))))))))))))))))))))))))),trivial⟩
            ·replace hp:=bif_f hb hp
             refine bif_ex (fun hb=>?_) (fun hb=>?_)
             ·replace hp:=bif_t hb hp
              obtain ⟨w82,s82⟩:=w80.pick' [] 9 rfl rfl rfl
              dsimp only [pk,pks,nth,List.drop] at w82 s82
              obtain rfl:=Option.some.inj hp
              exact ⟨_,_,rfl,rfl,w82,(s0.trans (s1.trans (s3.trans (s6.trans (s10.trans (s12.trans (s13.trans (s14.trans (s15.trans (s16.trans (s20.trans (s21.trans (s27.trans (s31.trans (s33.trans (s39.trans (s42.trans (s44.trans (s50.trans (s54.trans (s58.trans (s62.trans (s66.trans (s67.trans (s73.trans (s76.trans (s80.trans s82))))))))))))))))))))))))))),trivial⟩
             ·replace hp:=bif_f hb hp
              obtain ⟨w83,s83⟩:=w80.pick' [] 9 rfl rfl rfl
              dsimp only [pk,pks,nth,List.drop] at w83 s83
              obtain rfl:=Option.some.inj hp
              exact ⟨_,_,rfl,rfl,w83,(s0.trans (s1.trans (s3.trans (s6.trans (s10.trans (s12.trans (s13.trans (s14.trans (s15.trans (s16.trans (s20.trans (s21.trans (s27.trans (s31.trans (s33.trans (s39.trans (s42.trans (s44.trans (s50.trans (s54.trans (s58.trans (s62.trans (s66.trans (s67.trans (s73.trans (s76.trans (s80.trans s83))))))))))))))))))))))))))),trivial⟩
end Go.Proofs.Ythfinhmkgdmelaa.AE
