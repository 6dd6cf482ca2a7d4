import Derived.Test.YthfinhmkgdmelaaP1
import Derived.Test.YthfinhmkgdmelaaT2
import Derived.Test.YthfinhmkgdmelaaE2
set_option linter.unusedVariables false
set_option linter.unusedSimpArgs false
namespace Go.Proofs.Ythfinhmkgdmelaa.AE
open Go Go.AE Go.Proofs
set_option linter.unusedVariables false
set_option maxHeartbeats 4000000
set_option maxRecDepth 100000
theorem bL.P {F:Nat} {ax:ON} {aq:Nat} {ay:Cap} {ad:List (Int×Int×Int×Int×Int)} {ab ae:Int} {H:Hp} {R0:List Rs} (bb:aq = ad.length) (h0:Inn H R0 fun R=>ROs (ePair (eInt .i64) (ePair (eInt .i64) (ePair (eInt .i64) (ePair (eInt .i64) (eInt .i64))))) H R ⟨ax,aq,ay⟩ ad) {r:Bool} (hp:bL.p F ad ab ae = some r):∃ v H',bL.tw F ⟨ax,aq,ay⟩ ab ae H = some (v,H')∧bL.Q H R0 R0  r v H':=by
 obtain ⟨w0,aP⟩:=h0
 subst bb
 unfold bL.p at hp
 unfold bL.tw bL.twX
 have s0:=w0.rf
 refine new_k w0 fun H1 w1 s1=>?_
 refine bind_ex (ldSl_of (w1.ld (i:=0) rfl rfl)) ?_
 refine bind_ex (ldI_of (w1.ld (i:=0) rfl rfl)) ?_
 obtain ⟨r2,e2,hp⟩:=bind_some' hp
 refine call_ex (bt.P rfl ⟨w1,(aP.step s1)⟩ e2) ?_
 rintro _ H3 ⟨rfl,w3,s3,_⟩
 refine bind_ex rfl ?_
 refine bif_ex (fun hb=>?_) (fun hb=>?_)
 ·replace hp:=bif_t hb hp
  obtain ⟨w4,s4⟩:=w3.pick' [] 1 rfl rfl rfl
  dsimp only [pk,pks,nth,List.drop] at w4 s4
  obtain rfl:=Option.some.inj hp
  exact ⟨_,_,rfl,rfl,w4,(s0.trans (s1.trans (s3.trans s4))),trivial⟩
 ·replace hp:=bif_f hb hp
  refine bind_ex (ldSl_of (w3.ld (i:=0) rfl rfl)) ?_
  refine bind_ex (ldI_of (w3.ld (i:=0) rfl rfl)) ?_
  obtain ⟨r5,e5,hp⟩:=bind_some' hp
  refine call_ex (br.P rfl ⟨w3,(aP.step (s1.trans s3))⟩ e5) ?_
  rintro _ H6 ⟨o0a_6,o0n_6,o0c_6,o0k_6,rfl,rfl,w6,s6,f6_0⟩
  refine bind_ex rfl ?_
  refine bind_ex rfl ?_
  refine bind_ex rfl ?_
  refine bind_ex rfl ?_
  refine bind_ex rfl ?_
  have f7:=W.borrow1 (ePair (eInt .i64) (ePair (eInt .i64) (ePair (eInt .i64) (ePair (eInt .i64) (eInt .i64))))) w6 f6_0
  obtain ⟨w7,s7⟩:=w6.right1
  obtain ⟨r8,e8,hp⟩:=bind_some' hp
  refine call_ex (bw.P rfl ⟨w7,f7⟩ e8) ?_
  rintro _ H9 ⟨rfl,w9,s9,_⟩
  obtain ⟨w10,s10⟩:=W.frame1 w6 w9 s9
  refine bind_ex rfl ?_
  refine bind_ex rfl ?_
  refine bind_ex rfl ?_
  refine bind_ex rfl ?_
  refine bind_ex rfl ?_
  refine bind_ex (ldSl_of (w10.ld (i:=1) rfl rfl)) ?_
  refine bind_ex (ldI_of (w10.ld (i:=1) rfl rfl)) ?_
  obtain ⟨r11,e11,hp⟩:=bind_some' hp
  refine call_ex (br.P rfl ⟨w10,(aP.step (s1.trans (s3.trans (s6.trans s10))))⟩ e11) ?_
  rintro _ H12 ⟨o0a_12,o0n_12,o0c_12,o0k_12,rfl,rfl,w12,s12,f12_0⟩
  refine bind_ex rfl ?_
  refine bind_ex rfl ?_
  refine bind_ex rfl ?_
  refine bind_ex rfl ?_
  refine bind_ex rfl ?_
  refine new_k w12 fun H13 w13 s13=>?_
  refine st_k w13 (i:=0) rfl rfl rfl fun H14 w14 s14=>?_
  dsimp only [List.set] at w14 s14
  refine st_k w14 (i:=0) rfl rfl rfl fun H15 w15 s15=>?_
  dsimp only [List.set] at w15 s15
  refine bind_ex (ldSl_of (w15.ld (i:=0) rfl rfl)) ?_
  refine bind_ex (ldI_of (w15.ld (i:=0) rfl rfl)) ?_
  obtain ⟨w16,s16⟩:=w15.pick' [1,0,2,3] 4 rfl rfl rfl
  dsimp only [pk,pks,nth,List.drop] at w16 s16
  have f17:=W.borrow1 (ePair (eInt .i64) (ePair (eInt .i64) (ePair (eInt .i64) (ePair (eInt .i64) (eInt .i64))))) w16 (f12_0.step (s13.trans (s14.trans (s15.trans s16))))
  obtain ⟨w17,s17⟩:=w16.right1
  obtain ⟨r18,e18,hp⟩:=bind_some' hp
  refine call_ex (bz.P rfl ⟨w17,f17⟩ e18) ?_
  rintro _ H19 ⟨rfl,w19,s19,_⟩
  obtain ⟨w20,s20⟩:=W.frame1 w16 w19 s19
  refine bind_ex rfl ?_
  refine bind_ex rfl ?_
  refine bind_ex rfl ?_
  refine bind_ex rfl ?_
  refine bind_ex rfl ?_
  refine bif_ex (fun hb=>?_) (fun hb=>?_)
  ·replace hp:=bif_t hb hp
   obtain ⟨w21,s21⟩:=w20.pick' [] 4 rfl rfl rfl
   dsimp only [pk,pks,nth,List.drop] at w21 s21
   obtain rfl:=Option.some.inj hp
   exact ⟨_,_,rfl,rfl,w21,(s0.trans (s1.trans (s3.trans (s6.trans (s10.trans (s12.trans (s13.trans (s14.trans (s15.trans (s16.trans (s20.trans s21))))))))))),trivial⟩
  ·replace hp:=bif_f hb hp
   refine bif_ex (fun hb=>?_) (fun hb=>?_)
   ·replace hp:=bif_t hb hp
    obtain ⟨w22,s22⟩:=w20.pick' [] 4 rfl rfl rfl
    dsimp only [pk,pks,nth,List.drop] at w22 s22
    obtain rfl:=Option.some.inj hp
    exact ⟨_,_,rfl,rfl,w22,(s0.trans (s1.trans (s3.trans (s6.trans (s10.trans (s12.trans (s13.trans (s14.trans (s15.trans (s16.trans (s20.trans s22))))))))))),trivial⟩
   ·replace hp:=bif_f hb hp
    refine bind_ex (ldSl_of (w20.ld (i:=1) rfl rfl)) ?_
    refine bind_ex (ldI_of (w20.ld (i:=1) rfl rfl)) ?_
    refine bind_ex (ldSl_of (w20.ld (i:=3) rfl rfl)) ?_
    refine bind_ex (ldI_of (w20.ld (i:=3) rfl rfl)) ?_
    obtain ⟨r23,e23,hp⟩:=bind_some' hp
    refine call_ex (br.P rfl ⟨w20,(aP.step (s1.trans (s3.trans (s6.trans (s10.trans (s12.trans (s13.trans (s14.trans (s15.trans (s16.trans s20))))))))))⟩ e23) ?_
    rintro _ H24 ⟨o0a_24,o0n_24,o0c_24,o0k_24,rfl,rfl,w24,s24,f24_0⟩
    refine bind_ex rfl ?_
    refine bind_ex rfl ?_
    refine bind_ex rfl ?_
    refine bind_ex rfl ?_
    refine bind_ex rfl ?_
    refine ifs_ex (W.cons_of (Rn:=[_]) w20 w24 s24) ?_
    obtain ⟨w26,s26⟩:=w24.pick' [1,0,2,3,4] 5 rfl rfl rfl
    dsimp only [pk,pks,nth,List.drop] at w26 s26
    have f27:=W.borrow1 (ePair (eInt .i64) (ePair (eInt .i64) (ePair (eInt .i64) (ePair (eInt .i64) (eInt .i64))))) w26 (f12_0.step (s13.trans (s14.trans (s15.trans (s16.trans (s20.trans (s24.trans s26)))))))
    obtain ⟨w27,s27⟩:=w26.right1
    have f28:=W.borrow1 (ePair (eInt .i64) (ePair (eInt .i64) (ePair (eInt .i64) (ePair (eInt .i64) (eInt .i64))))) w27 ((f24_0.step s26).step s27)
    obtain ⟨w28,s28⟩:=w27.right1
    obtain ⟨r29,e29,hp⟩:=bind_some' hp
    refine call_ex (bA.P rfl rfl ⟨w28,(f27.step s28),f28⟩ e29) ?_
    rintro _ H30 ⟨rfl,w30,s30,_⟩
    obtain ⟨w31,s31⟩:=W.frame1 w27 w30 s30
    obtain ⟨w32,s32⟩:=W.frame1 w26 w31 s31
    refine bind_ex rfl ?_
    refine bif_ex (fun hb=>?_) (fun hb=>?_)
    ·replace hp:=bif_t hb hp
     obtain ⟨w33,s33⟩:=w32.pick' [] 5 rfl rfl rfl
     dsimp only [pk,pks,nth,List.drop] at w33 s33
     obtain rfl:=Option.some.inj hp
     exact ⟨_,_,rfl,rfl,w33,(s0.trans (s1.trans (s3.trans (s6.trans (s10.trans (s12.trans (s13.trans (s14.trans (s15.trans (s16.trans (s20.trans (s24.trans (s26.trans (s32.trans s33)))))))))))))),trivial⟩
    ·replace hp:=bif_f hb hp
     obtain ⟨w34,s34⟩:=w32.pick' [] 5 rfl rfl rfl
     dsimp only [pk,pks,nth,List.drop] at w34 s34
     obtain rfl:=Option.some.inj hp
     exact ⟨_,_,rfl,rfl,w34,(s0.trans (s1.trans (s3.trans (s6.trans (s10.trans (s12.trans (s13.trans (s14.trans (s15.trans (s16.trans (s20.trans (s24.trans (s26.trans (s32.trans s34)))))))))))))),trivial⟩
end Go.Proofs.Ythfinhmkgdmelaa.AE
