import Derived.Test.YtppbogklbhfboaaP1
import Derived.Test.YtppbogklbhfboaaT2
import Derived.Test.YtppbogklbhfboaaE2
set_option linter.unusedVariables false
set_option linter.unusedSimpArgs false
namespace Go.Proofs.Ytppbogklbhfboaa.AE
open Go Go.AE Go.Proofs
set_option linter.unusedVariables false
set_option maxHeartbeats 4000000
set_option maxRecDepth 100000
noncomputable section
theorem bv.P {F:Nat} {aF:ON} {ay:Nat} {aG:Cap} {af:List (Int×Int×Int×Int×Int)} {ab:Int} {H:Hp} {R0:List Rs} (bm:ay = af.length) (h0:Inn H R0 fun R=>ROs (ePair (eInt .i64) (ePair (eInt .i64) (ePair (eInt .i64) (ePair (eInt .i64) (eInt .i64))))) H R ⟨aF,ay,aG⟩ af) {r:(List (Int×Int))×(List (Int×Int))×Bool} (hp:bv.p F af ab = some r):∃ v H',bv.tw F ⟨aF,ay,aG⟩ ab H = some (v,H')∧bv.Q H R0 R0  r v H':=by
 obtain ⟨w0,aS⟩:=h0
 subst bm
 unfold bv.p at hp
 unfold bv.tw bv.twX
 have s0:=w0.rf
 refine new_k w0 fun H1 w1 s1=>?_
 refine new_k w1 fun H2 w2 s2=>?_
 refine bind_ex (ldSl_of (w2.ld (i:=1) rfl rfl)) ?_
 obtain ⟨r3,e3,hp⟩:=bind_some' hp
 refine call_ex (bx.P rfl ⟨w2,(aS.step (s1.trans s2))⟩ e3) ?_
 rintro _ H4 ⟨rfl,w4,s4,_⟩
 refine bind_ex rfl ?_
 refine bif_ex (fun hb=>?_) (fun hb=>?_)
 ·replace hp:=bif_t hb hp
  refine st_k w4 (i:=0) rfl rfl rfl fun H5 w5 s5=>?_
  dsimp only [List.set] at w5 s5
  refine st_k w5 (i:=0) rfl rfl rfl fun H6 w6 s6=>?_
  dsimp only [List.set] at w6 s6
  refine bind_ex (ldSl_of (w6.ld (i:=0) rfl rfl)) ?_
  refine bind_ex (ldSl_of (w6.ld (i:=0) rfl rfl)) ?_
  obtain ⟨w7,s7⟩:=w6.nilS (ePair (eInt .i64) (eInt .i64)).z (by decide)
  obtain ⟨w8,s8⟩:=w7.nilS (ePair (eInt .i64) (eInt .i64)).z (by decide)
  obtain ⟨w9,s9,f9⟩:=w8.frz (i:=1) (ePair (eInt .i64) (eInt .i64)) rfl ((CR.empty:CR (ePair (eInt .i64) (eInt .i64)) _ _ [] []).step s8)
  dsimp only [List.eraseIdx] at w9 s9 f9
  obtain ⟨w10,s10,f10⟩:=w9.frz (i:=0) (ePair (eInt .i64) (eInt .i64)) rfl ((CR.empty:CR (ePair (eInt .i64) (eInt .i64)) _ _ [] []).step s9)
  dsimp only [List.eraseIdx] at w10 s10 f10
  obtain ⟨w11,s11⟩:=w10.pick' [] 2 rfl rfl rfl
  dsimp only [pk,pks,nth,List.drop] at w11 s11
  obtain rfl:=Option.some.inj hp
  exact ⟨_,_,rfl,_,_,_,_,_,_,rfl,rfl,rfl,w11,(s0.trans (s1.trans (s2.trans (s4.trans (s5.trans (s6.trans (s7.trans (s8.trans (s9.trans (s10.trans s11)))))))))),(f9.step (s10.trans s11)),(f10.step s11)⟩
 ·replace hp:=bif_f hb hp
  refine bind_ex (ldI_of (w4.ld (i:=1) rfl rfl)) ?_
  obtain ⟨r12,e12,hp⟩:=bind_some' hp
  refine call_ex (bD.P ⟨w4,trivial⟩ e12) ?_
  rintro _ H13 ⟨rfl,w13,s13,_⟩
  refine bind_ex rfl ?_
  refine bif_ex (fun hb=>?_) (fun hb=>?_)
  ·replace hp:=bif_t hb hp
   refine st_k w13 (i:=0) rfl rfl rfl fun H14 w14 s14=>?_
   dsimp only [List.set] at w14 s14
   refine st_k w14 (i:=0) rfl rfl rfl fun H15 w15 s15=>?_
   dsimp only [List.set] at w15 s15
   refine bind_ex (ldSl_of (w15.ld (i:=0) rfl rfl)) ?_
   refine bind_ex (ldSl_of (w15.ld (i:=0) rfl rfl)) ?_
   obtain ⟨w16,s16⟩:=w15.nilS (ePair (eInt .i64) (eInt .i64)).z (by decide)
   obtain ⟨w17,s17⟩:=w16.nilS (ePair (eInt .i64) (eInt .i64)).z (by decide)
   obtain ⟨w18,s18,f18⟩:=w17.frz (i:=1) (ePair (eInt .i64) (eInt .i64)) rfl ((CR.empty:CR (ePair (eInt .i64) (eInt .i64)) _ _ [] []).step s17)
   dsimp only [List.eraseIdx] at w18 s18 f18
   obtain ⟨w19,s19,f19⟩:=w18.frz (i:=0) (ePair (eInt .i64) (eInt .i64)) rfl ((CR.empty:CR (ePair (eInt .i64) (eInt .i64)) _ _ [] []).step s18)
   dsimp only [List.eraseIdx] at w19 s19 f19
   obtain ⟨w20,s20⟩:=w19.pick' [] 2 rfl rfl rfl
   dsimp only [pk,pks,nth,List.drop] at w20 s20
   obtain rfl:=Option.some.inj hp
   exact ⟨_,_,rfl,_,_,_,_,_,_,rfl,rfl,rfl,w20,(s0.trans (s1.trans (s2.trans (s4.trans (s13.trans (s14.trans (s15.trans (s16.trans (s17.trans (s18.trans (s19.trans s20))))))))))),(f18.step (s19.trans s20)),(f19.step s20)⟩
  ·replace hp:=bif_f hb hp
   refine bind_ex (ldSl_of (w13.ld (i:=1) rfl rfl)) ?_
   obtain ⟨r21,e21,hp⟩:=bind_some' hp
   refine call_ex (bY.P rfl ⟨w13,(aS.step (s1.trans (s2.trans (s4.trans s13))))⟩ e21) ?_
   rintro _ H22 ⟨rfl,w22,s22,_⟩
   refine bind_ex rfl ?_
   refine bif_ex (fun hb=>?_) (fun hb=>?_)
   ·replace hp:=bif_t hb hp
    refine st_k w22 (i:=0) rfl rfl rfl fun H23 w23 s23=>?_
    dsimp only [List.set] at w23 s23
    refine st_k w23 (i:=0) rfl rfl rfl fun H24 w24 s24=>?_
    dsimp only [List.set] at w24 s24
    refine bind_ex (ldSl_of (w24.ld (i:=0) rfl rfl)) ?_
    refine bind_ex (ldSl_of (w24.ld (i:=0) rfl rfl)) ?_
    obtain ⟨w25,s25⟩:=w24.nilS (ePair (eInt .i64) (eInt .i64)).z (by decide)
    obtain ⟨w26,s26⟩:=w25.nilS (ePair (eInt .i64) (eInt .i64)).z (by decide)
    obtain ⟨w27,s27,f27⟩:=w26.frz (i:=1) (ePair (eInt .i64) (eInt .i64)) rfl ((CR.empty:CR (ePair (eInt .i64) (eInt .i64)) _ _ [] []).step s26)
    dsimp only [List.eraseIdx] at w27 s27 f27
    obtain ⟨w28,s28,f28⟩:=w27.frz (i:=0) (ePair (eInt .i64) (eInt .i64)) rfl ((CR.empty:CR (ePair (eInt .i64) (eInt .i64)) _ _ [] []).step s27)
    dsimp only [List.eraseIdx] at w28 s28 f28
    obtain ⟨w29,s29⟩:=w28.pick' [] 2 rfl rfl rfl
    dsimp only [pk,pks,nth,List.drop] at w29 s29
    obtain rfl:=Option.some.inj hp
    exact ⟨_,_,rfl,_,_,_,_,_,_,rfl,rfl,rfl,w29,(s0.trans (s1.trans (s2.trans (s4.trans (s13.trans (s22.trans (s23.trans (s24.trans (s25.trans (s26.trans (s27.trans (s28.trans s29)))))))))))),(f27.step (s28.trans s29)),(f28.step s29)⟩
   ·replace hp:=bif_f hb hp
    refine bind_ex (ldSl_of (w22.ld (i:=1) rfl rfl)) ?_
    refine bind_ex (ldI_of (w22.ld (i:=1) rfl rfl)) ?_
    obtain ⟨r30,e30,hp⟩:=bind_some' hp
    refine call_ex (aI.P rfl ⟨w22,(aS.step (s1.trans (s2.trans (s4.trans (s13.trans s22)))))⟩ e30) ?_
    rintro _ H31 ⟨o0a_31,o0n_31,o0c_31,o0k_31,o1a_31,o1n_31,o1c_31,o1k_31,rfl,rfl,rfl,w31,s31,f31_0,f31_1⟩
    refine bind_ex rfl ?_
    refine bind_ex rfl ?_
    refine bind_ex rfl ?_
    refine bind_ex rfl ?_
    refine bind_ex rfl ?_
    refine bind_ex rfl ?_
    refine bind_ex rfl ?_
    refine bind_ex rfl ?_
    refine bind_ex rfl ?_
    refine new_k w31 fun H32 w32 s32=>?_
    refine st_k w32 (i:=0) rfl rfl rfl fun H33 w33 s33=>?_
    dsimp only [List.set] at w33 s33
    refine st_k w33 (i:=0) rfl rfl rfl fun H34 w34 s34=>?_
    dsimp only [List.set] at w34 s34
    refine bif_ex (fun hb=>?_) (fun hb=>?_)
    ·replace hp:=bif_t hb hp
     refine st_k w34 (i:=3) rfl rfl rfl fun H35 w35 s35=>?_
     dsimp only [List.set] at w35 s35
     refine st_k w35 (i:=3) rfl rfl rfl fun H36 w36 s36=>?_
     dsimp only [List.set] at w36 s36
     refine bind_ex (ldSl_of (w36.ld (i:=3) rfl rfl)) ?_
     refine bind_ex (ldSl_of (w36.ld (i:=3) rfl rfl)) ?_
     obtain ⟨w37,s37⟩:=w36.nilS (ePair (eInt .i64) (eInt .i64)).z (by decide)
     obtain ⟨w38,s38⟩:=w37.nilS (ePair (eInt .i64) (eInt .i64)).z (by decide)
     obtain ⟨w39,s39,f39⟩:=w38.frz (i:=1) (ePair (eInt .i64) (eInt .i64)) rfl ((CR.empty:CR (ePair (eInt .i64) (eInt .i64)) _ _ [] []).step s38)
     dsimp only [List.eraseIdx] at w39 s39 f39
     obtain ⟨w40,s40,f40⟩:=w39.frz (i:=0) (ePair (eInt .i64) (eInt .i64)) rfl ((CR.empty:CR (ePair (eInt .i64) (eInt .i64)) _ _ [] []).step s39)
     dsimp only [List.eraseIdx] at w40 s40 f40
     obtain ⟨w41,s41⟩:=w40.pick' [] 5 rfl rfl rfl
     dsimp only [pk,pks,nth,List.drop] at w41 s41
     obtain rfl:=Option.some.inj hp
     exact ⟨_,_,rfl,_,_,_,_,_,_,rfl,rfl,rfl,w41,(s0.trans (s1.trans (s2.trans (s4.trans (s13.trans (s22.trans (s31.trans (s32.trans (s33.trans (s34.trans (s35.trans (s36.trans (s37.trans (s38.trans (s39.trans (s40.trans s41)))))))))))))))),(f39.step (s40.trans s41)),(f40.step s41)⟩
    ·replace hp:=bif_f hb hp
     refine bind_ex (ldSl_of (w34.ld (i:=4) rfl rfl)) ?_
     refine bind_ex (ldI_of (w34.ld (i:=4) rfl rfl)) ?_
     refine bind_ex (ldSl_of (w34.ld (i:=0) rfl rfl)) ?_
     refine bind_ex (ldSl_of (w34.ld (i:=0) rfl rfl)) ?_
     obtain ⟨w42,s42,f42⟩:=w34.frz (i:=1) (ePair (eInt .i64) (eInt .i64)) rfl (f31_0.step (s32.trans (s33.trans s34)))
     dsimp only [List.eraseIdx] at w42 s42 f42
     obtain ⟨w43,s43,f43⟩:=w42.frz (i:=1) (ePair (eInt .i64) (eInt .i64)) rfl (f31_1.step (s32.trans (s33.trans (s34.trans s42))))
     dsimp only [List.eraseIdx] at w43 s43 f43
     obtain ⟨r44,e44,hp⟩:=bind_some' hp
     refine call_ex (aq.P rfl rfl rfl ⟨w43,(aS.step (s1.trans (s2.trans (s4.trans (s13.trans (s22.trans (s31.trans (s32.trans (s33.trans (s34.trans (s42.trans s43))))))))))),(f42.step s43),f43⟩ e44) ?_
     rintro _ H45 ⟨o0a_45,o0n_45,o0c_45,o0k_45,rfl,rfl,w45,s45,f45_0⟩
     refine bind_ex rfl ?_
     refine ifs_ex (Cons.tr (Cons.refl _) s42 (Cons.tr (Cons.refl _) s43 (W.cons_of (Rn:=[_]) w43 w45 s45))) ?_
     have f47:=W.borrow1 (eSl (eInt .i64)) w45 f45_0
     obtain ⟨w47,s47⟩:=w45.right1
     obtain ⟨r48,e48,hp⟩:=bind_some' hp
     refine call_ex (cp.P rfl ⟨w47,f47⟩ e48) ?_
     rintro _ H49 ⟨rfl,w49,s49,_⟩
     obtain ⟨w50,s50⟩:=W.frame1 w45 w49 s49
     refine bind_ex rfl ?_
     refine ifs_ex (W.cons_of (Rn:=[]) w47 w49 s49) ?_
     refine bind_ex (ldSl_of (w50.ld (i:=3) rfl rfl)) ?_
     refine bind_ex (ldI_of (w50.ld (i:=3) rfl rfl)) ?_
     refine bind_ex (ldSl_of (w50.ld (i:=1) rfl rfl)) ?_
     refine bind_ex (ldSl_of (w50.ld (i:=1) rfl rfl)) ?_
     obtain ⟨r52,e52,hp⟩:=bind_some' hp
     refine call_ex (aK.P rfl rfl rfl ⟨w50,(aS.step (s1.trans (s2.trans (s4.trans (s13.trans (s22.trans (s31.trans (s32.trans (s33.trans (s34.trans (s42.trans (s43.trans (s45.trans s50))))))))))))),(f42.step (s43.trans (s45.trans s50))),(f43.step (s45.trans s50))⟩ e52) ?_
     rintro _ H53 ⟨o0a_53,o0n_53,o0c_53,o0k_53,rfl,rfl,w53,s53,f53_0⟩
     refine bind_ex rfl ?_
     have f54:=W.borrow1 (eInt .i64) w53 f53_0
     obtain ⟨w54,s54⟩:=w53.right1
     obtain ⟨r55,e55,hp⟩:=bind_some' hp
     refine call_ex (bj.P rfl ⟨w54,f54⟩ e55) ?_
     rintro _ H56 ⟨rfl,w56,s56,_⟩
     obtain ⟨w57,s57⟩:=W.frame1 w53 w56 s56
     refine bind_ex rfl ?_
     refine bif_ex (fun hb=>?_) (fun hb=>?_)
     ·replace hp:=bif_t hb hp
      refine st_k w57 (i:=3) rfl rfl rfl fun H58 w58 s58=>?_
      dsimp only [List.set] at w58 s58
      refine st_k w58 (i:=3) rfl rfl rfl fun H59 w59 s59=>?_
      dsimp only [List.set] at w59 s59
      refine bind_ex (ldSl_of (w59.ld (i:=3) rfl rfl)) ?_
      refine bind_ex (ldSl_of (w59.ld (i:=3) rfl rfl)) ?_
      obtain ⟨w60,s60⟩:=w59.nilS (ePair (eInt .i64) (eInt .i64)).z (by decide)
      obtain ⟨w61,s61⟩:=w60.nilS (ePair (eInt .i64) (eInt .i64)).z (by decide)
      obtain ⟨w62,s62,f62⟩:=w61.frz (i:=1) (ePair (eInt .i64) (eInt .i64)) rfl ((CR.empty:CR (ePair (eInt .i64) (eInt .i64)) _ _ [] []).step s61)
      dsimp only [List.eraseIdx] at w62 s62 f62
      obtain ⟨w63,s63,f63⟩:=w62.frz (i:=0) (ePair (eInt .i64) (eInt .i64)) rfl ((CR.empty:CR (ePair (eInt .i64) (eInt .i64)) _ _ [] []).step s62)
      dsimp only [List.eraseIdx] at w63 s63 f63
      obtain ⟨w64,s64⟩:=w63.pick' [] 5 rfl rfl rfl
      dsimp only [pk,pks,nth,List.drop] at w64 s64
      obtain rfl:=Option.some.inj hp
      exact ⟨_,_,rfl,_,_,_,_,_,_,rfl,rfl,rfl,w64,(s0.trans (s1.trans (s2.trans (s4.trans (s13.trans (s22.trans (s31.trans (s32.trans (s33.trans (s34.trans (s42.trans (s43.trans (s45.trans (s50.trans (s53.trans (s57.trans (s58.trans (s59.trans (s60.trans (s61.trans (s62.trans (s63.trans s64)))))))))))))))))))))),(f62.step (s63.trans s64)),(f63.step s64)⟩
     ·replace hp:=bif_f hb hp
      refine bind_ex (ldSl_of (w57.ld (i:=2) rfl rfl)) ?_
      refine bind_ex (ldSl_of (w57.ld (i:=2) rfl rfl)) ?_
      refine st_k w57 (i:=3) rfl rfl rfl fun H65 w65 s65=>?_
      dsimp only [List.set] at w65 s65
      refine st_k w65 (i:=3) rfl rfl rfl fun H66 w66 s66=>?_
      dsimp only [List.set] at w66 s66
      refine bind_ex (ldSl_of (w66.ld (i:=3) rfl rfl)) ?_
      refine bind_ex (ldSl_of (w66.ld (i:=3) rfl rfl)) ?_
      obtain ⟨w67,s67⟩:=w66.pick' [] 5 rfl rfl rfl
      dsimp only [pk,pks,nth,List.drop] at w67 s67
      obtain rfl:=Option.some.inj hp
      exact ⟨_,_,rfl,_,_,_,_,_,_,rfl,rfl,rfl,w67,(s0.trans (s1.trans (s2.trans (s4.trans (s13.trans (s22.trans (s31.trans (s32.trans (s33.trans (s34.trans (s42.trans (s43.trans (s45.trans (s50.trans (s53.trans (s57.trans (s65.trans (s66.trans s67)))))))))))))))))),(f42.step (s43.trans (s45.trans (s50.trans (s53.trans (s57.trans (s65.trans (s66.trans s67)))))))),(f43.step (s45.trans (s50.trans (s53.trans (s57.trans (s65.trans (s66.trans s67)))))))⟩
def bW.Q (H0:Hp) (Ri R0:List Rs)  (r:Bool) (v:AV) (H':Hp):Prop:=v = (.bool r)∧Out H0 Ri H' (R0) fun R=>True
def bW.p (F:Nat) (af:List (Int×Int×Int×Int×Int)) (ab:Int):Option (Bool):=(bv.p F af ab).bind fun r2=>some r2.2.2
theorem bW.P {F:Nat} {aF:ON} {ay:Nat} {aG:Cap} {af:List (Int×Int×Int×Int×Int)} {ab:Int} {H:Hp} {R0:List Rs} (bm:ay = af.length) (h0:Inn H R0 fun R=>ROs (ePair (eInt .i64) (ePair (eInt .i64) (ePair (eInt .i64) (ePair (eInt .i64) (eInt .i64))))) H R ⟨aF,ay,aG⟩ af) {r:Bool} (hp:bW.p F af ab = some r):∃ v H',bW.tw F ⟨aF,ay,aG⟩ ab H = some (v,H')∧bW.Q H R0 R0  r v H':=by
 obtain ⟨w0,aS⟩:=h0
 subst bm
 unfold bW.p at hp
 unfold bW.tw bW.twX
 have s0:=w0.rf
 refine new_k w0 fun H1 w1 s1=>?_
 refine bind_ex (ldSl_of (w1.ld (i:=0) rfl rfl)) ?_
 refine bind_ex (ldI_of (w1.ld (i:=0) rfl rfl)) ?_
 obtain ⟨r2,e2,hp⟩:=bind_some' hp
 refine call_ex (bv.P rfl ⟨w1,(aS.step s1)⟩ e2) ?_
 rintro _ H3 ⟨o0a_3,o0n_3,o0c_3,o1a_3,o1n_3,o1c_3,rfl,rfl,rfl,w3,s3,f3_0,f3_1⟩
 refine bind_ex rfl ?_
 refine bind_ex rfl ?_
 refine bind_ex rfl ?_
 refine bind_ex rfl ?_
 refine bind_ex rfl ?_
 refine bind_ex rfl ?_
 refine bind_ex rfl ?_
 refine bind_ex rfl ?_
 refine bind_ex rfl ?_
 refine new_k w3 fun H4 w4 s4=>?_
 refine st_k w4 (i:=0) rfl rfl rfl fun H5 w5 s5=>?_
 dsimp only [List.set] at w5 s5
 refine st_k w5 (i:=0) rfl rfl rfl fun H6 w6 s6=>?_
 dsimp only [List.set] at w6 s6
 obtain ⟨w7,s7⟩:=w6.pick' [] 2 rfl rfl rfl
 dsimp only [pk,pks,nth,List.drop] at w7 s7
 obtain rfl:=Option.some.inj hp
 exact ⟨_,_,rfl,rfl,w7,(s0.trans (s1.trans (s3.trans (s4.trans (s5.trans (s6.trans s7)))))),trivial⟩
def cq.Q (H0:Hp) (Ri R0:List Rs)  (r:Bool) (v:AV) (H':Hp):Prop:=v = (.bool r)∧Out H0 Ri H' (R0) fun R=>True
def cq.p (F:Nat) (af:List (Int×Int×Int×Int×Int)) (ab:Int):Option (Bool):=(bif ((af.length:Int) == 0) then (some (ab == 0)) else (some false))
theorem cq.P {F:Nat} {aF:ON} {ay:Nat} {aG:Cap} {af:List (Int×Int×Int×Int×Int)} {ab:Int} {H:Hp} {R0:List Rs} (bm:ay = af.length) (h0:Inn H R0 fun R=>ROs (ePair (eInt .i64) (ePair (eInt .i64) (ePair (eInt .i64) (ePair (eInt .i64) (eInt .i64))))) H R ⟨aF,ay,aG⟩ af) {r:Bool} (hp:cq.p F af ab = some r):∃ v H',cq.tw F ⟨aF,ay,aG⟩ ab H = some (v,H')∧cq.Q H R0 R0  r v H':=by
 obtain ⟨w0,aS⟩:=h0
 subst bm
 unfold cq.p at hp
 unfold cq.tw cq.twX
 have s0:=w0.rf
 refine new_k w0 fun H1 w1 s1=>?_
 refine bind_ex (ldSl_of (w1.ld (i:=0) rfl rfl)) ?_
 refine bif_ex (fun hb=>?_) (fun hb=>?_)
 ·replace hp:=bif_t hb hp
  refine bind_ex (ldI_of (w1.ld (i:=0) rfl rfl)) ?_
  obtain ⟨w2,s2⟩:=w1.pick' [] 1 rfl rfl rfl
  dsimp only [pk,pks,nth,List.drop] at w2 s2
  obtain rfl:=Option.some.inj hp
  exact ⟨_,_,rfl,rfl,w2,(s0.trans (s1.trans s2)),trivial⟩
 ·replace hp:=bif_f hb hp
  obtain ⟨w3,s3⟩:=w1.pick' [] 1 rfl rfl rfl
  dsimp only [pk,pks,nth,List.drop] at w3 s3
  obtain rfl:=Option.some.inj hp
  exact ⟨_,_,rfl,rfl,w3,(s0.trans (s1.trans s3)),trivial⟩
def cj.Q (H0:Hp) (Ri R0:List Rs)  (r:Int) (v:AV) (H':Hp):Prop:=v = (.int .i64 r)∧Out H0 Ri H' (R0) fun R=>True
def cj.p (F:Nat) (af:List (Int×Int×Int×Int×Int)) (ab:Int):Option (Int):=(bW.p F af ab).bind fun r2=>(bif (!r2) then (some 1) else ((cq.p F af ab).bind fun r5=>(bif r5 then (some 5) else (some 0))))
theorem cj.P {F:Nat} {aF:ON} {ay:Nat} {aG:Cap} {af:List (Int×Int×Int×Int×Int)} {ab:Int} {H:Hp} {R0:List Rs} (bm:ay = af.length) (h0:Inn H R0 fun R=>ROs (ePair (eInt .i64) (ePair (eInt .i64) (ePair (eInt .i64) (ePair (eInt .i64) (eInt .i64))))) H R ⟨aF,ay,aG⟩ af) {r:Int} (hp:cj.p F af ab = some r):∃ v H',cj.tw F ⟨aF,ay,aG⟩ ab H = some (v,H')∧cj.Q H R0 R0  r v H':=by
 obtain ⟨w0,aS⟩:=h0
 subst bm
 unfold cj.p at hp
 unfold cj.tw cj.twX
 have s0:=w0.rf
 refine new_k w0 fun H1 w1 s1=>?_
 refine bind_ex (ldSl_of (w1.ld (i:=0) rfl rfl)) ?_
 refine bind_ex (ldI_of (w1.ld (i:=0) rfl rfl)) ?_
 obtain ⟨r2,e2,hp⟩:=bind_some' hp
 refine call_ex (bW.P rfl ⟨w1,(aS.step s1)⟩ e2) ?_
 rintro _ H3 ⟨rfl,w3,s3,_⟩
 refine bind_ex rfl ?_
 refine bif_ex (fun hb=>?_) (fun hb=>?_)
 ·replace hp:=bif_t hb hp
  obtain ⟨w4,s4⟩:=w3.pick' [] 1 rfl rfl rfl
  dsimp only [pk,pks,nth,List.drop] at w4 s4
  obtain rfl:=Option.some.inj hp
  exact ⟨_,_,rfl,rfl,w4,(s0.trans (s1.trans (s3.trans s4))),trivial⟩
 ·replace hp:=bif_f hb hp
  refine bind_ex (ldSl_of (w3.ld (i:=0) rfl rfl)) ?_
  refine bind_ex (ldI_of (w3.ld (i:=0) rfl rfl)) ?_
  obtain ⟨r5,e5,hp⟩:=bind_some' hp
  refine call_ex (cq.P rfl ⟨w3,(aS.step (s1.trans s3))⟩ e5) ?_
  rintro _ H6 ⟨rfl,w6,s6,_⟩
  refine bind_ex rfl ?_
  refine bif_ex (fun hb=>?_) (fun hb=>?_)
  ·replace hp:=bif_t hb hp
   obtain ⟨w7,s7⟩:=w6.pick' [] 1 rfl rfl rfl
   dsimp only [pk,pks,nth,List.drop] at w7 s7
   obtain rfl:=Option.some.inj hp
   exact ⟨_,_,rfl,rfl,w7,(s0.trans (s1.trans (s3.trans (s6.trans s7)))),trivial⟩
  ·replace hp:=bif_f hb hp
   obtain ⟨w8,s8⟩:=w6.pick' [] 1 rfl rfl rfl
   dsimp only [pk,pks,nth,List.drop] at w8 s8
   obtain rfl:=Option.some.inj hp
   exact ⟨_,_,rfl,rfl,w8,(s0.trans (s1.trans (s3.trans (s6.trans s8)))),trivial⟩
def ck.Q (H0:Hp) (Ri R0:List Rs)  (r:Bool) (v:AV) (H':Hp):Prop:=v = (.bool r)∧Out H0 Ri H' (R0) fun R=>True
def ck.p (F:Nat) (af:List (Int×Int×Int×Int×Int)) (ab:Int) (cr:List (Int×Int)) (cD:List (Int×Int)):Option (Bool):=(aK.p F af cr cD).bind fun r3=>(bj.p F r3).bind fun r6=>(bif (r6 == 1) then (some (ab == 0)) else (some false))
theorem ck.P {F:Nat} {aF eo fD:ON} {ay cZ dl:Nat} {aG ep fE:Cap} {af:List (Int×Int×Int×Int×Int)} {ab:Int} {cr cD:List (Int×Int)} {H:Hp} {R0:List Rs} (bm:ay = af.length) (jj:cZ = cr.length) (jJ:dl = cD.length) (h0:Inn H R0 fun R=>ROs (ePair (eInt .i64) (ePair (eInt .i64) (ePair (eInt .i64) (ePair (eInt .i64) (eInt .i64))))) H R ⟨aF,ay,aG⟩ af∧ROs (ePair (eInt .i64) (eInt .i64)) H R ⟨eo,cZ,ep⟩ cr∧ROs (ePair (eInt .i64) (eInt .i64)) H R ⟨fD,dl,fE⟩ cD) {r:Bool} (hp:ck.p F af ab cr cD = some r):∃ v H',ck.tw F ⟨aF,ay,aG⟩ ab ⟨eo,cZ,ep⟩ ⟨fD,dl,fE⟩ H = some (v,H')∧ck.Q H R0 R0  r v H':=by
 obtain ⟨w0,aS,gx,hL⟩:=h0
 subst bm
 subst jj
 subst jJ
 unfold ck.p at hp
 unfold ck.tw ck.twX
 have s0:=w0.rf
 refine new_k w0 fun H1 w1 s1=>?_
 refine new_k w1 fun H2 w2 s2=>?_
 refine bind_ex (ldSl_of (w2.ld (i:=1) rfl rfl)) ?_
 refine bind_ex (ldI_of (w2.ld (i:=1) rfl rfl)) ?_
 refine bind_ex (ldSl_of (w2.ld (i:=0) rfl rfl)) ?_
 refine bind_ex (ldSl_of (w2.ld (i:=0) rfl rfl)) ?_
 obtain ⟨r3,e3,hp⟩:=bind_some' hp
 refine call_ex (aK.P rfl rfl rfl ⟨w2,(aS.step (s1.trans s2)),(gx.step (s1.trans s2)),(hL.step (s1.trans s2))⟩ e3) ?_
 rintro _ H4 ⟨o0a_4,o0n_4,o0c_4,o0k_4,rfl,rfl,w4,s4,f4_0⟩
 refine bind_ex rfl ?_
 have f5:=W.borrow1 (eInt .i64) w4 f4_0
 obtain ⟨w5,s5⟩:=w4.right1
 obtain ⟨r6,e6,hp⟩:=bind_some' hp
 refine call_ex (bj.P rfl ⟨w5,f5⟩ e6) ?_
 rintro _ H7 ⟨rfl,w7,s7,_⟩
 obtain ⟨w8,s8⟩:=W.frame1 w4 w7 s7
 refine bind_ex rfl ?_
 refine bif_ex (fun hb=>?_) (fun hb=>?_)
 ·replace hp:=bif_t hb hp
  refine bind_ex (ldI_of (w8.ld (i:=2) rfl rfl)) ?_
  obtain ⟨w9,s9⟩:=w8.pick' [] 3 rfl rfl rfl
  dsimp only [pk,pks,nth,List.drop] at w9 s9
  obtain rfl:=Option.some.inj hp
  exact ⟨_,_,rfl,rfl,w9,(s0.trans (s1.trans (s2.trans (s4.trans (s8.trans s9))))),trivial⟩
 ·replace hp:=bif_f hb hp
  obtain ⟨w10,s10⟩:=w8.pick' [] 3 rfl rfl rfl
  dsimp only [pk,pks,nth,List.drop] at w10 s10
  obtain rfl:=Option.some.inj hp
  exact ⟨_,_,rfl,rfl,w10,(s0.trans (s1.trans (s2.trans (s4.trans (s8.trans s10))))),trivial⟩
def av.Q (H0:Hp) (Ri R0:List Rs)  (r:List Int) (v:AV) (H':Hp):Prop:=∃ o0a:ON,∃ o0n:Nat,∃ o0c:Cap,∃ o0k:List AV,v = (.sl ⟨o0a,o0n,o0c⟩)∧o0n = (r).length∧Out H0 Ri H' (Rs.own ⟨o0a,o0n,o0c⟩ (eInt .i64).z o0k :: R0) fun R=>CR (eInt .i64) H' R o0k (r)
def av.S29 (H0:Hp) (Ri R0:List Rs)  (C:Sl→Sl→Int→Int→Hp→OA) (pC:List Int→List (List Int)→Int→Int→Option (List Int)):Prop:=∀ {nl Ft:ON} {lU yj:Nat} {nm Fu:Cap} {ip:List Int} {nn Fv:List AV} {mP:List (List Int)} {ie gd:Int},∀ {H:Hp},lU = ip.length→yj = mP.length→(Out H0 Ri H (Rs.own ⟨nl,lU,nm⟩ (eInt .i64).z nn :: Rs.own ⟨Ft,yj,Fu⟩ (eSl (eInt .i64)).z Fv :: R0) fun R=>CR (eInt .i64) H R nn ip∧CR (eSl (eInt .i64)) H R Fv mP)→∀ {r:List Int},pC ip mP ie gd = some r→∃ v H',C ⟨nl,lU,nm⟩ ⟨Ft,yj,Fu⟩ ie gd H = some (v,H')∧av.Q H0 Ri R0  r v H'
def av.S1883 (H0:Hp) (Ri R0:List Rs)  (C:Sl→Sl→Int→Int→Int→Sl→Int→Int→Hp→OA) (pC:List Int→List (List Int)→Int→Int→Int→List Int→Int→Int→Option (List Int)):Prop:=∀ {Fw Fx Fy:ON} {yl ym yn:Nat} {Fz FA FB:Cap} {nG nH:List Int} {FC FD:List AV} {pj:List (List Int)} {gc gF eS ic g_:Int},∀ {H:Hp},yl = nG.length→ym = pj.length→yn = nH.length→(Out H0 Ri H (Rs.own ⟨Fw,yl,Fz⟩ (eInt .i64).z FC :: Rs.own ⟨Fx,ym,FA⟩ (eSl (eInt .i64)).z FD :: R0) fun R=>CR (eInt .i64) H R FC nG∧CR (eSl (eInt .i64)) H R FD pj∧ROs (eInt .i64) H R ⟨Fy,yn,FB⟩ nH)→∀ {r:List Int},pC nG pj gc gF eS nH ic g_ = some r→∃ v H',C ⟨Fw,yl,Fz⟩ ⟨Fx,ym,FA⟩ gc gF eS ⟨Fy,yn,FB⟩ ic g_ H = some (v,H')∧av.Q H0 Ri R0  r v H'
def av.pj3 (F:Nat) (bH:List Int→List (List Int)→Int→Int→Option (List Int)) (yo:List Int) (yp:List (List Int)) (rR:Int) (rS:Int):Option (List Int):=bH yo yp rR (IntKind.i64.wrap (rS + 1))
theorem av.j3_P {F:Nat} {H0:Hp} {Ri R0:List Rs}  {C29_:Sl→Sl→Int→Int→Hp→OA} {bH:List Int→List (List Int)→Int→Int→Option (List Int)} (hC29:av.S29 H0 Ri R0  C29_ bH) {WJ WK:ON} {LI LJ:Nat} {WL WM:Cap} {yo:List Int} {WN WO:List AV} {yp:List (List Int)} {rR rS:Int} {H:Hp} (ahT:LI = yo.length) (ahU:LJ = yp.length) (h0:Out H0 Ri H (Rs.own ⟨WJ,LI,WL⟩ (eInt .i64).z WN :: Rs.own ⟨WK,LJ,WM⟩ (eSl (eInt .i64)).z WO :: R0) fun R=>CR (eInt .i64) H R WN yo∧CR (eSl (eInt .i64)) H R WO yp) {r:List Int} (hp:av.pj3 F bH yo yp rR rS = some r):∃ v H',av.j3 F (aq.tw F) C29_ ⟨WJ,LI,WL⟩ ⟨WK,LJ,WM⟩ rR rS H = some (v,H')∧av.Q H0 Ri R0  r v H':=by
 obtain ⟨w0,s0,ahV,ahW⟩:=h0
 subst ahT
 subst ahU
 unfold av.pj3 at hp
 unfold av.j3
 exact hC29 rfl rfl ⟨w0,s0,ahV,ahW⟩ hp
def av.pj4 (F:Nat) (bH:List Int→List (List Int)→Int→Int→Option (List Int)) (yq:List Int) (yt:List (List Int)) (rT:Int) (rU:Int):Option (List Int):=av.pj3 F bH yq yt rT rU
theorem av.j4_P {F:Nat} {H0:Hp} {Ri R0:List Rs}  {C29_:Sl→Sl→Int→Int→Hp→OA} {bH:List Int→List (List Int)→Int→Int→Option (List Int)} (hC29:av.S29 H0 Ri R0  C29_ bH) {WP WQ:ON} {LK LL:Nat} {WR WS:Cap} {yq:List Int} {WT WU:List AV} {yt:List (List Int)} {rT rU:Int} {H:Hp} (ahX:LK = yq.length) (ahY:LL = yt.length) (h0:Out H0 Ri H (Rs.own ⟨WP,LK,WR⟩ (eInt .i64).z WT :: Rs.own ⟨WQ,LL,WS⟩ (eSl (eInt .i64)).z WU :: R0) fun R=>CR (eInt .i64) H R WT yq∧CR (eSl (eInt .i64)) H R WU yt) {r:List Int} (hp:av.pj4 F bH yq yt rT rU = some r):∃ v H',av.j4 F (aq.tw F) C29_ ⟨WP,LK,WR⟩ ⟨WQ,LL,WS⟩ rT rU H = some (v,H')∧av.Q H0 Ri R0  r v H':=by
 obtain ⟨w0,s0,ahZ,ah0⟩:=h0
 subst ahX
 subst ahY
 unfold av.pj4 at hp
 unfold av.j4
 exact av.j3_P (@hC29) rfl rfl ⟨w0,s0,ahZ,ah0⟩ hp
def av.pl1883 (F:Nat) (bH:List Int→List (List Int)→Int→Int→Option (List Int)):Nat→List Int→List (List Int)→Int→Int→Int→List Int→Int→Int→Option (List Int)
 | 0,_,_,_,_,_,_,_,_=>none
 | k + 1,nG,pj,gc,gF,eS,nH,ic,g_=>(bif (decide (g_ < ic)) then ((ix nH g_).bind fun n1=>(ix nG (gt nH n1)).bind fun n2=>(some (nG.set n2 eS)).bind fun l3=>av.pl1883 F bH k l3 pj gc gF eS nH ic (IntKind.i64.wrap (g_ + 1))) else (av.pj4 F bH nG pj gc gF))
termination_by structural n=>n
theorem av.l1883_P {F:Nat} {H0:Hp} {Ri R0:List Rs}  {C29_:Sl→Sl→Int→Int→Hp→OA} {bH:List Int→List (List Int)→Int→Int→Option (List Int)} (hC29:av.S29 H0 Ri R0  C29_ bH):∀ k,av.S1883 H0 Ri R0  (av.l1883 F (aq.tw F) C29_ k) (av.pl1883 F bH k):=by
 intro k
 induction k with
 | zero=>
  intro Fw Fx Fy yl ym yn Fz FA FB nG nH FC FD pj gc gF eS ic g_ H WV WW WX h0 r hp
  exact nomatch (show (none:Option (List Int)) = some r from hp)
 | succ k ih=>
  intro Fw Fx Fy yl ym yn Fz FA FB nG nH FC FD pj gc gF eS ic g_ H WV WW WX h0 r hp
  obtain ⟨w0,s0,LM,WY,WZ⟩:=h0
  subst WV
  subst WW
  subst WX
  unfold av.pl1883 at hp
  unfold av.l1883
  refine bif_ex (fun hb=>?_) (fun hb=>?_)
  ·replace hp:=bif_t hb hp
   obtain ⟨n1,g1,hp⟩:=bind_some' hp
   obtain ⟨p1,q1,i1,h1,j1⟩:=ROs.ixr WZ rfl g1
   refine bind_ex i1 ?_
   have h1:_ = [_]:=h1
   subst h1
   refine bind_ex (ldI_of (j1 0 _ rfl)) ?_
   obtain ⟨n2,g2,hp⟩:=bind_some' hp
   obtain ⟨p2,q2,i2,h2,j2⟩:=W.ixo (E:=(eInt .i64)) w0 (i:=0) rfl rfl LM g2
   refine bind_ex i2 ?_
   obtain ⟨l3,e3,hp⟩:=bind_some' hp
   refine sto_k (eInt .i64) w0 (i:=0) (j:=0) (p:=p2) rfl rfl LM g2 i2 e3 rfl rfl (fun _ h=>by have h:_ = [_]:=h; subst h; exact rfl) fun H4 k4 w4 s4 c4=>?_
   dsimp only [List.set] at w4 s4 c4
   exact ih ((st_len e3).symm) rfl rfl ⟨w4,(s0.trans s4),c4,(WY.step s4),(WZ.step s4)⟩ hp
  ·replace hp:=bif_f hb hp
   exact av.j4_P (@hC29) rfl rfl ⟨w0,s0,LM,WY⟩ hp
def av.pl29 (F:Nat) :Nat→List Int→List (List Int)→Int→Int→Option (List Int)
 | 0,_,_,_,_=>none
 | k + 1,ip,mP,ie,gd=>(bif (decide (gd < ie)) then ((ix mP gd).bind fun n1=>av.pl1883 F (av.pl29 F k) F ip mP ie gd gd (gt mP n1) (((gt mP n1).length):Int) 0) else (some ip))
termination_by structural n=>n
theorem av.l29_P {F:Nat} {H0:Hp} {Ri R0:List Rs}  :∀ k,av.S29 H0 Ri R0  (av.l29 F (aq.tw F)  k) (av.pl29 F  k):=by
 intro k
 induction k with
 | zero=>
  intro nl Ft lU yj nm Fu ip nn Fv mP ie gd H wi W_ h0 r hp
  exact nomatch (show (none:Option (List Int)) = some r from hp)
 | succ k ih=>
  intro nl Ft lU yj nm Fu ip nn Fv mP ie gd H wi W_ h0 r hp
  obtain ⟨w0,s0,tE,Xa⟩:=h0
  subst wi
  subst W_
  unfold av.pl29 at hp
  unfold av.l29
  refine bif_ex (fun hb=>?_) (fun hb=>?_)
  ·replace hp:=bif_t hb hp
   obtain ⟨n1,g1,hp⟩:=bind_some' hp
   obtain ⟨p1,q1,i1,h1,j1⟩:=W.ixo (E:=(eSl (eInt .i64))) w0 (i:=1) rfl rfl Xa g1
   refine bind_ex i1 ?_
   obtain ⟨⟨aeB,m1_0,c1_0⟩,rfl,f1_0⟩:=h1
   obtain rfl:m1_0 = _:=f1_0.n
   refine bind_ex (ldSl_of (j1 0 _ rfl)) ?_
   exact av.l1883_P (@ih) F rfl rfl rfl ⟨w0,s0,tE,Xa,f1_0⟩ hp
  ·replace hp:=bif_f hb hp
   obtain ⟨w2,s2⟩:=w0.pick' [0] 2 rfl rfl rfl
   dsimp only [pk,pks,nth,List.drop] at w2 s2
   obtain rfl:=Option.some.inj hp
   exact ⟨_,_,rfl,_,_,_,_,rfl,rfl,w2,(s0.trans s2),(tE.step s2)⟩
def av.p (F:Nat) (af:List (Int×Int×Int×Int×Int)) (cr:List (Int×Int)) (cD:List (Int×Int)):Option (List Int):=(mkn (IntKind.i64.wrap (4 * (af.length:Int))) (0:Int)).bind fun l3=>(aq.p F af cr cD).bind fun r5=>av.pl29 F F l3 r5 (r5.length:Int) 0
theorem av.P {F:Nat} {aF eo fD:ON} {ay cZ dl:Nat} {aG ep fE:Cap} {af:List (Int×Int×Int×Int×Int)} {ab:Int} {cr cD:List (Int×Int)} {H:Hp} {R0:List Rs} (bm:ay = af.length) (jj:cZ = cr.length) (jJ:dl = cD.length) (h0:Inn H R0 fun R=>ROs (ePair (eInt .i64) (ePair (eInt .i64) (ePair (eInt .i64) (ePair (eInt .i64) (eInt .i64))))) H R ⟨aF,ay,aG⟩ af∧ROs (ePair (eInt .i64) (eInt .i64)) H R ⟨eo,cZ,ep⟩ cr∧ROs (ePair (eInt .i64) (eInt .i64)) H R ⟨fD,dl,fE⟩ cD) {r:List Int} (hp:av.p F af cr cD = some r):∃ v H',av.tw F ⟨aF,ay,aG⟩ ab ⟨eo,cZ,ep⟩ ⟨fD,dl,fE⟩ H = some (v,H')∧av.Q H R0 R0  r v H':=by
 obtain ⟨w0,aS,gx,hL⟩:=h0
 subst bm
 subst jj
 subst jJ
 unfold av.p at hp
 unfold av.tw av.twX
 have s0:=w0.rf
 refine new_k w0 fun H1 w1 s1=>?_
 refine new_k w1 fun H2 w2 s2=>?_
 refine bind_ex (ldSl_of (w2.ld (i:=1) rfl rfl)) ?_
 obtain ⟨l3,e3,hp⟩:=bind_some' hp
 refine mk_k (eInt .i64) (0:Int) w2 rfl rfl rfl e3 fun H4 k4 w4 s4 c4=>?_
 refine bind_ex (ldSl_of (w4.ld (i:=2) rfl rfl)) ?_
 refine bind_ex (ldI_of (w4.ld (i:=2) rfl rfl)) ?_
 refine bind_ex (ldSl_of (w4.ld (i:=1) rfl rfl)) ?_
 refine bind_ex (ldSl_of (w4.ld (i:=1) rfl rfl)) ?_
 obtain ⟨r5,e5,hp⟩:=bind_some' hp
 refine call_ex (aq.P rfl rfl rfl ⟨w4,(aS.step (s1.trans (s2.trans s4))),(gx.step (s1.trans (s2.trans s4))),(hL.step (s1.trans (s2.trans s4)))⟩ e5) ?_
 rintro _ H6 ⟨o0a_6,o0n_6,o0c_6,o0k_6,rfl,rfl,w6,s6,f6_0⟩
 refine bind_ex rfl ?_
 obtain ⟨w7,s7⟩:=w6.pick' [1,0] 4 rfl rfl rfl
 dsimp only [pk,pks,nth,List.drop] at w7 s7
 exact av.l29_P F rfl rfl ⟨w7,(s0.trans (s1.trans (s2.trans (s4.trans (s6.trans s7))))),(c4.step (s6.trans s7)),(f6_0.step s7)⟩ hp
def aR.Q (H0:Hp) (Ri R0:List Rs)  (r:List Int) (v:AV) (H':Hp):Prop:=∃ o0a:ON,∃ o0n:Nat,∃ o0k:List AV,v = (.sl ⟨o0a,o0n,.ex o0n⟩)∧o0n = (r).length∧Out H0 Ri H' (Rs.own ⟨o0a,o0n,.ex o0n⟩ (eInt .i64).z o0k :: R0) fun R=>CR (eInt .i64) H' R o0k (r)
def aR.pj1 (F:Nat)  (kC:List Int) (jC:Int):Option (List Int):=(mkn (IntKind.i64.wrap jC) (0:Int)).bind fun l1=>(some (cpl l1 kC)).bind fun l3=>(rept F l3 ((min kC.length l1.length:Nat):Int)).bind fun l5=>some l5
theorem aR.j1_P {F:Nat} {H0:Hp} {Ri R0:List Rs}   {xp:ON} {pV:Nat} {xq:Cap} {kC:List Int} {jC:Int} {H:Hp} (K_:pV = kC.length) (h0:Out H0 Ri H R0 fun R=>ROs (eInt .i64) H R ⟨xp,pV,xq⟩ kC) {r:List Int} (hp:aR.pj1 F  kC jC = some r):∃ v H',aR.j1 F (bits_Mul.tw F)  ⟨xp,pV,xq⟩ jC H = some (v,H')∧aR.Q H0 Ri R0  r v H':=by
 obtain ⟨w0,s0,La⟩:=h0
 subst K_
 unfold aR.pj1 at hp
 unfold aR.j1
 obtain ⟨l1,e1,hp⟩:=bind_some' hp
 refine mk_k (eInt .i64) (0:Int) w0 rfl rfl rfl e1 fun H2 k2 w2 s2 c2=>?_
 obtain ⟨x3,h3,c3⟩:=(La.step s2).row (z:=(eInt .i64).z) rfl
 obtain ⟨l3,e3,hp⟩:=bind_some' hp
 refine cpy_k (eInt .i64) w2 (i:=0) rfl rfl c2 h3 c3 rfl rfl e3 fun k4 H4 w4 s4 c4=>?_
 dsimp only [List.set] at w4 s4 c4
 obtain ⟨l5,e5,hp⟩:=bind_some' hp
 refine rept_K (eInt .i64) rfl (L:=aR.l254 F (bits_Mul.tw F)) (fun _ _ _ _=>rfl) w4 (i:=0) rfl c4 e5 fun H6 k6 w6 s6 c6=>?_
 dsimp only [List.set] at w6 s6 c6
 obtain rfl:=Option.some.inj hp
 exact ⟨_,_,rfl,_,_,_,rfl,((cpl_len e3).symm.trans (rept_len e5).symm),w6,(s0.trans (s2.trans (s4.trans s6))),c6⟩
def aR.pj2 (F:Nat)  (kD:List Int) (kl:Int):Option (List Int):=(bits_Mul.p F (IntKind.u64.wrap (kD.length:Int)) (IntKind.u64.wrap kl)).bind fun r1=>(bif (decide (r1.1 > 0)) then (none) else ((bif (decide (r1.2 > 9223372036854775807)) then (none) else (aR.pj1 F kD r1.2))))
theorem aR.j2_P {F:Nat} {H0:Hp} {Ri R0:List Rs}   {xt:ON} {pW:Nat} {xu:Cap} {kD:List Int} {kl:Int} {H:Hp} (Lb:pW = kD.length) (h0:Out H0 Ri H R0 fun R=>ROs (eInt .i64) H R ⟨xt,pW,xu⟩ kD) {r:List Int} (hp:aR.pj2 F  kD kl = some r):∃ v H',aR.j2 F (bits_Mul.tw F)  ⟨xt,pW,xu⟩ kl H = some (v,H')∧aR.Q H0 Ri R0  r v H':=by
 obtain ⟨w0,s0,Lc⟩:=h0
 subst Lb
 unfold aR.pj2 at hp
 unfold aR.j2
 obtain ⟨r1,e1,hp⟩:=bind_some' hp
 refine call_ex (bits_Mul.P ⟨w0,trivial⟩ e1) ?_
 rintro _ H2 ⟨rfl,w2,s2,_⟩
 refine bind_ex rfl ?_
 refine bind_ex rfl ?_
 refine bind_ex rfl ?_
 refine bind_ex rfl ?_
 refine bind_ex rfl ?_
 refine bif_ex (fun hb=>?_) (fun hb=>?_)
 ·replace hp:=bif_t hb hp
  cases hp
 ·replace hp:=bif_f hb hp
  refine bif_ex (fun hb=>?_) (fun hb=>?_)
  ·replace hp:=bif_t hb hp
   cases hp
  ·replace hp:=bif_f hb hp
   exact aR.j1_P rfl ⟨w2,(s0.trans s2),(Lc.step s2)⟩ hp
def aR.p (F:Nat) (af:List Int) (ak:Int):Option (List Int):=(bif (decide (ak < 0)) then (none) else (aR.pj2 F af ak))
theorem aR.P {F:Nat} {aF:ON} {ay:Nat} {aG:Cap} {af:List Int} {ak:Int} {H:Hp} {R0:List Rs} (bm:ay = af.length) (h0:Inn H R0 fun R=>ROs (eInt .i64) H R ⟨aF,ay,aG⟩ af) {r:List Int} (hp:aR.p F af ak = some r):∃ v H',aR.tw F ⟨aF,ay,aG⟩ ak H = some (v,H')∧aR.Q H R0 R0  r v H':=by
 obtain ⟨w0,aS⟩:=h0
 subst bm
 unfold aR.p at hp
 unfold aR.tw aR.twX
 have s0:=w0.rf
 refine bif_ex (fun hb=>?_) (fun hb=>?_)
 ·replace hp:=bif_t hb hp
  cases hp
 ·replace hp:=bif_f hb hp
  exact aR.j2_P rfl ⟨w0,s0,aS⟩ hp
def aj.Q (H0:Hp) (Ri R0:List Rs)  (r:List Int) (v:AV) (H':Hp):Prop:=∃ o0a:ON,∃ o0n:Nat,∃ o0c:Cap,∃ o0k:List AV,v = (.sl ⟨o0a,o0n,o0c⟩)∧o0n = (r).length∧Out H0 Ri H' (Rs.own ⟨o0a,o0n,o0c⟩ (eInt .i64).z o0k :: R0) fun R=>CR (eInt .i64) H' R o0k (r)
def aj.S253 (H0:Hp) (Ri R0:List Rs)  (C:Sl→Sl→Sl→Sl→Int→Int→Hp→OA) (pC:List Int→List Int→List Bool→List Int→Int→Int→Option (List Int)):Prop:=∀ {FE FF FG FH:ON} {yu yv yw yx:Nat} {FI FJ FK FL:Cap} {ml mQ mm:List Int} {FM FN FO FP:List AV} {mn:List Bool} {gH eT:Int},∀ {H:Hp},yu = ml.length→yv = mQ.length→yw = mn.length→yx = mm.length→(Out H0 Ri H (Rs.own ⟨FE,yu,FI⟩ (eInt .i64).z FM :: Rs.own ⟨FF,yv,FJ⟩ (eInt .i64).z FN :: Rs.own ⟨FG,yw,FK⟩ eBool.z FO :: Rs.own ⟨FH,yx,FL⟩ (eInt .i64).z FP :: R0) fun R=>CR (eInt .i64) H R FM ml∧CR (eInt .i64) H R FN mQ∧CR eBool H R FO mn∧CR (eInt .i64) H R FP mm)→∀ {r:List Int},pC ml mQ mn mm gH eT = some r→∃ v H',C ⟨FE,yu,FI⟩ ⟨FF,yv,FJ⟩ ⟨FG,yw,FK⟩ ⟨FH,yx,FL⟩ gH eT H = some (v,H')∧aj.Q H0 Ri R0  r v H'
def aj.pj11 (F:Nat) (j_:List Int→List Int→List Bool→List Int→Int→Int→Option (List Int)) (yy:List Int) (yz:List Int) (yA:List Bool) (yB:List Int) (se:Int) (sf:Int):Option (List Int):=j_ yy yz yA yB se (IntKind.i64.wrap (sf + 1))
theorem aj.j11_P {F:Nat} {H0:Hp} {Ri R0:List Rs}  {C253_:Sl→Sl→Sl→Sl→Int→Int→Hp→OA} {j_:List Int→List Int→List Bool→List Int→Int→Int→Option (List Int)} (hC253:aj.S253 H0 Ri R0  C253_ j_) {Xb Xc Xd Xe:ON} {LN LO LP LQ:Nat} {Xf Xg Xh Xi:Cap} {yy yz yB:List Int} {Xj Xk Xl Xm:List AV} {yA:List Bool} {se sf:Int} {H:Hp} (ah1:LN = yy.length) (ah2:LO = yz.length) (ah3:LP = yA.length) (ah4:LQ = yB.length) (h0:Out H0 Ri H (Rs.own ⟨Xb,LN,Xf⟩ (eInt .i64).z Xj :: Rs.own ⟨Xc,LO,Xg⟩ (eInt .i64).z Xk :: Rs.own ⟨Xd,LP,Xh⟩ eBool.z Xl :: Rs.own ⟨Xe,LQ,Xi⟩ (eInt .i64).z Xm :: R0) fun R=>CR (eInt .i64) H R Xj yy∧CR (eInt .i64) H R Xk yz∧CR eBool H R Xl yA∧CR (eInt .i64) H R Xm yB) {r:List Int} (hp:aj.pj11 F j_ yy yz yA yB se sf = some r):∃ v H',aj.j11 F (av.tw F) (aK.tw F) (aq.tw F) (aR.tw F) (bj.tw F) C253_ ⟨Xb,LN,Xf⟩ ⟨Xc,LO,Xg⟩ ⟨Xd,LP,Xh⟩ ⟨Xe,LQ,Xi⟩ se sf H = some (v,H')∧aj.Q H0 Ri R0  r v H':=by
 obtain ⟨w0,s0,ah5,ah6,ah7,ah8⟩:=h0
 subst ah1
 subst ah2
 subst ah3
 subst ah4
 unfold aj.pj11 at hp
 unfold aj.j11
 exact hC253 rfl rfl rfl rfl ⟨w0,s0,ah5,ah6,ah7,ah8⟩ hp
def aj.S509 (H0:Hp) (Ri R0:List Rs)  (C:Sl→Sl→Int→Int→Hp→OA) (pC:List Int→List Int→Int→Int→Option (List Int)):Prop:=∀ {FQ FR:ON} {yC yD:Nat} {FS FT:Cap} {pl pm:List Int} {FU FV:List AV} {ig iK:Int},∀ {H:Hp},yC = pl.length→yD = pm.length→(Out H0 Ri H (Rs.own ⟨FQ,yC,FS⟩ (eInt .i64).z FU :: Rs.own ⟨FR,yD,FT⟩ (eInt .i64).z FV :: R0) fun R=>CR (eInt .i64) H R FU pl∧CR (eInt .i64) H R FV pm)→∀ {r:List Int},pC pl pm ig iK = some r→∃ v H',C ⟨FQ,yC,FS⟩ ⟨FR,yD,FT⟩ ig iK H = some (v,H')∧aj.Q H0 Ri R0  r v H'
def aj.S16301 (H0:Hp) (Ri R0:List Rs)  (C:Sl→Sl→Int→Int→Int→Int→Hp→OA) (pC:List Int→List Int→Int→Int→Int→Int→Option (List Int)):Prop:=∀ {FW FX:ON} {yE yF:Nat} {FY FZ:Cap} {kF kG:List Int} {F_ Ga:List AV} {fv gf gG dL:Int},∀ {H:Hp},yE = kF.length→yF = kG.length→(Out H0 Ri H (Rs.own ⟨FW,yE,FY⟩ (eInt .i64).z F_ :: Rs.own ⟨FX,yF,FZ⟩ (eInt .i64).z Ga :: R0) fun R=>CR (eInt .i64) H R F_ kF∧CR (eInt .i64) H R Ga kG)→∀ {r:List Int},pC kF kG fv gf gG dL = some r→∃ v H',C ⟨FW,yE,FY⟩ ⟨FX,yF,FZ⟩ fv gf gG dL H = some (v,H')∧aj.Q H0 Ri R0  r v H'
def aj.pj9 (F:Nat) (Gb:List Int→List Int→Int→Int→Int→Int→Option (List Int)) (yG:List Int) (yH:List Int) (rZ:Int) (r_:Int) (sa:Int) (sd:Int):Option (List Int):=Gb yG yH rZ r_ sa (IntKind.i64.wrap (sd + 1))
theorem aj.j9_P {F:Nat} {H0:Hp} {Ri R0:List Rs}  {C16301_:Sl→Sl→Int→Int→Int→Int→Hp→OA} {Gb:List Int→List Int→Int→Int→Int→Int→Option (List Int)} (hC16301:aj.S16301 H0 Ri R0  C16301_ Gb) {Xn Xo:ON} {LR LS:Nat} {Xp Xq:Cap} {yG yH:List Int} {Xr Xs:List AV} {rZ r_ sa sd:Int} {H:Hp} (ah9:LR = yG.length) (ah_:LS = yH.length) (h0:Out H0 Ri H (Rs.own ⟨Xn,LR,Xp⟩ (eInt .i64).z Xr :: Rs.own ⟨Xo,LS,Xq⟩ (eInt .i64).z Xs :: R0) fun R=>CR (eInt .i64) H R Xr yG∧CR (eInt .i64) H R Xs yH) {r:List Int} (hp:aj.pj9 F Gb yG yH rZ r_ sa sd = some r):∃ v H',aj.j9 F (av.tw F) (aK.tw F) (aq.tw F) (aR.tw F) (bj.tw F) C16301_ ⟨Xn,LR,Xp⟩ ⟨Xo,LS,Xq⟩ rZ r_ sa sd H = some (v,H')∧aj.Q H0 Ri R0  r v H':=by
 obtain ⟨w0,s0,aia,aib⟩:=h0
 subst ah9
 subst ah_
 unfold aj.pj9 at hp
 unfold aj.j9
 exact hC16301 rfl rfl ⟨w0,s0,aia,aib⟩ hp
def aj.pj7 (F:Nat) (aU:List Int→List Int→Int→Int→Option (List Int)) (yI:List Int) (yJ:List Int) (rV:Int) (rW:Int):Option (List Int):=aU yI yJ rV (IntKind.i64.wrap (rW + 1))
theorem aj.j7_P {F:Nat} {H0:Hp} {Ri R0:List Rs}  {C509_:Sl→Sl→Int→Int→Hp→OA} {aU:List Int→List Int→Int→Int→Option (List Int)} (hC509:aj.S509 H0 Ri R0  C509_ aU) {Xt Xu:ON} {LT LU:Nat} {Xv Xw:Cap} {yI yJ:List Int} {Xx Xy:List AV} {rV rW:Int} {H:Hp} (aic:LT = yI.length) (aid:LU = yJ.length) (h0:Out H0 Ri H (Rs.own ⟨Xt,LT,Xv⟩ (eInt .i64).z Xx :: Rs.own ⟨Xu,LU,Xw⟩ (eInt .i64).z Xy :: R0) fun R=>CR (eInt .i64) H R Xx yI∧CR (eInt .i64) H R Xy yJ) {r:List Int} (hp:aj.pj7 F aU yI yJ rV rW = some r):∃ v H',aj.j7 F (av.tw F) (aK.tw F) (aq.tw F) (aR.tw F) (bj.tw F) C509_ ⟨Xt,LT,Xv⟩ ⟨Xu,LU,Xw⟩ rV rW H = some (v,H')∧aj.Q H0 Ri R0  r v H':=by
 obtain ⟨w0,s0,aie,aif⟩:=h0
 subst aic
 subst aid
 unfold aj.pj7 at hp
 unfold aj.j7
 exact hC509 rfl rfl ⟨w0,s0,aie,aif⟩ hp
def aj.pj8 (F:Nat) (aU:List Int→List Int→Int→Int→Option (List Int)) (yK:List Int) (yL:List Int) (rX:Int) (rY:Int):Option (List Int):=aj.pj7 F aU yK yL rX rY
theorem aj.j8_P {F:Nat} {H0:Hp} {Ri R0:List Rs}  {C509_:Sl→Sl→Int→Int→Hp→OA} {aU:List Int→List Int→Int→Int→Option (List Int)} (hC509:aj.S509 H0 Ri R0  C509_ aU) {Xz XA:ON} {LV LW:Nat} {XB XC:Cap} {yK yL:List Int} {XD XE:List AV} {rX rY:Int} {H:Hp} (aig:LV = yK.length) (aih:LW = yL.length) (h0:Out H0 Ri H (Rs.own ⟨Xz,LV,XB⟩ (eInt .i64).z XD :: Rs.own ⟨XA,LW,XC⟩ (eInt .i64).z XE :: R0) fun R=>CR (eInt .i64) H R XD yK∧CR (eInt .i64) H R XE yL) {r:List Int} (hp:aj.pj8 F aU yK yL rX rY = some r):∃ v H',aj.j8 F (av.tw F) (aK.tw F) (aq.tw F) (aR.tw F) (bj.tw F) C509_ ⟨Xz,LV,XB⟩ ⟨XA,LW,XC⟩ rX rY H = some (v,H')∧aj.Q H0 Ri R0  r v H':=by
 obtain ⟨w0,s0,aii,aij⟩:=h0
 subst aig
 subst aih
 unfold aj.pj8 at hp
 unfold aj.j8
 exact aj.j7_P (@hC509) rfl rfl ⟨w0,s0,aii,aij⟩ hp
def aj.pl16301 (F:Nat) (aU:List Int→List Int→Int→Int→Option (List Int)):Nat→List Int→List Int→Int→Int→Int→Int→Option (List Int)
 | 0,_,_,_,_,_,_=>none
 | k + 1,kF,kG,fv,gf,gG,dL=>(bif (decide (dL < gG)) then ((ix kF dL).bind fun n1=>(ix kG (gt kF n1)).bind fun n2=>(bif (decide ((gt kG n2) ≥ 0)) then ((ix kF (IntKind.i64.wrap ((IntKind.i64.wrap (dL - (Int.tmod dL 4))) + (Int.tmod (IntKind.i64.wrap (dL + 1)) 4)))).bind fun n3=>(ix kG (gt kF n3)).bind fun n4=>(some (kG.set n4 (IntKind.i64.wrap (1 - (gt kG n2))))).bind fun l5=>aj.pj9 F (aj.pl16301 F aU k) kF l5 fv gf gG dL) else (aj.pj9 F (aj.pl16301 F aU k) kF kG fv gf gG dL))) else (aj.pj8 F aU kF kG fv gf))
termination_by structural n=>n
theorem aj.l16301_P {F:Nat} {H0:Hp} {Ri R0:List Rs}  {C509_:Sl→Sl→Int→Int→Hp→OA} {aU:List Int→List Int→Int→Int→Option (List Int)} (hC509:aj.S509 H0 Ri R0  C509_ aU):∀ k,aj.S16301 H0 Ri R0  (aj.l16301 F (av.tw F) (aK.tw F) (aq.tw F) (aR.tw F) (bj.tw F) C509_ k) (aj.pl16301 F aU k):=by
 intro k
 induction k with
 | zero=>
  intro FW FX yE yF FY FZ kF kG F_ Ga fv gf gG dL H XF XG h0 r hp
  exact nomatch (show (none:Option (List Int)) = some r from hp)
 | succ k ih=>
  intro FW FX yE yF FY FZ kF kG F_ Ga fv gf gG dL H XF XG h0 r hp
  obtain ⟨w0,s0,yM,yN⟩:=h0
  subst XF
  subst XG
  unfold aj.pl16301 at hp
  unfold aj.l16301
  refine bif_ex (fun hb=>?_) (fun hb=>?_)
  ·replace hp:=bif_t hb hp
   obtain ⟨n1,g1,hp⟩:=bind_some' hp
   obtain ⟨p1,q1,i1,h1,j1⟩:=W.ixo (E:=(eInt .i64)) w0 (i:=0) rfl rfl yM g1
   refine bind_ex i1 ?_
   have h1:_ = [_]:=h1
   subst h1
   refine bind_ex (ldI_of (j1 0 _ rfl)) ?_
   obtain ⟨n2,g2,hp⟩:=bind_some' hp
   obtain ⟨p2,q2,i2,h2,j2⟩:=W.ixo (E:=(eInt .i64)) w0 (i:=1) rfl rfl yN g2
   refine bind_ex i2 ?_
   have h2:_ = [_]:=h2
   subst h2
   refine bind_ex (ldI_of (j2 0 _ rfl)) ?_
   refine bif_ex (fun hb=>?_) (fun hb=>?_)
   ·replace hp:=bif_t hb hp
    obtain ⟨n3,g3,hp⟩:=bind_some' hp
    obtain ⟨p3,q3,i3,h3,j3⟩:=W.ixo (E:=(eInt .i64)) w0 (i:=0) rfl rfl yM g3
    refine bind_ex i3 ?_
    have h3:_ = [_]:=h3
    subst h3
    refine bind_ex (ldI_of (j3 0 _ rfl)) ?_
    obtain ⟨n4,g4,hp⟩:=bind_some' hp
    obtain ⟨p4,q4,i4,h4,j4⟩:=W.ixo (E:=(eInt .i64)) w0 (i:=1) rfl rfl yN g4
    refine bind_ex i4 ?_
    obtain ⟨l5,e5,hp⟩:=bind_some' hp
    refine sto_k (eInt .i64) w0 (i:=1) (j:=0) (p:=p4) rfl rfl yN g4 i4 e5 rfl rfl (fun _ h=>by have h:_ = [_]:=h; subst h; exact rfl) fun H6 k6 w6 s6 c6=>?_
    dsimp only [List.set] at w6 s6 c6
    exact aj.j9_P (@ih) rfl ((st_len e5).symm) ⟨w6,(s0.trans s6),(yM.step s6),c6⟩ hp
   ·replace hp:=bif_f hb hp
    exact aj.j9_P (@ih) rfl rfl ⟨w0,s0,yM,yN⟩ hp
  ·replace hp:=bif_f hb hp
   exact aj.j8_P (@hC509) rfl rfl ⟨w0,s0,yM,yN⟩ hp
def aj.pl509 (F:Nat) :Nat→List Int→List Int→Int→Int→Option (List Int)
 | 0,_,_,_,_=>none
 | k + 1,pl,pm,ig,iK=>(bif (decide (iK < ig)) then (aj.pl16301 F (aj.pl509 F k) F pl pm ig iK (pl.length:Int) 0) else (some pm))
termination_by structural n=>n
theorem aj.l509_P {F:Nat} {H0:Hp} {Ri R0:List Rs}  :∀ k,aj.S509 H0 Ri R0  (aj.l509 F (av.tw F) (aK.tw F) (aq.tw F) (aR.tw F) (bj.tw F)  k) (aj.pl509 F  k):=by
 intro k
 induction k with
 | zero=>
  intro FQ FR yC yD FS FT pl pm FU FV ig iK H XH XI h0 r hp
  exact nomatch (show (none:Option (List Int)) = some r from hp)
 | succ k ih=>
  intro FQ FR yC yD FS FT pl pm FU FV ig iK H XH XI h0 r hp
  obtain ⟨w0,s0,aik,XJ⟩:=h0
  subst XH
  subst XI
  unfold aj.pl509 at hp
  unfold aj.l509
  refine bif_ex (fun hb=>?_) (fun hb=>?_)
  ·replace hp:=bif_t hb hp
   exact aj.l16301_P (@ih) F rfl rfl ⟨w0,s0,aik,XJ⟩ hp
  ·replace hp:=bif_f hb hp
   obtain ⟨w1,s1⟩:=w0.pick' [1] 2 rfl rfl rfl
   dsimp only [pk,pks,nth,List.drop] at w1 s1
   obtain rfl:=Option.some.inj hp
   exact ⟨_,_,rfl,_,_,_,_,rfl,rfl,w1,(s0.trans s1),(XJ.step s1)⟩
def aj.pj10 (F:Nat)  (yO:List Int) (tZ:List Int):Option (List Int):=aj.pl509 F F yO tZ (tZ.length:Int) 0
theorem aj.j10_P {F:Nat} {H0:Hp} {Ri R0:List Rs}   {XK XL:ON} {LX LY:Nat} {XM XN:Cap} {yO tZ:List Int} {XO XP:List AV} {H:Hp} (ail:LX = yO.length) (aim:LY = tZ.length) (h0:Out H0 Ri H (Rs.own ⟨XK,LX,XM⟩ (eInt .i64).z XO :: Rs.own ⟨XL,LY,XN⟩ (eInt .i64).z XP :: R0) fun R=>CR (eInt .i64) H R XO yO∧CR (eInt .i64) H R XP tZ) {r:List Int} (hp:aj.pj10 F  yO tZ = some r):∃ v H',aj.j10 F (av.tw F) (aK.tw F) (aq.tw F) (aR.tw F) (bj.tw F)  ⟨XK,LX,XM⟩ ⟨XL,LY,XN⟩ H = some (v,H')∧aj.Q H0 Ri R0  r v H':=by
 obtain ⟨w0,s0,ain,aio⟩:=h0
 subst ail
 subst aim
 unfold aj.pj10 at hp
 unfold aj.j10
 exact aj.l509_P F rfl rfl ⟨w0,s0,ain,aio⟩ hp
def aj.pl253 (F:Nat) :Nat→List Int→List Int→List Bool→List Int→Int→Int→Option (List Int)
 | 0,_,_,_,_,_,_=>none
 | k + 1,ml,mQ,mn,mm,gH,eT=>(bif (decide (eT < gH)) then ((ix mm eT).bind fun n1=>(ix mn (gt mm n1)).bind fun n2=>(bif (!(gt mn n2)) then ((ix mn (gt mm n1)).bind fun n3=>(some (mn.set n3 true)).bind fun l4=>(ix ml (IntKind.i64.wrap (4 * eT))).bind fun n6=>(ix mQ (gt ml n6)).bind fun n7=>(some (mQ.set n7 0)).bind fun l8=>aj.pj11 F (aj.pl253 F k) ml l8 l4 mm gH eT) else (aj.pj11 F (aj.pl253 F k) ml mQ mn mm gH eT))) else (aj.pj10 F ml mQ))
termination_by structural n=>n
theorem aj.l253_P {F:Nat} {H0:Hp} {Ri R0:List Rs}  :∀ k,aj.S253 H0 Ri R0  (aj.l253 F (av.tw F) (aK.tw F) (aq.tw F) (aR.tw F) (bj.tw F)  k) (aj.pl253 F  k):=by
 intro k
 induction k with
 | zero=>
  intro FE FF FG FH yu yv yw yx FI FJ FK FL ml mQ mm FM FN FO FP mn gH eT H XQ XR XS XT h0 r hp
  exact nomatch (show (none:Option (List Int)) = some r from hp)
 | succ k ih=>
  intro FE FF FG FH yu yv yw yx FI FJ FK FL ml mQ mm FM FN FO FP mn gH eT H XQ XR XS XT h0 r hp
  obtain ⟨w0,s0,Gc,Gd,Ge,LZ⟩:=h0
  subst XQ
  subst XR
  subst XS
  subst XT
  unfold aj.pl253 at hp
  unfold aj.l253
  refine bif_ex (fun hb=>?_) (fun hb=>?_)
  ·replace hp:=bif_t hb hp
   obtain ⟨n1,g1,hp⟩:=bind_some' hp
   obtain ⟨p1,q1,i1,h1,j1⟩:=W.ixo (E:=(eInt .i64)) w0 (i:=3) rfl rfl LZ g1
   refine bind_ex i1 ?_
   have h1:_ = [_]:=h1
   subst h1
   refine bind_ex (ldI_of (j1 0 _ rfl)) ?_
   obtain ⟨n2,g2,hp⟩:=bind_some' hp
   obtain ⟨p2,q2,i2,h2,j2⟩:=W.ixo (E:=eBool) w0 (i:=2) rfl rfl Ge g2
   refine bind_ex i2 ?_
   have h2:_ = [_]:=h2
   subst h2
   refine bind_ex (ldB_of (j2 0 _ rfl)) ?_
   refine bif_ex (fun hb=>?_) (fun hb=>?_)
   ·replace hp:=bif_t hb hp
    obtain ⟨n3,g3,hp⟩:=bind_some' hp
    obtain ⟨p3,q3,i3,h3,j3⟩:=W.ixo (E:=eBool) w0 (i:=2) rfl rfl Ge g3
    refine bind_ex i3 ?_
    obtain ⟨l4,e4,hp⟩:=bind_some' hp
    refine sto_k eBool w0 (i:=2) (j:=0) (p:=p3) rfl rfl Ge g3 i3 e4 rfl rfl (fun _ h=>by have h:_ = [_]:=h; subst h; exact rfl) fun H5 k5 w5 s5 c5=>?_
    dsimp only [List.set] at w5 s5 c5
    obtain ⟨n6,g6,hp⟩:=bind_some' hp
    obtain ⟨p6,q6,i6,h6,j6⟩:=W.ixo (E:=(eInt .i64)) w5 (i:=0) rfl rfl (Gc.step s5) g6
    refine bind_ex i6 ?_
    have h6:_ = [_]:=h6
    subst h6
    refine bind_ex (ldI_of (j6 0 _ rfl)) ?_
    obtain ⟨n7,g7,hp⟩:=bind_some' hp
    obtain ⟨p7,q7,i7,h7,j7⟩:=W.ixo (E:=(eInt .i64)) w5 (i:=1) rfl rfl (Gd.step s5) g7
    refine bind_ex i7 ?_
    obtain ⟨l8,e8,hp⟩:=bind_some' hp
    refine sto_k (eInt .i64) w5 (i:=1) (j:=0) (p:=p7) rfl rfl (Gd.step s5) g7 i7 e8 rfl rfl (fun _ h=>by have h:_ = [_]:=h; subst h; exact rfl) fun H9 k9 w9 s9 c9=>?_
    dsimp only [List.set] at w9 s9 c9
    exact aj.j11_P (@ih) rfl ((st_len e8).symm) ((st_len e4).symm) rfl ⟨w9,(s0.trans (s5.trans s9)),(Gc.step (s5.trans s9)),c9,(c5.step s9),(LZ.step (s5.trans s9))⟩ hp
   ·replace hp:=bif_f hb hp
    exact aj.j11_P (@ih) rfl rfl rfl rfl ⟨w0,s0,Gc,Gd,Ge,LZ⟩ hp
  ·replace hp:=bif_f hb hp
   obtain ⟨w10,s10⟩:=w0.pick' [0,1] 4 rfl rfl rfl
   dsimp only [pk,pks,nth,List.drop] at w10 s10
   exact aj.j10_P rfl rfl ⟨w10,(s0.trans s10),(Gc.step s10),(Gd.step s10)⟩ hp
def aj.p (F:Nat) (af:List (Int×Int×Int×Int×Int)) (cr:List (Int×Int)) (cD:List (Int×Int)):Option (List Int):=(av.p F af cr cD).bind fun r3=>(aK.p F af cr cD).bind fun r5=>(aq.p F af cr cD).bind fun r8=>(aR.p F ([(-1)]:List Int) (r8.length:Int)).bind fun r12=>(bj.p F r5).bind fun r17=>(mkn r17 false).bind fun l20=>aj.pl253 F F r3 r12 l20 r5 (r5.length:Int) 0
theorem aj.P {F:Nat} {aF eo fD:ON} {ay cZ dl:Nat} {aG ep fE:Cap} {af:List (Int×Int×Int×Int×Int)} {ab:Int} {cr cD:List (Int×Int)} {H:Hp} {R0:List Rs} (bm:ay = af.length) (jj:cZ = cr.length) (jJ:dl = cD.length) (h0:Inn H R0 fun R=>ROs (ePair (eInt .i64) (ePair (eInt .i64) (ePair (eInt .i64) (ePair (eInt .i64) (eInt .i64))))) H R ⟨aF,ay,aG⟩ af∧ROs (ePair (eInt .i64) (eInt .i64)) H R ⟨eo,cZ,ep⟩ cr∧ROs (ePair (eInt .i64) (eInt .i64)) H R ⟨fD,dl,fE⟩ cD) {r:List Int} (hp:aj.p F af cr cD = some r):∃ v H',aj.tw F ⟨aF,ay,aG⟩ ab ⟨eo,cZ,ep⟩ ⟨fD,dl,fE⟩ H = some (v,H')∧aj.Q H R0 R0  r v H':=by
 obtain ⟨w0,aS,gx,hL⟩:=h0
 subst bm
 subst jj
 subst jJ
 unfold aj.p at hp
 unfold aj.tw aj.twX
 have s0:=w0.rf
 refine new_k w0 fun H1 w1 s1=>?_
 refine new_k w1 fun H2 w2 s2=>?_
 refine bind_ex (ldSl_of (w2.ld (i:=1) rfl rfl)) ?_
 refine bind_ex (ldI_of (w2.ld (i:=1) rfl rfl)) ?_
 refine bind_ex (ldSl_of (w2.ld (i:=0) rfl rfl)) ?_
 refine bind_ex (ldSl_of (w2.ld (i:=0) rfl rfl)) ?_
 obtain ⟨r3,e3,hp⟩:=bind_some' hp
 refine call_ex (av.P rfl rfl rfl ⟨w2,(aS.step (s1.trans s2)),(gx.step (s1.trans s2)),(hL.step (s1.trans s2))⟩ e3) ?_
 rintro _ H4 ⟨o0a_4,o0n_4,o0c_4,o0k_4,rfl,rfl,w4,s4,f4_0⟩
 refine bind_ex rfl ?_
 refine bind_ex (ldSl_of (w4.ld (i:=2) rfl rfl)) ?_
 refine bind_ex (ldI_of (w4.ld (i:=2) rfl rfl)) ?_
 refine bind_ex (ldSl_of (w4.ld (i:=1) rfl rfl)) ?_
 refine bind_ex (ldSl_of (w4.ld (i:=1) rfl rfl)) ?_
 obtain ⟨r5,e5,hp⟩:=bind_some' hp
 refine call_ex (aK.P rfl rfl rfl ⟨w4,(aS.step (s1.trans (s2.trans s4))),(gx.step (s1.trans (s2.trans s4))),(hL.step (s1.trans (s2.trans s4)))⟩ e5) ?_
 rintro _ H6 ⟨o0a_6,o0n_6,o0c_6,o0k_6,rfl,rfl,w6,s6,f6_0⟩
 refine bind_ex rfl ?_
 refine newS_k (eInt .i64) w6 (n:=1) (l:=([(-1)]:List Int)) rfl (CR.cons1 rfl CR.empty) rfl fun H7 w7 s7 c7=>?_
 refine bind_ex (ldSl_of (w7.ld (i:=4) rfl rfl)) ?_
 refine bind_ex (ldI_of (w7.ld (i:=4) rfl rfl)) ?_
 refine bind_ex (ldSl_of (w7.ld (i:=3) rfl rfl)) ?_
 refine bind_ex (ldSl_of (w7.ld (i:=3) rfl rfl)) ?_
 obtain ⟨r8,e8,hp⟩:=bind_some' hp
 refine call_ex (aq.P rfl rfl rfl ⟨w7,(aS.step (s1.trans (s2.trans (s4.trans (s6.trans s7))))),(gx.step (s1.trans (s2.trans (s4.trans (s6.trans s7))))),(hL.step (s1.trans (s2.trans (s4.trans (s6.trans s7)))))⟩ e8) ?_
 rintro _ H9 ⟨o0a_9,o0n_9,o0c_9,o0k_9,rfl,rfl,w9,s9,f9_0⟩
 refine bind_ex rfl ?_
 obtain ⟨w10,s10⟩:=w9.pick' [1,0,2,3,4,5] 6 rfl rfl rfl
 dsimp only [pk,pks,nth,List.drop] at w10 s10
 have f11:=W.borrow1 (eInt .i64) w10 (c7.step (s9.trans s10))
 obtain ⟨w11,s11⟩:=w10.right1
 obtain ⟨r12,e12,hp⟩:=bind_some' hp
 refine call_ex (aR.P (show 1 = List.length ([(-1)]:List Int) from rfl) ⟨w11,f11⟩ e12) ?_
 rintro _ H13 ⟨o0a_13,o0n_13,o0k_13,rfl,rfl,w13,s13,f13_0⟩
 obtain ⟨w14,s14⟩:=W.frame1 w10 w13 s13
 refine bind_ex rfl ?_
 obtain ⟨w15,s15⟩:=w14.pick' [3,0,1,2,4,5,6] 7 rfl rfl rfl
 dsimp only [pk,pks,nth,List.drop] at w15 s15
 have f16:=W.borrow1 (eInt .i64) w15 (f6_0.step (s7.trans (s9.trans (s10.trans (s14.trans s15)))))
 obtain ⟨w16,s16⟩:=w15.right1
 obtain ⟨r17,e17,hp⟩:=bind_some' hp
 refine call_ex (bj.P rfl ⟨w16,f16⟩ e17) ?_
 rintro _ H18 ⟨rfl,w18,s18,_⟩
 obtain ⟨w19,s19⟩:=W.frame1 w15 w18 s18
 refine bind_ex rfl ?_
 obtain ⟨l20,e20,hp⟩:=bind_some' hp
 refine mk_k eBool false w19 rfl rfl rfl e20 fun H21 k21 w21 s21 c21=>?_
 obtain ⟨w22,s22⟩:=w21.pick' [5,3,0,1] 8 rfl rfl rfl
 dsimp only [pk,pks,nth,List.drop] at w22 s22
 exact aj.l253_P F rfl rfl rfl rfl ⟨w22,(s0.trans (s1.trans (s2.trans (s4.trans (s6.trans (s7.trans (s9.trans (s10.trans (s14.trans (s15.trans (s19.trans (s21.trans s22)))))))))))),(f4_0.step (s6.trans (s7.trans (s9.trans (s10.trans (s14.trans (s15.trans (s19.trans (s21.trans s22))))))))),((CR.flat (eInt_flat .i64) f13_0).step (s15.trans (s19.trans (s21.trans s22)))),(c21.step s22),(f6_0.step (s7.trans (s9.trans (s10.trans (s14.trans (s15.trans (s19.trans (s21.trans s22))))))))⟩ hp
def bE.Q (H0:Hp) (Ri R0:List Rs)  (r:Int×Int×List Int) (v:AV) (H':Hp):Prop:=∃ o2a:ON,∃ o2n:Nat,∃ o2k:List AV,v = (.agg [(.int .i64 r.1),(.int .i64 r.2.1),(.sl ⟨o2a,o2n,.ex o2n⟩)])∧o2n = (r.2.2).length∧Out H0 Ri H' (Rs.own ⟨o2a,o2n,.ex o2n⟩ (eInt .i64).z o2k :: R0) fun R=>CR (eInt .i64) H' R o2k (r.2.2)
def bE.p (F:Nat) (aa:Int) (ak:Int):Option (Int×Int×List Int):=(mkn (IntKind.i64.wrap (aa * ak)) (0:Int)).bind fun l2=>some (aa,ak,l2)
theorem bE.P {F:Nat} {aa ak:Int} {H:Hp} {R0:List Rs}  (h0:Inn H R0 fun R=>True) {r:Int×Int×List Int} (hp:bE.p F aa ak = some r):∃ v H',bE.tw F aa ak H = some (v,H')∧bE.Q H R0 R0  r v H':=by
 obtain ⟨w0,_⟩:=h0
 unfold bE.p at hp
 unfold bE.tw bE.twX
 have s0:=w0.rf
 refine new_k w0 fun H1 w1 s1=>?_
 obtain ⟨l2,e2,hp⟩:=bind_some' hp
 refine mk_k (eInt .i64) (0:Int) w1 rfl rfl rfl e2 fun H3 k3 w3 s3 c3=>?_
 refine st_k w3 (i:=1) rfl rfl rfl fun H4 w4 s4=>?_
 dsimp only [List.set] at w4 s4
 refine st_k w4 (i:=1) rfl rfl rfl fun H5 w5 s5=>?_
 dsimp only [List.set] at w5 s5
 refine st_k w5 (i:=1) rfl rfl rfl fun H6 w6 s6=>?_
 dsimp only [List.set] at w6 s6
 refine bind_ex (ldI_of (w6.ld (i:=1) rfl rfl)) ?_
 refine bind_ex (ldI_of (w6.ld (i:=1) rfl rfl)) ?_
 refine bind_ex (ldSl_of (w6.ld (i:=1) rfl rfl)) ?_
 obtain ⟨w7,s7⟩:=w6.pick' [0] 2 rfl rfl rfl
 dsimp only [pk,pks,nth,List.drop] at w7 s7
 obtain rfl:=Option.some.inj hp
 exact ⟨_,_,rfl,_,_,_,rfl,rfl,w7,(s0.trans (s1.trans (s3.trans (s4.trans (s5.trans (s6.trans s7)))))),(c3.step (s4.trans (s5.trans (s6.trans s7))))⟩
def cl.Q (H0:Hp) (Ri R0:List Rs)  (r:Int) (v:AV) (H':Hp):Prop:=v = (.int .i64 r)∧Out H0 Ri H' (R0) fun R=>True
def cl.p (F:Nat) (aa:Bool):Option (Int):=(bif aa then (some 1) else (some 0))
theorem cl.P {F:Nat} {aa:Bool} {H:Hp} {R0:List Rs}  (h0:Inn H R0 fun R=>True) {r:Int} (hp:cl.p F aa = some r):∃ v H',cl.tw F aa H = some (v,H')∧cl.Q H R0 R0  r v H':=by
 obtain ⟨w0,_⟩:=h0
 unfold cl.p at hp
 unfold cl.tw cl.twX
 have s0:=w0.rf
 refine bif_ex (fun hb=>?_) (fun hb=>?_)
 ·replace hp:=bif_t hb hp
  obtain rfl:=Option.some.inj hp
  exact ⟨_,_,rfl,rfl,w0,s0,trivial⟩
 ·replace hp:=bif_f hb hp
  obtain rfl:=Option.some.inj hp
  exact ⟨_,_,rfl,rfl,w0,s0,trivial⟩
def aW.Q (H0:Hp) (Ri R0:List Rs)  (r:List Int) (v:AV) (H':Hp):Prop:=∃ o0a:ON,∃ o0n:Nat,∃ o0c:Cap,∃ o0k:List AV,v = (.sl ⟨o0a,o0n,o0c⟩)∧o0n = (r).length∧Out H0 Ri H' (Rs.own ⟨o0a,o0n,o0c⟩ (eInt .i64).z o0k :: R0) fun R=>CR (eInt .i64) H' R o0k (r)
def aW.S61 (H0:Hp) (Ri R0:List Rs)  (C:Int→Sl→Sl→Sl→Int→Int→Hp→OA) (pC:Int→List Int→List Int→List Int→Int→Int→Option (List Int)):Prop:=∀ {fw ii hB:Int} {Gf Gg Gh:ON} {yP yQ yR:Nat} {Gi Gj Gk:Cap} {nI nJ po:List Int} {Gl Gm Gn:List AV},∀ {H:Hp},yP = nI.length→yQ = nJ.length→yR = po.length→(Out H0 Ri H (Rs.own ⟨Gf,yP,Gi⟩ (eInt .i64).z Gl :: Rs.own ⟨Gg,yQ,Gj⟩ (eInt .i64).z Gm :: Rs.own ⟨Gh,yR,Gk⟩ (eInt .i64).z Gn :: R0) fun R=>CR (eInt .i64) H R Gl nI∧CR (eInt .i64) H R Gm nJ∧CR (eInt .i64) H R Gn po)→∀ {r:List Int},pC fw nI nJ po ii hB = some r→∃ v H',C fw ⟨Gf,yP,Gi⟩ ⟨Gg,yQ,Gj⟩ ⟨Gh,yR,Gk⟩ ii hB H = some (v,H')∧aW.Q H0 Ri R0  r v H'
def aW.pl61 (F:Nat) :Nat→Int→List Int→List Int→List Int→Int→Int→Option (List Int)
 | 0,_,_,_,_,_,_=>none
 | k + 1,fw,nI,nJ,po,ii,hB=>(bif (decide (hB < ii)) then ((ix nI (IntKind.i64.wrap ((IntKind.i64.wrap (4 * hB)) + 1))).bind fun n1=>(ix nJ (gt nI n1)).bind fun n2=>(cl.p F ((gt nJ n2) == fw)).bind fun r3=>(apn po ([(IntKind.i64.wrap ((IntKind.i64.wrap (2 * r3)) - 1))]:List Int)).bind fun l6=>aW.pl61 F k fw nI nJ l6 ii (IntKind.i64.wrap (hB + 1))) else (some po))
termination_by structural n=>n
theorem aW.l61_P {F:Nat} {H0:Hp} {Ri R0:List Rs}  :∀ k,aW.S61 H0 Ri R0  (aW.l61 F (av.tw F) (aj.tw F) (cl.tw F)  k) (aW.pl61 F  k):=by
 intro k
 induction k with
 | zero=>
  intro fw ii hB Gf Gg Gh yP yQ yR Gi Gj Gk nI nJ po Gl Gm Gn H XU XV XW h0 r hp
  exact nomatch (show (none:Option (List Int)) = some r from hp)
 | succ k ih=>
  intro fw ii hB Gf Gg Gh yP yQ yR Gi Gj Gk nI nJ po Gl Gm Gn H XU XV XW h0 r hp
  obtain ⟨w0,s0,XX,XY,XZ⟩:=h0
  subst XU
  subst XV
  subst XW
  unfold aW.pl61 at hp
  unfold aW.l61
  refine bif_ex (fun hb=>?_) (fun hb=>?_)
  ·replace hp:=bif_t hb hp
   obtain ⟨n1,g1,hp⟩:=bind_some' hp
   obtain ⟨p1,q1,i1,h1,j1⟩:=W.ixo (E:=(eInt .i64)) w0 (i:=0) rfl rfl XX g1
   refine bind_ex i1 ?_
   have h1:_ = [_]:=h1
   subst h1
   refine bind_ex (ldI_of (j1 0 _ rfl)) ?_
   obtain ⟨n2,g2,hp⟩:=bind_some' hp
   obtain ⟨p2,q2,i2,h2,j2⟩:=W.ixo (E:=(eInt .i64)) w0 (i:=1) rfl rfl XY g2
   refine bind_ex i2 ?_
   have h2:_ = [_]:=h2
   subst h2
   refine bind_ex (ldI_of (j2 0 _ rfl)) ?_
   obtain ⟨r3,e3,hp⟩:=bind_some' hp
   refine call_ex (cl.P ⟨w0,trivial⟩ e3) ?_
   rintro _ H4 ⟨rfl,w4,s4,_⟩
   refine bind_ex rfl ?_
   refine newS_k (eInt .i64) w4 (n:=1) (l:=([(IntKind.i64.wrap ((IntKind.i64.wrap (2 * r3)) - 1))]:List Int)) rfl (CR.cons1 rfl CR.empty) rfl fun H5 w5 s5 c5=>?_
   refine bind_ex (w5.rowo (i:=0) rfl) ?_
   obtain ⟨l6,e6,hp⟩:=bind_some' hp
   refine app_k (eInt .i64) w5 (i:=3) rfl rfl (XZ.step (s4.trans s5)) c5 (show 1 = List.length ([(IntKind.i64.wrap ((IntKind.i64.wrap (2 * r3)) - 1))]:List Int) from rfl) rfl e6 fun a7 d7 H7 w7 s7 c7 x7=>?_
   dsimp only [List.set] at w7 s7 c7
   obtain ⟨w8,s8⟩:=w7.pick' [1,2,3] 4 rfl rfl rfl
   dsimp only [pk,pks,nth,List.drop] at w8 s8
   exact ih rfl rfl rfl ⟨w8,(s0.trans (s4.trans (s5.trans (s7.trans s8)))),(XX.step (s4.trans (s5.trans (s7.trans s8)))),(XY.step (s4.trans (s5.trans (s7.trans s8)))),(c7.step s8)⟩ hp
  ·replace hp:=bif_f hb hp
   obtain ⟨w9,s9⟩:=w0.pick' [2] 3 rfl rfl rfl
   dsimp only [pk,pks,nth,List.drop] at w9 s9
   obtain rfl:=Option.some.inj hp
   exact ⟨_,_,rfl,_,_,_,_,rfl,rfl,w9,(s0.trans s9),(XZ.step s9)⟩
def aW.p (F:Nat) (af:List (Int×Int×Int×Int×Int)) (cr:List (Int×Int)) (cD:List (Int×Int)) (aV:Int):Option (List Int):=(av.p F af cr cD).bind fun r3=>(aj.p F af cr cD).bind fun r6=>aW.pl61 F F aV r3 r6 ([]:List Int) (af.length:Int) 0
theorem aW.P {F:Nat} {aF eo fD:ON} {ay cZ dl:Nat} {aG ep fE:Cap} {af:List (Int×Int×Int×Int×Int)} {ab aV:Int} {cr cD:List (Int×Int)} {H:Hp} {R0:List Rs} (bm:ay = af.length) (jj:cZ = cr.length) (jJ:dl = cD.length) (h0:Inn H R0 fun R=>ROs (ePair (eInt .i64) (ePair (eInt .i64) (ePair (eInt .i64) (ePair (eInt .i64) (eInt .i64))))) H R ⟨aF,ay,aG⟩ af∧ROs (ePair (eInt .i64) (eInt .i64)) H R ⟨eo,cZ,ep⟩ cr∧ROs (ePair (eInt .i64) (eInt .i64)) H R ⟨fD,dl,fE⟩ cD) {r:List Int} (hp:aW.p F af cr cD aV = some r):∃ v H',aW.tw F ⟨aF,ay,aG⟩ ab ⟨eo,cZ,ep⟩ ⟨fD,dl,fE⟩ aV H = some (v,H')∧aW.Q H R0 R0  r v H':=by
 obtain ⟨w0,aS,gx,hL⟩:=h0
 subst bm
 subst jj
 subst jJ
 unfold aW.p at hp
 unfold aW.tw aW.twX
 have s0:=w0.rf
 refine new_k w0 fun H1 w1 s1=>?_
 refine new_k w1 fun H2 w2 s2=>?_
 refine bind_ex (ldSl_of (w2.ld (i:=1) rfl rfl)) ?_
 refine bind_ex (ldI_of (w2.ld (i:=1) rfl rfl)) ?_
 refine bind_ex (ldSl_of (w2.ld (i:=0) rfl rfl)) ?_
 refine bind_ex (ldSl_of (w2.ld (i:=0) rfl rfl)) ?_
 obtain ⟨r3,e3,hp⟩:=bind_some' hp
 refine call_ex (av.P rfl rfl rfl ⟨w2,(aS.step (s1.trans s2)),(gx.step (s1.trans s2)),(hL.step (s1.trans s2))⟩ e3) ?_
 rintro _ H4 ⟨o0a_4,o0n_4,o0c_4,o0k_4,rfl,rfl,w4,s4,f4_0⟩
 refine bind_ex rfl ?_
 refine ifs_ex (W.cons_of (Rn:=[_]) w2 w4 s4) ?_
 refine bind_ex (ldSl_of (w4.ld (i:=2) rfl rfl)) ?_
 refine bind_ex (ldI_of (w4.ld (i:=2) rfl rfl)) ?_
 refine bind_ex (ldSl_of (w4.ld (i:=1) rfl rfl)) ?_
 refine bind_ex (ldSl_of (w4.ld (i:=1) rfl rfl)) ?_
 obtain ⟨r6,e6,hp⟩:=bind_some' hp
 refine call_ex (aj.P rfl rfl rfl ⟨w4,(aS.step (s1.trans (s2.trans s4))),(gx.step (s1.trans (s2.trans s4))),(hL.step (s1.trans (s2.trans s4)))⟩ e6) ?_
 rintro _ H7 ⟨o0a_7,o0n_7,o0c_7,o0k_7,rfl,rfl,w7,s7,f7_0⟩
 refine bind_ex rfl ?_
 refine bind_ex (ldSl_of (w7.ld (i:=3) rfl rfl)) ?_
 obtain ⟨w8,s8⟩:=w7.nilS (eInt .i64).z (by decide)
 obtain ⟨w9,s9⟩:=w8.pick' [2,1,0] 5 rfl rfl rfl
 dsimp only [pk,pks,nth,List.drop] at w9 s9
 exact aW.l61_P F rfl rfl rfl ⟨w9,(s0.trans (s1.trans (s2.trans (s4.trans (s7.trans (s8.trans s9)))))),(f4_0.step (s7.trans (s8.trans s9))),(f7_0.step (s8.trans s9)),((CR.empty:CR (eInt .i64) _ _ [] []).step s9)⟩ hp
def ag.Q (H0:Hp) (Ri R0:List Rs)  (r:Int×Int×List Int) (v:AV) (H':Hp):Prop:=∃ o2a:ON,∃ o2n:Nat,∃ o2c:Cap,∃ o2k:List AV,v = (.agg [(.int .i64 r.1),(.int .i64 r.2.1),(.sl ⟨o2a,o2n,o2c⟩)])∧o2n = (r.2.2).length∧Out H0 Ri H' (Rs.own ⟨o2a,o2n,o2c⟩ (eInt .i64).z o2k :: R0) fun R=>CR (eInt .i64) H' R o2k (r.2.2)
def ag.S125 (H0:Hp) (Ri R0:List Rs)  (C:Int→Nat→Nat→Nat→Nat→Nat→Nat→Sl→Sl→Int→Sl→Int→Int→Hp→OA) (pC:Int→List (Int×Int×Int×Int×Int)→List (Int×Int)→List (Int×Int)→List Int→List Int→Int→List Int→Int→Int→Option (Int×Int×List Int)):Prop:=∀ {dj L_ Ma Mb eB gM eW:Int} {Gp Gq Gr Gs Gt Gu Gv:ON} {yS eV yT yU fA yV gm yW yX yY:Nat} {Gw Gx Gy Gz GA GB GC:Cap} {nK:List (Int×Int×Int×Int×Int)} {nL nM:List (Int×Int)} {GD nN mR mS:List Int} {GE GF GG GH:List AV},∀ {H:Hp},yS = nK.length→yT = nL.length→yU = nM.length→yV = GD.length→yW = nN.length→yX = mR.length→yY = mS.length→(Out H0 Ri H (Rs.blk eV [.sl ⟨Gp,yS,Gw⟩,.int .i64 L_] :: Rs.blk fA [.sl ⟨Gq,yT,Gx⟩,.sl ⟨Gr,yU,Gy⟩] :: Rs.own ⟨Gs,yV,Gz⟩ (eInt .i64).z GE :: Rs.blk gm [.int .i64 Ma,.int .i64 Mb,.sl ⟨Gs,yV,Gz⟩] :: Rs.own ⟨Gt,yW,GA⟩ (eInt .i64).z GF :: Rs.own ⟨Gu,yX,GB⟩ (eInt .i64).z GG :: Rs.own ⟨Gv,yY,GC⟩ (eInt .i64).z GH :: R0) fun R=>ROs (ePair (eInt .i64) (ePair (eInt .i64) (ePair (eInt .i64) (ePair (eInt .i64) (eInt .i64))))) H R ⟨Gp,yS,Gw⟩ nK∧ROs (ePair (eInt .i64) (eInt .i64)) H R ⟨Gq,yT,Gx⟩ nL∧ROs (ePair (eInt .i64) (eInt .i64)) H R ⟨Gr,yU,Gy⟩ nM∧CR (eInt .i64) H R GE GD∧CR (eInt .i64) H R GF nN∧CR (eInt .i64) H R GG mR∧CR (eInt .i64) H R GH mS)→∀ {r:Int×Int×List Int},pC dj nK nL nM nN mR eB mS gM eW = some r→∃ v H',C dj eV 0 fA 0 gm 0 ⟨Gt,yW,GA⟩ ⟨Gu,yX,GB⟩ eB ⟨Gv,yY,GC⟩ gM eW H = some (v,H')∧ag.Q H0 Ri R0  r v H'
def ag.pj17 (F:Nat) (cF:Int→List (Int×Int×Int×Int×Int)→List (Int×Int)→List (Int×Int)→List Int→List Int→Int→List Int→Int→Int→Option (Int×Int×List Int)) (sD:Int) (yZ:List (Int×Int×Int×Int×Int)) (y_:List (Int×Int)) (za:List (Int×Int)) (zb:List Int) (zc:List Int) (sE:Int) (zd:List Int) (sF:Int) (sG:Int):Option (Int×Int×List Int):=cF sD yZ y_ za zb zc sE zd sF (IntKind.i64.wrap (sG + 1))
theorem ag.j17_P {F:Nat} {H0:Hp} {Ri R0:List Rs}  {C125_:Int→Nat→Nat→Nat→Nat→Nat→Nat→Sl→Sl→Int→Sl→Int→Int→Hp→OA} {cF:Int→List (Int×Int×Int×Int×Int)→List (Int×Int)→List (Int×Int)→List Int→List Int→Int→List Int→Int→Int→Option (Int×Int×List Int)} (hC125:ag.S125 H0 Ri R0  C125_ cF) {sD aip aiq air sE sF sG:Int} {X_ Ya Yb Yc Yd Ye Yf:ON} {Mc AO Md Me AP Mf AQ Mg Mh Mi:Nat} {Yg Yh Yi Yj Yk Yl Ym:Cap} {yZ:List (Int×Int×Int×Int×Int)} {y_ za:List (Int×Int)} {Yn zb zc zd:List Int} {Yo Yp Yq Yr:List AV} {H:Hp} (ais:Mc = yZ.length) (ait:Md = y_.length) (aiu:Me = za.length) (aiv:Mf = Yn.length) (aiw:Mg = zb.length) (aix:Mh = zc.length) (aiy:Mi = zd.length) (h0:Out H0 Ri H (Rs.blk AO [.sl ⟨X_,Mc,Yg⟩,.int .i64 aip] :: Rs.blk AP [.sl ⟨Ya,Md,Yh⟩,.sl ⟨Yb,Me,Yi⟩] :: Rs.own ⟨Yc,Mf,Yj⟩ (eInt .i64).z Yo :: Rs.blk AQ [.int .i64 aiq,.int .i64 air,.sl ⟨Yc,Mf,Yj⟩] :: Rs.own ⟨Yd,Mg,Yk⟩ (eInt .i64).z Yp :: Rs.own ⟨Ye,Mh,Yl⟩ (eInt .i64).z Yq :: Rs.own ⟨Yf,Mi,Ym⟩ (eInt .i64).z Yr :: R0) fun R=>ROs (ePair (eInt .i64) (ePair (eInt .i64) (ePair (eInt .i64) (ePair (eInt .i64) (eInt .i64))))) H R ⟨X_,Mc,Yg⟩ yZ∧ROs (ePair (eInt .i64) (eInt .i64)) H R ⟨Ya,Md,Yh⟩ y_∧ROs (ePair (eInt .i64) (eInt .i64)) H R ⟨Yb,Me,Yi⟩ za∧CR (eInt .i64) H R Yo Yn∧CR (eInt .i64) H R Yp zb∧CR (eInt .i64) H R Yq zc∧CR (eInt .i64) H R Yr zd) {r:Int×Int×List Int} (hp:ag.pj17 F cF sD yZ y_ za zb zc sE zd sF sG = some r):∃ v H',ag.j17 F (av.tw F) (aj.tw F) (bE.tw F) (aW.tw F) (ba.tw F) C125_ sD AO 0 AP 0 AQ 0 ⟨Yd,Mg,Yk⟩ ⟨Ye,Mh,Yl⟩ sE ⟨Yf,Mi,Ym⟩ sF sG H = some (v,H')∧ag.Q H0 Ri R0  r v H':=by
 obtain ⟨w0,s0,aiz,aiA,aiB,aiC,aiD,aiE,aiF⟩:=h0
 subst ais
 subst ait
 subst aiu
 subst aiv
 subst aiw
 subst aix
 subst aiy
 unfold ag.pj17 at hp
 unfold ag.j17
 exact hC125 rfl rfl rfl rfl rfl rfl rfl ⟨w0,s0,aiz,aiA,aiB,aiC,aiD,aiE,aiF⟩ hp
def ag.S509 (H0:Hp) (Ri R0:List Rs)  (C:Nat→Nat→Sl→Sl→Nat→Nat→Sl→Int→Int→Hp→OA) (pC:List Int→List Int→Int→Int→List Int→List Int→Int→Int→Option (Int×Int×List Int)):Prop:=∀ {Mj Ml pp pq gL ef:Int} {GI GJ GK GL GM:ON} {ze dX zf zg zh gK zi:Nat} {GN GO GP GQ GR:Cap} {GS pr ps nO lb:List Int} {GT GU GV GW GX:List AV},∀ {H:Hp},ze = GS.length→zf = pr.length→zg = ps.length→zh = nO.length→zi = lb.length→(Out H0 Ri H (Rs.own ⟨GI,ze,GN⟩ (eInt .i64).z GT :: Rs.blk dX [.int .i64 Mj,.int .i64 Ml,.sl ⟨GI,ze,GN⟩] :: Rs.own ⟨GJ,zf,GO⟩ (eInt .i64).z GU :: Rs.own ⟨GK,zg,GP⟩ (eInt .i64).z GV :: Rs.own ⟨GL,zh,GQ⟩ (eInt .i64).z GW :: Rs.blk gK [.int .i64 pp,.int .i64 pq,.sl ⟨GL,zh,GQ⟩] :: Rs.own ⟨GM,zi,GR⟩ (eInt .i64).z GX :: R0) fun R=>CR (eInt .i64) H R GT GS∧CR (eInt .i64) H R GU pr∧CR (eInt .i64) H R GV ps∧CR (eInt .i64) H R GW nO∧CR (eInt .i64) H R GX lb)→∀ {r:Int×Int×List Int},pC pr ps pp pq nO lb gL ef = some r→∃ v H',C dX 0 ⟨GJ,zf,GO⟩ ⟨GK,zg,GP⟩ gK 0 ⟨GM,zi,GR⟩ gL ef H = some (v,H')∧ag.Q H0 Ri R0  r v H'
def ag.pj9 (F:Nat) (aU:List Int→List Int→Int→Int→List Int→List Int→Int→Int→Option (Int×Int×List Int)) (zj:List Int) (zk:List Int) (GY:Int) (GZ:Int) (zl:List Int) (zm:List Int) (sh:Int) (si:Int):Option (Int×Int×List Int):=aU zj zk GY GZ zl zm sh (IntKind.i64.wrap (si + 1))
theorem ag.j9_P {F:Nat} {H0:Hp} {Ri R0:List Rs}  {C509_:Nat→Nat→Sl→Sl→Nat→Nat→Sl→Int→Int→Hp→OA} {aU:List Int→List Int→Int→Int→List Int→List Int→Int→Int→Option (Int×Int×List Int)} (hC509:ag.S509 H0 Ri R0  C509_ aU) {aiG aiH GY GZ sh si:Int} {Ys Yt Yu Yv Yw:ON} {Mm AC Mn Mo Mp AD Mq:Nat} {Yx Yy Yz YA YB:Cap} {YC zj zk zl zm:List Int} {YD YE YF YG YH:List AV} {H:Hp} (aiI:Mm = YC.length) (aiJ:Mn = zj.length) (aiK:Mo = zk.length) (aiL:Mp = zl.length) (aiM:Mq = zm.length) (h0:Out H0 Ri H (Rs.own ⟨Ys,Mm,Yx⟩ (eInt .i64).z YD :: Rs.blk AC [.int .i64 aiG,.int .i64 aiH,.sl ⟨Ys,Mm,Yx⟩] :: Rs.own ⟨Yt,Mn,Yy⟩ (eInt .i64).z YE :: Rs.own ⟨Yu,Mo,Yz⟩ (eInt .i64).z YF :: Rs.own ⟨Yv,Mp,YA⟩ (eInt .i64).z YG :: Rs.blk AD [.int .i64 GY,.int .i64 GZ,.sl ⟨Yv,Mp,YA⟩] :: Rs.own ⟨Yw,Mq,YB⟩ (eInt .i64).z YH :: R0) fun R=>CR (eInt .i64) H R YD YC∧CR (eInt .i64) H R YE zj∧CR (eInt .i64) H R YF zk∧CR (eInt .i64) H R YG zl∧CR (eInt .i64) H R YH zm) {r:Int×Int×List Int} (hp:ag.pj9 F aU zj zk GY GZ zl zm sh si = some r):∃ v H',ag.j9 F (av.tw F) (aj.tw F) (bE.tw F) (aW.tw F) (ba.tw F) C509_ AC 0 ⟨Yt,Mn,Yy⟩ ⟨Yu,Mo,Yz⟩ AD 0 ⟨Yw,Mq,YB⟩ sh si H = some (v,H')∧ag.Q H0 Ri R0  r v H':=by
 obtain ⟨w0,s0,aiN,aiO,aiP,aiQ,aiR⟩:=h0
 subst aiI
 subst aiJ
 subst aiK
 subst aiL
 subst aiM
 unfold ag.pj9 at hp
 unfold ag.j9
 exact hC509 rfl rfl rfl rfl rfl ⟨w0,s0,aiN,aiO,aiP,aiQ,aiR⟩ hp
def ag.S1043325 (H0:Hp) (Ri R0:List Rs)  (C:Nat→Nat→Sl→Sl→Nat→Nat→Sl→Int→Int→Int→Int→Int→Sl→Int→Int→Hp→OA) (pC:List Int→List Int→Int→Int→List Int→List Int→Int→Int→Int→Int→Int→List (Int×Int)→Int→Int→Option (Int×Int×List Int)):Prop:=∀ {Mr Ms pt nP eU fz dr dW ee gJ gj:Int} {G_ Ha Hb Hc Hd He:ON} {zn dM zo zp zq dN zr zt:Nat} {Hf Hg Hh Hi Hj Hk:Cap} {Hl nQ nR mo nS:List Int} {Hm Hn Ho Hq Hr Hs:List AV} {lc:List (Int×Int)},∀ {H:Hp},zn = Hl.length→zo = nQ.length→zp = nR.length→zq = mo.length→zr = nS.length→zt = lc.length→(Out H0 Ri H (Rs.own ⟨G_,zn,Hf⟩ (eInt .i64).z Hm :: Rs.blk dM [.int .i64 Mr,.int .i64 Ms,.sl ⟨G_,zn,Hf⟩] :: Rs.own ⟨Ha,zo,Hg⟩ (eInt .i64).z Hn :: Rs.own ⟨Hb,zp,Hh⟩ (eInt .i64).z Ho :: Rs.own ⟨Hc,zq,Hi⟩ (eInt .i64).z Hq :: Rs.blk dN [.int .i64 pt,.int .i64 nP,.sl ⟨Hc,zq,Hi⟩] :: Rs.own ⟨Hd,zr,Hj⟩ (eInt .i64).z Hr :: Rs.own ⟨He,zt,Hk⟩ (ePair (eInt .i64) (eInt .i64)).z Hs :: R0) fun R=>CR (eInt .i64) H R Hm Hl∧CR (eInt .i64) H R Hn nQ∧CR (eInt .i64) H R Ho nR∧CR (eInt .i64) H R Hq mo∧CR (eInt .i64) H R Hr nS∧CR (ePair (eInt .i64) (eInt .i64)) H R Hs lc)→∀ {r:Int×Int×List Int},pC nQ nR pt nP mo nS eU fz dr dW ee lc gJ gj = some r→∃ v H',C dM 0 ⟨Ha,zo,Hg⟩ ⟨Hb,zp,Hh⟩ dN 0 ⟨Hd,zr,Hj⟩ eU fz dr dW ee ⟨He,zt,Hk⟩ gJ gj H = some (v,H')∧ag.Q H0 Ri R0  r v H'
def ag.pj14 (F:Nat) (Ht:List Int→List Int→Int→Int→List Int→List Int→Int→Int→Int→Int→Int→List (Int×Int)→Int→Int→Option (Int×Int×List Int)) (zu:List Int) (zv:List Int) (Hu:Int) (Hv:Int) (zw:List Int) (sq:Int) (ss:Int) (su:Int) (zx:List Int) (sv:Int) (sw:Int) (zy:List (Int×Int)) (sx:Int) (sy:Int):Option (Int×Int×List Int):=Ht zu zv Hu Hv zw zx sv sw sq ss su zy sx (IntKind.i64.wrap (sy + 1))
theorem ag.j14_P {F:Nat} {H0:Hp} {Ri R0:List Rs}  {C1043325_:Nat→Nat→Sl→Sl→Nat→Nat→Sl→Int→Int→Int→Int→Int→Sl→Int→Int→Hp→OA} {Ht:List Int→List Int→Int→Int→List Int→List Int→Int→Int→Int→Int→Int→List (Int×Int)→Int→Int→Option (Int×Int×List Int)} (hC1043325:ag.S1043325 H0 Ri R0  C1043325_ Ht) {aiS aiT Hu Hv sq ss su sv sw sx sy:Int} {YI YJ YK YL YM YN:ON} {Mt AJ Mu Mv Mw AK Mx My:Nat} {YO YP YQ YR YS YT:Cap} {YU zu zv zw zx:List Int} {YV YW YX YY YZ Y_:List AV} {zy:List (Int×Int)} {H:Hp} (aiU:Mt = YU.length) (aiV:Mu = zu.length) (aiW:Mv = zv.length) (aiX:Mw = zw.length) (aiY:Mx = zx.length) (aiZ:My = zy.length) (h0:Out H0 Ri H (Rs.own ⟨YI,Mt,YO⟩ (eInt .i64).z YV :: Rs.blk AJ [.int .i64 aiS,.int .i64 aiT,.sl ⟨YI,Mt,YO⟩] :: Rs.own ⟨YJ,Mu,YP⟩ (eInt .i64).z YW :: Rs.own ⟨YK,Mv,YQ⟩ (eInt .i64).z YX :: Rs.own ⟨YL,Mw,YR⟩ (eInt .i64).z YY :: Rs.blk AK [.int .i64 Hu,.int .i64 Hv,.sl ⟨YL,Mw,YR⟩] :: Rs.own ⟨YM,Mx,YS⟩ (eInt .i64).z YZ :: Rs.own ⟨YN,My,YT⟩ (ePair (eInt .i64) (eInt .i64)).z Y_ :: R0) fun R=>CR (eInt .i64) H R YV YU∧CR (eInt .i64) H R YW zu∧CR (eInt .i64) H R YX zv∧CR (eInt .i64) H R YY zw∧CR (eInt .i64) H R YZ zx∧CR (ePair (eInt .i64) (eInt .i64)) H R Y_ zy) {r:Int×Int×List Int} (hp:ag.pj14 F Ht zu zv Hu Hv zw sq ss su zx sv sw zy sx sy = some r):∃ v H',ag.j14 F (av.tw F) (aj.tw F) (bE.tw F) (aW.tw F) (ba.tw F) C1043325_ AJ 0 ⟨YJ,Mu,YP⟩ ⟨YK,Mv,YQ⟩ AK 0 sq ss su ⟨YM,Mx,YS⟩ sv sw ⟨YN,My,YT⟩ sx sy H = some (v,H')∧ag.Q H0 Ri R0  r v H':=by
 obtain ⟨w0,s0,ai0,ai1,ai2,ai3,ai4,ai5⟩:=h0
 subst aiU
 subst aiV
 subst aiW
 subst aiX
 subst aiY
 subst aiZ
 unfold ag.pj14 at hp
 unfold ag.j14
 exact hC1043325 rfl rfl rfl rfl rfl rfl ⟨w0,s0,ai0,ai1,ai2,ai3,ai4,ai5⟩ hp
def ag.pj11 (F:Nat) (aU:List Int→List Int→Int→Int→List Int→List Int→Int→Int→Option (Int×Int×List Int)) (zz:List Int) (zA:List Int) (Hw:Int) (Hx:Int) (zB:List Int) (zC:List Int) (sj:Int) (sk:Int):Option (Int×Int×List Int):=aU zz zA Hw Hx zB zC sj (IntKind.i64.wrap (sk + 1))
theorem ag.j11_P {F:Nat} {H0:Hp} {Ri R0:List Rs}  {C509_:Nat→Nat→Sl→Sl→Nat→Nat→Sl→Int→Int→Hp→OA} {aU:List Int→List Int→Int→Int→List Int→List Int→Int→Int→Option (Int×Int×List Int)} (hC509:ag.S509 H0 Ri R0  C509_ aU) {ai6 ai7 Hw Hx sj sk:Int} {Za Zb Zc Zd Ze:ON} {Mz AF MA MB MC AG MD:Nat} {Zf Zg Zh Zi Zj:Cap} {Zk zz zA zB zC:List Int} {Zl Zm Zn Zo Zp:List AV} {H:Hp} (ai8:Mz = Zk.length) (ai9:MA = zz.length) (ai_:MB = zA.length) (aja:MC = zB.length) (ajb:MD = zC.length) (h0:Out H0 Ri H (Rs.own ⟨Za,Mz,Zf⟩ (eInt .i64).z Zl :: Rs.blk AF [.int .i64 ai6,.int .i64 ai7,.sl ⟨Za,Mz,Zf⟩] :: Rs.own ⟨Zb,MA,Zg⟩ (eInt .i64).z Zm :: Rs.own ⟨Zc,MB,Zh⟩ (eInt .i64).z Zn :: Rs.own ⟨Zd,MC,Zi⟩ (eInt .i64).z Zo :: Rs.blk AG [.int .i64 Hw,.int .i64 Hx,.sl ⟨Zd,MC,Zi⟩] :: Rs.own ⟨Ze,MD,Zj⟩ (eInt .i64).z Zp :: R0) fun R=>CR (eInt .i64) H R Zl Zk∧CR (eInt .i64) H R Zm zz∧CR (eInt .i64) H R Zn zA∧CR (eInt .i64) H R Zo zB∧CR (eInt .i64) H R Zp zC) {r:Int×Int×List Int} (hp:ag.pj11 F aU zz zA Hw Hx zB zC sj sk = some r):∃ v H',ag.j11 F (av.tw F) (aj.tw F) (bE.tw F) (aW.tw F) (ba.tw F) C509_ AF 0 ⟨Zb,MA,Zg⟩ ⟨Zc,MB,Zh⟩ AG 0 ⟨Ze,MD,Zj⟩ sj sk H = some (v,H')∧ag.Q H0 Ri R0  r v H':=by
 obtain ⟨w0,s0,ajc,ajd,aje,ajf,ajg⟩:=h0
 subst ai8
 subst ai9
 subst ai_
 subst aja
 subst ajb
 unfold ag.pj11 at hp
 unfold ag.j11
 exact hC509 rfl rfl rfl rfl rfl ⟨w0,s0,ajc,ajd,aje,ajf,ajg⟩ hp
def ag.pj12 (F:Nat) (aU:List Int→List Int→Int→Int→List Int→List Int→Int→Int→Option (Int×Int×List Int)) (zD:List Int) (zE:List Int) (Hy:Int) (Hz:Int) (zF:List Int) (zG:List Int) (sm:Int) (sn:Int):Option (Int×Int×List Int):=ag.pj11 F aU zD zE Hy Hz zF zG sm sn
theorem ag.j12_P {F:Nat} {H0:Hp} {Ri R0:List Rs}  {C509_:Nat→Nat→Sl→Sl→Nat→Nat→Sl→Int→Int→Hp→OA} {aU:List Int→List Int→Int→Int→List Int→List Int→Int→Int→Option (Int×Int×List Int)} (hC509:ag.S509 H0 Ri R0  C509_ aU) {ajh aji Hy Hz sm sn:Int} {Zq Zr Zs Zt Zu:ON} {ME AH MF MG MH AI MI:Nat} {Zv Zw Zx Zy Zz:Cap} {ZA zD zE zF zG:List Int} {ZB ZC ZD ZE ZF:List AV} {H:Hp} (ajj:ME = ZA.length) (ajk:MF = zD.length) (ajl:MG = zE.length) (ajm:MH = zF.length) (ajn:MI = zG.length) (h0:Out H0 Ri H (Rs.own ⟨Zq,ME,Zv⟩ (eInt .i64).z ZB :: Rs.blk AH [.int .i64 ajh,.int .i64 aji,.sl ⟨Zq,ME,Zv⟩] :: Rs.own ⟨Zr,MF,Zw⟩ (eInt .i64).z ZC :: Rs.own ⟨Zs,MG,Zx⟩ (eInt .i64).z ZD :: Rs.own ⟨Zt,MH,Zy⟩ (eInt .i64).z ZE :: Rs.blk AI [.int .i64 Hy,.int .i64 Hz,.sl ⟨Zt,MH,Zy⟩] :: Rs.own ⟨Zu,MI,Zz⟩ (eInt .i64).z ZF :: R0) fun R=>CR (eInt .i64) H R ZB ZA∧CR (eInt .i64) H R ZC zD∧CR (eInt .i64) H R ZD zE∧CR (eInt .i64) H R ZE zF∧CR (eInt .i64) H R ZF zG) {r:Int×Int×List Int} (hp:ag.pj12 F aU zD zE Hy Hz zF zG sm sn = some r):∃ v H',ag.j12 F (av.tw F) (aj.tw F) (bE.tw F) (aW.tw F) (ba.tw F) C509_ AH 0 ⟨Zr,MF,Zw⟩ ⟨Zs,MG,Zx⟩ AI 0 ⟨Zu,MI,Zz⟩ sm sn H = some (v,H')∧ag.Q H0 Ri R0  r v H':=by
 obtain ⟨w0,s0,ajo,ajp,ajq,ajr,ajs⟩:=h0
 subst ajj
 subst ajk
 subst ajl
 subst ajm
 subst ajn
 unfold ag.pj12 at hp
 unfold ag.j12
 exact ag.j11_P (@hC509) rfl rfl rfl rfl rfl ⟨w0,s0,ajo,ajp,ajq,ajr,ajs⟩ hp
def ag.pj13 (F:Nat) (aU:List Int→List Int→Int→Int→List Int→List Int→Int→Int→Option (Int×Int×List Int)) (qe:List Int) (qf:List Int) (t_:Int) (pu:Int) (nT:List Int) (oq:Int) (mC:Int) (mD:Int) (qg:List Int) (mE:Int) (mF:Int):Option (Int×Int×List Int):=(bif (decide (mC ≥ 0)) then ((bif (decide (mD ≥ 0)) then ((ix nT (IntKind.i64.wrap ((IntKind.i64.wrap (mC * pu)) + mD))).bind fun n2=>(some (nT.set n2 (IntKind.i64.wrap ((gt nT n2) - oq)))).bind fun l3=>(ix l3 (IntKind.i64.wrap ((IntKind.i64.wrap (mD * pu)) + mC))).bind fun n6=>(some (l3.set n6 (IntKind.i64.wrap ((gt l3 n6) - oq)))).bind fun l7=>ag.pj12 F aU qe qf t_ pu l7 qg mE mF) else (ag.pj12 F aU qe qf t_ pu nT qg mE mF))) else (ag.pj11 F aU qe qf t_ pu nT qg mE mF))
theorem ag.j13_P {F:Nat} {H0:Hp} {Ri R0:List Rs}  {C509_:Nat→Nat→Sl→Sl→Nat→Nat→Sl→Int→Int→Hp→OA} {aU:List Int→List Int→Int→Int→List Int→List Int→Int→Int→Option (Int×Int×List Int)} (hC509:ag.S509 H0 Ri R0  C509_ aU) {ajt aju t_ pu oq mC mD mE mF:Int} {ZG ZH ZI ZJ ZK:ON} {MJ sp MK ML MM kV MN:Nat} {ZL ZM ZN ZO ZP:Cap} {ZQ qe qf nT qg:List Int} {ZR ZS ZT ZU ZV:List AV} {H:Hp} (ajv:MJ = ZQ.length) (ajw:MK = qe.length) (ajx:ML = qf.length) (ajy:MM = nT.length) (ajz:MN = qg.length) (h0:Out H0 Ri H (Rs.own ⟨ZG,MJ,ZL⟩ (eInt .i64).z ZR :: Rs.blk sp [.int .i64 ajt,.int .i64 aju,.sl ⟨ZG,MJ,ZL⟩] :: Rs.own ⟨ZH,MK,ZM⟩ (eInt .i64).z ZS :: Rs.own ⟨ZI,ML,ZN⟩ (eInt .i64).z ZT :: Rs.own ⟨ZJ,MM,ZO⟩ (eInt .i64).z ZU :: Rs.blk kV [.int .i64 t_,.int .i64 pu,.sl ⟨ZJ,MM,ZO⟩] :: Rs.own ⟨ZK,MN,ZP⟩ (eInt .i64).z ZV :: R0) fun R=>CR (eInt .i64) H R ZR ZQ∧CR (eInt .i64) H R ZS qe∧CR (eInt .i64) H R ZT qf∧CR (eInt .i64) H R ZU nT∧CR (eInt .i64) H R ZV qg) {r:Int×Int×List Int} (hp:ag.pj13 F aU qe qf t_ pu nT oq mC mD qg mE mF = some r):∃ v H',ag.j13 F (av.tw F) (aj.tw F) (bE.tw F) (aW.tw F) (ba.tw F) C509_ sp 0 ⟨ZH,MK,ZM⟩ ⟨ZI,ML,ZN⟩ kV 0 oq mC mD ⟨ZK,MN,ZP⟩ mE mF H = some (v,H')∧ag.Q H0 Ri R0  r v H':=by
 obtain ⟨w0,s0,MO,MP,MQ,HA,MR⟩:=h0
 subst ajv
 subst ajw
 subst ajx
 subst ajy
 subst ajz
 unfold ag.pj13 at hp
 unfold ag.j13
 refine bif_ex (fun hb=>?_) (fun hb=>?_)
 ·replace hp:=bif_t hb hp
  refine bif_ex (fun hb=>?_) (fun hb=>?_)
  ·replace hp:=bif_t hb hp
   refine bind_ex (ldI_of (w0.ld (i:=5) rfl rfl)) ?_
   refine bind_ex (ldI_of (w0.ld (i:=5) rfl rfl)) ?_
   refine bind_ex (ldSl_of (w0.ld (i:=5) rfl rfl)) ?_
   refine ba.inl ?_
   refine new_k w0 fun H1 w1 s1=>?_
   refine bind_ex (ldSl_of (w1.ld (i:=0) rfl rfl)) ?_
   refine bind_ex (ldI_of (w1.ld (i:=0) rfl rfl)) ?_
   obtain ⟨n2,g2,hp⟩:=bind_some' hp
   obtain ⟨p2,q2,i2,h2,j2⟩:=W.ixo (E:=(eInt .i64)) w1 (i:=5) rfl rfl (HA.step s1) g2
   refine bind_ex i2 ?_
   refine ⟨_,_,rfl,?_⟩
   refine bind_ex rfl ?_
   have h2:_ = [_]:=h2
   subst h2
   refine bind_ex (ldI_of (j2 0 _ rfl)) ?_
   obtain ⟨l3,e3,hp⟩:=bind_some' hp
   refine sto_k (eInt .i64) w1 (i:=5) (j:=0) (p:=p2) rfl rfl (HA.step s1) g2 i2 e3 rfl rfl (fun _ h=>by have h:_ = [_]:=h; subst h; exact rfl) fun H4 k4 w4 s4 c4=>?_
   dsimp only [List.set] at w4 s4 c4
   refine bind_ex (ldI_of (w4.ld (i:=6) rfl rfl)) ?_
   refine bind_ex (ldI_of (w4.ld (i:=6) rfl rfl)) ?_
   refine bind_ex (ldSl_of (w4.ld (i:=6) rfl rfl)) ?_
   refine ba.inl ?_
   refine new_k w4 fun H5 w5 s5=>?_
   refine bind_ex (ldSl_of (w5.ld (i:=0) rfl rfl)) ?_
   refine bind_ex (ldI_of (w5.ld (i:=0) rfl rfl)) ?_
   obtain ⟨n6,g6,hp⟩:=bind_some' hp
   obtain ⟨p6,q6,i6,h6,j6⟩:=W.ixo (E:=(eInt .i64)) w5 (i:=6) rfl rfl (c4.step s5) g6
   refine bind_ex i6 ?_
   refine ⟨_,_,rfl,?_⟩
   refine bind_ex rfl ?_
   have h6:_ = [_]:=h6
   subst h6
   refine bind_ex (ldI_of (j6 0 _ rfl)) ?_
   obtain ⟨l7,e7,hp⟩:=bind_some' hp
   refine sto_k (eInt .i64) w5 (i:=6) (j:=0) (p:=p6) rfl rfl (c4.step s5) g6 i6 e7 rfl rfl (fun _ h=>by have h:_ = [_]:=h; subst h; exact rfl) fun H8 k8 w8 s8 c8=>?_
   dsimp only [List.set] at w8 s8 c8
   obtain ⟨w9,s9⟩:=w8.pick' [2,3,4,5,6,7,8] 9 rfl rfl rfl
   dsimp only [pk,pks,nth,List.drop] at w9 s9
   exact ag.j12_P (@hC509) rfl rfl rfl ((st_len e3).symm.trans (st_len e7).symm) rfl ⟨w9,(s0.trans (s1.trans (s4.trans (s5.trans (s8.trans s9))))),(MO.step (s1.trans (s4.trans (s5.trans (s8.trans s9))))),(MP.step (s1.trans (s4.trans (s5.trans (s8.trans s9))))),(MQ.step (s1.trans (s4.trans (s5.trans (s8.trans s9))))),(c8.step s9),(MR.step (s1.trans (s4.trans (s5.trans (s8.trans s9)))))⟩ hp
  ·replace hp:=bif_f hb hp
   exact ag.j12_P (@hC509) rfl rfl rfl rfl rfl ⟨w0,s0,MO,MP,MQ,HA,MR⟩ hp
 ·replace hp:=bif_f hb hp
  exact ag.j11_P (@hC509) rfl rfl rfl rfl rfl ⟨w0,s0,MO,MP,MQ,HA,MR⟩ hp
def ag.pl1043325 (F:Nat) (aU:List Int→List Int→Int→Int→List Int→List Int→Int→Int→Option (Int×Int×List Int)):Nat→List Int→List Int→Int→Int→List Int→List Int→Int→Int→Int→Int→Int→List (Int×Int)→Int→Int→Option (Int×Int×List Int)
 | 0,_,_,_,_,_,_,_,_,_,_,_,_,_,_=>none
 | k + 1,nQ,nR,pt,nP,mo,nS,eU,fz,dr,dW,ee,lc,gJ,gj=>(bif (decide (gj < gJ)) then ((ix lc gj).bind fun n1=>(bif (decide (((gt lc n1).1) ≥ 0)) then ((ix mo (IntKind.i64.wrap ((IntKind.i64.wrap (((gt lc n1).1) * nP)) + ((gt lc n1).2)))).bind fun n6=>(some (mo.set n6 (IntKind.i64.wrap ((gt mo n6) + dr)))).bind fun l7=>ag.pj14 F (ag.pl1043325 F aU k) nQ nR pt nP l7 dr dW ee nS eU fz lc gJ gj) else (ag.pj14 F (ag.pl1043325 F aU k) nQ nR pt nP mo dr dW ee nS eU fz lc gJ gj))) else (ag.pj13 F aU nQ nR pt nP mo dr dW ee nS eU fz))
termination_by structural n=>n
theorem ag.l1043325_P {F:Nat} {H0:Hp} {Ri R0:List Rs}  {C509_:Nat→Nat→Sl→Sl→Nat→Nat→Sl→Int→Int→Hp→OA} {aU:List Int→List Int→Int→Int→List Int→List Int→Int→Int→Option (Int×Int×List Int)} (hC509:ag.S509 H0 Ri R0  C509_ aU):∀ k,ag.S1043325 H0 Ri R0  (ag.l1043325 F (av.tw F) (aj.tw F) (bE.tw F) (aW.tw F) (ba.tw F) C509_ k) (ag.pl1043325 F aU k):=by
 intro k
 induction k with
 | zero=>
  intro Mr Ms pt nP eU fz dr dW ee gJ gj G_ Ha Hb Hc Hd He zn dM zo zp zq dN zr zt Hf Hg Hh Hi Hj Hk Hl nQ nR mo nS Hm Hn Ho Hq Hr Hs lc H ZW ZX ZY ZZ Z_ aaa h0 r hp
  exact nomatch (show (none:Option (Int×Int×List Int)) = some r from hp)
 | succ k ih=>
  intro Mr Ms pt nP eU fz dr dW ee gJ gj G_ Ha Hb Hc Hd He zn dM zo zp zq dN zr zt Hf Hg Hh Hi Hj Hk Hl nQ nR mo nS Hm Hn Ho Hq Hr Hs lc H ZW ZX ZY ZZ Z_ aaa h0 r hp
  obtain ⟨w0,s0,MS,MT,MU,HB,MV,MW⟩:=h0
  subst ZW
  subst ZX
  subst ZY
  subst ZZ
  subst Z_
  subst aaa
  unfold ag.pl1043325 at hp
  unfold ag.l1043325
  refine bif_ex (fun hb=>?_) (fun hb=>?_)
  ·replace hp:=bif_t hb hp
   obtain ⟨n1,g1,hp⟩:=bind_some' hp
   obtain ⟨p1,q1,i1,h1,j1⟩:=W.ixo (E:=(ePair (eInt .i64) (eInt .i64))) w0 (i:=7) rfl rfl MW g1
   refine bind_ex i1 ?_
   obtain ⟨_,_,rfl,rfl,rfl⟩:=h1
   refine bind_ex (ldI_of (j1 0 _ rfl)) ?_
   refine bind_ex (ldI_of (j1 1 _ rfl)) ?_
   refine new_k w0 fun H2 w2 s2=>?_
   refine st_k w2 (i:=0) rfl rfl rfl fun H3 w3 s3=>?_
   dsimp only [List.set] at w3 s3
   refine st_k w3 (i:=0) rfl rfl rfl fun H4 w4 s4=>?_
   dsimp only [List.set] at w4 s4
   refine bind_ex (ldI_of (w4.ld (i:=0) rfl rfl)) ?_
   refine bif_ex (fun hb=>?_) (fun hb=>?_)
   ·replace hp:=bif_t hb hp
    refine bind_ex (ldI_of (w4.ld (i:=6) rfl rfl)) ?_
    refine bind_ex (ldI_of (w4.ld (i:=6) rfl rfl)) ?_
    refine bind_ex (ldSl_of (w4.ld (i:=6) rfl rfl)) ?_
    refine bind_ex (ldI_of (w4.ld (i:=0) rfl rfl)) ?_
    refine bind_ex (ldI_of (w4.ld (i:=0) rfl rfl)) ?_
    refine ba.inl ?_
    refine new_k w4 fun H5 w5 s5=>?_
    refine bind_ex (ldSl_of (w5.ld (i:=0) rfl rfl)) ?_
    refine bind_ex (ldI_of (w5.ld (i:=0) rfl rfl)) ?_
    obtain ⟨n6,g6,hp⟩:=bind_some' hp
    obtain ⟨p6,q6,i6,h6,j6⟩:=W.ixo (E:=(eInt .i64)) w5 (i:=6) rfl rfl (HB.step (s2.trans (s3.trans (s4.trans s5)))) g6
    refine bind_ex i6 ?_
    refine ⟨_,_,rfl,?_⟩
    refine bind_ex rfl ?_
    have h6:_ = [_]:=h6
    subst h6
    refine bind_ex (ldI_of (j6 0 _ rfl)) ?_
    obtain ⟨l7,e7,hp⟩:=bind_some' hp
    refine sto_k (eInt .i64) w5 (i:=6) (j:=0) (p:=p6) rfl rfl (HB.step (s2.trans (s3.trans (s4.trans s5)))) g6 i6 e7 rfl rfl (fun _ h=>by have h:_ = [_]:=h; subst h; exact rfl) fun H8 k8 w8 s8 c8=>?_
    dsimp only [List.set] at w8 s8 c8
    obtain ⟨w9,s9⟩:=w8.pick' [2,3,4,5,6,7,8,9] 10 rfl rfl rfl
    dsimp only [pk,pks,nth,List.drop] at w9 s9
    exact ag.j14_P (@ih) rfl rfl rfl ((st_len e7).symm) rfl rfl ⟨w9,(s0.trans (s2.trans (s3.trans (s4.trans (s5.trans (s8.trans s9)))))),(MS.step (s2.trans (s3.trans (s4.trans (s5.trans (s8.trans s9)))))),(MT.step (s2.trans (s3.trans (s4.trans (s5.trans (s8.trans s9)))))),(MU.step (s2.trans (s3.trans (s4.trans (s5.trans (s8.trans s9)))))),(c8.step s9),(MV.step (s2.trans (s3.trans (s4.trans (s5.trans (s8.trans s9)))))),(MW.step (s2.trans (s3.trans (s4.trans (s5.trans (s8.trans s9))))))⟩ hp
   ·replace hp:=bif_f hb hp
    obtain ⟨w10,s10⟩:=w4.pick' [1,2,3,4,5,6,7,8] 9 rfl rfl rfl
    dsimp only [pk,pks,nth,List.drop] at w10 s10
    exact ag.j14_P (@ih) rfl rfl rfl rfl rfl rfl ⟨w10,(s0.trans (s2.trans (s3.trans (s4.trans s10)))),(MS.step (s2.trans (s3.trans (s4.trans s10)))),(MT.step (s2.trans (s3.trans (s4.trans s10)))),(MU.step (s2.trans (s3.trans (s4.trans s10)))),(HB.step (s2.trans (s3.trans (s4.trans s10)))),(MV.step (s2.trans (s3.trans (s4.trans s10)))),(MW.step (s2.trans (s3.trans (s4.trans s10))))⟩ hp
  ·replace hp:=bif_f hb hp
   obtain ⟨w11,s11⟩:=w0.pick' [0,1,2,3,4,5,6] 8 rfl rfl rfl
   dsimp only [pk,pks,nth,List.drop] at w11 s11
   exact ag.j13_P (@hC509) rfl rfl rfl rfl rfl ⟨w11,(s0.trans s11),(MS.step s11),(MT.step s11),(MU.step s11),(HB.step s11),(MV.step s11)⟩ hp
def ag.pj15 (F:Nat) (aU:List Int→List Int→Int→Int→List Int→List Int→Int→Int→Option (Int×Int×List Int)) (mT:List Int) (fd:List Int) (zH:Int) (zI:Int) (ua:List Int) (sB:Int) (ot:Int) (ub:List Int) (ou:Int) (ov:Int):Option (Int×Int×List Int):=(ix mT ot).bind fun n1=>(ix fd (gt mT n1)).bind fun n2=>(ix mT (IntKind.i64.wrap (ot + 2))).bind fun n3=>(ix fd (gt mT n3)).bind fun n4=>(bif ((gt fd n2) == (gt fd n4)) then (ag.pj9 F aU mT fd zH zI ua ub ou ov) else (ag.pl1043325 F aU F mT fd zH zI ua ub ou ov sB (gt fd n2) (gt fd n4) ([((gt fd n2),(gt fd n2)),((gt fd n4),(gt fd n4))]:List (Int×Int)) (2:Int) 0))
theorem ag.j15_P {F:Nat} {H0:Hp} {Ri R0:List Rs}  {C509_:Nat→Nat→Sl→Sl→Nat→Nat→Sl→Int→Int→Hp→OA} {aU:List Int→List Int→Int→Int→List Int→List Int→Int→Int→Option (Int×Int×List Int)} (hC509:ag.S509 H0 Ri R0  C509_ aU) {ajA ajB zH zI sB ot ou ov:Int} {aab aac aad aae aaf:ON} {MX uu MY MZ M_ uv Na:Nat} {aag aah aai aaj aak:Cap} {aal mT fd ua ub:List Int} {aam aan aao aap aaq:List AV} {H:Hp} (ajC:MX = aal.length) (ajD:MY = mT.length) (ajE:MZ = fd.length) (ajF:M_ = ua.length) (ajG:Na = ub.length) (h0:Out H0 Ri H (Rs.own ⟨aab,MX,aag⟩ (eInt .i64).z aam :: Rs.blk uu [.int .i64 ajA,.int .i64 ajB,.sl ⟨aab,MX,aag⟩] :: Rs.own ⟨aac,MY,aah⟩ (eInt .i64).z aan :: Rs.own ⟨aad,MZ,aai⟩ (eInt .i64).z aao :: Rs.own ⟨aae,M_,aaj⟩ (eInt .i64).z aap :: Rs.blk uv [.int .i64 zH,.int .i64 zI,.sl ⟨aae,M_,aaj⟩] :: Rs.own ⟨aaf,Na,aak⟩ (eInt .i64).z aaq :: R0) fun R=>CR (eInt .i64) H R aam aal∧CR (eInt .i64) H R aan mT∧CR (eInt .i64) H R aao fd∧CR (eInt .i64) H R aap ua∧CR (eInt .i64) H R aaq ub) {r:Int×Int×List Int} (hp:ag.pj15 F aU mT fd zH zI ua sB ot ub ou ov = some r):∃ v H',ag.j15 F (av.tw F) (aj.tw F) (bE.tw F) (aW.tw F) (ba.tw F) C509_ uu 0 ⟨aac,MY,aah⟩ ⟨aad,MZ,aai⟩ uv 0 sB ot ⟨aaf,Na,aak⟩ ou ov H = some (v,H')∧ag.Q H0 Ri R0  r v H':=by
 obtain ⟨w0,s0,aar,HC,HD,aas,aat⟩:=h0
 subst ajC
 subst ajD
 subst ajE
 subst ajF
 subst ajG
 unfold ag.pj15 at hp
 unfold ag.j15
 obtain ⟨n1,g1,hp⟩:=bind_some' hp
 obtain ⟨p1,q1,i1,h1,j1⟩:=W.ixo (E:=(eInt .i64)) w0 (i:=2) rfl rfl HC g1
 refine bind_ex i1 ?_
 have h1:_ = [_]:=h1
 subst h1
 refine bind_ex (ldI_of (j1 0 _ rfl)) ?_
 obtain ⟨n2,g2,hp⟩:=bind_some' hp
 obtain ⟨p2,q2,i2,h2,j2⟩:=W.ixo (E:=(eInt .i64)) w0 (i:=3) rfl rfl HD g2
 refine bind_ex i2 ?_
 have h2:_ = [_]:=h2
 subst h2
 refine bind_ex (ldI_of (j2 0 _ rfl)) ?_
 obtain ⟨n3,g3,hp⟩:=bind_some' hp
 obtain ⟨p3,q3,i3,h3,j3⟩:=W.ixo (E:=(eInt .i64)) w0 (i:=2) rfl rfl HC g3
 refine bind_ex i3 ?_
 have h3:_ = [_]:=h3
 subst h3
 refine bind_ex (ldI_of (j3 0 _ rfl)) ?_
 obtain ⟨n4,g4,hp⟩:=bind_some' hp
 obtain ⟨p4,q4,i4,h4,j4⟩:=W.ixo (E:=(eInt .i64)) w0 (i:=3) rfl rfl HD g4
 refine bind_ex i4 ?_
 have h4:_ = [_]:=h4
 subst h4
 refine bind_ex (ldI_of (j4 0 _ rfl)) ?_
 refine bif_ex (fun hb=>?_) (fun hb=>?_)
 ·replace hp:=bif_t hb hp
  exact ag.j9_P (@hC509) rfl rfl rfl rfl rfl ⟨w0,s0,aar,HC,HD,aas,aat⟩ hp
 ·replace hp:=bif_f hb hp
  refine newS_k (ePair (eInt .i64) (eInt .i64)) w0 (n:=2) (l:=([((gt fd n2),(gt fd n2)),((gt fd n4),(gt fd n4))]:List (Int×Int))) rfl (CR.cons (c:=[_,_]) ⟨[_],_,rfl,rfl,rfl⟩ (CR.cons (c:=[_,_]) ⟨[_],_,rfl,rfl,rfl⟩ CR.empty)) rfl fun H5 w5 s5 c5=>?_
  obtain ⟨w6,s6⟩:=w5.pick' [1,2,3,4,5,6,7,0] 8 rfl rfl rfl
  dsimp only [pk,pks,nth,List.drop] at w6 s6
  exact ag.l1043325_P (@hC509) F rfl rfl rfl rfl rfl (show 2 = List.length ([((gt fd n2),(gt fd n2)),((gt fd n4),(gt fd n4))]:List (Int×Int)) from rfl) ⟨w6,(s0.trans (s5.trans s6)),(aar.step (s5.trans s6)),(HC.step (s5.trans s6)),(HD.step (s5.trans s6)),(aas.step (s5.trans s6)),(aat.step (s5.trans s6)),(c5.step s6)⟩ hp
def ag.pl509 (F:Nat) :Nat→List Int→List Int→Int→Int→List Int→List Int→Int→Int→Option (Int×Int×List Int)
 | 0,_,_,_,_,_,_,_,_=>none
 | k + 1,pr,ps,pp,pq,nO,lb,gL,ef=>(bif (decide (ef < gL)) then ((ix lb ef).bind fun n1=>(bif (decide ((gt lb n1) < 0)) then (ag.pj15 F (ag.pl509 F k) pr ps pp pq nO (gt lb n1) (IntKind.i64.wrap ((IntKind.i64.wrap (4 * ef)) + 1)) lb gL ef) else (ag.pj15 F (ag.pl509 F k) pr ps pp pq nO (gt lb n1) (IntKind.i64.wrap (4 * ef)) lb gL ef))) else (some (pp,pq,nO)))
termination_by structural n=>n
theorem ag.l509_P {F:Nat} {H0:Hp} {Ri R0:List Rs}  :∀ k,ag.S509 H0 Ri R0  (ag.l509 F (av.tw F) (aj.tw F) (bE.tw F) (aW.tw F) (ba.tw F)  k) (ag.pl509 F  k):=by
 intro k
 induction k with
 | zero=>
  intro Mj Ml pp pq gL ef GI GJ GK GL GM ze dX zf zg zh gK zi GN GO GP GQ GR GS pr ps nO lb GT GU GV GW GX H aau aav aaw aax aay h0 r hp
  exact nomatch (show (none:Option (Int×Int×List Int)) = some r from hp)
 | succ k ih=>
  intro Mj Ml pp pq gL ef GI GJ GK GL GM ze dX zf zg zh gK zi GN GO GP GQ GR GS pr ps nO lb GT GU GV GW GX H aau aav aaw aax aay h0 r hp
  obtain ⟨w0,s0,aaz,aaA,aaB,Nb,Nc⟩:=h0
  subst aau
  subst aav
  subst aaw
  subst aax
  subst aay
  unfold ag.pl509 at hp
  unfold ag.l509
  refine bif_ex (fun hb=>?_) (fun hb=>?_)
  ·replace hp:=bif_t hb hp
   obtain ⟨n1,g1,hp⟩:=bind_some' hp
   obtain ⟨p1,q1,i1,h1,j1⟩:=W.ixo (E:=(eInt .i64)) w0 (i:=6) rfl rfl Nc g1
   refine bind_ex i1 ?_
   have h1:_ = [_]:=h1
   subst h1
   refine bind_ex (ldI_of (j1 0 _ rfl)) ?_
   refine bif_ex (fun hb=>?_) (fun hb=>?_)
   ·replace hp:=bif_t hb hp
    exact ag.j15_P (@ih) rfl rfl rfl rfl rfl ⟨w0,s0,aaz,aaA,aaB,Nb,Nc⟩ hp
   ·replace hp:=bif_f hb hp
    exact ag.j15_P (@ih) rfl rfl rfl rfl rfl ⟨w0,s0,aaz,aaA,aaB,Nb,Nc⟩ hp
  ·replace hp:=bif_f hb hp
   refine bind_ex (ldI_of (w0.ld (i:=5) rfl rfl)) ?_
   refine bind_ex (ldI_of (w0.ld (i:=5) rfl rfl)) ?_
   refine bind_ex (ldSl_of (w0.ld (i:=5) rfl rfl)) ?_
   refine st_k w0 (i:=1) rfl rfl rfl fun H2 w2 s2=>?_
   dsimp only [List.set] at w2 s2
   refine st_k w2 (i:=1) rfl rfl rfl fun H3 w3 s3=>?_
   dsimp only [List.set] at w3 s3
   refine st_k w3 (i:=1) rfl rfl rfl fun H4 w4 s4=>?_
   dsimp only [List.set] at w4 s4
   refine bind_ex (ldI_of (w4.ld (i:=1) rfl rfl)) ?_
   refine bind_ex (ldI_of (w4.ld (i:=1) rfl rfl)) ?_
   refine bind_ex (ldSl_of (w4.ld (i:=1) rfl rfl)) ?_
   obtain ⟨w5,s5⟩:=w4.pick' [4] 7 rfl rfl rfl
   dsimp only [pk,pks,nth,List.drop] at w5 s5
   obtain rfl:=Option.some.inj hp
   exact ⟨_,_,rfl,_,_,_,_,rfl,rfl,w5,(s0.trans (s2.trans (s3.trans (s4.trans s5)))),(Nb.step (s2.trans (s3.trans (s4.trans s5))))⟩
def ag.pj16 (F:Nat)  (sC:Int) (zJ:List (Int×Int×Int×Int×Int)) (zK:List (Int×Int)) (zL:List (Int×Int)) (zM:List Int) (zN:List Int) (ox:Int):Option (Int×Int×List Int):=(bE.p F ox ox).bind fun r1=>(aW.p F zJ zK zL sC).bind fun r7=>ag.pl509 F F zM zN r1.1 r1.2.1 r1.2.2 r7 (r7.length:Int) 0
theorem ag.j16_P {F:Nat} {H0:Hp} {Ri R0:List Rs}   {sC ajH ajI ajJ ox:Int} {aaC aaD aaE aaF aaG aaH:ON} {Nd uw Nf Ng ux Nh AN Ni Nj:Nat} {aaI aaJ aaK aaL aaM aaN:Cap} {zJ:List (Int×Int×Int×Int×Int)} {zK zL:List (Int×Int)} {aaO zM zN:List Int} {aaP aaQ aaR:List AV} {H:Hp} (ajK:Nd = zJ.length) (ajL:Nf = zK.length) (ajM:Ng = zL.length) (ajN:Nh = aaO.length) (ajO:Ni = zM.length) (ajP:Nj = zN.length) (h0:Out H0 Ri H (Rs.blk uw [.sl ⟨aaC,Nd,aaI⟩,.int .i64 ajH] :: Rs.blk ux [.sl ⟨aaD,Nf,aaJ⟩,.sl ⟨aaE,Ng,aaK⟩] :: Rs.own ⟨aaF,Nh,aaL⟩ (eInt .i64).z aaP :: Rs.blk AN [.int .i64 ajI,.int .i64 ajJ,.sl ⟨aaF,Nh,aaL⟩] :: Rs.own ⟨aaG,Ni,aaM⟩ (eInt .i64).z aaQ :: Rs.own ⟨aaH,Nj,aaN⟩ (eInt .i64).z aaR :: R0) fun R=>ROs (ePair (eInt .i64) (ePair (eInt .i64) (ePair (eInt .i64) (ePair (eInt .i64) (eInt .i64))))) H R ⟨aaC,Nd,aaI⟩ zJ∧ROs (ePair (eInt .i64) (eInt .i64)) H R ⟨aaD,Nf,aaJ⟩ zK∧ROs (ePair (eInt .i64) (eInt .i64)) H R ⟨aaE,Ng,aaK⟩ zL∧CR (eInt .i64) H R aaP aaO∧CR (eInt .i64) H R aaQ zM∧CR (eInt .i64) H R aaR zN) {r:Int×Int×List Int} (hp:ag.pj16 F  sC zJ zK zL zM zN ox = some r):∃ v H',ag.j16 F (av.tw F) (aj.tw F) (bE.tw F) (aW.tw F) (ba.tw F)  sC uw 0 ux 0 AN 0 ⟨aaG,Ni,aaM⟩ ⟨aaH,Nj,aaN⟩ ox H = some (v,H')∧ag.Q H0 Ri R0  r v H':=by
 obtain ⟨w0,s0,ajQ,ajR,ajS,ajT,ajU,ajV⟩:=h0
 subst ajK
 subst ajL
 subst ajM
 subst ajN
 subst ajO
 subst ajP
 unfold ag.pj16 at hp
 unfold ag.j16
 obtain ⟨r1,e1,hp⟩:=bind_some' hp
 refine call_ex (bE.P ⟨w0,trivial⟩ e1) ?_
 rintro _ H2 ⟨o2a_2,o2n_2,o2k_2,rfl,rfl,w2,s2,f2_0⟩
 refine bind_ex rfl ?_
 refine bind_ex rfl ?_
 refine bind_ex rfl ?_
 refine bind_ex rfl ?_
 refine bind_ex rfl ?_
 refine bind_ex rfl ?_
 refine bind_ex rfl ?_
 refine new_k w2 fun H3 w3 s3=>?_
 refine st_k w3 (i:=0) rfl rfl rfl fun H4 w4 s4=>?_
 dsimp only [List.set] at w4 s4
 refine st_k w4 (i:=0) rfl rfl rfl fun H5 w5 s5=>?_
 dsimp only [List.set] at w5 s5
 refine st_k w5 (i:=0) rfl rfl rfl fun H6 w6 s6=>?_
 dsimp only [List.set] at w6 s6
 refine bind_ex (ldSl_of (w6.ld (i:=2) rfl rfl)) ?_
 refine bind_ex (ldI_of (w6.ld (i:=2) rfl rfl)) ?_
 refine bind_ex (ldSl_of (w6.ld (i:=3) rfl rfl)) ?_
 refine bind_ex (ldSl_of (w6.ld (i:=3) rfl rfl)) ?_
 obtain ⟨r7,e7,hp⟩:=bind_some' hp
 refine call_ex (aW.P rfl rfl rfl ⟨w6,(ajQ.step (s2.trans (s3.trans (s4.trans (s5.trans s6))))),(ajR.step (s2.trans (s3.trans (s4.trans (s5.trans s6))))),(ajS.step (s2.trans (s3.trans (s4.trans (s5.trans s6)))))⟩ e7) ?_
 rintro _ H8 ⟨o0a_8,o0n_8,o0c_8,o0k_8,rfl,rfl,w8,s8,f8_0⟩
 refine bind_ex rfl ?_
 obtain ⟨w9,s9⟩:=w8.pick' [5,6,7,8,2,1,0] 9 rfl rfl rfl
 dsimp only [pk,pks,nth,List.drop] at w9 s9
 exact ag.l509_P F rfl rfl rfl rfl rfl ⟨w9,(s0.trans (s2.trans (s3.trans (s4.trans (s5.trans (s6.trans (s8.trans s9))))))),(ajT.step (s2.trans (s3.trans (s4.trans (s5.trans (s6.trans (s8.trans s9))))))),(ajU.step (s2.trans (s3.trans (s4.trans (s5.trans (s6.trans (s8.trans s9))))))),(ajV.step (s2.trans (s3.trans (s4.trans (s5.trans (s6.trans (s8.trans s9))))))),(f2_0.step (s3.trans (s4.trans (s5.trans (s6.trans (s8.trans s9)))))),(f8_0.step s9)⟩ hp
def ag.pl125 (F:Nat) :Nat→Int→List (Int×Int×Int×Int×Int)→List (Int×Int)→List (Int×Int)→List Int→List Int→Int→List Int→Int→Int→Option (Int×Int×List Int)
 | 0,_,_,_,_,_,_,_,_,_,_=>none
 | k + 1,dj,nK,nL,nM,nN,mR,eB,mS,gM,eW=>(bif (decide (eW < gM)) then ((ix mS eW).bind fun n1=>(bif ((gt mS n1) != dj) then ((ix mR eW).bind fun n2=>(some (mR.set n2 eB)).bind fun l3=>ag.pj17 F (ag.pl125 F k) dj nK nL nM nN l3 (IntKind.i64.wrap (eB + 1)) mS gM eW) else (ag.pj17 F (ag.pl125 F k) dj nK nL nM nN mR eB mS gM eW))) else (ag.pj16 F dj nK nL nM nN mR eB))
termination_by structural n=>n
theorem ag.l125_P {F:Nat} {H0:Hp} {Ri R0:List Rs}  :∀ k,ag.S125 H0 Ri R0  (ag.l125 F (av.tw F) (aj.tw F) (bE.tw F) (aW.tw F) (ba.tw F)  k) (ag.pl125 F  k):=by
 intro k
 induction k with
 | zero=>
  intro dj L_ Ma Mb eB gM eW Gp Gq Gr Gs Gt Gu Gv yS eV yT yU fA yV gm yW yX yY Gw Gx Gy Gz GA GB GC nK nL nM GD nN mR mS GE GF GG GH H aaS aaT aaU aaV aaW aaX aaY h0 r hp
  exact nomatch (show (none:Option (Int×Int×List Int)) = some r from hp)
 | succ k ih=>
  intro dj L_ Ma Mb eB gM eW Gp Gq Gr Gs Gt Gu Gv yS eV yT yU fA yV gm yW yX yY Gw Gx Gy Gz GA GB GC nK nL nM GD nN mR mS GE GF GG GH H aaS aaT aaU aaV aaW aaX aaY h0 r hp
  obtain ⟨w0,s0,Nk,Nl,Nn,No,Np,HE,Nq⟩:=h0
  subst aaS
  subst aaT
  subst aaU
  subst aaV
  subst aaW
  subst aaX
  subst aaY
  unfold ag.pl125 at hp
  unfold ag.l125
  refine bif_ex (fun hb=>?_) (fun hb=>?_)
  ·replace hp:=bif_t hb hp
   obtain ⟨n1,g1,hp⟩:=bind_some' hp
   obtain ⟨p1,q1,i1,h1,j1⟩:=W.ixo (E:=(eInt .i64)) w0 (i:=6) rfl rfl Nq g1
   refine bind_ex i1 ?_
   have h1:_ = [_]:=h1
   subst h1
   refine bind_ex (ldI_of (j1 0 _ rfl)) ?_
   refine bif_ex (fun hb=>?_) (fun hb=>?_)
   ·replace hp:=bif_t hb hp
    obtain ⟨n2,g2,hp⟩:=bind_some' hp
    obtain ⟨p2,q2,i2,h2,j2⟩:=W.ixo (E:=(eInt .i64)) w0 (i:=5) rfl rfl HE g2
    refine bind_ex i2 ?_
    obtain ⟨l3,e3,hp⟩:=bind_some' hp
    refine sto_k (eInt .i64) w0 (i:=5) (j:=0) (p:=p2) rfl rfl HE g2 i2 e3 rfl rfl (fun _ h=>by have h:_ = [_]:=h; subst h; exact rfl) fun H4 k4 w4 s4 c4=>?_
    dsimp only [List.set] at w4 s4 c4
    exact ag.j17_P (@ih) rfl rfl rfl rfl rfl ((st_len e3).symm) rfl ⟨w4,(s0.trans s4),(Nk.step s4),(Nl.step s4),(Nn.step s4),(No.step s4),(Np.step s4),c4,(Nq.step s4)⟩ hp
   ·replace hp:=bif_f hb hp
    exact ag.j17_P (@ih) rfl rfl rfl rfl rfl rfl rfl ⟨w0,s0,Nk,Nl,Nn,No,Np,HE,Nq⟩ hp
  ·replace hp:=bif_f hb hp
   obtain ⟨w5,s5⟩:=w0.pick' [0,1,2,3,4,5] 7 rfl rfl rfl
   dsimp only [pk,pks,nth,List.drop] at w5 s5
   exact ag.j16_P rfl rfl rfl rfl rfl rfl ⟨w5,(s0.trans s5),(Nk.step s5),(Nl.step s5),(Nn.step s5),(No.step s5),(Np.step s5),(HE.step s5)⟩ hp
def ag.p (F:Nat) (af:List (Int×Int×Int×Int×Int)) (cr:List (Int×Int)) (cD:List (Int×Int)) (aV:Int):Option (Int×Int×List Int):=(av.p F af cr cD).bind fun r4=>(aj.p F af cr cD).bind fun r7=>(mkn (r7.length:Int) (0:Int)).bind fun l9=>ag.pl125 F F aV af cr cD r4 l9 (-1) r7 (r7.length:Int) 0
theorem ag.P {F:Nat} {aF eo fD:ON} {ay cZ dl:Nat} {aG ep fE:Cap} {af:List (Int×Int×Int×Int×Int)} {ab aV:Int} {cr cD:List (Int×Int)} {H:Hp} {R0:List Rs} (bm:ay = af.length) (jj:cZ = cr.length) (jJ:dl = cD.length) (h0:Inn H R0 fun R=>ROs (ePair (eInt .i64) (ePair (eInt .i64) (ePair (eInt .i64) (ePair (eInt .i64) (eInt .i64))))) H R ⟨aF,ay,aG⟩ af∧ROs (ePair (eInt .i64) (eInt .i64)) H R ⟨eo,cZ,ep⟩ cr∧ROs (ePair (eInt .i64) (eInt .i64)) H R ⟨fD,dl,fE⟩ cD) {r:Int×Int×List Int} (hp:ag.p F af cr cD aV = some r):∃ v H',ag.tw F ⟨aF,ay,aG⟩ ab ⟨eo,cZ,ep⟩ ⟨fD,dl,fE⟩ aV H = some (v,H')∧ag.Q H R0 R0  r v H':=by
 obtain ⟨w0,aS,gx,hL⟩:=h0
 subst bm
 subst jj
 subst jJ
 unfold ag.p at hp
 unfold ag.tw ag.twX
 have s0:=w0.rf
 refine new_k w0 fun H1 w1 s1=>?_
 refine new_k w1 fun H2 w2 s2=>?_
 refine new_k w2 fun H3 w3 s3=>?_
 refine bind_ex (ldSl_of (w3.ld (i:=2) rfl rfl)) ?_
 refine bind_ex (ldI_of (w3.ld (i:=2) rfl rfl)) ?_
 refine bind_ex (ldSl_of (w3.ld (i:=1) rfl rfl)) ?_
 refine bind_ex (ldSl_of (w3.ld (i:=1) rfl rfl)) ?_
 obtain ⟨r4,e4,hp⟩:=bind_some' hp
 refine call_ex (av.P rfl rfl rfl ⟨w3,(aS.step (s1.trans (s2.trans s3))),(gx.step (s1.trans (s2.trans s3))),(hL.step (s1.trans (s2.trans s3)))⟩ e4) ?_
 rintro _ H5 ⟨o0a_5,o0n_5,o0c_5,o0k_5,rfl,rfl,w5,s5,f5_0⟩
 refine bind_ex rfl ?_
 refine ifs_ex (W.cons_of (Rn:=[_]) w3 w5 s5) ?_
 refine bind_ex (ldSl_of (w5.ld (i:=3) rfl rfl)) ?_
 refine bind_ex (ldI_of (w5.ld (i:=3) rfl rfl)) ?_
 refine bind_ex (ldSl_of (w5.ld (i:=2) rfl rfl)) ?_
 refine bind_ex (ldSl_of (w5.ld (i:=2) rfl rfl)) ?_
 obtain ⟨r7,e7,hp⟩:=bind_some' hp
 refine call_ex (aj.P rfl rfl rfl ⟨w5,(aS.step (s1.trans (s2.trans (s3.trans s5)))),(gx.step (s1.trans (s2.trans (s3.trans s5)))),(hL.step (s1.trans (s2.trans (s3.trans s5))))⟩ e7) ?_
 rintro _ H8 ⟨o0a_8,o0n_8,o0c_8,o0k_8,rfl,rfl,w8,s8,f8_0⟩
 refine bind_ex rfl ?_
 obtain ⟨l9,e9,hp⟩:=bind_some' hp
 refine mk_k (eInt .i64) (0:Int) w8 rfl rfl rfl e9 fun H10 k10 w10 s10 c10=>?_
 obtain ⟨w11,s11⟩:=w10.nilS (eInt .i64).z (by decide)
 obtain ⟨w12,s12⟩:=w11.pick' [6,5,0,4,3,1,2] 7 rfl rfl rfl
 dsimp only [pk,pks,nth,List.drop] at w12 s12
 exact ag.l125_P F rfl rfl rfl rfl rfl rfl rfl ⟨w12,(s0.trans (s1.trans (s2.trans (s3.trans (s5.trans (s8.trans (s10.trans (s11.trans s12)))))))),(aS.step (s1.trans (s2.trans (s3.trans (s5.trans (s8.trans (s10.trans (s11.trans s12)))))))),(gx.step (s1.trans (s2.trans (s3.trans (s5.trans (s8.trans (s10.trans (s11.trans s12)))))))),(hL.step (s1.trans (s2.trans (s3.trans (s5.trans (s8.trans (s10.trans (s11.trans s12)))))))),((CR.empty:CR (eInt .i64) _ _ [] []).step s12),(f5_0.step (s8.trans (s10.trans (s11.trans s12)))),(c10.step (s11.trans s12)),(f8_0.step (s10.trans (s11.trans s12)))⟩ hp
def ae.Q (H0:Hp) (Ri R0:List Rs) (iq:ON) (eG:Nat) (ir:Cap) (mc:Bool) (md mf:List AV) (r:Int×List Int) (v:AV) (H':Hp):Prop:=∃ xc:List AV,v = (.int .i64 r.1)∧eG = (r.2).length∧Out H0 Ri H' (Rs.ow mc ⟨iq,eG,ir⟩ (eInt .i64).z md xc mf :: R0) fun R=>CR (eInt .i64) H' R xc (r.2)
def ae.S29 (H0:Hp) (Ri R0:List Rs) (bs:ON) (aZ:Nat) (bt:Cap) (bM:Bool) (bN bO:List AV) (C:Nat→Nat→Int→Int→Int→Int→Hp→OA) (pC:Int→Int→List Int→Int→Int→Int→Int→Option (Int×List Int)):Prop:=∀ {uc jZ bp cI io gu:Int} {pv:List Int} {HF:List AV} {cu:Nat},∀ {H:Hp},aZ = pv.length→(Out H0 Ri H (Rs.ow bM ⟨bs,aZ,bt⟩ (eInt .i64).z bN HF bO :: Rs.blk cu [.int .i64 uc,.int .i64 jZ,.sl ⟨bs,aZ,bt⟩] :: R0) fun R=>CR (eInt .i64) H R HF pv)→∀ {r:Int×List Int},pC uc jZ pv bp cI io gu = some r→∃ v H',C cu 0 bp cI io gu H = some (v,H')∧ae.Q H0 Ri R0 bs aZ bt bM bN bO r v H'
def ae.S3766 (H0:Hp) (Ri R0:List Rs) (bs:ON) (aZ:Nat) (bt:Cap) (bM:Bool) (bN bO:List AV) (C:Nat→Nat→Int→Int→Int→Int→Int→Int→Hp→OA) (pC:Int→Int→List Int→Int→Int→Int→Int→Int→Int→Option (Int×List Int)):Prop:=∀ {nU nV eE e_ gP hI eF ei:Int} {mp:List Int} {HG:List AV} {eh:Nat},∀ {H:Hp},aZ = mp.length→(Out H0 Ri H (Rs.ow bM ⟨bs,aZ,bt⟩ (eInt .i64).z bN HG bO :: Rs.blk eh [.int .i64 nU,.int .i64 nV,.sl ⟨bs,aZ,bt⟩] :: R0) fun R=>CR (eInt .i64) H R HG mp)→∀ {r:Int×List Int},pC nU nV mp eE e_ gP hI eF ei = some r→∃ v H',C eh 0 eE e_ gP hI eF ei H = some (v,H')∧ae.Q H0 Ri R0 bs aZ bt bM bN bO r v H'
def ae.S241131 (H0:Hp) (Ri R0:List Rs) (bs:ON) (aZ:Nat) (bt:Cap) (bM:Bool) (bN bO:List AV) (C:Nat→Nat→Int→Int→Int→Int→Int→Int→Int→Int→Hp→OA) (pC:Int→Int→List Int→Int→Int→Int→Int→Int→Int→Int→Int→Option (Int×List Int)):Prop:=∀ {qh nW eC eZ gN hH eD gp im gq:Int} {lf:List Int} {HH:List AV} {dw:Nat},∀ {H:Hp},aZ = lf.length→(Out H0 Ri H (Rs.ow bM ⟨bs,aZ,bt⟩ (eInt .i64).z bN HH bO :: Rs.blk dw [.int .i64 qh,.int .i64 nW,.sl ⟨bs,aZ,bt⟩] :: R0) fun R=>CR (eInt .i64) H R HH lf)→∀ {r:Int×List Int},pC qh nW lf eC eZ gN hH eD gp im gq = some r→∃ v H',C dw 0 eC eZ gN hH eD gp im gq H = some (v,H')∧ae.Q H0 Ri R0 bs aZ bt bM bN bO r v H'
def ae.S60285 (H0:Hp) (Ri R0:List Rs) (bs:ON) (aZ:Nat) (bt:Cap) (bM:Bool) (bN bO:List AV) (C:Nat→Nat→Int→Int→Int→Int→Int→Int→Hp→OA) (pC:Int→Int→List Int→Int→Int→Int→Int→Int→Int→Option (Int×List Int)):Prop:=∀ {pw qi fB hC il iO fC hG:Int} {px:List Int} {HI:List AV} {gn:Nat},∀ {H:Hp},aZ = px.length→(Out H0 Ri H (Rs.ow bM ⟨bs,aZ,bt⟩ (eInt .i64).z bN HI bO :: Rs.blk gn [.int .i64 pw,.int .i64 qi,.sl ⟨bs,aZ,bt⟩] :: R0) fun R=>CR (eInt .i64) H R HI px)→∀ {r:Int×List Int},pC pw qi px fB hC il iO fC hG = some r→∃ v H',C gn 0 fB hC il iO fC hG H = some (v,H')∧ae.Q H0 Ri R0 bs aZ bt bM bN bO r v H'
def ae.S964565 (H0:Hp) (Ri R0:List Rs) (bs:ON) (aZ:Nat) (bt:Cap) (bM:Bool) (bN bO:List AV) (C:Nat→Nat→Int→Int→Int→Int→Int→Int→Int→Hp→OA) (pC:Int→Int→List Int→Int→Int→Int→Int→Int→Int→Int→Option (Int×List Int)):Prop:=∀ {qj kH eX dY ik iM dt dZ eg:Int} {jk:List Int} {HJ:List AV} {cS:Nat},∀ {H:Hp},aZ = jk.length→(Out H0 Ri H (Rs.ow bM ⟨bs,aZ,bt⟩ (eInt .i64).z bN HJ bO :: Rs.blk cS [.int .i64 qj,.int .i64 kH,.sl ⟨bs,aZ,bt⟩] :: R0) fun R=>CR (eInt .i64) H R HJ jk)→∀ {r:Int×List Int},pC qj kH jk eX dY ik iM dt dZ eg = some r→∃ v H',C cS 0 eX dY ik iM dt dZ eg H = some (v,H')∧ae.Q H0 Ri R0 bs aZ bt bM bN bO r v H'
def ae.pj16 (F:Nat) (jK:Int→Int→List Int→Int→Int→Int→Int→Int→Int→Option (Int×List Int)) (HK:Int) (HL:Int) (zO:List Int) (sT:Int) (sU:Int) (sV:Int) (sW:Int) (sX:Int) (sY:Int):Option (Int×List Int):=jK HK HL zO sT sU sX sY sV (IntKind.i64.wrap (sW + 1))
theorem ae.j16_P {F:Nat} {H0:Hp} {Ri R0:List Rs} {bs:ON} {aZ:Nat} {bt:Cap} {bM:Bool} {bN bO:List AV} {C60285_:Nat→Nat→Int→Int→Int→Int→Int→Int→Hp→OA} {jK:Int→Int→List Int→Int→Int→Int→Int→Int→Int→Option (Int×List Int)} (hC60285:ae.S60285 H0 Ri R0 bs aZ bt bM bN bO C60285_ jK) {HK HL sT sU sV sW sX sY:Int} {zO:List Int} {aaZ:List AV} {AT:Nat} {H:Hp} (ajW:aZ = zO.length) (h0:Out H0 Ri H (Rs.ow bM ⟨bs,aZ,bt⟩ (eInt .i64).z bN aaZ bO :: Rs.blk AT [.int .i64 HK,.int .i64 HL,.sl ⟨bs,aZ,bt⟩] :: R0) fun R=>CR (eInt .i64) H R aaZ zO) {r:Int×List Int} (hp:ae.pj16 F jK HK HL zO sT sU sV sW sX sY = some r):∃ v H',ae.j16 F (ba.tw F) C60285_ AT 0 sT sU sV sW sX sY H = some (v,H')∧ae.Q H0 Ri R0 bs aZ bt bM bN bO r v H':=by
 obtain ⟨w0,s0,ajX⟩:=h0
 subst ajW
 unfold ae.pj16 at hp
 unfold ae.j16
 exact hC60285 rfl ⟨w0,s0,ajX⟩ hp
def ae.pj17 (F:Nat) (jK:Int→Int→List Int→Int→Int→Int→Int→Int→Int→Option (Int×List Int)) (HM:Int) (HN:Int) (zP:List Int) (sZ:Int) (s_:Int) (tc:Int) (td:Int) (te:Int) (tf:Int):Option (Int×List Int):=ae.pj16 F jK HM HN zP sZ s_ tc td te tf
theorem ae.j17_P {F:Nat} {H0:Hp} {Ri R0:List Rs} {bs:ON} {aZ:Nat} {bt:Cap} {bM:Bool} {bN bO:List AV} {C60285_:Nat→Nat→Int→Int→Int→Int→Int→Int→Hp→OA} {jK:Int→Int→List Int→Int→Int→Int→Int→Int→Int→Option (Int×List Int)} (hC60285:ae.S60285 H0 Ri R0 bs aZ bt bM bN bO C60285_ jK) {HM HN sZ s_ tc td te tf:Int} {zP:List Int} {aa0:List AV} {AU:Nat} {H:Hp} (ajY:aZ = zP.length) (h0:Out H0 Ri H (Rs.ow bM ⟨bs,aZ,bt⟩ (eInt .i64).z bN aa0 bO :: Rs.blk AU [.int .i64 HM,.int .i64 HN,.sl ⟨bs,aZ,bt⟩] :: R0) fun R=>CR (eInt .i64) H R aa0 zP) {r:Int×List Int} (hp:ae.pj17 F jK HM HN zP sZ s_ tc td te tf = some r):∃ v H',ae.j17 F (ba.tw F) C60285_ AU 0 sZ s_ tc td te tf H = some (v,H')∧ae.Q H0 Ri R0 bs aZ bt bM bN bO r v H':=by
 obtain ⟨w0,s0,ajZ⟩:=h0
 subst ajY
 unfold ae.pj17 at hp
 unfold ae.j17
 exact ae.j16_P (@hC60285) rfl ⟨w0,s0,ajZ⟩ hp
def ae.pl964565 (F:Nat) (bH:Int→Int→List Int→Int→Int→Int→Int→Option (Int×List Int)) (jK:Int→Int→List Int→Int→Int→Int→Int→Int→Int→Option (Int×List Int)):Nat→Int→Int→List Int→Int→Int→Int→Int→Int→Int→Int→Option (Int×List Int)
 | 0,_,_,_,_,_,_,_,_,_,_=>none
 | k + 1,qj,kH,jk,eX,dY,ik,iM,dt,dZ,eg=>(bif (decide (eg < kH)) then ((ix jk (IntKind.i64.wrap ((IntKind.i64.wrap (dZ * kH)) + eg))).bind fun n2=>(ix jk (IntKind.i64.wrap ((IntKind.i64.wrap (dZ * kH)) + eg))).bind fun n5=>(ix jk (IntKind.i64.wrap ((IntKind.i64.wrap (dt * kH)) + dt))).bind fun n8=>(ix jk (IntKind.i64.wrap ((IntKind.i64.wrap (dZ * kH)) + dt))).bind fun n11=>(ix jk (IntKind.i64.wrap ((IntKind.i64.wrap (dt * kH)) + eg))).bind fun n14=>(if dY = 0 then none else ((some (jk.set n2 (IntKind.i64.wrap (Int.tdiv (IntKind.i64.wrap ((IntKind.i64.wrap ((gt jk n5) * (gt jk n8))) - (IntKind.i64.wrap ((gt jk n11) * (gt jk n14))))) dY)))).bind fun l17=>ae.pl964565 F bH jK k qj kH l17 eX dY ik iM dt dZ (IntKind.i64.wrap (eg + 1))))) else (ae.pj17 F jK qj kH jk eX dY dt dZ ik iM))
termination_by structural n=>n
theorem ae.l964565_P {F:Nat} {H0:Hp} {Ri R0:List Rs} {bs:ON} {aZ:Nat} {bt:Cap} {bM:Bool} {bN bO:List AV} {C29_:Nat→Nat→Int→Int→Int→Int→Hp→OA} {bH:Int→Int→List Int→Int→Int→Int→Int→Option (Int×List Int)} (hC29:ae.S29 H0 Ri R0 bs aZ bt bM bN bO C29_ bH) {C60285_:Nat→Nat→Int→Int→Int→Int→Int→Int→Hp→OA} {jK:Int→Int→List Int→Int→Int→Int→Int→Int→Int→Option (Int×List Int)} (hC60285:ae.S60285 H0 Ri R0 bs aZ bt bM bN bO C60285_ jK):∀ k,ae.S964565 H0 Ri R0 bs aZ bt bM bN bO (ae.l964565 F (ba.tw F) C29_ C60285_ k) (ae.pl964565 F bH jK k):=by
 intro k
 induction k with
 | zero=>
  intro qj kH eX dY ik iM dt dZ eg jk HJ cS H aa1 h0 r hp
  exact nomatch (show (none:Option (Int×List Int)) = some r from hp)
 | succ k ih=>
  intro qj kH eX dY ik iM dt dZ eg jk HJ cS H aa1 h0 r hp
  obtain ⟨w0,s0,qk⟩:=h0
  subst aa1
  unfold ae.pl964565 at hp
  unfold ae.l964565
  refine bind_ex (ldI_of (w0.ld (i:=1) rfl rfl)) ?_
  refine bif_ex (fun hb=>?_) (fun hb=>?_)
  ·replace hp:=bif_t hb hp
   refine bind_ex (ldI_of (w0.ld (i:=1) rfl rfl)) ?_
   refine bind_ex (ldI_of (w0.ld (i:=1) rfl rfl)) ?_
   refine bind_ex (ldSl_of (w0.ld (i:=1) rfl rfl)) ?_
   refine ba.inl ?_
   refine new_k w0 fun H1 w1 s1=>?_
   refine bind_ex (ldSl_of (w1.ld (i:=0) rfl rfl)) ?_
   refine bind_ex (ldI_of (w1.ld (i:=0) rfl rfl)) ?_
   obtain ⟨n2,g2,hp⟩:=bind_some' hp
   obtain ⟨p2,q2,i2,h2,j2⟩:=W.ixo (E:=(eInt .i64)) w1 (i:=1) rfl rfl (qk.step s1) g2
   refine bind_ex i2 ?_
   refine ⟨_,_,rfl,?_⟩
   refine bind_ex rfl ?_
   refine ifs_ex (W.cons_of (Rn:=[_]) w0 w1 s1) ?_
   refine bind_ex (ldI_of (w1.ld (i:=2) rfl rfl)) ?_
   refine bind_ex (ldI_of (w1.ld (i:=2) rfl rfl)) ?_
   refine bind_ex (ldSl_of (w1.ld (i:=2) rfl rfl)) ?_
   refine ba.inl ?_
   refine new_k w1 fun H4 w4 s4=>?_
   refine bind_ex (ldSl_of (w4.ld (i:=0) rfl rfl)) ?_
   refine bind_ex (ldI_of (w4.ld (i:=0) rfl rfl)) ?_
   obtain ⟨n5,g5,hp⟩:=bind_some' hp
   obtain ⟨p5,q5,i5,h5,j5⟩:=W.ixo (E:=(eInt .i64)) w4 (i:=2) rfl rfl (qk.step (s1.trans s4)) g5
   refine bind_ex i5 ?_
   refine ⟨_,_,rfl,?_⟩
   refine bind_ex rfl ?_
   refine ifs_ex (W.cons_of (Rn:=[_]) w1 w4 s4) ?_
   have h5:_ = [_]:=h5
   subst h5
   refine bind_ex (ldI_of (j5 0 _ rfl)) ?_
   refine bind_ex (ldI_of (w4.ld (i:=3) rfl rfl)) ?_
   refine bind_ex (ldI_of (w4.ld (i:=3) rfl rfl)) ?_
   refine bind_ex (ldSl_of (w4.ld (i:=3) rfl rfl)) ?_
   refine ba.inl ?_
   refine new_k w4 fun H7 w7 s7=>?_
   refine bind_ex (ldSl_of (w7.ld (i:=0) rfl rfl)) ?_
   refine bind_ex (ldI_of (w7.ld (i:=0) rfl rfl)) ?_
   obtain ⟨n8,g8,hp⟩:=bind_some' hp
   obtain ⟨p8,q8,i8,h8,j8⟩:=W.ixo (E:=(eInt .i64)) w7 (i:=3) rfl rfl (qk.step (s1.trans (s4.trans s7))) g8
   refine bind_ex i8 ?_
   refine ⟨_,_,rfl,?_⟩
   refine bind_ex rfl ?_
   refine ifs_ex (W.cons_of (Rn:=[_]) w4 w7 s7) ?_
   have h8:_ = [_]:=h8
   subst h8
   refine bind_ex (ldI_of (j8 0 _ rfl)) ?_
   refine bind_ex (ldI_of (w7.ld (i:=4) rfl rfl)) ?_
   refine bind_ex (ldI_of (w7.ld (i:=4) rfl rfl)) ?_
   refine bind_ex (ldSl_of (w7.ld (i:=4) rfl rfl)) ?_
   refine ba.inl ?_
   refine new_k w7 fun H10 w10 s10=>?_
   refine bind_ex (ldSl_of (w10.ld (i:=0) rfl rfl)) ?_
   refine bind_ex (ldI_of (w10.ld (i:=0) rfl rfl)) ?_
   obtain ⟨n11,g11,hp⟩:=bind_some' hp
   obtain ⟨p11,q11,i11,h11,j11⟩:=W.ixo (E:=(eInt .i64)) w10 (i:=4) rfl rfl (qk.step (s1.trans (s4.trans (s7.trans s10)))) g11
   refine bind_ex i11 ?_
   refine ⟨_,_,rfl,?_⟩
   refine bind_ex rfl ?_
   refine ifs_ex (W.cons_of (Rn:=[_]) w7 w10 s10) ?_
   have h11:_ = [_]:=h11
   subst h11
   refine bind_ex (ldI_of (j11 0 _ rfl)) ?_
   refine bind_ex (ldI_of (w10.ld (i:=5) rfl rfl)) ?_
   refine bind_ex (ldI_of (w10.ld (i:=5) rfl rfl)) ?_
   refine bind_ex (ldSl_of (w10.ld (i:=5) rfl rfl)) ?_
   refine ba.inl ?_
   refine new_k w10 fun H13 w13 s13=>?_
   refine bind_ex (ldSl_of (w13.ld (i:=0) rfl rfl)) ?_
   refine bind_ex (ldI_of (w13.ld (i:=0) rfl rfl)) ?_
   obtain ⟨n14,g14,hp⟩:=bind_some' hp
   obtain ⟨p14,q14,i14,h14,j14⟩:=W.ixo (E:=(eInt .i64)) w13 (i:=5) rfl rfl (qk.step (s1.trans (s4.trans (s7.trans (s10.trans s13))))) g14
   refine bind_ex i14 ?_
   refine ⟨_,_,rfl,?_⟩
   refine bind_ex rfl ?_
   refine ifs_ex (W.cons_of (Rn:=[_]) w10 w13 s13) ?_
   have h14:_ = [_]:=h14
   subst h14
   refine bind_ex (ldI_of (j14 0 _ rfl)) ?_
   obtain ⟨g16,hp⟩:=ifn_p hp
   refine ifn_ex g16 ?_
   obtain ⟨l17,e17,hp⟩:=bind_some' hp
   refine sto_k (eInt .i64) w13 (i:=5) (j:=0) (p:=p2) rfl rfl (qk.step (s1.trans (s4.trans (s7.trans (s10.trans s13))))) g2 i2 e17 rfl rfl (fun _ h=>by have h:_ = [_]:=h; subst h; exact rfl) fun H18 k18 w18 s18 c18=>?_
   dsimp only [List.set] at w18 s18 c18
   obtain ⟨w19,s19⟩:=w18.pick' [5,6] 7 rfl rfl rfl
   dsimp only [pk,pks,nth,List.drop] at w19 s19
   exact ih ((st_len e17).symm) ⟨w19,(s0.trans (s1.trans (s4.trans (s7.trans (s10.trans (s13.trans (s18.trans s19))))))),(c18.step s19)⟩ hp
  ·replace hp:=bif_f hb hp
   exact ae.j17_P (@hC60285) rfl ⟨w0,s0,qk⟩ hp
def ae.pj14 (F:Nat) (bH:Int→Int→List Int→Int→Int→Int→Int→Option (Int×List Int)) (HO:Int) (HP:Int) (zQ:List Int) (sJ:Int) (sK:Int) (sL:Int) (sM:Int):Option (Int×List Int):=bH HO HP zQ sJ sK sL (IntKind.i64.wrap (sM + 1))
theorem ae.j14_P {F:Nat} {H0:Hp} {Ri R0:List Rs} {bs:ON} {aZ:Nat} {bt:Cap} {bM:Bool} {bN bO:List AV} {C29_:Nat→Nat→Int→Int→Int→Int→Hp→OA} {bH:Int→Int→List Int→Int→Int→Int→Int→Option (Int×List Int)} (hC29:ae.S29 H0 Ri R0 bs aZ bt bM bN bO C29_ bH) {HO HP sJ sK sL sM:Int} {zQ:List Int} {aa2:List AV} {AR:Nat} {H:Hp} (aj0:aZ = zQ.length) (h0:Out H0 Ri H (Rs.ow bM ⟨bs,aZ,bt⟩ (eInt .i64).z bN aa2 bO :: Rs.blk AR [.int .i64 HO,.int .i64 HP,.sl ⟨bs,aZ,bt⟩] :: R0) fun R=>CR (eInt .i64) H R aa2 zQ) {r:Int×List Int} (hp:ae.pj14 F bH HO HP zQ sJ sK sL sM = some r):∃ v H',ae.j14 F (ba.tw F) C29_ AR 0 sJ sK sL sM H = some (v,H')∧ae.Q H0 Ri R0 bs aZ bt bM bN bO r v H':=by
 obtain ⟨w0,s0,aj1⟩:=h0
 subst aj0
 unfold ae.pj14 at hp
 unfold ae.j14
 exact hC29 rfl ⟨w0,s0,aj1⟩ hp
def ae.pj15 (F:Nat) (bH:Int→Int→List Int→Int→Int→Int→Int→Option (Int×List Int)) (HQ:Int) (zR:Int) (ql:List Int) (sO:Int) (oy:Int) (sQ:Int) (sS:Int):Option (Int×List Int):=(ix ql (IntKind.i64.wrap ((IntKind.i64.wrap (oy * zR)) + oy))).bind fun n2=>ae.pj14 F bH HQ zR ql sO (gt ql n2) sQ sS
theorem ae.j15_P {F:Nat} {H0:Hp} {Ri R0:List Rs} {bs:ON} {aZ:Nat} {bt:Cap} {bM:Bool} {bN bO:List AV} {C29_:Nat→Nat→Int→Int→Int→Int→Hp→OA} {bH:Int→Int→List Int→Int→Int→Int→Int→Option (Int×List Int)} (hC29:ae.S29 H0 Ri R0 bs aZ bt bM bN bO C29_ bH) {HQ zR sO oy sQ sS:Int} {ql:List Int} {aa3:List AV} {pD:Nat} {H:Hp} (aj2:aZ = ql.length) (h0:Out H0 Ri H (Rs.ow bM ⟨bs,aZ,bt⟩ (eInt .i64).z bN aa3 bO :: Rs.blk pD [.int .i64 HQ,.int .i64 zR,.sl ⟨bs,aZ,bt⟩] :: R0) fun R=>CR (eInt .i64) H R aa3 ql) {r:Int×List Int} (hp:ae.pj15 F bH HQ zR ql sO oy sQ sS = some r):∃ v H',ae.j15 F (ba.tw F) C29_ pD 0 sO oy sQ sS H = some (v,H')∧ae.Q H0 Ri R0 bs aZ bt bM bN bO r v H':=by
 obtain ⟨w0,s0,aa4⟩:=h0
 subst aj2
 unfold ae.pj15 at hp
 unfold ae.j15
 refine bind_ex (ldI_of (w0.ld (i:=1) rfl rfl)) ?_
 refine bind_ex (ldI_of (w0.ld (i:=1) rfl rfl)) ?_
 refine bind_ex (ldSl_of (w0.ld (i:=1) rfl rfl)) ?_
 refine ba.inl ?_
 refine new_k w0 fun H1 w1 s1=>?_
 refine bind_ex (ldSl_of (w1.ld (i:=0) rfl rfl)) ?_
 refine bind_ex (ldI_of (w1.ld (i:=0) rfl rfl)) ?_
 obtain ⟨n2,g2,hp⟩:=bind_some' hp
 obtain ⟨p2,q2,i2,h2,j2⟩:=W.ixo (E:=(eInt .i64)) w1 (i:=1) rfl rfl (aa4.step s1) g2
 refine bind_ex i2 ?_
 refine ⟨_,_,rfl,?_⟩
 refine bind_ex rfl ?_
 have h2:_ = [_]:=h2
 subst h2
 refine bind_ex (ldI_of (j2 0 _ rfl)) ?_
 obtain ⟨w3,s3⟩:=w1.pick' [1,2] 3 rfl rfl rfl
 dsimp only [pk,pks,nth,List.drop] at w3 s3
 exact ae.j14_P (@hC29) rfl ⟨w3,(s0.trans (s1.trans s3)),(aa4.step (s1.trans s3))⟩ hp
def ae.pl60285 (F:Nat) (bH:Int→Int→List Int→Int→Int→Int→Int→Option (Int×List Int)):Nat→Int→Int→List Int→Int→Int→Int→Int→Int→Int→Option (Int×List Int)
 | 0,_,_,_,_,_,_,_,_,_=>none
 | k + 1,pw,qi,px,fB,hC,il,iO,fC,hG=>(bif (decide (hG < pw)) then (ae.pl964565 F bH (ae.pl60285 F bH k) F pw qi px fB hC il iO fC hG (IntKind.i64.wrap (fC + 1))) else (ae.pj15 F bH pw qi px fB fC il iO))
termination_by structural n=>n
theorem ae.l60285_P {F:Nat} {H0:Hp} {Ri R0:List Rs} {bs:ON} {aZ:Nat} {bt:Cap} {bM:Bool} {bN bO:List AV} {C29_:Nat→Nat→Int→Int→Int→Int→Hp→OA} {bH:Int→Int→List Int→Int→Int→Int→Int→Option (Int×List Int)} (hC29:ae.S29 H0 Ri R0 bs aZ bt bM bN bO C29_ bH):∀ k,ae.S60285 H0 Ri R0 bs aZ bt bM bN bO (ae.l60285 F (ba.tw F) C29_ k) (ae.pl60285 F bH k):=by
 intro k
 induction k with
 | zero=>
  intro pw qi fB hC il iO fC hG px HI gn H aa5 h0 r hp
  exact nomatch (show (none:Option (Int×List Int)) = some r from hp)
 | succ k ih=>
  intro pw qi fB hC il iO fC hG px HI gn H aa5 h0 r hp
  obtain ⟨w0,s0,aa6⟩:=h0
  subst aa5
  unfold ae.pl60285 at hp
  unfold ae.l60285
  refine bind_ex (ldI_of (w0.ld (i:=1) rfl rfl)) ?_
  refine bif_ex (fun hb=>?_) (fun hb=>?_)
  ·replace hp:=bif_t hb hp
   exact ae.l964565_P (@hC29) (@ih) F rfl ⟨w0,s0,aa6⟩ hp
  ·replace hp:=bif_f hb hp
   exact ae.j15_P (@hC29) rfl ⟨w0,s0,aa6⟩ hp
def ae.pj18 (F:Nat) (bH:Int→Int→List Int→Int→Int→Int→Int→Option (Int×List Int)) (HR:Int) (HS:Int) (zS:List Int) (tg:Int) (th:Int) (oz:Int) (ti:Int) (tj:Int):Option (Int×List Int):=ae.pl60285 F bH F HR HS zS tg th ti tj oz (IntKind.i64.wrap (oz + 1))
theorem ae.j18_P {F:Nat} {H0:Hp} {Ri R0:List Rs} {bs:ON} {aZ:Nat} {bt:Cap} {bM:Bool} {bN bO:List AV} {C29_:Nat→Nat→Int→Int→Int→Int→Hp→OA} {bH:Int→Int→List Int→Int→Int→Int→Int→Option (Int×List Int)} (hC29:ae.S29 H0 Ri R0 bs aZ bt bM bN bO C29_ bH) {HR HS tg th oz ti tj:Int} {zS:List Int} {aa7:List AV} {AW:Nat} {H:Hp} (aj3:aZ = zS.length) (h0:Out H0 Ri H (Rs.ow bM ⟨bs,aZ,bt⟩ (eInt .i64).z bN aa7 bO :: Rs.blk AW [.int .i64 HR,.int .i64 HS,.sl ⟨bs,aZ,bt⟩] :: R0) fun R=>CR (eInt .i64) H R aa7 zS) {r:Int×List Int} (hp:ae.pj18 F bH HR HS zS tg th oz ti tj = some r):∃ v H',ae.j18 F (ba.tw F) C29_ AW 0 tg th oz ti tj H = some (v,H')∧ae.Q H0 Ri R0 bs aZ bt bM bN bO r v H':=by
 obtain ⟨w0,s0,aj4⟩:=h0
 subst aj3
 unfold ae.pj18 at hp
 unfold ae.j18
 exact ae.l60285_P (@hC29) F rfl ⟨w0,s0,aj4⟩ hp
def ae.pj19 (F:Nat) (bH:Int→Int→List Int→Int→Int→Int→Int→Option (Int×List Int)) (HT:Int) (HU:Int) (zT:List Int) (tk:Int) (tp:Int) (tq:Int) (ts:Int) (tt:Int):Option (Int×List Int):=ae.pj18 F bH HT HU zT tk tp tq ts tt
theorem ae.j19_P {F:Nat} {H0:Hp} {Ri R0:List Rs} {bs:ON} {aZ:Nat} {bt:Cap} {bM:Bool} {bN bO:List AV} {C29_:Nat→Nat→Int→Int→Int→Int→Hp→OA} {bH:Int→Int→List Int→Int→Int→Int→Int→Option (Int×List Int)} (hC29:ae.S29 H0 Ri R0 bs aZ bt bM bN bO C29_ bH) {HT HU tk tp tq ts tt:Int} {zT:List Int} {aa8:List AV} {AX:Nat} {H:Hp} (aj5:aZ = zT.length) (h0:Out H0 Ri H (Rs.ow bM ⟨bs,aZ,bt⟩ (eInt .i64).z bN aa8 bO :: Rs.blk AX [.int .i64 HT,.int .i64 HU,.sl ⟨bs,aZ,bt⟩] :: R0) fun R=>CR (eInt .i64) H R aa8 zT) {r:Int×List Int} (hp:ae.pj19 F bH HT HU zT tk tp tq ts tt = some r):∃ v H',ae.j19 F (ba.tw F) C29_ AX 0 tk tp tq ts tt H = some (v,H')∧ae.Q H0 Ri R0 bs aZ bt bM bN bO r v H':=by
 obtain ⟨w0,s0,aj6⟩:=h0
 subst aj5
 unfold ae.pj19 at hp
 unfold ae.j19
 exact ae.j18_P (@hC29) rfl ⟨w0,s0,aj6⟩ hp
def ae.pl241131 (F:Nat) (bH:Int→Int→List Int→Int→Int→Int→Int→Option (Int×List Int)):Nat→Int→Int→List Int→Int→Int→Int→Int→Int→Int→Int→Int→Option (Int×List Int)
 | 0,_,_,_,_,_,_,_,_,_,_,_=>none
 | k + 1,qh,nW,lf,eC,eZ,gN,hH,eD,gp,im,gq=>(bif (decide (gq < im)) then ((ix lf (IntKind.i64.wrap ((IntKind.i64.wrap (eD * nW)) + gq))).bind fun n2=>(ix lf (IntKind.i64.wrap ((IntKind.i64.wrap (gp * nW)) + gq))).bind fun n5=>(some (lf.set n2 (gt lf n5))).bind fun l7=>(some (l7.set n5 (gt lf n2))).bind fun l9=>ae.pl241131 F bH k qh nW l9 eC eZ gN hH eD gp im (IntKind.i64.wrap (gq + 1))) else (ae.pj19 F bH qh nW lf eC eZ eD gN hH))
termination_by structural n=>n
theorem ae.l241131_P {F:Nat} {H0:Hp} {Ri R0:List Rs} {bs:ON} {aZ:Nat} {bt:Cap} {bM:Bool} {bN bO:List AV} {C29_:Nat→Nat→Int→Int→Int→Int→Hp→OA} {bH:Int→Int→List Int→Int→Int→Int→Int→Option (Int×List Int)} (hC29:ae.S29 H0 Ri R0 bs aZ bt bM bN bO C29_ bH):∀ k,ae.S241131 H0 Ri R0 bs aZ bt bM bN bO (ae.l241131 F (ba.tw F) C29_ k) (ae.pl241131 F bH k):=by
 intro k
 induction k with
 | zero=>
  intro qh nW eC eZ gN hH eD gp im gq lf HH dw H aa9 h0 r hp
  exact nomatch (show (none:Option (Int×List Int)) = some r from hp)
 | succ k ih=>
  intro qh nW eC eZ gN hH eD gp im gq lf HH dw H aa9 h0 r hp
  obtain ⟨w0,s0,zU⟩:=h0
  subst aa9
  unfold ae.pl241131 at hp
  unfold ae.l241131
  refine bif_ex (fun hb=>?_) (fun hb=>?_)
  ·replace hp:=bif_t hb hp
   refine bind_ex (ldI_of (w0.ld (i:=1) rfl rfl)) ?_
   refine bind_ex (ldI_of (w0.ld (i:=1) rfl rfl)) ?_
   refine bind_ex (ldSl_of (w0.ld (i:=1) rfl rfl)) ?_
   refine ba.inl ?_
   refine new_k w0 fun H1 w1 s1=>?_
   refine bind_ex (ldSl_of (w1.ld (i:=0) rfl rfl)) ?_
   refine bind_ex (ldI_of (w1.ld (i:=0) rfl rfl)) ?_
   obtain ⟨n2,g2,hp⟩:=bind_some' hp
   obtain ⟨p2,q2,i2,h2,j2⟩:=W.ixo (E:=(eInt .i64)) w1 (i:=1) rfl rfl (zU.step s1) g2
   refine bind_ex i2 ?_
   refine ⟨_,_,rfl,?_⟩
   refine bind_ex rfl ?_
   refine ifs_ex (W.cons_of (Rn:=[_]) w0 w1 s1) ?_
   refine bind_ex (ldI_of (w1.ld (i:=2) rfl rfl)) ?_
   refine bind_ex (ldI_of (w1.ld (i:=2) rfl rfl)) ?_
   refine bind_ex (ldSl_of (w1.ld (i:=2) rfl rfl)) ?_
   refine ba.inl ?_
   refine new_k w1 fun H4 w4 s4=>?_
   refine bind_ex (ldSl_of (w4.ld (i:=0) rfl rfl)) ?_
   refine bind_ex (ldI_of (w4.ld (i:=0) rfl rfl)) ?_
   obtain ⟨n5,g5,hp⟩:=bind_some' hp
   obtain ⟨p5,q5,i5,h5,j5⟩:=W.ixo (E:=(eInt .i64)) w4 (i:=2) rfl rfl (zU.step (s1.trans s4)) g5
   refine bind_ex i5 ?_
   refine ⟨_,_,rfl,?_⟩
   refine bind_ex rfl ?_
   have h5:_ = [_]:=h5
   subst h5
   refine bind_ex (ldI_of (j5 0 _ rfl)) ?_
   obtain ⟨p6,q6,i6,h6,j6⟩:=W.ixo (E:=(eInt .i64)) w4 (i:=2) rfl rfl (zU.step (s1.trans s4)) g2
   obtain rfl:=Option.some.inj (i2.symm.trans i6)
   have h6:_ = [_]:=h6
   subst h6
   refine bind_ex (ldI_of (j6 0 _ rfl)) ?_
   obtain ⟨l7,e7,hp⟩:=bind_some' hp
   refine sto_k (eInt .i64) w4 (i:=2) (j:=0) (p:=p2) rfl rfl (zU.step (s1.trans s4)) g2 i2 e7 rfl rfl (fun _ h=>by have h:_ = [_]:=h; subst h; exact rfl) fun H8 k8 w8 s8 c8=>?_
   dsimp only [List.set] at w8 s8 c8
   obtain ⟨l9,e9,hp⟩:=bind_some' hp
   refine sto_k (eInt .i64) w8 (i:=2) (j:=0) (p:=p5) rfl rfl c8 (ix_len g5 (st_len e7)) i5 e9 rfl rfl (fun _ h=>by have h:_ = [_]:=h; subst h; exact rfl) fun H10 k10 w10 s10 c10=>?_
   dsimp only [List.set] at w10 s10 c10
   obtain ⟨w11,s11⟩:=w10.pick' [2,3] 4 rfl rfl rfl
   dsimp only [pk,pks,nth,List.drop] at w11 s11
   exact ih ((st_len e7).symm.trans (st_len e9).symm) ⟨w11,(s0.trans (s1.trans (s4.trans (s8.trans (s10.trans s11))))),(c10.step s11)⟩ hp
  ·replace hp:=bif_f hb hp
   exact ae.j19_P (@hC29) rfl ⟨w0,s0,zU⟩ hp
def ae.pj20 (F:Nat) (bH:Int→Int→List Int→Int→Int→Int→Int→Option (Int×List Int)) (HV:Int) (HW:Int) (zV:List Int) (tu:Int) (tx:Int) (oA:Int) (tz:Int) (tB:Int):Option (Int×List Int):=ae.pl60285 F bH F HV HW zV tu tx tz tB oA (IntKind.i64.wrap (oA + 1))
theorem ae.j20_P {F:Nat} {H0:Hp} {Ri R0:List Rs} {bs:ON} {aZ:Nat} {bt:Cap} {bM:Bool} {bN bO:List AV} {C29_:Nat→Nat→Int→Int→Int→Int→Hp→OA} {bH:Int→Int→List Int→Int→Int→Int→Int→Option (Int×List Int)} (hC29:ae.S29 H0 Ri R0 bs aZ bt bM bN bO C29_ bH) {HV HW tu tx oA tz tB:Int} {zV:List Int} {aa_:List AV} {AY:Nat} {H:Hp} (aj7:aZ = zV.length) (h0:Out H0 Ri H (Rs.ow bM ⟨bs,aZ,bt⟩ (eInt .i64).z bN aa_ bO :: Rs.blk AY [.int .i64 HV,.int .i64 HW,.sl ⟨bs,aZ,bt⟩] :: R0) fun R=>CR (eInt .i64) H R aa_ zV) {r:Int×List Int} (hp:ae.pj20 F bH HV HW zV tu tx oA tz tB = some r):∃ v H',ae.j20 F (ba.tw F) C29_ AY 0 tu tx oA tz tB H = some (v,H')∧ae.Q H0 Ri R0 bs aZ bt bM bN bO r v H':=by
 obtain ⟨w0,s0,aj8⟩:=h0
 subst aj7
 unfold ae.pj20 at hp
 unfold ae.j20
 exact ae.l60285_P (@hC29) F rfl ⟨w0,s0,aj8⟩ hp
def ae.pj21 (F:Nat) (bH:Int→Int→List Int→Int→Int→Int→Int→Option (Int×List Int)) (ud:Int) (ue:Int) (qn:List Int) (oB:Int) (oC:Int) (mG:Int) (mH:Int) (oD:Int) (oE:Int):Option (Int×List Int):=(bif (mH == ud) then (some (0,qn)) else ((bif (mH != mG) then (ae.pl241131 F bH F ud ue qn (IntKind.i64.wrap (0 - oB)) oC oD oE mG mH ue 0) else (ae.pj20 F bH ud ue qn oB oC mG oD oE))))
theorem ae.j21_P {F:Nat} {H0:Hp} {Ri R0:List Rs} {bs:ON} {aZ:Nat} {bt:Cap} {bM:Bool} {bN bO:List AV} {C29_:Nat→Nat→Int→Int→Int→Int→Hp→OA} {bH:Int→Int→List Int→Int→Int→Int→Int→Option (Int×List Int)} (hC29:ae.S29 H0 Ri R0 bs aZ bt bM bN bO C29_ bH) {ud ue oB oC mG mH oD oE:Int} {qn:List Int} {aba:List AV} {pE:Nat} {H:Hp} (aj9:aZ = qn.length) (h0:Out H0 Ri H (Rs.ow bM ⟨bs,aZ,bt⟩ (eInt .i64).z bN aba bO :: Rs.blk pE [.int .i64 ud,.int .i64 ue,.sl ⟨bs,aZ,bt⟩] :: R0) fun R=>CR (eInt .i64) H R aba qn) {r:Int×List Int} (hp:ae.pj21 F bH ud ue qn oB oC mG mH oD oE = some r):∃ v H',ae.j21 F (ba.tw F) C29_ pE 0 oB oC mG mH oD oE H = some (v,H')∧ae.Q H0 Ri R0 bs aZ bt bM bN bO r v H':=by
 obtain ⟨w0,s0,Nr⟩:=h0
 subst aj9
 unfold ae.pj21 at hp
 unfold ae.j21
 refine bind_ex (ldI_of (w0.ld (i:=1) rfl rfl)) ?_
 refine bif_ex (fun hb=>?_) (fun hb=>?_)
 ·replace hp:=bif_t hb hp
  obtain ⟨w1,s1⟩:=w0.pick' [0] 2 rfl rfl rfl
  dsimp only [pk,pks,nth,List.drop] at w1 s1
  obtain rfl:=Option.some.inj hp
  exact ⟨_,_,rfl,_,rfl,rfl,w1,(s0.trans s1),(Nr.step s1)⟩
 ·replace hp:=bif_f hb hp
  refine bif_ex (fun hb=>?_) (fun hb=>?_)
  ·replace hp:=bif_t hb hp
   refine bind_ex (ldI_of (w0.ld (i:=1) rfl rfl)) ?_
   exact ae.l241131_P (@hC29) F rfl ⟨w0,s0,Nr⟩ hp
  ·replace hp:=bif_f hb hp
   exact ae.j20_P (@hC29) rfl ⟨w0,s0,Nr⟩ hp
def ae.pl3766 (F:Nat) (bH:Int→Int→List Int→Int→Int→Int→Int→Option (Int×List Int)):Nat→Int→Int→List Int→Int→Int→Int→Int→Int→Int→Option (Int×List Int)
 | 0,_,_,_,_,_,_,_,_,_=>none
 | k + 1,nU,nV,mp,eE,e_,gP,hI,eF,ei=>(bif (decide (ei < nU)) then ((ix mp (IntKind.i64.wrap ((IntKind.i64.wrap (ei * nV)) + eF))).bind fun n2=>(bif ((gt mp n2) == 0) then (ae.pl3766 F bH k nU nV mp eE e_ gP hI eF (IntKind.i64.wrap (ei + 1))) else (ae.pj21 F bH nU nV mp eE e_ eF ei gP hI))) else (ae.pj21 F bH nU nV mp eE e_ eF ei gP hI))
termination_by structural n=>n
theorem ae.l3766_P {F:Nat} {H0:Hp} {Ri R0:List Rs} {bs:ON} {aZ:Nat} {bt:Cap} {bM:Bool} {bN bO:List AV} {C29_:Nat→Nat→Int→Int→Int→Int→Hp→OA} {bH:Int→Int→List Int→Int→Int→Int→Int→Option (Int×List Int)} (hC29:ae.S29 H0 Ri R0 bs aZ bt bM bN bO C29_ bH):∀ k,ae.S3766 H0 Ri R0 bs aZ bt bM bN bO (ae.l3766 F (ba.tw F) C29_ k) (ae.pl3766 F bH k):=by
 intro k
 induction k with
 | zero=>
  intro nU nV eE e_ gP hI eF ei mp HG eh H abb h0 r hp
  exact nomatch (show (none:Option (Int×List Int)) = some r from hp)
 | succ k ih=>
  intro nU nV eE e_ gP hI eF ei mp HG eh H abb h0 r hp
  obtain ⟨w0,s0,HX⟩:=h0
  subst abb
  unfold ae.pl3766 at hp
  unfold ae.l3766
  refine bind_ex (ldI_of (w0.ld (i:=1) rfl rfl)) ?_
  refine bif_ex (fun hb=>?_) (fun hb=>?_)
  ·replace hp:=bif_t hb hp
   refine bind_ex (ldI_of (w0.ld (i:=1) rfl rfl)) ?_
   refine bind_ex (ldI_of (w0.ld (i:=1) rfl rfl)) ?_
   refine bind_ex (ldSl_of (w0.ld (i:=1) rfl rfl)) ?_
   refine ba.inl ?_
   refine new_k w0 fun H1 w1 s1=>?_
   refine bind_ex (ldSl_of (w1.ld (i:=0) rfl rfl)) ?_
   refine bind_ex (ldI_of (w1.ld (i:=0) rfl rfl)) ?_
   obtain ⟨n2,g2,hp⟩:=bind_some' hp
   obtain ⟨p2,q2,i2,h2,j2⟩:=W.ixo (E:=(eInt .i64)) w1 (i:=1) rfl rfl (HX.step s1) g2
   refine bind_ex i2 ?_
   refine ⟨_,_,rfl,?_⟩
   refine bind_ex rfl ?_
   have h2:_ = [_]:=h2
   subst h2
   refine bind_ex (ldI_of (j2 0 _ rfl)) ?_
   refine bif_ex (fun hb=>?_) (fun hb=>?_)
   ·replace hp:=bif_t hb hp
    obtain ⟨w3,s3⟩:=w1.pick' [1,2] 3 rfl rfl rfl
    dsimp only [pk,pks,nth,List.drop] at w3 s3
    exact ih rfl ⟨w3,(s0.trans (s1.trans s3)),(HX.step (s1.trans s3))⟩ hp
   ·replace hp:=bif_f hb hp
    obtain ⟨w4,s4⟩:=w1.pick' [1,2] 3 rfl rfl rfl
    dsimp only [pk,pks,nth,List.drop] at w4 s4
    exact ae.j21_P (@hC29) rfl ⟨w4,(s0.trans (s1.trans s4)),(HX.step (s1.trans s4))⟩ hp
  ·replace hp:=bif_f hb hp
   exact ae.j21_P (@hC29) rfl ⟨w0,s0,HX⟩ hp
def ae.pj11 (F:Nat)  (sH:Int) (sI:Int) (z0_2l:List Int):Option (Int×List Int):=some ((IntKind.i64.wrap (sH * sI)),z0_2l)
theorem ae.j11_P {F:Nat} {H0:Hp} {Ri R0:List Rs} {bs:ON} {aZ:Nat} {bt:Cap} {bM:Bool} {bN bO:List AV}  {sH sI:Int} {z0_2l:List Int} {z0_2k:List AV} {H:Hp} (z0_2h:aZ = z0_2l.length) (h0:Out H0 Ri H (Rs.ow bM ⟨bs,aZ,bt⟩ (eInt .i64).z bN z0_2k bO :: R0) fun R=>CR (eInt .i64) H R z0_2k z0_2l) {r:Int×List Int} (hp:ae.pj11 F  sH sI z0_2l = some r):∃ v H',ae.j11 F (ba.tw F)  sH sI H = some (v,H')∧ae.Q H0 Ri R0 bs aZ bt bM bN bO r v H':=by
 obtain ⟨w0,s0,z0_2f⟩:=h0
 subst z0_2h
 unfold ae.pj11 at hp
 unfold ae.j11
 obtain rfl:=Option.some.inj hp
 exact ⟨_,_,rfl,_,rfl,rfl,w0,s0,z0_2f⟩
def ae.pl29 (F:Nat) :Nat→Int→Int→List Int→Int→Int→Int→Int→Option (Int×List Int)
 | 0,_,_,_,_,_,_,_=>none
 | k + 1,uc,jZ,pv,bp,cI,io,gu=>(bif (decide (gu < io)) then (ae.pl3766 F (ae.pl29 F k) F uc jZ pv bp cI io gu gu gu) else (ae.pj11 F bp cI pv))
termination_by structural n=>n
theorem ae.l29_P {F:Nat} {H0:Hp} {Ri R0:List Rs} {bs:ON} {aZ:Nat} {bt:Cap} {bM:Bool} {bN bO:List AV} :∀ k,ae.S29 H0 Ri R0 bs aZ bt bM bN bO (ae.l29 F (ba.tw F)  k) (ae.pl29 F  k):=by
 intro k
 induction k with
 | zero=>
  intro uc jZ bp cI io gu pv HF cu H abc h0 r hp
  exact nomatch (show (none:Option (Int×List Int)) = some r from hp)
 | succ k ih=>
  intro uc jZ bp cI io gu pv HF cu H abc h0 r hp
  obtain ⟨w0,s0,abd⟩:=h0
  subst abc
  unfold ae.pl29 at hp
  unfold ae.l29
  refine bif_ex (fun hb=>?_) (fun hb=>?_)
  ·replace hp:=bif_t hb hp
   exact ae.l3766_P (@ih) F rfl ⟨w0,s0,abd⟩ hp
  ·replace hp:=bif_f hb hp
   obtain ⟨w1,s1⟩:=w0.pick' [0] 2 rfl rfl rfl
   dsimp only [pk,pks,nth,List.drop] at w1 s1
   exact ae.j11_P rfl ⟨w1,(s0.trans s1),(abd.step s1)⟩ hp
def ae.p (F:Nat) (aa:Int) (ab:Int) (fa:List Int):Option (Int×List Int):=ae.pl29 F F aa ab fa 1 1 aa 0
theorem ae.P {F:Nat} {aa ab:Int} {iq:ON} {eG:Nat} {ir:Cap} {fa:List Int} {mc:Bool} {md mf pR:List AV} {H:Hp} {R0:List Rs} (pP:eG = fa.length) (h0:Inn H (Rs.ow mc ⟨iq,eG,ir⟩ (eInt .i64).z md pR mf :: R0) fun R=>CR (eInt .i64) H R pR fa) {r:Int×List Int} (hp:ae.p F aa ab fa = some r):∃ v H',ae.tw F aa ab ⟨iq,eG,ir⟩ H = some (v,H')∧ae.Q H (Rs.ow mc ⟨iq,eG,ir⟩ (eInt .i64).z md pR mf :: R0) R0 iq eG ir mc md mf r v H':=by
 obtain ⟨w0,pQ⟩:=h0
 subst pP
 unfold ae.p at hp
 unfold ae.tw ae.twX
 have s0:=w0.rf
 refine new_k w0 fun H1 w1 s1=>?_
 refine bind_ex (ldI_of (w1.ld (i:=0) rfl rfl)) ?_
 obtain ⟨w2,s2⟩:=w1.pick' [1,0] 2 rfl rfl rfl
 dsimp only [pk,pks,nth,List.drop] at w2 s2
 exact ae.l29_P F rfl ⟨w2,(s0.trans (s1.trans s2)),(pQ.step (s1.trans s2))⟩ hp
def cm.Q (H0:Hp) (Ri R0:List Rs)  (r:Int) (v:AV) (H':Hp):Prop:=v = (.int .i64 r)∧Out H0 Ri H' (R0) fun R=>True
def cm.p (F:Nat) (aa:Int):Option (Int):=(bif (decide (aa < 0)) then (some (IntKind.i64.wrap (0 - aa))) else (some aa))
theorem cm.P {F:Nat} {aa:Int} {H:Hp} {R0:List Rs}  (h0:Inn H R0 fun R=>True) {r:Int} (hp:cm.p F aa = some r):∃ v H',cm.tw F aa H = some (v,H')∧cm.Q H R0 R0  r v H':=by
 obtain ⟨w0,_⟩:=h0
 unfold cm.p at hp
 unfold cm.tw cm.twX
 have s0:=w0.rf
 refine bif_ex (fun hb=>?_) (fun hb=>?_)
 ·replace hp:=bif_t hb hp
  obtain rfl:=Option.some.inj hp
  exact ⟨_,_,rfl,rfl,w0,s0,trivial⟩
 ·replace hp:=bif_f hb hp
  obtain rfl:=Option.some.inj hp
  exact ⟨_,_,rfl,rfl,w0,s0,trivial⟩
def bZ.Q (H0:Hp) (Ri R0:List Rs)  (r:Int×Int) (v:AV) (H':Hp):Prop:=v = (.tup [(.int .i64 r.1),(.int .i64 r.2)])∧Out H0 Ri H' (R0) fun R=>True
def bZ.p (F:Nat) (af:List (Int×Int×Int×Int×Int)) (ab:Int):Option (Int×Int):=(cj.p F af ab).bind fun r2=>(bif (r2 != 0) then (some (0,r2)) else ((bv.p F af ab).bind fun r5=>(ck.p F af ab r5.1 r5.2.1).bind fun r10=>(bif r10 then ((ag.p F af r5.1 r5.2.1 0).bind fun r12=>(ae.p F r12.1 r12.2.1 r12.2.2).bind fun r14=>(cm.p F r14.1).bind fun r16=>some (r16,0)) else ((bif ((af.length:Int) == 0) then ((bif (ab == 1) then (some (1,0)) else (some (0,0)))) else (some (0,0)))))))
theorem bZ.P {F:Nat} {aF:ON} {ay:Nat} {aG:Cap} {af:List (Int×Int×Int×Int×Int)} {ab:Int} {H:Hp} {R0:List Rs} (bm:ay = af.length) (h0:Inn H R0 fun R=>ROs (ePair (eInt .i64) (ePair (eInt .i64) (ePair (eInt .i64) (ePair (eInt .i64) (eInt .i64))))) H R ⟨aF,ay,aG⟩ af) {r:Int×Int} (hp:bZ.p F af ab = some r):∃ v H',bZ.tw F ⟨aF,ay,aG⟩ ab H = some (v,H')∧bZ.Q H R0 R0  r v H':=by
 obtain ⟨w0,aS⟩:=h0
 subst bm
 unfold bZ.p at hp
 unfold bZ.tw bZ.twX
 have s0:=w0.rf
 refine new_k w0 fun H1 w1 s1=>?_
 refine bind_ex (ldSl_of (w1.ld (i:=0) rfl rfl)) ?_
 refine bind_ex (ldI_of (w1.ld (i:=0) rfl rfl)) ?_
 obtain ⟨r2,e2,hp⟩:=bind_some' hp
 refine call_ex (cj.P rfl ⟨w1,(aS.step s1)⟩ e2) ?_
 rintro _ H3 ⟨rfl,w3,s3,_⟩
 refine bind_ex rfl ?_
 refine bif_ex (fun hb=>?_) (fun hb=>?_)
 ·replace hp:=bif_t hb hp
  obtain ⟨w4,s4⟩:=w3.pick' [] 1 rfl rfl rfl
  dsimp only [pk,pks,nth,List.drop] at w4 s4
  obtain rfl:=Option.some.inj hp
  exact ⟨_,_,rfl,rfl,w4,(s0.trans (s1.trans (s3.trans s4))),trivial⟩
 ·replace hp:=bif_f hb hp
  refine bind_ex (ldSl_of (w3.ld (i:=0) rfl rfl)) ?_
  refine bind_ex (ldI_of (w3.ld (i:=0) rfl rfl)) ?_
  obtain ⟨r5,e5,hp⟩:=bind_some' hp
  refine call_ex (bv.P rfl ⟨w3,(aS.step (s1.trans s3))⟩ e5) ?_
  rintro _ H6 ⟨o0a_6,o0n_6,o0c_6,o1a_6,o1n_6,o1c_6,rfl,rfl,rfl,w6,s6,f6_0,f6_1⟩
  refine bind_ex rfl ?_
  refine bind_ex rfl ?_
  refine bind_ex rfl ?_
  refine bind_ex rfl ?_
  refine bind_ex rfl ?_
  refine bind_ex rfl ?_
  refine bind_ex rfl ?_
  refine bind_ex rfl ?_
  refine bind_ex rfl ?_
  refine new_k w6 fun H7 w7 s7=>?_
  refine st_k w7 (i:=0) rfl rfl rfl fun H8 w8 s8=>?_
  dsimp only [List.set] at w8 s8
  refine st_k w8 (i:=0) rfl rfl rfl fun H9 w9 s9=>?_
  dsimp only [List.set] at w9 s9
  refine bind_ex (ldSl_of (w9.ld (i:=1) rfl rfl)) ?_
  refine bind_ex (ldI_of (w9.ld (i:=1) rfl rfl)) ?_
  refine bind_ex (ldSl_of (w9.ld (i:=0) rfl rfl)) ?_
  refine bind_ex (ldSl_of (w9.ld (i:=0) rfl rfl)) ?_
  obtain ⟨r10,e10,hp⟩:=bind_some' hp
  refine call_ex (ck.P rfl rfl rfl ⟨w9,(aS.step (s1.trans (s3.trans (s6.trans (s7.trans (s8.trans s9)))))),(f6_0.step (s7.trans (s8.trans s9))),(f6_1.step (s7.trans (s8.trans s9)))⟩ e10) ?_
  rintro _ H11 ⟨rfl,w11,s11,_⟩
  refine bind_ex rfl ?_
  refine bif_ex (fun hb=>?_) (fun hb=>?_)
  ·replace hp:=bif_t hb hp
   refine bind_ex (ldSl_of (w11.ld (i:=1) rfl rfl)) ?_
   refine bind_ex (ldI_of (w11.ld (i:=1) rfl rfl)) ?_
   refine bind_ex (ldSl_of (w11.ld (i:=0) rfl rfl)) ?_
   refine bind_ex (ldSl_of (w11.ld (i:=0) rfl rfl)) ?_
   obtain ⟨r12,e12,hp⟩:=bind_some' hp
   refine call_ex (ag.P rfl rfl rfl ⟨w11,(aS.step (s1.trans (s3.trans (s6.trans (s7.trans (s8.trans (s9.trans s11))))))),(f6_0.step (s7.trans (s8.trans (s9.trans s11)))),(f6_1.step (s7.trans (s8.trans (s9.trans s11))))⟩ e12) ?_
   rintro _ H13 ⟨o2a_13,o2n_13,o2c_13,o2k_13,rfl,rfl,w13,s13,f13_0⟩
   refine bind_ex rfl ?_
   refine bind_ex rfl ?_
   refine bind_ex rfl ?_
   refine bind_ex rfl ?_
   refine bind_ex rfl ?_
   refine bind_ex rfl ?_
   refine bind_ex rfl ?_
   obtain ⟨r14,e14,hp⟩:=bind_some' hp
   refine call_ex (ae.P rfl ⟨w13,f13_0⟩ e14) ?_
   rintro _ H15 ⟨ake,rfl,hl15_0,w15,s15,f15_0⟩
   refine bind_ex rfl ?_
   obtain ⟨r16,e16,hp⟩:=bind_some' hp
   refine call_ex (cm.P ⟨w15,trivial⟩ e16) ?_
   rintro _ H17 ⟨rfl,w17,s17,_⟩
   refine bind_ex rfl ?_
   obtain ⟨w18,s18⟩:=w17.pick' [] 3 rfl rfl rfl
   dsimp only [pk,pks,nth,List.drop] at w18 s18
   obtain rfl:=Option.some.inj hp
   exact ⟨_,_,rfl,rfl,w18,(s0.trans (s1.trans (s3.trans (s6.trans (s7.trans (s8.trans (s9.trans (s11.trans (s13.trans (s15.trans (s17.trans s18))))))))))),trivial⟩
  ·replace hp:=bif_f hb hp
   refine bind_ex (ldSl_of (w11.ld (i:=1) rfl rfl)) ?_
   refine bif_ex (fun hb=>?_) (fun hb=>?_)
   ·replace hp:=bif_t hb hp
    refine bind_ex (ldI_of (w11.ld (i:=1) rfl rfl)) ?_
    refine bif_ex (fun hb=>?_) (fun hb=>?_)
    ·replace hp:=bif_t hb hp
     obtain ⟨w19,s19⟩:=w11.pick' [] 2 rfl rfl rfl
     dsimp only [pk,pks,nth,List.drop] at w19 s19
     obtain rfl:=Option.some.inj hp
     exact ⟨_,_,rfl,rfl,w19,(s0.trans (s1.trans (s3.trans (s6.trans (s7.trans (s8.trans (s9.trans (s11.trans s19)))))))),trivial⟩
    ·replace hp:=bif_f hb hp
     obtain ⟨w20,s20⟩:=w11.pick' [] 2 rfl rfl rfl
     dsimp only [pk,pks,nth,List.drop] at w20 s20
     obtain rfl:=Option.some.inj hp
     exact ⟨_,_,rfl,rfl,w20,(s0.trans (s1.trans (s3.trans (s6.trans (s7.trans (s8.trans (s9.trans (s11.trans s20)))))))),trivial⟩
   ·replace hp:=bif_f hb hp
    obtain ⟨w21,s21⟩:=w11.pick' [] 2 rfl rfl rfl
    dsimp only [pk,pks,nth,List.drop] at w21 s21
    obtain rfl:=Option.some.inj hp
    exact ⟨_,_,rfl,rfl,w21,(s0.trans (s1.trans (s3.trans (s6.trans (s7.trans (s8.trans (s9.trans (s11.trans s21)))))))),trivial⟩
def cn.Q (H0:Hp) (Ri R0:List Rs)  (r:Bool) (v:AV) (H':Hp):Prop:=v = (.bool r)∧Out H0 Ri H' (R0) fun R=>True
def cn.p (F:Nat) (aa:Int) (ab:Int) (ax:Int) (aM:Int) (aJ:Int) (bw:Int) (jf:Int) (jg:Int) (jh:Int) (ji:Int):Option (Bool):=(bif (aa != bw) then (some false) else ((bif (ab != jf) then (some false) else ((bif (ax != jg) then (some false) else ((bif (aM != jh) then (some false) else ((bif (aJ != ji) then (some false) else (some true))))))))))
theorem cn.P {F:Nat} {aa ab ax aM aJ bw jf jg jh ji:Int} {H:Hp} {R0:List Rs}  (h0:Inn H R0 fun R=>True) {r:Bool} (hp:cn.p F aa ab ax aM aJ bw jf jg jh ji = some r):∃ v H',cn.tw F aa ab ax aM aJ bw jf jg jh ji H = some (v,H')∧cn.Q H R0 R0  r v H':=by
 obtain ⟨w0,_⟩:=h0
 unfold cn.p at hp
 unfold cn.tw cn.twX
 have s0:=w0.rf
 refine new_k w0 fun H1 w1 s1=>?_
 refine new_k w1 fun H2 w2 s2=>?_
 refine bind_ex (ldI_of (w2.ld (i:=1) rfl rfl)) ?_
 refine bind_ex (ldI_of (w2.ld (i:=0) rfl rfl)) ?_
 refine bif_ex (fun hb=>?_) (fun hb=>?_)
 ·replace hp:=bif_t hb hp
  obtain ⟨w3,s3⟩:=w2.pick' [] 2 rfl rfl rfl
  dsimp only [pk,pks,nth,List.drop] at w3 s3
  obtain rfl:=Option.some.inj hp
  exact ⟨_,_,rfl,rfl,w3,(s0.trans (s1.trans (s2.trans s3))),trivial⟩
 ·replace hp:=bif_f hb hp
  refine bind_ex (ldI_of (w2.ld (i:=1) rfl rfl)) ?_
  refine bind_ex (ldI_of (w2.ld (i:=0) rfl rfl)) ?_
  refine bif_ex (fun hb=>?_) (fun hb=>?_)
  ·replace hp:=bif_t hb hp
   obtain ⟨w4,s4⟩:=w2.pick' [] 2 rfl rfl rfl
   dsimp only [pk,pks,nth,List.drop] at w4 s4
   obtain rfl:=Option.some.inj hp
   exact ⟨_,_,rfl,rfl,w4,(s0.trans (s1.trans (s2.trans s4))),trivial⟩
  ·replace hp:=bif_f hb hp
   refine bind_ex (ldI_of (w2.ld (i:=1) rfl rfl)) ?_
   refine bind_ex (ldI_of (w2.ld (i:=0) rfl rfl)) ?_
   refine bif_ex (fun hb=>?_) (fun hb=>?_)
   ·replace hp:=bif_t hb hp
    obtain ⟨w5,s5⟩:=w2.pick' [] 2 rfl rfl rfl
    dsimp only [pk,pks,nth,List.drop] at w5 s5
    obtain rfl:=Option.some.inj hp
    exact ⟨_,_,rfl,rfl,w5,(s0.trans (s1.trans (s2.trans s5))),trivial⟩
   ·replace hp:=bif_f hb hp
    refine bind_ex (ldI_of (w2.ld (i:=1) rfl rfl)) ?_
    refine bind_ex (ldI_of (w2.ld (i:=0) rfl rfl)) ?_
    refine bif_ex (fun hb=>?_) (fun hb=>?_)
    ·replace hp:=bif_t hb hp
     obtain ⟨w6,s6⟩:=w2.pick' [] 2 rfl rfl rfl
     dsimp only [pk,pks,nth,List.drop] at w6 s6
     obtain rfl:=Option.some.inj hp
     exact ⟨_,_,rfl,rfl,w6,(s0.trans (s1.trans (s2.trans s6))),trivial⟩
    ·replace hp:=bif_f hb hp
     refine bind_ex (ldI_of (w2.ld (i:=1) rfl rfl)) ?_
     refine bind_ex (ldI_of (w2.ld (i:=0) rfl rfl)) ?_
     refine bif_ex (fun hb=>?_) (fun hb=>?_)
     ·replace hp:=bif_t hb hp
      obtain ⟨w7,s7⟩:=w2.pick' [] 2 rfl rfl rfl
      dsimp only [pk,pks,nth,List.drop] at w7 s7
      obtain rfl:=Option.some.inj hp
      exact ⟨_,_,rfl,rfl,w7,(s0.trans (s1.trans (s2.trans s7))),trivial⟩
     ·replace hp:=bif_f hb hp
      obtain ⟨w8,s8⟩:=w2.pick' [] 2 rfl rfl rfl
      dsimp only [pk,pks,nth,List.drop] at w8 s8
      obtain rfl:=Option.some.inj hp
      exact ⟨_,_,rfl,rfl,w8,(s0.trans (s1.trans (s2.trans s8))),trivial⟩
def bk.Q (H0:Hp) (Ri R0:List Rs)  (r:Bool) (v:AV) (H':Hp):Prop:=v = (.bool r)∧Out H0 Ri H' (R0) fun R=>True
def bk.S29 (H0:Hp) (Ri R0:List Rs)  (C:Sl→Sl→Int→Hp→OA) (pC:List (Int×Int×Int×Int×Int)→List (Int×Int×Int×Int×Int)→Int→Option (Bool)):Prop:=∀ {mX HY:ON} {lP zW:Nat} {mY HZ:Cap} {dx kI:List (Int×Int×Int×Int×Int)} {gw:Int},∀ {H:Hp},lP = dx.length→zW = kI.length→(Out H0 Ri H R0 fun R=>ROs (ePair (eInt .i64) (ePair (eInt .i64) (ePair (eInt .i64) (ePair (eInt .i64) (eInt .i64))))) H R ⟨mX,lP,mY⟩ dx∧ROs (ePair (eInt .i64) (ePair (eInt .i64) (ePair (eInt .i64) (ePair (eInt .i64) (eInt .i64))))) H R ⟨HY,zW,HZ⟩ kI)→∀ {r:Bool},pC dx kI gw = some r→∃ v H',C ⟨mX,lP,mY⟩ ⟨HY,zW,HZ⟩ gw H = some (v,H')∧bk.Q H0 Ri R0  r v H'
def bk.pl29 (F:Nat) :Nat→List (Int×Int×Int×Int×Int)→List (Int×Int×Int×Int×Int)→Int→Option (Bool)
 | 0,_,_,_=>none
 | k + 1,dx,kI,gw=>(bif (decide (gw < (dx.length:Int))) then ((ix dx gw).bind fun n1=>(ix kI gw).bind fun n2=>(cn.p F ((gt dx n1).1) ((gt dx n1).2.1) ((gt dx n1).2.2.1) ((gt dx n1).2.2.2.1) ((gt dx n1).2.2.2.2) ((gt kI n2).1) ((gt kI n2).2.1) ((gt kI n2).2.2.1) ((gt kI n2).2.2.2.1) ((gt kI n2).2.2.2.2)).bind fun r3=>(bif (!r3) then (some false) else (bk.pl29 F k dx kI (IntKind.i64.wrap (gw + 1))))) else (some true))
termination_by structural n=>n
theorem bk.l29_P {F:Nat} {H0:Hp} {Ri R0:List Rs}  :∀ k,bk.S29 H0 Ri R0  (bk.l29 F (cn.tw F)  k) (bk.pl29 F  k):=by
 intro k
 induction k with
 | zero=>
  intro mX HY lP zW mY HZ dx kI gw H uz abe h0 r hp
  exact nomatch (show (none:Option (Bool)) = some r from hp)
 | succ k ih=>
  intro mX HY lP zW mY HZ dx kI gw H uz abe h0 r hp
  obtain ⟨w0,s0,uA,abf⟩:=h0
  subst uz
  subst abe
  unfold bk.pl29 at hp
  unfold bk.l29
  refine bif_ex (fun hb=>?_) (fun hb=>?_)
  ·replace hp:=bif_t hb hp
   obtain ⟨n1,g1,hp⟩:=bind_some' hp
   obtain ⟨p1,q1,i1,h1,j1⟩:=ROs.ixr uA rfl g1
   refine bind_ex i1 ?_
   obtain ⟨_,_,rfl,rfl,_,_,rfl,rfl,_,_,rfl,rfl,_,_,rfl,rfl,rfl⟩:=h1
   refine bind_ex (ldI_of (j1 0 _ rfl)) ?_
   refine bind_ex (ldI_of (j1 1 _ rfl)) ?_
   refine bind_ex (ldI_of (j1 2 _ rfl)) ?_
   refine bind_ex (ldI_of (j1 3 _ rfl)) ?_
   refine bind_ex (ldI_of (j1 4 _ rfl)) ?_
   obtain ⟨n2,g2,hp⟩:=bind_some' hp
   obtain ⟨p2,q2,i2,h2,j2⟩:=ROs.ixr abf rfl g2
   refine bind_ex i2 ?_
   obtain ⟨_,_,rfl,rfl,_,_,rfl,rfl,_,_,rfl,rfl,_,_,rfl,rfl,rfl⟩:=h2
   refine bind_ex (ldI_of (j2 0 _ rfl)) ?_
   refine bind_ex (ldI_of (j2 1 _ rfl)) ?_
   refine bind_ex (ldI_of (j2 2 _ rfl)) ?_
   refine bind_ex (ldI_of (j2 3 _ rfl)) ?_
   refine bind_ex (ldI_of (j2 4 _ rfl)) ?_
   obtain ⟨r3,e3,hp⟩:=bind_some' hp
   refine call_ex (cn.P ⟨w0,trivial⟩ e3) ?_
   rintro _ H4 ⟨rfl,w4,s4,_⟩
   refine bind_ex rfl ?_
   refine bif_ex (fun hb=>?_) (fun hb=>?_)
   ·replace hp:=bif_t hb hp
    obtain rfl:=Option.some.inj hp
    exact ⟨_,_,rfl,rfl,w4,(s0.trans s4),trivial⟩
   ·replace hp:=bif_f hb hp
    exact ih rfl rfl ⟨w4,(s0.trans s4),(uA.step s4),(abf.step s4)⟩ hp
  ·replace hp:=bif_f hb hp
   obtain rfl:=Option.some.inj hp
   exact ⟨_,_,rfl,rfl,w0,s0,trivial⟩
def bk.p (F:Nat) (af:List (Int×Int×Int×Int×Int)) (kA:List (Int×Int×Int×Int×Int)):Option (Bool):=(bif ((af.length:Int) != (kA.length:Int)) then (some false) else (bk.pl29 F F af kA 0))
theorem bk.P {F:Nat} {aF wj:ON} {ay pI:Nat} {aG wl:Cap} {af kA:List (Int×Int×Int×Int×Int)} {H:Hp} {R0:List Rs} (bm:ay = af.length) (JC:pI = kA.length) (h0:Inn H R0 fun R=>ROs (ePair (eInt .i64) (ePair (eInt .i64) (ePair (eInt .i64) (ePair (eInt .i64) (eInt .i64))))) H R ⟨aF,ay,aG⟩ af∧ROs (ePair (eInt .i64) (ePair (eInt .i64) (ePair (eInt .i64) (ePair (eInt .i64) (eInt .i64))))) H R ⟨wj,pI,wl⟩ kA) {r:Bool} (hp:bk.p F af kA = some r):∃ v H',bk.tw F ⟨aF,ay,aG⟩ ⟨wj,pI,wl⟩ H = some (v,H')∧bk.Q H R0 R0  r v H':=by
 obtain ⟨w0,aS,JD⟩:=h0
 subst bm
 subst JC
 unfold bk.p at hp
 unfold bk.tw bk.twX
 have s0:=w0.rf
 refine bif_ex (fun hb=>?_) (fun hb=>?_)
 ·replace hp:=bif_t hb hp
  obtain rfl:=Option.some.inj hp
  exact ⟨_,_,rfl,rfl,w0,s0,trivial⟩
 ·replace hp:=bif_f hb hp
  exact bk.l29_P F rfl rfl ⟨w0,s0,aS,JD⟩ hp
def b_.Q (H0:Hp) (Ri R0:List Rs)  (r:Bool) (v:AV) (H':Hp):Prop:=v = (.bool r)∧Out H0 Ri H' (R0) fun R=>True
def b_.p (F:Nat) (af:List (Int×Int×Int×Int×Int)) (ab:Int) (cr:List (Int×Int×Int×Int×Int)) (aB:Int):Option (Bool):=(bk.p F af cr).bind fun r3=>(bif (!r3) then (some false) else ((bif (ab != aB) then (some false) else (some true))))
theorem b_.P {F:Nat} {aF eo:ON} {ay cZ:Nat} {aG ep:Cap} {af cr:List (Int×Int×Int×Int×Int)} {ab aB:Int} {H:Hp} {R0:List Rs} (bm:ay = af.length) (jj:cZ = cr.length) (h0:Inn H R0 fun R=>ROs (ePair (eInt .i64) (ePair (eInt .i64) (ePair (eInt .i64) (ePair (eInt .i64) (eInt .i64))))) H R ⟨aF,ay,aG⟩ af∧ROs (ePair (eInt .i64) (ePair (eInt .i64) (ePair (eInt .i64) (ePair (eInt .i64) (eInt .i64))))) H R ⟨eo,cZ,ep⟩ cr) {r:Bool} (hp:b_.p F af ab cr aB = some r):∃ v H',b_.tw F ⟨aF,ay,aG⟩ ab ⟨eo,cZ,ep⟩ aB H = some (v,H')∧b_.Q H R0 R0  r v H':=by
 obtain ⟨w0,aS,gx⟩:=h0
 subst bm
 subst jj
 unfold b_.p at hp
 unfold b_.tw b_.twX
 have s0:=w0.rf
 refine new_k w0 fun H1 w1 s1=>?_
 refine new_k w1 fun H2 w2 s2=>?_
 refine bind_ex (ldSl_of (w2.ld (i:=1) rfl rfl)) ?_
 refine bind_ex (ldSl_of (w2.ld (i:=0) rfl rfl)) ?_
 obtain ⟨r3,e3,hp⟩:=bind_some' hp
 refine call_ex (bk.P rfl rfl ⟨w2,(aS.step (s1.trans s2)),(gx.step (s1.trans s2))⟩ e3) ?_
 rintro _ H4 ⟨rfl,w4,s4,_⟩
 refine bind_ex rfl ?_
 refine bif_ex (fun hb=>?_) (fun hb=>?_)
 ·replace hp:=bif_t hb hp
  obtain ⟨w5,s5⟩:=w4.pick' [] 2 rfl rfl rfl
  dsimp only [pk,pks,nth,List.drop] at w5 s5
  obtain rfl:=Option.some.inj hp
  exact ⟨_,_,rfl,rfl,w5,(s0.trans (s1.trans (s2.trans (s4.trans s5)))),trivial⟩
 ·replace hp:=bif_f hb hp
  refine bind_ex (ldI_of (w4.ld (i:=1) rfl rfl)) ?_
  refine bind_ex (ldI_of (w4.ld (i:=0) rfl rfl)) ?_
  refine bif_ex (fun hb=>?_) (fun hb=>?_)
  ·replace hp:=bif_t hb hp
   obtain ⟨w6,s6⟩:=w4.pick' [] 2 rfl rfl rfl
   dsimp only [pk,pks,nth,List.drop] at w6 s6
   obtain rfl:=Option.some.inj hp
   exact ⟨_,_,rfl,rfl,w6,(s0.trans (s1.trans (s2.trans (s4.trans s6)))),trivial⟩
  ·replace hp:=bif_f hb hp
   obtain ⟨w7,s7⟩:=w4.pick' [] 2 rfl rfl rfl
   dsimp only [pk,pks,nth,List.drop] at w7 s7
   obtain rfl:=Option.some.inj hp
   exact ⟨_,_,rfl,rfl,w7,(s0.trans (s1.trans (s2.trans (s4.trans s7)))),trivial⟩
def cC.Q (H0:Hp) (Ri R0:List Rs)  (r:Bool) (v:AV) (H':Hp):Prop:=v = (.bool r)∧Out H0 Ri H' (R0) fun R=>True
def cC.p (F:Nat) (af:List (Int×Int×Int×Int×Int)) (ab:Int):Option (Bool):=(bV.p F af 1048576).bind fun r2=>(bif (decide (r2 < 0)) then (some true) else ((bS.p F af ab).bind fun r5=>(bX.p F r5.1 r5.2).bind fun r8=>(bS.p F af ab).bind fun r11=>(bZ.p F r11.1 r11.2).bind fun r18=>(bif (r18.1 != r8.1) then (some false) else ((bif (r18.2 != r8.2) then (some false) else ((bS.p F af ab).bind fun r23=>(b_.p F r11.1 r11.2 r23.1 r23.2).bind fun r29=>(bif (!r29) then (some false) else (some true))))))))
theorem cC.P {F:Nat} {aF:ON} {ay:Nat} {aG:Cap} {af:List (Int×Int×Int×Int×Int)} {ab:Int} {H:Hp} {R0:List Rs} (bm:ay = af.length) (h0:Inn H R0 fun R=>ROs (ePair (eInt .i64) (ePair (eInt .i64) (ePair (eInt .i64) (ePair (eInt .i64) (eInt .i64))))) H R ⟨aF,ay,aG⟩ af) {r:Bool} (hp:cC.p F af ab = some r):∃ v H',cC.tw F ⟨aF,ay,aG⟩ ab H = some (v,H')∧cC.Q H R0 R0  r v H':=by
 obtain ⟨w0,aS⟩:=h0
 subst bm
 unfold cC.p at hp
 unfold cC.tw cC.twX
 have s0:=w0.rf
 refine new_k w0 fun H1 w1 s1=>?_
 refine bind_ex (ldSl_of (w1.ld (i:=0) rfl rfl)) ?_
 refine bind_ex (ldI_of (w1.ld (i:=0) rfl rfl)) ?_
 obtain ⟨r2,e2,hp⟩:=bind_some' hp
 refine call_ex (bV.P rfl ⟨w1,(aS.step s1)⟩ e2) ?_
 rintro _ H3 ⟨rfl,w3,s3,_⟩
 refine bind_ex rfl ?_
 refine bif_ex (fun hb=>?_) (fun hb=>?_)
 ·replace hp:=bif_t hb hp
  obtain ⟨w4,s4⟩:=w3.pick' [] 1 rfl rfl rfl
  dsimp only [pk,pks,nth,List.drop] at w4 s4
  obtain rfl:=Option.some.inj hp
  exact ⟨_,_,rfl,rfl,w4,(s0.trans (s1.trans (s3.trans s4))),trivial⟩
 ·replace hp:=bif_f hb hp
  refine bind_ex (ldSl_of (w3.ld (i:=0) rfl rfl)) ?_
  refine bind_ex (ldI_of (w3.ld (i:=0) rfl rfl)) ?_
  obtain ⟨r5,e5,hp⟩:=bind_some' hp
  refine call_ex (bS.P rfl ⟨w3,(aS.step (s1.trans s3))⟩ e5) ?_
  rintro _ H6 ⟨o0a_6,o0n_6,o0c_6,o0k_6,rfl,rfl,w6,s6,f6_0⟩
  refine bind_ex rfl ?_
  refine bind_ex rfl ?_
  refine bind_ex rfl ?_
  refine bind_ex rfl ?_
  refine bind_ex rfl ?_
  have f7:=W.borrow1 (ePair (eInt .i64) (ePair (eInt .i64) (ePair (eInt .i64) (ePair (eInt .i64) (eInt .i64))))) w6 f6_0
  obtain ⟨w7,s7⟩:=w6.right1
  obtain ⟨r8,e8,hp⟩:=bind_some' hp
  refine call_ex (bX.P rfl ⟨w7,f7⟩ e8) ?_
  rintro _ H9 ⟨rfl,w9,s9,_⟩
  obtain ⟨w10,s10⟩:=W.frame1 w6 w9 s9
  refine bind_ex rfl ?_
  refine bind_ex rfl ?_
  refine bind_ex rfl ?_
  refine bind_ex rfl ?_
  refine bind_ex rfl ?_
  refine bind_ex (ldSl_of (w10.ld (i:=1) rfl rfl)) ?_
  refine bind_ex (ldI_of (w10.ld (i:=1) rfl rfl)) ?_
  obtain ⟨r11,e11,hp⟩:=bind_some' hp
  refine call_ex (bS.P rfl ⟨w10,(aS.step (s1.trans (s3.trans (s6.trans s10))))⟩ e11) ?_
  rintro _ H12 ⟨o0a_12,o0n_12,o0c_12,o0k_12,rfl,rfl,w12,s12,f12_0⟩
  refine bind_ex rfl ?_
  refine bind_ex rfl ?_
  refine bind_ex rfl ?_
  refine bind_ex rfl ?_
  refine bind_ex rfl ?_
  refine new_k w12 fun H13 w13 s13=>?_
  refine st_k w13 (i:=0) rfl rfl rfl fun H14 w14 s14=>?_
  dsimp only [List.set] at w14 s14
  refine st_k w14 (i:=0) rfl rfl rfl fun H15 w15 s15=>?_
  dsimp only [List.set] at w15 s15
  refine bind_ex (ldSl_of (w15.ld (i:=0) rfl rfl)) ?_
  refine bind_ex (ldI_of (w15.ld (i:=0) rfl rfl)) ?_
  obtain ⟨w16,s16⟩:=w15.pick' [1,0,2,3] 4 rfl rfl rfl
  dsimp only [pk,pks,nth,List.drop] at w16 s16
  have f17:=W.borrow1 (ePair (eInt .i64) (ePair (eInt .i64) (ePair (eInt .i64) (ePair (eInt .i64) (eInt .i64))))) w16 (f12_0.step (s13.trans (s14.trans (s15.trans s16))))
  obtain ⟨w17,s17⟩:=w16.right1
  obtain ⟨r18,e18,hp⟩:=bind_some' hp
  refine call_ex (bZ.P rfl ⟨w17,f17⟩ e18) ?_
  rintro _ H19 ⟨rfl,w19,s19,_⟩
  obtain ⟨w20,s20⟩:=W.frame1 w16 w19 s19
  refine bind_ex rfl ?_
  refine bind_ex rfl ?_
  refine bind_ex rfl ?_
  refine bind_ex rfl ?_
  refine bind_ex rfl ?_
  refine bif_ex (fun hb=>?_) (fun hb=>?_)
  ·replace hp:=bif_t hb hp
   obtain ⟨w21,s21⟩:=w20.pick' [] 4 rfl rfl rfl
   dsimp only [pk,pks,nth,List.drop] at w21 s21
   obtain rfl:=Option.some.inj hp
   exact ⟨_,_,rfl,rfl,w21,(s0.trans (s1.trans (s3.trans (s6.trans (s10.trans (s12.trans (s13.trans (s14.trans (s15.trans (s16.trans (s20.trans s21))))))))))),trivial⟩
  ·replace hp:=bif_f hb hp
   refine bif_ex (fun hb=>?_) (fun hb=>?_)
   ·replace hp:=bif_t hb hp
    obtain ⟨w22,s22⟩:=w20.pick' [] 4 rfl rfl rfl
    dsimp only [pk,pks,nth,List.drop] at w22 s22
    obtain rfl:=Option.some.inj hp
    exact ⟨_,_,rfl,rfl,w22,(s0.trans (s1.trans (s3.trans (s6.trans (s10.trans (s12.trans (s13.trans (s14.trans (s15.trans (s16.trans (s20.trans s22))))))))))),trivial⟩
   ·replace hp:=bif_f hb hp
    refine bind_ex (ldSl_of (w20.ld (i:=1) rfl rfl)) ?_
    refine bind_ex (ldI_of (w20.ld (i:=1) rfl rfl)) ?_
    refine bind_ex (ldSl_of (w20.ld (i:=3) rfl rfl)) ?_
    refine bind_ex (ldI_of (w20.ld (i:=3) rfl rfl)) ?_
    obtain ⟨r23,e23,hp⟩:=bind_some' hp
    refine call_ex (bS.P rfl ⟨w20,(aS.step (s1.trans (s3.trans (s6.trans (s10.trans (s12.trans (s13.trans (s14.trans (s15.trans (s16.trans s20))))))))))⟩ e23) ?_
    rintro _ H24 ⟨o0a_24,o0n_24,o0c_24,o0k_24,rfl,rfl,w24,s24,f24_0⟩
    refine bind_ex rfl ?_
    refine bind_ex rfl ?_
    refine bind_ex rfl ?_
    refine bind_ex rfl ?_
    refine bind_ex rfl ?_
    refine ifs_ex (W.cons_of (Rn:=[_]) w20 w24 s24) ?_
    obtain ⟨w26,s26⟩:=w24.pick' [1,0,2,3,4] 5 rfl rfl rfl
    dsimp only [pk,pks,nth,List.drop] at w26 s26
    have f27:=W.borrow1 (ePair (eInt .i64) (ePair (eInt .i64) (ePair (eInt .i64) (ePair (eInt .i64) (eInt .i64))))) w26 (f12_0.step (s13.trans (s14.trans (s15.trans (s16.trans (s20.trans (s24.trans s26)))))))
    obtain ⟨w27,s27⟩:=w26.right1
    have f28:=W.borrow1 (ePair (eInt .i64) (ePair (eInt .i64) (ePair (eInt .i64) (ePair (eInt .i64) (eInt .i64))))) w27 ((f24_0.step s26).step s27)
    obtain ⟨w28,s28⟩:=w27.right1
    obtain ⟨r29,e29,hp⟩:=bind_some' hp
    refine call_ex (b_.P rfl rfl ⟨w28,(f27.step s28),f28⟩ e29) ?_
    rintro _ H30 ⟨rfl,w30,s30,_⟩
    obtain ⟨w31,s31⟩:=W.frame1 w27 w30 s30
    obtain ⟨w32,s32⟩:=W.frame1 w26 w31 s31
    refine bind_ex rfl ?_
    refine bif_ex (fun hb=>?_) (fun hb=>?_)
    ·replace hp:=bif_t hb hp
     obtain ⟨w33,s33⟩:=w32.pick' [] 5 rfl rfl rfl
     dsimp only [pk,pks,nth,List.drop] at w33 s33
     obtain rfl:=Option.some.inj hp
     exact ⟨_,_,rfl,rfl,w33,(s0.trans (s1.trans (s3.trans (s6.trans (s10.trans (s12.trans (s13.trans (s14.trans (s15.trans (s16.trans (s20.trans (s24.trans (s26.trans (s32.trans s33)))))))))))))),trivial⟩
    ·replace hp:=bif_f hb hp
     obtain ⟨w34,s34⟩:=w32.pick' [] 5 rfl rfl rfl
     dsimp only [pk,pks,nth,List.drop] at w34 s34
     obtain rfl:=Option.some.inj hp
     exact ⟨_,_,rfl,rfl,w34,(s0.trans (s1.trans (s3.trans (s6.trans (s10.trans (s12.trans (s13.trans (s14.trans (s15.trans (s16.trans (s20.trans (s24.trans (s26.trans (s32.trans s34)))))))))))))),trivial⟩
end
end Go.Proofs.Ytppbogklbhfboaa.AE
