import Derived.Test.YtodfdhnlhiaohaaP1
import Derived.Test.YtodfdhnlhiaohaaT1
import Derived.Test.YtodfdhnlhiaohaaE2
set_option linter.unusedVariables false
set_option linter.unusedSimpArgs false
namespace Go.Proofs.Ytodfdhnlhiaohaa.AE
open Go Go.AE Go.Proofs IntKind
set_option linter.unusedVariables false
variable {F:Nat} {H H0:Hp} {Ri R0:abR}
set_option maxHeartbeats 4000000
set_option maxRecDepth 100000
noncomputable section
def dI.p (F:Nat) (af:abX) (ag:Int):Option (Bool):=(dV.p F af 1048576).bind λr2=>(bif (decide (r2<0)) then (some true) else ((dj.p F af ag).bind λr5=>(es.p F r5.1 r5.2).bind λr8=>(dj.p F af ag).bind λr10=>(d_.p F r10.1 r10.2).bind λr17=>(bq.p F r17.1 r8.1).bind λr23=>(bif (!r23) then (some false) else ((bif (!(r17.2==r8.2)) then (some false) else ((dj.p F af ag).bind λr29=>(ew.p F r10.1 r10.2 r29.1 r29.2).bind λr35=>(bif (!r35) then (some false) else ((ey.p F r10.1 1).bind λr40=>(bif (decide (r40.1<0)) then (some false) else ((bq.p F r17.1 r8.1).bind λr46=>(bif (!r46) then (some false) else ((bif (!(r17.2==r8.2)) then (some false) else ((ck.p F r17.1 1).bind λr52=>(bD.p F r52.2 1).bind λr55=>(bif (decide (r55<0)) then (some false) else ((bif (r55 != r52.1) then (some false) else ((dj.p F af ag).bind λr60=>(d_.p F r60.1 r60.2).bind λr63=>(bq.p F r63.1 r8.1).bind λr69=>(bif (!r69) then (some false) else ((bif (!(r63.2==r8.2)) then (some false) else ((bD.p F r52.2 1).bind λr77=>(bif (decide (r77<0)) then (some false) else ((bif (r77 != r52.1) then (some false) else (some true))))))))))))))))))))))))))
theorem dI.P {ar aj au af ag} (aN:aj=af.length) (h0:Inn H R0 λR=>ROs (aa eI (aa eI (aa eI (aa eI eI)))) H R ⟨ar,aj,au⟩ af) {r:Bool} (hp:dI.p F af ag=some r):Rt (dI.tw F ⟨ar,aj,au⟩ ag H) (dI.Q H R0 R0  r):=by
 obtain ⟨w0,aG⟩:=h0
 subst aN
 unfold dI.p at hp
 unfold dI.tw dI.twX
 have s0:=w0.rf
 refine a_ w0 λH1 w1 s1=>?_
 refine lSl w1 0 ?_
 refine lI w1 0 ?_
 obtain ⟨r2,e2,hp⟩:=ah hp
 refine aI (dV.P rfl ⟨w1,(aG.step s1)⟩ e2) ?_
 rintro _ H3 ⟨rfl,w3,s3,_⟩
 refine br ?_
 refine ax hp (λhp=>?_) λhp=>?_
 ·obtain ⟨w4,s4⟩:=w3.pp [] 1
  exact aw hp ⟨rfl,w4,(s0.trans (s1.trans (s3.trans s4))),trivial⟩
 ·refine lSl w3 0 ?_
  refine lI w3 0 ?_
  obtain ⟨r5,e5,hp⟩:=ah hp
  refine aI (dj.P rfl ⟨w3,(aG.step (s1.trans s3))⟩ e5) ?_
  rintro _ H6 ⟨o0a_6,o0n_6,o0c_6,o0k_6,rfl,rfl,w6,s6,f6_0⟩
  refine br (br (br (br (br ?_))))
  obtain ⟨w7,s7,f7⟩:=w6.frz (i:=0) (aa eI (aa eI (aa eI (aa eI eI)))) rfl f6_0
  obtain ⟨r8,e8,hp⟩:=ah hp
  refine aI (es.P rfl ⟨w7,f7⟩ e8) ?_
  rintro _ H9 ⟨o0a_9,o0n_9,o0c_9,o0k_9,rfl,rfl,w9,s9,f9_0⟩
  refine br (br (br (br (br ?_))))
  refine lSl w9 1 ?_
  refine lI w9 1 ?_
  obtain ⟨r10,e10,hp⟩:=ah hp
  refine aI (dj.P rfl ⟨w9,(aG.step (s1.trans (s3.trans (s6.trans (s7.trans s9)))))⟩ e10) ?_
  rintro _ H11 ⟨o0a_11,o0n_11,o0c_11,o0k_11,rfl,rfl,w11,s11,f11_0⟩
  refine br (br (br (br (br ?_))))
  refine a_ w11 λH12 w12 s12=>?_
  refine aA w12 0 λH13 w13 s13=>?_
  refine aA w13 0 λH14 w14 s14=>?_
  refine lSl w14 0 ?_
  refine lI w14 0 ?_
  obtain ⟨w15,s15⟩:=w14.pp [1,0,2,3] 4
  have f16:=W.borrow1 (aa eI (aa eI (aa eI (aa eI eI)))) w15 (f11_0.step (s12.trans (s13.trans (s14.trans s15))))
  obtain ⟨w16,s16⟩:=w15.right1
  obtain ⟨r17,e17,hp⟩:=ah hp
  refine aI (d_.P rfl ⟨w16,f16⟩ e17) ?_
  rintro _ H18 ⟨o0a_18,o0n_18,o0c_18,o0k_18,o0m_18,rfl,rfl,w18,s18,f18_0⟩
  obtain ⟨w19,s19⟩:=W.frame1 w15 w18 s18
  refine br (br (br (br (br ?_))))
  obtain ⟨w20,s20⟩:=w19.pp [1,2,4,0,3,5] 6
  dsimp only [pk,pks,nth,List.drop,List.set,List.eraseIdx] at w20 s7 f7 s12 s13 s14 s15 s20
  have f21:ROs (eSl (aa eI (eSl eI))) _ _ _ _:=W.borrow2 (oSl (cC (aZ eI) (oSl (aZ eI)))) w20 f18_0
  obtain ⟨w21,s21⟩:=w20.right2
  have f22:=W.borrow1 (eSl (aa eI (eSl eI))) w21 ((f9_0.step (s11.trans (s12.trans (s13.trans (s14.trans (s15.trans (s19.trans s20))))))).step s21)
  obtain ⟨w22,s22⟩:=w21.right1
  obtain ⟨r23,e23,hp⟩:=ah hp
  refine aI (bq.P rfl rfl ⟨w22,(f21.step s22),f22⟩ e23) ?_
  rintro _ H24 ⟨rfl,w24,s24,_⟩
  obtain ⟨w25,s25⟩:=W.frame1 w21 w24 s24
  obtain ⟨w26,s26⟩:=W.frame2 w20 w25 s25
  refine br ?_
  refine ax hp (λhp=>?_) λhp=>?_
  ·obtain ⟨w27,s27⟩:=w26.pp [] 6
   exact aw hp ⟨rfl,w27,(s0.trans (s1.trans (s3.trans (s6.trans (s7.trans (s9.trans (s11.trans (s12.trans (s13.trans (s14.trans (s15.trans (s19.trans (s20.trans (s26.trans s27)))))))))))))),trivial⟩
  ·refine ax hp (λhp=>?_) λhp=>?_
   ·obtain ⟨w28,s28⟩:=w26.pp [] 6
    exact aw hp ⟨rfl,w28,(s0.trans (s1.trans (s3.trans (s6.trans (s7.trans (s9.trans (s11.trans (s12.trans (s13.trans (s14.trans (s15.trans (s19.trans (s20.trans (s26.trans s28)))))))))))))),trivial⟩
   ·refine lSl w26 4 ?_
    refine lI w26 4 ?_
    refine lSl w26 5 ?_
    refine lI w26 5 ?_
    obtain ⟨r29,e29,hp⟩:=ah hp
    refine aI (dj.P rfl ⟨w26,(aG.step (s1.trans (s3.trans (s6.trans (s7.trans (s9.trans (s11.trans (s12.trans (s13.trans (s14.trans (s15.trans (s19.trans (s20.trans s26)))))))))))))⟩ e29) ?_
    rintro _ H30 ⟨o0a_30,o0n_30,o0c_30,o0k_30,rfl,rfl,w30,s30,f30_0⟩
    refine br (br (br (br (br ?_))))
    refine fY (W.cons_of (Rn:=[_]) w26 w30 s30) ?_
    obtain ⟨w32,s32⟩:=w30.pp [4,0,1,2,3,5,6] 7
    have f33:=W.borrow1 (aa eI (aa eI (aa eI (aa eI eI)))) w32 (f11_0.step (s12.trans (s13.trans (s14.trans (s15.trans (s19.trans (s20.trans (s26.trans (s30.trans s32)))))))))
    obtain ⟨w33,s33⟩:=w32.right1
    have f34:=W.borrow1 (aa eI (aa eI (aa eI (aa eI eI)))) w33 ((f30_0.step s32).step s33)
    obtain ⟨w34,s34⟩:=w33.right1
    obtain ⟨r35,e35,hp⟩:=ah hp
    refine aI (ew.P rfl rfl ⟨w34,(f33.step s34),f34⟩ e35) ?_
    rintro _ H36 ⟨rfl,w36,s36,_⟩
    obtain ⟨w37,s37⟩:=W.frame1 w33 w36 s36
    obtain ⟨w38,s38⟩:=W.frame1 w32 w37 s37
    refine br ?_
    refine ax hp (λhp=>?_) λhp=>?_
    ·obtain ⟨w39,s39⟩:=w38.pp [] 7
     exact aw hp ⟨rfl,w39,(s0.trans (s1.trans (s3.trans (s6.trans (s7.trans (s9.trans (s11.trans (s12.trans (s13.trans (s14.trans (s15.trans (s19.trans (s20.trans (s26.trans (s30.trans (s32.trans (s38.trans s39))))))))))))))))),trivial⟩
    ·refine lSl w38 5 ?_
     refine lI w38 5 ?_
     obtain ⟨r40,e40,hp⟩:=ah hp
     refine aI (ey.P rfl ⟨w38,(f11_0.step (s12.trans (s13.trans (s14.trans (s15.trans (s19.trans (s20.trans (s26.trans (s30.trans (s32.trans s38))))))))))⟩ e40) ?_
     rintro _ H41 ⟨abq,rfl,hl41_0,w41,s41,f41_0⟩
     refine br ?_
     refine ax hp (λhp=>?_) λhp=>?_
     ·obtain ⟨w42,s42⟩:=w41.pp [] 7
      exact aw hp ⟨rfl,w42,(s0.trans (s1.trans (s3.trans (s6.trans (s7.trans (s9.trans (s11.trans (s12.trans (s13.trans (s14.trans (s15.trans (s19.trans (s20.trans (s26.trans (s30.trans (s32.trans (s38.trans (s41.trans s42)))))))))))))))))),trivial⟩
     ·obtain ⟨w43,s43⟩:=w41.pp [2,3,4,0,1,5,6] 7
      dsimp only [pk,pks,nth,List.drop,List.set,List.eraseIdx] at w43 s32 s43
      have f44:ROs (eSl (aa eI (eSl eI))) _ _ _ _:=W.borrow2 (oSl (cC (aZ eI) (oSl (aZ eI)))) w43 f18_0
      obtain ⟨w44,s44⟩:=w43.right2
      have f45:=W.borrow1 (eSl (aa eI (eSl eI))) w44 ((f9_0.step (s11.trans (s12.trans (s13.trans (s14.trans (s15.trans (s19.trans (s20.trans (s26.trans (s30.trans (s32.trans (s38.trans (s41.trans s43))))))))))))).step s44)
      obtain ⟨w45,s45⟩:=w44.right1
      obtain ⟨r46,e46,hp⟩:=ah hp
      refine aI (bq.P rfl rfl ⟨w45,(f44.step s45),f45⟩ e46) ?_
      rintro _ H47 ⟨rfl,w47,s47,_⟩
      obtain ⟨w48,s48⟩:=W.frame1 w44 w47 s47
      obtain ⟨w49,s49⟩:=W.frame2 w43 w48 s48
      refine br ?_
      refine ax hp (λhp=>?_) λhp=>?_
      ·obtain ⟨w50,s50⟩:=w49.pp [] 7
       exact aw hp ⟨rfl,w50,(s0.trans (s1.trans (s3.trans (s6.trans (s7.trans (s9.trans (s11.trans (s12.trans (s13.trans (s14.trans (s15.trans (s19.trans (s20.trans (s26.trans (s30.trans (s32.trans (s38.trans (s41.trans (s43.trans (s49.trans s50)))))))))))))))))))),trivial⟩
      ·refine ax hp (λhp=>?_) λhp=>?_
       ·obtain ⟨w51,s51⟩:=w49.pp [] 7
        exact aw hp ⟨rfl,w51,(s0.trans (s1.trans (s3.trans (s6.trans (s7.trans (s9.trans (s11.trans (s12.trans (s13.trans (s14.trans (s15.trans (s19.trans (s20.trans (s26.trans (s30.trans (s32.trans (s38.trans (s41.trans (s43.trans (s49.trans s51)))))))))))))))))))),trivial⟩
       ·obtain ⟨r52,e52,hp⟩:=ah hp
        refine aI (ck.P rfl ⟨w49,f18_0⟩ e52) ?_
        rintro _ H53 ⟨abr,abt,rfl,hl53_0,w53,s53,f53_0⟩
        refine br ?_
        have f54:ROs (eSl (aa eI (eSl eI))) _ _ _ _:=W.borrow2 (oSl (cC (aZ eI) (oSl (aZ eI)))) w53 f53_0
        obtain ⟨w54,s54⟩:=w53.right2
        obtain ⟨r55,e55,hp⟩:=ah hp
        refine aI (bD.P hl53_0 ⟨w54,f54⟩ e55) ?_
        rintro _ H56 ⟨rfl,w56,s56,_⟩
        obtain ⟨w57,s57⟩:=W.frame2 w53 w56 s56
        refine br ?_
        refine ax hp (λhp=>?_) λhp=>?_
        ·obtain ⟨w58,s58⟩:=w57.pp [] 7
         exact aw hp ⟨rfl,w58,(s0.trans (s1.trans (s3.trans (s6.trans (s7.trans (s9.trans (s11.trans (s12.trans (s13.trans (s14.trans (s15.trans (s19.trans (s20.trans (s26.trans (s30.trans (s32.trans (s38.trans (s41.trans (s43.trans (s49.trans (s53.trans (s57.trans s58)))))))))))))))))))))),trivial⟩
        ·refine ax hp (λhp=>?_) λhp=>?_
         ·obtain ⟨w59,s59⟩:=w57.pp [] 7
          exact aw hp ⟨rfl,w59,(s0.trans (s1.trans (s3.trans (s6.trans (s7.trans (s9.trans (s11.trans (s12.trans (s13.trans (s14.trans (s15.trans (s19.trans (s20.trans (s26.trans (s30.trans (s32.trans (s38.trans (s41.trans (s43.trans (s49.trans (s53.trans (s57.trans s59)))))))))))))))))))))),trivial⟩
         ·refine lSl w57 6 ?_
          refine lI w57 6 ?_
          obtain ⟨r60,e60,hp⟩:=ah hp
          refine aI (dj.P rfl ⟨w57,(aG.step (s1.trans (s3.trans (s6.trans (s7.trans (s9.trans (s11.trans (s12.trans (s13.trans (s14.trans (s15.trans (s19.trans (s20.trans (s26.trans (s30.trans (s32.trans (s38.trans (s41.trans (s43.trans (s49.trans (s53.trans s57)))))))))))))))))))))⟩ e60) ?_
          rintro _ H61 ⟨o0a_61,o0n_61,o0c_61,o0k_61,rfl,rfl,w61,s61,f61_0⟩
          refine br (br (br (br (br ?_))))
          have f62:=W.borrow1 (aa eI (aa eI (aa eI (aa eI eI)))) w61 f61_0
          obtain ⟨w62,s62⟩:=w61.right1
          obtain ⟨r63,e63,hp⟩:=ah hp
          refine aI (d_.P rfl ⟨w62,f62⟩ e63) ?_
          rintro _ H64 ⟨o0a_64,o0n_64,o0c_64,o0k_64,o0m_64,rfl,rfl,w64,s64,f64_0⟩
          obtain ⟨w65,s65⟩:=W.frame1 w61 w64 s64
          refine br (br (br (br (br ?_))))
          obtain ⟨w66,s66⟩:=w65.pp [1,2,5,0,3,4,6,7,8,9] 10
          dsimp only [pk,pks,nth,List.drop,List.set,List.eraseIdx] at w66 s66
          have f67:ROs (eSl (aa eI (eSl eI))) _ _ _ _:=W.borrow2 (oSl (cC (aZ eI) (oSl (aZ eI)))) w66 f64_0
          obtain ⟨w67,s67⟩:=w66.right2
          have f68:=W.borrow1 (eSl (aa eI (eSl eI))) w67 ((f9_0.step (s11.trans (s12.trans (s13.trans (s14.trans (s15.trans (s19.trans (s20.trans (s26.trans (s30.trans (s32.trans (s38.trans (s41.trans (s43.trans (s49.trans (s53.trans (s57.trans (s61.trans (s65.trans s66))))))))))))))))))).step s67)
          obtain ⟨w68,s68⟩:=w67.right1
          obtain ⟨r69,e69,hp⟩:=ah hp
          refine aI (bq.P rfl rfl ⟨w68,(f67.step s68),f68⟩ e69) ?_
          rintro _ H70 ⟨rfl,w70,s70,_⟩
          obtain ⟨w71,s71⟩:=W.frame1 w67 w70 s70
          obtain ⟨w72,s72⟩:=W.frame2 w66 w71 s71
          refine br ?_
          refine ax hp (λhp=>?_) λhp=>?_
          ·obtain ⟨w73,s73⟩:=w72.pp [] 10
           exact aw hp ⟨rfl,w73,(s0.trans (s1.trans (s3.trans (s6.trans (s7.trans (s9.trans (s11.trans (s12.trans (s13.trans (s14.trans (s15.trans (s19.trans (s20.trans (s26.trans (s30.trans (s32.trans (s38.trans (s41.trans (s43.trans (s49.trans (s53.trans (s57.trans (s61.trans (s65.trans (s66.trans (s72.trans s73)))))))))))))))))))))))))),trivial⟩
          ·refine ax hp (λhp=>?_) λhp=>?_
           ·obtain ⟨w74,s74⟩:=w72.pp [] 10
            exact aw hp ⟨rfl,w74,(s0.trans (s1.trans (s3.trans (s6.trans (s7.trans (s9.trans (s11.trans (s12.trans (s13.trans (s14.trans (s15.trans (s19.trans (s20.trans (s26.trans (s30.trans (s32.trans (s38.trans (s41.trans (s43.trans (s49.trans (s53.trans (s57.trans (s61.trans (s65.trans (s66.trans (s72.trans s74)))))))))))))))))))))))))),trivial⟩
           ·obtain ⟨w75,s75⟩:=w72.pp [4,5,0,1,2,3,6,7,8,9] 10
            dsimp only [pk,pks,nth,List.drop,List.set,List.eraseIdx] at w75 s75
            have f76:ROs (eSl (aa eI (eSl eI))) _ _ _ _:=W.borrow2 (oSl (cC (aZ eI) (oSl (aZ eI)))) w75 f53_0
            obtain ⟨w76,s76⟩:=w75.right2
            obtain ⟨r77,e77,hp⟩:=ah hp
            refine aI (bD.P hl53_0 ⟨w76,f76⟩ e77) ?_
            rintro _ H78 ⟨rfl,w78,s78,_⟩
            obtain ⟨w79,s79⟩:=W.frame2 w75 w78 s78
            refine br ?_
            refine ax hp (λhp=>?_) λhp=>?_
            ·obtain ⟨w80,s80⟩:=w79.pp [] 10
             exact aw hp ⟨rfl,w80,(s0.trans (s1.trans (s3.trans (s6.trans (s7.trans (s9.trans (s11.trans (s12.trans (s13.trans (s14.trans (s15.trans (s19.trans (s20.trans (s26.trans (s30.trans (s32.trans (s38.trans (s41.trans (s43.trans (s49.trans (s53.trans (s57.trans (s61.trans (s65.trans (s66.trans (s72.trans (s75.trans (s79.trans s80)))))))))))))))))))))))))))),trivial⟩
            ·refine ax hp (λhp=>?_) λhp=>?_
             ·obtain ⟨w81,s81⟩:=w79.pp [] 10
              exact aw hp ⟨rfl,w81,(s0.trans (s1.trans (s3.trans (s6.trans (s7.trans (s9.trans (s11.trans (s12.trans (s13.trans (s14.trans (s15.trans (s19.trans (s20.trans (s26.trans (s30.trans (s32.trans (s38.trans (s41.trans (s43.trans (s49.trans (s53.trans (s57.trans (s61.trans (s65.trans (s66.trans (s72.trans (s75.trans (s79.trans s81)))))))))))))))))))))))))))),trivial⟩
             ·obtain ⟨w82,s82⟩:=w79.pp [] 10
              exact aw hp ⟨rfl,w82,(s0.trans (s1.trans (s3.trans (s6.trans (s7.trans (s9.trans (s11.trans (s12.trans (s13.trans (s14.trans (s15.trans (s19.trans (s20.trans (s26.trans (s30.trans (s32.trans (s38.trans (s41.trans (s43.trans (s49.trans (s53.trans (s57.trans (s61.trans (s65.trans (s66.trans (s72.trans (s75.trans (s79.trans s82)))))))))))))))))))))))))))),trivial⟩
end
end Go.Proofs.Ytodfdhnlhiaohaa.AE
