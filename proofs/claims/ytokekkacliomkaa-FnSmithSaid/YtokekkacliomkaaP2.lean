import Derived.Test.YtokekkacliomkaaP1
import Derived.Test.YtokekkacliomkaaT1
import Derived.Test.YtokekkacliomkaaE2
set_option linter.unusedVariables false
set_option linter.unusedSimpArgs false
namespace Go.Proofs.Ytokekkacliomkaa.AE
open Go Go.AE Go.Proofs IntKind
set_option linter.unusedVariables false
variable {F:Nat} {H H0:Hp} {Ri R0:ac9}
set_option maxHeartbeats 4000000
set_option maxRecDepth 100000
noncomputable section
def ap.pj7 (F:Nat)  (lf:ac7) (qx:Int) (qy:Int) (je:Int) (jf:Int) (nA:ac7) (wE:Int) (wF:Int) (sg:ac7) (yP:Int) (yQ:Int) (wG:ac7) (DD:Int) (DE:Int) (yR:ac7) (wH:Int) (wI:Int) (si:ac7) (yS:Int) (yT:Int) (wJ:ac7) (oa:ac7) (yU:ac7):Option (Bool):=(cu.p F yU oa).bind λr4=>(bif (!r4) then (some false) else ((dU.p F yP yQ wG wE wF sg).bind λr12=>(dU.p F yS yT wJ wH wI si).bind λr23=>(dU.p F wE wF sg je jf nA).bind λr34=>(dU.p F r34.1 r34.2.1 r34.2.2.1 wH wI si).bind λr45=>(bif (r12.2.2.2==0) then ((bif (r23.2.2.2==0) then ((bif (r34.2.2.2==0) then ((bif (r45.2.2.2==0) then ((eN.p F je jf nA wE wF sg yP yQ wG DD DE yR wH wI si yS yT wJ).bind λr60=>(bif (!r60) then (some false) else ((aY.p F lf qx qy je).bind λr70=>(aY.p F lf r70.2.1 r70.2.2 jf).bind λr73=>ap.pl4194301 F F je jf nA oa r70.1 r73.1 je jf ([]:List Int) 0))) else ((aY.p F lf qx qy je).bind λr82=>(aY.p F lf r82.2.1 r82.2.2 jf).bind λr85=>ap.pl4194301 F F je jf nA oa r82.1 r85.1 je jf ([]:List Int) 0))) else ((aY.p F lf qx qy je).bind λr94=>(aY.p F lf r94.2.1 r94.2.2 jf).bind λr97=>ap.pl4194301 F F je jf nA oa r94.1 r97.1 je jf ([]:List Int) 0))) else ((aY.p F lf qx qy je).bind λr106=>(aY.p F lf r106.2.1 r106.2.2 jf).bind λr109=>ap.pl4194301 F F je jf nA oa r106.1 r109.1 je jf ([]:List Int) 0))) else ((aY.p F lf qx qy je).bind λr118=>(aY.p F lf r118.2.1 r118.2.2 jf).bind λr121=>ap.pl4194301 F F je jf nA oa r118.1 r121.1 je jf ([]:List Int) 0))))
theorem ap.j7_P   {QL QM QN QO QP QQ QR QT QU JK lK JL dk JM JN JO JP JQ fb JR JS QV QW QX QY QZ Q_ Ra Rc Rd lf nA sg wG yR si wJ oa yU qx qy je jf wE wF yP yQ DD DE wH wI yS yT Re Rf Rg Rh Rj Rk Rl Rm} (ZP:JK=lf.length) (ZQ:JL=nA.length) (ZR:JM=sg.length) (ZS:JN=wG.length) (ZT:JO=yR.length) (ZU:JP=si.length) (ZV:JQ=wJ.length) (ZW:JR=oa.length) (ZX:JS=yU.length) (h0:Out H0 Ri H (Rs.blk lK [.sl ⟨QL,JK,QV⟩,.i qx,.int .u64 qy]::Rs.own ⟨QM,JL,QW⟩ eI.z Re::Rs.blk dk [.i je,.i jf,.sl ⟨QM,JL,QW⟩]::Rs.own ⟨QN,JM,QX⟩ eI.z Rf::Rs.own ⟨QO,JN,QY⟩ eI.z Rg::Rs.own ⟨QP,JO,QZ⟩ eI.z Rh::Rs.own ⟨QQ,JP,Q_⟩ eI.z Rj::Rs.own ⟨QR,JQ,Ra⟩ eI.z Rk::Rs.blk fb [.i wE,.i wF,.sl ⟨QN,JM,QX⟩,.i yP,.i yQ,.sl ⟨QO,JN,QY⟩,.i DD,.i DE,.sl ⟨QP,JO,QZ⟩,.i wH,.i wI,.sl ⟨QQ,JP,Q_⟩,.i yS,.i yT,.sl ⟨QR,JQ,Ra⟩]::Rs.own ⟨QT,JR,Rc⟩ eI.z Rl::Rs.own ⟨QU,JS,Rd⟩ eI.z Rm::R0) λR=>ROs (fz .u8) H R ⟨QL,JK,QV⟩ lf/\CR eI H R Re nA/\CR eI H R Rf sg/\CR eI H R Rg wG/\CR eI H R Rh yR/\CR eI H R Rj si/\CR eI H R Rk wJ/\CR eI H R Rl oa/\CR eI H R Rm yU) {r:Bool} (hp:ap.pj7 F  lf qx qy je jf nA wE wF sg yP yQ wG DD DE yR wH wI si yS yT wJ oa yU=some r):Rt (ap.j7 F (gB.tw F) (ct.tw F) (fC.tw F) (fE.tw F) (eR.tw F) (eN.tw F) (bS.tw F) (cu.tw F) (dU.tw F) (aY.tw F)  lK 0 dk 0 fb 0 ⟨QT,JR,Rc⟩ ⟨QU,JS,Rd⟩ H) (ap.Q H0 Ri R0  r):=by
 obtain ⟨w0,s0,ob,sj,JT,Rp,ZY,JU,Rq,wK,ZZ⟩:=h0
 subst ZP
 subst ZQ
 subst ZR
 subst ZS
 subst ZT
 subst ZU
 subst ZV
 subst ZW
 subst ZX
 unfold ap.pj7 at hp
 unfold ap.j7
 obtain ⟨w1,s1⟩:=w0.pp [10,9,0,1,2,3,4,5,6,7,8] 11
 have f2:=W.borrow1 eI w1 (ZZ.step s1)
 obtain ⟨w2,s2⟩:=w1.right1
 have f3:=W.borrow1 eI w2 ((wK.step s1).step s2)
 obtain ⟨w3,s3⟩:=w2.right1
 obtain ⟨r4,e4,hp⟩:=ah hp
 refine aR (cu.P rfl rfl ⟨w3,(f2.step s3),f3⟩ e4) ?_
 rintro _ H5 ⟨rfl,w5,s5,_⟩
 obtain ⟨w6,s6⟩:=W.frame1 w2 w5 s5
 obtain ⟨w7,s7⟩:=W.frame1 w1 w6 s6
 refine br ?_
 refine aA hp (λhp=>?_) λhp=>?_
 ·obtain ⟨w8,s8⟩:=w7.pp [] 11
  exact aF hp ⟨rfl,w8,(s0.trans (s1.trans (s7.trans s8))),trivial⟩
 ·refine lI w7 10 ?_
  refine lI w7 10 ?_
  refine lSl w7 10 ?_
  refine lI w7 10 ?_
  refine lI w7 10 ?_
  refine lSl w7 10 ?_
  obtain ⟨w9,s9⟩:=w7.pp [6,5,0,1,2,3,4,7,8,9,10] 11
  have f10:=W.borrow1 eI w9 (Rp.step (s1.trans (s7.trans s9)))
  obtain ⟨w10,s10⟩:=w9.right1
  have f11:=W.borrow1 eI w10 ((JT.step (s1.trans (s7.trans s9))).step s10)
  obtain ⟨w11,s11⟩:=w10.right1
  obtain ⟨r12,e12,hp⟩:=ah hp
  refine aR (dU.P rfl rfl ⟨w11,(f10.step s11),f11⟩ e12) ?_
  rintro _ H13 ⟨o2a_13,o2n_13,o2c_13,o2k_13,rfl,rfl,w13,s13,f13_0⟩
  obtain ⟨w14,s14⟩:=W.frame1 w10 w13 s13
  obtain ⟨w15,s15⟩:=W.frame1 w9 w14 s14
  refine br (br (br (br (br (br (br (br (br (br (br ?_))))))))))
  refine bm w15 λH16 w16 s16=>?_
  refine aj w16 0 λH17 w17 s17=>?_
  refine aj w17 0 λH18 w18 s18=>?_
  refine aj w18 0 λH19 w19 s19=>?_
  refine lI w19 12 ?_
  refine lI w19 12 ?_
  refine lSl w19 12 ?_
  refine lI w19 12 ?_
  refine lI w19 12 ?_
  refine lSl w19 12 ?_
  obtain ⟨w20,s20⟩:=w19.pp [11,10,0,1,2,3,4,5,6,7,8,9,12] 13
  have f21:=W.borrow1 eI w20 (Rq.step (s1.trans (s7.trans (s9.trans (s15.trans (s16.trans (s17.trans (s18.trans (s19.trans s20)))))))))
  obtain ⟨w21,s21⟩:=w20.right1
  have f22:=W.borrow1 eI w21 ((JU.step (s1.trans (s7.trans (s9.trans (s15.trans (s16.trans (s17.trans (s18.trans (s19.trans s20))))))))).step s21)
  obtain ⟨w22,s22⟩:=w21.right1
  obtain ⟨r23,e23,hp⟩:=ah hp
  refine aR (dU.P rfl rfl ⟨w22,(f21.step s22),f22⟩ e23) ?_
  rintro _ H24 ⟨o2a_24,o2n_24,o2c_24,o2k_24,rfl,rfl,w24,s24,f24_0⟩
  obtain ⟨w25,s25⟩:=W.frame1 w21 w24 s24
  obtain ⟨w26,s26⟩:=W.frame1 w20 w25 s25
  refine br (br (br (br (br (br (br (br (br (br (br ?_))))))))))
  refine bm w26 λH27 w27 s27=>?_
  refine aj w27 0 λH28 w28 s28=>?_
  refine aj w28 0 λH29 w29 s29=>?_
  refine aj w29 0 λH30 w30 s30=>?_
  dsimp only [pk,pks,nth,List.drop,List.set,List.eraseIdx] at w30 s1 s9 s16 s17 s18 s19 s20 s27 s28 s29 s30
  refine lI w30 14 ?_
  refine lI w30 14 ?_
  refine lSl w30 14 ?_
  refine lI w30 12 ?_
  refine lI w30 12 ?_
  refine lSl w30 12 ?_
  obtain ⟨w31,s31⟩:=w30.pp [6,11,0,1,2,3,4,5,7,8,9,10,12,13,14] 15
  have f32:=W.borrow1 eI w31 (JT.step (s1.trans (s7.trans (s9.trans (s15.trans (s16.trans (s17.trans (s18.trans (s19.trans (s20.trans (s26.trans (s27.trans (s28.trans (s29.trans (s30.trans s31)))))))))))))))
  obtain ⟨w32,s32⟩:=w31.right1
  have f33:=W.borrow1 eI w32 ((sj.step (s1.trans (s7.trans (s9.trans (s15.trans (s16.trans (s17.trans (s18.trans (s19.trans (s20.trans (s26.trans (s27.trans (s28.trans (s29.trans (s30.trans s31))))))))))))))).step s32)
  obtain ⟨w33,s33⟩:=w32.right1
  obtain ⟨r34,e34,hp⟩:=ah hp
  refine aR (dU.P rfl rfl ⟨w33,(f32.step s33),f33⟩ e34) ?_
  rintro _ H35 ⟨o2a_35,o2n_35,o2c_35,o2k_35,rfl,rfl,w35,s35,f35_0⟩
  obtain ⟨w36,s36⟩:=W.frame1 w32 w35 s35
  obtain ⟨w37,s37⟩:=W.frame1 w31 w36 s36
  refine br (br (br (br (br (br (br (br (br (br (br ?_))))))))))
  refine bm w37 λH38 w38 s38=>?_
  refine aj w38 0 λH39 w39 s39=>?_
  refine aj w39 0 λH40 w40 s40=>?_
  refine aj w40 0 λH41 w41 s41=>?_
  refine lI w41 0 ?_
  refine lI w41 0 ?_
  refine lSl w41 0 ?_
  refine lI w41 16 ?_
  refine lI w41 16 ?_
  refine lSl w41 16 ?_
  obtain ⟨w42,s42⟩:=w41.pp [3,6,0,1,2,4,5,7,8,9,10,11,12,13,14,15,16] 17
  have f43:=W.borrow1 eI w42 ((CR.flat (jX .i64) f35_0).step (s38.trans (s39.trans (s40.trans (s41.trans s42)))))
  obtain ⟨w43,s43⟩:=w42.right1
  have f44:=W.borrow1 eI w43 ((JU.step (s1.trans (s7.trans (s9.trans (s15.trans (s16.trans (s17.trans (s18.trans (s19.trans (s20.trans (s26.trans (s27.trans (s28.trans (s29.trans (s30.trans (s31.trans (s37.trans (s38.trans (s39.trans (s40.trans (s41.trans s42))))))))))))))))))))).step s43)
  obtain ⟨w44,s44⟩:=w43.right1
  obtain ⟨r45,e45,hp⟩:=ah hp
  refine aR (dU.P rfl rfl ⟨w44,(f43.step s44),f44⟩ e45) ?_
  rintro _ H46 ⟨o2a_46,o2n_46,o2c_46,o2k_46,rfl,rfl,w46,s46,f46_0⟩
  obtain ⟨w47,s47⟩:=W.frame1 w43 w46 s46
  obtain ⟨w48,s48⟩:=W.frame1 w42 w47 s47
  refine br (br (br (br (br (br (br (br (br (br (br ?_))))))))))
  refine bm w48 λH49 w49 s49=>?_
  refine aj w49 0 λH50 w50 s50=>?_
  refine aj w50 0 λH51 w51 s51=>?_
  refine aj w51 0 λH52 w52 s52=>?_
  refine aA hp (λhp=>?_) λhp=>?_
  ·refine aA hp (λhp=>?_) λhp=>?_
   ·refine aA hp (λhp=>?_) λhp=>?_
    ·refine aA hp (λhp=>?_) λhp=>?_
     ·refine lI w52 16 ?_
      refine lI w52 16 ?_
      refine lSl w52 16 ?_
      refine lI w52 18 ?_
      refine lI w52 18 ?_
      refine lSl w52 18 ?_
      refine lI w52 18 ?_
      refine lI w52 18 ?_
      refine lSl w52 18 ?_
      refine lI w52 18 ?_
      refine lI w52 18 ?_
      refine lSl w52 18 ?_
      refine lI w52 18 ?_
      refine lI w52 18 ?_
      refine lSl w52 18 ?_
      refine lI w52 18 ?_
      refine lI w52 18 ?_
      refine lSl w52 18 ?_
      obtain ⟨w53,s53⟩:=w52.pp [6,5,11,17,2,8,0,1,3,4,7,9,10,12,13,14,15,16,18] 19
      dsimp only [pk,pks,nth,List.drop,List.set,List.eraseIdx] at w53 s31 s38 s39 s40 s41 s42 s49 s50 s51 s52 s53
      have f54:=W.borrow1 eI w53 (sj.step (s1.trans (s7.trans (s9.trans (s15.trans (s16.trans (s17.trans (s18.trans (s19.trans (s20.trans (s26.trans (s27.trans (s28.trans (s29.trans (s30.trans (s31.trans (s37.trans (s38.trans (s39.trans (s40.trans (s41.trans (s42.trans (s48.trans (s49.trans (s50.trans (s51.trans (s52.trans s53)))))))))))))))))))))))))))
      obtain ⟨w54,s54⟩:=w53.right1
      have f55:=W.borrow1 eI w54 ((JT.step (s1.trans (s7.trans (s9.trans (s15.trans (s16.trans (s17.trans (s18.trans (s19.trans (s20.trans (s26.trans (s27.trans (s28.trans (s29.trans (s30.trans (s31.trans (s37.trans (s38.trans (s39.trans (s40.trans (s41.trans (s42.trans (s48.trans (s49.trans (s50.trans (s51.trans (s52.trans s53))))))))))))))))))))))))))).step s54)
      obtain ⟨w55,s55⟩:=w54.right1
      have f56:=W.borrow1 eI w55 (((Rp.step (s1.trans (s7.trans (s9.trans (s15.trans (s16.trans (s17.trans (s18.trans (s19.trans (s20.trans (s26.trans (s27.trans (s28.trans (s29.trans (s30.trans (s31.trans (s37.trans (s38.trans (s39.trans (s40.trans (s41.trans (s42.trans (s48.trans (s49.trans (s50.trans (s51.trans (s52.trans s53))))))))))))))))))))))))))).step s54).step s55)
      obtain ⟨w56,s56⟩:=w55.right1
      have f57:=W.borrow1 eI w56 ((((ZY.step (s1.trans (s7.trans (s9.trans (s15.trans (s16.trans (s17.trans (s18.trans (s19.trans (s20.trans (s26.trans (s27.trans (s28.trans (s29.trans (s30.trans (s31.trans (s37.trans (s38.trans (s39.trans (s40.trans (s41.trans (s42.trans (s48.trans (s49.trans (s50.trans (s51.trans (s52.trans s53))))))))))))))))))))))))))).step s54).step s55).step s56)
      obtain ⟨w57,s57⟩:=w56.right1
      have f58:=W.borrow1 eI w57 (((((JU.step (s1.trans (s7.trans (s9.trans (s15.trans (s16.trans (s17.trans (s18.trans (s19.trans (s20.trans (s26.trans (s27.trans (s28.trans (s29.trans (s30.trans (s31.trans (s37.trans (s38.trans (s39.trans (s40.trans (s41.trans (s42.trans (s48.trans (s49.trans (s50.trans (s51.trans (s52.trans s53))))))))))))))))))))))))))).step s54).step s55).step s56).step s57)
      obtain ⟨w58,s58⟩:=w57.right1
      have f59:=W.borrow1 eI w58 ((((((Rq.step (s1.trans (s7.trans (s9.trans (s15.trans (s16.trans (s17.trans (s18.trans (s19.trans (s20.trans (s26.trans (s27.trans (s28.trans (s29.trans (s30.trans (s31.trans (s37.trans (s38.trans (s39.trans (s40.trans (s41.trans (s42.trans (s48.trans (s49.trans (s50.trans (s51.trans (s52.trans s53))))))))))))))))))))))))))).step s54).step s55).step s56).step s57).step s58)
      obtain ⟨w59,s59⟩:=w58.right1
      obtain ⟨r60,e60,hp⟩:=ah hp
      refine aR (eN.P rfl rfl rfl rfl rfl rfl ⟨w59,(((((f54.step s55).step s56).step s57).step s58).step s59),((((f55.step s56).step s57).step s58).step s59),(((f56.step s57).step s58).step s59),((f57.step s58).step s59),(f58.step s59),f59⟩ e60) ?_
      rintro _ H61 ⟨rfl,w61,s61,_⟩
      obtain ⟨w62,s62⟩:=W.frame1 w58 w61 s61
      obtain ⟨w63,s63⟩:=W.frame1 w57 w62 s62
      obtain ⟨w64,s64⟩:=W.frame1 w56 w63 s63
      obtain ⟨w65,s65⟩:=W.frame1 w55 w64 s64
      obtain ⟨w66,s66⟩:=W.frame1 w54 w65 s65
      obtain ⟨w67,s67⟩:=W.frame1 w53 w66 s66
      refine br ?_
      refine aA hp (λhp=>?_) λhp=>?_
      ·obtain ⟨w68,s68⟩:=w67.pp [] 19
       exact aF hp ⟨rfl,w68,(s0.trans (s1.trans (s7.trans (s9.trans (s15.trans (s16.trans (s17.trans (s18.trans (s19.trans (s20.trans (s26.trans (s27.trans (s28.trans (s29.trans (s30.trans (s31.trans (s37.trans (s38.trans (s39.trans (s40.trans (s41.trans (s42.trans (s48.trans (s49.trans (s50.trans (s51.trans (s52.trans (s53.trans (s67.trans s68))))))))))))))))))))))))))))),trivial⟩
      ·refine lI w67 17 ?_
       obtain ⟨w69,s69⟩:=w67.pp [16,0,1,2,3,4,5,6,7,8,9,10,11,12,13,14,15,17,18] 19
       obtain ⟨r70,e70,hp⟩:=ah hp
       refine aR (aY.P rfl ⟨w69,(ob.step (s1.trans (s7.trans (s9.trans (s15.trans (s16.trans (s17.trans (s18.trans (s19.trans (s20.trans (s26.trans (s27.trans (s28.trans (s29.trans (s30.trans (s31.trans (s37.trans (s38.trans (s39.trans (s40.trans (s41.trans (s42.trans (s48.trans (s49.trans (s50.trans (s51.trans (s52.trans (s53.trans (s67.trans s69)))))))))))))))))))))))))))))⟩ e70) ?_
       rintro _ H71 ⟨o0a_71,o0n_71,o0c_71,o0k_71,rfl,rfl,w71,s71,f71_0⟩
       refine br ?_
       refine lI w71 18 ?_
       obtain ⟨w72,s72⟩:=w71.pp [1,0,2,3,4,5,6,7,8,9,10,11,12,13,14,15,16,17,18,19] 20
       obtain ⟨r73,e73,hp⟩:=ah hp
       refine aR (aY.P rfl ⟨w72,(ob.step (s1.trans (s7.trans (s9.trans (s15.trans (s16.trans (s17.trans (s18.trans (s19.trans (s20.trans (s26.trans (s27.trans (s28.trans (s29.trans (s30.trans (s31.trans (s37.trans (s38.trans (s39.trans (s40.trans (s41.trans (s42.trans (s48.trans (s49.trans (s50.trans (s51.trans (s52.trans (s53.trans (s67.trans (s69.trans (s71.trans s72)))))))))))))))))))))))))))))))⟩ e73) ?_
       rintro _ H74 ⟨o0a_74,o0n_74,o0c_74,o0k_74,rfl,rfl,w74,s74,f74_0⟩
       refine br ?_
       refine sv ⟨⟨(jg (bT (w74.ld (i:=19) rfl rfl)) (jh _ _)),(jg (bT (w71.ld (i:=18) rfl rfl)) (jh _ _)),(jg (bT (w67.ld (i:=17) rfl rfl)) (jh _ _)),trivial⟩,trivial⟩ ?_
       refine lI w74 19 ?_
       refine lI w74 19 ?_
       refine bm w74 λH75 w75 s75=>?_
       refine aj w75 0 λH76 w76 s76=>?_
       refine aj w76 0 λH77 w77 s77=>?_
       refine aj w77 0 λH78 w78 s78=>?_
       obtain ⟨w79,s79⟩:=w78.nilS eI.z (by decide)
       obtain ⟨w80,s80⟩:=w79.pp [5,21,20,4,2,0,1] 23
       exact ap.l4194301_P F rfl rfl rfl rfl rfl ⟨w80,(s0.trans (s1.trans (s7.trans (s9.trans (s15.trans (s16.trans (s17.trans (s18.trans (s19.trans (s20.trans (s26.trans (s27.trans (s28.trans (s29.trans (s30.trans (s31.trans (s37.trans (s38.trans (s39.trans (s40.trans (s41.trans (s42.trans (s48.trans (s49.trans (s50.trans (s51.trans (s52.trans (s53.trans (s67.trans (s69.trans (s71.trans (s72.trans (s74.trans (s75.trans (s76.trans (s77.trans (s78.trans (s79.trans s80)))))))))))))))))))))))))))))))))))))),(sj.step (s1.trans (s7.trans (s9.trans (s15.trans (s16.trans (s17.trans (s18.trans (s19.trans (s20.trans (s26.trans (s27.trans (s28.trans (s29.trans (s30.trans (s31.trans (s37.trans (s38.trans (s39.trans (s40.trans (s41.trans (s42.trans (s48.trans (s49.trans (s50.trans (s51.trans (s52.trans (s53.trans (s67.trans (s69.trans (s71.trans (s72.trans (s74.trans (s75.trans (s76.trans (s77.trans (s78.trans (s79.trans s80)))))))))))))))))))))))))))))))))))))),(wK.step (s1.trans (s7.trans (s9.trans (s15.trans (s16.trans (s17.trans (s18.trans (s19.trans (s20.trans (s26.trans (s27.trans (s28.trans (s29.trans (s30.trans (s31.trans (s37.trans (s38.trans (s39.trans (s40.trans (s41.trans (s42.trans (s48.trans (s49.trans (s50.trans (s51.trans (s52.trans (s53.trans (s67.trans (s69.trans (s71.trans (s72.trans (s74.trans (s75.trans (s76.trans (s77.trans (s78.trans (s79.trans s80)))))))))))))))))))))))))))))))))))))),(f71_0.step (s72.trans (s74.trans (s75.trans (s76.trans (s77.trans (s78.trans (s79.trans s80)))))))),(f74_0.step (s75.trans (s76.trans (s77.trans (s78.trans (s79.trans s80)))))),((CR.empty:CR eI _ _ [] []).step s80)⟩ hp
     ·refine lI w52 16 ?_
      obtain ⟨w81,s81⟩:=w52.pp [15,0,1,2,3,4,5,6,7,8,9,10,11,12,13,14,16,17,18] 19
      dsimp only [pk,pks,nth,List.drop,List.set,List.eraseIdx] at w81 s31 s38 s39 s40 s41 s42 s49 s50 s51 s52 s81
      obtain ⟨r82,e82,hp⟩:=ah hp
      refine aR (aY.P rfl ⟨w81,(ob.step (s1.trans (s7.trans (s9.trans (s15.trans (s16.trans (s17.trans (s18.trans (s19.trans (s20.trans (s26.trans (s27.trans (s28.trans (s29.trans (s30.trans (s31.trans (s37.trans (s38.trans (s39.trans (s40.trans (s41.trans (s42.trans (s48.trans (s49.trans (s50.trans (s51.trans (s52.trans s81)))))))))))))))))))))))))))⟩ e82) ?_
      rintro _ H83 ⟨o0a_83,o0n_83,o0c_83,o0k_83,rfl,rfl,w83,s83,f83_0⟩
      refine br ?_
      refine lI w83 17 ?_
      obtain ⟨w84,s84⟩:=w83.pp [1,0,2,3,4,5,6,7,8,9,10,11,12,13,14,15,16,17,18,19] 20
      obtain ⟨r85,e85,hp⟩:=ah hp
      refine aR (aY.P rfl ⟨w84,(ob.step (s1.trans (s7.trans (s9.trans (s15.trans (s16.trans (s17.trans (s18.trans (s19.trans (s20.trans (s26.trans (s27.trans (s28.trans (s29.trans (s30.trans (s31.trans (s37.trans (s38.trans (s39.trans (s40.trans (s41.trans (s42.trans (s48.trans (s49.trans (s50.trans (s51.trans (s52.trans (s81.trans (s83.trans s84)))))))))))))))))))))))))))))⟩ e85) ?_
      rintro _ H86 ⟨o0a_86,o0n_86,o0c_86,o0k_86,rfl,rfl,w86,s86,f86_0⟩
      refine br ?_
      refine sv ⟨⟨(jg (bT (w86.ld (i:=18) rfl rfl)) (jh _ _)),(jg (bT (w83.ld (i:=17) rfl rfl)) (jh _ _)),(jg (bT (w52.ld (i:=16) rfl rfl)) (jh _ _)),trivial⟩,trivial⟩ ?_
      refine lI w86 18 ?_
      refine lI w86 18 ?_
      refine bm w86 λH87 w87 s87=>?_
      refine aj w87 0 λH88 w88 s88=>?_
      refine aj w88 0 λH89 w89 s89=>?_
      refine aj w89 0 λH90 w90 s90=>?_
      obtain ⟨w91,s91⟩:=w90.nilS eI.z (by decide)
      obtain ⟨w92,s92⟩:=w91.pp [11,20,19,4,2,0,1] 23
      exact ap.l4194301_P F rfl rfl rfl rfl rfl ⟨w92,(s0.trans (s1.trans (s7.trans (s9.trans (s15.trans (s16.trans (s17.trans (s18.trans (s19.trans (s20.trans (s26.trans (s27.trans (s28.trans (s29.trans (s30.trans (s31.trans (s37.trans (s38.trans (s39.trans (s40.trans (s41.trans (s42.trans (s48.trans (s49.trans (s50.trans (s51.trans (s52.trans (s81.trans (s83.trans (s84.trans (s86.trans (s87.trans (s88.trans (s89.trans (s90.trans (s91.trans s92)))))))))))))))))))))))))))))))))))),(sj.step (s1.trans (s7.trans (s9.trans (s15.trans (s16.trans (s17.trans (s18.trans (s19.trans (s20.trans (s26.trans (s27.trans (s28.trans (s29.trans (s30.trans (s31.trans (s37.trans (s38.trans (s39.trans (s40.trans (s41.trans (s42.trans (s48.trans (s49.trans (s50.trans (s51.trans (s52.trans (s81.trans (s83.trans (s84.trans (s86.trans (s87.trans (s88.trans (s89.trans (s90.trans (s91.trans s92)))))))))))))))))))))))))))))))))))),(wK.step (s1.trans (s7.trans (s9.trans (s15.trans (s16.trans (s17.trans (s18.trans (s19.trans (s20.trans (s26.trans (s27.trans (s28.trans (s29.trans (s30.trans (s31.trans (s37.trans (s38.trans (s39.trans (s40.trans (s41.trans (s42.trans (s48.trans (s49.trans (s50.trans (s51.trans (s52.trans (s81.trans (s83.trans (s84.trans (s86.trans (s87.trans (s88.trans (s89.trans (s90.trans (s91.trans s92)))))))))))))))))))))))))))))))))))),(f83_0.step (s84.trans (s86.trans (s87.trans (s88.trans (s89.trans (s90.trans (s91.trans s92)))))))),(f86_0.step (s87.trans (s88.trans (s89.trans (s90.trans (s91.trans s92)))))),((CR.empty:CR eI _ _ [] []).step s92)⟩ hp
    ·refine lI w52 16 ?_
     obtain ⟨w93,s93⟩:=w52.pp [15,0,1,2,3,4,5,6,7,8,9,10,11,12,13,14,16,17,18] 19
     dsimp only [pk,pks,nth,List.drop,List.set,List.eraseIdx] at w93 s31 s38 s39 s40 s41 s42 s49 s50 s51 s52 s93
     obtain ⟨r94,e94,hp⟩:=ah hp
     refine aR (aY.P rfl ⟨w93,(ob.step (s1.trans (s7.trans (s9.trans (s15.trans (s16.trans (s17.trans (s18.trans (s19.trans (s20.trans (s26.trans (s27.trans (s28.trans (s29.trans (s30.trans (s31.trans (s37.trans (s38.trans (s39.trans (s40.trans (s41.trans (s42.trans (s48.trans (s49.trans (s50.trans (s51.trans (s52.trans s93)))))))))))))))))))))))))))⟩ e94) ?_
     rintro _ H95 ⟨o0a_95,o0n_95,o0c_95,o0k_95,rfl,rfl,w95,s95,f95_0⟩
     refine br ?_
     refine lI w95 17 ?_
     obtain ⟨w96,s96⟩:=w95.pp [1,0,2,3,4,5,6,7,8,9,10,11,12,13,14,15,16,17,18,19] 20
     obtain ⟨r97,e97,hp⟩:=ah hp
     refine aR (aY.P rfl ⟨w96,(ob.step (s1.trans (s7.trans (s9.trans (s15.trans (s16.trans (s17.trans (s18.trans (s19.trans (s20.trans (s26.trans (s27.trans (s28.trans (s29.trans (s30.trans (s31.trans (s37.trans (s38.trans (s39.trans (s40.trans (s41.trans (s42.trans (s48.trans (s49.trans (s50.trans (s51.trans (s52.trans (s93.trans (s95.trans s96)))))))))))))))))))))))))))))⟩ e97) ?_
     rintro _ H98 ⟨o0a_98,o0n_98,o0c_98,o0k_98,rfl,rfl,w98,s98,f98_0⟩
     refine br ?_
     refine sv ⟨⟨(jg (bT (w98.ld (i:=18) rfl rfl)) (jh _ _)),(jg (bT (w95.ld (i:=17) rfl rfl)) (jh _ _)),(jg (bT (w52.ld (i:=16) rfl rfl)) (jh _ _)),trivial⟩,trivial⟩ ?_
     refine lI w98 18 ?_
     refine lI w98 18 ?_
     refine bm w98 λH99 w99 s99=>?_
     refine aj w99 0 λH100 w100 s100=>?_
     refine aj w100 0 λH101 w101 s101=>?_
     refine aj w101 0 λH102 w102 s102=>?_
     obtain ⟨w103,s103⟩:=w102.nilS eI.z (by decide)
     obtain ⟨w104,s104⟩:=w103.pp [11,20,19,4,2,0,1] 23
     exact ap.l4194301_P F rfl rfl rfl rfl rfl ⟨w104,(s0.trans (s1.trans (s7.trans (s9.trans (s15.trans (s16.trans (s17.trans (s18.trans (s19.trans (s20.trans (s26.trans (s27.trans (s28.trans (s29.trans (s30.trans (s31.trans (s37.trans (s38.trans (s39.trans (s40.trans (s41.trans (s42.trans (s48.trans (s49.trans (s50.trans (s51.trans (s52.trans (s93.trans (s95.trans (s96.trans (s98.trans (s99.trans (s100.trans (s101.trans (s102.trans (s103.trans s104)))))))))))))))))))))))))))))))))))),(sj.step (s1.trans (s7.trans (s9.trans (s15.trans (s16.trans (s17.trans (s18.trans (s19.trans (s20.trans (s26.trans (s27.trans (s28.trans (s29.trans (s30.trans (s31.trans (s37.trans (s38.trans (s39.trans (s40.trans (s41.trans (s42.trans (s48.trans (s49.trans (s50.trans (s51.trans (s52.trans (s93.trans (s95.trans (s96.trans (s98.trans (s99.trans (s100.trans (s101.trans (s102.trans (s103.trans s104)))))))))))))))))))))))))))))))))))),(wK.step (s1.trans (s7.trans (s9.trans (s15.trans (s16.trans (s17.trans (s18.trans (s19.trans (s20.trans (s26.trans (s27.trans (s28.trans (s29.trans (s30.trans (s31.trans (s37.trans (s38.trans (s39.trans (s40.trans (s41.trans (s42.trans (s48.trans (s49.trans (s50.trans (s51.trans (s52.trans (s93.trans (s95.trans (s96.trans (s98.trans (s99.trans (s100.trans (s101.trans (s102.trans (s103.trans s104)))))))))))))))))))))))))))))))))))),(f95_0.step (s96.trans (s98.trans (s99.trans (s100.trans (s101.trans (s102.trans (s103.trans s104)))))))),(f98_0.step (s99.trans (s100.trans (s101.trans (s102.trans (s103.trans s104)))))),((CR.empty:CR eI _ _ [] []).step s104)⟩ hp
   ·refine lI w52 16 ?_
    obtain ⟨w105,s105⟩:=w52.pp [15,0,1,2,3,4,5,6,7,8,9,10,11,12,13,14,16,17,18] 19
    dsimp only [pk,pks,nth,List.drop,List.set,List.eraseIdx] at w105 s31 s38 s39 s40 s41 s42 s49 s50 s51 s52 s105
    obtain ⟨r106,e106,hp⟩:=ah hp
    refine aR (aY.P rfl ⟨w105,(ob.step (s1.trans (s7.trans (s9.trans (s15.trans (s16.trans (s17.trans (s18.trans (s19.trans (s20.trans (s26.trans (s27.trans (s28.trans (s29.trans (s30.trans (s31.trans (s37.trans (s38.trans (s39.trans (s40.trans (s41.trans (s42.trans (s48.trans (s49.trans (s50.trans (s51.trans (s52.trans s105)))))))))))))))))))))))))))⟩ e106) ?_
    rintro _ H107 ⟨o0a_107,o0n_107,o0c_107,o0k_107,rfl,rfl,w107,s107,f107_0⟩
    refine br ?_
    refine lI w107 17 ?_
    obtain ⟨w108,s108⟩:=w107.pp [1,0,2,3,4,5,6,7,8,9,10,11,12,13,14,15,16,17,18,19] 20
    obtain ⟨r109,e109,hp⟩:=ah hp
    refine aR (aY.P rfl ⟨w108,(ob.step (s1.trans (s7.trans (s9.trans (s15.trans (s16.trans (s17.trans (s18.trans (s19.trans (s20.trans (s26.trans (s27.trans (s28.trans (s29.trans (s30.trans (s31.trans (s37.trans (s38.trans (s39.trans (s40.trans (s41.trans (s42.trans (s48.trans (s49.trans (s50.trans (s51.trans (s52.trans (s105.trans (s107.trans s108)))))))))))))))))))))))))))))⟩ e109) ?_
    rintro _ H110 ⟨o0a_110,o0n_110,o0c_110,o0k_110,rfl,rfl,w110,s110,f110_0⟩
    refine br ?_
    refine sv ⟨⟨(jg (bT (w110.ld (i:=18) rfl rfl)) (jh _ _)),(jg (bT (w107.ld (i:=17) rfl rfl)) (jh _ _)),(jg (bT (w52.ld (i:=16) rfl rfl)) (jh _ _)),trivial⟩,trivial⟩ ?_
    refine lI w110 18 ?_
    refine lI w110 18 ?_
    refine bm w110 λH111 w111 s111=>?_
    refine aj w111 0 λH112 w112 s112=>?_
    refine aj w112 0 λH113 w113 s113=>?_
    refine aj w113 0 λH114 w114 s114=>?_
    obtain ⟨w115,s115⟩:=w114.nilS eI.z (by decide)
    obtain ⟨w116,s116⟩:=w115.pp [11,20,19,4,2,0,1] 23
    exact ap.l4194301_P F rfl rfl rfl rfl rfl ⟨w116,(s0.trans (s1.trans (s7.trans (s9.trans (s15.trans (s16.trans (s17.trans (s18.trans (s19.trans (s20.trans (s26.trans (s27.trans (s28.trans (s29.trans (s30.trans (s31.trans (s37.trans (s38.trans (s39.trans (s40.trans (s41.trans (s42.trans (s48.trans (s49.trans (s50.trans (s51.trans (s52.trans (s105.trans (s107.trans (s108.trans (s110.trans (s111.trans (s112.trans (s113.trans (s114.trans (s115.trans s116)))))))))))))))))))))))))))))))))))),(sj.step (s1.trans (s7.trans (s9.trans (s15.trans (s16.trans (s17.trans (s18.trans (s19.trans (s20.trans (s26.trans (s27.trans (s28.trans (s29.trans (s30.trans (s31.trans (s37.trans (s38.trans (s39.trans (s40.trans (s41.trans (s42.trans (s48.trans (s49.trans (s50.trans (s51.trans (s52.trans (s105.trans (s107.trans (s108.trans (s110.trans (s111.trans (s112.trans (s113.trans (s114.trans (s115.trans s116)))))))))))))))))))))))))))))))))))),(wK.step (s1.trans (s7.trans (s9.trans (s15.trans (s16.trans (s17.trans (s18.trans (s19.trans (s20.trans (s26.trans (s27.trans (s28.trans (s29.trans (s30.trans (s31.trans (s37.trans (s38.trans (s39.trans (s40.trans (s41.trans (s42.trans (s48.trans (s49.trans (s50.trans (s51.trans (s52.trans (s105.trans (s107.trans (s108.trans (s110.trans (s111.trans (s112.trans (s113.trans (s114.trans (s115.trans s116)))))))))))))))))))))))))))))))))))),(f107_0.step (s108.trans (s110.trans (s111.trans (s112.trans (s113.trans (s114.trans (s115.trans s116)))))))),(f110_0.step (s111.trans (s112.trans (s113.trans (s114.trans (s115.trans s116)))))),((CR.empty:CR eI _ _ [] []).step s116)⟩ hp
  ·refine lI w52 16 ?_
   obtain ⟨w117,s117⟩:=w52.pp [15,0,1,2,3,4,5,6,7,8,9,10,11,12,13,14,16,17,18] 19
   dsimp only [pk,pks,nth,List.drop,List.set,List.eraseIdx] at w117 s31 s38 s39 s40 s41 s42 s49 s50 s51 s52 s117
   obtain ⟨r118,e118,hp⟩:=ah hp
   refine aR (aY.P rfl ⟨w117,(ob.step (s1.trans (s7.trans (s9.trans (s15.trans (s16.trans (s17.trans (s18.trans (s19.trans (s20.trans (s26.trans (s27.trans (s28.trans (s29.trans (s30.trans (s31.trans (s37.trans (s38.trans (s39.trans (s40.trans (s41.trans (s42.trans (s48.trans (s49.trans (s50.trans (s51.trans (s52.trans s117)))))))))))))))))))))))))))⟩ e118) ?_
   rintro _ H119 ⟨o0a_119,o0n_119,o0c_119,o0k_119,rfl,rfl,w119,s119,f119_0⟩
   refine br ?_
   refine lI w119 17 ?_
   obtain ⟨w120,s120⟩:=w119.pp [1,0,2,3,4,5,6,7,8,9,10,11,12,13,14,15,16,17,18,19] 20
   obtain ⟨r121,e121,hp⟩:=ah hp
   refine aR (aY.P rfl ⟨w120,(ob.step (s1.trans (s7.trans (s9.trans (s15.trans (s16.trans (s17.trans (s18.trans (s19.trans (s20.trans (s26.trans (s27.trans (s28.trans (s29.trans (s30.trans (s31.trans (s37.trans (s38.trans (s39.trans (s40.trans (s41.trans (s42.trans (s48.trans (s49.trans (s50.trans (s51.trans (s52.trans (s117.trans (s119.trans s120)))))))))))))))))))))))))))))⟩ e121) ?_
   rintro _ H122 ⟨o0a_122,o0n_122,o0c_122,o0k_122,rfl,rfl,w122,s122,f122_0⟩
   refine br ?_
   refine sv ⟨⟨(jg (bT (w122.ld (i:=18) rfl rfl)) (jh _ _)),(jg (bT (w119.ld (i:=17) rfl rfl)) (jh _ _)),(jg (bT (w52.ld (i:=16) rfl rfl)) (jh _ _)),trivial⟩,trivial⟩ ?_
   refine lI w122 18 ?_
   refine lI w122 18 ?_
   refine bm w122 λH123 w123 s123=>?_
   refine aj w123 0 λH124 w124 s124=>?_
   refine aj w124 0 λH125 w125 s125=>?_
   refine aj w125 0 λH126 w126 s126=>?_
   obtain ⟨w127,s127⟩:=w126.nilS eI.z (by decide)
   obtain ⟨w128,s128⟩:=w127.pp [11,20,19,4,2,0,1] 23
   exact ap.l4194301_P F rfl rfl rfl rfl rfl ⟨w128,(s0.trans (s1.trans (s7.trans (s9.trans (s15.trans (s16.trans (s17.trans (s18.trans (s19.trans (s20.trans (s26.trans (s27.trans (s28.trans (s29.trans (s30.trans (s31.trans (s37.trans (s38.trans (s39.trans (s40.trans (s41.trans (s42.trans (s48.trans (s49.trans (s50.trans (s51.trans (s52.trans (s117.trans (s119.trans (s120.trans (s122.trans (s123.trans (s124.trans (s125.trans (s126.trans (s127.trans s128)))))))))))))))))))))))))))))))))))),(sj.step (s1.trans (s7.trans (s9.trans (s15.trans (s16.trans (s17.trans (s18.trans (s19.trans (s20.trans (s26.trans (s27.trans (s28.trans (s29.trans (s30.trans (s31.trans (s37.trans (s38.trans (s39.trans (s40.trans (s41.trans (s42.trans (s48.trans (s49.trans (s50.trans (s51.trans (s52.trans (s117.trans (s119.trans (s120.trans (s122.trans (s123.trans (s124.trans (s125.trans (s126.trans (s127.trans s128)))))))))))))))))))))))))))))))))))),(wK.step (s1.trans (s7.trans (s9.trans (s15.trans (s16.trans (s17.trans (s18.trans (s19.trans (s20.trans (s26.trans (s27.trans (s28.trans (s29.trans (s30.trans (s31.trans (s37.trans (s38.trans (s39.trans (s40.trans (s41.trans (s42.trans (s48.trans (s49.trans (s50.trans (s51.trans (s52.trans (s117.trans (s119.trans (s120.trans (s122.trans (s123.trans (s124.trans (s125.trans (s126.trans (s127.trans s128)))))))))))))))))))))))))))))))))))),(f119_0.step (s120.trans (s122.trans (s123.trans (s124.trans (s125.trans (s126.trans (s127.trans s128)))))))),(f122_0.step (s123.trans (s124.trans (s125.trans (s126.trans (s127.trans s128)))))),((CR.empty:CR eI _ _ [] []).step s128)⟩ hp
def ap.pl8189 (F:Nat) :Nat->List Int->Int->Int->Int->Int->List Int->Int->Int->List Int->Int->Int->List Int->Int->Int->List Int->Int->Int->List Int->Int->Int->List Int->List Int->List Int->Int->Option (Bool)
 | 0,_,_,_,_,_,_,_,_,_,_,_,_,_,_,_,_,_,_,_,_,_,_,_,_=>none
 | k+1,qn,rO,rP,pe,n_,qo,rQ,rR,qp,rS,rT,qq,rU,rV,lR,rW,rX,qs,rY,rZ,qt,qu,qv,jJ=>(bif (decide (jJ<(if n_<pe then n_ else pe))) then ((ix lR (wrap .i64 ((wrap .i64 (jJ * n_))+jJ))).bind λn1=>(bif ((gt lR n1) != 0) then ((apn qv ([(gt lR n1)]:List Int)).bind λl3=>ap.pj8 F (ap.pl8189 F k) qn rO rP pe n_ qo rQ rR qp rS rT qq rU rV lR rW rX qs rY rZ qt qu l3 jJ) else (ap.pj8 F (ap.pl8189 F k) qn rO rP pe n_ qo rQ rR qp rS rT qq rU rV lR rW rX qs rY rZ qt qu qv jJ))) else (ap.pj7 F qn rO rP pe n_ qo rQ rR qp rS rT qq rU rV lR rW rX qs rY rZ qt qu qv))
theorem ap.l8189_P  :∀ k,ap.S8189 H0 Ri R0  (ap.l8189 F (gB.tw F) (ct.tw F) (fC.tw F) (fE.tw F) (eR.tw F) (eN.tw F) (bS.tw F) (cu.tw F) (dU.tw F) (aY.tw F)  k) (ap.pl8189 F  k):=by
 intro k
 induction k with
 | zero=>unfold ap.S8189;intros;rename_i hp;cases hp
 | succ k ih=>
  intro Ih Ii Ij Ik Il Im Io Ip Iq CK oM CL l_ CM CN CO CP CQ nV CS CT Ir Is It Iu Iv Iw Ix Iy Iz qn qo qp qq lR qs qt qu qv rO rP pe n_ rQ rR rS rT rU rV rW rX rY rZ jJ IA IB IC ID IE IF IG IH H Z_ aaa aab aac aad aae aaf aag aah h0 r hp
  obtain ⟨w0,s0,JV,JW,JX,JY,DF,JZ,J_,Ka,Kb⟩:=h0
  subst Z_
  subst aaa
  subst aab
  subst aac
  subst aad
  subst aae
  subst aaf
  subst aag
  subst aah
  unfold ap.pl8189 at hp
  unfold ap.l8189
  refine lI w0 2 ?_
  refine lI w0 2 ?_
  refine aA hp (λhp=>?_) λhp=>?_
  ·refine lSl w0 8 ?_
   refine lI w0 2 ?_
   obtain ⟨n1,g1,hp⟩:=ah hp
   obtain ⟨p1,q1,i1,h1,j1⟩:=W.ixo (E:=eI) w0 (i:=5) rfl rfl DF g1
   refine aK i1 ?_
   have h1:_=[_]:=h1
   subst h1
   refine aK (bT (j1 0 _ rfl)) ?_
   refine aA hp (λhp=>?_) λhp=>?_
   ·refine og eI w0 (n:=1) (l:=([(gt lR n1)]:List Int)) rfl (CR.cons1 rfl CR.empty) rfl λH2 w2 s2 c2=>?_
    refine aK (w2.rowo (i:=0) rfl) ?_
    obtain ⟨l3,e3,hp⟩:=ah hp
    refine wN eI w2 (i:=11) rfl rfl (Kb.step s2) c2 (show 1=List.length ([(gt lR n1)]:List Int) from rfl) rfl e3 λa4 d4 H4 w4 s4 c4 x4=>?_
    obtain ⟨w5,s5⟩:=w4.pp [1,2,3,4,5,6,7,8,9,10,11] 12
    exact ap.j8_P (@ih) rfl rfl rfl rfl rfl rfl rfl rfl rfl ⟨w5,(s0.trans (s2.trans (s4.trans s5))),(JV.step (s2.trans (s4.trans s5))),(JW.step (s2.trans (s4.trans s5))),(JX.step (s2.trans (s4.trans s5))),(JY.step (s2.trans (s4.trans s5))),(DF.step (s2.trans (s4.trans s5))),(JZ.step (s2.trans (s4.trans s5))),(J_.step (s2.trans (s4.trans s5))),(Ka.step (s2.trans (s4.trans s5))),(c4.step s5)⟩ hp
   ·exact ap.j8_P (@ih) rfl rfl rfl rfl rfl rfl rfl rfl rfl ⟨w0,s0,JV,JW,JX,JY,DF,JZ,J_,Ka,Kb⟩ hp
  ·exact ap.j7_P rfl rfl rfl rfl rfl rfl rfl rfl rfl ⟨w0,s0,JV,JW,JX,JY,DF,JZ,J_,Ka,Kb⟩ hp
def ap.p (F:Nat) (bg:ac7):Option (Bool):=(gB.p F bg).bind λr1=>(bif r1 then (some true) else ((ct.p F bg 7002).bind λr3=>(fC.p F bg).bind λr5=>(fE.p F r5.1 r5.2.1 r5.2.2).bind λr13=>(eR.p F r5.1 r5.2.1 r5.2.2).bind λr34=>(bif (r13.2.2.2.2.2.2.2.2.2.2.2.2.2.2.2 != r34.2) then (some false) else ((bif (r13.2.2.2.2.2.2.2.2.2.2.2.2.2.2.2 != 0) then ((bif ((r34.1.length:Int)==0) then ((eN.p F r5.1 r5.2.1 r5.2.2 r13.1 r13.2.1 r13.2.2.1 r13.2.2.2.1 r13.2.2.2.2.1 r13.2.2.2.2.2.1 r13.2.2.2.2.2.2.1 r13.2.2.2.2.2.2.2.1 r13.2.2.2.2.2.2.2.2.1 r13.2.2.2.2.2.2.2.2.2.1 r13.2.2.2.2.2.2.2.2.2.2.1 r13.2.2.2.2.2.2.2.2.2.2.2.1 r13.2.2.2.2.2.2.2.2.2.2.2.2.1 r13.2.2.2.2.2.2.2.2.2.2.2.2.2.1 r13.2.2.2.2.2.2.2.2.2.2.2.2.2.2.1).bind λr45=>some (!r45)) else (some false))) else ((bS.p F r13.2.2.2.2.2.2.1 r13.2.2.2.2.2.2.2.1 r13.2.2.2.2.2.2.2.2.1).bind λr57=>(bif (!r57) then (some false) else ((bif (r13.2.2.2.2.2.2.1 != r5.1) then (some false) else ((bif (r13.2.2.2.2.2.2.2.1 != r5.2.1) then (some false) else (ap.pl8189 F F r3.1 r3.2.1 r3.2.2 r5.1 r5.2.1 r5.2.2 r13.1 r13.2.1 r13.2.2.1 r13.2.2.2.1 r13.2.2.2.2.1 r13.2.2.2.2.2.1 r13.2.2.2.2.2.2.1 r13.2.2.2.2.2.2.2.1 r13.2.2.2.2.2.2.2.2.1 r13.2.2.2.2.2.2.2.2.2.1 r13.2.2.2.2.2.2.2.2.2.2.1 r13.2.2.2.2.2.2.2.2.2.2.2.1 r13.2.2.2.2.2.2.2.2.2.2.2.2.1 r13.2.2.2.2.2.2.2.2.2.2.2.2.2.1 r13.2.2.2.2.2.2.2.2.2.2.2.2.2.2.1 r34.1 ([]:List Int) 0))))))))))))
theorem ap.P {dV cw dW bg} (gv:cw=bg.length) (h0:Inn H R0 λR=>ROs (fz .u8) H R ⟨dV,cw,dW⟩ bg) {r:Bool} (hp:ap.p F bg=some r):Rt (ap.tw F ⟨dV,cw,dW⟩ H) (ap.Q H R0 R0  r):=by
 obtain ⟨w0,gM⟩:=h0
 subst gv
 unfold ap.p at hp
 unfold ap.tw ap.twX
 have s0:=w0.rf
 obtain ⟨r1,e1,hp⟩:=ah hp
 refine aR (gB.P rfl ⟨w0,gM⟩ e1) ?_
 rintro _ H2 ⟨rfl,w2,s2,_⟩
 refine br ?_
 refine aA hp (λhp=>?_) λhp=>?_
 ·exact aF hp ⟨rfl,w2,(s0.trans s2),trivial⟩
 ·obtain ⟨r3,e3,hp⟩:=ah hp
  refine aR (ct.P rfl ⟨w2,(gM.step s2)⟩ e3) ?_
  rintro _ H4 ⟨o0a_4,o0n_4,o0c_4,ob0_4,rfl,rfl,w4,s4,f4_0⟩
  refine br ?_
  obtain ⟨r5,e5,hp⟩:=ah hp
  refine aR (fC.P rfl ⟨w4,(gM.step (s2.trans s4))⟩ e5) ?_
  rintro _ H6 ⟨o2a_6,o2n_6,o2c_6,o2k_6,rfl,rfl,w6,s6,f6_0⟩
  refine br (br (br (br (br (br (br ?_))))))
  refine bm w6 λH7 w7 s7=>?_
  refine aj w7 0 λH8 w8 s8=>?_
  refine aj w8 0 λH9 w9 s9=>?_
  refine aj w9 0 λH10 w10 s10=>?_
  refine lI w10 0 ?_
  refine lI w10 0 ?_
  refine lSl w10 0 ?_
  obtain ⟨w11,s11⟩:=w10.pp [1,0,2] 3
  have f12:=W.borrow1 eI w11 (f6_0.step (s7.trans (s8.trans (s9.trans (s10.trans s11)))))
  obtain ⟨w12,s12⟩:=w11.right1
  obtain ⟨r13,e13,hp⟩:=ah hp
  refine aR (fE.P rfl ⟨w12,f12⟩ e13) ?_
  rintro _ H14 ⟨o2a_14,o2n_14,o2c_14,o2k_14,o5a_14,o5n_14,o5c_14,o5k_14,o8a_14,o8n_14,o8c_14,o8k_14,o11a_14,o11n_14,o11c_14,o11k_14,o14a_14,o14n_14,o14c_14,o14k_14,rfl,rfl,rfl,rfl,rfl,rfl,w14,s14,f14_0,f14_1,f14_2,f14_3,f14_4⟩
  obtain ⟨w15,s15⟩:=W.frame1 w11 w14 s14
  refine br (br (br (br (br (br (br (br (br (br (br (br (br (br (br (br (br (br (br (br (br (br (br (br (br (br (br (br (br (br (br (br (br (br (br ?_))))))))))))))))))))))))))))))))))
  refine bm w15 λH16 w16 s16=>?_
  refine aj w16 0 λH17 w17 s17=>?_
  refine aj w17 0 λH18 w18 s18=>?_
  refine aj w18 0 λH19 w19 s19=>?_
  refine aj w19 0 λH20 w20 s20=>?_
  refine aj w20 0 λH21 w21 s21=>?_
  dsimp only [pk,pks,nth,List.drop,List.set,List.eraseIdx] at w21 s8 s9 s10 s11 s16 s17 s18 s19 s20 s21
  refine aj w21 0 λH22 w22 s22=>?_
  refine aj w22 0 λH23 w23 s23=>?_
  refine aj w23 0 λH24 w24 s24=>?_
  refine aj w24 0 λH25 w25 s25=>?_
  refine aj w25 0 λH26 w26 s26=>?_
  refine aj w26 0 λH27 w27 s27=>?_
  refine aj w27 0 λH28 w28 s28=>?_
  refine aj w28 0 λH29 w29 s29=>?_
  refine aj w29 0 λH30 w30 s30=>?_
  dsimp only [pk,pks,nth,List.drop,List.set,List.eraseIdx] at w30 s22 s23 s24 s25 s26 s27 s28 s29 s30
  refine aj w30 0 λH31 w31 s31=>?_
  refine lI w31 7 ?_
  refine lI w31 7 ?_
  refine lSl w31 7 ?_
  obtain ⟨w32,s32⟩:=w31.pp [1,0,2,3,4,5,6,7,8] 9
  have f33:=W.borrow1 eI w32 (f6_0.step (s7.trans (s8.trans (s9.trans (s10.trans (s11.trans (s15.trans (s16.trans (s17.trans (s18.trans (s19.trans (s20.trans (s21.trans (s22.trans (s23.trans (s24.trans (s25.trans (s26.trans (s27.trans (s28.trans (s29.trans (s30.trans (s31.trans s32)))))))))))))))))))))))
  obtain ⟨w33,s33⟩:=w32.right1
  obtain ⟨r34,e34,hp⟩:=ah hp
  refine aR (eR.P rfl ⟨w33,f33⟩ e34) ?_
  rintro _ H35 ⟨o0a_35,o0n_35,o0c_35,o0k_35,rfl,rfl,w35,s35,f35_0⟩
  obtain ⟨w36,s36⟩:=W.frame1 w32 w35 s35
  refine br (br (br (br (br ?_))))
  refine aA hp (λhp=>?_) λhp=>?_
  ·obtain ⟨w37,s37⟩:=w36.pp [] 10
   exact aF hp ⟨rfl,w37,(s0.trans (s2.trans (s4.trans (s6.trans (s7.trans (s8.trans (s9.trans (s10.trans (s11.trans (s15.trans (s16.trans (s17.trans (s18.trans (s19.trans (s20.trans (s21.trans (s22.trans (s23.trans (s24.trans (s25.trans (s26.trans (s27.trans (s28.trans (s29.trans (s30.trans (s31.trans (s32.trans (s36.trans s37)))))))))))))))))))))))))))),trivial⟩
  ·refine aA hp (λhp=>?_) λhp=>?_
   ·refine aA hp (λhp=>?_) λhp=>?_
    ·refine lI w36 8 ?_
     refine lI w36 8 ?_
     refine lSl w36 8 ?_
     refine lI w36 2 ?_
     refine lI w36 2 ?_
     refine lSl w36 2 ?_
     refine lI w36 2 ?_
     refine lI w36 2 ?_
     refine lSl w36 2 ?_
     refine lI w36 2 ?_
     refine lI w36 2 ?_
     refine lSl w36 2 ?_
     refine lI w36 2 ?_
     refine lI w36 2 ?_
     refine lSl w36 2 ?_
     refine lI w36 2 ?_
     refine lI w36 2 ?_
     refine lSl w36 2 ?_
     obtain ⟨w38,s38⟩:=w36.pp [0,3,4,5,6,7,1,2,8,9] 10
     have f39:=W.borrow1 eI w38 (f6_0.step (s7.trans (s8.trans (s9.trans (s10.trans (s11.trans (s15.trans (s16.trans (s17.trans (s18.trans (s19.trans (s20.trans (s21.trans (s22.trans (s23.trans (s24.trans (s25.trans (s26.trans (s27.trans (s28.trans (s29.trans (s30.trans (s31.trans (s32.trans (s36.trans s38)))))))))))))))))))))))))
     obtain ⟨w39,s39⟩:=w38.right1
     have f40:=W.borrow1 eI w39 (((CR.flat (jX .i64) f14_0).step (s16.trans (s17.trans (s18.trans (s19.trans (s20.trans (s21.trans (s22.trans (s23.trans (s24.trans (s25.trans (s26.trans (s27.trans (s28.trans (s29.trans (s30.trans (s31.trans (s32.trans (s36.trans s38))))))))))))))))))).step s39)
     obtain ⟨w40,s40⟩:=w39.right1
     have f41:=W.borrow1 eI w40 ((((CR.flat (jX .i64) f14_1).step (s16.trans (s17.trans (s18.trans (s19.trans (s20.trans (s21.trans (s22.trans (s23.trans (s24.trans (s25.trans (s26.trans (s27.trans (s28.trans (s29.trans (s30.trans (s31.trans (s32.trans (s36.trans s38))))))))))))))))))).step s39).step s40)
     obtain ⟨w41,s41⟩:=w40.right1
     have f42:=W.borrow1 eI w41 (((((CR.flat (jX .i64) f14_2).step (s16.trans (s17.trans (s18.trans (s19.trans (s20.trans (s21.trans (s22.trans (s23.trans (s24.trans (s25.trans (s26.trans (s27.trans (s28.trans (s29.trans (s30.trans (s31.trans (s32.trans (s36.trans s38))))))))))))))))))).step s39).step s40).step s41)
     obtain ⟨w42,s42⟩:=w41.right1
     have f43:=W.borrow1 eI w42 ((((((CR.flat (jX .i64) f14_3).step (s16.trans (s17.trans (s18.trans (s19.trans (s20.trans (s21.trans (s22.trans (s23.trans (s24.trans (s25.trans (s26.trans (s27.trans (s28.trans (s29.trans (s30.trans (s31.trans (s32.trans (s36.trans s38))))))))))))))))))).step s39).step s40).step s41).step s42)
     obtain ⟨w43,s43⟩:=w42.right1
     have f44:=W.borrow1 eI w43 (((((((CR.flat (jX .i64) f14_4).step (s16.trans (s17.trans (s18.trans (s19.trans (s20.trans (s21.trans (s22.trans (s23.trans (s24.trans (s25.trans (s26.trans (s27.trans (s28.trans (s29.trans (s30.trans (s31.trans (s32.trans (s36.trans s38))))))))))))))))))).step s39).step s40).step s41).step s42).step s43)
     obtain ⟨w44,s44⟩:=w43.right1
     obtain ⟨r45,e45,hp⟩:=ah hp
     refine aR (eN.P rfl rfl rfl rfl rfl rfl ⟨w44,(((((f39.step s40).step s41).step s42).step s43).step s44),((((f40.step s41).step s42).step s43).step s44),(((f41.step s42).step s43).step s44),((f42.step s43).step s44),(f43.step s44),f44⟩ e45) ?_
     rintro _ H46 ⟨rfl,w46,s46,_⟩
     obtain ⟨w47,s47⟩:=W.frame1 w43 w46 s46
     obtain ⟨w48,s48⟩:=W.frame1 w42 w47 s47
     obtain ⟨w49,s49⟩:=W.frame1 w41 w48 s48
     obtain ⟨w50,s50⟩:=W.frame1 w40 w49 s49
     obtain ⟨w51,s51⟩:=W.frame1 w39 w50 s50
     obtain ⟨w52,s52⟩:=W.frame1 w38 w51 s51
     refine br ?_
     obtain ⟨w53,s53⟩:=w52.pp [] 10
     exact aF hp ⟨rfl,w53,(s0.trans (s2.trans (s4.trans (s6.trans (s7.trans (s8.trans (s9.trans (s10.trans (s11.trans (s15.trans (s16.trans (s17.trans (s18.trans (s19.trans (s20.trans (s21.trans (s22.trans (s23.trans (s24.trans (s25.trans (s26.trans (s27.trans (s28.trans (s29.trans (s30.trans (s31.trans (s32.trans (s36.trans (s38.trans (s52.trans s53)))))))))))))))))))))))))))))),trivial⟩
    ·obtain ⟨w54,s54⟩:=w36.pp [] 10
     exact aF hp ⟨rfl,w54,(s0.trans (s2.trans (s4.trans (s6.trans (s7.trans (s8.trans (s9.trans (s10.trans (s11.trans (s15.trans (s16.trans (s17.trans (s18.trans (s19.trans (s20.trans (s21.trans (s22.trans (s23.trans (s24.trans (s25.trans (s26.trans (s27.trans (s28.trans (s29.trans (s30.trans (s31.trans (s32.trans (s36.trans s54)))))))))))))))))))))))))))),trivial⟩
   ·refine lI w36 2 ?_
    refine lI w36 2 ?_
    refine lSl w36 2 ?_
    obtain ⟨w55,s55⟩:=w36.pp [5,0,1,2,3,4,6,7,8,9] 10
    have f56:=W.borrow1 eI w55 ((CR.flat (jX .i64) f14_2).step (s16.trans (s17.trans (s18.trans (s19.trans (s20.trans (s21.trans (s22.trans (s23.trans (s24.trans (s25.trans (s26.trans (s27.trans (s28.trans (s29.trans (s30.trans (s31.trans (s32.trans (s36.trans s55)))))))))))))))))))
    obtain ⟨w56,s56⟩:=w55.right1
    obtain ⟨r57,e57,hp⟩:=ah hp
    refine aR (bS.P rfl ⟨w56,f56⟩ e57) ?_
    rintro _ H58 ⟨rfl,w58,s58,_⟩
    obtain ⟨w59,s59⟩:=W.frame1 w55 w58 s58
    refine br ?_
    refine aA hp (λhp=>?_) λhp=>?_
    ·obtain ⟨w60,s60⟩:=w59.pp [] 10
     exact aF hp ⟨rfl,w60,(s0.trans (s2.trans (s4.trans (s6.trans (s7.trans (s8.trans (s9.trans (s10.trans (s11.trans (s15.trans (s16.trans (s17.trans (s18.trans (s19.trans (s20.trans (s21.trans (s22.trans (s23.trans (s24.trans (s25.trans (s26.trans (s27.trans (s28.trans (s29.trans (s30.trans (s31.trans (s32.trans (s36.trans (s55.trans (s59.trans s60)))))))))))))))))))))))))))))),trivial⟩
    ·refine lI w59 3 ?_
     refine lI w59 8 ?_
     refine aA hp (λhp=>?_) λhp=>?_
     ·obtain ⟨w61,s61⟩:=w59.pp [] 10
      exact aF hp ⟨rfl,w61,(s0.trans (s2.trans (s4.trans (s6.trans (s7.trans (s8.trans (s9.trans (s10.trans (s11.trans (s15.trans (s16.trans (s17.trans (s18.trans (s19.trans (s20.trans (s21.trans (s22.trans (s23.trans (s24.trans (s25.trans (s26.trans (s27.trans (s28.trans (s29.trans (s30.trans (s31.trans (s32.trans (s36.trans (s55.trans (s59.trans s61)))))))))))))))))))))))))))))),trivial⟩
     ·refine lI w59 3 ?_
      refine lI w59 8 ?_
      refine aA hp (λhp=>?_) λhp=>?_
      ·obtain ⟨w62,s62⟩:=w59.pp [] 10
       exact aF hp ⟨rfl,w62,(s0.trans (s2.trans (s4.trans (s6.trans (s7.trans (s8.trans (s9.trans (s10.trans (s11.trans (s15.trans (s16.trans (s17.trans (s18.trans (s19.trans (s20.trans (s21.trans (s22.trans (s23.trans (s24.trans (s25.trans (s26.trans (s27.trans (s28.trans (s29.trans (s30.trans (s31.trans (s32.trans (s36.trans (s55.trans (s59.trans s62)))))))))))))))))))))))))))))),trivial⟩
      ·refine og eI w59 (n:=0) (l:=([]:List Int)) rfl CR.empty rfl λH63 w63 s63 c63=>?_
       obtain ⟨w64,s64⟩:=w63.pp [10,2,9,5,6,1,7,8,4,3,0] 11
       exact ap.l8189_P F rfl rfl rfl rfl rfl rfl rfl rfl (show 0=List.length ([]:List Int) from rfl) ⟨w64,(s0.trans (s2.trans (s4.trans (s6.trans (s7.trans (s8.trans (s9.trans (s10.trans (s11.trans (s15.trans (s16.trans (s17.trans (s18.trans (s19.trans (s20.trans (s21.trans (s22.trans (s23.trans (s24.trans (s25.trans (s26.trans (s27.trans (s28.trans (s29.trans (s30.trans (s31.trans (s32.trans (s36.trans (s55.trans (s59.trans (s63.trans s64))))))))))))))))))))))))))))))),(f4_0.step (s6.trans (s7.trans (s8.trans (s9.trans (s10.trans (s11.trans (s15.trans (s16.trans (s17.trans (s18.trans (s19.trans (s20.trans (s21.trans (s22.trans (s23.trans (s24.trans (s25.trans (s26.trans (s27.trans (s28.trans (s29.trans (s30.trans (s31.trans (s32.trans (s36.trans (s55.trans (s59.trans (s63.trans s64))))))))))))))))))))))))))))),(f6_0.step (s7.trans (s8.trans (s9.trans (s10.trans (s11.trans (s15.trans (s16.trans (s17.trans (s18.trans (s19.trans (s20.trans (s21.trans (s22.trans (s23.trans (s24.trans (s25.trans (s26.trans (s27.trans (s28.trans (s29.trans (s30.trans (s31.trans (s32.trans (s36.trans (s55.trans (s59.trans (s63.trans s64)))))))))))))))))))))))))))),((CR.flat (jX .i64) f14_0).step (s16.trans (s17.trans (s18.trans (s19.trans (s20.trans (s21.trans (s22.trans (s23.trans (s24.trans (s25.trans (s26.trans (s27.trans (s28.trans (s29.trans (s30.trans (s31.trans (s32.trans (s36.trans (s55.trans (s59.trans (s63.trans s64)))))))))))))))))))))),((CR.flat (jX .i64) f14_1).step (s16.trans (s17.trans (s18.trans (s19.trans (s20.trans (s21.trans (s22.trans (s23.trans (s24.trans (s25.trans (s26.trans (s27.trans (s28.trans (s29.trans (s30.trans (s31.trans (s32.trans (s36.trans (s55.trans (s59.trans (s63.trans s64)))))))))))))))))))))),((CR.flat (jX .i64) f14_2).step (s16.trans (s17.trans (s18.trans (s19.trans (s20.trans (s21.trans (s22.trans (s23.trans (s24.trans (s25.trans (s26.trans (s27.trans (s28.trans (s29.trans (s30.trans (s31.trans (s32.trans (s36.trans (s55.trans (s59.trans (s63.trans s64)))))))))))))))))))))),((CR.flat (jX .i64) f14_3).step (s16.trans (s17.trans (s18.trans (s19.trans (s20.trans (s21.trans (s22.trans (s23.trans (s24.trans (s25.trans (s26.trans (s27.trans (s28.trans (s29.trans (s30.trans (s31.trans (s32.trans (s36.trans (s55.trans (s59.trans (s63.trans s64)))))))))))))))))))))),((CR.flat (jX .i64) f14_4).step (s16.trans (s17.trans (s18.trans (s19.trans (s20.trans (s21.trans (s22.trans (s23.trans (s24.trans (s25.trans (s26.trans (s27.trans (s28.trans (s29.trans (s30.trans (s31.trans (s32.trans (s36.trans (s55.trans (s59.trans (s63.trans s64)))))))))))))))))))))),((CR.flat (jX .i64) f35_0).step (s55.trans (s59.trans (s63.trans s64)))),(c63.step s64)⟩ hp
end
end Go.Proofs.Ytokekkacliomkaa.AE
