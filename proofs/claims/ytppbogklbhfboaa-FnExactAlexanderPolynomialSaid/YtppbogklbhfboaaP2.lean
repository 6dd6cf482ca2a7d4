import Derived.Test.YtppbogklbhfboaaP1
import Derived.Test.YtppbogklbhfboaaT1
import Derived.Test.YtppbogklbhfboaaE2
set_option linter.unusedVariables false
set_option linter.unusedSimpArgs false
namespace Go.Proofs.Ytppbogklbhfboaa.AE
open Go Go.AE Go.Proofs IntKind
set_option linter.unusedVariables false
variable {F:Nat} {H H0:Hp} {Ri R0:asp}
set_option maxHeartbeats 4000000
set_option maxRecDepth 100000
noncomputable section
theorem aV.l61_P  :∀ k,aV.S61 H0 Ri R0  (aV.l61 F (cq.tw F) (cz.tw F) (ev.tw F)  k) (aV.pl61 F  k):=by
 intro k
 induction k with
 | zero=>unfold aV.S61;intros;rename_i hp;cases hp
 | succ k ih=>
  intro gX acE pi dE iF gY QI QJ QK FU fX FV gg FW QL QM QN QO nC jg QP QQ H aoG aoH aoI h0 r hp
  obtain ⟨w0,s0,Ra,F_,Ga⟩:=h0
  subst aoG
  subst aoH
  subst aoI
  unfold aV.pl61 at hp
  unfold aV.l61
  refine aB hp (λhp=>?_) λhp=>?_
  ·obtain ⟨n1,g1,hp⟩:=ag hp
   obtain ⟨p1,q1,i1,h1,j1⟩:=ROs.ixr Ga rfl g1
   refine ai i1 ?_
   have h1:_=[_]:=h1
   subst h1
   refine ai (aG (j1 0 _ rfl)) ?_
   refine aB hp (λhp=>?_) λhp=>?_
   ·refine lI w0 3 ?_
    refine lSl w0 3 ?_
    obtain ⟨r2,e2,hp⟩:=ag hp
    refine aE (cq.P ⟨w0,trivial⟩ e2) ?_
    rintro _ H3 ⟨o1a_3,o1n_3,o1c_3,o1k_3,rfl,rfl,w3,s3,f3_0⟩
    refine br (br (br (br (br ?_))))
    refine eQ (W.cons_of (Rn:=[_]) w0 w3 s3) ?_
    obtain ⟨w5,s5⟩:=w3.pp [3,0,1,2,4] 5
    have f6:=W.borrow1 eI w5 (F_.step (s3.trans s5))
    obtain ⟨w6,s6⟩:=w5.right1
    have f7:=W.borrow1 eI w6 ((f3_0.step s5).step s6)
    obtain ⟨w7,s7⟩:=w6.right1
    obtain ⟨r8,e8,hp⟩:=ag hp
    refine aE (cz.P rfl rfl ⟨w7,(f6.step s7),f7⟩ e8) ?_
    rintro _ H9 ⟨o1a_9,o1n_9,o1c_9,o1k_9,rfl,rfl,w9,s9,f9_0⟩
    obtain ⟨w10,s10⟩:=W.frame1 w6 w9 s9
    obtain ⟨w11,s11⟩:=W.frame1 w5 w10 s10
    refine br (br (br (br (br ?_))))
    refine aq w11 5 λH12 w12 s12=>?_
    refine aq w12 5 λH13 w13 s13=>?_
    obtain ⟨w14,s14⟩:=w13.pp [3,4,2,5] 6
    exact aV.j4_P (@ih) rfl rfl rfl ⟨w14,(s0.trans (s3.trans (s5.trans (s11.trans (s12.trans (s13.trans s14)))))),(Ra.step (s3.trans (s5.trans (s11.trans (s12.trans (s13.trans s14)))))),((CR.flat (eA .i64) f9_0).step (s12.trans (s13.trans s14))),(Ga.step (s3.trans (s5.trans (s11.trans (s12.trans (s13.trans s14))))))⟩ hp
   ·refine aB hp (λhp=>?_) λhp=>?_
    ·refine lI w0 3 ?_
     refine lSl w0 3 ?_
     obtain ⟨r15,e15,hp⟩:=ag hp
     refine aE (cq.P ⟨w0,trivial⟩ e15) ?_
     rintro _ H16 ⟨o1a_16,o1n_16,o1c_16,o1k_16,rfl,rfl,w16,s16,f16_0⟩
     refine br (br (br (br (br ?_))))
     refine eQ (W.cons_of (Rn:=[_]) w0 w16 s16) ?_
     obtain ⟨w18,s18⟩:=w16.pp [3,0,1,2,4] 5
     have f19:=W.borrow1 eI w18 (F_.step (s16.trans s18))
     obtain ⟨w19,s19⟩:=w18.right1
     have f20:=W.borrow1 eI w19 ((f16_0.step s18).step s19)
     obtain ⟨w20,s20⟩:=w19.right1
     obtain ⟨r21,e21,hp⟩:=ag hp
     refine aE (cz.P rfl rfl ⟨w20,(f19.step s20),f20⟩ e21) ?_
     rintro _ H22 ⟨o1a_22,o1n_22,o1c_22,o1k_22,rfl,rfl,w22,s22,f22_0⟩
     obtain ⟨w23,s23⟩:=W.frame1 w19 w22 s22
     obtain ⟨w24,s24⟩:=W.frame1 w18 w23 s23
     refine br (br (br (br (br ?_))))
     refine aq w24 5 λH25 w25 s25=>?_
     refine aq w25 5 λH26 w26 s26=>?_
     obtain ⟨w27,s27⟩:=w26.pp [3,4,2,5] 6
     exact aV.j6_P (@ih) rfl rfl rfl ⟨w27,(s0.trans (s16.trans (s18.trans (s24.trans (s25.trans (s26.trans s27)))))),(Ra.step (s16.trans (s18.trans (s24.trans (s25.trans (s26.trans s27)))))),((CR.flat (eA .i64) f22_0).step (s25.trans (s26.trans s27))),(Ga.step (s16.trans (s18.trans (s24.trans (s25.trans (s26.trans s27))))))⟩ hp
    ·exact aV.j6_P (@ih) rfl rfl rfl ⟨w0,s0,Ra,F_,Ga⟩ hp
  ·refine lI w0 3 ?_
   refine lSl w0 3 ?_
   refine aq w0 1 λH28 w28 s28=>?_
   refine aq w28 1 λH29 w29 s29=>?_
   refine lI w29 1 ?_
   refine lSl w29 1 ?_
   obtain ⟨w30,s30⟩:=w29.pp [2] 4
   exact aw hp ⟨_,_,_,_,rfl,rfl,w30,(s0.trans (s28.trans (s29.trans s30))),(F_.step (s28.trans (s29.trans s30)))⟩
def aV.p (F:Nat) (ah:asr) (au:Int):Option (Int×List Int):=aV.pl61 F F au 0 ([]:List Int) 0 ah (ah.length:Int) 0
theorem aV.P {az aj aA ah au} (aT:aj=ah.length) (h0:Inn H R0 λR=>ROs eI H R ⟨az,aj,aA⟩ ah) {r:asv} (hp:aV.p F ah au=some r):Rt (aV.tw F ⟨az,aj,aA⟩ au H) (aV.Q H R0 R0  r):=by
 obtain ⟨w0,aK⟩:=h0
 subst aT
 unfold aV.p at hp
 unfold aV.tw aV.twX
 have s0:=w0.rf
 refine aR w0 λH1 w1 s1=>?_
 refine aR w1 λH2 w2 s2=>?_
 obtain ⟨w3,s3⟩:=w2.nilS eI.z (by decide)
 obtain ⟨w4,s4⟩:=w3.nilS eI.z (by decide)
 obtain ⟨w5,s5⟩:=w4.pp [1,3,0,2] 4
 exact aV.l61_P F rfl rfl rfl ⟨w5,(s0.trans (s1.trans (s2.trans (s3.trans (s4.trans s5))))),((CR.empty:CR eI _ _ [] []).step (s4.trans s5)),((CR.empty:CR eI _ _ [] []).step s5),(aK.step (s1.trans (s2.trans (s3.trans (s4.trans s5)))))⟩ hp
def aY.Q (H0:Hp) (Ri R0:asp)  (r:(List ((List (Int×List Int))))) (v:AV) (H':Hp):Prop:=∃ o0a:ON,∃ o0n:Nat,∃ o0c:Cap,∃ o0k:List AV,v=(.sl ⟨o0a,o0n,o0c⟩)/\o0n=(r).length/\Out H0 Ri H' (Rs.own ⟨o0a,o0n,o0c⟩ (eSl (ac eI (eSl eI))).z o0k::R0) λR=>CR (eSl (ac eI (eSl eI))) H' R o0k (r)
def aY.S61 (H0:Hp) (Ri R0:asp)  (C:atb) (pC:ati):Prop:=∀ {kV kW jJ rx Rc nA Gb ry Rd iS rz Re pj},∀ {H:Hp},nA=iS.length->Gb=pj.length->(Out H0 Ri H (Rs.own ⟨rx,nA,ry⟩ (eSl (ac eI (eSl eI))).z rz::Rs.own ⟨Rc,Gb,Rd⟩ (eSl eI).z Re::R0) λR=>CR (eSl (ac eI (eSl eI))) H R rz iS/\CR (eSl eI) H R Re pj)->∀ {r:(List ((List (Int×List Int))))},pC kV iS pj kW jJ=some r->Rt (C kV ⟨rx,nA,ry⟩ ⟨Rc,Gb,Rd⟩ kW jJ H) (aY.Q H0 Ri R0  r)
def aY.S15725 (H0:Hp) (Ri R0:asp)  (C:Int->Sl->Sl->Int->Int->Sl->Sl->Int->Int->Hp->OA) (pC:Int->List ((List (Int×List Int)))->List (List Int)->Int->Int->List Int->List (Int×List Int)->Int->Int->Option ((List ((List (Int×List Int)))))):Prop:=∀ {kR kS kT kU jI Rf Rh Rj Rk Gc Gd Ge Gf Rl Rm Rp Rq rI Rr Ru Rv rJ rK rL},∀ {H:Hp},Gc=rI.length->Gd=rJ.length->Ge=rK.length->Gf=rL.length->(Out H0 Ri H (Rs.own ⟨Rf,Gc,Rl⟩ (eSl (ac eI (eSl eI))).z Rr::Rs.own ⟨Rh,Gd,Rm⟩ (eSl eI).z Ru::Rs.own ⟨Rk,Gf,Rq⟩ (ac eI (eSl eI)).z Rv::R0) λR=>CR (eSl (ac eI (eSl eI))) H R Rr rI/\CR (eSl eI) H R Ru rJ/\ROs eI H R ⟨Rj,Ge,Rp⟩ rK/\CR (ac eI (eSl eI)) H R Rv rL)->∀ {r:(List ((List (Int×List Int))))},pC kR rI rJ kS kT rK rL kU jI=some r->Rt (C kR ⟨Rf,Gc,Rl⟩ ⟨Rh,Gd,Rm⟩ kS kT ⟨Rj,Ge,Rp⟩ ⟨Rk,Gf,Rq⟩ kU jI H) (aY.Q H0 Ri R0  r)
def aY.pj3 (F:Nat) (ay:ati) (vi:Int) (zN:asK) (zO:asE) (vj:Int) (vk:Int):Option ((List ((List (Int×List Int))))):=ay vi zN zO vj (wrap .i64 (vk+1))
theorem aY.j3_P  {C61_:atb} {ay:ati} (hC61:aY.S61 H0 Ri R0  C61_ ay) {vi vj vk ac6 ac7 Rw Rx ac8 ac9 zN ac_ ada zO} (aoJ:Rw=zN.length) (aoK:Rx=zO.length) (h0:Out H0 Ri H (Rs.own ⟨ac6,Rw,ac8⟩ (eSl (ac eI (eSl eI))).z ac_::Rs.own ⟨ac7,Rx,ac9⟩ (eSl eI).z ada::R0) λR=>CR (eSl (ac eI (eSl eI))) H R ac_ zN/\CR (eSl eI) H R ada zO) {r:(List ((List (Int×List Int))))} (hp:aY.pj3 F ay vi zN zO vj vk=some r):Rt (aY.j3 F (bg.tw F) (bL.tw F) (aV.tw F) C61_ vi ⟨ac6,Rw,ac8⟩ ⟨ac7,Rx,ac9⟩ vj vk H) (aY.Q H0 Ri R0  r):=by
 obtain ⟨w0,s0,aoL,aoM⟩:=h0
 subst aoJ
 subst aoK
 unfold aY.pj3 at hp
 unfold aY.j3
 exact hC61 rfl rfl ⟨w0,s0,aoL,aoM⟩ hp
def aY.pj4 (F:Nat) (ay:ati) (vl:Int) (zP:asK) (rM:asL) (zQ:asE) (vm:Int) (vn:Int):Option ((List ((List (Int×List Int))))):=(apn zP ([rM]:List ((List (Int×List Int))))).bind λl3=>aY.pj3 F ay vl l3 zQ vm vn
theorem aY.j4_P  {C61_:atb} {ay:ati} (hC61:aY.S61 H0 Ri R0  C61_ ay) {vl vm vn adb adc ade Ry Rz RA adf adg adh zP adi adj adk rM zQ} (aoN:Ry=zP.length) (aoO:Rz=rM.length) (aoP:RA=zQ.length) (h0:Out H0 Ri H (Rs.own ⟨adb,Ry,adf⟩ (eSl (ac eI (eSl eI))).z adi::Rs.own ⟨adc,Rz,adg⟩ (ac eI (eSl eI)).z adj::Rs.own ⟨ade,RA,adh⟩ (eSl eI).z adk::R0) λR=>CR (eSl (ac eI (eSl eI))) H R adi zP/\CR (ac eI (eSl eI)) H R adj rM/\CR (eSl eI) H R adk zQ) {r:(List ((List (Int×List Int))))} (hp:aY.pj4 F ay vl zP rM zQ vm vn=some r):Rt (aY.j4 F (bg.tw F) (bL.tw F) (aV.tw F) C61_ vl ⟨adb,Ry,adf⟩ ⟨adc,Rz,adg⟩ ⟨ade,RA,adh⟩ vm vn H) (aY.Q H0 Ri R0  r):=by
 obtain ⟨w0,s0,aoQ,aoR,aoS⟩:=h0
 subst aoN
 subst aoO
 subst aoP
 unfold aY.pj4 at hp
 unfold aY.j4
 obtain ⟨w1,s1,f1⟩:=w0.frz (i:=1) (ac eI (eSl eI)) rfl aoR
 refine cO (eSl (ac eI (eSl eI))) w1 (n:=1) (l:=([rM]:List ((List (Int×List Int))))) rfl (CR.cons1 ⟨_,rfl,f1⟩ CR.empty) rfl λH2 w2 s2 c2=>?_
 refine ai (w2.rowo (i:=0) rfl) ?_
 obtain ⟨l3,e3,hp⟩:=ag hp
 refine fM (eSl (ac eI (eSl eI))) w2 (i:=1) rfl rfl (aoQ.step (s1.trans s2)) c2 (show 1=List.length ([rM]:List ((List (Int×List Int)))) from rfl) rfl e3 λa4 d4 H4 w4 s4 c4 x4=>?_
 obtain ⟨w5,s5⟩:=w4.pp [1,2] 3
 exact aY.j3_P (@hC61) rfl rfl ⟨w5,(s0.trans (s1.trans (s2.trans (s4.trans s5)))),(c4.step s5),(aoS.step (s1.trans (s2.trans (s4.trans s5))))⟩ hp
def aY.pl15725 (F:Nat) (ay:ati):Nat->Int->List ((List (Int×List Int)))->List (List Int)->Int->Int->List Int->List (Int×List Int)->Int->Int->Option ((List ((List (Int×List Int)))))
 | 0,_,_,_,_,_,_,_,_,_=>none
 | k+1,kR,rI,rJ,kS,kT,rK,rL,kU,jI=>(bif (decide (jI<kU)) then ((aV.p F rK (wrap .i64 (jI+1))).bind λr1=>(apn rL ([(r1.1,r1.2)]:List (Int×List Int))).bind λl5=>aY.pl15725 F ay k kR rI rJ kS kT rK l5 kU (wrap .i64 (jI+1))) else (aY.pj4 F ay kR rI rL rJ kS kT))
theorem aY.l15725_P  {C61_:atb} {ay:ati} (hC61:aY.S61 H0 Ri R0  C61_ ay):∀ k,aY.S15725 H0 Ri R0  (aY.l15725 F (bg.tw F) (bL.tw F) (aV.tw F) C61_ k) (aY.pl15725 F ay k):=by
 intro k
 induction k with
 | zero=>unfold aY.S15725;intros;rename_i hp;cases hp
 | succ k ih=>
  intro kR kS kT kU jI Rf Rh Rj Rk Gc Gd Ge Gf Rl Rm Rp Rq rI Rr Ru Rv rJ rK rL H aoT aoU aoV aoW h0 r hp
  obtain ⟨w0,s0,adm,adn,ado,adp⟩:=h0
  subst aoT
  subst aoU
  subst aoV
  subst aoW
  unfold aY.pl15725 at hp
  unfold aY.l15725
  refine aB hp (λhp=>?_) λhp=>?_
  ·obtain ⟨r1,e1,hp⟩:=ag hp
   refine aE (aV.P rfl ⟨w0,ado⟩ e1) ?_
   rintro _ H2 ⟨o1a_2,o1n_2,o1c_2,o1k_2,rfl,rfl,w2,s2,f2_0⟩
   refine br (br (br (br (br ?_))))
   obtain ⟨w3,s3,f3⟩:=w2.frz (i:=0) eI rfl f2_0
   refine cO (ac eI (eSl eI)) w3 (n:=1) (l:=([(r1.1,r1.2)]:List (Int×List Int))) rfl (CR.cons (c:=[_,_]) ⟨[_],_,rfl,rfl,⟨_,rfl,f3⟩⟩ CR.empty) rfl λH4 w4 s4 c4=>?_
   refine ai (w4.rowo (i:=0) rfl) ?_
   obtain ⟨l5,e5,hp⟩:=ag hp
   refine fM (ac eI (eSl eI)) w4 (i:=3) rfl rfl (adp.step (s2.trans (s3.trans s4))) c4 (show 1=List.length ([(r1.1,r1.2)]:List (Int×List Int)) from rfl) rfl e5 λa6 d6 H6 w6 s6 c6 x6=>?_
   obtain ⟨w7,s7⟩:=w6.pp [1,2,3] 4
   exact ih rfl rfl rfl rfl ⟨w7,(s0.trans (s2.trans (s3.trans (s4.trans (s6.trans s7))))),(adm.step (s2.trans (s3.trans (s4.trans (s6.trans s7))))),(adn.step (s2.trans (s3.trans (s4.trans (s6.trans s7))))),(ado.step (s2.trans (s3.trans (s4.trans (s6.trans s7))))),(c6.step s7)⟩ hp
  ·obtain ⟨w8,s8⟩:=w0.pp [0,2,1] 3
   exact aY.j4_P (@hC61) rfl rfl rfl ⟨w8,(s0.trans s8),(adm.step s8),(adp.step s8),(adn.step s8)⟩ hp
def aY.pl61 (F:Nat) :Nat->Int->List ((List (Int×List Int)))->List (List Int)->Int->Int->Option ((List ((List (Int×List Int)))))
 | 0,_,_,_,_,_=>none
 | k+1,kV,iS,pj,kW,jJ=>(bif (decide (jJ<kW)) then ((ix pj jJ).bind λn1=>aY.pl15725 F (aY.pl61 F k) F kV iS pj kW jJ (gt pj n1) ([]:List (Int×List Int)) kV 0) else (some iS))
theorem aY.l61_P  :∀ k,aY.S61 H0 Ri R0  (aY.l61 F (bg.tw F) (bL.tw F) (aV.tw F)  k) (aY.pl61 F  k):=by
 intro k
 induction k with
 | zero=>unfold aY.S61;intros;rename_i hp;cases hp
 | succ k ih=>
  intro kV kW jJ rx Rc nA Gb ry Rd iS rz Re pj H Pw aoX h0 r hp
  obtain ⟨w0,s0,zw,adq⟩:=h0
  subst Pw
  subst aoX
  unfold aY.pl61 at hp
  unfold aY.l61
  refine aB hp (λhp=>?_) λhp=>?_
  ·obtain ⟨n1,g1,hp⟩:=ag hp
   obtain ⟨p1,q1,i1,h1,j1⟩:=W.ixo (E:=(eSl eI)) w0 (i:=1) rfl rfl adq g1
   refine ai i1 ?_
   obtain ⟨⟨Yn,m1_0,c1_0⟩,rfl,f1_0⟩:=h1
   obtain rfl:m1_0=_:=f1_0.n
   refine ai (iU (j1 0 _ rfl)) ?_
   obtain ⟨w2,s2⟩:=w0.nilS (ac eI (eSl eI)).z (by decide)
   obtain ⟨w3,s3⟩:=w2.pp [1,2,0] 3
   exact aY.l15725_P (@ih) F rfl rfl rfl rfl ⟨w3,(s0.trans (s2.trans s3)),(zw.step (s2.trans s3)),(adq.step (s2.trans s3)),(f1_0.step (s2.trans s3)),((CR.empty:CR (ac eI (eSl eI)) _ _ [] []).step s3)⟩ hp
  ·obtain ⟨w4,s4⟩:=w0.pp [0] 2
   exact aw hp ⟨_,_,_,_,rfl,rfl,w4,(s0.trans s4),(zw.step s4)⟩
def aY.p (F:Nat) (ah:asy) (af:Int):Option ((List ((List (Int×List Int))))):=(bg.p F ah af).bind λr2=>(bL.p F ah af).bind λr4=>aY.pl61 F F r2.2 ([]:List ((List (Int×List Int)))) r4 (r4.length:Int) 0
theorem aY.P {az aj aA ah af} (aT:aj=ah.length) (h0:Inn H R0 λR=>ROs (ac eI (ac eI (ac eI (ac eI eI)))) H R ⟨az,aj,aA⟩ ah) {r:(List ((List (Int×List Int))))} (hp:aY.p F ah af=some r):Rt (aY.tw F ⟨az,aj,aA⟩ af H) (aY.Q H R0 R0  r):=by
 obtain ⟨w0,aK⟩:=h0
 subst aT
 unfold aY.p at hp
 unfold aY.tw aY.twX
 have s0:=w0.rf
 refine aR w0 λH1 w1 s1=>?_
 refine lSl w1 0 ?_
 refine lI w1 0 ?_
 obtain ⟨r2,e2,hp⟩:=ag hp
 refine aE (bg.P rfl ⟨w1,(aK.step s1)⟩ e2) ?_
 rintro _ H3 ⟨o0a_3,o0n_3,o0c_3,o0k_3,rfl,rfl,w3,s3,f3_0⟩
 refine br (br (br (br (br ?_))))
 refine lSl w3 1 ?_
 refine lI w3 1 ?_
 obtain ⟨r4,e4,hp⟩:=ag hp
 refine aE (bL.P rfl ⟨w3,(aK.step (s1.trans s3))⟩ e4) ?_
 rintro _ H5 ⟨o0a_5,o0n_5,o0c_5,o0k_5,rfl,rfl,w5,s5,f5_0⟩
 refine br ?_
 obtain ⟨w6,s6⟩:=w5.nilS (eSl (ac eI (eSl eI))).z (by decide)
 obtain ⟨w7,s7⟩:=w6.pp [0,1] 4
 exact aY.l61_P F rfl rfl ⟨w7,(s0.trans (s1.trans (s3.trans (s5.trans (s6.trans s7))))),((CR.empty:CR (eSl (ac eI (eSl eI))) _ _ [] []).step s7),(f5_0.step (s6.trans s7))⟩ hp
def ew.Q (H0:Hp) (Ri R0:asp)  (r:Int) (v:AV) (H':Hp):Prop:=v=(.i r)/\Out H0 Ri H' (R0) λR=>True
def ew.p (F:Nat) (ah:asK):Option (Int):=some (ah.length:Int)
theorem ew.P {az aj aA ah} (aT:aj=ah.length) (h0:Inn H R0 λR=>ROs (eSl (ac eI (eSl eI))) H R ⟨az,aj,aA⟩ ah) {r:Int} (hp:ew.p F ah=some r):Rt (ew.tw F ⟨az,aj,aA⟩ H) (ew.Q H R0 R0  r):=by
 obtain ⟨w0,aK⟩:=h0
 subst aT
 unfold ew.p at hp
 unfold ew.tw ew.twX
 have s0:=w0.rf
 exact aw hp ⟨rfl,w0,s0,trivial⟩
def dR.Q (H0:Hp) (Ri R0:asp)  (r:Int) (v:AV) (H':Hp):Prop:=v=(.i r)/\Out H0 Ri H' (R0) λR=>True
def dR.p (F:Nat) (aa:Int):Option (Int):=(bif (decide (aa<0)) then (some (wrap .i64 (0 - aa))) else (some aa))
theorem dR.P {aa}  (h0:Inn H R0 λR=>True) {r:Int} (hp:dR.p F aa=some r):Rt (dR.tw F aa H) (dR.Q H R0 R0  r):=by
 obtain ⟨w0,_⟩:=h0
 unfold dR.p at hp
 unfold dR.tw dR.twX
 have s0:=w0.rf
 refine aB hp (λhp=>?_) λhp=>?_
 ·exact aw hp ⟨rfl,w0,s0,trivial⟩
 ·exact aw hp ⟨rfl,w0,s0,trivial⟩
def bJ.Q (H0:Hp) (Ri R0:asp)  (r:Int) (v:AV) (H':Hp):Prop:=v=(.i r)/\Out H0 Ri H' (R0) λR=>True
def bJ.S29 (H0:Hp) (Ri R0:asp)  (C:Int->Sl->Int->Int->Hp->OA) (pC:Int->List Int->Int->Int->Option (Int)):Prop:=∀ {eJ kX jK RB Gg RC pl},∀ {H:Hp},Gg=pl.length->(Out H0 Ri H R0 λR=>ROs eI H R ⟨RB,Gg,RC⟩ pl)->∀ {r:Int},pC eJ pl kX jK=some r->Rt (C eJ ⟨RB,Gg,RC⟩ kX jK H) (bJ.Q H0 Ri R0  r)
def bJ.pl29 (F:Nat) :Nat->Int->List Int->Int->Int->Option (Int)
 | 0,_,_,_,_=>none
 | k+1,eJ,pl,kX,jK=>(bif (decide (jK<kX)) then ((ix pl jK).bind λn1=>(dR.p F (gt pl n1)).bind λr2=>bJ.pl29 F k (wrap .i64 (eJ+r2)) pl kX (wrap .i64 (jK+1))) else (some eJ))
theorem bJ.l29_P  :∀ k,bJ.S29 H0 Ri R0  (bJ.l29 F (dR.tw F)  k) (bJ.pl29 F  k):=by
 intro k
 induction k with
 | zero=>unfold bJ.S29;intros;rename_i hp;cases hp
 | succ k ih=>
  intro eJ kX jK RB Gg RC pl H aoY h0 r hp
  obtain ⟨w0,s0,ads⟩:=h0
  subst aoY
  unfold bJ.pl29 at hp
  unfold bJ.l29
  refine aB hp (λhp=>?_) λhp=>?_
  ·obtain ⟨n1,g1,hp⟩:=ag hp
   obtain ⟨p1,q1,i1,h1,j1⟩:=ROs.ixr ads rfl g1
   refine ai i1 ?_
   have h1:_=[_]:=h1
   subst h1
   refine ai (aG (j1 0 _ rfl)) ?_
   obtain ⟨r2,e2,hp⟩:=ag hp
   refine aE (dR.P ⟨w0,trivial⟩ e2) ?_
   rintro _ H3 ⟨rfl,w3,s3,_⟩
   refine br ?_
   exact ih rfl ⟨w3,(s0.trans s3),(ads.step s3)⟩ hp
  ·exact aw hp ⟨rfl,w0,s0,trivial⟩
def bJ.p (F:Nat) (aF:asr):Option (Int):=bJ.pl29 F F 0 aF (aF.length:Int) 0
theorem bJ.P {aa bV bq bW aF} (dk:bq=aF.length) (h0:Inn H R0 λR=>ROs eI H R ⟨bV,bq,bW⟩ aF) {r:Int} (hp:bJ.p F aF=some r):Rt (bJ.tw F aa ⟨bV,bq,bW⟩ H) (bJ.Q H R0 R0  r):=by
 obtain ⟨w0,cF⟩:=h0
 subst dk
 unfold bJ.p at hp
 unfold bJ.tw bJ.twX
 have s0:=w0.rf
 refine aR w0 λH1 w1 s1=>?_
 refine lSl w1 0 ?_
 obtain ⟨w2,s2⟩:=w1.pp [] 1
 exact bJ.l29_P F rfl ⟨w2,(s0.trans (s1.trans s2)),(cF.step (s1.trans s2))⟩ hp
def dG.Q (H0:Hp) (Ri R0:asp)  (r:Int×Bool) (v:AV) (H':Hp):Prop:=v=(.tup [(.i r.1),(.bool r.2)])/\Out H0 Ri H' (R0) λR=>True
def dG.p (F:Nat) (aa:Int) (au:Int) (cQ:Int):Option (Int×Bool):=(bif (aa != 0) then ((dR.p F au).bind λr1=>(dR.p F aa).bind λr3=>(if r3=0 then none else ((bif (decide (r1>(wrap .i64 (Int.tdiv cQ r3)))) then (some (0,false)) else (some ((wrap .i64 (aa * au)),true)))))) else (some ((wrap .i64 (aa * au)),true)))
theorem dG.P {aa au cQ}  (h0:Inn H R0 λR=>True) {r:Int×Bool} (hp:dG.p F aa au cQ=some r):Rt (dG.tw F aa au cQ H) (dG.Q H R0 R0  r):=by
 obtain ⟨w0,_⟩:=h0
 unfold dG.p at hp
 unfold dG.tw dG.twX
 have s0:=w0.rf
 refine aB hp (λhp=>?_) λhp=>?_
 ·obtain ⟨r1,e1,hp⟩:=ag hp
  refine aE (dR.P ⟨w0,trivial⟩ e1) ?_
  rintro _ H2 ⟨rfl,w2,s2,_⟩
  refine br ?_
  obtain ⟨r3,e3,hp⟩:=ag hp
  refine aE (dR.P ⟨w2,trivial⟩ e3) ?_
  rintro _ H4 ⟨rfl,w4,s4,_⟩
  refine br ?_
  obtain ⟨g5,hp⟩:=kl hp
  refine kn g5 ?_
  refine aB hp (λhp=>?_) λhp=>?_
  ·exact aw hp ⟨rfl,w4,(s0.trans (s2.trans s4)),trivial⟩
  ·exact aw hp ⟨rfl,w4,(s0.trans (s2.trans s4)),trivial⟩
 ·exact aw hp ⟨rfl,w0,s0,trivial⟩
def aQ.Q (H0:Hp) (Ri R0:asp)  (r:asJ) (v:AV) (H':Hp):Prop:=∃ o1a:ON,∃ o1n:Nat,∃ o1c:Cap,∃ o1k:List AV,v=(.tup [(.agg [(.i r.1),(.sl ⟨o1a,o1n,o1c⟩)]),(.i r.2.2)])/\o1n=(r.2.1).length/\Out H0 Ri H' (Rs.own ⟨o1a,o1n,o1c⟩ eI.z o1k::R0) λR=>CR eI H' R o1k (r.2.1)
def aQ.S125 (H0:Hp) (Ri R0:asp)  (C:as3) (pC:atj):Prop:=∀ {adt adu wB lg iG RD RE RF RG Gh oD Gi oE Gj oF Gk RH RJ RK RL rN RM rO pm RN RO},∀ {H:Hp},Gh=rN.length->Gi=RM.length->Gj=rO.length->Gk=pm.length->(Out H0 Ri H (Rs.blk oD [.i adt,.sl ⟨RD,Gh,RH⟩]::Rs.own ⟨RE,Gi,RJ⟩ eI.z RN::Rs.blk oE [.i adu,.sl ⟨RE,Gi,RJ⟩]::Rs.own ⟨RF,Gj,RK⟩ eI.z RO::Rs.blk oF [.i wB,.sl ⟨RF,Gj,RK⟩]::R0) λR=>ROs eI H R ⟨RD,Gh,RH⟩ rN/\CR eI H R RN RM/\CR eI H R RO rO/\ROs eI H R ⟨RG,Gk,RL⟩ pm)->∀ {r:asJ},pC rN wB rO pm lg iG=some r->Rt (C oD 0 oE 0 oF 0 ⟨RG,Gk,RL⟩ lg iG H) (aQ.Q H0 Ri R0  r)
def aQ.S8027 (H0:Hp) (Ri R0:asp)  (C:Nat->Nat->Nat->Nat->Nat->Nat->Sl->Int->Int->Int->Int->Sl->Int->Int->Hp->OA) (pC:List Int->Int->List Int->List Int->Int->Int->Int->Int->Int->Int->Option (Int×List Int×Int)):Prop:=∀ {adv adw wC kY kZ jL k_ lf gZ Gl RP RQ RR zR oB Gm oC Gn ng Gp Gq RT RU RV nD RW mC rP RX RY},∀ {H:Hp},zR=nD.length->Gm=RW.length->Gn=mC.length->Gp=rP.length->(Out H0 Ri H (Rs.blk oB [.i adv,.sl ⟨Gl,zR,Gq⟩]::Rs.own ⟨RP,Gm,RT⟩ eI.z RX::Rs.blk oC [.i adw,.sl ⟨RP,Gm,RT⟩]::Rs.own ⟨RQ,Gn,RU⟩ eI.z RY::Rs.blk ng [.i wC,.sl ⟨RQ,Gn,RU⟩]::R0) λR=>ROs eI H R ⟨Gl,zR,Gq⟩ nD/\CR eI H R RX RW/\CR eI H R RY mC/\ROs eI H R ⟨RR,Gp,RV⟩ rP)->∀ {r:asJ},pC nD wC mC rP kY kZ jL k_ lf gZ=some r->Rt (C oB 0 oC 0 ng 0 ⟨RR,Gp,RV⟩ kY kZ jL k_ ⟨Gl,zR,Gq⟩ lf gZ H) (aQ.Q H0 Ri R0  r)
def aQ.pj4 (F:Nat) (bv:atj) (zS:asr) (Gr:Int) (zT:asr) (zU:asr) (vo:Int) (vp:Int):Option (Int×List Int×Int):=bv zS Gr zT zU vo (wrap .i64 (vp+1))
theorem aQ.j4_P  {C125_:as3} {bv:atj} (hC125:aQ.S125 H0 Ri R0  C125_ bv) {aoZ ao0 Gr vo vp adx ady adz adA RZ Cn R_ Co Sa Cp Sb adB adC adD adE zS adF zT zU adG adH} (ao1:RZ=zS.length) (ao2:R_=adF.length) (ao3:Sa=zT.length) (ao4:Sb=zU.length) (h0:Out H0 Ri H (Rs.blk Cn [.i aoZ,.sl ⟨adx,RZ,adB⟩]::Rs.own ⟨ady,R_,adC⟩ eI.z adG::Rs.blk Co [.i ao0,.sl ⟨ady,R_,adC⟩]::Rs.own ⟨adz,Sa,adD⟩ eI.z adH::Rs.blk Cp [.i Gr,.sl ⟨adz,Sa,adD⟩]::R0) λR=>ROs eI H R ⟨adx,RZ,adB⟩ zS/\CR eI H R adG adF/\CR eI H R adH zT/\ROs eI H R ⟨adA,Sb,adE⟩ zU) {r:asJ} (hp:aQ.pj4 F bv zS Gr zT zU vo vp=some r):Rt (aQ.j4 F (cL.tw F) (bJ.tw F) (dG.tw F) (cM.tw F) C125_ Cn 0 Co 0 Cp 0 ⟨adA,Sb,adE⟩ vo vp H) (aQ.Q H0 Ri R0  r):=by
 obtain ⟨w0,s0,ao5,ao6,ao7,ao8⟩:=h0
 subst ao1
 subst ao2
 subst ao3
 subst ao4
 unfold aQ.pj4 at hp
 unfold aQ.j4
 exact hC125 rfl rfl rfl rfl ⟨w0,s0,ao5,ao6,ao7,ao8⟩ hp
def aQ.pj5 (F:Nat) (bv:atj) (zV:asr) (Gs:Int) (zW:asr) (zX:asr) (vq:Int) (vr:Int):Option (Int×List Int×Int):=aQ.pj4 F bv zV Gs zW zX vq vr
theorem aQ.j5_P  {C125_:as3} {bv:atj} (hC125:aQ.S125 H0 Ri R0  C125_ bv) {ao9 ao_ Gs vq vr adI adJ adK adL Sc Cq Sd Ct Se Cu Sf adM adN adO adP zV adQ zW zX adR adS} (apa:Sc=zV.length) (apb:Sd=adQ.length) (apc:Se=zW.length) (apd:Sf=zX.length) (h0:Out H0 Ri H (Rs.blk Cq [.i ao9,.sl ⟨adI,Sc,adM⟩]::Rs.own ⟨adJ,Sd,adN⟩ eI.z adR::Rs.blk Ct [.i ao_,.sl ⟨adJ,Sd,adN⟩]::Rs.own ⟨adK,Se,adO⟩ eI.z adS::Rs.blk Cu [.i Gs,.sl ⟨adK,Se,adO⟩]::R0) λR=>ROs eI H R ⟨adI,Sc,adM⟩ zV/\CR eI H R adR adQ/\CR eI H R adS zW/\ROs eI H R ⟨adL,Sf,adP⟩ zX) {r:asJ} (hp:aQ.pj5 F bv zV Gs zW zX vq vr=some r):Rt (aQ.j5 F (cL.tw F) (bJ.tw F) (dG.tw F) (cM.tw F) C125_ Cq 0 Ct 0 Cu 0 ⟨adL,Sf,adP⟩ vq vr H) (aQ.Q H0 Ri R0  r):=by
 obtain ⟨w0,s0,ape,apf,apg,aph⟩:=h0
 subst apa
 subst apb
 subst apc
 subst apd
 unfold aQ.pj5 at hp
 unfold aQ.j5
 exact aQ.j4_P (@hC125) rfl rfl rfl rfl ⟨w0,s0,ape,apf,apg,aph⟩ hp
def aQ.pl8027 (F:Nat) (bv:atj):Nat->List Int->Int->List Int->List Int->Int->Int->Int->Int->Int->Int->Option (Int×List Int×Int)
 | 0,_,_,_,_,_,_,_,_,_,_=>none
 | k+1,nD,wC,mC,rP,kY,kZ,jL,k_,lf,gZ=>(bif (decide (gZ<lf)) then ((ix nD gZ).bind λn1=>(ix mC (wrap .i64 (jL+gZ))).bind λn2=>(ix mC (wrap .i64 (jL+gZ))).bind λn3=>(some (mC.set n3 (wrap .i64 ((gt mC n2)+(wrap .i64 (k_ * (gt nD n1))))))).bind λl4=>aQ.pl8027 F bv k nD wC l4 rP kY kZ jL k_ lf (wrap .i64 (gZ+1))) else (aQ.pj5 F bv nD wC mC rP kY kZ))
theorem aQ.l8027_P  {C125_:as3} {bv:atj} (hC125:aQ.S125 H0 Ri R0  C125_ bv):∀ k,aQ.S8027 H0 Ri R0  (aQ.l8027 F (cL.tw F) (bJ.tw F) (dG.tw F) (cM.tw F) C125_ k) (aQ.pl8027 F bv k):=by
 intro k
 induction k with
 | zero=>unfold aQ.S8027;intros;rename_i hp;cases hp
 | succ k ih=>
  intro adv adw wC kY kZ jL k_ lf gZ Gl RP RQ RR zR oB Gm oC Gn ng Gp Gq RT RU RV nD RW mC rP RX RY H api apj apk apl h0 r hp
  obtain ⟨w0,s0,Sg,adT,Gt,adU⟩:=h0
  subst api
  subst apj
  subst apk
  subst apl
  unfold aQ.pl8027 at hp
  unfold aQ.l8027
  refine aB hp (λhp=>?_) λhp=>?_
  ·obtain ⟨n1,g1,hp⟩:=ag hp
   obtain ⟨p1,q1,i1,h1,j1⟩:=ROs.ixr Sg rfl g1
   refine ai i1 ?_
   have h1:_=[_]:=h1
   subst h1
   refine ai (aG (j1 0 _ rfl)) ?_
   refine lSl w0 4 ?_
   obtain ⟨n2,g2,hp⟩:=ag hp
   obtain ⟨p2,q2,i2,h2,j2⟩:=W.ixo (E:=eI) w0 (i:=3) rfl rfl Gt g2
   refine ai i2 ?_
   have h2:_=[_]:=h2
   subst h2
   refine ai (aG (j2 0 _ rfl)) ?_
   obtain ⟨n3,g3,hp⟩:=ag hp
   obtain ⟨p3,q3,i3,h3,j3⟩:=W.ixo (E:=eI) w0 (i:=3) rfl rfl Gt g3
   refine ai i3 ?_
   obtain ⟨l4,e4,hp⟩:=ag hp
   refine de eI w0 (i:=3) (j:=0) (p:=p3) rfl rfl Gt g3 i3 e4 rfl rfl (λ_ h=>by have h:_=[_]:=h;subst h;exact rfl) λH5 k5 w5 s5 c5=>?_
   exact ih rfl rfl ((cj e4).symm) rfl ⟨w5,(s0.trans s5),(Sg.step s5),(adT.step s5),c5,(adU.step s5)⟩ hp
  ·exact aQ.j5_P (@hC125) rfl rfl rfl rfl ⟨w0,s0,Sg,adT,Gt,adU⟩ hp
def aQ.pj3 (F:Nat)  (Gu:Int) (zY:asr):Option (Int×List Int×Int):=(cM.p F Gu zY).bind λr3=>some (r3.1,r3.2.1,r3.2.2)
theorem aQ.j3_P   {Md Gu yM adV qU jY Sh xq yN adW yO zY yP adX} (Mh:qU=yO.length) (apm:Sh=zY.length) (h0:Out H0 Ri H (Rs.own ⟨yM,qU,yN⟩ eI.z yP::Rs.blk jY [.i Md,.sl ⟨yM,qU,yN⟩]::Rs.own ⟨adV,Sh,adW⟩ eI.z adX::Rs.blk xq [.i Gu,.sl ⟨adV,Sh,adW⟩]::R0) λR=>CR eI H R yP yO/\CR eI H R adX zY) {r:asJ} (hp:aQ.pj3 F  Gu zY=some r):Rt (aQ.j3 F (cL.tw F) (bJ.tw F) (dG.tw F) (cM.tw F)  jY 0 xq 0 H) (aQ.Q H0 Ri R0  r):=by
 obtain ⟨w0,s0,YJ,apo⟩:=h0
 subst Mh
 subst apm
 unfold aQ.pj3 at hp
 unfold aQ.j3
 refine lI w0 3 ?_
 refine lSl w0 3 ?_
 obtain ⟨w1,s1⟩:=w0.pp [2,0,1,3] 4
 have f2:=W.borrow1 eI w1 (apo.step s1)
 obtain ⟨w2,s2⟩:=w1.right1
 obtain ⟨r3,e3,hp⟩:=ag hp
 refine aE (cM.P rfl ⟨w2,f2⟩ e3) ?_
 rintro _ H4 ⟨o1a_4,o1n_4,o1c_4,o1k_4,rfl,rfl,w4,s4,f4_0⟩
 obtain ⟨w5,s5⟩:=W.frame1 w1 w4 s4
 refine br (br (br (br (br (br (br (br (br ?_))))))))
 refine aq w5 3 λH6 w6 s6=>?_
 refine aq w6 3 λH7 w7 s7=>?_
 refine lI w7 3 ?_
 refine lSl w7 3 ?_
 obtain ⟨w8,s8⟩:=w7.pp [1] 5
 exact aw hp ⟨_,_,_,_,rfl,rfl,w8,(s0.trans (s1.trans (s5.trans (s6.trans (s7.trans s8))))),((CR.flat (eA .i64) f4_0).step (s6.trans (s7.trans s8)))⟩
def aQ.pl125 (F:Nat) :Nat->List Int->Int->List Int->List Int->Int->Int->Option (Int×List Int×Int)
 | 0,_,_,_,_,_,_=>none
 | k+1,rN,wB,rO,pm,lg,iG=>(bif (decide (iG<lg)) then ((ix pm iG).bind λn1=>aQ.pl8027 F (aQ.pl125 F k) F rN wB rO pm lg iG iG (gt pm n1) (rN.length:Int) 0) else (aQ.pj3 F wB rO))
theorem aQ.l125_P  :∀ k,aQ.S125 H0 Ri R0  (aQ.l125 F (cL.tw F) (bJ.tw F) (dG.tw F) (cM.tw F)  k) (aQ.pl125 F  k):=by
 intro k
 induction k with
 | zero=>unfold aQ.S125;intros;rename_i hp;cases hp
 | succ k ih=>
  intro adt adu wB lg iG RD RE RF RG Gh oD Gi oE Gj oF Gk RH RJ RK RL rN RM rO pm RN RO H apq apr aps apt h0 r hp
  obtain ⟨w0,s0,apu,adY,adZ,ad0⟩:=h0
  subst apq
  subst apr
  subst aps
  subst apt
  unfold aQ.pl125 at hp
  unfold aQ.l125
  refine aB hp (λhp=>?_) λhp=>?_
  ·obtain ⟨n1,g1,hp⟩:=ag hp
   obtain ⟨p1,q1,i1,h1,j1⟩:=ROs.ixr ad0 rfl g1
   refine ai i1 ?_
   have h1:_=[_]:=h1
   subst h1
   refine ai (aG (j1 0 _ rfl)) ?_
   refine lSl w0 0 ?_
   exact aQ.l8027_P (@ih) F rfl rfl rfl rfl ⟨w0,s0,apu,adY,adZ,ad0⟩ hp
  ·obtain ⟨w2,s2⟩:=w0.pp [1,2,3,4] 5
   exact aQ.j3_P rfl rfl ⟨w2,(s0.trans s2),(adY.step s2),(adZ.step s2)⟩ hp
def aQ.p (F:Nat) (aa:Int) (aF:asr) (ar:Int) (bl:asr):Option (Int×List Int×Int):=(cL.p F ([(aa,aF),(ar,bl)]:List (Int×List Int))).bind λr6=>(bif (!r6) then (some (0,([]:List Int),1)) else ((bJ.p F aF).bind λr13=>(bJ.p F bl).bind λr16=>(dG.p F r13 r16 1000000000000).bind λr18=>(bif (!r18.2) then (some (0,([]:List Int),3)) else ((mkn (wrap .i64 ((aF.length:Int)+(bl.length:Int))) (0:Int)).bind λl24=>aQ.pl125 F F bl (wrap .i64 (aa+ar)) l24 aF (aF.length:Int) 0))))
theorem aQ.P {aa ar bV dW bq c_ bW dX aF bl} (dk:bq=aF.length) (gk:c_=bl.length) (h0:Inn H R0 λR=>ROs eI H R ⟨bV,bq,bW⟩ aF/\ROs eI H R ⟨dW,c_,dX⟩ bl) {r:asJ} (hp:aQ.p F aa aF ar bl=some r):Rt (aQ.tw F aa ⟨bV,bq,bW⟩ ar ⟨dW,c_,dX⟩ H) (aQ.Q H R0 R0  r):=by
 obtain ⟨w0,cF,eW⟩:=h0
 subst dk
 subst gk
 unfold aQ.p at hp
 unfold aQ.tw aQ.twX
 have s0:=w0.rf
 refine aR w0 λH1 w1 s1=>?_
 refine aR w1 λH2 w2 s2=>?_
 refine aR w2 λH3 w3 s3=>?_
 refine lI w3 2 ?_
 refine lSl w3 2 ?_
 refine lI w3 1 ?_
 refine lSl w3 1 ?_
 refine cO (ac eI (eSl eI)) w3 (n:=2) (l:=([(aa,aF),(ar,bl)]:List (Int×List Int))) rfl (CR.cons (c:=[_,_]) ⟨[_],_,rfl,rfl,⟨_,rfl,(cF.step (s1.trans (s2.trans s3)))⟩⟩ (CR.cons (c:=[_,_]) ⟨[_],_,rfl,rfl,⟨_,rfl,(eW.step (s1.trans (s2.trans s3)))⟩⟩ CR.empty)) rfl λH4 w4 s4 c4=>?_
 have f5:=W.borrow1 (ac eI (eSl eI)) w4 c4
 obtain ⟨w5,s5⟩:=w4.right1
 obtain ⟨r6,e6,hp⟩:=ag hp
 refine aE (cL.P (show 2=List.length ([(aa,aF),(ar,bl)]:List (Int×List Int)) from rfl) ⟨w5,f5⟩ e6) ?_
 rintro _ H7 ⟨rfl,w7,s7,_⟩
 obtain ⟨w8,s8⟩:=W.frame1 w4 w7 s7
 refine br ?_
 refine aB hp (λhp=>?_) λhp=>?_
 ·refine aq w8 1 λH9 w9 s9=>?_
  refine aq w9 1 λH10 w10 s10=>?_
  refine lI w10 1 ?_
  refine lSl w10 1 ?_
  obtain ⟨w11,s11⟩:=w10.nilS eI.z (by decide)
  obtain ⟨w12,s12⟩:=w11.pp [0] 5
  exact aw hp ⟨_,_,_,_,rfl,rfl,w12,(s0.trans (s1.trans (s2.trans (s3.trans (s4.trans (s8.trans (s9.trans (s10.trans (s11.trans s12))))))))),((CR.empty:CR eI _ _ [] []).step s12)⟩
 ·refine lI w8 3 ?_
  refine lSl w8 3 ?_
  obtain ⟨r13,e13,hp⟩:=ag hp
  refine aE (bJ.P rfl ⟨w8,(cF.step (s1.trans (s2.trans (s3.trans (s4.trans s8)))))⟩ e13) ?_
  rintro _ H14 ⟨rfl,w14,s14,_⟩
  refine br ?_
  refine eQ (W.cons_of (Rn:=[]) w8 w14 s14) ?_
  refine lI w14 2 ?_
  refine lSl w14 2 ?_
  obtain ⟨r16,e16,hp⟩:=ag hp
  refine aE (bJ.P rfl ⟨w14,(eW.step (s1.trans (s2.trans (s3.trans (s4.trans (s8.trans s14))))))⟩ e16) ?_
  rintro _ H17 ⟨rfl,w17,s17,_⟩
  refine br ?_
  obtain ⟨r18,e18,hp⟩:=ag hp
  refine aE (dG.P ⟨w17,trivial⟩ e18) ?_
  rintro _ H19 ⟨rfl,w19,s19,_⟩
  refine br (br (br (br (br ?_))))
  refine aB hp (λhp=>?_) λhp=>?_
  ·refine aq w19 1 λH20 w20 s20=>?_
   refine aq w20 1 λH21 w21 s21=>?_
   refine lI w21 1 ?_
   refine lSl w21 1 ?_
   obtain ⟨w22,s22⟩:=w21.nilS eI.z (by decide)
   obtain ⟨w23,s23⟩:=w22.pp [0] 5
   exact aw hp ⟨_,_,_,_,rfl,rfl,w23,(s0.trans (s1.trans (s2.trans (s3.trans (s4.trans (s8.trans (s14.trans (s17.trans (s19.trans (s20.trans (s21.trans (s22.trans s23)))))))))))),((CR.empty:CR eI _ _ [] []).step s23)⟩
  ·refine lI w19 3 ?_
   refine lI w19 2 ?_
   refine lSl w19 3 ?_
   refine lSl w19 2 ?_
   obtain ⟨l24,e24,hp⟩:=ag hp
   refine kj eI (0:Int) w19 rfl rfl rfl e24 λH25 k25 w25 s25 c25=>?_
   refine aR w25 λH26 w26 s26=>?_
   refine aq w26 0 λH27 w27 s27=>?_
   refine aq w27 0 λH28 w28 s28=>?_
   refine lSl w28 5 ?_
   obtain ⟨w29,s29⟩:=w28.nilS eI.z (by decide)
   obtain ⟨w30,s30⟩:=w29.pp [5,0,4,2,1] 7
   exact aQ.l125_P F rfl rfl rfl rfl ⟨w30,(s0.trans (s1.trans (s2.trans (s3.trans (s4.trans (s8.trans (s14.trans (s17.trans (s19.trans (s25.trans (s26.trans (s27.trans (s28.trans (s29.trans s30)))))))))))))),(eW.step (s1.trans (s2.trans (s3.trans (s4.trans (s8.trans (s14.trans (s17.trans (s19.trans (s25.trans (s26.trans (s27.trans (s28.trans (s29.trans s30)))))))))))))),((CR.empty:CR eI _ _ [] []).step s30),(c25.step (s26.trans (s27.trans (s28.trans (s29.trans s30))))),(cF.step (s1.trans (s2.trans (s3.trans (s4.trans (s8.trans (s14.trans (s17.trans (s19.trans (s25.trans (s26.trans (s27.trans (s28.trans (s29.trans s30))))))))))))))⟩ hp
def dc.Q (H0:Hp) (Ri R0:asp)  (r:asv) (v:AV) (H':Hp):Prop:=∃ o1a:ON,∃ o1n:Nat,∃ o1c:Cap,∃ o1k:List AV,v=(.agg [(.i r.1),(.sl ⟨o1a,o1n,o1c⟩)])/\o1n=(r.2).length/\Out H0 Ri H' (Rs.own ⟨o1a,o1n,o1c⟩ eI.z o1k::R0) λR=>CR eI H' R o1k (r.2)
def dc.p (F:Nat) (aa:Int) (aF:asr) (ar:Int) (bl:asr):Option (Int×List Int):=(aQ.p F aa aF ar bl).bind λr4=>some (r4.1,r4.2.1)
theorem dc.P {aa ar bV dW bq c_ bW dX aF bl} (dk:bq=aF.length) (gk:c_=bl.length) (h0:Inn H R0 λR=>ROs eI H R ⟨bV,bq,bW⟩ aF/\ROs eI H R ⟨dW,c_,dX⟩ bl) {r:asv} (hp:dc.p F aa aF ar bl=some r):Rt (dc.tw F aa ⟨bV,bq,bW⟩ ar ⟨dW,c_,dX⟩ H) (dc.Q H R0 R0  r):=by
 obtain ⟨w0,cF,eW⟩:=h0
 subst dk
 subst gk
 unfold dc.p at hp
 unfold dc.tw dc.twX
 have s0:=w0.rf
 refine aR w0 λH1 w1 s1=>?_
 refine aR w1 λH2 w2 s2=>?_
 refine aR w2 λH3 w3 s3=>?_
 refine lI w3 2 ?_
 refine lSl w3 2 ?_
 refine lI w3 1 ?_
 refine lSl w3 1 ?_
 obtain ⟨r4,e4,hp⟩:=ag hp
 refine aE (aQ.P rfl rfl ⟨w3,(cF.step (s1.trans (s2.trans s3))),(eW.step (s1.trans (s2.trans s3)))⟩ e4) ?_
 rintro _ H5 ⟨o1a_5,o1n_5,o1c_5,o1k_5,rfl,rfl,w5,s5,f5_0⟩
 refine br (br (br (br (br (br (br (br (br ?_))))))))
 refine aR w5 λH6 w6 s6=>?_
 refine aq w6 0 λH7 w7 s7=>?_
 refine aq w7 0 λH8 w8 s8=>?_
 refine lI w8 0 ?_
 refine lSl w8 0 ?_
 refine aq w8 2 λH9 w9 s9=>?_
 refine aq w9 2 λH10 w10 s10=>?_
 refine lI w10 2 ?_
 refine lSl w10 2 ?_
 obtain ⟨w11,s11⟩:=w10.pp [1] 5
 exact aw hp ⟨_,_,_,_,rfl,rfl,w11,(s0.trans (s1.trans (s2.trans (s3.trans (s5.trans (s6.trans (s7.trans (s8.trans (s9.trans (s10.trans s11)))))))))),(f5_0.step (s6.trans (s7.trans (s8.trans (s9.trans (s10.trans s11))))))⟩
def dS.Q (H0:Hp) (Ri R0:asp)  (r:Int) (v:AV) (H':Hp):Prop:=v=(.i r)/\Out H0 Ri H' (R0) λR=>True
def dS.p (F:Nat) (aa:Int):Option (Int):=some (wrap .i64 (1 - (wrap .i64 (2 * (Int.tmod aa 2)))))
theorem dS.P {aa}  (h0:Inn H R0 λR=>True) {r:Int} (hp:dS.p F aa=some r):Rt (dS.tw F aa H) (dS.Q H R0 R0  r):=by
 obtain ⟨w0,_⟩:=h0
 unfold dS.p at hp
 unfold dS.tw dS.twX
 have s0:=w0.rf
 exact aw hp ⟨rfl,w0,s0,trivial⟩
def aC.Q (H0:Hp) (Ri R0:asp)  (r:asv) (v:AV) (H':Hp):Prop:=∃ o1a:ON,∃ o1n:Nat,∃ o1c:Cap,v=(.agg [(.i r.1),(.sl ⟨o1a,o1n,o1c⟩)])/\o1n=(r.2).length/\Out H0 Ri H' (R0) λR=>ROs eI H' R ⟨o1a,o1n,o1c⟩ (r.2)
def aC.S125 (H0:Hp) (Ri R0:asp)  (C:asX) (pC:asG):Prop:=∀ {Si Sj Sk Gv Gw jZ Gx Sn So Sq wD ad2 fz hP Sr Ss St rQ},∀ {H:Hp},Gv=wD.length->Gw=Sr.length->Gx=rQ.length->(Out H0 Ri H (Rs.own ⟨Sj,Gw,So⟩ eI.z Ss::Rs.blk jZ [.i ad2,.sl ⟨Sj,Gw,So⟩]::Rs.own ⟨Sk,Gx,Sq⟩ (ac eI (eSl eI)).z St::R0) λR=>ROs (eSl (ac eI (eSl eI))) H R ⟨Si,Gv,Sn⟩ wD/\CR eI H R Ss Sr/\CR (ac eI (eSl eI)) H R St rQ)->∀ {r:asv},pC wD fz rQ hP=some r->Rt (C ⟨Si,Gv,Sn⟩ jZ 0 fz ⟨Sk,Gx,Sq⟩ hP H) (aC.Q H0 Ri R0  r)
def aC.S8021 (H0:Hp) (Ri R0:asp)  (C:atu) (pC:atH):Prop:=∀ {Su Sv Sw Sx Gy Gz nh GA GB Sy Sz SA SB po ad3 jN iI jO fA SC pr SD SF SG pt},∀ {H:Hp},Gy=po.length->Gz=SC.length->GA=pt.length->GB=pr.length->(Out H0 Ri H (Rs.own ⟨Sv,Gz,Sz⟩ eI.z SD::Rs.blk nh [.i ad3,.sl ⟨Sv,Gz,Sz⟩]::Rs.own ⟨Sw,GA,SA⟩ (ac eI (eSl eI)).z SF::Rs.own ⟨Sx,GB,SB⟩ eI.z SG::R0) λR=>ROs (eSl (ac eI (eSl eI))) H R ⟨Su,Gy,Sy⟩ po/\CR eI H R SD SC/\CR (ac eI (eSl eI)) H R SF pt/\CR eI H R SG pr)->∀ {r:asv},pC po jN pt iI pr jO fA=some r->Rt (C ⟨Su,Gy,Sy⟩ nh 0 jN ⟨Sw,GA,SA⟩ iI ⟨Sx,GB,SB⟩ jO fA H) (aC.Q H0 Ri R0  r)
def aC.pj11 (F:Nat) (GC:atH) (zZ:asK) (vA:Int) (z_:asL) (vB:Int) (Aa:asr) (vC:Int) (vD:Int):Option (Int×List Int):=GC zZ vA z_ vB Aa vC (wrap .i64 (vD+1))
theorem aC.j11_P  {C8021_:atu} {GC:atH} (hC8021:aC.S8021 H0 Ri R0  C8021_ GC) {ad4 ad5 ad6 ad7 SH SI CJ SJ SK ad8 ad9 ad_ aea zZ apv vA vB vC vD aeb Aa aec aed aee z_} (apw:SH=zZ.length) (apx:SI=aeb.length) (apy:SJ=z_.length) (apz:SK=Aa.length) (h0:Out H0 Ri H (Rs.own ⟨ad5,SI,ad9⟩ eI.z aec::Rs.blk CJ [.i apv,.sl ⟨ad5,SI,ad9⟩]::Rs.own ⟨ad6,SJ,ad_⟩ (ac eI (eSl eI)).z aed::Rs.own ⟨ad7,SK,aea⟩ eI.z aee::R0) λR=>ROs (eSl (ac eI (eSl eI))) H R ⟨ad4,SH,ad8⟩ zZ/\CR eI H R aec aeb/\CR (ac eI (eSl eI)) H R aed z_/\CR eI H R aee Aa) {r:asv} (hp:aC.pj11 F GC zZ vA z_ vB Aa vC vD=some r):Rt (aC.j11 F (cq.tw F) (dc.tw F) (dS.tw F) (cz.tw F) C8021_ ⟨ad4,SH,ad8⟩ CJ 0 vA ⟨ad6,SJ,ad_⟩ vB ⟨ad7,SK,aea⟩ vC vD H) (aC.Q H0 Ri R0  r):=by
 obtain ⟨w0,s0,apA,apB,apC,apD⟩:=h0
 subst apw
 subst apx
 subst apy
 subst apz
 unfold aC.pj11 at hp
 unfold aC.j11
 exact hC8021 rfl rfl rfl rfl ⟨w0,s0,apA,apB,apC,apD⟩ hp
def aC.S16047 (H0:Hp) (Ri R0:asp)  (C:Sl->Nat->Nat->Int->Sl->Int->Int->Sl->Int->Int->Hp->OA) (pC:List ((List (Int×List Int)))->Int->List (Int×List Int)->Int->Int->List Int->Int->Int->Option (Int×List Int)):Prop:=∀ {SL SM SN SO GD GE oH GF GG SP SQ SS SU lT aef lj g_ jM ll iH SV mD SW SX SY iT},∀ {H:Hp},GD=lT.length->GE=SV.length->GF=iT.length->GG=mD.length->(Out H0 Ri H (Rs.own ⟨SM,GE,SQ⟩ eI.z SW::Rs.blk oH [.i aef,.sl ⟨SM,GE,SQ⟩]::Rs.own ⟨SN,GF,SS⟩ (ac eI (eSl eI)).z SX::Rs.own ⟨SO,GG,SU⟩ eI.z SY::R0) λR=>ROs (eSl (ac eI (eSl eI))) H R ⟨SL,GD,SP⟩ lT/\CR eI H R SW SV/\CR (ac eI (eSl eI)) H R SX iT/\CR eI H R SY mD)->∀ {r:asv},pC lT lj iT g_ jM mD ll iH=some r->Rt (C ⟨SL,GD,SP⟩ oH 0 lj ⟨SN,GF,SS⟩ g_ jM ⟨SO,GG,SU⟩ ll iH H) (aC.Q H0 Ri R0  r)
def aC.pj8 (F:Nat) (bv:asG) (Ab:asK) (vu:Int) (Ac:asL) (vv:Int):Option (Int×List Int):=bv Ab vu Ac (wrap .i64 (vv+1))
theorem aC.j8_P  {C125_:asX} {bv:asG} (hC125:aC.S125 H0 Ri R0  C125_ bv) {aeg aeh aei SZ S_ CE Ta aej aek ael Ab apE vu vv aem aen aeo Ac} (apF:SZ=Ab.length) (apG:S_=aem.length) (apH:Ta=Ac.length) (h0:Out H0 Ri H (Rs.own ⟨aeh,S_,aek⟩ eI.z aen::Rs.blk CE [.i apE,.sl ⟨aeh,S_,aek⟩]::Rs.own ⟨aei,Ta,ael⟩ (ac eI (eSl eI)).z aeo::R0) λR=>ROs (eSl (ac eI (eSl eI))) H R ⟨aeg,SZ,aej⟩ Ab/\CR eI H R aen aem/\CR (ac eI (eSl eI)) H R aeo Ac) {r:asv} (hp:aC.pj8 F bv Ab vu Ac vv=some r):Rt (aC.j8 F (cq.tw F) (dc.tw F) (dS.tw F) (cz.tw F) C125_ ⟨aeg,SZ,aej⟩ CE 0 vu ⟨aei,Ta,ael⟩ vv H) (aC.Q H0 Ri R0  r):=by
 obtain ⟨w0,s0,apI,apJ,apK⟩:=h0
 subst apF
 subst apG
 subst apH
 unfold aC.pj8 at hp
 unfold aC.j8
 exact hC125 rfl rfl rfl ⟨w0,s0,apI,apJ,apK⟩ hp
def aC.pj9 (F:Nat) (bv:asG) (Ad:asK) (vw:Int) (Ae:asL) (vx:Int):Option (Int×List Int):=aC.pj8 F bv Ad vw Ae vx
theorem aC.j9_P  {C125_:asX} {bv:asG} (hC125:aC.S125 H0 Ri R0  C125_ bv) {aep aeq aer Tc Td CF Te aes aet aeu Ad apL vw vx aev aew aex Ae} (apM:Tc=Ad.length) (apN:Td=aev.length) (apO:Te=Ae.length) (h0:Out H0 Ri H (Rs.own ⟨aeq,Td,aet⟩ eI.z aew::Rs.blk CF [.i apL,.sl ⟨aeq,Td,aet⟩]::Rs.own ⟨aer,Te,aeu⟩ (ac eI (eSl eI)).z aex::R0) λR=>ROs (eSl (ac eI (eSl eI))) H R ⟨aep,Tc,aes⟩ Ad/\CR eI H R aew aev/\CR (ac eI (eSl eI)) H R aex Ae) {r:asv} (hp:aC.pj9 F bv Ad vw Ae vx=some r):Rt (aC.j9 F (cq.tw F) (dc.tw F) (dS.tw F) (cz.tw F) C125_ ⟨aep,Tc,aes⟩ CF 0 vw ⟨aer,Te,aeu⟩ vx H) (aC.Q H0 Ri R0  r):=by
 obtain ⟨w0,s0,apP,apQ,apR⟩:=h0
 subst apM
 subst apN
 subst apO
 unfold aC.pj9 at hp
 unfold aC.j9
 exact aC.j8_P (@hC125) rfl rfl rfl ⟨w0,s0,apP,apQ,apR⟩ hp
def aC.pl16047 (F:Nat) (bv:asG):Nat->List ((List (Int×List Int)))->Int->List (Int×List Int)->Int->Int->List Int->Int->Int->Option (Int×List Int)
 | 0,_,_,_,_,_,_,_,_=>none
 | k+1,lT,lj,iT,g_,jM,mD,ll,iH=>(bif (decide (iH<ll)) then ((ix mD iH).bind λn1=>(ix lT jM).bind λn2=>(ix (gt lT n2) (gt mD n1)).bind λn3=>(if (gt mD n1)<0 then none else ((ix iT (Go.bits .andNot .i64 g_ (wrap .i64 (1 * 2 ^ (min ((gt mD n1):Int).toNat (IntKind.i64).bits))))).bind λn5=>(dc.p F ((gt (gt lT n2) n3).1) ((gt (gt lT n2) n3).2) ((gt iT n5).1) ((gt iT n5).2)).bind λr6=>(ix iT g_).bind λn12=>(dS.p F (wrap .i64 (jM - iH))).bind λr13=>(cq.p F r13 0).bind λr16=>(dc.p F r6.1 r6.2 r16.1 r16.2).bind λr22=>(cz.p F ((gt iT n12).1) ((gt iT n12).2) r22.1 r22.2).bind λr29=>(ix iT g_).bind λn32=>(some (iT.set n32 (r29.1,(gt iT n32).2))).bind λl33=>(some (l33.set n32 ((gt l33 n32).1,r29.2))).bind λl36=>aC.pl16047 F bv k lT lj l36 g_ jM mD ll (wrap .i64 (iH+1))))) else (aC.pj9 F bv lT lj iT g_))
theorem aC.l16047_P  {C125_:asX} {bv:asG} (hC125:aC.S125 H0 Ri R0  C125_ bv):∀ k,aC.S16047 H0 Ri R0  (aC.l16047 F (cq.tw F) (dc.tw F) (dS.tw F) (cz.tw F) C125_ k) (aC.pl16047 F bv k):=by
 intro k
 induction k with
 | zero=>unfold aC.S16047;intros;rename_i hp;cases hp
 | succ k ih=>
  intro SL SM SN SO GD GE oH GF GG SP SQ SS SU lT aef lj g_ jM ll iH SV mD SW SX SY iT H apS apT apU apV h0 r hp
  obtain ⟨w0,s0,Tf,aey,Af,aez⟩:=h0
  subst apS
  subst apT
  subst apU
  subst apV
  unfold aC.pl16047 at hp
  unfold aC.l16047
  refine aB hp (λhp=>?_) λhp=>?_
  ·obtain ⟨n1,g1,hp⟩:=ag hp
   obtain ⟨p1,q1,i1,h1,j1⟩:=W.ixo (E:=eI) w0 (i:=3) rfl rfl aez g1
   refine ai i1 ?_
   have h1:_=[_]:=h1
   subst h1
   refine ai (aG (j1 0 _ rfl)) ?_
   obtain ⟨n2,g2,hp⟩:=ag hp
   obtain ⟨p2,q2,i2,h2,j2⟩:=ROs.ixr Tf rfl g2
   refine ai i2 ?_
   obtain ⟨⟨al0,m2_0,c2_0⟩,rfl,f2_0⟩:=h2
   obtain rfl:m2_0=_:=f2_0.n
   refine ai (iU (j2 0 _ rfl)) ?_
   obtain ⟨n3,g3,hp⟩:=ag hp
   obtain ⟨p3,q3,i3,h3,j3⟩:=ROs.ixr f2_0 rfl g3
   refine ai i3 ?_
   obtain ⟨_,_,rfl,rfl,⟨⟨al1,m3_1,c3_1⟩,rfl,f3_1⟩⟩:=h3
   obtain rfl:m3_1=_:=f3_1.n
   refine ai (aG (j3 0 _ rfl)) ?_
   refine ai (iU (j3 1 _ rfl)) ?_
   obtain ⟨g4,hp⟩:=kl hp
   refine kn g4 ?_
   obtain ⟨n5,g5,hp⟩:=ag hp
   obtain ⟨p5,q5,i5,h5,j5⟩:=W.ixo (E:=(ac eI (eSl eI))) w0 (i:=2) rfl rfl Af g5
   refine ai i5 ?_
   obtain ⟨_,_,rfl,rfl,⟨⟨al2,m5_1,c5_1⟩,rfl,f5_1⟩⟩:=h5
   obtain rfl:m5_1=_:=f5_1.n
   refine ai (aG (j5 0 _ rfl)) ?_
   refine ai (iU (j5 1 _ rfl)) ?_
   obtain ⟨r6,e6,hp⟩:=ag hp
   refine aE (dc.P rfl rfl ⟨w0,f3_1,f5_1⟩ e6) ?_
   rintro _ H7 ⟨o1a_7,o1n_7,o1c_7,o1k_7,rfl,rfl,w7,s7,f7_0⟩
   refine br (br (br (br (br ?_))))
   refine eQ (W.cons_of (Rn:=[_]) w0 w7 s7) ?_
   refine aR w7 λH9 w9 s9=>?_
   refine aq w9 0 λH10 w10 s10=>?_
   refine aq w10 0 λH11 w11 s11=>?_
   obtain ⟨n12,g12,hp⟩:=ag hp
   obtain ⟨p12,q12,i12,h12,j12⟩:=W.ixo (E:=(ac eI (eSl eI))) w11 (i:=4) rfl rfl (Af.step (s7.trans (s9.trans (s10.trans s11)))) g12
   refine ai i12 ?_
   obtain ⟨_,_,rfl,rfl,⟨⟨ar0,m12_1,c12_1⟩,rfl,f12_1⟩⟩:=h12
   obtain rfl:m12_1=_:=f12_1.n
   refine ai (aG (j12 0 _ rfl)) ?_
   refine ai (iU (j12 1 _ rfl)) ?_
   refine lI w11 0 ?_
   refine lSl w11 0 ?_
   obtain ⟨r13,e13,hp⟩:=ag hp
   refine aE (dS.P ⟨w11,trivial⟩ e13) ?_
   rintro _ H14 ⟨rfl,w14,s14,_⟩
   refine br ?_
   refine eQ (W.cons_of (Rn:=[]) w11 w14 s14) ?_
   obtain ⟨r16,e16,hp⟩:=ag hp
   refine aE (cq.P ⟨w14,trivial⟩ e16) ?_
   rintro _ H17 ⟨o1a_17,o1n_17,o1c_17,o1k_17,rfl,rfl,w17,s17,f17_0⟩
   refine br (br (br (br (br ?_))))
   refine eQ (W.cons_of (Rn:=[_]) w14 w17 s17) ?_
   obtain ⟨w19,s19⟩:=w17.pp [2,0,1,3,4,5,6] 7
   have f20:=W.borrow1 eI w19 (f7_0.step (s9.trans (s10.trans (s11.trans (s14.trans (s17.trans s19))))))
   obtain ⟨w20,s20⟩:=w19.right1
   have f21:=W.borrow1 eI w20 ((f17_0.step s19).step s20)
   obtain ⟨w21,s21⟩:=w20.right1
   obtain ⟨r22,e22,hp⟩:=ag hp
   refine aE (dc.P rfl rfl ⟨w21,(f20.step s21),f21⟩ e22) ?_
   rintro _ H23 ⟨o1a_23,o1n_23,o1c_23,o1k_23,rfl,rfl,w23,s23,f23_0⟩
   obtain ⟨w24,s24⟩:=W.frame1 w20 w23 s23
   obtain ⟨w25,s25⟩:=W.frame1 w19 w24 s24
   refine br (br (br (br (br ?_))))
   refine eQ (aZ.tr (aZ.refl _) s19 (W.cons_of (Rn:=[_]) w21 w23 s23)) ?_
   obtain ⟨w27,s27⟩:=w25.pp [2,0,1,3,4,5,6,7] 8
   have f28:=W.borrow1 eI w27 ((CR.flat (eA .i64) f23_0).step s27)
   obtain ⟨w28,s28⟩:=w27.right1
   obtain ⟨r29,e29,hp⟩:=ag hp
   refine aE (cz.P rfl rfl ⟨w28,((f12_1.step (s14.trans (s17.trans (s19.trans (s25.trans s27))))).step s28),f28⟩ e29) ?_
   rintro _ H30 ⟨o1a_30,o1n_30,o1c_30,o1k_30,rfl,rfl,w30,s30,f30_0⟩
   obtain ⟨w31,s31⟩:=W.frame1 w27 w30 s30
   refine br (br (br (br (br ?_))))
   obtain ⟨n32,g32,hp⟩:=ag hp
   obtain ⟨p32,q32,i32,h32,j32⟩:=W.ixo (E:=(ac eI (eSl eI))) w31 (i:=7) rfl rfl (Af.step (s7.trans (s9.trans (s10.trans (s11.trans (s14.trans (s17.trans (s19.trans (s25.trans (s27.trans s31)))))))))) g32
   refine ai i32 ?_
   obtain ⟨l33,e33,hp⟩:=ag hp
   refine de (ac eI (eSl eI)) w31 (i:=7) (j:=0) (p:=p32) rfl rfl (Af.step (s7.trans (s9.trans (s10.trans (s11.trans (s14.trans (s17.trans (s19.trans (s25.trans (s27.trans s31)))))))))) g32 i32 e33 rfl rfl (λ_ h=>by obtain ⟨_,_,rfl,rfl,⟨_,rfl,q1⟩⟩:=h;exact ⟨[_],_,rfl,rfl,⟨_,rfl,q1⟩⟩) λH34 k34 w34 s34 c34=>?_
   obtain ⟨w35,s35,f35⟩:=w34.frz (i:=1) eI rfl ((CR.flat (eA .i64) f30_0).step s34)
   obtain ⟨l36,e36,hp⟩:=ag hp
   refine de (ac eI (eSl eI)) w35 (i:=6) (j:=1) (p:=p32) rfl rfl (c34.step s35) (mG g32 (cj e33)) i32 e36 rfl rfl (λ_ h=>by obtain ⟨_,_,rfl,rfl,⟨_,rfl,q1⟩⟩:=h;exact ⟨[_],_,rfl,rfl,⟨_,rfl,f35⟩⟩) λH37 k37 w37 s37 c37=>?_
   obtain ⟨w38,s38⟩:=w37.pp [4,5,6,7] 8
   exact ih rfl rfl ((cj e33).symm.trans (cj e36).symm) rfl ⟨w38,(s0.trans (s7.trans (s9.trans (s10.trans (s11.trans (s14.trans (s17.trans (s19.trans (s25.trans (s27.trans (s31.trans (s34.trans (s35.trans (s37.trans s38)))))))))))))),(Tf.step (s7.trans (s9.trans (s10.trans (s11.trans (s14.trans (s17.trans (s19.trans (s25.trans (s27.trans (s31.trans (s34.trans (s35.trans (s37.trans s38)))))))))))))),(aey.step (s7.trans (s9.trans (s10.trans (s11.trans (s14.trans (s17.trans (s19.trans (s25.trans (s27.trans (s31.trans (s34.trans (s35.trans (s37.trans s38)))))))))))))),(c37.step s38),(aez.step (s7.trans (s9.trans (s10.trans (s11.trans (s14.trans (s17.trans (s19.trans (s25.trans (s27.trans (s31.trans (s34.trans (s35.trans (s37.trans s38))))))))))))))⟩ hp
  ·obtain ⟨w39,s39⟩:=w0.pp [0,1,2] 4
   exact aC.j9_P (@hC125) rfl rfl rfl ⟨w39,(s0.trans s39),(Tf.step s39),(aey.step s39),(Af.step s39)⟩ hp
def aC.pj10 (F:Nat) (bv:asG) (Ag:asK) (vy:Int) (Ah:asL) (vz:Int) (rR:asr):Option (Int×List Int):=aC.pl16047 F bv F Ag vy Ah vz (wrap .i64 ((rR.length:Int) - 1)) rR (rR.length:Int) 0
theorem aC.j10_P  {C125_:asX} {bv:asG} (hC125:aC.S125 H0 Ri R0  C125_ bv) {aeA aeB aeC aeD Tg Th CI Ti Tj aeE aeF aeG aeH Ag apW vy vz aeI rR aeJ aeK aeL Ah} (apX:Tg=Ag.length) (apY:Th=aeI.length) (apZ:Ti=Ah.length) (ap0:Tj=rR.length) (h0:Out H0 Ri H (Rs.own ⟨aeB,Th,aeF⟩ eI.z aeJ::Rs.blk CI [.i apW,.sl ⟨aeB,Th,aeF⟩]::Rs.own ⟨aeC,Ti,aeG⟩ (ac eI (eSl eI)).z aeK::Rs.own ⟨aeD,Tj,aeH⟩ eI.z aeL::R0) λR=>ROs (eSl (ac eI (eSl eI))) H R ⟨aeA,Tg,aeE⟩ Ag/\CR eI H R aeJ aeI/\CR (ac eI (eSl eI)) H R aeK Ah/\CR eI H R aeL rR) {r:asv} (hp:aC.pj10 F bv Ag vy Ah vz rR=some r):Rt (aC.j10 F (cq.tw F) (dc.tw F) (dS.tw F) (cz.tw F) C125_ ⟨aeA,Tg,aeE⟩ CI 0 vy ⟨aeC,Ti,aeG⟩ vz ⟨aeD,Tj,aeH⟩ H) (aC.Q H0 Ri R0  r):=by
 obtain ⟨w0,s0,ap1,ap2,ap3,ap4⟩:=h0
 subst apX
 subst apY
 subst apZ
 subst ap0
 unfold aC.pj10 at hp
 unfold aC.j10
 exact aC.l16047_P (@hC125) F rfl rfl rfl rfl ⟨w0,s0,ap1,ap2,ap3,ap4⟩ hp
def aC.pl8021 (F:Nat) (bv:asG):Nat->List ((List (Int×List Int)))->Int->List (Int×List Int)->Int->List Int->Int->Int->Option (Int×List Int)
 | 0,_,_,_,_,_,_,_=>none
 | k+1,po,jN,pt,iI,pr,jO,fA=>(bif (decide (fA<jO)) then ((if fA<0 then none else ((bif ((Go.bits .and .i64 (Int.fdiv iI (2 ^ (min (fA:Int).toNat (IntKind.i64).bits))) 1)==1) then ((apn pr ([fA]:List Int)).bind λl3=>aC.pj11 F (aC.pl8021 F bv k) po jN pt iI l3 jO fA) else (aC.pj11 F (aC.pl8021 F bv k) po jN pt iI pr jO fA))))) else (aC.pj10 F bv po jN pt iI pr))
theorem aC.l8021_P  {C125_:asX} {bv:asG} (hC125:aC.S125 H0 Ri R0  C125_ bv):∀ k,aC.S8021 H0 Ri R0  (aC.l8021 F (cq.tw F) (dc.tw F) (dS.tw F) (cz.tw F) C125_ k) (aC.pl8021 F bv k):=by
 intro k
 induction k with
 | zero=>unfold aC.S8021;intros;rename_i hp;cases hp
 | succ k ih=>
  intro Su Sv Sw Sx Gy Gz nh GA GB Sy Sz SA SB po ad3 jN iI jO fA SC pr SD SF SG pt H ap5 ap6 ap7 ap8 h0 r hp
  obtain ⟨w0,s0,Tk,Tl,Tn,To⟩:=h0
  subst ap5
  subst ap6
  subst ap7
  subst ap8
  unfold aC.pl8021 at hp
  unfold aC.l8021
  refine aB hp (λhp=>?_) λhp=>?_
  ·obtain ⟨g1,hp⟩:=kl hp
   refine kn g1 ?_
   refine aB hp (λhp=>?_) λhp=>?_
   ·refine cO eI w0 (n:=1) (l:=([fA]:List Int)) rfl (CR.cons1 rfl CR.empty) rfl λH2 w2 s2 c2=>?_
    refine ai (w2.rowo (i:=0) rfl) ?_
    obtain ⟨l3,e3,hp⟩:=ag hp
    refine fM eI w2 (i:=4) rfl rfl (To.step s2) c2 (show 1=List.length ([fA]:List Int) from rfl) rfl e3 λa4 d4 H4 w4 s4 c4 x4=>?_
    obtain ⟨w5,s5⟩:=w4.pp [1,2,3,4] 5
    exact aC.j11_P (@ih) rfl rfl rfl rfl ⟨w5,(s0.trans (s2.trans (s4.trans s5))),(Tk.step (s2.trans (s4.trans s5))),(Tl.step (s2.trans (s4.trans s5))),(Tn.step (s2.trans (s4.trans s5))),(c4.step s5)⟩ hp
   ·exact aC.j11_P (@ih) rfl rfl rfl rfl ⟨w0,s0,Tk,Tl,Tn,To⟩ hp
  ·exact aC.j10_P (@hC125) rfl rfl rfl rfl ⟨w0,s0,Tk,Tl,Tn,To⟩ hp
def aC.pj6 (F:Nat)  (oG:Int) (rS:asL):Option (Int×List Int):=(if oG<0 then none else ((ix rS (wrap .i64 ((wrap .i64 (1 * 2 ^ (min (oG:Int).toNat (IntKind.i64).bits))) - 1))).bind λn2=>some (((gt rS n2).1),(gt rS n2).2)))
theorem aC.j6_P   {ap9 oG aeM aeN Tp pX Tq aeO aeP aeQ aeR aeS rS} (ap_:Tp=aeQ.length) (aqa:Tq=rS.length) (h0:Out H0 Ri H (Rs.own ⟨aeM,Tp,aeO⟩ eI.z aeR::Rs.blk pX [.i ap9,.sl ⟨aeM,Tp,aeO⟩]::Rs.own ⟨aeN,Tq,aeP⟩ (ac eI (eSl eI)).z aeS::R0) λR=>CR eI H R aeR aeQ/\CR (ac eI (eSl eI)) H R aeS rS) {r:asv} (hp:aC.pj6 F  oG rS=some r):Rt (aC.j6 F (cq.tw F) (dc.tw F) (dS.tw F) (cz.tw F)  pX 0 oG ⟨aeN,Tq,aeP⟩ H) (aC.Q H0 Ri R0  r):=by
 obtain ⟨w0,s0,ar1,aqb⟩:=h0
 subst ap_
 subst aqa
 unfold aC.pj6 at hp
 unfold aC.j6
 obtain ⟨g1,hp⟩:=kl hp
 refine kn g1 ?_
 obtain ⟨n2,g2,hp⟩:=ag hp
 obtain ⟨p2,q2,i2,h2,j2⟩:=W.ixo (E:=(ac eI (eSl eI))) w0 (i:=2) rfl rfl aqb g2
 refine ai i2 ?_
 obtain ⟨_,_,rfl,rfl,⟨⟨amg,m2_1,c2_1⟩,rfl,f2_1⟩⟩:=h2
 obtain rfl:m2_1=_:=f2_1.n
 refine ai (aG (j2 0 _ rfl)) ?_
 refine ai (iU (j2 1 _ rfl)) ?_
 refine aq w0 1 λH3 w3 s3=>?_
 refine aq w3 1 λH4 w4 s4=>?_
 refine lI w4 1 ?_
 refine lSl w4 1 ?_
 obtain ⟨w5,s5⟩:=w4.pp [] 3
 exact aw hp ⟨_,_,_,rfl,rfl,w5,(s0.trans (s3.trans (s4.trans s5))),(f2_1.step (s3.trans (s4.trans s5)))⟩
def aC.pl125 (F:Nat) :Nat->List ((List (Int×List Int)))->Int->List (Int×List Int)->Int->Option (Int×List Int)
 | 0,_,_,_,_=>none
 | k+1,wD,fz,rQ,hP=>(if fz<0 then none else ((bif (decide (hP<(wrap .i64 (1 * 2 ^ (min (fz:Int).toNat (IntKind.i64).bits))))) then (aC.pl8021 F (aC.pl125 F k) F wD fz rQ hP ([]:List Int) fz 0) else (aC.pj6 F fz rQ))))
theorem aC.l125_P  :∀ k,aC.S125 H0 Ri R0  (aC.l125 F (cq.tw F) (dc.tw F) (dS.tw F) (cz.tw F)  k) (aC.pl125 F  k):=by
 intro k
 induction k with
 | zero=>unfold aC.S125;intros;rename_i hp;cases hp
 | succ k ih=>
  intro Si Sj Sk Gv Gw jZ Gx Sn So Sq wD ad2 fz hP Sr Ss St rQ H aqc aqd aqe h0 r hp
  obtain ⟨w0,s0,aqf,aeT,aeU⟩:=h0
  subst aqc
  subst aqd
  subst aqe
  unfold aC.pl125 at hp
  unfold aC.l125
  obtain ⟨g1,hp⟩:=kl hp
  refine kn g1 ?_
  refine aB hp (λhp=>?_) λhp=>?_
  ·obtain ⟨w2,s2⟩:=w0.nilS eI.z (by decide)
   obtain ⟨w3,s3⟩:=w2.pp [1,2,3,0] 4
   exact aC.l8021_P (@ih) F rfl rfl rfl rfl ⟨w3,(s0.trans (s2.trans s3)),(aqf.step (s2.trans s3)),(aeT.step (s2.trans s3)),(aeU.step (s2.trans s3)),((CR.empty:CR eI _ _ [] []).step s3)⟩ hp
  ·exact aC.j6_P rfl rfl ⟨w0,s0,aeT,aeU⟩ hp
def aC.p (F:Nat) (ah:asK):Option (Int×List Int):=(if (ah.length:Int)<0 then none else ((mkn (wrap .i64 (1 * 2 ^ (min ((ah.length:Int):Int).toNat (IntKind.i64).bits))) ((0:Int),([]:List Int))).bind λl3=>(cq.p F 1 0).bind λr5=>(ix l3 0).bind λn7=>(some (l3.set n7 (r5.1,(gt l3 n7).2))).bind λl8=>(some (l8.set n7 ((gt l8 n7).1,r5.2))).bind λl11=>aC.pl125 F F ah (ah.length:Int) l11 1))
theorem aC.P {az aj aA ah} (aT:aj=ah.length) (h0:Inn H R0 λR=>ROs (eSl (ac eI (eSl eI))) H R ⟨az,aj,aA⟩ ah) {r:asv} (hp:aC.p F ah=some r):Rt (aC.tw F ⟨az,aj,aA⟩ H) (aC.Q H R0 R0  r):=by
 obtain ⟨w0,aK⟩:=h0
 subst aT
 unfold aC.p at hp
 unfold aC.tw aC.twX
 have s0:=w0.rf
 refine aR w0 λH1 w1 s1=>?_
 obtain ⟨g2,hp⟩:=kl hp
 refine kn g2 ?_
 obtain ⟨l3,e3,hp⟩:=ag hp
 refine kj (ac eI (eSl eI)) ((0:Int),([]:List Int)) w1 ⟨[_],_,rfl,rfl,⟨_,rfl,ROs.nil⟩⟩ rfl rfl e3 λH4 k4 w4 s4 c4=>?_
 obtain ⟨r5,e5,hp⟩:=ag hp
 refine aE (cq.P ⟨w4,trivial⟩ e5) ?_
 rintro _ H6 ⟨o1a_6,o1n_6,o1c_6,o1k_6,rfl,rfl,w6,s6,f6_0⟩
 refine br (br (br (br (br ?_))))
 obtain ⟨n7,g7,hp⟩:=ag hp
 obtain ⟨p7,q7,i7,h7,j7⟩:=W.ixo (E:=(ac eI (eSl eI))) w6 (i:=1) rfl rfl (c4.step s6) g7
 refine ai i7 ?_
 obtain ⟨l8,e8,hp⟩:=ag hp
 refine de (ac eI (eSl eI)) w6 (i:=1) (j:=0) (p:=p7) rfl rfl (c4.step s6) g7 i7 e8 rfl rfl (λ_ h=>by obtain ⟨_,_,rfl,rfl,⟨_,rfl,q1⟩⟩:=h;exact ⟨[_],_,rfl,rfl,⟨_,rfl,q1⟩⟩) λH9 k9 w9 s9 c9=>?_
 obtain ⟨w10,s10,f10⟩:=w9.frz (i:=0) eI rfl (f6_0.step s9)
 obtain ⟨l11,e11,hp⟩:=ag hp
 refine de (ac eI (eSl eI)) w10 (i:=0) (j:=1) (p:=p7) rfl rfl (c9.step s10) (mG g7 (cj e8)) i7 e11 rfl rfl (λ_ h=>by obtain ⟨_,_,rfl,rfl,⟨_,rfl,q1⟩⟩:=h;exact ⟨[_],_,rfl,rfl,⟨_,rfl,f10⟩⟩) λH12 k12 w12 s12 c12=>?_
 obtain ⟨w13,s13⟩:=w12.nilS eI.z (by decide)
 obtain ⟨w14,s14⟩:=w13.pp [0,2,1] 3
 exact aC.l125_P F rfl rfl ((cj e8).symm.trans (cj e11).symm) ⟨w14,(s0.trans (s1.trans (s4.trans (s6.trans (s9.trans (s10.trans (s12.trans (s13.trans s14)))))))),(aK.step (s1.trans (s4.trans (s6.trans (s9.trans (s10.trans (s12.trans (s13.trans s14)))))))),((CR.empty:CR eI _ _ [] []).step s14),(c12.step (s13.trans s14))⟩ hp
def bG.Q (H0:Hp) (Ri R0:asp)  (r:asv) (v:AV) (H':Hp):Prop:=∃ o1a:ON,∃ o1n:Nat,∃ o1c:Cap,∃ o1k:List AV,v=(.agg [(.i r.1),(.sl ⟨o1a,o1n,o1c⟩)])/\o1n=(r.2).length/\Out H0 Ri H' (Rs.own ⟨o1a,o1n,o1c⟩ eI.z o1k::R0) λR=>CR eI H' R o1k (r.2)
def bG.S117 (H0:Hp) (Ri R0:asp)  (C:Nat->Nat->Nat->Nat->Int->Int->Hp->OA) (pC:atC):Prop:=∀ {aeV wE lm iJ rb Ts nz fd GH hO rc Tt rd mE rj Tu},∀ {H:Hp},nz=rd.length->GH=mE.length->(Out H0 Ri H (Rs.own ⟨rb,nz,rc⟩ eI.z rj::Rs.blk fd [.i aeV,.sl ⟨rb,nz,rc⟩]::Rs.own ⟨Ts,GH,Tt⟩ eI.z Tu::Rs.blk hO [.i wE,.sl ⟨Ts,GH,Tt⟩]::R0) λR=>CR eI H R rj rd/\CR eI H R Tu mE)->∀ {r:asv},pC wE mE lm iJ=some r->Rt (C fd 0 hO 0 lm iJ H) (bG.Q H0 Ri R0  r)
def bG.pl117 (F:Nat) :Nat->Int->List Int->Int->Int->Option (Int×List Int)
 | 0,_,_,_,_=>none
 | k+1,wE,mE,lm,iJ=>(bif (decide (iJ<lm)) then ((ix mE iJ).bind λn1=>(ix mE iJ).bind λn2=>(some (mE.set n2 (wrap .i64 (0 - (gt mE n1))))).bind λl3=>bG.pl117 F k wE l3 lm (wrap .i64 (iJ+1))) else (some (wE,mE)))
theorem bG.l117_P  :∀ k,bG.S117 H0 Ri R0  (bG.l117 F (dz.tw F)  k) (bG.pl117 F  k):=by
 intro k
 induction k with
 | zero=>unfold bG.S117;intros;rename_i hp;cases hp
 | succ k ih=>
  intro aeV wE lm iJ rb Ts nz fd GH hO rc Tt rd mE rj Tu H Oj aqg h0 r hp
  obtain ⟨w0,s0,Ol,GI⟩:=h0
  subst Oj
  subst aqg
  unfold bG.pl117 at hp
  unfold bG.l117
  refine aB hp (λhp=>?_) λhp=>?_
  ·refine lSl w0 3 ?_
   refine lSl w0 3 ?_
   obtain ⟨n1,g1,hp⟩:=ag hp
   obtain ⟨p1,q1,i1,h1,j1⟩:=W.ixo (E:=eI) w0 (i:=2) rfl rfl GI g1
   refine ai i1 ?_
   have h1:_=[_]:=h1
   subst h1
   refine ai (aG (j1 0 _ rfl)) ?_
   obtain ⟨n2,g2,hp⟩:=ag hp
   obtain ⟨p2,q2,i2,h2,j2⟩:=W.ixo (E:=eI) w0 (i:=2) rfl rfl GI g2
   refine ai i2 ?_
   obtain ⟨l3,e3,hp⟩:=ag hp
   refine de eI w0 (i:=2) (j:=0) (p:=p2) rfl rfl GI g2 i2 e3 rfl rfl (λ_ h=>by have h:_=[_]:=h;subst h;exact rfl) λH4 k4 w4 s4 c4=>?_
   exact ih rfl ((cj e3).symm) ⟨w4,(s0.trans s4),(Ol.step s4),c4⟩ hp
  ·refine lI w0 3 ?_
   refine lSl w0 3 ?_
   refine aq w0 1 λH5 w5 s5=>?_
   refine aq w5 1 λH6 w6 s6=>?_
   refine lI w6 1 ?_
   refine lSl w6 1 ?_
   obtain ⟨w7,s7⟩:=w6.pp [2] 4
   exact aw hp ⟨_,_,_,_,rfl,rfl,w7,(s0.trans (s5.trans (s6.trans s7))),(GI.step (s5.trans (s6.trans s7)))⟩
def bG.p (F:Nat) (aF:asr):Option (Int×List Int):=(dz.p F aF).bind λr3=>(bif (decide ((r3.length:Int)>0)) then ((ix r3 0).bind λn8=>(bif (decide ((gt r3 n8)<0)) then (bG.pl117 F F 0 r3 (r3.length:Int) 0) else (some (0,r3)))) else (some (0,r3)))
theorem bG.P {aa bV bq bW aF} (dk:bq=aF.length) (h0:Inn H R0 λR=>ROs eI H R ⟨bV,bq,bW⟩ aF) {r:asv} (hp:bG.p F aF=some r):Rt (bG.tw F aa ⟨bV,bq,bW⟩ H) (bG.Q H R0 R0  r):=by
 obtain ⟨w0,cF⟩:=h0
 subst dk
 unfold bG.p at hp
 unfold bG.tw bG.twX
 have s0:=w0.rf
 refine aR w0 λH1 w1 s1=>?_
 refine aR w1 λH2 w2 s2=>?_
 refine lSl w2 1 ?_
 obtain ⟨r3,e3,hp⟩:=ag hp
 refine aE (dz.P rfl ⟨w2,(cF.step (s1.trans s2))⟩ e3) ?_
 rintro _ H4 ⟨o0a_4,o0n_4,o0c_4,o0k_4,rfl,rfl,w4,s4,f4_0⟩
 refine br ?_
 refine aR w4 λH5 w5 s5=>?_
 refine aq w5 0 λH6 w6 s6=>?_
 refine aq w6 0 λH7 w7 s7=>?_
 refine lSl w7 0 ?_
 refine aB hp (λhp=>?_) λhp=>?_
 ·refine lSl w7 0 ?_
  obtain ⟨n8,g8,hp⟩:=ag hp
  obtain ⟨p8,q8,i8,h8,j8⟩:=W.ixo (E:=eI) w7 (i:=1) rfl rfl (f4_0.step (s5.trans (s6.trans s7))) g8
  refine ai i8 ?_
  have h8:_=[_]:=h8
  subst h8
  refine ai (aG (j8 0 _ rfl)) ?_
  refine aB hp (λhp=>?_) λhp=>?_
  ·refine lSl w7 0 ?_
   obtain ⟨w9,s9⟩:=w7.nilS eI.z (by decide)
   obtain ⟨w10,s10⟩:=w9.pp [0,3,2,1] 5
   exact bG.l117_P F rfl rfl ⟨w10,(s0.trans (s1.trans (s2.trans (s4.trans (s5.trans (s6.trans (s7.trans (s9.trans s10)))))))),((CR.empty:CR eI _ _ [] []).step s10),(f4_0.step (s5.trans (s6.trans (s7.trans (s9.trans s10)))))⟩ hp
  ·refine lI w7 0 ?_
   refine lSl w7 0 ?_
   refine aq w7 2 λH11 w11 s11=>?_
   refine aq w11 2 λH12 w12 s12=>?_
   refine lI w12 2 ?_
   refine lSl w12 2 ?_
   obtain ⟨w13,s13⟩:=w12.pp [1] 4
   exact aw hp ⟨_,_,_,_,rfl,rfl,w13,(s0.trans (s1.trans (s2.trans (s4.trans (s5.trans (s6.trans (s7.trans (s11.trans (s12.trans s13))))))))),(f4_0.step (s5.trans (s6.trans (s7.trans (s11.trans (s12.trans s13))))))⟩
 ·refine lI w7 0 ?_
  refine lSl w7 0 ?_
  refine aq w7 2 λH14 w14 s14=>?_
  refine aq w14 2 λH15 w15 s15=>?_
  refine lI w15 2 ?_
  refine lSl w15 2 ?_
  obtain ⟨w16,s16⟩:=w15.pp [1] 4
  exact aw hp ⟨_,_,_,_,rfl,rfl,w16,(s0.trans (s1.trans (s2.trans (s4.trans (s5.trans (s6.trans (s7.trans (s14.trans (s15.trans s16))))))))),(f4_0.step (s5.trans (s6.trans (s7.trans (s14.trans (s15.trans s16))))))⟩
def bh.Q (H0:Hp) (Ri R0:asp)  (r:asv) (v:AV) (H':Hp):Prop:=∃ o1a:ON,∃ o1n:Nat,∃ o1c:Cap,∃ o1k:List AV,v=(.agg [(.i r.1),(.sl ⟨o1a,o1n,o1c⟩)])/\o1n=(r.2).length/\Out H0 Ri H' (Rs.own ⟨o1a,o1n,o1c⟩ eI.z o1k::R0) λR=>CR eI H' R o1k (r.2)
def bh.S253 (H0:Hp) (Ri R0:asp)  (C:Nat->Nat->Sl->Int->Int->Int->Hp->OA) (pC:List ((List (Int×List Int)))->Int->Int->Int->Option (Int×List Int)):Prop:=∀ {aeW lq lr iK Tv Tw GJ oI GK Tx Ty Tz TA aeX aeY TC mF},∀ {H:Hp},GJ=Tz.length->GK=mF.length->(Out H0 Ri H (Rs.own ⟨Tv,GJ,Tx⟩ eI.z TA::Rs.blk oI [.i aeW,.sl ⟨Tv,GJ,Tx⟩]::Rs.ow false ⟨Tw,GK,Ty⟩ (eSl (ac eI (eSl eI))).z aeX TC aeY::R0) λR=>CR eI H R TA Tz/\CR (eSl (ac eI (eSl eI))) H R TC mF)->∀ {r:asv},pC mF lq lr iK=some r->Rt (C oI 0 ⟨Tw,GK,Ty⟩ lq lr iK H) (bh.Q H0 Ri R0  r)
def bh.pj1 (F:Nat)  (Ai:asK):Option (Int×List Int):=(aC.p F Ai).bind λr2=>(bG.p F r2.2).bind λr4=>some (r4.1,r4.2)
theorem bh.j1_P   {aqh aeZ ae0 TE p_ TF ae1 ae2 ae3 ae4 aqi aqj ae5 Ai} (aqk:TE=ae3.length) (aql:TF=Ai.length) (h0:Out H0 Ri H (Rs.own ⟨aeZ,TE,ae1⟩ eI.z ae4::Rs.blk p_ [.i aqh,.sl ⟨aeZ,TE,ae1⟩]::Rs.ow false ⟨ae0,TF,ae2⟩ (eSl (ac eI (eSl eI))).z aqi ae5 aqj::R0) λR=>CR eI H R ae4 ae3/\CR (eSl (ac eI (eSl eI))) H R ae5 Ai) {r:asv} (hp:bh.pj1 F  Ai=some r):Rt (bh.j1 F (aY.tw F) (bg.tw F) (ew.tw F) (aC.tw F) (bG.tw F)  p_ 0 ⟨ae0,TF,ae2⟩ H) (bh.Q H0 Ri R0  r):=by
 obtain ⟨w0,s0,ar2,aqm⟩:=h0
 subst aqk
 subst aql
 unfold bh.pj1 at hp
 unfold bh.j1
 obtain ⟨w1,s1,f1⟩:=w0.frz (i:=2) (eSl (ac eI (eSl eI))) rfl aqm
 obtain ⟨r2,e2,hp⟩:=ag hp
 refine aE (aC.P rfl ⟨w1,f1⟩ e2) ?_
 rintro _ H3 ⟨o1a_3,o1n_3,o1c_3,rfl,rfl,w3,s3,f3_0⟩
 refine br (br (br (br (br ?_))))
 obtain ⟨r4,e4,hp⟩:=ag hp
 refine aE (bG.P rfl ⟨w3,f3_0⟩ e4) ?_
 rintro _ H5 ⟨o1a_5,o1n_5,o1c_5,o1k_5,rfl,rfl,w5,s5,f5_0⟩
 refine br (br (br (br (br ?_))))
 refine aq w5 2 λH6 w6 s6=>?_
 refine aq w6 2 λH7 w7 s7=>?_
 refine lI w7 2 ?_
 refine lSl w7 2 ?_
 obtain ⟨w8,s8⟩:=w7.pp [0] 3
 exact aw hp ⟨_,_,_,_,rfl,rfl,w8,(s0.trans (s1.trans (s3.trans (s5.trans (s6.trans (s7.trans s8)))))),(f5_0.step (s6.trans (s7.trans s8)))⟩
def bh.pl253 (F:Nat) :Nat->List ((List (Int×List Int)))->Int->Int->Int->Option (Int×List Int)
 | 0,_,_,_,_=>none
 | k+1,mF,lq,lr,iK=>(bif (decide (iK<lr)) then ((ix mF iK).bind λn1=>(cutf (gt mF n1) 0 (wrap .i64 (lq - 1))).bind λl2=>(ix mF iK).bind λn3=>(some (mF.set n3 l2)).bind λl4=>bh.pl253 F k l4 lq lr (wrap .i64 (iK+1))) else (bh.pj1 F mF))
theorem bh.l253_P  :∀ k,bh.S253 H0 Ri R0  (bh.l253 F (aY.tw F) (bg.tw F) (ew.tw F) (aC.tw F) (bG.tw F)  k) (bh.pl253 F  k):=by
 intro k
 induction k with
 | zero=>unfold bh.S253;intros;rename_i hp;cases hp
 | succ k ih=>
  intro aeW lq lr iK Tv Tw GJ oI GK Tx Ty Tz TA aeX aeY TC mF H aqn aqo h0 r hp
  obtain ⟨w0,s0,ae6,GL⟩:=h0
  subst aqn
  subst aqo
  unfold bh.pl253 at hp
  unfold bh.l253
  refine aB hp (λhp=>?_) λhp=>?_
  ·obtain ⟨n1,g1,hp⟩:=ag hp
   obtain ⟨p1,q1,i1,h1,j1⟩:=W.ixo (E:=(eSl (ac eI (eSl eI)))) w0 (i:=2) rfl rfl GL g1
   refine ai i1 ?_
   obtain ⟨⟨Yn,m1_0,c1_0⟩,rfl,f1_0⟩:=h1
   obtain rfl:m1_0=_:=f1_0.n
   refine ai (iU (j1 0 _ rfl)) ?_
   obtain ⟨l2,e2,hp⟩:=ag hp
   obtain ⟨a2,d2,h2,f2⟩:=ROs.cutf f1_0 rfl e2
   refine ai h2 ?_
   obtain ⟨n3,g3,hp⟩:=ag hp
   obtain ⟨p3,q3,i3,h3,j3⟩:=W.ixo (E:=(eSl (ac eI (eSl eI)))) w0 (i:=2) rfl rfl GL g3
   refine ai i3 ?_
   obtain ⟨l4,e4,hp⟩:=ag hp
   refine de (eSl (ac eI (eSl eI))) w0 (i:=2) (j:=0) (p:=p3) rfl rfl GL g3 i3 e4 rfl rfl (λ_ h=>by obtain ⟨_,h,_⟩:=h;subst h;exact ⟨_,rfl,f2⟩) λH5 k5 w5 s5 c5=>?_
   exact ih rfl ((cj e4).symm) ⟨w5,(s0.trans s5),(ae6.step s5),c5⟩ hp
  ·exact bh.j1_P rfl rfl ⟨w0,s0,ae6,GL⟩ hp
def bh.pj2 (F:Nat)  (rT:asK) (oK:Int):Option (Int×List Int):=(ew.p F rT).bind λr3=>(bif (r3 != (wrap .i64 (oK - 1))) then (some (0,([]:List Int))) else (bh.pl253 F F rT oK (rT.length:Int) 0))
theorem bh.j2_P   {aqp oK ae7 ae8 TG oJ TH ae9 ae_ afa afb aqq aqr afc rT} (aqs:TG=afa.length) (aqt:TH=rT.length) (h0:Out H0 Ri H (Rs.own ⟨ae7,TG,ae9⟩ eI.z afb::Rs.blk oJ [.i aqp,.sl ⟨ae7,TG,ae9⟩]::Rs.ow false ⟨ae8,TH,ae_⟩ (eSl (ac eI (eSl eI))).z aqq afc aqr::R0) λR=>CR eI H R afb afa/\CR (eSl (ac eI (eSl eI))) H R afc rT) {r:asv} (hp:bh.pj2 F  rT oK=some r):Rt (bh.j2 F (aY.tw F) (bg.tw F) (ew.tw F) (aC.tw F) (bG.tw F)  oJ 0 ⟨ae8,TH,ae_⟩ oK H) (bh.Q H0 Ri R0  r):=by
 obtain ⟨w0,s0,aqu,afd⟩:=h0
 subst aqs
 subst aqt
 unfold bh.pj2 at hp
 unfold bh.j2
 obtain ⟨w1,s1⟩:=w0.pp [2,0,1] 3
 have f2:=W.borrow1 (eSl (ac eI (eSl eI))) w1 (afd.step s1)
 obtain ⟨w2,s2⟩:=w1.right1
 obtain ⟨r3,e3,hp⟩:=ag hp
 refine aE (ew.P rfl ⟨w2,f2⟩ e3) ?_
 rintro _ H4 ⟨rfl,w4,s4,_⟩
 obtain ⟨w5,s5⟩:=W.frame1 w1 w4 s4
 refine br ?_
 refine aB hp (λhp=>?_) λhp=>?_
 ·refine aq w5 2 λH6 w6 s6=>?_
  refine aq w6 2 λH7 w7 s7=>?_
  refine lI w7 2 ?_
  refine lSl w7 2 ?_
  obtain ⟨w8,s8⟩:=w7.nilS eI.z (by decide)
  obtain ⟨w9,s9⟩:=w8.pp [0] 4
  exact aw hp ⟨_,_,_,_,rfl,rfl,w9,(s0.trans (s1.trans (s5.trans (s6.trans (s7.trans (s8.trans s9)))))),((CR.empty:CR eI _ _ [] []).step s9)⟩
 ·obtain ⟨w10,s10⟩:=w5.pp [1,2,0] 3
  exact bh.l253_P F rfl rfl ⟨w10,(s0.trans (s1.trans (s5.trans s10))),(aqu.step (s1.trans (s5.trans s10))),(afd.step (s1.trans (s5.trans s10)))⟩ hp
def bh.p (F:Nat) (ah:asy) (af:Int):Option (Int×List Int):=(aY.p F ah af).bind λr3=>(bg.p F ah af).bind λr5=>(ew.p F r3).bind λr9=>(bif (r9==r5.2) then ((cutf r3 0 (wrap .i64 (r5.2 - 1))).bind λl12=>bh.pj2 F l12 r5.2) else (bh.pj2 F r3 r5.2))
theorem bh.P {az aj aA ah af} (aT:aj=ah.length) (h0:Inn H R0 λR=>ROs (ac eI (ac eI (ac eI (ac eI eI)))) H R ⟨az,aj,aA⟩ ah) {r:asv} (hp:bh.p F ah af=some r):Rt (bh.tw F ⟨az,aj,aA⟩ af H) (bh.Q H R0 R0  r):=by
 obtain ⟨w0,aK⟩:=h0
 subst aT
 unfold bh.p at hp
 unfold bh.tw bh.twX
 have s0:=w0.rf
 refine aR w0 λH1 w1 s1=>?_
 refine aR w1 λH2 w2 s2=>?_
 refine lSl w2 1 ?_
 refine lI w2 1 ?_
 obtain ⟨r3,e3,hp⟩:=ag hp
 refine aE (aY.P rfl ⟨w2,(aK.step (s1.trans s2))⟩ e3) ?_
 rintro _ H4 ⟨o0a_4,o0n_4,o0c_4,o0k_4,rfl,rfl,w4,s4,f4_0⟩
 refine br ?_
 refine lSl w4 2 ?_
 refine lI w4 2 ?_
 obtain ⟨r5,e5,hp⟩:=ag hp
 refine aE (bg.P rfl ⟨w4,(aK.step (s1.trans (s2.trans s4)))⟩ e5) ?_
 rintro _ H6 ⟨o0a_6,o0n_6,o0c_6,o0k_6,rfl,rfl,w6,s6,f6_0⟩
 refine br (br (br (br (br ?_))))
 obtain ⟨w7,s7⟩:=w6.pp [1,0,2,3] 4
 have f8:=W.borrow1 (eSl (ac eI (eSl eI))) w7 (f4_0.step (s6.trans s7))
 obtain ⟨w8,s8⟩:=w7.right1
 obtain ⟨r9,e9,hp⟩:=ag hp
 refine aE (ew.P rfl ⟨w8,f8⟩ e9) ?_
 rintro _ H10 ⟨rfl,w10,s10,_⟩
 obtain ⟨w11,s11⟩:=W.frame1 w7 w10 s10
 refine br ?_
 refine aB hp (λhp=>?_) λhp=>?_
 ·obtain ⟨l12,e12,hp⟩:=ag hp
  obtain ⟨a13,d13,h13,w13,s13,c13⟩:=w11.cuto (eSl (ac eI (eSl eI))) (i:=0) rfl (f4_0.step (s6.trans (s7.trans s11))) e12
  refine ai h13 ?_
  obtain ⟨w14,s14⟩:=w13.nilS eI.z (by decide)
  obtain ⟨w15,s15⟩:=w14.pp [0,3,1] 5
  exact bh.j2_P rfl rfl ⟨w15,(s0.trans (s1.trans (s2.trans (s4.trans (s6.trans (s7.trans (s11.trans (s13.trans (s14.trans s15))))))))),((CR.empty:CR eI _ _ [] []).step s15),(c13.step (s14.trans s15))⟩ hp
 ·obtain ⟨w16,s16⟩:=w11.nilS eI.z (by decide)
  obtain ⟨w17,s17⟩:=w16.loose (i:=1) rfl
  obtain ⟨w18,s18⟩:=w17.pp [0,3,1] 5
  exact bh.j2_P rfl rfl ⟨w18,(s0.trans (s1.trans (s2.trans (s4.trans (s6.trans (s7.trans (s11.trans (s16.trans (s17.trans s18))))))))),((CR.empty:CR eI _ _ [] []).step (s17.trans s18)),(f4_0.step (s6.trans (s7.trans (s11.trans (s16.trans (s17.trans s18))))))⟩ hp
def ey.Q (H0:Hp) (Ri R0:asp)  (r:asJ) (v:AV) (H':Hp):Prop:=∃ o1a:ON,∃ o1n:Nat,∃ o1c:Cap,∃ o1k:List AV,v=(.tup [(.agg [(.i r.1),(.sl ⟨o1a,o1n,o1c⟩)]),(.i r.2.2)])/\o1n=(r.2.1).length/\Out H0 Ri H' (Rs.own ⟨o1a,o1n,o1c⟩ eI.z o1k::R0) λR=>CR eI H' R o1k (r.2.1)
def ey.p (F:Nat) (ah:asy) (af:Int):Option (Int×List Int×Int):=(eR.p F ah af).bind λr3=>(bif (r3 != 0) then (some (0,([]:List Int),r3)) else ((bh.p F ah af).bind λr9=>some (r9.1,r9.2,0)))
theorem ey.P {az aj aA ah af} (aT:aj=ah.length) (h0:Inn H R0 λR=>ROs (ac eI (ac eI (ac eI (ac eI eI)))) H R ⟨az,aj,aA⟩ ah) {r:asJ} (hp:ey.p F ah af=some r):Rt (ey.tw F ⟨az,aj,aA⟩ af H) (ey.Q H R0 R0  r):=by
 obtain ⟨w0,aK⟩:=h0
 subst aT
 unfold ey.p at hp
 unfold ey.tw ey.twX
 have s0:=w0.rf
 refine aR w0 λH1 w1 s1=>?_
 refine aR w1 λH2 w2 s2=>?_
 refine lSl w2 1 ?_
 refine lI w2 1 ?_
 obtain ⟨r3,e3,hp⟩:=ag hp
 refine aE (eR.P rfl ⟨w2,(aK.step (s1.trans s2))⟩ e3) ?_
 rintro _ H4 ⟨rfl,w4,s4,_⟩
 refine br ?_
 refine aB hp (λhp=>?_) λhp=>?_
 ·refine aq w4 0 λH5 w5 s5=>?_
  refine aq w5 0 λH6 w6 s6=>?_
  refine lI w6 0 ?_
  refine lSl w6 0 ?_
  obtain ⟨w7,s7⟩:=w6.nilS eI.z (by decide)
  obtain ⟨w8,s8⟩:=w7.pp [0] 3
  exact aw hp ⟨_,_,_,_,rfl,rfl,w8,(s0.trans (s1.trans (s2.trans (s4.trans (s5.trans (s6.trans (s7.trans s8))))))),((CR.empty:CR eI _ _ [] []).step s8)⟩
 ·refine lSl w4 1 ?_
  refine lI w4 1 ?_
  obtain ⟨r9,e9,hp⟩:=ag hp
  refine aE (bh.P rfl ⟨w4,(aK.step (s1.trans (s2.trans s4)))⟩ e9) ?_
  rintro _ H10 ⟨o1a_10,o1n_10,o1c_10,o1k_10,rfl,rfl,w10,s10,f10_0⟩
  refine br (br (br (br (br ?_))))
  refine aq w10 1 λH11 w11 s11=>?_
  refine aq w11 1 λH12 w12 s12=>?_
  refine lI w12 1 ?_
  refine lSl w12 1 ?_
  obtain ⟨w13,s13⟩:=w12.pp [0] 3
  exact aw hp ⟨_,_,_,_,rfl,rfl,w13,(s0.trans (s1.trans (s2.trans (s4.trans (s10.trans (s11.trans (s12.trans s13))))))),(f10_0.step (s11.trans (s12.trans s13)))⟩
def cl.Q (H0:Hp) (Ri R0:asp)  (r:Bool) (v:AV) (H':Hp):Prop:=v=(.bool r)/\Out H0 Ri H' (R0) λR=>True
def cl.S29 (H0:Hp) (Ri R0:asp)  (C:atv) (pC:List Int->List Int->Int->Option (Bool)):Prop:=∀ {iL rU gh nE iM rV bA fC dH},∀ {H:Hp},gh=bA.length->nE=fC.length->(Out H0 Ri H R0 λR=>ROs eI H R ⟨iL,gh,iM⟩ bA/\ROs eI H R ⟨rU,nE,rV⟩ fC)->∀ {r:Bool},pC bA fC dH=some r->Rt (C ⟨iL,gh,iM⟩ ⟨rU,nE,rV⟩ dH H) (cl.Q H0 Ri R0  r)
def cl.pl29 (F:Nat) :Nat->List Int->List Int->Int->Option (Bool)
 | 0,_,_,_=>none
 | k+1,bA,fC,dH=>(bif (decide (dH<(bA.length:Int))) then ((ix bA dH).bind λn1=>(ix fC dH).bind λn2=>(bif ((gt bA n1) != (gt fC n2)) then (some false) else (cl.pl29 F k bA fC (wrap .i64 (dH+1))))) else (some true))
theorem cl.l29_P  :∀ k,cl.S29 H0 Ri R0  (cl.l29 F   k) (cl.pl29 F  k):=by
 intro k
 induction k with
 | zero=>unfold cl.S29;intros;rename_i hp;cases hp
 | succ k ih=>
  intro iL rU gh nE iM rV bA fC dH H lz TJ h0 r hp
  obtain ⟨w0,s0,gj,Aj⟩:=h0
  subst lz
  subst TJ
  unfold cl.pl29 at hp
  unfold cl.l29
  refine aB hp (λhp=>?_) λhp=>?_
  ·obtain ⟨n1,g1,hp⟩:=ag hp
   obtain ⟨p1,q1,i1,h1,j1⟩:=ROs.ixr gj rfl g1
   refine ai i1 ?_
   have h1:_=[_]:=h1
   subst h1
   refine ai (aG (j1 0 _ rfl)) ?_
   obtain ⟨n2,g2,hp⟩:=ag hp
   obtain ⟨p2,q2,i2,h2,j2⟩:=ROs.ixr Aj rfl g2
   refine ai i2 ?_
   have h2:_=[_]:=h2
   subst h2
   refine ai (aG (j2 0 _ rfl)) ?_
   refine aB hp (λhp=>?_) λhp=>?_
   ·exact aw hp ⟨rfl,w0,s0,trivial⟩
   ·exact ih rfl rfl ⟨w0,s0,gj,Aj⟩ hp
  ·exact aw hp ⟨rfl,w0,s0,trivial⟩
def cl.p (F:Nat) (ah:asr) (fL:asr):Option (Bool):=(bif ((ah.length:Int) != (fL.length:Int)) then (some false) else (cl.pl29 F F ah fL 0))
theorem cl.P {az oS aj lK aA oT ah fL} (aT:aj=ah.length) (yt:lK=fL.length) (h0:Inn H R0 λR=>ROs eI H R ⟨az,aj,aA⟩ ah/\ROs eI H R ⟨oS,lK,oT⟩ fL) {r:Bool} (hp:cl.p F ah fL=some r):Rt (cl.tw F ⟨az,aj,aA⟩ ⟨oS,lK,oT⟩ H) (cl.Q H R0 R0  r):=by
 obtain ⟨w0,aK,yu⟩:=h0
 subst aT
 subst yt
 unfold cl.p at hp
 unfold cl.tw cl.twX
 have s0:=w0.rf
 refine aB hp (λhp=>?_) λhp=>?_
 ·exact aw hp ⟨rfl,w0,s0,trivial⟩
 ·exact cl.l29_P F rfl rfl ⟨w0,s0,aK,yu⟩ hp
def dU.Q (H0:Hp) (Ri R0:asp)  (r:Bool) (v:AV) (H':Hp):Prop:=v=(.bool r)/\Out H0 Ri H' (R0) λR=>True
def dU.p (F:Nat) (aa:Int) (aF:asr) (ar:Int) (bl:asr):Option (Bool):=(bif (aa != ar) then (some false) else ((cl.p F aF bl).bind λr4=>(bif (!r4) then (some false) else (some true))))
theorem dU.P {aa ar bV dW bq c_ bW dX aF bl} (dk:bq=aF.length) (gk:c_=bl.length) (h0:Inn H R0 λR=>ROs eI H R ⟨bV,bq,bW⟩ aF/\ROs eI H R ⟨dW,c_,dX⟩ bl) {r:Bool} (hp:dU.p F aa aF ar bl=some r):Rt (dU.tw F aa ⟨bV,bq,bW⟩ ar ⟨dW,c_,dX⟩ H) (dU.Q H R0 R0  r):=by
 obtain ⟨w0,cF,eW⟩:=h0
 subst dk
 subst gk
 unfold dU.p at hp
 unfold dU.tw dU.twX
 have s0:=w0.rf
 refine aR w0 λH1 w1 s1=>?_
 refine aR w1 λH2 w2 s2=>?_
 refine lI w2 1 ?_
 refine lI w2 0 ?_
 refine aB hp (λhp=>?_) λhp=>?_
 ·obtain ⟨w3,s3⟩:=w2.pp [] 2
  exact aw hp ⟨rfl,w3,(s0.trans (s1.trans (s2.trans s3))),trivial⟩
 ·refine lSl w2 1 ?_
  refine lSl w2 0 ?_
  obtain ⟨r4,e4,hp⟩:=ag hp
  refine aE (cl.P rfl rfl ⟨w2,(cF.step (s1.trans s2)),(eW.step (s1.trans s2))⟩ e4) ?_
  rintro _ H5 ⟨rfl,w5,s5,_⟩
  refine br ?_
  refine aB hp (λhp=>?_) λhp=>?_
  ·obtain ⟨w6,s6⟩:=w5.pp [] 2
   exact aw hp ⟨rfl,w6,(s0.trans (s1.trans (s2.trans (s5.trans s6)))),trivial⟩
  ·obtain ⟨w7,s7⟩:=w5.pp [] 2
   exact aw hp ⟨rfl,w7,(s0.trans (s1.trans (s2.trans (s5.trans s7)))),trivial⟩
def fB.Q (H0:Hp) (Ri R0:asp)  (r:Bool) (v:AV) (H':Hp):Prop:=v=(.bool r)/\Out H0 Ri H' (R0) λR=>True
def fB.p (F:Nat) (aa:Int) (af:Int) (bX:Int) (bY:Int) (bN:Int) (cH:Int) (lu:Int) (lw:Int) (lx:Int) (ly:Int):Option (Bool):=(bif (aa != cH) then (some false) else ((bif (af != lu) then (some false) else ((bif (bX != lw) then (some false) else ((bif (bY != lx) then (some false) else ((bif (bN != ly) then (some false) else (some true))))))))))
theorem fB.P {aa af bX bY bN cH lu lw lx ly}  (h0:Inn H R0 λR=>True) {r:Bool} (hp:fB.p F aa af bX bY bN cH lu lw lx ly=some r):Rt (fB.tw F aa af bX bY bN cH lu lw lx ly H) (fB.Q H R0 R0  r):=by
 obtain ⟨w0,_⟩:=h0
 unfold fB.p at hp
 unfold fB.tw fB.twX
 have s0:=w0.rf
 refine aR w0 λH1 w1 s1=>?_
 refine aR w1 λH2 w2 s2=>?_
 refine lI w2 1 ?_
 refine lI w2 0 ?_
 refine aB hp (λhp=>?_) λhp=>?_
 ·obtain ⟨w3,s3⟩:=w2.pp [] 2
  exact aw hp ⟨rfl,w3,(s0.trans (s1.trans (s2.trans s3))),trivial⟩
 ·refine lI w2 1 ?_
  refine lI w2 0 ?_
  refine aB hp (λhp=>?_) λhp=>?_
  ·obtain ⟨w4,s4⟩:=w2.pp [] 2
   exact aw hp ⟨rfl,w4,(s0.trans (s1.trans (s2.trans s4))),trivial⟩
  ·refine lI w2 1 ?_
   refine lI w2 0 ?_
   refine aB hp (λhp=>?_) λhp=>?_
   ·obtain ⟨w5,s5⟩:=w2.pp [] 2
    exact aw hp ⟨rfl,w5,(s0.trans (s1.trans (s2.trans s5))),trivial⟩
   ·refine lI w2 1 ?_
    refine lI w2 0 ?_
    refine aB hp (λhp=>?_) λhp=>?_
    ·obtain ⟨w6,s6⟩:=w2.pp [] 2
     exact aw hp ⟨rfl,w6,(s0.trans (s1.trans (s2.trans s6))),trivial⟩
    ·refine lI w2 1 ?_
     refine lI w2 0 ?_
     refine aB hp (λhp=>?_) λhp=>?_
     ·obtain ⟨w7,s7⟩:=w2.pp [] 2
      exact aw hp ⟨rfl,w7,(s0.trans (s1.trans (s2.trans s7))),trivial⟩
     ·obtain ⟨w8,s8⟩:=w2.pp [] 2
      exact aw hp ⟨rfl,w8,(s0.trans (s1.trans (s2.trans s8))),trivial⟩
def bT.Q (H0:Hp) (Ri R0:asp)  (r:Bool) (v:AV) (H':Hp):Prop:=v=(.bool r)/\Out H0 Ri H' (R0) λR=>True
def bT.S29 (H0:Hp) (Ri R0:asp)  (C:atv) (pC:List (Int×Int×Int×Int×Int)->List (Int×Int×Int×Int×Int)->Int->Option (Bool)):Prop:=∀ {iL rU gh nE iM rV bA fC dH},∀ {H:Hp},gh=bA.length->nE=fC.length->(Out H0 Ri H R0 λR=>ROs (ac eI (ac eI (ac eI (ac eI eI)))) H R ⟨iL,gh,iM⟩ bA/\ROs (ac eI (ac eI (ac eI (ac eI eI)))) H R ⟨rU,nE,rV⟩ fC)->∀ {r:Bool},pC bA fC dH=some r->Rt (C ⟨iL,gh,iM⟩ ⟨rU,nE,rV⟩ dH H) (bT.Q H0 Ri R0  r)
def bT.pl29 (F:Nat) :Nat->List (Int×Int×Int×Int×Int)->List (Int×Int×Int×Int×Int)->Int->Option (Bool)
 | 0,_,_,_=>none
 | k+1,bA,fC,dH=>(bif (decide (dH<(bA.length:Int))) then ((ix bA dH).bind λn1=>(ix fC dH).bind λn2=>(fB.p F ((gt bA n1).1) ((gt bA n1).2.1) ((gt bA n1).2.2.1) ((gt bA n1).2.2.2.1) ((gt bA n1).2.2.2.2) ((gt fC n2).1) ((gt fC n2).2.1) ((gt fC n2).2.2.1) ((gt fC n2).2.2.2.1) ((gt fC n2).2.2.2.2)).bind λr3=>(bif (!r3) then (some false) else (bT.pl29 F k bA fC (wrap .i64 (dH+1))))) else (some true))
theorem bT.l29_P  :∀ k,bT.S29 H0 Ri R0  (bT.l29 F (fB.tw F)  k) (bT.pl29 F  k):=by
 intro k
 induction k with
 | zero=>unfold bT.S29;intros;rename_i hp;cases hp
 | succ k ih=>
  intro iL rU gh nE iM rV bA fC dH H lz TJ h0 r hp
  obtain ⟨w0,s0,gj,Aj⟩:=h0
  subst lz
  subst TJ
  unfold bT.pl29 at hp
  unfold bT.l29
  refine aB hp (λhp=>?_) λhp=>?_
  ·obtain ⟨n1,g1,hp⟩:=ag hp
   obtain ⟨p1,q1,i1,h1,j1⟩:=ROs.ixr gj rfl g1
   refine ai i1 ?_
   obtain ⟨_,_,rfl,rfl,_,_,rfl,rfl,_,_,rfl,rfl,_,_,rfl,rfl,rfl⟩:=h1
   refine ai (aG (j1 0 _ rfl)) ?_
   refine ai (aG (j1 1 _ rfl)) ?_
   refine ai (aG (j1 2 _ rfl)) ?_
   refine ai (aG (j1 3 _ rfl)) ?_
   refine ai (aG (j1 4 _ rfl)) ?_
   obtain ⟨n2,g2,hp⟩:=ag hp
   obtain ⟨p2,q2,i2,h2,j2⟩:=ROs.ixr Aj rfl g2
   refine ai i2 ?_
   obtain ⟨_,_,rfl,rfl,_,_,rfl,rfl,_,_,rfl,rfl,_,_,rfl,rfl,rfl⟩:=h2
   refine ai (aG (j2 0 _ rfl)) ?_
   refine ai (aG (j2 1 _ rfl)) ?_
   refine ai (aG (j2 2 _ rfl)) ?_
   refine ai (aG (j2 3 _ rfl)) ?_
   refine ai (aG (j2 4 _ rfl)) ?_
   obtain ⟨r3,e3,hp⟩:=ag hp
   refine aE (fB.P ⟨w0,trivial⟩ e3) ?_
   rintro _ H4 ⟨rfl,w4,s4,_⟩
   refine br ?_
   refine aB hp (λhp=>?_) λhp=>?_
   ·exact aw hp ⟨rfl,w4,(s0.trans s4),trivial⟩
   ·exact ih rfl rfl ⟨w4,(s0.trans s4),(gj.step s4),(Aj.step s4)⟩ hp
  ·exact aw hp ⟨rfl,w0,s0,trivial⟩
def bT.p (F:Nat) (ah:asy) (fL:asy):Option (Bool):=(bif ((ah.length:Int) != (fL.length:Int)) then (some false) else (bT.pl29 F F ah fL 0))
theorem bT.P {az oS aj lK aA oT ah fL} (aT:aj=ah.length) (yt:lK=fL.length) (h0:Inn H R0 λR=>ROs (ac eI (ac eI (ac eI (ac eI eI)))) H R ⟨az,aj,aA⟩ ah/\ROs (ac eI (ac eI (ac eI (ac eI eI)))) H R ⟨oS,lK,oT⟩ fL) {r:Bool} (hp:bT.p F ah fL=some r):Rt (bT.tw F ⟨az,aj,aA⟩ ⟨oS,lK,oT⟩ H) (bT.Q H R0 R0  r):=by
 obtain ⟨w0,aK,yu⟩:=h0
 subst aT
 subst yt
 unfold bT.p at hp
 unfold bT.tw bT.twX
 have s0:=w0.rf
 refine aB hp (λhp=>?_) λhp=>?_
 ·exact aw hp ⟨rfl,w0,s0,trivial⟩
 ·exact bT.l29_P F rfl rfl ⟨w0,s0,aK,yu⟩ hp
def eO.Q (H0:Hp) (Ri R0:asp)  (r:Bool) (v:AV) (H':Hp):Prop:=v=(.bool r)/\Out H0 Ri H' (R0) λR=>True
def eO.p (F:Nat) (ah:asy) (af:Int) (eF:asy) (bj:Int):Option (Bool):=(bT.p F ah eF).bind λr3=>(bif (!r3) then (some false) else ((bif (af != bj) then (some false) else (some true))))
theorem eO.P {az lP aj iO aA lQ ah eF af bj} (aT:aj=ah.length) (rn:iO=eF.length) (h0:Inn H R0 λR=>ROs (ac eI (ac eI (ac eI (ac eI eI)))) H R ⟨az,aj,aA⟩ ah/\ROs (ac eI (ac eI (ac eI (ac eI eI)))) H R ⟨lP,iO,lQ⟩ eF) {r:Bool} (hp:eO.p F ah af eF bj=some r):Rt (eO.tw F ⟨az,aj,aA⟩ af ⟨lP,iO,lQ⟩ bj H) (eO.Q H R0 R0  r):=by
 obtain ⟨w0,aK,rp⟩:=h0
 subst aT
 subst rn
 unfold eO.p at hp
 unfold eO.tw eO.twX
 have s0:=w0.rf
 refine aR w0 λH1 w1 s1=>?_
 refine aR w1 λH2 w2 s2=>?_
 refine lSl w2 1 ?_
 refine lSl w2 0 ?_
 obtain ⟨r3,e3,hp⟩:=ag hp
 refine aE (bT.P rfl rfl ⟨w2,(aK.step (s1.trans s2)),(rp.step (s1.trans s2))⟩ e3) ?_
 rintro _ H4 ⟨rfl,w4,s4,_⟩
 refine br ?_
 refine aB hp (λhp=>?_) λhp=>?_
 ·obtain ⟨w5,s5⟩:=w4.pp [] 2
  exact aw hp ⟨rfl,w5,(s0.trans (s1.trans (s2.trans (s4.trans s5)))),trivial⟩
 ·refine lI w4 1 ?_
  refine lI w4 0 ?_
  refine aB hp (λhp=>?_) λhp=>?_
  ·obtain ⟨w6,s6⟩:=w4.pp [] 2
   exact aw hp ⟨rfl,w6,(s0.trans (s1.trans (s2.trans (s4.trans s6)))),trivial⟩
  ·obtain ⟨w7,s7⟩:=w4.pp [] 2
   exact aw hp ⟨rfl,w7,(s0.trans (s1.trans (s2.trans (s4.trans s7)))),trivial⟩
def ct.Q (H0:Hp) (Ri R0:asp) (az:ON) (aj:Nat) (aA:Cap) (fh:Bool) (fi fj:asD) (r:atp) (v:AV) (H':Hp):Prop:=∃ lR:List AV,v=(.i r.1)/\aj=(r.2).length/\Out H0 Ri H' (Rs.ow fh ⟨az,aj,aA⟩ (ac eI (ac eI (ac eI (ac eI eI)))).z fi lR fj::R0) λR=>CR (ac eI (ac eI (ac eI (ac eI eI)))) H' R lR (r.2)
def ct.S13 (H0:Hp) (Ri R0:asp) (eX:ON) (eg:Nat) (eY:Cap) (gB:Bool) (gC gD:asD) (C:asz) (pC:List (Int×Int×Int×Int×Int)->Int->Int->Option (Int×(List (Int×Int×Int×Int×Int)))):Prop:=∀ {bA rW bS cu},∀ {H:Hp},eg=bA.length->(Out H0 Ri H (Rs.ow gB ⟨eX,eg,eY⟩ (ac eI (ac eI (ac eI (ac eI eI)))).z gC rW gD::R0) λR=>CR (ac eI (ac eI (ac eI (ac eI eI)))) H R rW bA)->∀ {r:atp},pC bA bS cu=some r->Rt (C ⟨eX,eg,eY⟩ bS cu H) (ct.Q H0 Ri R0 eX eg eY gB gC gD r)
def ct.pl13 (F:Nat) :Nat->List (Int×Int×Int×Int×Int)->Int->Int->Option (Int×(List (Int×Int×Int×Int×Int)))
 | 0,_,_,_=>none
 | k+1,bA,bS,cu=>(bif (decide (cu<(bA.length:Int))) then ((ix bA cu).bind λn1=>(some (bA.set n1 (bS,(gt bA n1).2.1,(gt bA n1).2.2.1,(gt bA n1).2.2.2.1,(gt bA n1).2.2.2.2))).bind λl2=>(ix l2 cu).bind λn4=>(some (l2.set n4 ((gt l2 n4).1,(wrap .i64 (bS+1)),(gt l2 n4).2.2.1,(gt l2 n4).2.2.2.1,(gt l2 n4).2.2.2.2))).bind λl5=>(ix l5 cu).bind λn7=>(some (l5.set n7 ((gt l5 n7).1,(gt l5 n7).2.1,(wrap .i64 ((wrap .i64 (bS+1))+1)),(gt l5 n7).2.2.2.1,(gt l5 n7).2.2.2.2))).bind λl8=>(ix l8 cu).bind λn10=>(some (l8.set n10 ((gt l8 n10).1,(gt l8 n10).2.1,(gt l8 n10).2.2.1,(wrap .i64 ((wrap .i64 ((wrap .i64 (bS+1))+1))+1)),(gt l8 n10).2.2.2.2))).bind λl11=>(ix l11 cu).bind λn13=>(some (l11.set n13 ((gt l11 n13).1,(gt l11 n13).2.1,(gt l11 n13).2.2.1,(gt l11 n13).2.2.2.1,(wrap .i64 ((wrap .i64 ((wrap .i64 ((wrap .i64 (bS+1))+1))+1))+1))))).bind λl14=>ct.pl13 F k l14 (wrap .i64 ((wrap .i64 ((wrap .i64 ((wrap .i64 ((wrap .i64 (bS+1))+1))+1))+1))+1)) (wrap .i64 (cu+1))) else (some (bS,bA)))
theorem ct.l13_P {eX eg eY gB gC gD} :∀ k,ct.S13 H0 Ri R0 eX eg eY gB gC gD (ct.l13 F   k) (ct.pl13 F  k):=by
 intro k
 induction k with
 | zero=>unfold ct.S13;intros;rename_i hp;cases hp
 | succ k ih=>
  intro bA rW bS cu H lz h0 r hp
  obtain ⟨w0,s0,gj⟩:=h0
  subst lz
  unfold ct.pl13 at hp
  unfold ct.l13
  refine aB hp (λhp=>?_) λhp=>?_
  ·obtain ⟨n1,g1,hp⟩:=ag hp
   obtain ⟨p1,q1,i1,h1,j1⟩:=W.ixo (E:=(ac eI (ac eI (ac eI (ac eI eI))))) w0 (i:=0) rfl rfl gj g1
   refine ai i1 ?_
   obtain ⟨l2,e2,hp⟩:=ag hp
   refine de (ac eI (ac eI (ac eI (ac eI eI)))) w0 (i:=0) (j:=0) (p:=p1) rfl rfl gj g1 i1 e2 rfl rfl (λ_ h=>by obtain ⟨_,_,rfl,rfl,_,_,rfl,rfl,_,_,rfl,rfl,_,_,rfl,rfl,rfl⟩:=h;exact ⟨[_],_,rfl,rfl,[_],_,rfl,rfl,[_],_,rfl,rfl,[_],_,rfl,rfl,rfl⟩) λH3 k3 w3 s3 c3=>?_
   obtain ⟨n4,g4,hp⟩:=ag hp
   obtain ⟨p4,q4,i4,h4,j4⟩:=W.ixo (E:=(ac eI (ac eI (ac eI (ac eI eI))))) w3 (i:=0) rfl rfl c3 g4
   refine ai i4 ?_
   obtain ⟨l5,e5,hp⟩:=ag hp
   refine de (ac eI (ac eI (ac eI (ac eI eI)))) w3 (i:=0) (j:=1) (p:=p4) rfl rfl c3 g4 i4 e5 rfl rfl (λ_ h=>by obtain ⟨_,_,rfl,rfl,_,_,rfl,rfl,_,_,rfl,rfl,_,_,rfl,rfl,rfl⟩:=h;exact ⟨[_],_,rfl,rfl,[_],_,rfl,rfl,[_],_,rfl,rfl,[_],_,rfl,rfl,rfl⟩) λH6 k6 w6 s6 c6=>?_
   obtain ⟨n7,g7,hp⟩:=ag hp
   obtain ⟨p7,q7,i7,h7,j7⟩:=W.ixo (E:=(ac eI (ac eI (ac eI (ac eI eI))))) w6 (i:=0) rfl rfl c6 g7
   refine ai i7 ?_
   obtain ⟨l8,e8,hp⟩:=ag hp
   refine de (ac eI (ac eI (ac eI (ac eI eI)))) w6 (i:=0) (j:=2) (p:=p7) rfl rfl c6 g7 i7 e8 rfl rfl (λ_ h=>by obtain ⟨_,_,rfl,rfl,_,_,rfl,rfl,_,_,rfl,rfl,_,_,rfl,rfl,rfl⟩:=h;exact ⟨[_],_,rfl,rfl,[_],_,rfl,rfl,[_],_,rfl,rfl,[_],_,rfl,rfl,rfl⟩) λH9 k9 w9 s9 c9=>?_
   obtain ⟨n10,g10,hp⟩:=ag hp
   obtain ⟨p10,q10,i10,h10,j10⟩:=W.ixo (E:=(ac eI (ac eI (ac eI (ac eI eI))))) w9 (i:=0) rfl rfl c9 g10
   refine ai i10 ?_
   obtain ⟨l11,e11,hp⟩:=ag hp
   refine de (ac eI (ac eI (ac eI (ac eI eI)))) w9 (i:=0) (j:=3) (p:=p10) rfl rfl c9 g10 i10 e11 rfl rfl (λ_ h=>by obtain ⟨_,_,rfl,rfl,_,_,rfl,rfl,_,_,rfl,rfl,_,_,rfl,rfl,rfl⟩:=h;exact ⟨[_],_,rfl,rfl,[_],_,rfl,rfl,[_],_,rfl,rfl,[_],_,rfl,rfl,rfl⟩) λH12 k12 w12 s12 c12=>?_
   obtain ⟨n13,g13,hp⟩:=ag hp
   obtain ⟨p13,q13,i13,h13,j13⟩:=W.ixo (E:=(ac eI (ac eI (ac eI (ac eI eI))))) w12 (i:=0) rfl rfl c12 g13
   refine ai i13 ?_
   obtain ⟨l14,e14,hp⟩:=ag hp
   refine de (ac eI (ac eI (ac eI (ac eI eI)))) w12 (i:=0) (j:=4) (p:=p13) rfl rfl c12 g13 i13 e14 rfl rfl (λ_ h=>by obtain ⟨_,_,rfl,rfl,_,_,rfl,rfl,_,_,rfl,rfl,_,_,rfl,rfl,rfl⟩:=h;exact ⟨[_],_,rfl,rfl,[_],_,rfl,rfl,[_],_,rfl,rfl,[_],_,rfl,rfl,rfl⟩) λH15 k15 w15 s15 c15=>?_
   exact ih (((((cj e2).symm.trans (cj e5).symm).trans (cj e8).symm).trans (cj e11).symm).trans (cj e14).symm) ⟨w15,(s0.trans (s3.trans (s6.trans (s9.trans (s12.trans s15))))),c15⟩ hp
  ·exact aw hp ⟨_,rfl,rfl,w0,s0,gj⟩
def ct.p (F:Nat) (ah:asy) (au:Int):Option (Int×(List (Int×Int×Int×Int×Int))):=ct.pl13 F F ah au 0
theorem ct.P {az aj aA ah fh fi fj iQ au} (aT:aj=ah.length) (h0:Inn H (Rs.ow fh ⟨az,aj,aA⟩ (ac eI (ac eI (ac eI (ac eI eI)))).z fi iQ fj::R0) λR=>CR (ac eI (ac eI (ac eI (ac eI eI)))) H R iQ ah) {r:atp} (hp:ct.p F ah au=some r):Rt (ct.tw F ⟨az,aj,aA⟩ au H) (ct.Q H (Rs.ow fh ⟨az,aj,aA⟩ (ac eI (ac eI (ac eI (ac eI eI)))).z fi iQ fj::R0) R0 az aj aA fh fi fj r):=by
 obtain ⟨w0,aK⟩:=h0
 subst aT
 unfold ct.p at hp
 unfold ct.tw ct.twX
 have s0:=w0.rf
 exact ct.l13_P F rfl ⟨w0,s0,aK⟩ hp
def eP.Q (H0:Hp) (Ri R0:asp) (az:ON) (aj:Nat) (aA:Cap) (fh:Bool) (fi fj:asD) (r:atp) (v:AV) (H':Hp):Prop:=∃ lR:List AV,v=(.i r.1)/\aj=(r.2).length/\Out H0 Ri H' (Rs.ow fh ⟨az,aj,aA⟩ (ac eI (ac eI (ac eI (ac eI eI)))).z fi lR fj::R0) λR=>CR (ac eI (ac eI (ac eI (ac eI eI)))) H' R lR (r.2)
def eP.p (F:Nat) (ah:asy) (ar:Int):Option (Int×(List (Int×Int×Int×Int×Int))):=(ct.p F ah ar).bind λr3=>some (r3.1,r3.2)
theorem eP.P {az aj aA ah fh fi fj iQ af ar} (aT:aj=ah.length) (h0:Inn H (Rs.ow fh ⟨az,aj,aA⟩ (ac eI (ac eI (ac eI (ac eI eI)))).z fi iQ fj::R0) λR=>CR (ac eI (ac eI (ac eI (ac eI eI)))) H R iQ ah) {r:atp} (hp:eP.p F ah ar=some r):Rt (eP.tw F ⟨az,aj,aA⟩ af ar H) (eP.Q H (Rs.ow fh ⟨az,aj,aA⟩ (ac eI (ac eI (ac eI (ac eI eI)))).z fi iQ fj::R0) R0 az aj aA fh fi fj r):=by
 obtain ⟨w0,aK⟩:=h0
 subst aT
 unfold eP.p at hp
 unfold eP.tw eP.twX
 have s0:=w0.rf
 refine aR w0 λH1 w1 s1=>?_
 refine lSl w1 0 ?_
 obtain ⟨w2,s2⟩:=w1.pp [1,0] 2
 obtain ⟨r3,e3,hp⟩:=ag hp
 refine aE (ct.P rfl ⟨w2,(aK.step (s1.trans s2))⟩ e3) ?_
 rintro _ H4 ⟨aqv,rfl,hl4_0,w4,s4,f4_0⟩
 refine br ?_
 obtain ⟨w5,s5⟩:=w4.pp [0] 2
 exact aw hp ⟨_,rfl,hl4_0,w5,(s0.trans (s1.trans (s2.trans (s4.trans s5)))),(f4_0.step s5)⟩
def cv.Q (H0:Hp) (Ri R0:asp) (az:ON) (aj:Nat) (aA:Cap) (fh:Bool) (fi fj:asD) (r:asv) (v:AV) (H':Hp):Prop:=∃ lR:List AV,v=(.i r.1)/\aj=(r.2).length/\Out H0 Ri H' (Rs.ow fh ⟨az,aj,aA⟩ eI.z fi lR fj::R0) λR=>CR eI H' R lR (r.2)
def cv.S13 (H0:Hp) (Ri R0:asp) (eX:ON) (eg:Nat) (eY:Cap) (gB:Bool) (gC gD:asD) (C:asz) (pC:List Int->Int->Int->Option (Int×List Int)):Prop:=∀ {bA rW bS cu},∀ {H:Hp},eg=bA.length->(Out H0 Ri H (Rs.ow gB ⟨eX,eg,eY⟩ eI.z gC rW gD::R0) λR=>CR eI H R rW bA)->∀ {r:asv},pC bA bS cu=some r->Rt (C ⟨eX,eg,eY⟩ bS cu H) (cv.Q H0 Ri R0 eX eg eY gB gC gD r)
def cv.pl13 (F:Nat) :Nat->List Int->Int->Int->Option (Int×List Int)
 | 0,_,_,_=>none
 | k+1,bA,bS,cu=>(bif (decide (cu<(bA.length:Int))) then ((ix bA cu).bind λn1=>(some (bA.set n1 bS)).bind λl2=>cv.pl13 F k l2 (wrap .i64 (bS+1)) (wrap .i64 (cu+1))) else (some (bS,bA)))
theorem cv.l13_P {eX eg eY gB gC gD} :∀ k,cv.S13 H0 Ri R0 eX eg eY gB gC gD (cv.l13 F   k) (cv.pl13 F  k):=by
 intro k
 induction k with
 | zero=>unfold cv.S13;intros;rename_i hp;cases hp
 | succ k ih=>
  intro bA rW bS cu H lz h0 r hp
  obtain ⟨w0,s0,gj⟩:=h0
  subst lz
  unfold cv.pl13 at hp
  unfold cv.l13
  refine aB hp (λhp=>?_) λhp=>?_
  ·obtain ⟨n1,g1,hp⟩:=ag hp
   obtain ⟨p1,q1,i1,h1,j1⟩:=W.ixo (E:=eI) w0 (i:=0) rfl rfl gj g1
   refine ai i1 ?_
   obtain ⟨l2,e2,hp⟩:=ag hp
   refine de eI w0 (i:=0) (j:=0) (p:=p1) rfl rfl gj g1 i1 e2 rfl rfl (λ_ h=>by have h:_=[_]:=h;subst h;exact rfl) λH3 k3 w3 s3 c3=>?_
   exact ih ((cj e2).symm) ⟨w3,(s0.trans s3),c3⟩ hp
  ·exact aw hp ⟨_,rfl,rfl,w0,s0,gj⟩
def cv.p (F:Nat) (ah:asr) (au:Int):Option (Int×List Int):=cv.pl13 F F ah au 0
theorem cv.P {az aj aA ah fh fi fj iQ au} (aT:aj=ah.length) (h0:Inn H (Rs.ow fh ⟨az,aj,aA⟩ eI.z fi iQ fj::R0) λR=>CR eI H R iQ ah) {r:asv} (hp:cv.p F ah au=some r):Rt (cv.tw F ⟨az,aj,aA⟩ au H) (cv.Q H (Rs.ow fh ⟨az,aj,aA⟩ eI.z fi iQ fj::R0) R0 az aj aA fh fi fj r):=by
 obtain ⟨w0,aK⟩:=h0
 subst aT
 unfold cv.p at hp
 unfold cv.tw cv.twX
 have s0:=w0.rf
 exact cv.l13_P F rfl ⟨w0,s0,aK⟩ hp
def eV.Q (H0:Hp) (Ri R0:asp) (bV:ON) (bq:Nat) (bW:Cap) (Ak:Bool) (Al Am:asD) (r:asv) (v:AV) (H':Hp):Prop:=∃ afe:List AV,v=(.i r.1)/\bq=(r.2).length/\Out H0 Ri H' (Rs.ow Ak ⟨bV,bq,bW⟩ eI.z Al afe Am::R0) λR=>CR eI H' R afe (r.2)
def eV.p (F:Nat) (aF:asr) (ar:Int):Option (Int×List Int):=(cv.p F aF ar).bind λr3=>some (r3.1,r3.2)
theorem eV.P {aa ar bV bq bW aF Ak Al Am TK} (dk:bq=aF.length) (h0:Inn H (Rs.ow Ak ⟨bV,bq,bW⟩ eI.z Al TK Am::R0) λR=>CR eI H R TK aF) {r:asv} (hp:eV.p F aF ar=some r):Rt (eV.tw F aa ⟨bV,bq,bW⟩ ar H) (eV.Q H (Rs.ow Ak ⟨bV,bq,bW⟩ eI.z Al TK Am::R0) R0 bV bq bW Ak Al Am r):=by
 obtain ⟨w0,cF⟩:=h0
 subst dk
 unfold eV.p at hp
 unfold eV.tw eV.twX
 have s0:=w0.rf
 refine aR w0 λH1 w1 s1=>?_
 refine lSl w1 0 ?_
 obtain ⟨w2,s2⟩:=w1.pp [1,0] 2
 obtain ⟨r3,e3,hp⟩:=ag hp
 refine aE (cv.P rfl ⟨w2,(cF.step (s1.trans s2))⟩ e3) ?_
 rintro _ H4 ⟨aqv,rfl,hl4_0,w4,s4,f4_0⟩
 refine br ?_
 obtain ⟨w5,s5⟩:=w4.pp [0] 2
 exact aw hp ⟨_,rfl,hl4_0,w5,(s0.trans (s1.trans (s2.trans (s4.trans s5)))),(f4_0.step s5)⟩
def cp.Q (H0:Hp) (Ri R0:asp)  (r:Int) (v:AV) (H':Hp):Prop:=v=(.i r)/\Out H0 Ri H' (R0) λR=>True
def cp.S13 (H0:Hp) (Ri R0:asp)  (C:asz) (pC:atG):Prop:=∀ {iL gh iM bA bS cu},∀ {H:Hp},gh=bA.length->(Out H0 Ri H R0 λR=>ROs eI H R ⟨iL,gh,iM⟩ bA)->∀ {r:Int},pC bA bS cu=some r->Rt (C ⟨iL,gh,iM⟩ bS cu H) (cp.Q H0 Ri R0  r)
def cp.pl13 (F:Nat) :Nat->List Int->Int->Int->Option (Int)
 | 0,_,_,_=>none
 | k+1,bA,bS,cu=>(bif (decide (cu<(bA.length:Int))) then ((ix bA cu).bind λn1=>(bif ((gt bA n1) != bS) then (some (-1)) else (cp.pl13 F k bA (wrap .i64 (bS+1)) (wrap .i64 (cu+1))))) else (some bS))
theorem cp.l13_P  :∀ k,cp.S13 H0 Ri R0  (cp.l13 F   k) (cp.pl13 F  k):=by
 intro k
 induction k with
 | zero=>unfold cp.S13;intros;rename_i hp;cases hp
 | succ k ih=>
  intro iL gh iM bA bS cu H lz h0 r hp
  obtain ⟨w0,s0,gj⟩:=h0
  subst lz
  unfold cp.pl13 at hp
  unfold cp.l13
  refine aB hp (λhp=>?_) λhp=>?_
  ·obtain ⟨n1,g1,hp⟩:=ag hp
   obtain ⟨p1,q1,i1,h1,j1⟩:=ROs.ixr gj rfl g1
   refine ai i1 ?_
   have h1:_=[_]:=h1
   subst h1
   refine ai (aG (j1 0 _ rfl)) ?_
   refine aB hp (λhp=>?_) λhp=>?_
   ·exact aw hp ⟨rfl,w0,s0,trivial⟩
   ·exact ih rfl ⟨w0,s0,gj⟩ hp
  ·exact aw hp ⟨rfl,w0,s0,trivial⟩
def cp.p (F:Nat) (ah:asr) (au:Int):Option (Int):=cp.pl13 F F ah au 0
theorem cp.P {az aj aA ah au} (aT:aj=ah.length) (h0:Inn H R0 λR=>ROs eI H R ⟨az,aj,aA⟩ ah) {r:Int} (hp:cp.p F ah au=some r):Rt (cp.tw F ⟨az,aj,aA⟩ au H) (cp.Q H R0 R0  r):=by
 obtain ⟨w0,aK⟩:=h0
 subst aT
 unfold cp.p at hp
 unfold cp.tw cp.twX
 have s0:=w0.rf
 exact cp.l13_P F rfl ⟨w0,s0,aK⟩ hp
def eE.Q (H0:Hp) (Ri R0:asp)  (r:Int) (v:AV) (H':Hp):Prop:=v=(.i r)/\Out H0 Ri H' (R0) λR=>True
def eE.p (F:Nat) (aF:asr) (ar:Int):Option (Int):=(cp.p F aF ar).bind λr2=>(bif (decide (r2<0)) then (some (-1)) else (some r2))
theorem eE.P {aa ar bV bq bW aF} (dk:bq=aF.length) (h0:Inn H R0 λR=>ROs eI H R ⟨bV,bq,bW⟩ aF) {r:Int} (hp:eE.p F aF ar=some r):Rt (eE.tw F aa ⟨bV,bq,bW⟩ ar H) (eE.Q H R0 R0  r):=by
 obtain ⟨w0,cF⟩:=h0
 subst dk
 unfold eE.p at hp
 unfold eE.tw eE.twX
 have s0:=w0.rf
 refine aR w0 λH1 w1 s1=>?_
 refine lSl w1 0 ?_
 obtain ⟨r2,e2,hp⟩:=ag hp
 refine aE (cp.P rfl ⟨w1,(cF.step s1)⟩ e2) ?_
 rintro _ H3 ⟨rfl,w3,s3,_⟩
 refine br ?_
 refine aB hp (λhp=>?_) λhp=>?_
 ·obtain ⟨w4,s4⟩:=w3.pp [] 1
  exact aw hp ⟨rfl,w4,(s0.trans (s1.trans (s3.trans s4))),trivial⟩
 ·obtain ⟨w5,s5⟩:=w3.pp [] 1
  exact aw hp ⟨rfl,w5,(s0.trans (s1.trans (s3.trans s5))),trivial⟩
def dP.Q (H0:Hp) (Ri R0:asp)  (r:Bool) (v:AV) (H':Hp):Prop:=v=(.bool r)/\Out H0 Ri H' (R0) λR=>True
def dP.p (F:Nat) (ah:asy) (af:Int):Option (Bool):=(el.p F ah 1048576).bind λr2=>(bif (decide (r2<0)) then (some true) else ((dC.p F ah af).bind λr5=>(eK.p F r5.1 r5.2).bind λr8=>(dC.p F ah af).bind λr14=>(ey.p F r14.1 r14.2).bind λr21=>(dU.p F r21.1 r21.2.1 r8.1 r8.2.1).bind λr30=>(bif (!r30) then (some false) else ((bif (r21.2.2 != r8.2.2) then (some false) else ((dC.p F ah af).bind λr36=>(eO.p F r14.1 r14.2 r36.1 r36.2).bind λr42=>(bif (!r42) then (some false) else ((eP.p F r14.1 1).bind λr47=>(bif (decide (r47.1<0)) then (some false) else ((dU.p F r21.1 r21.2.1 r8.1 r8.2.1).bind λr53=>(bif (!r53) then (some false) else ((bif (r21.2.2 != r8.2.2) then (some false) else ((eV.p F r21.2.1 1).bind λr59=>(eE.p F r59.2 1).bind λr62=>(bif (decide (r62<0)) then (some false) else ((bif (r62 != r59.1) then (some false) else ((dC.p F ah af).bind λr67=>(ey.p F r67.1 r67.2).bind λr70=>(dU.p F r70.1 r70.2.1 r8.1 r8.2.1).bind λr79=>(bif (!r79) then (some false) else ((bif (r70.2.2 != r8.2.2) then (some false) else ((eE.p F r59.2 1).bind λr87=>(bif (decide (r87<0)) then (some false) else ((bif (r87 != r59.1) then (some false) else (some true))))))))))))))))))))))))))
theorem dP.P {az aj aA ah af} (aT:aj=ah.length) (h0:Inn H R0 λR=>ROs (ac eI (ac eI (ac eI (ac eI eI)))) H R ⟨az,aj,aA⟩ ah) {r:Bool} (hp:dP.p F ah af=some r):Rt (dP.tw F ⟨az,aj,aA⟩ af H) (dP.Q H R0 R0  r):=by
 obtain ⟨w0,aK⟩:=h0
 subst aT
 unfold dP.p at hp
 unfold dP.tw dP.twX
 have s0:=w0.rf
 refine aR w0 λH1 w1 s1=>?_
 refine lSl w1 0 ?_
 refine lI w1 0 ?_
 obtain ⟨r2,e2,hp⟩:=ag hp
 refine aE (el.P rfl ⟨w1,(aK.step s1)⟩ e2) ?_
 rintro _ H3 ⟨rfl,w3,s3,_⟩
 refine br ?_
 refine aB hp (λhp=>?_) λhp=>?_
 ·obtain ⟨w4,s4⟩:=w3.pp [] 1
  exact aw hp ⟨rfl,w4,(s0.trans (s1.trans (s3.trans s4))),trivial⟩
 ·refine lSl w3 0 ?_
  refine lI w3 0 ?_
  obtain ⟨r5,e5,hp⟩:=ag hp
  refine aE (dC.P rfl ⟨w3,(aK.step (s1.trans s3))⟩ e5) ?_
  rintro _ H6 ⟨o0a_6,o0n_6,o0c_6,o0k_6,rfl,rfl,w6,s6,f6_0⟩
  refine br (br (br (br (br ?_))))
  have f7:=W.borrow1 (ac eI (ac eI (ac eI (ac eI eI)))) w6 f6_0
  obtain ⟨w7,s7⟩:=w6.right1
  obtain ⟨r8,e8,hp⟩:=ag hp
  refine aE (eK.P rfl ⟨w7,f7⟩ e8) ?_
  rintro _ H9 ⟨o1a_9,o1n_9,o1c_9,o1k_9,rfl,rfl,w9,s9,f9_0⟩
  obtain ⟨w10,s10⟩:=W.frame1 w6 w9 s9
  refine br (br (br (br (br (br (br (br (br ?_))))))))
  refine aR w10 λH11 w11 s11=>?_
  refine aq w11 0 λH12 w12 s12=>?_
  refine aq w12 0 λH13 w13 s13=>?_
  refine lSl w13 3 ?_
  refine lI w13 3 ?_
  obtain ⟨r14,e14,hp⟩:=ag hp
  refine aE (dC.P rfl ⟨w13,(aK.step (s1.trans (s3.trans (s6.trans (s10.trans (s11.trans (s12.trans s13)))))))⟩ e14) ?_
  rintro _ H15 ⟨o0a_15,o0n_15,o0c_15,o0k_15,rfl,rfl,w15,s15,f15_0⟩
  refine br (br (br (br (br ?_))))
  refine aR w15 λH16 w16 s16=>?_
  refine aq w16 0 λH17 w17 s17=>?_
  refine aq w17 0 λH18 w18 s18=>?_
  refine lSl w18 0 ?_
  refine lI w18 0 ?_
  obtain ⟨w19,s19⟩:=w18.pp [1,0,2,3,4,5] 6
  have f20:=W.borrow1 (ac eI (ac eI (ac eI (ac eI eI)))) w19 (f15_0.step (s16.trans (s17.trans (s18.trans s19))))
  obtain ⟨w20,s20⟩:=w19.right1
  obtain ⟨r21,e21,hp⟩:=ag hp
  refine aE (ey.P rfl ⟨w20,f20⟩ e21) ?_
  rintro _ H22 ⟨o1a_22,o1n_22,o1c_22,o1k_22,rfl,rfl,w22,s22,f22_0⟩
  obtain ⟨w23,s23⟩:=W.frame1 w19 w22 s22
  refine br (br (br (br (br (br (br (br (br ?_))))))))
  refine aR w23 λH24 w24 s24=>?_
  refine aq w24 0 λH25 w25 s25=>?_
  refine aq w25 0 λH26 w26 s26=>?_
  refine lI w26 0 ?_
  refine lSl w26 0 ?_
  refine lI w26 4 ?_
  refine lSl w26 4 ?_
  obtain ⟨w27,s27⟩:=w26.pp [2,6,0,1,3,4,5,7] 8
  have f28:=W.borrow1 eI w27 ((CR.flat (eA .i64) f22_0).step (s24.trans (s25.trans (s26.trans s27))))
  obtain ⟨w28,s28⟩:=w27.right1
  have f29:=W.borrow1 eI w28 (((CR.flat (eA .i64) f9_0).step (s11.trans (s12.trans (s13.trans (s15.trans (s16.trans (s17.trans (s18.trans (s19.trans (s23.trans (s24.trans (s25.trans (s26.trans s27))))))))))))).step s28)
  obtain ⟨w29,s29⟩:=w28.right1
  obtain ⟨r30,e30,hp⟩:=ag hp
  refine aE (dU.P rfl rfl ⟨w29,(f28.step s29),f29⟩ e30) ?_
  rintro _ H31 ⟨rfl,w31,s31,_⟩
  obtain ⟨w32,s32⟩:=W.frame1 w28 w31 s31
  obtain ⟨w33,s33⟩:=W.frame1 w27 w32 s32
  refine br ?_
  refine aB hp (λhp=>?_) λhp=>?_
  ·obtain ⟨w34,s34⟩:=w33.pp [] 8
   dsimp only [pk,pks,nth,List.drop,List.set,List.eraseIdx] at w34 s12 s13 s16 s17 s18 s19 s24 s25 s26 s27 s34
   exact aw hp ⟨rfl,w34,(s0.trans (s1.trans (s3.trans (s6.trans (s10.trans (s11.trans (s12.trans (s13.trans (s15.trans (s16.trans (s17.trans (s18.trans (s19.trans (s23.trans (s24.trans (s25.trans (s26.trans (s27.trans (s33.trans s34))))))))))))))))))),trivial⟩
  ·refine aB hp (λhp=>?_) λhp=>?_
   ·obtain ⟨w35,s35⟩:=w33.pp [] 8
    dsimp only [pk,pks,nth,List.drop,List.set,List.eraseIdx] at w35 s12 s13 s16 s17 s18 s19 s24 s25 s26 s27 s35
    exact aw hp ⟨rfl,w35,(s0.trans (s1.trans (s3.trans (s6.trans (s10.trans (s11.trans (s12.trans (s13.trans (s15.trans (s16.trans (s17.trans (s18.trans (s19.trans (s23.trans (s24.trans (s25.trans (s26.trans (s27.trans (s33.trans s35))))))))))))))))))),trivial⟩
   ·refine lSl w33 4 ?_
    refine lI w33 4 ?_
    refine lSl w33 7 ?_
    refine lI w33 7 ?_
    obtain ⟨r36,e36,hp⟩:=ag hp
    refine aE (dC.P rfl ⟨w33,(aK.step (s1.trans (s3.trans (s6.trans (s10.trans (s11.trans (s12.trans (s13.trans (s15.trans (s16.trans (s17.trans (s18.trans (s19.trans (s23.trans (s24.trans (s25.trans (s26.trans (s27.trans s33))))))))))))))))))⟩ e36) ?_
    rintro _ H37 ⟨o0a_37,o0n_37,o0c_37,o0k_37,rfl,rfl,w37,s37,f37_0⟩
    refine br (br (br (br (br ?_))))
    refine eQ (W.cons_of (Rn:=[_]) w33 w37 s37) ?_
    obtain ⟨w39,s39⟩:=w37.pp [4,0,1,2,3,5,6,7,8] 9
    dsimp only [pk,pks,nth,List.drop,List.set,List.eraseIdx] at w39 s12 s13 s16 s17 s18 s19 s24 s25 s26 s27 s39
    have f40:=W.borrow1 (ac eI (ac eI (ac eI (ac eI eI)))) w39 (f15_0.step (s16.trans (s17.trans (s18.trans (s19.trans (s23.trans (s24.trans (s25.trans (s26.trans (s27.trans (s33.trans (s37.trans s39))))))))))))
    obtain ⟨w40,s40⟩:=w39.right1
    have f41:=W.borrow1 (ac eI (ac eI (ac eI (ac eI eI)))) w40 ((f37_0.step s39).step s40)
    obtain ⟨w41,s41⟩:=w40.right1
    obtain ⟨r42,e42,hp⟩:=ag hp
    refine aE (eO.P rfl rfl ⟨w41,(f40.step s41),f41⟩ e42) ?_
    rintro _ H43 ⟨rfl,w43,s43,_⟩
    obtain ⟨w44,s44⟩:=W.frame1 w40 w43 s43
    obtain ⟨w45,s45⟩:=W.frame1 w39 w44 s44
    refine br ?_
    refine aB hp (λhp=>?_) λhp=>?_
    ·obtain ⟨w46,s46⟩:=w45.pp [] 9
     exact aw hp ⟨rfl,w46,(s0.trans (s1.trans (s3.trans (s6.trans (s10.trans (s11.trans (s12.trans (s13.trans (s15.trans (s16.trans (s17.trans (s18.trans (s19.trans (s23.trans (s24.trans (s25.trans (s26.trans (s27.trans (s33.trans (s37.trans (s39.trans (s45.trans s46)))))))))))))))))))))),trivial⟩
    ·refine lSl w45 5 ?_
     refine lI w45 5 ?_
     obtain ⟨r47,e47,hp⟩:=ag hp
     refine aE (eP.P rfl ⟨w45,(f15_0.step (s16.trans (s17.trans (s18.trans (s19.trans (s23.trans (s24.trans (s25.trans (s26.trans (s27.trans (s33.trans (s37.trans (s39.trans s45)))))))))))))⟩ e47) ?_
     rintro _ H48 ⟨ar3,rfl,hl48_0,w48,s48,f48_0⟩
     refine br ?_
     refine aB hp (λhp=>?_) λhp=>?_
     ·obtain ⟨w49,s49⟩:=w48.pp [] 9
      exact aw hp ⟨rfl,w49,(s0.trans (s1.trans (s3.trans (s6.trans (s10.trans (s11.trans (s12.trans (s13.trans (s15.trans (s16.trans (s17.trans (s18.trans (s19.trans (s23.trans (s24.trans (s25.trans (s26.trans (s27.trans (s33.trans (s37.trans (s39.trans (s45.trans (s48.trans s49))))))))))))))))))))))),trivial⟩
     ·refine lI w48 4 ?_
      refine lSl w48 4 ?_
      refine lI w48 6 ?_
      refine lSl w48 6 ?_
      obtain ⟨w50,s50⟩:=w48.pp [2,3,0,1,4,5,6,7,8] 9
      have f51:=W.borrow1 eI w50 ((CR.flat (eA .i64) f22_0).step (s24.trans (s25.trans (s26.trans (s27.trans (s33.trans (s37.trans (s39.trans (s45.trans (s48.trans s50))))))))))
      obtain ⟨w51,s51⟩:=w50.right1
      have f52:=W.borrow1 eI w51 (((CR.flat (eA .i64) f9_0).step (s11.trans (s12.trans (s13.trans (s15.trans (s16.trans (s17.trans (s18.trans (s19.trans (s23.trans (s24.trans (s25.trans (s26.trans (s27.trans (s33.trans (s37.trans (s39.trans (s45.trans (s48.trans s50))))))))))))))))))).step s51)
      obtain ⟨w52,s52⟩:=w51.right1
      obtain ⟨r53,e53,hp⟩:=ag hp
      refine aE (dU.P rfl rfl ⟨w52,(f51.step s52),f52⟩ e53) ?_
      rintro _ H54 ⟨rfl,w54,s54,_⟩
      obtain ⟨w55,s55⟩:=W.frame1 w51 w54 s54
      obtain ⟨w56,s56⟩:=W.frame1 w50 w55 s55
      refine br ?_
      refine aB hp (λhp=>?_) λhp=>?_
      ·obtain ⟨w57,s57⟩:=w56.pp [] 9
       exact aw hp ⟨rfl,w57,(s0.trans (s1.trans (s3.trans (s6.trans (s10.trans (s11.trans (s12.trans (s13.trans (s15.trans (s16.trans (s17.trans (s18.trans (s19.trans (s23.trans (s24.trans (s25.trans (s26.trans (s27.trans (s33.trans (s37.trans (s39.trans (s45.trans (s48.trans (s50.trans (s56.trans s57))))))))))))))))))))))))),trivial⟩
      ·refine aB hp (λhp=>?_) λhp=>?_
       ·obtain ⟨w58,s58⟩:=w56.pp [] 9
        exact aw hp ⟨rfl,w58,(s0.trans (s1.trans (s3.trans (s6.trans (s10.trans (s11.trans (s12.trans (s13.trans (s15.trans (s16.trans (s17.trans (s18.trans (s19.trans (s23.trans (s24.trans (s25.trans (s26.trans (s27.trans (s33.trans (s37.trans (s39.trans (s45.trans (s48.trans (s50.trans (s56.trans s58))))))))))))))))))))))))),trivial⟩
       ·refine lI w56 4 ?_
        refine lSl w56 4 ?_
        obtain ⟨r59,e59,hp⟩:=ag hp
        refine aE (eV.P rfl ⟨w56,((CR.flat (eA .i64) f22_0).step (s24.trans (s25.trans (s26.trans (s27.trans (s33.trans (s37.trans (s39.trans (s45.trans (s48.trans (s50.trans s56)))))))))))⟩ e59) ?_
        rintro _ H60 ⟨ar4,rfl,hl60_0,w60,s60,f60_0⟩
        refine br ?_
        refine lI w60 4 ?_
        refine lSl w60 4 ?_
        have f61:=W.borrow1 eI w60 f60_0
        obtain ⟨w61,s61⟩:=w60.right1
        obtain ⟨r62,e62,hp⟩:=ag hp
        refine aE (eE.P hl60_0 ⟨w61,f61⟩ e62) ?_
        rintro _ H63 ⟨rfl,w63,s63,_⟩
        obtain ⟨w64,s64⟩:=W.frame1 w60 w63 s63
        refine br ?_
        refine aB hp (λhp=>?_) λhp=>?_
        ·obtain ⟨w65,s65⟩:=w64.pp [] 9
         exact aw hp ⟨rfl,w65,(s0.trans (s1.trans (s3.trans (s6.trans (s10.trans (s11.trans (s12.trans (s13.trans (s15.trans (s16.trans (s17.trans (s18.trans (s19.trans (s23.trans (s24.trans (s25.trans (s26.trans (s27.trans (s33.trans (s37.trans (s39.trans (s45.trans (s48.trans (s50.trans (s56.trans (s60.trans (s64.trans s65))))))))))))))))))))))))))),trivial⟩
        ·refine aB hp (λhp=>?_) λhp=>?_
         ·obtain ⟨w66,s66⟩:=w64.pp [] 9
          exact aw hp ⟨rfl,w66,(s0.trans (s1.trans (s3.trans (s6.trans (s10.trans (s11.trans (s12.trans (s13.trans (s15.trans (s16.trans (s17.trans (s18.trans (s19.trans (s23.trans (s24.trans (s25.trans (s26.trans (s27.trans (s33.trans (s37.trans (s39.trans (s45.trans (s48.trans (s50.trans (s56.trans (s60.trans (s64.trans s66))))))))))))))))))))))))))),trivial⟩
         ·refine lSl w64 8 ?_
          refine lI w64 8 ?_
          obtain ⟨r67,e67,hp⟩:=ag hp
          refine aE (dC.P rfl ⟨w64,(aK.step (s1.trans (s3.trans (s6.trans (s10.trans (s11.trans (s12.trans (s13.trans (s15.trans (s16.trans (s17.trans (s18.trans (s19.trans (s23.trans (s24.trans (s25.trans (s26.trans (s27.trans (s33.trans (s37.trans (s39.trans (s45.trans (s48.trans (s50.trans (s56.trans (s60.trans s64))))))))))))))))))))))))))⟩ e67) ?_
          rintro _ H68 ⟨o0a_68,o0n_68,o0c_68,o0k_68,rfl,rfl,w68,s68,f68_0⟩
          refine br (br (br (br (br ?_))))
          have f69:=W.borrow1 (ac eI (ac eI (ac eI (ac eI eI)))) w68 f68_0
          obtain ⟨w69,s69⟩:=w68.right1
          obtain ⟨r70,e70,hp⟩:=ag hp
          refine aE (ey.P rfl ⟨w69,f69⟩ e70) ?_
          rintro _ H71 ⟨o1a_71,o1n_71,o1c_71,o1k_71,rfl,rfl,w71,s71,f71_0⟩
          obtain ⟨w72,s72⟩:=W.frame1 w68 w71 s71
          refine br (br (br (br (br (br (br (br (br ?_))))))))
          refine aR w72 λH73 w73 s73=>?_
          refine aq w73 0 λH74 w74 s74=>?_
          refine aq w74 0 λH75 w75 s75=>?_
          refine lI w75 0 ?_
          refine lSl w75 0 ?_
          refine lI w75 9 ?_
          refine lSl w75 9 ?_
          obtain ⟨w76,s76⟩:=w75.pp [2,4,0,1,3,5,6,7,8,9,10,11] 12
          have f77:=W.borrow1 eI w76 ((CR.flat (eA .i64) f71_0).step (s73.trans (s74.trans (s75.trans s76))))
          obtain ⟨w77,s77⟩:=w76.right1
          have f78:=W.borrow1 eI w77 (((CR.flat (eA .i64) f9_0).step (s11.trans (s12.trans (s13.trans (s15.trans (s16.trans (s17.trans (s18.trans (s19.trans (s23.trans (s24.trans (s25.trans (s26.trans (s27.trans (s33.trans (s37.trans (s39.trans (s45.trans (s48.trans (s50.trans (s56.trans (s60.trans (s64.trans (s68.trans (s72.trans (s73.trans (s74.trans (s75.trans s76)))))))))))))))))))))))))))).step s77)
          obtain ⟨w78,s78⟩:=w77.right1
          obtain ⟨r79,e79,hp⟩:=ag hp
          refine aE (dU.P rfl rfl ⟨w78,(f77.step s78),f78⟩ e79) ?_
          rintro _ H80 ⟨rfl,w80,s80,_⟩
          obtain ⟨w81,s81⟩:=W.frame1 w77 w80 s80
          obtain ⟨w82,s82⟩:=W.frame1 w76 w81 s81
          refine br ?_
          refine aB hp (λhp=>?_) λhp=>?_
          ·obtain ⟨w83,s83⟩:=w82.pp [] 12
           exact aw hp ⟨rfl,w83,(s0.trans (s1.trans (s3.trans (s6.trans (s10.trans (s11.trans (s12.trans (s13.trans (s15.trans (s16.trans (s17.trans (s18.trans (s19.trans (s23.trans (s24.trans (s25.trans (s26.trans (s27.trans (s33.trans (s37.trans (s39.trans (s45.trans (s48.trans (s50.trans (s56.trans (s60.trans (s64.trans (s68.trans (s72.trans (s73.trans (s74.trans (s75.trans (s76.trans (s82.trans s83)))))))))))))))))))))))))))))))))),trivial⟩
          ·refine aB hp (λhp=>?_) λhp=>?_
           ·obtain ⟨w84,s84⟩:=w82.pp [] 12
            exact aw hp ⟨rfl,w84,(s0.trans (s1.trans (s3.trans (s6.trans (s10.trans (s11.trans (s12.trans (s13.trans (s15.trans (s16.trans (s17.trans (s18.trans (s19.trans (s23.trans (s24.trans (s25.trans (s26.trans (s27.trans (s33.trans (s37.trans (s39.trans (s45.trans (s48.trans (s50.trans (s56.trans (s60.trans (s64.trans (s68.trans (s72.trans (s73.trans (s74.trans (s75.trans (s76.trans (s82.trans s84)))))))))))))))))))))))))))))))))),trivial⟩
           ·refine lI w82 7 ?_
            refine lSl w82 7 ?_
            obtain ⟨w85,s85⟩:=w82.pp [4,0,1,2,3,5,6,7,8,9,10,11] 12
            have f86:=W.borrow1 eI w85 (f60_0.step (s64.trans (s68.trans (s72.trans (s73.trans (s74.trans (s75.trans (s76.trans (s82.trans s85)))))))))
            obtain ⟨w86,s86⟩:=w85.right1
            obtain ⟨r87,e87,hp⟩:=ag hp
            refine aE (eE.P hl60_0 ⟨w86,f86⟩ e87) ?_
            rintro _ H88 ⟨rfl,w88,s88,_⟩
            obtain ⟨w89,s89⟩:=W.frame1 w85 w88 s88
            refine br ?_
            refine aB hp (λhp=>?_) λhp=>?_
            ·obtain ⟨w90,s90⟩:=w89.pp [] 12
             exact aw hp ⟨rfl,w90,(s0.trans (s1.trans (s3.trans (s6.trans (s10.trans (s11.trans (s12.trans (s13.trans (s15.trans (s16.trans (s17.trans (s18.trans (s19.trans (s23.trans (s24.trans (s25.trans (s26.trans (s27.trans (s33.trans (s37.trans (s39.trans (s45.trans (s48.trans (s50.trans (s56.trans (s60.trans (s64.trans (s68.trans (s72.trans (s73.trans (s74.trans (s75.trans (s76.trans (s82.trans (s85.trans (s89.trans s90)))))))))))))))))))))))))))))))))))),trivial⟩
            ·refine aB hp (λhp=>?_) λhp=>?_
             ·obtain ⟨w91,s91⟩:=w89.pp [] 12
              exact aw hp ⟨rfl,w91,(s0.trans (s1.trans (s3.trans (s6.trans (s10.trans (s11.trans (s12.trans (s13.trans (s15.trans (s16.trans (s17.trans (s18.trans (s19.trans (s23.trans (s24.trans (s25.trans (s26.trans (s27.trans (s33.trans (s37.trans (s39.trans (s45.trans (s48.trans (s50.trans (s56.trans (s60.trans (s64.trans (s68.trans (s72.trans (s73.trans (s74.trans (s75.trans (s76.trans (s82.trans (s85.trans (s89.trans s91)))))))))))))))))))))))))))))))))))),trivial⟩
             ·obtain ⟨w92,s92⟩:=w89.pp [] 12
              exact aw hp ⟨rfl,w92,(s0.trans (s1.trans (s3.trans (s6.trans (s10.trans (s11.trans (s12.trans (s13.trans (s15.trans (s16.trans (s17.trans (s18.trans (s19.trans (s23.trans (s24.trans (s25.trans (s26.trans (s27.trans (s33.trans (s37.trans (s39.trans (s45.trans (s48.trans (s50.trans (s56.trans (s60.trans (s64.trans (s68.trans (s72.trans (s73.trans (s74.trans (s75.trans (s76.trans (s82.trans (s85.trans (s89.trans s92)))))))))))))))))))))))))))))))))))),trivial⟩
end
end Go.Proofs.Ytppbogklbhfboaa.AE
