import Derived.Test.YtppbogklbhfboaaP1
import Derived.Test.YtppbogklbhfboaaT1
import Derived.Test.YtppbogklbhfboaaE2
set_option linter.unusedVariables false
set_option linter.unusedSimpArgs false
namespace Go.Proofs.Ytppbogklbhfboaa.AE
open Go Go.AE Go.Proofs IntKind
set_option linter.unusedVariables false
variable {F:Nat} {H H0:Hp} {Ri R0:as3}
set_option maxHeartbeats 4000000
set_option maxRecDepth 100000
noncomputable section
def aU.Q (H0:Hp) (Ri R0:as3)  (r:as9) (v:AV) (H':Hp):Prop:=∃ o1a:ON,∃ o1n:Nat,∃ o1c:Cap,∃ o1k:List AV,v=(.agg [(.i r.1),(.sl ⟨o1a,o1n,o1c⟩)])/\o1n=(r.2).length/\Out H0 Ri H' (Rs.own ⟨o1a,o1n,o1c⟩ eI.z o1k::R0) λR=>CR eI H' R o1k (r.2)
def aU.S61 (H0:Hp) (Ri R0:as3)  (C:atK) (pC:atR):Prop:=∀ {gG ac6 pa dA ip gH Rf Rh Rj Gc fK Gd fV Ge Rk Rl Rm Rp nu iV Rq Rr},∀ {H:Hp},Gc=Rp.length->Gd=nu.length->Ge=iV.length->(Out H0 Ri H (Rs.own ⟨Rf,Gc,Rk⟩ eI.z Rq::Rs.blk fK [.i ac6,.sl ⟨Rf,Gc,Rk⟩]::Rs.own ⟨Rh,Gd,Rl⟩ eI.z Rr::Rs.blk fV [.i pa,.sl ⟨Rh,Gd,Rl⟩]::R0) λR=>CR eI H R Rq Rp/\CR eI H R Rr nu/\ROs eI H R ⟨Rj,Ge,Rm⟩ iV)->∀ {r:as9},pC gG pa nu dA iV ip gH=some r->Rt (C gG fK 0 fV 0 dA ⟨Rj,Ge,Rm⟩ ip gH H) (aU.Q H0 Ri R0  r)
def aU.pj4 (F:Nat) (ar:atR) (uM:Int) (Gf:Int) (zM:as6) (uN:Int) (uO:Int) (zN:as6) (uP:Int) (uQ:Int):Option (Int×List Int):=(el.p F uO).bind λr1=>ar uM Gf zM (wrap .i64 (uN+r1)) zN uP (wrap .i64 (uQ+1))
theorem aU.j4_P  {C61_:atK} {ar:atR} (hC61:aU.S61 H0 Ri R0  C61_ ar) {uM aoU Gf uN uO uP uQ ac7 ac8 ac9 Ru Cg Rv Ch Rw ac_ ada adb adc zM zN ade adf} (aoV:Ru=adc.length) (aoW:Rv=zM.length) (aoX:Rw=zN.length) (h0:Out H0 Ri H (Rs.own ⟨ac7,Ru,ac_⟩ eI.z ade::Rs.blk Cg [.i aoU,.sl ⟨ac7,Ru,ac_⟩]::Rs.own ⟨ac8,Rv,ada⟩ eI.z adf::Rs.blk Ch [.i Gf,.sl ⟨ac8,Rv,ada⟩]::R0) λR=>CR eI H R ade adc/\CR eI H R adf zM/\ROs eI H R ⟨ac9,Rw,adb⟩ zN) {r:as9} (hp:aU.pj4 F ar uM Gf zM uN uO zN uP uQ=some r):Rt (aU.j4 F (cl.tw F) (cp.tw F) (el.tw F) C61_ uM Cg 0 Ch 0 uN uO ⟨ac9,Rw,adb⟩ uP uQ H) (aU.Q H0 Ri R0  r):=by
 obtain ⟨w0,s0,aoY,aoZ,ao0⟩:=h0
 subst aoV
 subst aoW
 subst aoX
 unfold aU.pj4 at hp
 unfold aU.j4
 obtain ⟨r1,e1,hp⟩:=ag hp
 refine aE (el.P ⟨w0,trivial⟩ e1) ?_
 rintro _ H2 ⟨rfl,w2,s2,_⟩
 refine br ?_
 exact hC61 rfl rfl rfl ⟨w2,(s0.trans s2),(aoY.step s2),(aoZ.step s2),(ao0.step s2)⟩ hp
def aU.pj5 (F:Nat) (ar:atR) (uR:Int) (Gg:Int) (zO:as6) (uS:Int) (uT:Int) (zP:as6) (uU:Int) (uV:Int):Option (Int×List Int):=(el.p F uT).bind λr1=>ar uR Gg zO (wrap .i64 (uS+r1)) zP uU (wrap .i64 (uV+1))
theorem aU.j5_P  {C61_:atK} {ar:atR} (hC61:aU.S61 H0 Ri R0  C61_ ar) {uR ao1 Gg uS uT uU uV adg adh adi Rx Ci Ry Cj Rz adj adk adm adn zO zP ado adp} (ao2:Rx=adn.length) (ao3:Ry=zO.length) (ao4:Rz=zP.length) (h0:Out H0 Ri H (Rs.own ⟨adg,Rx,adj⟩ eI.z ado::Rs.blk Ci [.i ao1,.sl ⟨adg,Rx,adj⟩]::Rs.own ⟨adh,Ry,adk⟩ eI.z adp::Rs.blk Cj [.i Gg,.sl ⟨adh,Ry,adk⟩]::R0) λR=>CR eI H R ado adn/\CR eI H R adp zO/\ROs eI H R ⟨adi,Rz,adm⟩ zP) {r:as9} (hp:aU.pj5 F ar uR Gg zO uS uT zP uU uV=some r):Rt (aU.j5 F (cl.tw F) (cp.tw F) (el.tw F) C61_ uR Ci 0 Cj 0 uS uT ⟨adi,Rz,adm⟩ uU uV H) (aU.Q H0 Ri R0  r):=by
 obtain ⟨w0,s0,ao5,ao6,ao7⟩:=h0
 subst ao2
 subst ao3
 subst ao4
 unfold aU.pj5 at hp
 unfold aU.j5
 obtain ⟨r1,e1,hp⟩:=ag hp
 refine aE (el.P ⟨w0,trivial⟩ e1) ?_
 rintro _ H2 ⟨rfl,w2,s2,_⟩
 refine br ?_
 exact hC61 rfl rfl rfl ⟨w2,(s0.trans s2),(ao5.step s2),(ao6.step s2),(ao7.step s2)⟩ hp
def aU.pj6 (F:Nat) (ar:atR) (uW:Int) (Gh:Int) (zQ:as6) (uX:Int) (uY:Int) (zR:as6) (uZ:Int) (u_:Int):Option (Int×List Int):=aU.pj5 F ar uW Gh zQ uX uY zR uZ u_
theorem aU.j6_P  {C61_:atK} {ar:atR} (hC61:aU.S61 H0 Ri R0  C61_ ar) {uW ao8 Gh uX uY uZ u_ adq ads adt RA Ck RB Cl RC adu adv adw adx zQ zR ady adz} (ao9:RA=adx.length) (ao_:RB=zQ.length) (apa:RC=zR.length) (h0:Out H0 Ri H (Rs.own ⟨adq,RA,adu⟩ eI.z ady::Rs.blk Ck [.i ao8,.sl ⟨adq,RA,adu⟩]::Rs.own ⟨ads,RB,adv⟩ eI.z adz::Rs.blk Cl [.i Gh,.sl ⟨ads,RB,adv⟩]::R0) λR=>CR eI H R ady adx/\CR eI H R adz zQ/\ROs eI H R ⟨adt,RC,adw⟩ zR) {r:as9} (hp:aU.pj6 F ar uW Gh zQ uX uY zR uZ u_=some r):Rt (aU.j6 F (cl.tw F) (cp.tw F) (el.tw F) C61_ uW Ck 0 Cl 0 uX uY ⟨adt,RC,adw⟩ uZ u_ H) (aU.Q H0 Ri R0  r):=by
 obtain ⟨w0,s0,apb,apc,apd⟩:=h0
 subst ao9
 subst ao_
 subst apa
 unfold aU.pj6 at hp
 unfold aU.j6
 exact aU.j5_P (@hC61) rfl rfl rfl ⟨w0,s0,apb,apc,apd⟩ hp
def aU.pl61 (F:Nat) :Nat->Int->Int->List Int->Int->List Int->Int->Int->Option (Int×List Int)
 | 0,_,_,_,_,_,_,_=>none
 | k+1,gG,pa,nu,dA,iV,ip,gH=>(bif (decide (gH<ip)) then ((ix iV gH).bind λn1=>(bif ((gt iV n1)==gG) then ((cl.p F 1 dA).bind λr2=>(cp.p F pa nu r2.1 r2.2).bind λr8=>aU.pj4 F (aU.pl61 F k) gG r8.1 r8.2 dA (gt iV n1) iV ip gH) else ((bif ((gt iV n1)==(wrap .i64 (0 - gG))) then ((cl.p F (-1) (wrap .i64 (dA - 1))).bind λr15=>(cp.p F pa nu r15.1 r15.2).bind λr21=>aU.pj6 F (aU.pl61 F k) gG r21.1 r21.2 dA (gt iV n1) iV ip gH) else (aU.pj6 F (aU.pl61 F k) gG pa nu dA (gt iV n1) iV ip gH))))) else (some (pa,nu)))
theorem aU.l61_P  :∀ k,aU.S61 H0 Ri R0  (aU.l61 F (cl.tw F) (cp.tw F) (el.tw F)  k) (aU.pl61 F  k):=by
 intro k
 induction k with
 | zero=>unfold aU.S61;intros;rename_i hp;cases hp
 | succ k ih=>
  intro gG ac6 pa dA ip gH Rf Rh Rj Gc fK Gd fV Ge Rk Rl Rm Rp nu iV Rq Rr H ape apf apg h0 r hp
  obtain ⟨w0,s0,RD,Gi,Gj⟩:=h0
  subst ape
  subst apf
  subst apg
  unfold aU.pl61 at hp
  unfold aU.l61
  refine ay hp (λhp=>?_) λhp=>?_
  ·obtain ⟨n1,g1,hp⟩:=ag hp
   obtain ⟨p1,q1,i1,h1,j1⟩:=ROs.ixr Gj rfl g1
   refine ai i1 ?_
   have h1:_=[_]:=h1
   subst h1
   refine ai (aG (j1 0 _ rfl)) ?_
   refine ay hp (λhp=>?_) λhp=>?_
   ·refine lI w0 3 ?_
    refine lSl w0 3 ?_
    obtain ⟨r2,e2,hp⟩:=ag hp
    refine aE (cl.P ⟨w0,trivial⟩ e2) ?_
    rintro _ H3 ⟨o1a_3,o1n_3,o1c_3,o1k_3,rfl,rfl,w3,s3,f3_0⟩
    refine br (br (br (br (br ?_))))
    refine eK (W.cons_of (Rn:=[_]) w0 w3 s3) ?_
    obtain ⟨w5,s5⟩:=w3.pp [3,0,1,2,4] 5
    have f6:=W.borrow1 eI w5 (Gi.step (s3.trans s5))
    obtain ⟨w6,s6⟩:=w5.right1
    have f7:=W.borrow1 eI w6 ((f3_0.step s5).step s6)
    obtain ⟨w7,s7⟩:=w6.right1
    obtain ⟨r8,e8,hp⟩:=ag hp
    refine aE (cp.P rfl rfl ⟨w7,(f6.step s7),f7⟩ e8) ?_
    rintro _ H9 ⟨o1a_9,o1n_9,o1c_9,o1k_9,rfl,rfl,w9,s9,f9_0⟩
    obtain ⟨w10,s10⟩:=W.frame1 w6 w9 s9
    obtain ⟨w11,s11⟩:=W.frame1 w5 w10 s10
    refine br (br (br (br (br ?_))))
    refine aq w11 5 λH12 w12 s12=>?_
    refine aq w12 5 λH13 w13 s13=>?_
    obtain ⟨w14,s14⟩:=w13.pp [3,4,2,5] 6
    exact aU.j4_P (@ih) rfl rfl rfl ⟨w14,(s0.trans (s3.trans (s5.trans (s11.trans (s12.trans (s13.trans s14)))))),(RD.step (s3.trans (s5.trans (s11.trans (s12.trans (s13.trans s14)))))),((CR.flat (fA .i64) f9_0).step (s12.trans (s13.trans s14))),(Gj.step (s3.trans (s5.trans (s11.trans (s12.trans (s13.trans s14))))))⟩ hp
   ·refine ay hp (λhp=>?_) λhp=>?_
    ·refine lI w0 3 ?_
     refine lSl w0 3 ?_
     obtain ⟨r15,e15,hp⟩:=ag hp
     refine aE (cl.P ⟨w0,trivial⟩ e15) ?_
     rintro _ H16 ⟨o1a_16,o1n_16,o1c_16,o1k_16,rfl,rfl,w16,s16,f16_0⟩
     refine br (br (br (br (br ?_))))
     refine eK (W.cons_of (Rn:=[_]) w0 w16 s16) ?_
     obtain ⟨w18,s18⟩:=w16.pp [3,0,1,2,4] 5
     have f19:=W.borrow1 eI w18 (Gi.step (s16.trans s18))
     obtain ⟨w19,s19⟩:=w18.right1
     have f20:=W.borrow1 eI w19 ((f16_0.step s18).step s19)
     obtain ⟨w20,s20⟩:=w19.right1
     obtain ⟨r21,e21,hp⟩:=ag hp
     refine aE (cp.P rfl rfl ⟨w20,(f19.step s20),f20⟩ e21) ?_
     rintro _ H22 ⟨o1a_22,o1n_22,o1c_22,o1k_22,rfl,rfl,w22,s22,f22_0⟩
     obtain ⟨w23,s23⟩:=W.frame1 w19 w22 s22
     obtain ⟨w24,s24⟩:=W.frame1 w18 w23 s23
     refine br (br (br (br (br ?_))))
     refine aq w24 5 λH25 w25 s25=>?_
     refine aq w25 5 λH26 w26 s26=>?_
     obtain ⟨w27,s27⟩:=w26.pp [3,4,2,5] 6
     exact aU.j6_P (@ih) rfl rfl rfl ⟨w27,(s0.trans (s16.trans (s18.trans (s24.trans (s25.trans (s26.trans s27)))))),(RD.step (s16.trans (s18.trans (s24.trans (s25.trans (s26.trans s27)))))),((CR.flat (fA .i64) f22_0).step (s25.trans (s26.trans s27))),(Gj.step (s16.trans (s18.trans (s24.trans (s25.trans (s26.trans s27))))))⟩ hp
    ·exact aU.j6_P (@ih) rfl rfl rfl ⟨w0,s0,RD,Gi,Gj⟩ hp
  ·refine lI w0 3 ?_
   refine lSl w0 3 ?_
   refine aq w0 1 λH28 w28 s28=>?_
   refine aq w28 1 λH29 w29 s29=>?_
   refine lI w29 1 ?_
   refine lSl w29 1 ?_
   obtain ⟨w30,s30⟩:=w29.pp [2] 4
   exact az hp ⟨_,_,_,_,rfl,rfl,w30,(s0.trans (s28.trans (s29.trans s30))),(Gi.step (s28.trans (s29.trans s30)))⟩
def aU.p (F:Nat) (ah:as6) (aA:Int):Option (Int×List Int):=aU.pl61 F F aA 0 ([]:List Int) 0 ah (ah.length:Int) 0
theorem aU.P {aB ak aC ah aA} (ba:ak=ah.length) (h0:Inn H R0 λR=>ROs eI H R ⟨aB,ak,aC⟩ ah) {r:as9} (hp:aU.p F ah aA=some r):Rt (aU.tw F ⟨aB,ak,aC⟩ aA H) (aU.Q H R0 R0  r):=by
 obtain ⟨w0,aO⟩:=h0
 subst ba
 unfold aU.p at hp
 unfold aU.tw aU.twX
 have s0:=w0.rf
 refine aS w0 λH1 w1 s1=>?_
 refine aS w1 λH2 w2 s2=>?_
 obtain ⟨w3,s3⟩:=w2.nilS eI.z (by decide)
 obtain ⟨w4,s4⟩:=w3.nilS eI.z (by decide)
 obtain ⟨w5,s5⟩:=w4.pp [1,3,0,2] 4
 exact aU.l61_P F rfl rfl rfl ⟨w5,(s0.trans (s1.trans (s2.trans (s3.trans (s4.trans s5))))),((CR.empty:CR eI _ _ [] []).step (s4.trans s5)),((CR.empty:CR eI _ _ [] []).step s5),(aO.step (s1.trans (s2.trans (s3.trans (s4.trans s5)))))⟩ hp
def aX.Q (H0:Hp) (Ri R0:as3)  (r:(List ((List (Int×List Int))))) (v:AV) (H':Hp):Prop:=∃ o0a:ON,∃ o0n:Nat,∃ o0c:Cap,∃ o0k:List AV,v=(.sl ⟨o0a,o0n,o0c⟩)/\o0n=(r).length/\Out H0 Ri H' (Rs.own ⟨o0a,o0n,o0c⟩ (eSl (ac eI (eSl eI))).z o0k::R0) λR=>CR (eSl (ac eI (eSl eI))) H' R o0k (r)
def aX.S61 (H0:Hp) (Ri R0:as3)  (C:atL) (pC:atS):Prop:=∀ {kO kP jw rj RE nr Gk rm RF iC rn RG pb},∀ {H:Hp},nr=iC.length->Gk=pb.length->(Out H0 Ri H (Rs.own ⟨rj,nr,rm⟩ (eSl (ac eI (eSl eI))).z rn::Rs.own ⟨RE,Gk,RF⟩ (eSl eI).z RG::R0) λR=>CR (eSl (ac eI (eSl eI))) H R rn iC/\CR (eSl eI) H R RG pb)->∀ {r:(List ((List (Int×List Int))))},pC kO iC pb kP jw=some r->Rt (C kO ⟨rj,nr,rm⟩ ⟨RE,Gk,RF⟩ kP jw H) (aX.Q H0 Ri R0  r)
def aX.S15725 (H0:Hp) (Ri R0:as3)  (C:Int->Sl->Sl->Int->Int->Sl->Sl->Int->Int->Hp->OA) (pC:Int->List ((List (Int×List Int)))->List (List Int)->Int->Int->List Int->List (Int×List Int)->Int->Int->Option ((List ((List (Int×List Int)))))):Prop:=∀ {kK kL kM kN jv RH RJ RK RL Gl Gm Gn Gp RM RN RO RP rA RQ RR RT rB rC rD},∀ {H:Hp},Gl=rA.length->Gm=rB.length->Gn=rC.length->Gp=rD.length->(Out H0 Ri H (Rs.own ⟨RH,Gl,RM⟩ (eSl (ac eI (eSl eI))).z RQ::Rs.own ⟨RJ,Gm,RN⟩ (eSl eI).z RR::Rs.own ⟨RL,Gp,RP⟩ (ac eI (eSl eI)).z RT::R0) λR=>CR (eSl (ac eI (eSl eI))) H R RQ rA/\CR (eSl eI) H R RR rB/\ROs eI H R ⟨RK,Gn,RO⟩ rC/\CR (ac eI (eSl eI)) H R RT rD)->∀ {r:(List ((List (Int×List Int))))},pC kK rA rB kL kM rC rD kN jv=some r->Rt (C kK ⟨RH,Gl,RM⟩ ⟨RJ,Gm,RN⟩ kL kM ⟨RK,Gn,RO⟩ ⟨RL,Gp,RP⟩ kN jv H) (aX.Q H0 Ri R0  r)
def aX.pj3 (F:Nat) (ar:atS) (ve:Int) (zS:atl) (zT:atf) (vf:Int) (vg:Int):Option ((List ((List (Int×List Int))))):=ar ve zS zT vf (wrap .i64 (vg+1))
theorem aX.j3_P  {C61_:atL} {ar:atS} (hC61:aX.S61 H0 Ri R0  C61_ ar) {ve vf vg adA adB RU RV adC adD zS adE adF zT} (aph:RU=zS.length) (api:RV=zT.length) (h0:Out H0 Ri H (Rs.own ⟨adA,RU,adC⟩ (eSl (ac eI (eSl eI))).z adE::Rs.own ⟨adB,RV,adD⟩ (eSl eI).z adF::R0) λR=>CR (eSl (ac eI (eSl eI))) H R adE zS/\CR (eSl eI) H R adF zT) {r:(List ((List (Int×List Int))))} (hp:aX.pj3 F ar ve zS zT vf vg=some r):Rt (aX.j3 F (bg.tw F) (bO.tw F) (aU.tw F) C61_ ve ⟨adA,RU,adC⟩ ⟨adB,RV,adD⟩ vf vg H) (aX.Q H0 Ri R0  r):=by
 obtain ⟨w0,s0,apj,apk⟩:=h0
 subst aph
 subst api
 unfold aX.pj3 at hp
 unfold aX.j3
 exact hC61 rfl rfl ⟨w0,s0,apj,apk⟩ hp
def aX.pj4 (F:Nat) (ar:atS) (vh:Int) (zU:atl) (rE:atm) (zV:atf) (vi:Int) (vj:Int):Option ((List ((List (Int×List Int))))):=(apn zU ([rE]:List ((List (Int×List Int))))).bind λl3=>aX.pj3 F ar vh l3 zV vi vj
theorem aX.j4_P  {C61_:atL} {ar:atS} (hC61:aX.S61 H0 Ri R0  C61_ ar) {vh vi vj adG adH adI RW RX RY adJ adK adL zU adM adN adO rE zV} (apl:RW=zU.length) (apm:RX=rE.length) (apo:RY=zV.length) (h0:Out H0 Ri H (Rs.own ⟨adG,RW,adJ⟩ (eSl (ac eI (eSl eI))).z adM::Rs.own ⟨adH,RX,adK⟩ (ac eI (eSl eI)).z adN::Rs.own ⟨adI,RY,adL⟩ (eSl eI).z adO::R0) λR=>CR (eSl (ac eI (eSl eI))) H R adM zU/\CR (ac eI (eSl eI)) H R adN rE/\CR (eSl eI) H R adO zV) {r:(List ((List (Int×List Int))))} (hp:aX.pj4 F ar vh zU rE zV vi vj=some r):Rt (aX.j4 F (bg.tw F) (bO.tw F) (aU.tw F) C61_ vh ⟨adG,RW,adJ⟩ ⟨adH,RX,adK⟩ ⟨adI,RY,adL⟩ vi vj H) (aX.Q H0 Ri R0  r):=by
 obtain ⟨w0,s0,apq,apr,aps⟩:=h0
 subst apl
 subst apm
 subst apo
 unfold aX.pj4 at hp
 unfold aX.j4
 obtain ⟨w1,s1,f1⟩:=w0.frz (i:=1) (ac eI (eSl eI)) rfl apr
 refine cK (eSl (ac eI (eSl eI))) w1 (n:=1) (l:=([rE]:List ((List (Int×List Int))))) rfl (CR.cons1 ⟨_,rfl,f1⟩ CR.empty) rfl λH2 w2 s2 c2=>?_
 refine ai (w2.rowo (i:=0) rfl) ?_
 obtain ⟨l3,e3,hp⟩:=ag hp
 refine fz (eSl (ac eI (eSl eI))) w2 (i:=1) rfl rfl (apq.step (s1.trans s2)) c2 (show 1=List.length ([rE]:List ((List (Int×List Int)))) from rfl) rfl e3 λa4 d4 H4 w4 s4 c4 x4=>?_
 obtain ⟨w5,s5⟩:=w4.pp [1,2] 3
 exact aX.j3_P (@hC61) rfl rfl ⟨w5,(s0.trans (s1.trans (s2.trans (s4.trans s5)))),(c4.step s5),(aps.step (s1.trans (s2.trans (s4.trans s5))))⟩ hp
def aX.pl15725 (F:Nat) (ar:atS):Nat->Int->List ((List (Int×List Int)))->List (List Int)->Int->Int->List Int->List (Int×List Int)->Int->Int->Option ((List ((List (Int×List Int)))))
 | 0,_,_,_,_,_,_,_,_,_=>none
 | k+1,kK,rA,rB,kL,kM,rC,rD,kN,jv=>(bif (decide (jv<kN)) then ((aU.p F rC (wrap .i64 (jv+1))).bind λr1=>(apn rD ([(r1.1,r1.2)]:List (Int×List Int))).bind λl5=>aX.pl15725 F ar k kK rA rB kL kM rC l5 kN (wrap .i64 (jv+1))) else (aX.pj4 F ar kK rA rD rB kL kM))
theorem aX.l15725_P  {C61_:atL} {ar:atS} (hC61:aX.S61 H0 Ri R0  C61_ ar):∀ k,aX.S15725 H0 Ri R0  (aX.l15725 F (bg.tw F) (bO.tw F) (aU.tw F) C61_ k) (aX.pl15725 F ar k):=by
 intro k
 induction k with
 | zero=>unfold aX.S15725;intros;rename_i hp;cases hp
 | succ k ih=>
  intro kK kL kM kN jv RH RJ RK RL Gl Gm Gn Gp RM RN RO RP rA RQ RR RT rB rC rD H apt apu apv apw h0 r hp
  obtain ⟨w0,s0,adP,adQ,adR,adS⟩:=h0
  subst apt
  subst apu
  subst apv
  subst apw
  unfold aX.pl15725 at hp
  unfold aX.l15725
  refine ay hp (λhp=>?_) λhp=>?_
  ·obtain ⟨r1,e1,hp⟩:=ag hp
   refine aE (aU.P rfl ⟨w0,adR⟩ e1) ?_
   rintro _ H2 ⟨o1a_2,o1n_2,o1c_2,o1k_2,rfl,rfl,w2,s2,f2_0⟩
   refine br (br (br (br (br ?_))))
   obtain ⟨w3,s3,f3⟩:=w2.frz (i:=0) eI rfl f2_0
   refine cK (ac eI (eSl eI)) w3 (n:=1) (l:=([(r1.1,r1.2)]:List (Int×List Int))) rfl (CR.cons (c:=[_,_]) ⟨[_],_,rfl,rfl,⟨_,rfl,f3⟩⟩ CR.empty) rfl λH4 w4 s4 c4=>?_
   refine ai (w4.rowo (i:=0) rfl) ?_
   obtain ⟨l5,e5,hp⟩:=ag hp
   refine fz (ac eI (eSl eI)) w4 (i:=3) rfl rfl (adS.step (s2.trans (s3.trans s4))) c4 (show 1=List.length ([(r1.1,r1.2)]:List (Int×List Int)) from rfl) rfl e5 λa6 d6 H6 w6 s6 c6 x6=>?_
   obtain ⟨w7,s7⟩:=w6.pp [1,2,3] 4
   exact ih rfl rfl rfl rfl ⟨w7,(s0.trans (s2.trans (s3.trans (s4.trans (s6.trans s7))))),(adP.step (s2.trans (s3.trans (s4.trans (s6.trans s7))))),(adQ.step (s2.trans (s3.trans (s4.trans (s6.trans s7))))),(adR.step (s2.trans (s3.trans (s4.trans (s6.trans s7))))),(c6.step s7)⟩ hp
  ·obtain ⟨w8,s8⟩:=w0.pp [0,2,1] 3
   exact aX.j4_P (@hC61) rfl rfl rfl ⟨w8,(s0.trans s8),(adP.step s8),(adS.step s8),(adQ.step s8)⟩ hp
def aX.pl61 (F:Nat) :Nat->Int->List ((List (Int×List Int)))->List (List Int)->Int->Int->Option ((List ((List (Int×List Int)))))
 | 0,_,_,_,_,_=>none
 | k+1,kO,iC,pb,kP,jw=>(bif (decide (jw<kP)) then ((ix pb jw).bind λn1=>aX.pl15725 F (aX.pl61 F k) F kO iC pb kP jw (gt pb n1) ([]:List (Int×List Int)) kO 0) else (some iC))
theorem aX.l61_P  :∀ k,aX.S61 H0 Ri R0  (aX.l61 F (bg.tw F) (bO.tw F) (aU.tw F)  k) (aX.pl61 F  k):=by
 intro k
 induction k with
 | zero=>unfold aX.S61;intros;rename_i hp;cases hp
 | succ k ih=>
  intro kO kP jw rj RE nr Gk rm RF iC rn RG pb H PW apx h0 r hp
  obtain ⟨w0,s0,zC,adT⟩:=h0
  subst PW
  subst apx
  unfold aX.pl61 at hp
  unfold aX.l61
  refine ay hp (λhp=>?_) λhp=>?_
  ·obtain ⟨n1,g1,hp⟩:=ag hp
   obtain ⟨p1,q1,i1,h1,j1⟩:=W.ixo (E:=(eSl eI)) w0 (i:=1) rfl rfl adT g1
   refine ai i1 ?_
   obtain ⟨⟨YM,m1_0,c1_0⟩,rfl,f1_0⟩:=h1
   obtain rfl:m1_0=_:=f1_0.n
   refine ai (iE (j1 0 _ rfl)) ?_
   obtain ⟨w2,s2⟩:=w0.nilS (ac eI (eSl eI)).z (by decide)
   obtain ⟨w3,s3⟩:=w2.pp [1,2,0] 3
   exact aX.l15725_P (@ih) F rfl rfl rfl rfl ⟨w3,(s0.trans (s2.trans s3)),(zC.step (s2.trans s3)),(adT.step (s2.trans s3)),(f1_0.step (s2.trans s3)),((CR.empty:CR (ac eI (eSl eI)) _ _ [] []).step s3)⟩ hp
  ·obtain ⟨w4,s4⟩:=w0.pp [0] 2
   exact az hp ⟨_,_,_,_,rfl,rfl,w4,(s0.trans s4),(zC.step s4)⟩
def aX.p (F:Nat) (ah:atb) (af:Int):Option ((List ((List (Int×List Int))))):=(bg.p F ah af).bind λr2=>(bO.p F ah af).bind λr4=>aX.pl61 F F r2.2 ([]:List ((List (Int×List Int)))) r4 (r4.length:Int) 0
theorem aX.P {aB ak aC ah af} (ba:ak=ah.length) (h0:Inn H R0 λR=>ROs (ac eI (ac eI (ac eI (ac eI eI)))) H R ⟨aB,ak,aC⟩ ah) {r:(List ((List (Int×List Int))))} (hp:aX.p F ah af=some r):Rt (aX.tw F ⟨aB,ak,aC⟩ af H) (aX.Q H R0 R0  r):=by
 obtain ⟨w0,aO⟩:=h0
 subst ba
 unfold aX.p at hp
 unfold aX.tw aX.twX
 have s0:=w0.rf
 refine aS w0 λH1 w1 s1=>?_
 refine lSl w1 0 ?_
 refine lI w1 0 ?_
 obtain ⟨r2,e2,hp⟩:=ag hp
 refine aE (bg.P rfl ⟨w1,(aO.step s1)⟩ e2) ?_
 rintro _ H3 ⟨o0a_3,o0n_3,o0c_3,o0k_3,rfl,rfl,w3,s3,f3_0⟩
 refine br (br (br (br (br ?_))))
 refine lSl w3 1 ?_
 refine lI w3 1 ?_
 obtain ⟨r4,e4,hp⟩:=ag hp
 refine aE (bO.P rfl ⟨w3,(aO.step (s1.trans s3))⟩ e4) ?_
 rintro _ H5 ⟨o0a_5,o0n_5,o0c_5,o0k_5,rfl,rfl,w5,s5,f5_0⟩
 refine br ?_
 obtain ⟨w6,s6⟩:=w5.nilS (eSl (ac eI (eSl eI))).z (by decide)
 obtain ⟨w7,s7⟩:=w6.pp [0,1] 4
 exact aX.l61_P F rfl rfl ⟨w7,(s0.trans (s1.trans (s3.trans (s5.trans (s6.trans s7))))),((CR.empty:CR (eSl (ac eI (eSl eI))) _ _ [] []).step s7),(f5_0.step (s6.trans s7))⟩ hp
def eo.Q (H0:Hp) (Ri R0:as3)  (r:Int) (v:AV) (H':Hp):Prop:=v=(.i r)/\Out H0 Ri H' (R0) λR=>True
def eo.p (F:Nat) (ah:atl):Option (Int):=some (ah.length:Int)
theorem eo.P {aB ak aC ah} (ba:ak=ah.length) (h0:Inn H R0 λR=>ROs (eSl (ac eI (eSl eI))) H R ⟨aB,ak,aC⟩ ah) {r:Int} (hp:eo.p F ah=some r):Rt (eo.tw F ⟨aB,ak,aC⟩ H) (eo.Q H R0 R0  r):=by
 obtain ⟨w0,aO⟩:=h0
 subst ba
 unfold eo.p at hp
 unfold eo.tw eo.twX
 have s0:=w0.rf
 exact az hp ⟨rfl,w0,s0,trivial⟩
def df.Q (H0:Hp) (Ri R0:as3)  (r:Int) (v:AV) (H':Hp):Prop:=v=(.i r)/\Out H0 Ri H' (R0) λR=>True
def df.p (F:Nat) (aa:Int):Option (Int):=(bif (decide (aa<0)) then (some (wrap .i64 (0 - aa))) else (some aa))
theorem df.P {aa}  (h0:Inn H R0 λR=>True) {r:Int} (hp:df.p F aa=some r):Rt (df.tw F aa H) (df.Q H R0 R0  r):=by
 obtain ⟨w0,_⟩:=h0
 unfold df.p at hp
 unfold df.tw df.twX
 have s0:=w0.rf
 refine ay hp (λhp=>?_) λhp=>?_
 ·exact az hp ⟨rfl,w0,s0,trivial⟩
 ·exact az hp ⟨rfl,w0,s0,trivial⟩
def bL.Q (H0:Hp) (Ri R0:as3)  (r:Int) (v:AV) (H':Hp):Prop:=v=(.i r)/\Out H0 Ri H' (R0) λR=>True
def bL.S29 (H0:Hp) (Ri R0:as3)  (C:Int->Sl->Int->Int->Hp->OA) (pC:Int->List Int->Int->Int->Option (Int)):Prop:=∀ {eA kQ jx RZ Gq R_ pc},∀ {H:Hp},Gq=pc.length->(Out H0 Ri H R0 λR=>ROs eI H R ⟨RZ,Gq,R_⟩ pc)->∀ {r:Int},pC eA pc kQ jx=some r->Rt (C eA ⟨RZ,Gq,R_⟩ kQ jx H) (bL.Q H0 Ri R0  r)
def bL.pl29 (F:Nat) :Nat->Int->List Int->Int->Int->Option (Int)
 | 0,_,_,_,_=>none
 | k+1,eA,pc,kQ,jx=>(bif (decide (jx<kQ)) then ((ix pc jx).bind λn1=>(df.p F (gt pc n1)).bind λr2=>bL.pl29 F k (wrap .i64 (eA+r2)) pc kQ (wrap .i64 (jx+1))) else (some eA))
theorem bL.l29_P  :∀ k,bL.S29 H0 Ri R0  (bL.l29 F (df.tw F)  k) (bL.pl29 F  k):=by
 intro k
 induction k with
 | zero=>unfold bL.S29;intros;rename_i hp;cases hp
 | succ k ih=>
  intro eA kQ jx RZ Gq R_ pc H apy h0 r hp
  obtain ⟨w0,s0,adU⟩:=h0
  subst apy
  unfold bL.pl29 at hp
  unfold bL.l29
  refine ay hp (λhp=>?_) λhp=>?_
  ·obtain ⟨n1,g1,hp⟩:=ag hp
   obtain ⟨p1,q1,i1,h1,j1⟩:=ROs.ixr adU rfl g1
   refine ai i1 ?_
   have h1:_=[_]:=h1
   subst h1
   refine ai (aG (j1 0 _ rfl)) ?_
   obtain ⟨r2,e2,hp⟩:=ag hp
   refine aE (df.P ⟨w0,trivial⟩ e2) ?_
   rintro _ H3 ⟨rfl,w3,s3,_⟩
   refine br ?_
   exact ih rfl ⟨w3,(s0.trans s3),(adU.step s3)⟩ hp
  ·exact az hp ⟨rfl,w0,s0,trivial⟩
def bL.p (F:Nat) (aF:as6):Option (Int):=bL.pl29 F F 0 aF (aF.length:Int) 0
theorem bL.P {aa cj bD ck aF} (du:bD=aF.length) (h0:Inn H R0 λR=>ROs eI H R ⟨cj,bD,ck⟩ aF) {r:Int} (hp:bL.p F aF=some r):Rt (bL.tw F aa ⟨cj,bD,ck⟩ H) (bL.Q H R0 R0  r):=by
 obtain ⟨w0,cq⟩:=h0
 subst du
 unfold bL.p at hp
 unfold bL.tw bL.twX
 have s0:=w0.rf
 refine aS w0 λH1 w1 s1=>?_
 refine lSl w1 0 ?_
 obtain ⟨w2,s2⟩:=w1.pp [] 1
 exact bL.l29_P F rfl ⟨w2,(s0.trans (s1.trans s2)),(cq.step (s1.trans s2))⟩ hp
def dB.Q (H0:Hp) (Ri R0:as3)  (r:atx) (v:AV) (H':Hp):Prop:=v=(.tup [(.i r.1),(.bool r.2)])/\Out H0 Ri H' (R0) λR=>True
def dB.p (F:Nat) (aa:Int) (aA:Int) (cL:Int):Option (Int×Bool):=(bif (aa != 0) then ((df.p F aA).bind λr1=>(df.p F aa).bind λr3=>(if r3=0 then none else ((bif (decide (r1>(wrap .i64 (Int.tdiv cL r3)))) then (some (0,false)) else (some ((wrap .i64 (aa * aA)),true)))))) else (some ((wrap .i64 (aa * aA)),true)))
theorem dB.P {aa aA cL}  (h0:Inn H R0 λR=>True) {r:atx} (hp:dB.p F aa aA cL=some r):Rt (dB.tw F aa aA cL H) (dB.Q H R0 R0  r):=by
 obtain ⟨w0,_⟩:=h0
 unfold dB.p at hp
 unfold dB.tw dB.twX
 have s0:=w0.rf
 refine ay hp (λhp=>?_) λhp=>?_
 ·obtain ⟨r1,e1,hp⟩:=ag hp
  refine aE (df.P ⟨w0,trivial⟩ e1) ?_
  rintro _ H2 ⟨rfl,w2,s2,_⟩
  refine br ?_
  obtain ⟨r3,e3,hp⟩:=ag hp
  refine aE (df.P ⟨w2,trivial⟩ e3) ?_
  rintro _ H4 ⟨rfl,w4,s4,_⟩
  refine br ?_
  obtain ⟨g5,hp⟩:=kb hp
  refine kc g5 ?_
  refine ay hp (λhp=>?_) λhp=>?_
  ·exact az hp ⟨rfl,w4,(s0.trans (s2.trans s4)),trivial⟩
  ·exact az hp ⟨rfl,w4,(s0.trans (s2.trans s4)),trivial⟩
 ·exact az hp ⟨rfl,w0,s0,trivial⟩
def aQ.Q (H0:Hp) (Ri R0:as3)  (r:atk) (v:AV) (H':Hp):Prop:=∃ o1a:ON,∃ o1n:Nat,∃ o1c:Cap,∃ o1k:List AV,v=(.tup [(.agg [(.i r.1),(.sl ⟨o1a,o1n,o1c⟩)]),(.i r.2.2)])/\o1n=(r.2.1).length/\Out H0 Ri H' (Rs.own ⟨o1a,o1n,o1c⟩ eI.z o1k::R0) λR=>CR eI H' R o1k (r.2.1)
def aQ.S125 (H0:Hp) (Ri R0:as3)  (C:atD) (pC:atT):Prop:=∀ {adV adW wA kV iq Sa Sb Sc Sd Gr om Gs oq Gt ou Gu Se Sf Sg Sh rF Si rG pd Sj Sk},∀ {H:Hp},Gr=rF.length->Gs=Si.length->Gt=rG.length->Gu=pd.length->(Out H0 Ri H (Rs.blk om [.i adV,.sl ⟨Sa,Gr,Se⟩]::Rs.own ⟨Sb,Gs,Sf⟩ eI.z Sj::Rs.blk oq [.i adW,.sl ⟨Sb,Gs,Sf⟩]::Rs.own ⟨Sc,Gt,Sg⟩ eI.z Sk::Rs.blk ou [.i wA,.sl ⟨Sc,Gt,Sg⟩]::R0) λR=>ROs eI H R ⟨Sa,Gr,Se⟩ rF/\CR eI H R Sj Si/\CR eI H R Sk rG/\ROs eI H R ⟨Sd,Gu,Sh⟩ pd)->∀ {r:atk},pC rF wA rG pd kV iq=some r->Rt (C om 0 oq 0 ou 0 ⟨Sd,Gu,Sh⟩ kV iq H) (aQ.Q H0 Ri R0  r)
def aQ.S8027 (H0:Hp) (Ri R0:as3)  (C:Nat->Nat->Nat->Nat->Nat->Nat->Sl->Int->Int->Int->Int->Sl->Int->Int->Hp->OA) (pC:List Int->Int->List Int->List Int->Int->Int->Int->Int->Int->Int->Option (Int×List Int×Int)):Prop:=∀ {adX adY wB kR kS jy kT kU gI Gv Sn So Sq zW oh Gw ol Gx mV Gy Gz Sr Ss St nv Su mo rH Sv Sw},∀ {H:Hp},zW=nv.length->Gw=Su.length->Gx=mo.length->Gy=rH.length->(Out H0 Ri H (Rs.blk oh [.i adX,.sl ⟨Gv,zW,Gz⟩]::Rs.own ⟨Sn,Gw,Sr⟩ eI.z Sv::Rs.blk ol [.i adY,.sl ⟨Sn,Gw,Sr⟩]::Rs.own ⟨So,Gx,Ss⟩ eI.z Sw::Rs.blk mV [.i wB,.sl ⟨So,Gx,Ss⟩]::R0) λR=>ROs eI H R ⟨Gv,zW,Gz⟩ nv/\CR eI H R Sv Su/\CR eI H R Sw mo/\ROs eI H R ⟨Sq,Gy,St⟩ rH)->∀ {r:atk},pC nv wB mo rH kR kS jy kT kU gI=some r->Rt (C oh 0 ol 0 mV 0 ⟨Sq,Gy,St⟩ kR kS jy kT ⟨Gv,zW,Gz⟩ kU gI H) (aQ.Q H0 Ri R0  r)
def aQ.pj4 (F:Nat) (bt:atT) (zX:as6) (GA:Int) (zY:as6) (zZ:as6) (vk:Int) (vl:Int):Option (Int×List Int×Int):=bt zX GA zY zZ vk (wrap .i64 (vl+1))
theorem aQ.j4_P  {C125_:atD} {bt:atT} (hC125:aQ.S125 H0 Ri R0  C125_ bt) {apz apA GA vk vl adZ ad0 ad2 ad3 Sx Cu Sy Cv Sz Cw SA ad4 ad5 ad6 ad7 zX ad8 zY zZ ad9 ad_} (apB:Sx=zX.length) (apC:Sy=ad8.length) (apD:Sz=zY.length) (apE:SA=zZ.length) (h0:Out H0 Ri H (Rs.blk Cu [.i apz,.sl ⟨adZ,Sx,ad4⟩]::Rs.own ⟨ad0,Sy,ad5⟩ eI.z ad9::Rs.blk Cv [.i apA,.sl ⟨ad0,Sy,ad5⟩]::Rs.own ⟨ad2,Sz,ad6⟩ eI.z ad_::Rs.blk Cw [.i GA,.sl ⟨ad2,Sz,ad6⟩]::R0) λR=>ROs eI H R ⟨adZ,Sx,ad4⟩ zX/\CR eI H R ad9 ad8/\CR eI H R ad_ zY/\ROs eI H R ⟨ad3,SA,ad7⟩ zZ) {r:atk} (hp:aQ.pj4 F bt zX GA zY zZ vk vl=some r):Rt (aQ.j4 F (cH.tw F) (bL.tw F) (dB.tw F) (cI.tw F) C125_ Cu 0 Cv 0 Cw 0 ⟨ad3,SA,ad7⟩ vk vl H) (aQ.Q H0 Ri R0  r):=by
 obtain ⟨w0,s0,apF,apG,apH,apI⟩:=h0
 subst apB
 subst apC
 subst apD
 subst apE
 unfold aQ.pj4 at hp
 unfold aQ.j4
 exact hC125 rfl rfl rfl rfl ⟨w0,s0,apF,apG,apH,apI⟩ hp
def aQ.pj5 (F:Nat) (bt:atT) (z_:as6) (GB:Int) (Aa:as6) (Ab:as6) (vm:Int) (vn:Int):Option (Int×List Int×Int):=aQ.pj4 F bt z_ GB Aa Ab vm vn
theorem aQ.j5_P  {C125_:atD} {bt:atT} (hC125:aQ.S125 H0 Ri R0  C125_ bt) {apJ apK GB vm vn aea aeb aec aed SB Cx SC Cy SD Cz SF aee aef aeg aeh z_ aei Aa Ab aej aek} (apL:SB=z_.length) (apM:SC=aei.length) (apN:SD=Aa.length) (apO:SF=Ab.length) (h0:Out H0 Ri H (Rs.blk Cx [.i apJ,.sl ⟨aea,SB,aee⟩]::Rs.own ⟨aeb,SC,aef⟩ eI.z aej::Rs.blk Cy [.i apK,.sl ⟨aeb,SC,aef⟩]::Rs.own ⟨aec,SD,aeg⟩ eI.z aek::Rs.blk Cz [.i GB,.sl ⟨aec,SD,aeg⟩]::R0) λR=>ROs eI H R ⟨aea,SB,aee⟩ z_/\CR eI H R aej aei/\CR eI H R aek Aa/\ROs eI H R ⟨aed,SF,aeh⟩ Ab) {r:atk} (hp:aQ.pj5 F bt z_ GB Aa Ab vm vn=some r):Rt (aQ.j5 F (cH.tw F) (bL.tw F) (dB.tw F) (cI.tw F) C125_ Cx 0 Cy 0 Cz 0 ⟨aed,SF,aeh⟩ vm vn H) (aQ.Q H0 Ri R0  r):=by
 obtain ⟨w0,s0,apP,apQ,apR,apS⟩:=h0
 subst apL
 subst apM
 subst apN
 subst apO
 unfold aQ.pj5 at hp
 unfold aQ.j5
 exact aQ.j4_P (@hC125) rfl rfl rfl rfl ⟨w0,s0,apP,apQ,apR,apS⟩ hp
def aQ.pl8027 (F:Nat) (bt:atT):Nat->List Int->Int->List Int->List Int->Int->Int->Int->Int->Int->Int->Option (Int×List Int×Int)
 | 0,_,_,_,_,_,_,_,_,_,_=>none
 | k+1,nv,wB,mo,rH,kR,kS,jy,kT,kU,gI=>(bif (decide (gI<kU)) then ((ix nv gI).bind λn1=>(ix mo (wrap .i64 (jy+gI))).bind λn2=>(ix mo (wrap .i64 (jy+gI))).bind λn3=>(some (mo.set n3 (wrap .i64 ((gt mo n2)+(wrap .i64 (kT * (gt nv n1))))))).bind λl4=>aQ.pl8027 F bt k nv wB l4 rH kR kS jy kT kU (wrap .i64 (gI+1))) else (aQ.pj5 F bt nv wB mo rH kR kS))
theorem aQ.l8027_P  {C125_:atD} {bt:atT} (hC125:aQ.S125 H0 Ri R0  C125_ bt):∀ k,aQ.S8027 H0 Ri R0  (aQ.l8027 F (cH.tw F) (bL.tw F) (dB.tw F) (cI.tw F) C125_ k) (aQ.pl8027 F bt k):=by
 intro k
 induction k with
 | zero=>unfold aQ.S8027;intros;rename_i hp;cases hp
 | succ k ih=>
  intro adX adY wB kR kS jy kT kU gI Gv Sn So Sq zW oh Gw ol Gx mV Gy Gz Sr Ss St nv Su mo rH Sv Sw H apT apU apV apW h0 r hp
  obtain ⟨w0,s0,SG,ael,GC,aem⟩:=h0
  subst apT
  subst apU
  subst apV
  subst apW
  unfold aQ.pl8027 at hp
  unfold aQ.l8027
  refine ay hp (λhp=>?_) λhp=>?_
  ·obtain ⟨n1,g1,hp⟩:=ag hp
   obtain ⟨p1,q1,i1,h1,j1⟩:=ROs.ixr SG rfl g1
   refine ai i1 ?_
   have h1:_=[_]:=h1
   subst h1
   refine ai (aG (j1 0 _ rfl)) ?_
   refine lSl w0 4 ?_
   obtain ⟨n2,g2,hp⟩:=ag hp
   obtain ⟨p2,q2,i2,h2,j2⟩:=W.ixo (E:=eI) w0 (i:=3) rfl rfl GC g2
   refine ai i2 ?_
   have h2:_=[_]:=h2
   subst h2
   refine ai (aG (j2 0 _ rfl)) ?_
   obtain ⟨n3,g3,hp⟩:=ag hp
   obtain ⟨p3,q3,i3,h3,j3⟩:=W.ixo (E:=eI) w0 (i:=3) rfl rfl GC g3
   refine ai i3 ?_
   obtain ⟨l4,e4,hp⟩:=ag hp
   refine dC eI w0 (i:=3) (j:=0) (p:=p3) rfl rfl GC g3 i3 e4 rfl rfl (λ_ h=>by have h:_=[_]:=h;subst h;exact rfl) λH5 k5 w5 s5 c5=>?_
   exact ih rfl rfl ((cz e4).symm) rfl ⟨w5,(s0.trans s5),(SG.step s5),(ael.step s5),c5,(aem.step s5)⟩ hp
  ·exact aQ.j5_P (@hC125) rfl rfl rfl rfl ⟨w0,s0,SG,ael,GC,aem⟩ hp
def aQ.pj3 (F:Nat)  (GD:Int) (Ac:as6):Option (Int×List Int×Int):=(cI.p F GD Ac).bind λr3=>some (r3.1,r3.2.1,r3.2.2)
theorem aQ.j3_P   {Mv GD yN aen qM jO SH xp yO aeo yP Ac yQ aep} (Mz:qM=yP.length) (apX:SH=Ac.length) (h0:Out H0 Ri H (Rs.own ⟨yN,qM,yO⟩ eI.z yQ::Rs.blk jO [.i Mv,.sl ⟨yN,qM,yO⟩]::Rs.own ⟨aen,SH,aeo⟩ eI.z aep::Rs.blk xp [.i GD,.sl ⟨aen,SH,aeo⟩]::R0) λR=>CR eI H R yQ yP/\CR eI H R aep Ac) {r:atk} (hp:aQ.pj3 F  GD Ac=some r):Rt (aQ.j3 F (cH.tw F) (bL.tw F) (dB.tw F) (cI.tw F)  jO 0 xp 0 H) (aQ.Q H0 Ri R0  r):=by
 obtain ⟨w0,s0,Zh,apY⟩:=h0
 subst Mz
 subst apX
 unfold aQ.pj3 at hp
 unfold aQ.j3
 refine lI w0 3 ?_
 refine lSl w0 3 ?_
 obtain ⟨w1,s1⟩:=w0.pp [2,0,1,3] 4
 have f2:=W.borrow1 eI w1 (apY.step s1)
 obtain ⟨w2,s2⟩:=w1.right1
 obtain ⟨r3,e3,hp⟩:=ag hp
 refine aE (cI.P rfl ⟨w2,f2⟩ e3) ?_
 rintro _ H4 ⟨o1a_4,o1n_4,o1c_4,o1k_4,rfl,rfl,w4,s4,f4_0⟩
 obtain ⟨w5,s5⟩:=W.frame1 w1 w4 s4
 refine br (br (br (br (br (br (br (br (br ?_))))))))
 refine aq w5 3 λH6 w6 s6=>?_
 refine aq w6 3 λH7 w7 s7=>?_
 refine lI w7 3 ?_
 refine lSl w7 3 ?_
 obtain ⟨w8,s8⟩:=w7.pp [1] 5
 exact az hp ⟨_,_,_,_,rfl,rfl,w8,(s0.trans (s1.trans (s5.trans (s6.trans (s7.trans s8))))),((CR.flat (fA .i64) f4_0).step (s6.trans (s7.trans s8)))⟩
def aQ.pl125 (F:Nat) :Nat->List Int->Int->List Int->List Int->Int->Int->Option (Int×List Int×Int)
 | 0,_,_,_,_,_,_=>none
 | k+1,rF,wA,rG,pd,kV,iq=>(bif (decide (iq<kV)) then ((ix pd iq).bind λn1=>aQ.pl8027 F (aQ.pl125 F k) F rF wA rG pd kV iq iq (gt pd n1) (rF.length:Int) 0) else (aQ.pj3 F wA rG))
theorem aQ.l125_P  :∀ k,aQ.S125 H0 Ri R0  (aQ.l125 F (cH.tw F) (bL.tw F) (dB.tw F) (cI.tw F)  k) (aQ.pl125 F  k):=by
 intro k
 induction k with
 | zero=>unfold aQ.S125;intros;rename_i hp;cases hp
 | succ k ih=>
  intro adV adW wA kV iq Sa Sb Sc Sd Gr om Gs oq Gt ou Gu Se Sf Sg Sh rF Si rG pd Sj Sk H apZ ap0 ap1 ap2 h0 r hp
  obtain ⟨w0,s0,ap3,aeq,aer,aes⟩:=h0
  subst apZ
  subst ap0
  subst ap1
  subst ap2
  unfold aQ.pl125 at hp
  unfold aQ.l125
  refine ay hp (λhp=>?_) λhp=>?_
  ·obtain ⟨n1,g1,hp⟩:=ag hp
   obtain ⟨p1,q1,i1,h1,j1⟩:=ROs.ixr aes rfl g1
   refine ai i1 ?_
   have h1:_=[_]:=h1
   subst h1
   refine ai (aG (j1 0 _ rfl)) ?_
   refine lSl w0 0 ?_
   exact aQ.l8027_P (@ih) F rfl rfl rfl rfl ⟨w0,s0,ap3,aeq,aer,aes⟩ hp
  ·obtain ⟨w2,s2⟩:=w0.pp [1,2,3,4] 5
   exact aQ.j3_P rfl rfl ⟨w2,(s0.trans s2),(aeq.step s2),(aer.step s2)⟩ hp
def aQ.p (F:Nat) (aa:Int) (aF:as6) (au:Int) (bz:as6):Option (Int×List Int×Int):=(cH.p F ([(aa,aF),(au,bz)]:List (Int×List Int))).bind λr6=>(bif (!r6) then (some (0,([]:List Int),1)) else ((bL.p F aF).bind λr13=>(bL.p F bz).bind λr16=>(dB.p F r13 r16 1000000000000).bind λr18=>(bif (!r18.2) then (some (0,([]:List Int),3)) else ((mkn (wrap .i64 ((aF.length:Int)+(bz.length:Int))) (0:Int)).bind λl24=>aQ.pl125 F F bz (wrap .i64 (aa+au)) l24 aF (aF.length:Int) 0))))
theorem aQ.P {aa au cj ev bD dg ck ew aF bz} (du:bD=aF.length) (gM:dg=bz.length) (h0:Inn H R0 λR=>ROs eI H R ⟨cj,bD,ck⟩ aF/\ROs eI H R ⟨ev,dg,ew⟩ bz) {r:atk} (hp:aQ.p F aa aF au bz=some r):Rt (aQ.tw F aa ⟨cj,bD,ck⟩ au ⟨ev,dg,ew⟩ H) (aQ.Q H R0 R0  r):=by
 obtain ⟨w0,cq,fc⟩:=h0
 subst du
 subst gM
 unfold aQ.p at hp
 unfold aQ.tw aQ.twX
 have s0:=w0.rf
 refine aS w0 λH1 w1 s1=>?_
 refine aS w1 λH2 w2 s2=>?_
 refine aS w2 λH3 w3 s3=>?_
 refine lI w3 2 ?_
 refine lSl w3 2 ?_
 refine lI w3 1 ?_
 refine lSl w3 1 ?_
 refine cK (ac eI (eSl eI)) w3 (n:=2) (l:=([(aa,aF),(au,bz)]:List (Int×List Int))) rfl (CR.cons (c:=[_,_]) ⟨[_],_,rfl,rfl,⟨_,rfl,(cq.step (s1.trans (s2.trans s3)))⟩⟩ (CR.cons (c:=[_,_]) ⟨[_],_,rfl,rfl,⟨_,rfl,(fc.step (s1.trans (s2.trans s3)))⟩⟩ CR.empty)) rfl λH4 w4 s4 c4=>?_
 have f5:=W.borrow1 (ac eI (eSl eI)) w4 c4
 obtain ⟨w5,s5⟩:=w4.right1
 obtain ⟨r6,e6,hp⟩:=ag hp
 refine aE (cH.P (show 2=List.length ([(aa,aF),(au,bz)]:List (Int×List Int)) from rfl) ⟨w5,f5⟩ e6) ?_
 rintro _ H7 ⟨rfl,w7,s7,_⟩
 obtain ⟨w8,s8⟩:=W.frame1 w4 w7 s7
 refine br ?_
 refine ay hp (λhp=>?_) λhp=>?_
 ·refine aq w8 1 λH9 w9 s9=>?_
  refine aq w9 1 λH10 w10 s10=>?_
  refine lI w10 1 ?_
  refine lSl w10 1 ?_
  obtain ⟨w11,s11⟩:=w10.nilS eI.z (by decide)
  obtain ⟨w12,s12⟩:=w11.pp [0] 5
  exact az hp ⟨_,_,_,_,rfl,rfl,w12,(s0.trans (s1.trans (s2.trans (s3.trans (s4.trans (s8.trans (s9.trans (s10.trans (s11.trans s12))))))))),((CR.empty:CR eI _ _ [] []).step s12)⟩
 ·refine lI w8 3 ?_
  refine lSl w8 3 ?_
  obtain ⟨r13,e13,hp⟩:=ag hp
  refine aE (bL.P rfl ⟨w8,(cq.step (s1.trans (s2.trans (s3.trans (s4.trans s8)))))⟩ e13) ?_
  rintro _ H14 ⟨rfl,w14,s14,_⟩
  refine br ?_
  refine eK (W.cons_of (Rn:=[]) w8 w14 s14) ?_
  refine lI w14 2 ?_
  refine lSl w14 2 ?_
  obtain ⟨r16,e16,hp⟩:=ag hp
  refine aE (bL.P rfl ⟨w14,(fc.step (s1.trans (s2.trans (s3.trans (s4.trans (s8.trans s14))))))⟩ e16) ?_
  rintro _ H17 ⟨rfl,w17,s17,_⟩
  refine br ?_
  obtain ⟨r18,e18,hp⟩:=ag hp
  refine aE (dB.P ⟨w17,trivial⟩ e18) ?_
  rintro _ H19 ⟨rfl,w19,s19,_⟩
  refine br (br (br (br (br ?_))))
  refine ay hp (λhp=>?_) λhp=>?_
  ·refine aq w19 1 λH20 w20 s20=>?_
   refine aq w20 1 λH21 w21 s21=>?_
   refine lI w21 1 ?_
   refine lSl w21 1 ?_
   obtain ⟨w22,s22⟩:=w21.nilS eI.z (by decide)
   obtain ⟨w23,s23⟩:=w22.pp [0] 5
   exact az hp ⟨_,_,_,_,rfl,rfl,w23,(s0.trans (s1.trans (s2.trans (s3.trans (s4.trans (s8.trans (s14.trans (s17.trans (s19.trans (s20.trans (s21.trans (s22.trans s23)))))))))))),((CR.empty:CR eI _ _ [] []).step s23)⟩
  ·refine lI w19 3 ?_
   refine lI w19 2 ?_
   refine lSl w19 3 ?_
   refine lSl w19 2 ?_
   obtain ⟨l24,e24,hp⟩:=ag hp
   refine ka eI (0:Int) w19 rfl rfl rfl e24 λH25 k25 w25 s25 c25=>?_
   refine aS w25 λH26 w26 s26=>?_
   refine aq w26 0 λH27 w27 s27=>?_
   refine aq w27 0 λH28 w28 s28=>?_
   refine lSl w28 5 ?_
   obtain ⟨w29,s29⟩:=w28.nilS eI.z (by decide)
   obtain ⟨w30,s30⟩:=w29.pp [5,0,4,2,1] 7
   exact aQ.l125_P F rfl rfl rfl rfl ⟨w30,(s0.trans (s1.trans (s2.trans (s3.trans (s4.trans (s8.trans (s14.trans (s17.trans (s19.trans (s25.trans (s26.trans (s27.trans (s28.trans (s29.trans s30)))))))))))))),(fc.step (s1.trans (s2.trans (s3.trans (s4.trans (s8.trans (s14.trans (s17.trans (s19.trans (s25.trans (s26.trans (s27.trans (s28.trans (s29.trans s30)))))))))))))),((CR.empty:CR eI _ _ [] []).step s30),(c25.step (s26.trans (s27.trans (s28.trans (s29.trans s30))))),(cq.step (s1.trans (s2.trans (s3.trans (s4.trans (s8.trans (s14.trans (s17.trans (s19.trans (s25.trans (s26.trans (s27.trans (s28.trans (s29.trans s30))))))))))))))⟩ hp
def cY.Q (H0:Hp) (Ri R0:as3)  (r:as9) (v:AV) (H':Hp):Prop:=∃ o1a:ON,∃ o1n:Nat,∃ o1c:Cap,∃ o1k:List AV,v=(.agg [(.i r.1),(.sl ⟨o1a,o1n,o1c⟩)])/\o1n=(r.2).length/\Out H0 Ri H' (Rs.own ⟨o1a,o1n,o1c⟩ eI.z o1k::R0) λR=>CR eI H' R o1k (r.2)
def cY.p (F:Nat) (aa:Int) (aF:as6) (au:Int) (bz:as6):Option (Int×List Int):=(aQ.p F aa aF au bz).bind λr4=>some (r4.1,r4.2.1)
theorem cY.P {aa au cj ev bD dg ck ew aF bz} (du:bD=aF.length) (gM:dg=bz.length) (h0:Inn H R0 λR=>ROs eI H R ⟨cj,bD,ck⟩ aF/\ROs eI H R ⟨ev,dg,ew⟩ bz) {r:as9} (hp:cY.p F aa aF au bz=some r):Rt (cY.tw F aa ⟨cj,bD,ck⟩ au ⟨ev,dg,ew⟩ H) (cY.Q H R0 R0  r):=by
 obtain ⟨w0,cq,fc⟩:=h0
 subst du
 subst gM
 unfold cY.p at hp
 unfold cY.tw cY.twX
 have s0:=w0.rf
 refine aS w0 λH1 w1 s1=>?_
 refine aS w1 λH2 w2 s2=>?_
 refine aS w2 λH3 w3 s3=>?_
 refine lI w3 2 ?_
 refine lSl w3 2 ?_
 refine lI w3 1 ?_
 refine lSl w3 1 ?_
 obtain ⟨r4,e4,hp⟩:=ag hp
 refine aE (aQ.P rfl rfl ⟨w3,(cq.step (s1.trans (s2.trans s3))),(fc.step (s1.trans (s2.trans s3)))⟩ e4) ?_
 rintro _ H5 ⟨o1a_5,o1n_5,o1c_5,o1k_5,rfl,rfl,w5,s5,f5_0⟩
 refine br (br (br (br (br (br (br (br (br ?_))))))))
 refine aS w5 λH6 w6 s6=>?_
 refine aq w6 0 λH7 w7 s7=>?_
 refine aq w7 0 λH8 w8 s8=>?_
 refine lI w8 0 ?_
 refine lSl w8 0 ?_
 refine aq w8 2 λH9 w9 s9=>?_
 refine aq w9 2 λH10 w10 s10=>?_
 refine lI w10 2 ?_
 refine lSl w10 2 ?_
 obtain ⟨w11,s11⟩:=w10.pp [1] 5
 exact az hp ⟨_,_,_,_,rfl,rfl,w11,(s0.trans (s1.trans (s2.trans (s3.trans (s5.trans (s6.trans (s7.trans (s8.trans (s9.trans (s10.trans s11)))))))))),(f5_0.step (s6.trans (s7.trans (s8.trans (s9.trans (s10.trans s11))))))⟩
def dO.Q (H0:Hp) (Ri R0:as3)  (r:Int) (v:AV) (H':Hp):Prop:=v=(.i r)/\Out H0 Ri H' (R0) λR=>True
def dO.p (F:Nat) (aa:Int):Option (Int):=some (wrap .i64 (1 - (wrap .i64 (2 * (Int.tmod aa 2)))))
theorem dO.P {aa}  (h0:Inn H R0 λR=>True) {r:Int} (hp:dO.p F aa=some r):Rt (dO.tw F aa H) (dO.Q H R0 R0  r):=by
 obtain ⟨w0,_⟩:=h0
 unfold dO.p at hp
 unfold dO.tw dO.twX
 have s0:=w0.rf
 exact az hp ⟨rfl,w0,s0,trivial⟩
def aw.Q (H0:Hp) (Ri R0:as3)  (r:as9) (v:AV) (H':Hp):Prop:=∃ o1a:ON,∃ o1n:Nat,∃ o1c:Cap,v=(.agg [(.i r.1),(.sl ⟨o1a,o1n,o1c⟩)])/\o1n=(r.2).length/\Out H0 Ri H' (R0) λR=>ROs eI H' R ⟨o1a,o1n,o1c⟩ (r.2)
def aw.S125 (H0:Hp) (Ri R0:as3)  (C:atw) (pC:ati):Prop:=∀ {SI SJ SK GE GF gd GG SL SM SN wC aet fk gQ SO SP SQ rI},∀ {H:Hp},GE=wC.length->GF=SO.length->GG=rI.length->(Out H0 Ri H (Rs.own ⟨SJ,GF,SM⟩ eI.z SP::Rs.blk gd [.i aet,.sl ⟨SJ,GF,SM⟩]::Rs.own ⟨SK,GG,SN⟩ (ac eI (eSl eI)).z SQ::R0) λR=>ROs (eSl (ac eI (eSl eI))) H R ⟨SI,GE,SL⟩ wC/\CR eI H R SP SO/\CR (ac eI (eSl eI)) H R SQ rI)->∀ {r:as9},pC wC fk rI gQ=some r->Rt (C ⟨SI,GE,SL⟩ gd 0 fk ⟨SK,GG,SN⟩ gQ H) (aw.Q H0 Ri R0  r)
def aw.S8021 (H0:Hp) (Ri R0:as3)  (C:at5) (pC:aui):Prop:=∀ {SS SU SV SW GH GI mW GJ GK SX SY SZ S_ pe aeu jA iu jB fl Ta pf Tc Td Te pg},∀ {H:Hp},GH=pe.length->GI=Ta.length->GJ=pg.length->GK=pf.length->(Out H0 Ri H (Rs.own ⟨SU,GI,SY⟩ eI.z Tc::Rs.blk mW [.i aeu,.sl ⟨SU,GI,SY⟩]::Rs.own ⟨SV,GJ,SZ⟩ (ac eI (eSl eI)).z Td::Rs.own ⟨SW,GK,S_⟩ eI.z Te::R0) λR=>ROs (eSl (ac eI (eSl eI))) H R ⟨SS,GH,SX⟩ pe/\CR eI H R Tc Ta/\CR (ac eI (eSl eI)) H R Td pg/\CR eI H R Te pf)->∀ {r:as9},pC pe jA pg iu pf jB fl=some r->Rt (C ⟨SS,GH,SX⟩ mW 0 jA ⟨SV,GJ,SZ⟩ iu ⟨SW,GK,S_⟩ jB fl H) (aw.Q H0 Ri R0  r)
def aw.pj11 (F:Nat) (GL:aui) (Ad:atl) (vw:Int) (Ae:atm) (vx:Int) (Af:as6) (vy:Int) (vz:Int):Option (Int×List Int):=GL Ad vw Ae vx Af vy (wrap .i64 (vz+1))
theorem aw.j11_P  {C8021_:at5} {GL:aui} (hC8021:aw.S8021 H0 Ri R0  C8021_ GL) {aev aew aex aey Tf Tg CO Th Ti aez aeA aeB aeC Ad ap4 vw vx vy vz aeD Af aeE aeF aeG Ae} (ap5:Tf=Ad.length) (ap6:Tg=aeD.length) (ap7:Th=Ae.length) (ap8:Ti=Af.length) (h0:Out H0 Ri H (Rs.own ⟨aew,Tg,aeA⟩ eI.z aeE::Rs.blk CO [.i ap4,.sl ⟨aew,Tg,aeA⟩]::Rs.own ⟨aex,Th,aeB⟩ (ac eI (eSl eI)).z aeF::Rs.own ⟨aey,Ti,aeC⟩ eI.z aeG::R0) λR=>ROs (eSl (ac eI (eSl eI))) H R ⟨aev,Tf,aez⟩ Ad/\CR eI H R aeE aeD/\CR (ac eI (eSl eI)) H R aeF Ae/\CR eI H R aeG Af) {r:as9} (hp:aw.pj11 F GL Ad vw Ae vx Af vy vz=some r):Rt (aw.j11 F (cl.tw F) (cY.tw F) (dO.tw F) (cp.tw F) C8021_ ⟨aev,Tf,aez⟩ CO 0 vw ⟨aex,Th,aeB⟩ vx ⟨aey,Ti,aeC⟩ vy vz H) (aw.Q H0 Ri R0  r):=by
 obtain ⟨w0,s0,ap9,ap_,aqa,aqb⟩:=h0
 subst ap5
 subst ap6
 subst ap7
 subst ap8
 unfold aw.pj11 at hp
 unfold aw.j11
 exact hC8021 rfl rfl rfl rfl ⟨w0,s0,ap9,ap_,aqa,aqb⟩ hp
def aw.S16047 (H0:Hp) (Ri R0:as3)  (C:Sl->Nat->Nat->Int->Sl->Int->Int->Sl->Int->Int->Hp->OA) (pC:List ((List (Int×List Int)))->Int->List (Int×List Int)->Int->Int->List Int->Int->Int->Option (Int×List Int)):Prop:=∀ {Tj Tk Tl Tn GM GN ox GO GP To Tp Tq Ts lH aeH kW gJ jz kX ir Tt mp Tu Tv Tw iD},∀ {H:Hp},GM=lH.length->GN=Tt.length->GO=iD.length->GP=mp.length->(Out H0 Ri H (Rs.own ⟨Tk,GN,Tp⟩ eI.z Tu::Rs.blk ox [.i aeH,.sl ⟨Tk,GN,Tp⟩]::Rs.own ⟨Tl,GO,Tq⟩ (ac eI (eSl eI)).z Tv::Rs.own ⟨Tn,GP,Ts⟩ eI.z Tw::R0) λR=>ROs (eSl (ac eI (eSl eI))) H R ⟨Tj,GM,To⟩ lH/\CR eI H R Tu Tt/\CR (ac eI (eSl eI)) H R Tv iD/\CR eI H R Tw mp)->∀ {r:as9},pC lH kW iD gJ jz mp kX ir=some r->Rt (C ⟨Tj,GM,To⟩ ox 0 kW ⟨Tl,GO,Tq⟩ gJ jz ⟨Tn,GP,Ts⟩ kX ir H) (aw.Q H0 Ri R0  r)
def aw.pj8 (F:Nat) (bt:ati) (Ag:atl) (vp:Int) (Ah:atm) (vq:Int):Option (Int×List Int):=bt Ag vp Ah (wrap .i64 (vq+1))
theorem aw.j8_P  {C125_:atw} {bt:ati} (hC125:aw.S125 H0 Ri R0  C125_ bt) {aeI aeJ aeK Tx Ty CJ Tz aeL aeM aeN Ag aqc vp vq aeO aeP aeQ Ah} (aqd:Tx=Ag.length) (aqe:Ty=aeO.length) (aqf:Tz=Ah.length) (h0:Out H0 Ri H (Rs.own ⟨aeJ,Ty,aeM⟩ eI.z aeP::Rs.blk CJ [.i aqc,.sl ⟨aeJ,Ty,aeM⟩]::Rs.own ⟨aeK,Tz,aeN⟩ (ac eI (eSl eI)).z aeQ::R0) λR=>ROs (eSl (ac eI (eSl eI))) H R ⟨aeI,Tx,aeL⟩ Ag/\CR eI H R aeP aeO/\CR (ac eI (eSl eI)) H R aeQ Ah) {r:as9} (hp:aw.pj8 F bt Ag vp Ah vq=some r):Rt (aw.j8 F (cl.tw F) (cY.tw F) (dO.tw F) (cp.tw F) C125_ ⟨aeI,Tx,aeL⟩ CJ 0 vp ⟨aeK,Tz,aeN⟩ vq H) (aw.Q H0 Ri R0  r):=by
 obtain ⟨w0,s0,aqg,aqh,aqi⟩:=h0
 subst aqd
 subst aqe
 subst aqf
 unfold aw.pj8 at hp
 unfold aw.j8
 exact hC125 rfl rfl rfl ⟨w0,s0,aqg,aqh,aqi⟩ hp
def aw.pj9 (F:Nat) (bt:ati) (Ai:atl) (vr:Int) (Aj:atm) (vt:Int):Option (Int×List Int):=aw.pj8 F bt Ai vr Aj vt
theorem aw.j9_P  {C125_:atw} {bt:ati} (hC125:aw.S125 H0 Ri R0  C125_ bt) {aeR aeS aeT TA TC CK TE aeU aeV aeW Ai aqj vr vt aeX aeY aeZ Aj} (aqk:TA=Ai.length) (aql:TC=aeX.length) (aqm:TE=Aj.length) (h0:Out H0 Ri H (Rs.own ⟨aeS,TC,aeV⟩ eI.z aeY::Rs.blk CK [.i aqj,.sl ⟨aeS,TC,aeV⟩]::Rs.own ⟨aeT,TE,aeW⟩ (ac eI (eSl eI)).z aeZ::R0) λR=>ROs (eSl (ac eI (eSl eI))) H R ⟨aeR,TA,aeU⟩ Ai/\CR eI H R aeY aeX/\CR (ac eI (eSl eI)) H R aeZ Aj) {r:as9} (hp:aw.pj9 F bt Ai vr Aj vt=some r):Rt (aw.j9 F (cl.tw F) (cY.tw F) (dO.tw F) (cp.tw F) C125_ ⟨aeR,TA,aeU⟩ CK 0 vr ⟨aeT,TE,aeW⟩ vt H) (aw.Q H0 Ri R0  r):=by
 obtain ⟨w0,s0,aqn,aqo,aqp⟩:=h0
 subst aqk
 subst aql
 subst aqm
 unfold aw.pj9 at hp
 unfold aw.j9
 exact aw.j8_P (@hC125) rfl rfl rfl ⟨w0,s0,aqn,aqo,aqp⟩ hp
def aw.pl16047 (F:Nat) (bt:ati):Nat->List ((List (Int×List Int)))->Int->List (Int×List Int)->Int->Int->List Int->Int->Int->Option (Int×List Int)
 | 0,_,_,_,_,_,_,_,_=>none
 | k+1,lH,kW,iD,gJ,jz,mp,kX,ir=>(bif (decide (ir<kX)) then ((ix mp ir).bind λn1=>(ix lH jz).bind λn2=>(ix (gt lH n2) (gt mp n1)).bind λn3=>(if (gt mp n1)<0 then none else ((ix iD (Go.bits .andNot .i64 gJ (wrap .i64 (1 * 2 ^ (min ((gt mp n1):Int).toNat (IntKind.i64).bits))))).bind λn5=>(cY.p F ((gt (gt lH n2) n3).1) ((gt (gt lH n2) n3).2) ((gt iD n5).1) ((gt iD n5).2)).bind λr6=>(ix iD gJ).bind λn12=>(dO.p F (wrap .i64 (jz - ir))).bind λr13=>(cl.p F r13 0).bind λr16=>(cY.p F r6.1 r6.2 r16.1 r16.2).bind λr22=>(cp.p F ((gt iD n12).1) ((gt iD n12).2) r22.1 r22.2).bind λr29=>(ix iD gJ).bind λn32=>(some (iD.set n32 (r29.1,(gt iD n32).2))).bind λl33=>(some (l33.set n32 ((gt l33 n32).1,r29.2))).bind λl36=>aw.pl16047 F bt k lH kW l36 gJ jz mp kX (wrap .i64 (ir+1))))) else (aw.pj9 F bt lH kW iD gJ))
theorem aw.l16047_P  {C125_:atw} {bt:ati} (hC125:aw.S125 H0 Ri R0  C125_ bt):∀ k,aw.S16047 H0 Ri R0  (aw.l16047 F (cl.tw F) (cY.tw F) (dO.tw F) (cp.tw F) C125_ k) (aw.pl16047 F bt k):=by
 intro k
 induction k with
 | zero=>unfold aw.S16047;intros;rename_i hp;cases hp
 | succ k ih=>
  intro Tj Tk Tl Tn GM GN ox GO GP To Tp Tq Ts lH aeH kW gJ jz kX ir Tt mp Tu Tv Tw iD H aqq aqr aqs aqt h0 r hp
  obtain ⟨w0,s0,TF,ae0,Ak,ae1⟩:=h0
  subst aqq
  subst aqr
  subst aqs
  subst aqt
  unfold aw.pl16047 at hp
  unfold aw.l16047
  refine ay hp (λhp=>?_) λhp=>?_
  ·obtain ⟨n1,g1,hp⟩:=ag hp
   obtain ⟨p1,q1,i1,h1,j1⟩:=W.ixo (E:=eI) w0 (i:=3) rfl rfl ae1 g1
   refine ai i1 ?_
   have h1:_=[_]:=h1
   subst h1
   refine ai (aG (j1 0 _ rfl)) ?_
   obtain ⟨n2,g2,hp⟩:=ag hp
   obtain ⟨p2,q2,i2,h2,j2⟩:=ROs.ixr TF rfl g2
   refine ai i2 ?_
   obtain ⟨⟨amv,m2_0,c2_0⟩,rfl,f2_0⟩:=h2
   obtain rfl:m2_0=_:=f2_0.n
   refine ai (iE (j2 0 _ rfl)) ?_
   obtain ⟨n3,g3,hp⟩:=ag hp
   obtain ⟨p3,q3,i3,h3,j3⟩:=ROs.ixr f2_0 rfl g3
   refine ai i3 ?_
   obtain ⟨_,_,rfl,rfl,⟨⟨amw,m3_1,c3_1⟩,rfl,f3_1⟩⟩:=h3
   obtain rfl:m3_1=_:=f3_1.n
   refine ai (aG (j3 0 _ rfl)) ?_
   refine ai (iE (j3 1 _ rfl)) ?_
   obtain ⟨g4,hp⟩:=kb hp
   refine kc g4 ?_
   obtain ⟨n5,g5,hp⟩:=ag hp
   obtain ⟨p5,q5,i5,h5,j5⟩:=W.ixo (E:=(ac eI (eSl eI))) w0 (i:=2) rfl rfl Ak g5
   refine ai i5 ?_
   obtain ⟨_,_,rfl,rfl,⟨⟨amx,m5_1,c5_1⟩,rfl,f5_1⟩⟩:=h5
   obtain rfl:m5_1=_:=f5_1.n
   refine ai (aG (j5 0 _ rfl)) ?_
   refine ai (iE (j5 1 _ rfl)) ?_
   obtain ⟨r6,e6,hp⟩:=ag hp
   refine aE (cY.P rfl rfl ⟨w0,f3_1,f5_1⟩ e6) ?_
   rintro _ H7 ⟨o1a_7,o1n_7,o1c_7,o1k_7,rfl,rfl,w7,s7,f7_0⟩
   refine br (br (br (br (br ?_))))
   refine eK (W.cons_of (Rn:=[_]) w0 w7 s7) ?_
   refine aS w7 λH9 w9 s9=>?_
   refine aq w9 0 λH10 w10 s10=>?_
   refine aq w10 0 λH11 w11 s11=>?_
   obtain ⟨n12,g12,hp⟩:=ag hp
   obtain ⟨p12,q12,i12,h12,j12⟩:=W.ixo (E:=(ac eI (eSl eI))) w11 (i:=4) rfl rfl (Ak.step (s7.trans (s9.trans (s10.trans s11)))) g12
   refine ai i12 ?_
   obtain ⟨_,_,rfl,rfl,⟨⟨asC,m12_1,c12_1⟩,rfl,f12_1⟩⟩:=h12
   obtain rfl:m12_1=_:=f12_1.n
   refine ai (aG (j12 0 _ rfl)) ?_
   refine ai (iE (j12 1 _ rfl)) ?_
   refine lI w11 0 ?_
   refine lSl w11 0 ?_
   obtain ⟨r13,e13,hp⟩:=ag hp
   refine aE (dO.P ⟨w11,trivial⟩ e13) ?_
   rintro _ H14 ⟨rfl,w14,s14,_⟩
   refine br ?_
   refine eK (W.cons_of (Rn:=[]) w11 w14 s14) ?_
   obtain ⟨r16,e16,hp⟩:=ag hp
   refine aE (cl.P ⟨w14,trivial⟩ e16) ?_
   rintro _ H17 ⟨o1a_17,o1n_17,o1c_17,o1k_17,rfl,rfl,w17,s17,f17_0⟩
   refine br (br (br (br (br ?_))))
   refine eK (W.cons_of (Rn:=[_]) w14 w17 s17) ?_
   obtain ⟨w19,s19⟩:=w17.pp [2,0,1,3,4,5,6] 7
   have f20:=W.borrow1 eI w19 (f7_0.step (s9.trans (s10.trans (s11.trans (s14.trans (s17.trans s19))))))
   obtain ⟨w20,s20⟩:=w19.right1
   have f21:=W.borrow1 eI w20 ((f17_0.step s19).step s20)
   obtain ⟨w21,s21⟩:=w20.right1
   obtain ⟨r22,e22,hp⟩:=ag hp
   refine aE (cY.P rfl rfl ⟨w21,(f20.step s21),f21⟩ e22) ?_
   rintro _ H23 ⟨o1a_23,o1n_23,o1c_23,o1k_23,rfl,rfl,w23,s23,f23_0⟩
   obtain ⟨w24,s24⟩:=W.frame1 w20 w23 s23
   obtain ⟨w25,s25⟩:=W.frame1 w19 w24 s24
   refine br (br (br (br (br ?_))))
   refine eK (aZ.tr (aZ.refl _) s19 (W.cons_of (Rn:=[_]) w21 w23 s23)) ?_
   obtain ⟨w27,s27⟩:=w25.pp [2,0,1,3,4,5,6,7] 8
   have f28:=W.borrow1 eI w27 ((CR.flat (fA .i64) f23_0).step s27)
   obtain ⟨w28,s28⟩:=w27.right1
   obtain ⟨r29,e29,hp⟩:=ag hp
   refine aE (cp.P rfl rfl ⟨w28,((f12_1.step (s14.trans (s17.trans (s19.trans (s25.trans s27))))).step s28),f28⟩ e29) ?_
   rintro _ H30 ⟨o1a_30,o1n_30,o1c_30,o1k_30,rfl,rfl,w30,s30,f30_0⟩
   obtain ⟨w31,s31⟩:=W.frame1 w27 w30 s30
   refine br (br (br (br (br ?_))))
   obtain ⟨n32,g32,hp⟩:=ag hp
   obtain ⟨p32,q32,i32,h32,j32⟩:=W.ixo (E:=(ac eI (eSl eI))) w31 (i:=7) rfl rfl (Ak.step (s7.trans (s9.trans (s10.trans (s11.trans (s14.trans (s17.trans (s19.trans (s25.trans (s27.trans s31)))))))))) g32
   refine ai i32 ?_
   obtain ⟨l33,e33,hp⟩:=ag hp
   refine dC (ac eI (eSl eI)) w31 (i:=7) (j:=0) (p:=p32) rfl rfl (Ak.step (s7.trans (s9.trans (s10.trans (s11.trans (s14.trans (s17.trans (s19.trans (s25.trans (s27.trans s31)))))))))) g32 i32 e33 rfl rfl (λ_ h=>by obtain ⟨_,_,rfl,rfl,⟨_,rfl,q1⟩⟩:=h;exact ⟨[_],_,rfl,rfl,⟨_,rfl,q1⟩⟩) λH34 k34 w34 s34 c34=>?_
   obtain ⟨w35,s35,f35⟩:=w34.frz (i:=1) eI rfl ((CR.flat (fA .i64) f30_0).step s34)
   obtain ⟨l36,e36,hp⟩:=ag hp
   refine dC (ac eI (eSl eI)) w35 (i:=6) (j:=1) (p:=p32) rfl rfl (c34.step s35) (mu g32 (cz e33)) i32 e36 rfl rfl (λ_ h=>by obtain ⟨_,_,rfl,rfl,⟨_,rfl,q1⟩⟩:=h;exact ⟨[_],_,rfl,rfl,⟨_,rfl,f35⟩⟩) λH37 k37 w37 s37 c37=>?_
   obtain ⟨w38,s38⟩:=w37.pp [4,5,6,7] 8
   exact ih rfl rfl ((cz e33).symm.trans (cz e36).symm) rfl ⟨w38,(s0.trans (s7.trans (s9.trans (s10.trans (s11.trans (s14.trans (s17.trans (s19.trans (s25.trans (s27.trans (s31.trans (s34.trans (s35.trans (s37.trans s38)))))))))))))),(TF.step (s7.trans (s9.trans (s10.trans (s11.trans (s14.trans (s17.trans (s19.trans (s25.trans (s27.trans (s31.trans (s34.trans (s35.trans (s37.trans s38)))))))))))))),(ae0.step (s7.trans (s9.trans (s10.trans (s11.trans (s14.trans (s17.trans (s19.trans (s25.trans (s27.trans (s31.trans (s34.trans (s35.trans (s37.trans s38)))))))))))))),(c37.step s38),(ae1.step (s7.trans (s9.trans (s10.trans (s11.trans (s14.trans (s17.trans (s19.trans (s25.trans (s27.trans (s31.trans (s34.trans (s35.trans (s37.trans s38))))))))))))))⟩ hp
  ·obtain ⟨w39,s39⟩:=w0.pp [0,1,2] 4
   exact aw.j9_P (@hC125) rfl rfl rfl ⟨w39,(s0.trans s39),(TF.step s39),(ae0.step s39),(Ak.step s39)⟩ hp
def aw.pj10 (F:Nat) (bt:ati) (Al:atl) (vu:Int) (Am:atm) (vv:Int) (rJ:as6):Option (Int×List Int):=aw.pl16047 F bt F Al vu Am vv (wrap .i64 ((rJ.length:Int) - 1)) rJ (rJ.length:Int) 0
theorem aw.j10_P  {C125_:atw} {bt:ati} (hC125:aw.S125 H0 Ri R0  C125_ bt) {ae2 ae3 ae4 ae5 TG TH CN TJ TK ae6 ae7 ae8 ae9 Al aqu vu vv ae_ rJ afa afb afc Am} (aqv:TG=Al.length) (aqw:TH=ae_.length) (aqx:TJ=Am.length) (aqy:TK=rJ.length) (h0:Out H0 Ri H (Rs.own ⟨ae3,TH,ae7⟩ eI.z afa::Rs.blk CN [.i aqu,.sl ⟨ae3,TH,ae7⟩]::Rs.own ⟨ae4,TJ,ae8⟩ (ac eI (eSl eI)).z afb::Rs.own ⟨ae5,TK,ae9⟩ eI.z afc::R0) λR=>ROs (eSl (ac eI (eSl eI))) H R ⟨ae2,TG,ae6⟩ Al/\CR eI H R afa ae_/\CR (ac eI (eSl eI)) H R afb Am/\CR eI H R afc rJ) {r:as9} (hp:aw.pj10 F bt Al vu Am vv rJ=some r):Rt (aw.j10 F (cl.tw F) (cY.tw F) (dO.tw F) (cp.tw F) C125_ ⟨ae2,TG,ae6⟩ CN 0 vu ⟨ae4,TJ,ae8⟩ vv ⟨ae5,TK,ae9⟩ H) (aw.Q H0 Ri R0  r):=by
 obtain ⟨w0,s0,aqz,aqA,aqB,aqC⟩:=h0
 subst aqv
 subst aqw
 subst aqx
 subst aqy
 unfold aw.pj10 at hp
 unfold aw.j10
 exact aw.l16047_P (@hC125) F rfl rfl rfl rfl ⟨w0,s0,aqz,aqA,aqB,aqC⟩ hp
def aw.pl8021 (F:Nat) (bt:ati):Nat->List ((List (Int×List Int)))->Int->List (Int×List Int)->Int->List Int->Int->Int->Option (Int×List Int)
 | 0,_,_,_,_,_,_,_=>none
 | k+1,pe,jA,pg,iu,pf,jB,fl=>(bif (decide (fl<jB)) then ((if fl<0 then none else ((bif ((Go.bits .and .i64 (Int.fdiv iu (2 ^ (min (fl:Int).toNat (IntKind.i64).bits))) 1)==1) then ((apn pf ([fl]:List Int)).bind λl3=>aw.pj11 F (aw.pl8021 F bt k) pe jA pg iu l3 jB fl) else (aw.pj11 F (aw.pl8021 F bt k) pe jA pg iu pf jB fl))))) else (aw.pj10 F bt pe jA pg iu pf))
theorem aw.l8021_P  {C125_:atw} {bt:ati} (hC125:aw.S125 H0 Ri R0  C125_ bt):∀ k,aw.S8021 H0 Ri R0  (aw.l8021 F (cl.tw F) (cY.tw F) (dO.tw F) (cp.tw F) C125_ k) (aw.pl8021 F bt k):=by
 intro k
 induction k with
 | zero=>unfold aw.S8021;intros;rename_i hp;cases hp
 | succ k ih=>
  intro SS SU SV SW GH GI mW GJ GK SX SY SZ S_ pe aeu jA iu jB fl Ta pf Tc Td Te pg H aqD aqE aqF aqG h0 r hp
  obtain ⟨w0,s0,TL,TN,TO,TP⟩:=h0
  subst aqD
  subst aqE
  subst aqF
  subst aqG
  unfold aw.pl8021 at hp
  unfold aw.l8021
  refine ay hp (λhp=>?_) λhp=>?_
  ·obtain ⟨g1,hp⟩:=kb hp
   refine kc g1 ?_
   refine ay hp (λhp=>?_) λhp=>?_
   ·refine cK eI w0 (n:=1) (l:=([fl]:List Int)) rfl (CR.cons1 rfl CR.empty) rfl λH2 w2 s2 c2=>?_
    refine ai (w2.rowo (i:=0) rfl) ?_
    obtain ⟨l3,e3,hp⟩:=ag hp
    refine fz eI w2 (i:=4) rfl rfl (TP.step s2) c2 (show 1=List.length ([fl]:List Int) from rfl) rfl e3 λa4 d4 H4 w4 s4 c4 x4=>?_
    obtain ⟨w5,s5⟩:=w4.pp [1,2,3,4] 5
    exact aw.j11_P (@ih) rfl rfl rfl rfl ⟨w5,(s0.trans (s2.trans (s4.trans s5))),(TL.step (s2.trans (s4.trans s5))),(TN.step (s2.trans (s4.trans s5))),(TO.step (s2.trans (s4.trans s5))),(c4.step s5)⟩ hp
   ·exact aw.j11_P (@ih) rfl rfl rfl rfl ⟨w0,s0,TL,TN,TO,TP⟩ hp
  ·exact aw.j10_P (@hC125) rfl rfl rfl rfl ⟨w0,s0,TL,TN,TO,TP⟩ hp
def aw.pj6 (F:Nat)  (ov:Int) (rK:atm):Option (Int×List Int):=(if ov<0 then none else ((ix rK (wrap .i64 ((wrap .i64 (1 * 2 ^ (min (ov:Int).toNat (IntKind.i64).bits))) - 1))).bind λn2=>some (((gt rK n2).1),(gt rK n2).2)))
theorem aw.j6_P   {aqH ov afd afe TQ pN TT aff afg afh afi afj rK} (aqI:TQ=afh.length) (aqJ:TT=rK.length) (h0:Out H0 Ri H (Rs.own ⟨afd,TQ,aff⟩ eI.z afi::Rs.blk pN [.i aqH,.sl ⟨afd,TQ,aff⟩]::Rs.own ⟨afe,TT,afg⟩ (ac eI (eSl eI)).z afj::R0) λR=>CR eI H R afi afh/\CR (ac eI (eSl eI)) H R afj rK) {r:as9} (hp:aw.pj6 F  ov rK=some r):Rt (aw.j6 F (cl.tw F) (cY.tw F) (dO.tw F) (cp.tw F)  pN 0 ov ⟨afe,TT,afg⟩ H) (aw.Q H0 Ri R0  r):=by
 obtain ⟨w0,s0,asD,aqK⟩:=h0
 subst aqI
 subst aqJ
 unfold aw.pj6 at hp
 unfold aw.j6
 obtain ⟨g1,hp⟩:=kb hp
 refine kc g1 ?_
 obtain ⟨n2,g2,hp⟩:=ag hp
 obtain ⟨p2,q2,i2,h2,j2⟩:=W.ixo (E:=(ac eI (eSl eI))) w0 (i:=2) rfl rfl aqK g2
 refine ai i2 ?_
 obtain ⟨_,_,rfl,rfl,⟨⟨amM,m2_1,c2_1⟩,rfl,f2_1⟩⟩:=h2
 obtain rfl:m2_1=_:=f2_1.n
 refine ai (aG (j2 0 _ rfl)) ?_
 refine ai (iE (j2 1 _ rfl)) ?_
 refine aq w0 1 λH3 w3 s3=>?_
 refine aq w3 1 λH4 w4 s4=>?_
 refine lI w4 1 ?_
 refine lSl w4 1 ?_
 obtain ⟨w5,s5⟩:=w4.pp [] 3
 exact az hp ⟨_,_,_,rfl,rfl,w5,(s0.trans (s3.trans (s4.trans s5))),(f2_1.step (s3.trans (s4.trans s5)))⟩
def aw.pl125 (F:Nat) :Nat->List ((List (Int×List Int)))->Int->List (Int×List Int)->Int->Option (Int×List Int)
 | 0,_,_,_,_=>none
 | k+1,wC,fk,rI,gQ=>(if fk<0 then none else ((bif (decide (gQ<(wrap .i64 (1 * 2 ^ (min (fk:Int).toNat (IntKind.i64).bits))))) then (aw.pl8021 F (aw.pl125 F k) F wC fk rI gQ ([]:List Int) fk 0) else (aw.pj6 F fk rI))))
theorem aw.l125_P  :∀ k,aw.S125 H0 Ri R0  (aw.l125 F (cl.tw F) (cY.tw F) (dO.tw F) (cp.tw F)  k) (aw.pl125 F  k):=by
 intro k
 induction k with
 | zero=>unfold aw.S125;intros;rename_i hp;cases hp
 | succ k ih=>
  intro SI SJ SK GE GF gd GG SL SM SN wC aet fk gQ SO SP SQ rI H aqL aqM aqN h0 r hp
  obtain ⟨w0,s0,aqO,afk,afl⟩:=h0
  subst aqL
  subst aqM
  subst aqN
  unfold aw.pl125 at hp
  unfold aw.l125
  obtain ⟨g1,hp⟩:=kb hp
  refine kc g1 ?_
  refine ay hp (λhp=>?_) λhp=>?_
  ·obtain ⟨w2,s2⟩:=w0.nilS eI.z (by decide)
   obtain ⟨w3,s3⟩:=w2.pp [1,2,3,0] 4
   exact aw.l8021_P (@ih) F rfl rfl rfl rfl ⟨w3,(s0.trans (s2.trans s3)),(aqO.step (s2.trans s3)),(afk.step (s2.trans s3)),(afl.step (s2.trans s3)),((CR.empty:CR eI _ _ [] []).step s3)⟩ hp
  ·exact aw.j6_P rfl rfl ⟨w0,s0,afk,afl⟩ hp
def aw.p (F:Nat) (ah:atl):Option (Int×List Int):=(if (ah.length:Int)<0 then none else ((mkn (wrap .i64 (1 * 2 ^ (min ((ah.length:Int):Int).toNat (IntKind.i64).bits))) ((0:Int),([]:List Int))).bind λl3=>(cl.p F 1 0).bind λr5=>(ix l3 0).bind λn7=>(some (l3.set n7 (r5.1,(gt l3 n7).2))).bind λl8=>(some (l8.set n7 ((gt l8 n7).1,r5.2))).bind λl11=>aw.pl125 F F ah (ah.length:Int) l11 1))
theorem aw.P {aB ak aC ah} (ba:ak=ah.length) (h0:Inn H R0 λR=>ROs (eSl (ac eI (eSl eI))) H R ⟨aB,ak,aC⟩ ah) {r:as9} (hp:aw.p F ah=some r):Rt (aw.tw F ⟨aB,ak,aC⟩ H) (aw.Q H R0 R0  r):=by
 obtain ⟨w0,aO⟩:=h0
 subst ba
 unfold aw.p at hp
 unfold aw.tw aw.twX
 have s0:=w0.rf
 refine aS w0 λH1 w1 s1=>?_
 obtain ⟨g2,hp⟩:=kb hp
 refine kc g2 ?_
 obtain ⟨l3,e3,hp⟩:=ag hp
 refine ka (ac eI (eSl eI)) ((0:Int),([]:List Int)) w1 ⟨[_],_,rfl,rfl,⟨_,rfl,ROs.nil⟩⟩ rfl rfl e3 λH4 k4 w4 s4 c4=>?_
 obtain ⟨r5,e5,hp⟩:=ag hp
 refine aE (cl.P ⟨w4,trivial⟩ e5) ?_
 rintro _ H6 ⟨o1a_6,o1n_6,o1c_6,o1k_6,rfl,rfl,w6,s6,f6_0⟩
 refine br (br (br (br (br ?_))))
 obtain ⟨n7,g7,hp⟩:=ag hp
 obtain ⟨p7,q7,i7,h7,j7⟩:=W.ixo (E:=(ac eI (eSl eI))) w6 (i:=1) rfl rfl (c4.step s6) g7
 refine ai i7 ?_
 obtain ⟨l8,e8,hp⟩:=ag hp
 refine dC (ac eI (eSl eI)) w6 (i:=1) (j:=0) (p:=p7) rfl rfl (c4.step s6) g7 i7 e8 rfl rfl (λ_ h=>by obtain ⟨_,_,rfl,rfl,⟨_,rfl,q1⟩⟩:=h;exact ⟨[_],_,rfl,rfl,⟨_,rfl,q1⟩⟩) λH9 k9 w9 s9 c9=>?_
 obtain ⟨w10,s10,f10⟩:=w9.frz (i:=0) eI rfl (f6_0.step s9)
 obtain ⟨l11,e11,hp⟩:=ag hp
 refine dC (ac eI (eSl eI)) w10 (i:=0) (j:=1) (p:=p7) rfl rfl (c9.step s10) (mu g7 (cz e8)) i7 e11 rfl rfl (λ_ h=>by obtain ⟨_,_,rfl,rfl,⟨_,rfl,q1⟩⟩:=h;exact ⟨[_],_,rfl,rfl,⟨_,rfl,f10⟩⟩) λH12 k12 w12 s12 c12=>?_
 obtain ⟨w13,s13⟩:=w12.nilS eI.z (by decide)
 obtain ⟨w14,s14⟩:=w13.pp [0,2,1] 3
 exact aw.l125_P F rfl rfl ((cz e8).symm.trans (cz e11).symm) ⟨w14,(s0.trans (s1.trans (s4.trans (s6.trans (s9.trans (s10.trans (s12.trans (s13.trans s14)))))))),(aO.step (s1.trans (s4.trans (s6.trans (s9.trans (s10.trans (s12.trans (s13.trans s14)))))))),((CR.empty:CR eI _ _ [] []).step s14),(c12.step (s13.trans s14))⟩ hp
def bI.Q (H0:Hp) (Ri R0:as3)  (r:as9) (v:AV) (H':Hp):Prop:=∃ o1a:ON,∃ o1n:Nat,∃ o1c:Cap,∃ o1k:List AV,v=(.agg [(.i r.1),(.sl ⟨o1a,o1n,o1c⟩)])/\o1n=(r.2).length/\Out H0 Ri H' (Rs.own ⟨o1a,o1n,o1c⟩ eI.z o1k::R0) λR=>CR eI H' R o1k (r.2)
def bI.S117 (H0:Hp) (Ri R0:as3)  (C:Nat->Nat->Nat->Nat->Int->Int->Hp->OA) (pC:aud):Prop:=∀ {afm wD kY iv qU TU nq eV GQ gP qV TV qW mq qZ TW},∀ {H:Hp},nq=qW.length->GQ=mq.length->(Out H0 Ri H (Rs.own ⟨qU,nq,qV⟩ eI.z qZ::Rs.blk eV [.i afm,.sl ⟨qU,nq,qV⟩]::Rs.own ⟨TU,GQ,TV⟩ eI.z TW::Rs.blk gP [.i wD,.sl ⟨TU,GQ,TV⟩]::R0) λR=>CR eI H R qZ qW/\CR eI H R TW mq)->∀ {r:as9},pC wD mq kY iv=some r->Rt (C eV 0 gP 0 kY iv H) (bI.Q H0 Ri R0  r)
def bI.pl117 (F:Nat) :Nat->Int->List Int->Int->Int->Option (Int×List Int)
 | 0,_,_,_,_=>none
 | k+1,wD,mq,kY,iv=>(bif (decide (iv<kY)) then ((ix mq iv).bind λn1=>(ix mq iv).bind λn2=>(some (mq.set n2 (wrap .i64 (0 - (gt mq n1))))).bind λl3=>bI.pl117 F k wD l3 kY (wrap .i64 (iv+1))) else (some (wD,mq)))
theorem bI.l117_P  :∀ k,bI.S117 H0 Ri R0  (bI.l117 F (dx.tw F)  k) (bI.pl117 F  k):=by
 intro k
 induction k with
 | zero=>unfold bI.S117;intros;rename_i hp;cases hp
 | succ k ih=>
  intro afm wD kY iv qU TU nq eV GQ gP qV TV qW mq qZ TW H OJ aqP h0 r hp
  obtain ⟨w0,s0,OK,GR⟩:=h0
  subst OJ
  subst aqP
  unfold bI.pl117 at hp
  unfold bI.l117
  refine ay hp (λhp=>?_) λhp=>?_
  ·refine lSl w0 3 ?_
   refine lSl w0 3 ?_
   obtain ⟨n1,g1,hp⟩:=ag hp
   obtain ⟨p1,q1,i1,h1,j1⟩:=W.ixo (E:=eI) w0 (i:=2) rfl rfl GR g1
   refine ai i1 ?_
   have h1:_=[_]:=h1
   subst h1
   refine ai (aG (j1 0 _ rfl)) ?_
   obtain ⟨n2,g2,hp⟩:=ag hp
   obtain ⟨p2,q2,i2,h2,j2⟩:=W.ixo (E:=eI) w0 (i:=2) rfl rfl GR g2
   refine ai i2 ?_
   obtain ⟨l3,e3,hp⟩:=ag hp
   refine dC eI w0 (i:=2) (j:=0) (p:=p2) rfl rfl GR g2 i2 e3 rfl rfl (λ_ h=>by have h:_=[_]:=h;subst h;exact rfl) λH4 k4 w4 s4 c4=>?_
   exact ih rfl ((cz e3).symm) ⟨w4,(s0.trans s4),(OK.step s4),c4⟩ hp
  ·refine lI w0 3 ?_
   refine lSl w0 3 ?_
   refine aq w0 1 λH5 w5 s5=>?_
   refine aq w5 1 λH6 w6 s6=>?_
   refine lI w6 1 ?_
   refine lSl w6 1 ?_
   obtain ⟨w7,s7⟩:=w6.pp [2] 4
   exact az hp ⟨_,_,_,_,rfl,rfl,w7,(s0.trans (s5.trans (s6.trans s7))),(GR.step (s5.trans (s6.trans s7)))⟩
def bI.p (F:Nat) (aF:as6):Option (Int×List Int):=(dx.p F aF).bind λr3=>(bif (decide ((r3.length:Int)>0)) then ((ix r3 0).bind λn8=>(bif (decide ((gt r3 n8)<0)) then (bI.pl117 F F 0 r3 (r3.length:Int) 0) else (some (0,r3)))) else (some (0,r3)))
theorem bI.P {aa cj bD ck aF} (du:bD=aF.length) (h0:Inn H R0 λR=>ROs eI H R ⟨cj,bD,ck⟩ aF) {r:as9} (hp:bI.p F aF=some r):Rt (bI.tw F aa ⟨cj,bD,ck⟩ H) (bI.Q H R0 R0  r):=by
 obtain ⟨w0,cq⟩:=h0
 subst du
 unfold bI.p at hp
 unfold bI.tw bI.twX
 have s0:=w0.rf
 refine aS w0 λH1 w1 s1=>?_
 refine aS w1 λH2 w2 s2=>?_
 refine lSl w2 1 ?_
 obtain ⟨r3,e3,hp⟩:=ag hp
 refine aE (dx.P rfl ⟨w2,(cq.step (s1.trans s2))⟩ e3) ?_
 rintro _ H4 ⟨o0a_4,o0n_4,o0c_4,o0k_4,rfl,rfl,w4,s4,f4_0⟩
 refine br ?_
 refine aS w4 λH5 w5 s5=>?_
 refine aq w5 0 λH6 w6 s6=>?_
 refine aq w6 0 λH7 w7 s7=>?_
 refine lSl w7 0 ?_
 refine ay hp (λhp=>?_) λhp=>?_
 ·refine lSl w7 0 ?_
  obtain ⟨n8,g8,hp⟩:=ag hp
  obtain ⟨p8,q8,i8,h8,j8⟩:=W.ixo (E:=eI) w7 (i:=1) rfl rfl (f4_0.step (s5.trans (s6.trans s7))) g8
  refine ai i8 ?_
  have h8:_=[_]:=h8
  subst h8
  refine ai (aG (j8 0 _ rfl)) ?_
  refine ay hp (λhp=>?_) λhp=>?_
  ·refine lSl w7 0 ?_
   obtain ⟨w9,s9⟩:=w7.nilS eI.z (by decide)
   obtain ⟨w10,s10⟩:=w9.pp [0,3,2,1] 5
   exact bI.l117_P F rfl rfl ⟨w10,(s0.trans (s1.trans (s2.trans (s4.trans (s5.trans (s6.trans (s7.trans (s9.trans s10)))))))),((CR.empty:CR eI _ _ [] []).step s10),(f4_0.step (s5.trans (s6.trans (s7.trans (s9.trans s10)))))⟩ hp
  ·refine lI w7 0 ?_
   refine lSl w7 0 ?_
   refine aq w7 2 λH11 w11 s11=>?_
   refine aq w11 2 λH12 w12 s12=>?_
   refine lI w12 2 ?_
   refine lSl w12 2 ?_
   obtain ⟨w13,s13⟩:=w12.pp [1] 4
   exact az hp ⟨_,_,_,_,rfl,rfl,w13,(s0.trans (s1.trans (s2.trans (s4.trans (s5.trans (s6.trans (s7.trans (s11.trans (s12.trans s13))))))))),(f4_0.step (s5.trans (s6.trans (s7.trans (s11.trans (s12.trans s13))))))⟩
 ·refine lI w7 0 ?_
  refine lSl w7 0 ?_
  refine aq w7 2 λH14 w14 s14=>?_
  refine aq w14 2 λH15 w15 s15=>?_
  refine lI w15 2 ?_
  refine lSl w15 2 ?_
  obtain ⟨w16,s16⟩:=w15.pp [1] 4
  exact az hp ⟨_,_,_,_,rfl,rfl,w16,(s0.trans (s1.trans (s2.trans (s4.trans (s5.trans (s6.trans (s7.trans (s14.trans (s15.trans s16))))))))),(f4_0.step (s5.trans (s6.trans (s7.trans (s14.trans (s15.trans s16))))))⟩
def bh.Q (H0:Hp) (Ri R0:as3)  (r:as9) (v:AV) (H':Hp):Prop:=∃ o1a:ON,∃ o1n:Nat,∃ o1c:Cap,∃ o1k:List AV,v=(.agg [(.i r.1),(.sl ⟨o1a,o1n,o1c⟩)])/\o1n=(r.2).length/\Out H0 Ri H' (Rs.own ⟨o1a,o1n,o1c⟩ eI.z o1k::R0) λR=>CR eI H' R o1k (r.2)
def bh.S253 (H0:Hp) (Ri R0:as3)  (C:Nat->Nat->Sl->Int->Int->Int->Hp->OA) (pC:List ((List (Int×List Int)))->Int->Int->Int->Option (Int×List Int)):Prop:=∀ {afn kZ k_ iw TX TY GS oy GT TZ T_ Ua Ub afo afp Uc mr},∀ {H:Hp},GS=Ua.length->GT=mr.length->(Out H0 Ri H (Rs.own ⟨TX,GS,TZ⟩ eI.z Ub::Rs.blk oy [.i afn,.sl ⟨TX,GS,TZ⟩]::Rs.ow false ⟨TY,GT,T_⟩ (eSl (ac eI (eSl eI))).z afo Uc afp::R0) λR=>CR eI H R Ub Ua/\CR (eSl (ac eI (eSl eI))) H R Uc mr)->∀ {r:as9},pC mr kZ k_ iw=some r->Rt (C oy 0 ⟨TY,GT,T_⟩ kZ k_ iw H) (bh.Q H0 Ri R0  r)
def bh.pj1 (F:Nat)  (An:atl):Option (Int×List Int):=(aw.p F An).bind λr2=>(bI.p F r2.2).bind λr4=>some (r4.1,r4.2)
theorem bh.j1_P   {aqQ afq afr Ud pQ Ue afs aft afu afv aqR aqS afw An} (aqT:Ud=afu.length) (aqU:Ue=An.length) (h0:Out H0 Ri H (Rs.own ⟨afq,Ud,afs⟩ eI.z afv::Rs.blk pQ [.i aqQ,.sl ⟨afq,Ud,afs⟩]::Rs.ow false ⟨afr,Ue,aft⟩ (eSl (ac eI (eSl eI))).z aqR afw aqS::R0) λR=>CR eI H R afv afu/\CR (eSl (ac eI (eSl eI))) H R afw An) {r:as9} (hp:bh.pj1 F  An=some r):Rt (bh.j1 F (aX.tw F) (bg.tw F) (eo.tw F) (aw.tw F) (bI.tw F)  pQ 0 ⟨afr,Ue,aft⟩ H) (bh.Q H0 Ri R0  r):=by
 obtain ⟨w0,s0,asE,aqV⟩:=h0
 subst aqT
 subst aqU
 unfold bh.pj1 at hp
 unfold bh.j1
 obtain ⟨w1,s1,f1⟩:=w0.frz (i:=2) (eSl (ac eI (eSl eI))) rfl aqV
 obtain ⟨r2,e2,hp⟩:=ag hp
 refine aE (aw.P rfl ⟨w1,f1⟩ e2) ?_
 rintro _ H3 ⟨o1a_3,o1n_3,o1c_3,rfl,rfl,w3,s3,f3_0⟩
 refine br (br (br (br (br ?_))))
 obtain ⟨r4,e4,hp⟩:=ag hp
 refine aE (bI.P rfl ⟨w3,f3_0⟩ e4) ?_
 rintro _ H5 ⟨o1a_5,o1n_5,o1c_5,o1k_5,rfl,rfl,w5,s5,f5_0⟩
 refine br (br (br (br (br ?_))))
 refine aq w5 2 λH6 w6 s6=>?_
 refine aq w6 2 λH7 w7 s7=>?_
 refine lI w7 2 ?_
 refine lSl w7 2 ?_
 obtain ⟨w8,s8⟩:=w7.pp [0] 3
 exact az hp ⟨_,_,_,_,rfl,rfl,w8,(s0.trans (s1.trans (s3.trans (s5.trans (s6.trans (s7.trans s8)))))),(f5_0.step (s6.trans (s7.trans s8)))⟩
def bh.pl253 (F:Nat) :Nat->List ((List (Int×List Int)))->Int->Int->Int->Option (Int×List Int)
 | 0,_,_,_,_=>none
 | k+1,mr,kZ,k_,iw=>(bif (decide (iw<k_)) then ((ix mr iw).bind λn1=>(cutf (gt mr n1) 0 (wrap .i64 (kZ - 1))).bind λl2=>(ix mr iw).bind λn3=>(some (mr.set n3 l2)).bind λl4=>bh.pl253 F k l4 kZ k_ (wrap .i64 (iw+1))) else (bh.pj1 F mr))
theorem bh.l253_P  :∀ k,bh.S253 H0 Ri R0  (bh.l253 F (aX.tw F) (bg.tw F) (eo.tw F) (aw.tw F) (bI.tw F)  k) (bh.pl253 F  k):=by
 intro k
 induction k with
 | zero=>unfold bh.S253;intros;rename_i hp;cases hp
 | succ k ih=>
  intro afn kZ k_ iw TX TY GS oy GT TZ T_ Ua Ub afo afp Uc mr H aqW aqX h0 r hp
  obtain ⟨w0,s0,afx,GU⟩:=h0
  subst aqW
  subst aqX
  unfold bh.pl253 at hp
  unfold bh.l253
  refine ay hp (λhp=>?_) λhp=>?_
  ·obtain ⟨n1,g1,hp⟩:=ag hp
   obtain ⟨p1,q1,i1,h1,j1⟩:=W.ixo (E:=(eSl (ac eI (eSl eI)))) w0 (i:=2) rfl rfl GU g1
   refine ai i1 ?_
   obtain ⟨⟨YM,m1_0,c1_0⟩,rfl,f1_0⟩:=h1
   obtain rfl:m1_0=_:=f1_0.n
   refine ai (iE (j1 0 _ rfl)) ?_
   obtain ⟨l2,e2,hp⟩:=ag hp
   obtain ⟨a2,d2,h2,f2⟩:=ROs.cutf f1_0 rfl e2
   refine ai h2 ?_
   obtain ⟨n3,g3,hp⟩:=ag hp
   obtain ⟨p3,q3,i3,h3,j3⟩:=W.ixo (E:=(eSl (ac eI (eSl eI)))) w0 (i:=2) rfl rfl GU g3
   refine ai i3 ?_
   obtain ⟨l4,e4,hp⟩:=ag hp
   refine dC (eSl (ac eI (eSl eI))) w0 (i:=2) (j:=0) (p:=p3) rfl rfl GU g3 i3 e4 rfl rfl (λ_ h=>by obtain ⟨_,h,_⟩:=h;subst h;exact ⟨_,rfl,f2⟩) λH5 k5 w5 s5 c5=>?_
   exact ih rfl ((cz e4).symm) ⟨w5,(s0.trans s5),(afx.step s5),c5⟩ hp
  ·exact bh.j1_P rfl rfl ⟨w0,s0,afx,GU⟩ hp
def bh.pj2 (F:Nat)  (rL:atl) (oA:Int):Option (Int×List Int):=(eo.p F rL).bind λr3=>(bif (r3 != (wrap .i64 (oA - 1))) then (some (0,([]:List Int))) else (bh.pl253 F F rL oA (rL.length:Int) 0))
theorem bh.j2_P   {aqY oA afy afz Uf oz Ug afA afB afC afD aqZ aq0 afE rL} (aq1:Uf=afC.length) (aq2:Ug=rL.length) (h0:Out H0 Ri H (Rs.own ⟨afy,Uf,afA⟩ eI.z afD::Rs.blk oz [.i aqY,.sl ⟨afy,Uf,afA⟩]::Rs.ow false ⟨afz,Ug,afB⟩ (eSl (ac eI (eSl eI))).z aqZ afE aq0::R0) λR=>CR eI H R afD afC/\CR (eSl (ac eI (eSl eI))) H R afE rL) {r:as9} (hp:bh.pj2 F  rL oA=some r):Rt (bh.j2 F (aX.tw F) (bg.tw F) (eo.tw F) (aw.tw F) (bI.tw F)  oz 0 ⟨afz,Ug,afB⟩ oA H) (bh.Q H0 Ri R0  r):=by
 obtain ⟨w0,s0,aq3,afF⟩:=h0
 subst aq1
 subst aq2
 unfold bh.pj2 at hp
 unfold bh.j2
 obtain ⟨w1,s1⟩:=w0.pp [2,0,1] 3
 have f2:=W.borrow1 (eSl (ac eI (eSl eI))) w1 (afF.step s1)
 obtain ⟨w2,s2⟩:=w1.right1
 obtain ⟨r3,e3,hp⟩:=ag hp
 refine aE (eo.P rfl ⟨w2,f2⟩ e3) ?_
 rintro _ H4 ⟨rfl,w4,s4,_⟩
 obtain ⟨w5,s5⟩:=W.frame1 w1 w4 s4
 refine br ?_
 refine ay hp (λhp=>?_) λhp=>?_
 ·refine aq w5 2 λH6 w6 s6=>?_
  refine aq w6 2 λH7 w7 s7=>?_
  refine lI w7 2 ?_
  refine lSl w7 2 ?_
  obtain ⟨w8,s8⟩:=w7.nilS eI.z (by decide)
  obtain ⟨w9,s9⟩:=w8.pp [0] 4
  exact az hp ⟨_,_,_,_,rfl,rfl,w9,(s0.trans (s1.trans (s5.trans (s6.trans (s7.trans (s8.trans s9)))))),((CR.empty:CR eI _ _ [] []).step s9)⟩
 ·obtain ⟨w10,s10⟩:=w5.pp [1,2,0] 3
  exact bh.l253_P F rfl rfl ⟨w10,(s0.trans (s1.trans (s5.trans s10))),(aq3.step (s1.trans (s5.trans s10))),(afF.step (s1.trans (s5.trans s10)))⟩ hp
def bh.p (F:Nat) (ah:atb) (af:Int):Option (Int×List Int):=(aX.p F ah af).bind λr3=>(bg.p F ah af).bind λr5=>(eo.p F r3).bind λr9=>(bif (r9==r5.2) then ((cutf r3 0 (wrap .i64 (r5.2 - 1))).bind λl12=>bh.pj2 F l12 r5.2) else (bh.pj2 F r3 r5.2))
theorem bh.P {aB ak aC ah af} (ba:ak=ah.length) (h0:Inn H R0 λR=>ROs (ac eI (ac eI (ac eI (ac eI eI)))) H R ⟨aB,ak,aC⟩ ah) {r:as9} (hp:bh.p F ah af=some r):Rt (bh.tw F ⟨aB,ak,aC⟩ af H) (bh.Q H R0 R0  r):=by
 obtain ⟨w0,aO⟩:=h0
 subst ba
 unfold bh.p at hp
 unfold bh.tw bh.twX
 have s0:=w0.rf
 refine aS w0 λH1 w1 s1=>?_
 refine aS w1 λH2 w2 s2=>?_
 refine lSl w2 1 ?_
 refine lI w2 1 ?_
 obtain ⟨r3,e3,hp⟩:=ag hp
 refine aE (aX.P rfl ⟨w2,(aO.step (s1.trans s2))⟩ e3) ?_
 rintro _ H4 ⟨o0a_4,o0n_4,o0c_4,o0k_4,rfl,rfl,w4,s4,f4_0⟩
 refine br ?_
 refine lSl w4 2 ?_
 refine lI w4 2 ?_
 obtain ⟨r5,e5,hp⟩:=ag hp
 refine aE (bg.P rfl ⟨w4,(aO.step (s1.trans (s2.trans s4)))⟩ e5) ?_
 rintro _ H6 ⟨o0a_6,o0n_6,o0c_6,o0k_6,rfl,rfl,w6,s6,f6_0⟩
 refine br (br (br (br (br ?_))))
 obtain ⟨w7,s7⟩:=w6.pp [1,0,2,3] 4
 have f8:=W.borrow1 (eSl (ac eI (eSl eI))) w7 (f4_0.step (s6.trans s7))
 obtain ⟨w8,s8⟩:=w7.right1
 obtain ⟨r9,e9,hp⟩:=ag hp
 refine aE (eo.P rfl ⟨w8,f8⟩ e9) ?_
 rintro _ H10 ⟨rfl,w10,s10,_⟩
 obtain ⟨w11,s11⟩:=W.frame1 w7 w10 s10
 refine br ?_
 refine ay hp (λhp=>?_) λhp=>?_
 ·obtain ⟨l12,e12,hp⟩:=ag hp
  obtain ⟨a13,d13,h13,w13,s13,c13⟩:=w11.cuto (eSl (ac eI (eSl eI))) (i:=0) rfl (f4_0.step (s6.trans (s7.trans s11))) e12
  refine ai h13 ?_
  obtain ⟨w14,s14⟩:=w13.nilS eI.z (by decide)
  obtain ⟨w15,s15⟩:=w14.pp [0,3,1] 5
  exact bh.j2_P rfl rfl ⟨w15,(s0.trans (s1.trans (s2.trans (s4.trans (s6.trans (s7.trans (s11.trans (s13.trans (s14.trans s15))))))))),((CR.empty:CR eI _ _ [] []).step s15),(c13.step (s14.trans s15))⟩ hp
 ·obtain ⟨w16,s16⟩:=w11.nilS eI.z (by decide)
  obtain ⟨w17,s17⟩:=w16.loose (i:=1) rfl
  obtain ⟨w18,s18⟩:=w17.pp [0,3,1] 5
  exact bh.j2_P rfl rfl ⟨w18,(s0.trans (s1.trans (s2.trans (s4.trans (s6.trans (s7.trans (s11.trans (s16.trans (s17.trans s18))))))))),((CR.empty:CR eI _ _ [] []).step (s17.trans s18)),(f4_0.step (s6.trans (s7.trans (s11.trans (s16.trans (s17.trans s18))))))⟩ hp
def eG.Q (H0:Hp) (Ri R0:as3)  (r:atk) (v:AV) (H':Hp):Prop:=∃ o1a:ON,∃ o1n:Nat,∃ o1c:Cap,∃ o1k:List AV,v=(.tup [(.agg [(.i r.1),(.sl ⟨o1a,o1n,o1c⟩)]),(.i r.2.2)])/\o1n=(r.2.1).length/\Out H0 Ri H' (Rs.own ⟨o1a,o1n,o1c⟩ eI.z o1k::R0) λR=>CR eI H' R o1k (r.2.1)
def eG.p (F:Nat) (ah:atb) (af:Int):Option (Int×List Int×Int):=(eL.p F ah af).bind λr3=>(bif (r3 != 0) then (some (0,([]:List Int),r3)) else ((bh.p F ah af).bind λr9=>some (r9.1,r9.2,0)))
theorem eG.P {aB ak aC ah af} (ba:ak=ah.length) (h0:Inn H R0 λR=>ROs (ac eI (ac eI (ac eI (ac eI eI)))) H R ⟨aB,ak,aC⟩ ah) {r:atk} (hp:eG.p F ah af=some r):Rt (eG.tw F ⟨aB,ak,aC⟩ af H) (eG.Q H R0 R0  r):=by
 obtain ⟨w0,aO⟩:=h0
 subst ba
 unfold eG.p at hp
 unfold eG.tw eG.twX
 have s0:=w0.rf
 refine aS w0 λH1 w1 s1=>?_
 refine aS w1 λH2 w2 s2=>?_
 refine lSl w2 1 ?_
 refine lI w2 1 ?_
 obtain ⟨r3,e3,hp⟩:=ag hp
 refine aE (eL.P rfl ⟨w2,(aO.step (s1.trans s2))⟩ e3) ?_
 rintro _ H4 ⟨rfl,w4,s4,_⟩
 refine br ?_
 refine ay hp (λhp=>?_) λhp=>?_
 ·refine aq w4 0 λH5 w5 s5=>?_
  refine aq w5 0 λH6 w6 s6=>?_
  refine lI w6 0 ?_
  refine lSl w6 0 ?_
  obtain ⟨w7,s7⟩:=w6.nilS eI.z (by decide)
  obtain ⟨w8,s8⟩:=w7.pp [0] 3
  exact az hp ⟨_,_,_,_,rfl,rfl,w8,(s0.trans (s1.trans (s2.trans (s4.trans (s5.trans (s6.trans (s7.trans s8))))))),((CR.empty:CR eI _ _ [] []).step s8)⟩
 ·refine lSl w4 1 ?_
  refine lI w4 1 ?_
  obtain ⟨r9,e9,hp⟩:=ag hp
  refine aE (bh.P rfl ⟨w4,(aO.step (s1.trans (s2.trans s4)))⟩ e9) ?_
  rintro _ H10 ⟨o1a_10,o1n_10,o1c_10,o1k_10,rfl,rfl,w10,s10,f10_0⟩
  refine br (br (br (br (br ?_))))
  refine aq w10 1 λH11 w11 s11=>?_
  refine aq w11 1 λH12 w12 s12=>?_
  refine lI w12 1 ?_
  refine lSl w12 1 ?_
  obtain ⟨w13,s13⟩:=w12.pp [0] 3
  exact az hp ⟨_,_,_,_,rfl,rfl,w13,(s0.trans (s1.trans (s2.trans (s4.trans (s10.trans (s11.trans (s12.trans s13))))))),(f10_0.step (s11.trans (s12.trans s13)))⟩
def bp.Q (H0:Hp) (Ri R0:as3)  (r:atx) (v:AV) (H':Hp):Prop:=v=(.tup [(.i r.1),(.bool r.2)])/\Out H0 Ri H' (R0) λR=>True
def bp.S61 (H0:Hp) (Ri R0:as3)  (C:at6) (pC:auj):Prop:=∀ {fb rM jC jD gK GV Ao dR GW ms},∀ {H:Hp},Ao=ms.length->(Out H0 Ri H (Rs.blk dR [.i rM,.sl ⟨GV,Ao,GW⟩]::R0) λR=>ROs eI H R ⟨GV,Ao,GW⟩ ms)->∀ {r:atx},pC fb rM ms jC jD gK=some r->Rt (C fb dR 0 jC ⟨GV,Ao,GW⟩ jD gK H) (bp.Q H0 Ri R0  r)
def bp.pj3 (F:Nat) (ar:auj) (vD:Int) (GX:Int) (Ap:as6) (vE:Int) (vF:Int) (vG:Int) (vH:Int):Option (Int×Bool):=ar vD GX Ap (wrap .i64 (vE+vF)) vG (wrap .i64 (vH+1))
theorem bp.j3_P  {C61_:at6} {ar:auj} (hC61:bp.S61 H0 Ri R0  C61_ ar) {vD GX vE vF vG vH Uh GY CU Ui Ap} (aq4:GY=Ap.length) (h0:Out H0 Ri H (Rs.blk CU [.i GX,.sl ⟨Uh,GY,Ui⟩]::R0) λR=>ROs eI H R ⟨Uh,GY,Ui⟩ Ap) {r:atx} (hp:bp.pj3 F ar vD GX Ap vE vF vG vH=some r):Rt (bp.j3 F (cO.tw F) C61_ vD CU 0 vE vF ⟨Uh,GY,Ui⟩ vG vH H) (bp.Q H0 Ri R0  r):=by
 obtain ⟨w0,s0,aq5⟩:=h0
 subst aq4
 unfold bp.pj3 at hp
 unfold bp.j3
 exact hC61 rfl ⟨w0,s0,aq5⟩ hp
def bp.pl61 (F:Nat) :Nat->Int->Int->List Int->Int->Int->Int->Option (Int×Bool)
 | 0,_,_,_,_,_,_=>none
 | k+1,fb,rM,ms,jC,jD,gK=>(bif (decide (gK<jD)) then ((ix ms gK).bind λn1=>(bif ((Int.tmod (wrap .i64 (rM+gK)) 2) != 0) then (bp.pj3 F (bp.pl61 F k) fb rM ms jC (wrap .i64 ((gt ms n1) * fb)) jD gK) else (bp.pj3 F (bp.pl61 F k) fb rM ms jC (gt ms n1) jD gK))) else (some (jC,true)))
theorem bp.l61_P  :∀ k,bp.S61 H0 Ri R0  (bp.l61 F (cO.tw F)  k) (bp.pl61 F  k):=by
 intro k
 induction k with
 | zero=>unfold bp.S61;intros;rename_i hp;cases hp
 | succ k ih=>
  intro fb rM jC jD gK GV Ao dR GW ms H aq6 h0 r hp
  obtain ⟨w0,s0,Uj⟩:=h0
  subst aq6
  unfold bp.pl61 at hp
  unfold bp.l61
  refine ay hp (λhp=>?_) λhp=>?_
  ·obtain ⟨n1,g1,hp⟩:=ag hp
   obtain ⟨p1,q1,i1,h1,j1⟩:=ROs.ixr Uj rfl g1
   refine ai i1 ?_
   have h1:_=[_]:=h1
   subst h1
   refine ai (aG (j1 0 _ rfl)) ?_
   refine lI w0 0 ?_
   refine ay hp (λhp=>?_) λhp=>?_
   ·exact bp.j3_P (@ih) rfl ⟨w0,s0,Uj⟩ hp
   ·exact bp.j3_P (@ih) rfl ⟨w0,s0,Uj⟩ hp
  ·obtain ⟨w2,s2⟩:=w0.pp [] 1
   exact az hp ⟨rfl,w2,(s0.trans s2),trivial⟩
def bp.p (F:Nat) (aa:Int) (aF:as6) (au:Int):Option (Int×Bool):=(cO.p F aa aF).bind λr2=>(bif (!r2) then (some (0,false)) else ((bif (au != 1) then ((bif (au != (-1)) then (some (0,false)) else (bp.pl61 F F au aa aF 0 (aF.length:Int) 0))) else (bp.pl61 F F au aa aF 0 (aF.length:Int) 0))))
theorem bp.P {aa au cj bD ck aF} (du:bD=aF.length) (h0:Inn H R0 λR=>ROs eI H R ⟨cj,bD,ck⟩ aF) {r:atx} (hp:bp.p F aa aF au=some r):Rt (bp.tw F aa ⟨cj,bD,ck⟩ au H) (bp.Q H R0 R0  r):=by
 obtain ⟨w0,cq⟩:=h0
 subst du
 unfold bp.p at hp
 unfold bp.tw bp.twX
 have s0:=w0.rf
 refine aS w0 λH1 w1 s1=>?_
 refine lI w1 0 ?_
 refine lSl w1 0 ?_
 obtain ⟨r2,e2,hp⟩:=ag hp
 refine aE (cO.P rfl ⟨w1,(cq.step s1)⟩ e2) ?_
 rintro _ H3 ⟨rfl,w3,s3,_⟩
 refine br ?_
 refine ay hp (λhp=>?_) λhp=>?_
 ·obtain ⟨w4,s4⟩:=w3.pp [] 1
  exact az hp ⟨rfl,w4,(s0.trans (s1.trans (s3.trans s4))),trivial⟩
 ·refine ay hp (λhp=>?_) λhp=>?_
  ·refine ay hp (λhp=>?_) λhp=>?_
   ·obtain ⟨w5,s5⟩:=w3.pp [] 1
    exact az hp ⟨rfl,w5,(s0.trans (s1.trans (s3.trans s5))),trivial⟩
   ·refine lSl w3 0 ?_
    exact bp.l61_P F rfl ⟨w3,(s0.trans (s1.trans s3)),(cq.step (s1.trans s3))⟩ hp
  ·refine lSl w3 0 ?_
   exact bp.l61_P F rfl ⟨w3,(s0.trans (s1.trans s3)),(cq.step (s1.trans s3))⟩ hp
def eH.Q (H0:Hp) (Ri R0:as3)  (r:atq) (v:AV) (H':Hp):Prop:=v=(.tup [(.i r.1),(.i r.2)])/\Out H0 Ri H' (R0) λR=>True
def eH.p (F:Nat) (ah:atb) (af:Int):Option (Int×Int):=(eG.p F ah af).bind λr2=>(bif (r2.2.2 != 0) then (some (0,r2.2.2)) else ((bp.p F r2.1 r2.2.1 (-1)).bind λr10=>(df.p F r10.1).bind λr13=>some (r13,0)))
theorem eH.P {aB ak aC ah af} (ba:ak=ah.length) (h0:Inn H R0 λR=>ROs (ac eI (ac eI (ac eI (ac eI eI)))) H R ⟨aB,ak,aC⟩ ah) {r:atq} (hp:eH.p F ah af=some r):Rt (eH.tw F ⟨aB,ak,aC⟩ af H) (eH.Q H R0 R0  r):=by
 obtain ⟨w0,aO⟩:=h0
 subst ba
 unfold eH.p at hp
 unfold eH.tw eH.twX
 have s0:=w0.rf
 refine aS w0 λH1 w1 s1=>?_
 refine lSl w1 0 ?_
 refine lI w1 0 ?_
 obtain ⟨r2,e2,hp⟩:=ag hp
 refine aE (eG.P rfl ⟨w1,(aO.step s1)⟩ e2) ?_
 rintro _ H3 ⟨o1a_3,o1n_3,o1c_3,o1k_3,rfl,rfl,w3,s3,f3_0⟩
 refine br (br (br (br (br (br (br (br (br ?_))))))))
 refine aS w3 λH4 w4 s4=>?_
 refine aq w4 0 λH5 w5 s5=>?_
 refine aq w5 0 λH6 w6 s6=>?_
 refine ay hp (λhp=>?_) λhp=>?_
 ·obtain ⟨w7,s7⟩:=w6.pp [] 3
  exact az hp ⟨rfl,w7,(s0.trans (s1.trans (s3.trans (s4.trans (s5.trans (s6.trans s7)))))),trivial⟩
 ·refine lI w6 0 ?_
  refine lSl w6 0 ?_
  obtain ⟨w8,s8⟩:=w6.pp [1,0,2] 3
  have f9:=W.borrow1 eI w8 (f3_0.step (s4.trans (s5.trans (s6.trans s8))))
  obtain ⟨w9,s9⟩:=w8.right1
  obtain ⟨r10,e10,hp⟩:=ag hp
  refine aE (bp.P rfl ⟨w9,f9⟩ e10) ?_
  rintro _ H11 ⟨rfl,w11,s11,_⟩
  obtain ⟨w12,s12⟩:=W.frame1 w8 w11 s11
  refine br (br (br (br (br ?_))))
  obtain ⟨r13,e13,hp⟩:=ag hp
  refine aE (df.P ⟨w12,trivial⟩ e13) ?_
  rintro _ H14 ⟨rfl,w14,s14,_⟩
  refine br ?_
  obtain ⟨w15,s15⟩:=w14.pp [] 3
  exact az hp ⟨rfl,w15,(s0.trans (s1.trans (s3.trans (s4.trans (s5.trans (s6.trans (s8.trans (s12.trans (s14.trans s15))))))))),trivial⟩
def fm.Q (H0:Hp) (Ri R0:as3)  (r:Bool) (v:AV) (H':Hp):Prop:=v=(.bool r)/\Out H0 Ri H' (R0) λR=>True
def fm.p (F:Nat) (aa:Int) (af:Int) (bV:Int) (bW:Int) (bQ:Int) (cD:Int) (lf:Int) (lg:Int) (lj:Int) (ll:Int):Option (Bool):=(bif (aa != cD) then (some false) else ((bif (af != lf) then (some false) else ((bif (bV != lg) then (some false) else ((bif (bW != lj) then (some false) else ((bif (bQ != ll) then (some false) else (some true))))))))))
theorem fm.P {aa af bV bW bQ cD lf lg lj ll}  (h0:Inn H R0 λR=>True) {r:Bool} (hp:fm.p F aa af bV bW bQ cD lf lg lj ll=some r):Rt (fm.tw F aa af bV bW bQ cD lf lg lj ll H) (fm.Q H R0 R0  r):=by
 obtain ⟨w0,_⟩:=h0
 unfold fm.p at hp
 unfold fm.tw fm.twX
 have s0:=w0.rf
 refine aS w0 λH1 w1 s1=>?_
 refine aS w1 λH2 w2 s2=>?_
 refine lI w2 1 ?_
 refine lI w2 0 ?_
 refine ay hp (λhp=>?_) λhp=>?_
 ·obtain ⟨w3,s3⟩:=w2.pp [] 2
  exact az hp ⟨rfl,w3,(s0.trans (s1.trans (s2.trans s3))),trivial⟩
 ·refine lI w2 1 ?_
  refine lI w2 0 ?_
  refine ay hp (λhp=>?_) λhp=>?_
  ·obtain ⟨w4,s4⟩:=w2.pp [] 2
   exact az hp ⟨rfl,w4,(s0.trans (s1.trans (s2.trans s4))),trivial⟩
  ·refine lI w2 1 ?_
   refine lI w2 0 ?_
   refine ay hp (λhp=>?_) λhp=>?_
   ·obtain ⟨w5,s5⟩:=w2.pp [] 2
    exact az hp ⟨rfl,w5,(s0.trans (s1.trans (s2.trans s5))),trivial⟩
   ·refine lI w2 1 ?_
    refine lI w2 0 ?_
    refine ay hp (λhp=>?_) λhp=>?_
    ·obtain ⟨w6,s6⟩:=w2.pp [] 2
     exact az hp ⟨rfl,w6,(s0.trans (s1.trans (s2.trans s6))),trivial⟩
    ·refine lI w2 1 ?_
     refine lI w2 0 ?_
     refine ay hp (λhp=>?_) λhp=>?_
     ·obtain ⟨w7,s7⟩:=w2.pp [] 2
      exact az hp ⟨rfl,w7,(s0.trans (s1.trans (s2.trans s7))),trivial⟩
     ·obtain ⟨w8,s8⟩:=w2.pp [] 2
      exact az hp ⟨rfl,w8,(s0.trans (s1.trans (s2.trans s8))),trivial⟩
def bU.Q (H0:Hp) (Ri R0:as3)  (r:Bool) (v:AV) (H':Hp):Prop:=v=(.bool r)/\Out H0 Ri H' (R0) λR=>True
def bU.S29 (H0:Hp) (Ri R0:as3)  (C:Sl->Sl->Int->Hp->OA) (pC:List (Int×Int×Int×Int×Int)->List (Int×Int×Int×Int×Int)->Int->Option (Bool)):Prop:=∀ {pR Uk mX GZ pT Ul er jZ iy},∀ {H:Hp},mX=er.length->GZ=jZ.length->(Out H0 Ri H R0 λR=>ROs (ac eI (ac eI (ac eI (ac eI eI)))) H R ⟨pR,mX,pT⟩ er/\ROs (ac eI (ac eI (ac eI (ac eI eI)))) H R ⟨Uk,GZ,Ul⟩ jZ)->∀ {r:Bool},pC er jZ iy=some r->Rt (C ⟨pR,mX,pT⟩ ⟨Uk,GZ,Ul⟩ iy H) (bU.Q H0 Ri R0  r)
def bU.pl29 (F:Nat) :Nat->List (Int×Int×Int×Int×Int)->List (Int×Int×Int×Int×Int)->Int->Option (Bool)
 | 0,_,_,_=>none
 | k+1,er,jZ,iy=>(bif (decide (iy<(er.length:Int))) then ((ix er iy).bind λn1=>(ix jZ iy).bind λn2=>(fm.p F ((gt er n1).1) ((gt er n1).2.1) ((gt er n1).2.2.1) ((gt er n1).2.2.2.1) ((gt er n1).2.2.2.2) ((gt jZ n2).1) ((gt jZ n2).2.1) ((gt jZ n2).2.2.1) ((gt jZ n2).2.2.2.1) ((gt jZ n2).2.2.2.2)).bind λr3=>(bif (!r3) then (some false) else (bU.pl29 F k er jZ (wrap .i64 (iy+1))))) else (some true))
theorem bU.l29_P  :∀ k,bU.S29 H0 Ri R0  (bU.l29 F (fm.tw F)  k) (bU.pl29 F  k):=by
 intro k
 induction k with
 | zero=>unfold bU.S29;intros;rename_i hp;cases hp
 | succ k ih=>
  intro pR Uk mX GZ pT Ul er jZ iy H HM aq7 h0 r hp
  obtain ⟨w0,s0,xy,afG⟩:=h0
  subst HM
  subst aq7
  unfold bU.pl29 at hp
  unfold bU.l29
  refine ay hp (λhp=>?_) λhp=>?_
  ·obtain ⟨n1,g1,hp⟩:=ag hp
   obtain ⟨p1,q1,i1,h1,j1⟩:=ROs.ixr xy rfl g1
   refine ai i1 ?_
   obtain ⟨_,_,rfl,rfl,_,_,rfl,rfl,_,_,rfl,rfl,_,_,rfl,rfl,rfl⟩:=h1
   refine ai (aG (j1 0 _ rfl)) ?_
   refine ai (aG (j1 1 _ rfl)) ?_
   refine ai (aG (j1 2 _ rfl)) ?_
   refine ai (aG (j1 3 _ rfl)) ?_
   refine ai (aG (j1 4 _ rfl)) ?_
   obtain ⟨n2,g2,hp⟩:=ag hp
   obtain ⟨p2,q2,i2,h2,j2⟩:=ROs.ixr afG rfl g2
   refine ai i2 ?_
   obtain ⟨_,_,rfl,rfl,_,_,rfl,rfl,_,_,rfl,rfl,_,_,rfl,rfl,rfl⟩:=h2
   refine ai (aG (j2 0 _ rfl)) ?_
   refine ai (aG (j2 1 _ rfl)) ?_
   refine ai (aG (j2 2 _ rfl)) ?_
   refine ai (aG (j2 3 _ rfl)) ?_
   refine ai (aG (j2 4 _ rfl)) ?_
   obtain ⟨r3,e3,hp⟩:=ag hp
   refine aE (fm.P ⟨w0,trivial⟩ e3) ?_
   rintro _ H4 ⟨rfl,w4,s4,_⟩
   refine br ?_
   refine ay hp (λhp=>?_) λhp=>?_
   ·exact az hp ⟨rfl,w4,(s0.trans s4),trivial⟩
   ·exact ih rfl rfl ⟨w4,(s0.trans s4),(xy.step s4),(afG.step s4)⟩ hp
  ·exact az hp ⟨rfl,w0,s0,trivial⟩
def bU.p (F:Nat) (ah:atb) (jF:atb):Option (Bool):=(bif ((ah.length:Int) != (jF.length:Int)) then (some false) else (bU.pl29 F F ah jF 0))
theorem bU.P {aB yu ak qz aC yv ah jF} (ba:ak=ah.length) (KC:qz=jF.length) (h0:Inn H R0 λR=>ROs (ac eI (ac eI (ac eI (ac eI eI)))) H R ⟨aB,ak,aC⟩ ah/\ROs (ac eI (ac eI (ac eI (ac eI eI)))) H R ⟨yu,qz,yv⟩ jF) {r:Bool} (hp:bU.p F ah jF=some r):Rt (bU.tw F ⟨aB,ak,aC⟩ ⟨yu,qz,yv⟩ H) (bU.Q H R0 R0  r):=by
 obtain ⟨w0,aO,KD⟩:=h0
 subst ba
 subst KC
 unfold bU.p at hp
 unfold bU.tw bU.twX
 have s0:=w0.rf
 refine ay hp (λhp=>?_) λhp=>?_
 ·exact az hp ⟨rfl,w0,s0,trivial⟩
 ·exact bU.l29_P F rfl rfl ⟨w0,s0,aO,KD⟩ hp
def eJ.Q (H0:Hp) (Ri R0:as3)  (r:Bool) (v:AV) (H':Hp):Prop:=v=(.bool r)/\Out H0 Ri H' (R0) λR=>True
def eJ.p (F:Nat) (ah:atb) (af:Int) (ey:atb) (bu:Int):Option (Bool):=(bU.p F ah ey).bind λr3=>(bif (!r3) then (some false) else ((bif (af != bu) then (some false) else (some true))))
theorem eJ.P {aB lF ak iB aC lG ah ey af bu} (ba:ak=ah.length) (ra:iB=ey.length) (h0:Inn H R0 λR=>ROs (ac eI (ac eI (ac eI (ac eI eI)))) H R ⟨aB,ak,aC⟩ ah/\ROs (ac eI (ac eI (ac eI (ac eI eI)))) H R ⟨lF,iB,lG⟩ ey) {r:Bool} (hp:eJ.p F ah af ey bu=some r):Rt (eJ.tw F ⟨aB,ak,aC⟩ af ⟨lF,iB,lG⟩ bu H) (eJ.Q H R0 R0  r):=by
 obtain ⟨w0,aO,rb⟩:=h0
 subst ba
 subst ra
 unfold eJ.p at hp
 unfold eJ.tw eJ.twX
 have s0:=w0.rf
 refine aS w0 λH1 w1 s1=>?_
 refine aS w1 λH2 w2 s2=>?_
 refine lSl w2 1 ?_
 refine lSl w2 0 ?_
 obtain ⟨r3,e3,hp⟩:=ag hp
 refine aE (bU.P rfl rfl ⟨w2,(aO.step (s1.trans s2)),(rb.step (s1.trans s2))⟩ e3) ?_
 rintro _ H4 ⟨rfl,w4,s4,_⟩
 refine br ?_
 refine ay hp (λhp=>?_) λhp=>?_
 ·obtain ⟨w5,s5⟩:=w4.pp [] 2
  exact az hp ⟨rfl,w5,(s0.trans (s1.trans (s2.trans (s4.trans s5)))),trivial⟩
 ·refine lI w4 1 ?_
  refine lI w4 0 ?_
  refine ay hp (λhp=>?_) λhp=>?_
  ·obtain ⟨w6,s6⟩:=w4.pp [] 2
   exact az hp ⟨rfl,w6,(s0.trans (s1.trans (s2.trans (s4.trans s6)))),trivial⟩
  ·obtain ⟨w7,s7⟩:=w4.pp [] 2
   exact az hp ⟨rfl,w7,(s0.trans (s1.trans (s2.trans (s4.trans s7)))),trivial⟩
def dL.Q (H0:Hp) (Ri R0:as3)  (r:Bool) (v:AV) (H':Hp):Prop:=v=(.bool r)/\Out H0 Ri H' (R0) λR=>True
def dL.p (F:Nat) (ah:atb) (af:Int):Option (Bool):=(dZ.p F ah 1048576).bind λr2=>(bif (decide (r2<0)) then (some true) else ((dM.p F ah af).bind λr5=>(eC.p F r5.1 r5.2).bind λr8=>(dM.p F ah af).bind λr11=>(eH.p F r11.1 r11.2).bind λr18=>(bif (r18.1 != r8.1) then (some false) else ((bif (r18.2 != r8.2) then (some false) else ((dM.p F ah af).bind λr23=>(eJ.p F r11.1 r11.2 r23.1 r23.2).bind λr29=>(bif (!r29) then (some false) else (some true))))))))
theorem dL.P {aB ak aC ah af} (ba:ak=ah.length) (h0:Inn H R0 λR=>ROs (ac eI (ac eI (ac eI (ac eI eI)))) H R ⟨aB,ak,aC⟩ ah) {r:Bool} (hp:dL.p F ah af=some r):Rt (dL.tw F ⟨aB,ak,aC⟩ af H) (dL.Q H R0 R0  r):=by
 obtain ⟨w0,aO⟩:=h0
 subst ba
 unfold dL.p at hp
 unfold dL.tw dL.twX
 have s0:=w0.rf
 refine aS w0 λH1 w1 s1=>?_
 refine lSl w1 0 ?_
 refine lI w1 0 ?_
 obtain ⟨r2,e2,hp⟩:=ag hp
 refine aE (dZ.P rfl ⟨w1,(aO.step s1)⟩ e2) ?_
 rintro _ H3 ⟨rfl,w3,s3,_⟩
 refine br ?_
 refine ay hp (λhp=>?_) λhp=>?_
 ·obtain ⟨w4,s4⟩:=w3.pp [] 1
  exact az hp ⟨rfl,w4,(s0.trans (s1.trans (s3.trans s4))),trivial⟩
 ·refine lSl w3 0 ?_
  refine lI w3 0 ?_
  obtain ⟨r5,e5,hp⟩:=ag hp
  refine aE (dM.P rfl ⟨w3,(aO.step (s1.trans s3))⟩ e5) ?_
  rintro _ H6 ⟨o0a_6,o0n_6,o0c_6,o0k_6,rfl,rfl,w6,s6,f6_0⟩
  refine br (br (br (br (br ?_))))
  have f7:=W.borrow1 (ac eI (ac eI (ac eI (ac eI eI)))) w6 f6_0
  obtain ⟨w7,s7⟩:=w6.right1
  obtain ⟨r8,e8,hp⟩:=ag hp
  refine aE (eC.P rfl ⟨w7,f7⟩ e8) ?_
  rintro _ H9 ⟨rfl,w9,s9,_⟩
  obtain ⟨w10,s10⟩:=W.frame1 w6 w9 s9
  refine br (br (br (br (br ?_))))
  refine lSl w10 1 ?_
  refine lI w10 1 ?_
  obtain ⟨r11,e11,hp⟩:=ag hp
  refine aE (dM.P rfl ⟨w10,(aO.step (s1.trans (s3.trans (s6.trans s10))))⟩ e11) ?_
  rintro _ H12 ⟨o0a_12,o0n_12,o0c_12,o0k_12,rfl,rfl,w12,s12,f12_0⟩
  refine br (br (br (br (br ?_))))
  refine aS w12 λH13 w13 s13=>?_
  refine aq w13 0 λH14 w14 s14=>?_
  refine aq w14 0 λH15 w15 s15=>?_
  refine lSl w15 0 ?_
  refine lI w15 0 ?_
  obtain ⟨w16,s16⟩:=w15.pp [1,0,2,3] 4
  have f17:=W.borrow1 (ac eI (ac eI (ac eI (ac eI eI)))) w16 (f12_0.step (s13.trans (s14.trans (s15.trans s16))))
  obtain ⟨w17,s17⟩:=w16.right1
  obtain ⟨r18,e18,hp⟩:=ag hp
  refine aE (eH.P rfl ⟨w17,f17⟩ e18) ?_
  rintro _ H19 ⟨rfl,w19,s19,_⟩
  obtain ⟨w20,s20⟩:=W.frame1 w16 w19 s19
  refine br (br (br (br (br ?_))))
  refine ay hp (λhp=>?_) λhp=>?_
  ·obtain ⟨w21,s21⟩:=w20.pp [] 4
   exact az hp ⟨rfl,w21,(s0.trans (s1.trans (s3.trans (s6.trans (s10.trans (s12.trans (s13.trans (s14.trans (s15.trans (s16.trans (s20.trans s21))))))))))),trivial⟩
  ·refine ay hp (λhp=>?_) λhp=>?_
   ·obtain ⟨w22,s22⟩:=w20.pp [] 4
    exact az hp ⟨rfl,w22,(s0.trans (s1.trans (s3.trans (s6.trans (s10.trans (s12.trans (s13.trans (s14.trans (s15.trans (s16.trans (s20.trans s22))))))))))),trivial⟩
   ·refine lSl w20 1 ?_
    refine lI w20 1 ?_
    refine lSl w20 3 ?_
    refine lI w20 3 ?_
    obtain ⟨r23,e23,hp⟩:=ag hp
    refine aE (dM.P rfl ⟨w20,(aO.step (s1.trans (s3.trans (s6.trans (s10.trans (s12.trans (s13.trans (s14.trans (s15.trans (s16.trans s20))))))))))⟩ e23) ?_
    rintro _ H24 ⟨o0a_24,o0n_24,o0c_24,o0k_24,rfl,rfl,w24,s24,f24_0⟩
    refine br (br (br (br (br ?_))))
    refine eK (W.cons_of (Rn:=[_]) w20 w24 s24) ?_
    obtain ⟨w26,s26⟩:=w24.pp [1,0,2,3,4] 5
    have f27:=W.borrow1 (ac eI (ac eI (ac eI (ac eI eI)))) w26 (f12_0.step (s13.trans (s14.trans (s15.trans (s16.trans (s20.trans (s24.trans s26)))))))
    obtain ⟨w27,s27⟩:=w26.right1
    have f28:=W.borrow1 (ac eI (ac eI (ac eI (ac eI eI)))) w27 ((f24_0.step s26).step s27)
    obtain ⟨w28,s28⟩:=w27.right1
    obtain ⟨r29,e29,hp⟩:=ag hp
    refine aE (eJ.P rfl rfl ⟨w28,(f27.step s28),f28⟩ e29) ?_
    rintro _ H30 ⟨rfl,w30,s30,_⟩
    obtain ⟨w31,s31⟩:=W.frame1 w27 w30 s30
    obtain ⟨w32,s32⟩:=W.frame1 w26 w31 s31
    refine br ?_
    refine ay hp (λhp=>?_) λhp=>?_
    ·obtain ⟨w33,s33⟩:=w32.pp [] 5
     exact az hp ⟨rfl,w33,(s0.trans (s1.trans (s3.trans (s6.trans (s10.trans (s12.trans (s13.trans (s14.trans (s15.trans (s16.trans (s20.trans (s24.trans (s26.trans (s32.trans s33)))))))))))))),trivial⟩
    ·obtain ⟨w34,s34⟩:=w32.pp [] 5
     exact az hp ⟨rfl,w34,(s0.trans (s1.trans (s3.trans (s6.trans (s10.trans (s12.trans (s13.trans (s14.trans (s15.trans (s16.trans (s20.trans (s24.trans (s26.trans (s32.trans s34)))))))))))))),trivial⟩
end
end Go.Proofs.Ytppbogklbhfboaa.AE
