import Derived.Test.YtppbogklbhfboaaP1
import Derived.Test.YtppbogklbhfboaaT1
import Derived.Test.YtppbogklbhfboaaE2
set_option linter.unusedVariables false
set_option linter.unusedSimpArgs false
namespace Go.Proofs.Ytppbogklbhfboaa.AE
open Go Go.AE Go.Proofs IntKind
set_option linter.unusedVariables false
variable {F:Nat} {H H0:Hp} {Ri R0:atf}
set_option maxHeartbeats 4000000
set_option maxRecDepth 100000
noncomputable section
def aU.Q (H0:Hp) (Ri R0:atf)  (r:atl) (v:AV) (H':Hp):Prop:=∃ o1a:ON,∃ o1n:Nat,∃ o1c:Cap,∃ o1k:List AV,v=(.agg [(.i r.1),(.sl ⟨o1a,o1n,o1c⟩)])/\o1n=(r.2).length/\Out H0 Ri H' (Rs.own ⟨o1a,o1n,o1c⟩ eI.z o1k::R0) λR=>CR eI H' R o1k (r.2)
def aU.S61 (H0:Hp) (Ri R0:atf)  (C:atX) (pC:at4):Prop:=∀ {gI adh pc dB ir gJ Ru Rv Rw Gj fL Gk fW Gl Rx Ry Rz RA nw iX RB RC},∀ {H:Hp},Gj=RA.length->Gk=nw.length->Gl=iX.length->(Out H0 Ri H (Rs.own ⟨Ru,Gj,Rx⟩ eI.z RB::Rs.blk fL [.i adh,.sl ⟨Ru,Gj,Rx⟩]::Rs.own ⟨Rv,Gk,Ry⟩ eI.z RC::Rs.blk fW [.i pc,.sl ⟨Rv,Gk,Ry⟩]::R0) λR=>CR eI H R RB RA/\CR eI H R RC nw/\ROs eI H R ⟨Rw,Gl,Rz⟩ iX)->∀ {r:atl},pC gI pc nw dB iX ir gJ=some r->Rt (C gI fL 0 fW 0 dB ⟨Rw,Gl,Rz⟩ ir gJ H) (aU.Q H0 Ri R0  r)
def aU.pj4 (F:Nat) (ar:at4) (uR:Int) (Gm:Int) (zR:ati) (uS:Int) (uT:Int) (zS:ati) (uU:Int) (uV:Int):Option (Int×List Int):=(eo.p F uT).bind λr1=>ar uR Gm zR (wrap .i64 (uS+r1)) zS uU (wrap .i64 (uV+1))
theorem aU.j4_P  {C61_:atX} {ar:at4} (hC61:aU.S61 H0 Ri R0  C61_ ar) {uR ao5 Gm uS uT uU uV adi adj adk RD Cl RE Cm RF adm adn ado adp zR zS adq ads} (ao6:RD=adp.length) (ao7:RE=zR.length) (ao8:RF=zS.length) (h0:Out H0 Ri H (Rs.own ⟨adi,RD,adm⟩ eI.z adq::Rs.blk Cl [.i ao5,.sl ⟨adi,RD,adm⟩]::Rs.own ⟨adj,RE,adn⟩ eI.z ads::Rs.blk Cm [.i Gm,.sl ⟨adj,RE,adn⟩]::R0) λR=>CR eI H R adq adp/\CR eI H R ads zR/\ROs eI H R ⟨adk,RF,ado⟩ zS) {r:atl} (hp:aU.pj4 F ar uR Gm zR uS uT zS uU uV=some r):Rt (aU.j4 F (cn.tw F) (cq.tw F) (eo.tw F) C61_ uR Cl 0 Cm 0 uS uT ⟨adk,RF,ado⟩ uU uV H) (aU.Q H0 Ri R0  r):=by
 obtain ⟨w0,s0,ao9,ao_,apa⟩:=h0
 subst ao6
 subst ao7
 subst ao8
 unfold aU.pj4 at hp
 unfold aU.j4
 obtain ⟨r1,e1,hp⟩:=ag hp
 refine aE (eo.P ⟨w0,trivial⟩ e1) ?_
 rintro _ H2 ⟨rfl,w2,s2,_⟩
 refine br ?_
 exact hC61 rfl rfl rfl ⟨w2,(s0.trans s2),(ao9.step s2),(ao_.step s2),(apa.step s2)⟩ hp
def aU.pj5 (F:Nat) (ar:at4) (uW:Int) (Gn:Int) (zT:ati) (uX:Int) (uY:Int) (zU:ati) (uZ:Int) (u_:Int):Option (Int×List Int):=(eo.p F uY).bind λr1=>ar uW Gn zT (wrap .i64 (uX+r1)) zU uZ (wrap .i64 (u_+1))
theorem aU.j5_P  {C61_:atX} {ar:at4} (hC61:aU.S61 H0 Ri R0  C61_ ar) {uW apb Gn uX uY uZ u_ adt adu adv RG Cn RH Co RJ adw adx ady adz zT zU adA adB} (apc:RG=adz.length) (apd:RH=zT.length) (ape:RJ=zU.length) (h0:Out H0 Ri H (Rs.own ⟨adt,RG,adw⟩ eI.z adA::Rs.blk Cn [.i apb,.sl ⟨adt,RG,adw⟩]::Rs.own ⟨adu,RH,adx⟩ eI.z adB::Rs.blk Co [.i Gn,.sl ⟨adu,RH,adx⟩]::R0) λR=>CR eI H R adA adz/\CR eI H R adB zT/\ROs eI H R ⟨adv,RJ,ady⟩ zU) {r:atl} (hp:aU.pj5 F ar uW Gn zT uX uY zU uZ u_=some r):Rt (aU.j5 F (cn.tw F) (cq.tw F) (eo.tw F) C61_ uW Cn 0 Co 0 uX uY ⟨adv,RJ,ady⟩ uZ u_ H) (aU.Q H0 Ri R0  r):=by
 obtain ⟨w0,s0,apf,apg,aph⟩:=h0
 subst apc
 subst apd
 subst ape
 unfold aU.pj5 at hp
 unfold aU.j5
 obtain ⟨r1,e1,hp⟩:=ag hp
 refine aE (eo.P ⟨w0,trivial⟩ e1) ?_
 rintro _ H2 ⟨rfl,w2,s2,_⟩
 refine br ?_
 exact hC61 rfl rfl rfl ⟨w2,(s0.trans s2),(apf.step s2),(apg.step s2),(aph.step s2)⟩ hp
def aU.pj6 (F:Nat) (ar:at4) (vd:Int) (Gp:Int) (zV:ati) (ve:Int) (vf:Int) (zW:ati) (vg:Int) (vh:Int):Option (Int×List Int):=aU.pj5 F ar vd Gp zV ve vf zW vg vh
theorem aU.j6_P  {C61_:atX} {ar:at4} (hC61:aU.S61 H0 Ri R0  C61_ ar) {vd api Gp ve vf vg vh adC adD adE RK Cp RL Cq RM adF adG adH adI zV zW adJ adK} (apj:RK=adI.length) (apk:RL=zV.length) (apl:RM=zW.length) (h0:Out H0 Ri H (Rs.own ⟨adC,RK,adF⟩ eI.z adJ::Rs.blk Cp [.i api,.sl ⟨adC,RK,adF⟩]::Rs.own ⟨adD,RL,adG⟩ eI.z adK::Rs.blk Cq [.i Gp,.sl ⟨adD,RL,adG⟩]::R0) λR=>CR eI H R adJ adI/\CR eI H R adK zV/\ROs eI H R ⟨adE,RM,adH⟩ zW) {r:atl} (hp:aU.pj6 F ar vd Gp zV ve vf zW vg vh=some r):Rt (aU.j6 F (cn.tw F) (cq.tw F) (eo.tw F) C61_ vd Cp 0 Cq 0 ve vf ⟨adE,RM,adH⟩ vg vh H) (aU.Q H0 Ri R0  r):=by
 obtain ⟨w0,s0,apm,apo,apq⟩:=h0
 subst apj
 subst apk
 subst apl
 unfold aU.pj6 at hp
 unfold aU.j6
 exact aU.j5_P (@hC61) rfl rfl rfl ⟨w0,s0,apm,apo,apq⟩ hp
def aU.pl61 (F:Nat) :Nat->Int->Int->List Int->Int->List Int->Int->Int->Option (Int×List Int)
 | 0,_,_,_,_,_,_,_=>none
 | k+1,gI,pc,nw,dB,iX,ir,gJ=>(bif (decide (gJ<ir)) then ((ix iX gJ).bind λn1=>(bif ((gt iX n1)==gI) then ((cn.p F 1 dB).bind λr2=>(cq.p F pc nw r2.1 r2.2).bind λr8=>aU.pj4 F (aU.pl61 F k) gI r8.1 r8.2 dB (gt iX n1) iX ir gJ) else ((bif ((gt iX n1)==(wrap .i64 (0 - gI))) then ((cn.p F (-1) (wrap .i64 (dB - 1))).bind λr15=>(cq.p F pc nw r15.1 r15.2).bind λr21=>aU.pj6 F (aU.pl61 F k) gI r21.1 r21.2 dB (gt iX n1) iX ir gJ) else (aU.pj6 F (aU.pl61 F k) gI pc nw dB (gt iX n1) iX ir gJ))))) else (some (pc,nw)))
theorem aU.l61_P  :∀ k,aU.S61 H0 Ri R0  (aU.l61 F (cn.tw F) (cq.tw F) (eo.tw F)  k) (aU.pl61 F  k):=by
 intro k
 induction k with
 | zero=>unfold aU.S61;intros;rename_i hp;cases hp
 | succ k ih=>
  intro gI adh pc dB ir gJ Ru Rv Rw Gj fL Gk fW Gl Rx Ry Rz RA nw iX RB RC H apr aps apt h0 r hp
  obtain ⟨w0,s0,RN,Gq,Gr⟩:=h0
  subst apr
  subst aps
  subst apt
  unfold aU.pl61 at hp
  unfold aU.l61
  refine ay hp (λhp=>?_) λhp=>?_
  ·obtain ⟨n1,g1,hp⟩:=ag hp
   obtain ⟨p1,q1,i1,h1,j1⟩:=ROs.ixr Gr rfl g1
   refine ai i1 ?_
   have h1:_=[_]:=h1
   subst h1
   refine ai (aG (j1 0 _ rfl)) ?_
   refine ay hp (λhp=>?_) λhp=>?_
   ·refine lI w0 3 ?_
    refine lSl w0 3 ?_
    obtain ⟨r2,e2,hp⟩:=ag hp
    refine aE (cn.P ⟨w0,trivial⟩ e2) ?_
    rintro _ H3 ⟨o1a_3,o1n_3,o1c_3,o1k_3,rfl,rfl,w3,s3,f3_0⟩
    refine br (br (br (br (br ?_))))
    refine eL (W.cons_of (Rn:=[_]) w0 w3 s3) ?_
    obtain ⟨w5,s5⟩:=w3.pp [3,0,1,2,4] 5
    have f6:=W.borrow1 eI w5 (Gq.step (s3.trans s5))
    obtain ⟨w6,s6⟩:=w5.right1
    have f7:=W.borrow1 eI w6 ((f3_0.step s5).step s6)
    obtain ⟨w7,s7⟩:=w6.right1
    obtain ⟨r8,e8,hp⟩:=ag hp
    refine aE (cq.P rfl rfl ⟨w7,(f6.step s7),f7⟩ e8) ?_
    rintro _ H9 ⟨o1a_9,o1n_9,o1c_9,o1k_9,rfl,rfl,w9,s9,f9_0⟩
    obtain ⟨w10,s10⟩:=W.frame1 w6 w9 s9
    obtain ⟨w11,s11⟩:=W.frame1 w5 w10 s10
    refine br (br (br (br (br ?_))))
    refine aq w11 5 λH12 w12 s12=>?_
    refine aq w12 5 λH13 w13 s13=>?_
    obtain ⟨w14,s14⟩:=w13.pp [3,4,2,5] 6
    exact aU.j4_P (@ih) rfl rfl rfl ⟨w14,(s0.trans (s3.trans (s5.trans (s11.trans (s12.trans (s13.trans s14)))))),(RN.step (s3.trans (s5.trans (s11.trans (s12.trans (s13.trans s14)))))),((CR.flat (fB .i64) f9_0).step (s12.trans (s13.trans s14))),(Gr.step (s3.trans (s5.trans (s11.trans (s12.trans (s13.trans s14))))))⟩ hp
   ·refine ay hp (λhp=>?_) λhp=>?_
    ·refine lI w0 3 ?_
     refine lSl w0 3 ?_
     obtain ⟨r15,e15,hp⟩:=ag hp
     refine aE (cn.P ⟨w0,trivial⟩ e15) ?_
     rintro _ H16 ⟨o1a_16,o1n_16,o1c_16,o1k_16,rfl,rfl,w16,s16,f16_0⟩
     refine br (br (br (br (br ?_))))
     refine eL (W.cons_of (Rn:=[_]) w0 w16 s16) ?_
     obtain ⟨w18,s18⟩:=w16.pp [3,0,1,2,4] 5
     have f19:=W.borrow1 eI w18 (Gq.step (s16.trans s18))
     obtain ⟨w19,s19⟩:=w18.right1
     have f20:=W.borrow1 eI w19 ((f16_0.step s18).step s19)
     obtain ⟨w20,s20⟩:=w19.right1
     obtain ⟨r21,e21,hp⟩:=ag hp
     refine aE (cq.P rfl rfl ⟨w20,(f19.step s20),f20⟩ e21) ?_
     rintro _ H22 ⟨o1a_22,o1n_22,o1c_22,o1k_22,rfl,rfl,w22,s22,f22_0⟩
     obtain ⟨w23,s23⟩:=W.frame1 w19 w22 s22
     obtain ⟨w24,s24⟩:=W.frame1 w18 w23 s23
     refine br (br (br (br (br ?_))))
     refine aq w24 5 λH25 w25 s25=>?_
     refine aq w25 5 λH26 w26 s26=>?_
     obtain ⟨w27,s27⟩:=w26.pp [3,4,2,5] 6
     exact aU.j6_P (@ih) rfl rfl rfl ⟨w27,(s0.trans (s16.trans (s18.trans (s24.trans (s25.trans (s26.trans s27)))))),(RN.step (s16.trans (s18.trans (s24.trans (s25.trans (s26.trans s27)))))),((CR.flat (fB .i64) f22_0).step (s25.trans (s26.trans s27))),(Gr.step (s16.trans (s18.trans (s24.trans (s25.trans (s26.trans s27))))))⟩ hp
    ·exact aU.j6_P (@ih) rfl rfl rfl ⟨w0,s0,RN,Gq,Gr⟩ hp
  ·refine lI w0 3 ?_
   refine lSl w0 3 ?_
   refine aq w0 1 λH28 w28 s28=>?_
   refine aq w28 1 λH29 w29 s29=>?_
   refine lI w29 1 ?_
   refine lSl w29 1 ?_
   obtain ⟨w30,s30⟩:=w29.pp [2] 4
   exact az hp ⟨_,_,_,_,rfl,rfl,w30,(s0.trans (s28.trans (s29.trans s30))),(Gq.step (s28.trans (s29.trans s30)))⟩
def aU.p (F:Nat) (ah:ati) (aA:Int):Option (Int×List Int):=aU.pl61 F F aA 0 ([]:List Int) 0 ah (ah.length:Int) 0
theorem aU.P {aB ak aC ah aA} (ba:ak=ah.length) (h0:Inn H R0 λR=>ROs eI H R ⟨aB,ak,aC⟩ ah) {r:atl} (hp:aU.p F ah aA=some r):Rt (aU.tw F ⟨aB,ak,aC⟩ aA H) (aU.Q H R0 R0  r):=by
 obtain ⟨w0,aO⟩:=h0
 subst ba
 unfold aU.p at hp
 unfold aU.tw aU.twX
 have s0:=w0.rf
 refine aS w0 λH1 w1 s1=>?_
 refine aS w1 λH2 w2 s2=>?_
 obtain ⟨w3,s3⟩:=w2.nilS eI.z (by decide)
 obtain ⟨w4,s4⟩:=w3.nilS eI.z (by decide)
 obtain ⟨w5,s5⟩:=w4.pp [1,3,0,2] 4
 exact aU.l61_P F rfl rfl rfl ⟨w5,(s0.trans (s1.trans (s2.trans (s3.trans (s4.trans s5))))),((CR.empty:CR eI _ _ [] []).step (s4.trans s5)),((CR.empty:CR eI _ _ [] []).step s5),(aO.step (s1.trans (s2.trans (s3.trans (s4.trans s5)))))⟩ hp
def aX.Q (H0:Hp) (Ri R0:atf)  (r:(List ((List (Int×List Int))))) (v:AV) (H':Hp):Prop:=∃ o0a:ON,∃ o0n:Nat,∃ o0c:Cap,∃ o0k:List AV,v=(.sl ⟨o0a,o0n,o0c⟩)/\o0n=(r).length/\Out H0 Ri H' (Rs.own ⟨o0a,o0n,o0c⟩ (eSl (ac eI (eSl eI))).z o0k::R0) λR=>CR (eSl (ac eI (eSl eI))) H' R o0k (r)
def aX.S61 (H0:Hp) (Ri R0:atf)  (C:atY) (pC:at5):Prop:=∀ {kQ kR jy rr RO nu Gs ru RP iE rv RQ pd},∀ {H:Hp},nu=iE.length->Gs=pd.length->(Out H0 Ri H (Rs.own ⟨rr,nu,ru⟩ (eSl (ac eI (eSl eI))).z rv::Rs.own ⟨RO,Gs,RP⟩ (eSl eI).z RQ::R0) λR=>CR (eSl (ac eI (eSl eI))) H R rv iE/\CR (eSl eI) H R RQ pd)->∀ {r:(List ((List (Int×List Int))))},pC kQ iE pd kR jy=some r->Rt (C kQ ⟨rr,nu,ru⟩ ⟨RO,Gs,RP⟩ kR jy H) (aX.Q H0 Ri R0  r)
def aX.S15725 (H0:Hp) (Ri R0:atf)  (C:Int->Sl->Sl->Int->Int->Sl->Sl->Int->Int->Hp->OA) (pC:Int->List ((List (Int×List Int)))->List (List Int)->Int->Int->List Int->List (Int×List Int)->Int->Int->Option ((List ((List (Int×List Int)))))):Prop:=∀ {kM kN kO kP jx RR RT RU RV Gt Gu Gv Gw RW RX RY RZ rF R_ Sa Sb rG rH rI},∀ {H:Hp},Gt=rF.length->Gu=rG.length->Gv=rH.length->Gw=rI.length->(Out H0 Ri H (Rs.own ⟨RR,Gt,RW⟩ (eSl (ac eI (eSl eI))).z R_::Rs.own ⟨RT,Gu,RX⟩ (eSl eI).z Sa::Rs.own ⟨RV,Gw,RZ⟩ (ac eI (eSl eI)).z Sb::R0) λR=>CR (eSl (ac eI (eSl eI))) H R R_ rF/\CR (eSl eI) H R Sa rG/\ROs eI H R ⟨RU,Gv,RY⟩ rH/\CR (ac eI (eSl eI)) H R Sb rI)->∀ {r:(List ((List (Int×List Int))))},pC kM rF rG kN kO rH rI kP jx=some r->Rt (C kM ⟨RR,Gt,RW⟩ ⟨RT,Gu,RX⟩ kN kO ⟨RU,Gv,RY⟩ ⟨RV,Gw,RZ⟩ kP jx H) (aX.Q H0 Ri R0  r)
def aX.pj3 (F:Nat) (ar:at5) (vj:Int) (zX:aty) (zY:ats) (vk:Int) (vl:Int):Option ((List ((List (Int×List Int))))):=ar vj zX zY vk (wrap .i64 (vl+1))
theorem aX.j3_P  {C61_:atY} {ar:at5} (hC61:aX.S61 H0 Ri R0  C61_ ar) {vj vk vl adL adM Sc Sd adN adO zX adP adQ zY} (apu:Sc=zX.length) (apv:Sd=zY.length) (h0:Out H0 Ri H (Rs.own ⟨adL,Sc,adN⟩ (eSl (ac eI (eSl eI))).z adP::Rs.own ⟨adM,Sd,adO⟩ (eSl eI).z adQ::R0) λR=>CR (eSl (ac eI (eSl eI))) H R adP zX/\CR (eSl eI) H R adQ zY) {r:(List ((List (Int×List Int))))} (hp:aX.pj3 F ar vj zX zY vk vl=some r):Rt (aX.j3 F (bg.tw F) (bP.tw F) (aU.tw F) C61_ vj ⟨adL,Sc,adN⟩ ⟨adM,Sd,adO⟩ vk vl H) (aX.Q H0 Ri R0  r):=by
 obtain ⟨w0,s0,apw,apx⟩:=h0
 subst apu
 subst apv
 unfold aX.pj3 at hp
 unfold aX.j3
 exact hC61 rfl rfl ⟨w0,s0,apw,apx⟩ hp
def aX.pj4 (F:Nat) (ar:at5) (vm:Int) (zZ:aty) (rJ:atz) (z_:ats) (vn:Int) (vo:Int):Option ((List ((List (Int×List Int))))):=(apn zZ ([rJ]:List ((List (Int×List Int))))).bind λl3=>aX.pj3 F ar vm l3 z_ vn vo
theorem aX.j4_P  {C61_:atY} {ar:at5} (hC61:aX.S61 H0 Ri R0  C61_ ar) {vm vn vo adR adS adT Se Sf Sg adU adV adW zZ adX adY adZ rJ z_} (apy:Se=zZ.length) (apz:Sf=rJ.length) (apA:Sg=z_.length) (h0:Out H0 Ri H (Rs.own ⟨adR,Se,adU⟩ (eSl (ac eI (eSl eI))).z adX::Rs.own ⟨adS,Sf,adV⟩ (ac eI (eSl eI)).z adY::Rs.own ⟨adT,Sg,adW⟩ (eSl eI).z adZ::R0) λR=>CR (eSl (ac eI (eSl eI))) H R adX zZ/\CR (ac eI (eSl eI)) H R adY rJ/\CR (eSl eI) H R adZ z_) {r:(List ((List (Int×List Int))))} (hp:aX.pj4 F ar vm zZ rJ z_ vn vo=some r):Rt (aX.j4 F (bg.tw F) (bP.tw F) (aU.tw F) C61_ vm ⟨adR,Se,adU⟩ ⟨adS,Sf,adV⟩ ⟨adT,Sg,adW⟩ vn vo H) (aX.Q H0 Ri R0  r):=by
 obtain ⟨w0,s0,apB,apC,apD⟩:=h0
 subst apy
 subst apz
 subst apA
 unfold aX.pj4 at hp
 unfold aX.j4
 obtain ⟨w1,s1,f1⟩:=w0.frz (i:=1) (ac eI (eSl eI)) rfl apC
 refine cL (eSl (ac eI (eSl eI))) w1 (n:=1) (l:=([rJ]:List ((List (Int×List Int))))) rfl (CR.cons1 ⟨_,rfl,f1⟩ CR.empty) rfl λH2 w2 s2 c2=>?_
 refine ai (w2.rowo (i:=0) rfl) ?_
 obtain ⟨l3,e3,hp⟩:=ag hp
 refine fA (eSl (ac eI (eSl eI))) w2 (i:=1) rfl rfl (apB.step (s1.trans s2)) c2 (show 1=List.length ([rJ]:List ((List (Int×List Int)))) from rfl) rfl e3 λa4 d4 H4 w4 s4 c4 x4=>?_
 obtain ⟨w5,s5⟩:=w4.pp [1,2] 3
 exact aX.j3_P (@hC61) rfl rfl ⟨w5,(s0.trans (s1.trans (s2.trans (s4.trans s5)))),(c4.step s5),(apD.step (s1.trans (s2.trans (s4.trans s5))))⟩ hp
def aX.pl15725 (F:Nat) (ar:at5):Nat->Int->List ((List (Int×List Int)))->List (List Int)->Int->Int->List Int->List (Int×List Int)->Int->Int->Option ((List ((List (Int×List Int)))))
 | 0,_,_,_,_,_,_,_,_,_=>none
 | k+1,kM,rF,rG,kN,kO,rH,rI,kP,jx=>(bif (decide (jx<kP)) then ((aU.p F rH (wrap .i64 (jx+1))).bind λr1=>(apn rI ([(r1.1,r1.2)]:List (Int×List Int))).bind λl5=>aX.pl15725 F ar k kM rF rG kN kO rH l5 kP (wrap .i64 (jx+1))) else (aX.pj4 F ar kM rF rI rG kN kO))
theorem aX.l15725_P  {C61_:atY} {ar:at5} (hC61:aX.S61 H0 Ri R0  C61_ ar):∀ k,aX.S15725 H0 Ri R0  (aX.l15725 F (bg.tw F) (bP.tw F) (aU.tw F) C61_ k) (aX.pl15725 F ar k):=by
 intro k
 induction k with
 | zero=>unfold aX.S15725;intros;rename_i hp;cases hp
 | succ k ih=>
  intro kM kN kO kP jx RR RT RU RV Gt Gu Gv Gw RW RX RY RZ rF R_ Sa Sb rG rH rI H apE apF apG apH h0 r hp
  obtain ⟨w0,s0,ad0,ad2,ad3,ad4⟩:=h0
  subst apE
  subst apF
  subst apG
  subst apH
  unfold aX.pl15725 at hp
  unfold aX.l15725
  refine ay hp (λhp=>?_) λhp=>?_
  ·obtain ⟨r1,e1,hp⟩:=ag hp
   refine aE (aU.P rfl ⟨w0,ad3⟩ e1) ?_
   rintro _ H2 ⟨o1a_2,o1n_2,o1c_2,o1k_2,rfl,rfl,w2,s2,f2_0⟩
   refine br (br (br (br (br ?_))))
   obtain ⟨w3,s3,f3⟩:=w2.frz (i:=0) eI rfl f2_0
   refine cL (ac eI (eSl eI)) w3 (n:=1) (l:=([(r1.1,r1.2)]:List (Int×List Int))) rfl (CR.cons (c:=[_,_]) ⟨[_],_,rfl,rfl,⟨_,rfl,f3⟩⟩ CR.empty) rfl λH4 w4 s4 c4=>?_
   refine ai (w4.rowo (i:=0) rfl) ?_
   obtain ⟨l5,e5,hp⟩:=ag hp
   refine fA (ac eI (eSl eI)) w4 (i:=3) rfl rfl (ad4.step (s2.trans (s3.trans s4))) c4 (show 1=List.length ([(r1.1,r1.2)]:List (Int×List Int)) from rfl) rfl e5 λa6 d6 H6 w6 s6 c6 x6=>?_
   obtain ⟨w7,s7⟩:=w6.pp [1,2,3] 4
   exact ih rfl rfl rfl rfl ⟨w7,(s0.trans (s2.trans (s3.trans (s4.trans (s6.trans s7))))),(ad0.step (s2.trans (s3.trans (s4.trans (s6.trans s7))))),(ad2.step (s2.trans (s3.trans (s4.trans (s6.trans s7))))),(ad3.step (s2.trans (s3.trans (s4.trans (s6.trans s7))))),(c6.step s7)⟩ hp
  ·obtain ⟨w8,s8⟩:=w0.pp [0,2,1] 3
   exact aX.j4_P (@hC61) rfl rfl rfl ⟨w8,(s0.trans s8),(ad0.step s8),(ad4.step s8),(ad2.step s8)⟩ hp
def aX.pl61 (F:Nat) :Nat->Int->List ((List (Int×List Int)))->List (List Int)->Int->Int->Option ((List ((List (Int×List Int)))))
 | 0,_,_,_,_,_=>none
 | k+1,kQ,iE,pd,kR,jy=>(bif (decide (jy<kR)) then ((ix pd jy).bind λn1=>aX.pl15725 F (aX.pl61 F k) F kQ iE pd kR jy (gt pd n1) ([]:List (Int×List Int)) kQ 0) else (some iE))
theorem aX.l61_P  :∀ k,aX.S61 H0 Ri R0  (aX.l61 F (bg.tw F) (bP.tw F) (aU.tw F)  k) (aX.pl61 F  k):=by
 intro k
 induction k with
 | zero=>unfold aX.S61;intros;rename_i hp;cases hp
 | succ k ih=>
  intro kQ kR jy rr RO nu Gs ru RP iE rv RQ pd H Qe apI h0 r hp
  obtain ⟨w0,s0,zH,ad5⟩:=h0
  subst Qe
  subst apI
  unfold aX.pl61 at hp
  unfold aX.l61
  refine ay hp (λhp=>?_) λhp=>?_
  ·obtain ⟨n1,g1,hp⟩:=ag hp
   obtain ⟨p1,q1,i1,h1,j1⟩:=W.ixo (E:=(eSl eI)) w0 (i:=1) rfl rfl ad5 g1
   refine ai i1 ?_
   obtain ⟨⟨YW,m1_0,c1_0⟩,rfl,f1_0⟩:=h1
   obtain rfl:m1_0=_:=f1_0.n
   refine ai (iG (j1 0 _ rfl)) ?_
   obtain ⟨w2,s2⟩:=w0.nilS (ac eI (eSl eI)).z (by decide)
   obtain ⟨w3,s3⟩:=w2.pp [1,2,0] 3
   exact aX.l15725_P (@ih) F rfl rfl rfl rfl ⟨w3,(s0.trans (s2.trans s3)),(zH.step (s2.trans s3)),(ad5.step (s2.trans s3)),(f1_0.step (s2.trans s3)),((CR.empty:CR (ac eI (eSl eI)) _ _ [] []).step s3)⟩ hp
  ·obtain ⟨w4,s4⟩:=w0.pp [0] 2
   exact az hp ⟨_,_,_,_,rfl,rfl,w4,(s0.trans s4),(zH.step s4)⟩
def aX.p (F:Nat) (ah:ato) (af:Int):Option ((List ((List (Int×List Int))))):=(bg.p F ah af).bind λr2=>(bP.p F ah af).bind λr4=>aX.pl61 F F r2.2 ([]:List ((List (Int×List Int)))) r4 (r4.length:Int) 0
theorem aX.P {aB ak aC ah af} (ba:ak=ah.length) (h0:Inn H R0 λR=>ROs (ac eI (ac eI (ac eI (ac eI eI)))) H R ⟨aB,ak,aC⟩ ah) {r:(List ((List (Int×List Int))))} (hp:aX.p F ah af=some r):Rt (aX.tw F ⟨aB,ak,aC⟩ af H) (aX.Q H R0 R0  r):=by
 obtain ⟨w0,aO⟩:=h0
 subst ba
 unfold aX.p at hp
 unfold aX.tw aX.twX
 have s0:=w0.rf
 refine aS w0 λH1 w1 s1=>?_
 refine lSl w1 0 ?_
 refine lI w1 0 ?_
 obtain ⟨r2,e2,hp⟩:=ag hp
 refine aE (bg.P rfl ⟨w1,(aO.step s1)⟩ e2) ?_
 rintro _ H3 ⟨o0a_3,o0n_3,o0c_3,o0k_3,rfl,rfl,w3,s3,f3_0⟩
 refine br (br (br (br (br ?_))))
 refine lSl w3 1 ?_
 refine lI w3 1 ?_
 obtain ⟨r4,e4,hp⟩:=ag hp
 refine aE (bP.P rfl ⟨w3,(aO.step (s1.trans s3))⟩ e4) ?_
 rintro _ H5 ⟨o0a_5,o0n_5,o0c_5,o0k_5,rfl,rfl,w5,s5,f5_0⟩
 refine br ?_
 obtain ⟨w6,s6⟩:=w5.nilS (eSl (ac eI (eSl eI))).z (by decide)
 obtain ⟨w7,s7⟩:=w6.pp [0,1] 4
 exact aX.l61_P F rfl rfl ⟨w7,(s0.trans (s1.trans (s3.trans (s5.trans (s6.trans s7))))),((CR.empty:CR (eSl (ac eI (eSl eI))) _ _ [] []).step s7),(f5_0.step (s6.trans s7))⟩ hp
def er.Q (H0:Hp) (Ri R0:atf)  (r:Int) (v:AV) (H':Hp):Prop:=v=(.i r)/\Out H0 Ri H' (R0) λR=>True
def er.p (F:Nat) (ah:aty):Option (Int):=some (ah.length:Int)
theorem er.P {aB ak aC ah} (ba:ak=ah.length) (h0:Inn H R0 λR=>ROs (eSl (ac eI (eSl eI))) H R ⟨aB,ak,aC⟩ ah) {r:Int} (hp:er.p F ah=some r):Rt (er.tw F ⟨aB,ak,aC⟩ H) (er.Q H R0 R0  r):=by
 obtain ⟨w0,aO⟩:=h0
 subst ba
 unfold er.p at hp
 unfold er.tw er.twX
 have s0:=w0.rf
 exact az hp ⟨rfl,w0,s0,trivial⟩
def dg.Q (H0:Hp) (Ri R0:atf)  (r:Int) (v:AV) (H':Hp):Prop:=v=(.i r)/\Out H0 Ri H' (R0) λR=>True
def dg.p (F:Nat) (aa:Int):Option (Int):=(bif (decide (aa<0)) then (some (wrap .i64 (0 - aa))) else (some aa))
theorem dg.P {aa}  (h0:Inn H R0 λR=>True) {r:Int} (hp:dg.p F aa=some r):Rt (dg.tw F aa H) (dg.Q H R0 R0  r):=by
 obtain ⟨w0,_⟩:=h0
 unfold dg.p at hp
 unfold dg.tw dg.twX
 have s0:=w0.rf
 refine ay hp (λhp=>?_) λhp=>?_
 ·exact az hp ⟨rfl,w0,s0,trivial⟩
 ·exact az hp ⟨rfl,w0,s0,trivial⟩
def bM.Q (H0:Hp) (Ri R0:atf)  (r:Int) (v:AV) (H':Hp):Prop:=v=(.i r)/\Out H0 Ri H' (R0) λR=>True
def bM.S29 (H0:Hp) (Ri R0:atf)  (C:Int->Sl->Int->Int->Hp->OA) (pC:Int->List Int->Int->Int->Option (Int)):Prop:=∀ {eB kS jz Sh Gx Si pe},∀ {H:Hp},Gx=pe.length->(Out H0 Ri H R0 λR=>ROs eI H R ⟨Sh,Gx,Si⟩ pe)->∀ {r:Int},pC eB pe kS jz=some r->Rt (C eB ⟨Sh,Gx,Si⟩ kS jz H) (bM.Q H0 Ri R0  r)
def bM.pl29 (F:Nat) :Nat->Int->List Int->Int->Int->Option (Int)
 | 0,_,_,_,_=>none
 | k+1,eB,pe,kS,jz=>(bif (decide (jz<kS)) then ((ix pe jz).bind λn1=>(dg.p F (gt pe n1)).bind λr2=>bM.pl29 F k (wrap .i64 (eB+r2)) pe kS (wrap .i64 (jz+1))) else (some eB))
theorem bM.l29_P  :∀ k,bM.S29 H0 Ri R0  (bM.l29 F (dg.tw F)  k) (bM.pl29 F  k):=by
 intro k
 induction k with
 | zero=>unfold bM.S29;intros;rename_i hp;cases hp
 | succ k ih=>
  intro eB kS jz Sh Gx Si pe H apJ h0 r hp
  obtain ⟨w0,s0,ad6⟩:=h0
  subst apJ
  unfold bM.pl29 at hp
  unfold bM.l29
  refine ay hp (λhp=>?_) λhp=>?_
  ·obtain ⟨n1,g1,hp⟩:=ag hp
   obtain ⟨p1,q1,i1,h1,j1⟩:=ROs.ixr ad6 rfl g1
   refine ai i1 ?_
   have h1:_=[_]:=h1
   subst h1
   refine ai (aG (j1 0 _ rfl)) ?_
   obtain ⟨r2,e2,hp⟩:=ag hp
   refine aE (dg.P ⟨w0,trivial⟩ e2) ?_
   rintro _ H3 ⟨rfl,w3,s3,_⟩
   refine br ?_
   exact ih rfl ⟨w3,(s0.trans s3),(ad6.step s3)⟩ hp
  ·exact az hp ⟨rfl,w0,s0,trivial⟩
def bM.p (F:Nat) (aF:ati):Option (Int):=bM.pl29 F F 0 aF (aF.length:Int) 0
theorem bM.P {aa ck bE cl aF} (dv:bE=aF.length) (h0:Inn H R0 λR=>ROs eI H R ⟨ck,bE,cl⟩ aF) {r:Int} (hp:bM.p F aF=some r):Rt (bM.tw F aa ⟨ck,bE,cl⟩ H) (bM.Q H R0 R0  r):=by
 obtain ⟨w0,ct⟩:=h0
 subst dv
 unfold bM.p at hp
 unfold bM.tw bM.twX
 have s0:=w0.rf
 refine aS w0 λH1 w1 s1=>?_
 refine lSl w1 0 ?_
 obtain ⟨w2,s2⟩:=w1.pp [] 1
 exact bM.l29_P F rfl ⟨w2,(s0.trans (s1.trans s2)),(ct.step (s1.trans s2))⟩ hp
def dC.Q (H0:Hp) (Ri R0:atf)  (r:atK) (v:AV) (H':Hp):Prop:=v=(.tup [(.i r.1),(.bool r.2)])/\Out H0 Ri H' (R0) λR=>True
def dC.p (F:Nat) (aa:Int) (aA:Int) (cM:Int):Option (Int×Bool):=(bif (aa != 0) then ((dg.p F aA).bind λr1=>(dg.p F aa).bind λr3=>(if r3=0 then none else ((bif (decide (r1>(wrap .i64 (Int.tdiv cM r3)))) then (some (0,false)) else (some ((wrap .i64 (aa * aA)),true)))))) else (some ((wrap .i64 (aa * aA)),true)))
theorem dC.P {aa aA cM}  (h0:Inn H R0 λR=>True) {r:atK} (hp:dC.p F aa aA cM=some r):Rt (dC.tw F aa aA cM H) (dC.Q H R0 R0  r):=by
 obtain ⟨w0,_⟩:=h0
 unfold dC.p at hp
 unfold dC.tw dC.twX
 have s0:=w0.rf
 refine ay hp (λhp=>?_) λhp=>?_
 ·obtain ⟨r1,e1,hp⟩:=ag hp
  refine aE (dg.P ⟨w0,trivial⟩ e1) ?_
  rintro _ H2 ⟨rfl,w2,s2,_⟩
  refine br ?_
  obtain ⟨r3,e3,hp⟩:=ag hp
  refine aE (dg.P ⟨w2,trivial⟩ e3) ?_
  rintro _ H4 ⟨rfl,w4,s4,_⟩
  refine br ?_
  obtain ⟨g5,hp⟩:=kd hp
  refine ke g5 ?_
  refine ay hp (λhp=>?_) λhp=>?_
  ·exact az hp ⟨rfl,w4,(s0.trans (s2.trans s4)),trivial⟩
  ·exact az hp ⟨rfl,w4,(s0.trans (s2.trans s4)),trivial⟩
 ·exact az hp ⟨rfl,w0,s0,trivial⟩
def aQ.Q (H0:Hp) (Ri R0:atf)  (r:atx) (v:AV) (H':Hp):Prop:=∃ o1a:ON,∃ o1n:Nat,∃ o1c:Cap,∃ o1k:List AV,v=(.tup [(.agg [(.i r.1),(.sl ⟨o1a,o1n,o1c⟩)]),(.i r.2.2)])/\o1n=(r.2.1).length/\Out H0 Ri H' (Rs.own ⟨o1a,o1n,o1c⟩ eI.z o1k::R0) λR=>CR eI H' R o1k (r.2.1)
def aQ.S125 (H0:Hp) (Ri R0:atf)  (C:atQ) (pC:at6):Prop:=∀ {ad7 ad8 wF kX iu Sj Sk Sn So Gy ou Gz ov GA ox GB Sq Sr Ss Su rK Sv rL pf Sw Sx},∀ {H:Hp},Gy=rK.length->Gz=Sv.length->GA=rL.length->GB=pf.length->(Out H0 Ri H (Rs.blk ou [.i ad7,.sl ⟨Sj,Gy,Sq⟩]::Rs.own ⟨Sk,Gz,Sr⟩ eI.z Sw::Rs.blk ov [.i ad8,.sl ⟨Sk,Gz,Sr⟩]::Rs.own ⟨Sn,GA,Ss⟩ eI.z Sx::Rs.blk ox [.i wF,.sl ⟨Sn,GA,Ss⟩]::R0) λR=>ROs eI H R ⟨Sj,Gy,Sq⟩ rK/\CR eI H R Sw Sv/\CR eI H R Sx rL/\ROs eI H R ⟨So,GB,Su⟩ pf)->∀ {r:atx},pC rK wF rL pf kX iu=some r->Rt (C ou 0 ov 0 ox 0 ⟨So,GB,Su⟩ kX iu H) (aQ.Q H0 Ri R0  r)
def aQ.S8027 (H0:Hp) (Ri R0:atf)  (C:Nat->Nat->Nat->Nat->Nat->Nat->Sl->Int->Int->Int->Int->Sl->Int->Int->Hp->OA) (pC:List Int->Int->List Int->List Int->Int->Int->Int->Int->Int->Int->Option (Int×List Int×Int)):Prop:=∀ {ad9 ad_ wG kT kU jA kV kW gK GC Sy Sz SA Aa om GD oq GE mX GF GG SB SC SD nx SF mq rM SG SH},∀ {H:Hp},Aa=nx.length->GD=SF.length->GE=mq.length->GF=rM.length->(Out H0 Ri H (Rs.blk om [.i ad9,.sl ⟨GC,Aa,GG⟩]::Rs.own ⟨Sy,GD,SB⟩ eI.z SG::Rs.blk oq [.i ad_,.sl ⟨Sy,GD,SB⟩]::Rs.own ⟨Sz,GE,SC⟩ eI.z SH::Rs.blk mX [.i wG,.sl ⟨Sz,GE,SC⟩]::R0) λR=>ROs eI H R ⟨GC,Aa,GG⟩ nx/\CR eI H R SG SF/\CR eI H R SH mq/\ROs eI H R ⟨SA,GF,SD⟩ rM)->∀ {r:atx},pC nx wG mq rM kT kU jA kV kW gK=some r->Rt (C om 0 oq 0 mX 0 ⟨SA,GF,SD⟩ kT kU jA kV ⟨GC,Aa,GG⟩ kW gK H) (aQ.Q H0 Ri R0  r)
def aQ.pj4 (F:Nat) (bu:at6) (Ab:ati) (GH:Int) (Ac:ati) (Ad:ati) (vp:Int) (vq:Int):Option (Int×List Int×Int):=bu Ab GH Ac Ad vp (wrap .i64 (vq+1))
theorem aQ.j4_P  {C125_:atQ} {bu:at6} (hC125:aQ.S125 H0 Ri R0  C125_ bu) {apK apL GH vp vq aea aeb aec aed SI Cz SJ CA SK CB SL aee aef aeg aeh Ab aei Ac Ad aej aek} (apM:SI=Ab.length) (apN:SJ=aei.length) (apO:SK=Ac.length) (apP:SL=Ad.length) (h0:Out H0 Ri H (Rs.blk Cz [.i apK,.sl ⟨aea,SI,aee⟩]::Rs.own ⟨aeb,SJ,aef⟩ eI.z aej::Rs.blk CA [.i apL,.sl ⟨aeb,SJ,aef⟩]::Rs.own ⟨aec,SK,aeg⟩ eI.z aek::Rs.blk CB [.i GH,.sl ⟨aec,SK,aeg⟩]::R0) λR=>ROs eI H R ⟨aea,SI,aee⟩ Ab/\CR eI H R aej aei/\CR eI H R aek Ac/\ROs eI H R ⟨aed,SL,aeh⟩ Ad) {r:atx} (hp:aQ.pj4 F bu Ab GH Ac Ad vp vq=some r):Rt (aQ.j4 F (cI.tw F) (bM.tw F) (dC.tw F) (cJ.tw F) C125_ Cz 0 CA 0 CB 0 ⟨aed,SL,aeh⟩ vp vq H) (aQ.Q H0 Ri R0  r):=by
 obtain ⟨w0,s0,apQ,apR,apS,apT⟩:=h0
 subst apM
 subst apN
 subst apO
 subst apP
 unfold aQ.pj4 at hp
 unfold aQ.j4
 exact hC125 rfl rfl rfl rfl ⟨w0,s0,apQ,apR,apS,apT⟩ hp
def aQ.pj5 (F:Nat) (bu:at6) (Ae:ati) (GI:Int) (Af:ati) (Ag:ati) (vr:Int) (vt:Int):Option (Int×List Int×Int):=aQ.pj4 F bu Ae GI Af Ag vr vt
theorem aQ.j5_P  {C125_:atQ} {bu:at6} (hC125:aQ.S125 H0 Ri R0  C125_ bu) {apU apV GI vr vt ael aem aen aeo SM CC SN CD SO CE SP aep aeq aer aes Ae aet Af Ag aeu aev} (apW:SM=Ae.length) (apX:SN=aet.length) (apY:SO=Af.length) (apZ:SP=Ag.length) (h0:Out H0 Ri H (Rs.blk CC [.i apU,.sl ⟨ael,SM,aep⟩]::Rs.own ⟨aem,SN,aeq⟩ eI.z aeu::Rs.blk CD [.i apV,.sl ⟨aem,SN,aeq⟩]::Rs.own ⟨aen,SO,aer⟩ eI.z aev::Rs.blk CE [.i GI,.sl ⟨aen,SO,aer⟩]::R0) λR=>ROs eI H R ⟨ael,SM,aep⟩ Ae/\CR eI H R aeu aet/\CR eI H R aev Af/\ROs eI H R ⟨aeo,SP,aes⟩ Ag) {r:atx} (hp:aQ.pj5 F bu Ae GI Af Ag vr vt=some r):Rt (aQ.j5 F (cI.tw F) (bM.tw F) (dC.tw F) (cJ.tw F) C125_ CC 0 CD 0 CE 0 ⟨aeo,SP,aes⟩ vr vt H) (aQ.Q H0 Ri R0  r):=by
 obtain ⟨w0,s0,ap0,ap1,ap2,ap3⟩:=h0
 subst apW
 subst apX
 subst apY
 subst apZ
 unfold aQ.pj5 at hp
 unfold aQ.j5
 exact aQ.j4_P (@hC125) rfl rfl rfl rfl ⟨w0,s0,ap0,ap1,ap2,ap3⟩ hp
def aQ.pl8027 (F:Nat) (bu:at6):Nat->List Int->Int->List Int->List Int->Int->Int->Int->Int->Int->Int->Option (Int×List Int×Int)
 | 0,_,_,_,_,_,_,_,_,_,_=>none
 | k+1,nx,wG,mq,rM,kT,kU,jA,kV,kW,gK=>(bif (decide (gK<kW)) then ((ix nx gK).bind λn1=>(ix mq (wrap .i64 (jA+gK))).bind λn2=>(ix mq (wrap .i64 (jA+gK))).bind λn3=>(some (mq.set n3 (wrap .i64 ((gt mq n2)+(wrap .i64 (kV * (gt nx n1))))))).bind λl4=>aQ.pl8027 F bu k nx wG l4 rM kT kU jA kV kW (wrap .i64 (gK+1))) else (aQ.pj5 F bu nx wG mq rM kT kU))
theorem aQ.l8027_P  {C125_:atQ} {bu:at6} (hC125:aQ.S125 H0 Ri R0  C125_ bu):∀ k,aQ.S8027 H0 Ri R0  (aQ.l8027 F (cI.tw F) (bM.tw F) (dC.tw F) (cJ.tw F) C125_ k) (aQ.pl8027 F bu k):=by
 intro k
 induction k with
 | zero=>unfold aQ.S8027;intros;rename_i hp;cases hp
 | succ k ih=>
  intro ad9 ad_ wG kT kU jA kV kW gK GC Sy Sz SA Aa om GD oq GE mX GF GG SB SC SD nx SF mq rM SG SH H ap4 ap5 ap6 ap7 h0 r hp
  obtain ⟨w0,s0,SQ,aew,GJ,aex⟩:=h0
  subst ap4
  subst ap5
  subst ap6
  subst ap7
  unfold aQ.pl8027 at hp
  unfold aQ.l8027
  refine ay hp (λhp=>?_) λhp=>?_
  ·obtain ⟨n1,g1,hp⟩:=ag hp
   obtain ⟨p1,q1,i1,h1,j1⟩:=ROs.ixr SQ rfl g1
   refine ai i1 ?_
   have h1:_=[_]:=h1
   subst h1
   refine ai (aG (j1 0 _ rfl)) ?_
   refine lSl w0 4 ?_
   obtain ⟨n2,g2,hp⟩:=ag hp
   obtain ⟨p2,q2,i2,h2,j2⟩:=W.ixo (E:=eI) w0 (i:=3) rfl rfl GJ g2
   refine ai i2 ?_
   have h2:_=[_]:=h2
   subst h2
   refine ai (aG (j2 0 _ rfl)) ?_
   obtain ⟨n3,g3,hp⟩:=ag hp
   obtain ⟨p3,q3,i3,h3,j3⟩:=W.ixo (E:=eI) w0 (i:=3) rfl rfl GJ g3
   refine ai i3 ?_
   obtain ⟨l4,e4,hp⟩:=ag hp
   refine dD eI w0 (i:=3) (j:=0) (p:=p3) rfl rfl GJ g3 i3 e4 rfl rfl (λ_ h=>by have h:_=[_]:=h;subst h;exact rfl) λH5 k5 w5 s5 c5=>?_
   exact ih rfl rfl ((cA e4).symm) rfl ⟨w5,(s0.trans s5),(SQ.step s5),(aew.step s5),c5,(aex.step s5)⟩ hp
  ·exact aQ.j5_P (@hC125) rfl rfl rfl rfl ⟨w0,s0,SQ,aew,GJ,aex⟩ hp
def aQ.pj3 (F:Nat)  (GK:Int) (Ah:ati):Option (Int×List Int×Int):=(cJ.p F GK Ah).bind λr3=>some (r3.1,r3.2.1,r3.2.2)
theorem aQ.j3_P   {ME GK yS aey qQ jQ SS xv yT aez yU Ah yV aeA} (MI:qQ=yU.length) (ap8:SS=Ah.length) (h0:Out H0 Ri H (Rs.own ⟨yS,qQ,yT⟩ eI.z yV::Rs.blk jQ [.i ME,.sl ⟨yS,qQ,yT⟩]::Rs.own ⟨aey,SS,aez⟩ eI.z aeA::Rs.blk xv [.i GK,.sl ⟨aey,SS,aez⟩]::R0) λR=>CR eI H R yV yU/\CR eI H R aeA Ah) {r:atx} (hp:aQ.pj3 F  GK Ah=some r):Rt (aQ.j3 F (cI.tw F) (bM.tw F) (dC.tw F) (cJ.tw F)  jQ 0 xv 0 H) (aQ.Q H0 Ri R0  r):=by
 obtain ⟨w0,s0,Zr,ap9⟩:=h0
 subst MI
 subst ap8
 unfold aQ.pj3 at hp
 unfold aQ.j3
 refine lI w0 3 ?_
 refine lSl w0 3 ?_
 obtain ⟨w1,s1⟩:=w0.pp [2,0,1,3] 4
 have f2:=W.borrow1 eI w1 (ap9.step s1)
 obtain ⟨w2,s2⟩:=w1.right1
 obtain ⟨r3,e3,hp⟩:=ag hp
 refine aE (cJ.P rfl ⟨w2,f2⟩ e3) ?_
 rintro _ H4 ⟨o1a_4,o1n_4,o1c_4,o1k_4,rfl,rfl,w4,s4,f4_0⟩
 obtain ⟨w5,s5⟩:=W.frame1 w1 w4 s4
 refine br (br (br (br (br (br (br (br (br ?_))))))))
 refine aq w5 3 λH6 w6 s6=>?_
 refine aq w6 3 λH7 w7 s7=>?_
 refine lI w7 3 ?_
 refine lSl w7 3 ?_
 obtain ⟨w8,s8⟩:=w7.pp [1] 5
 exact az hp ⟨_,_,_,_,rfl,rfl,w8,(s0.trans (s1.trans (s5.trans (s6.trans (s7.trans s8))))),((CR.flat (fB .i64) f4_0).step (s6.trans (s7.trans s8)))⟩
def aQ.pl125 (F:Nat) :Nat->List Int->Int->List Int->List Int->Int->Int->Option (Int×List Int×Int)
 | 0,_,_,_,_,_,_=>none
 | k+1,rK,wF,rL,pf,kX,iu=>(bif (decide (iu<kX)) then ((ix pf iu).bind λn1=>aQ.pl8027 F (aQ.pl125 F k) F rK wF rL pf kX iu iu (gt pf n1) (rK.length:Int) 0) else (aQ.pj3 F wF rL))
theorem aQ.l125_P  :∀ k,aQ.S125 H0 Ri R0  (aQ.l125 F (cI.tw F) (bM.tw F) (dC.tw F) (cJ.tw F)  k) (aQ.pl125 F  k):=by
 intro k
 induction k with
 | zero=>unfold aQ.S125;intros;rename_i hp;cases hp
 | succ k ih=>
  intro ad7 ad8 wF kX iu Sj Sk Sn So Gy ou Gz ov GA ox GB Sq Sr Ss Su rK Sv rL pf Sw Sx H ap_ aqa aqb aqc h0 r hp
  obtain ⟨w0,s0,aqd,aeB,aeC,aeD⟩:=h0
  subst ap_
  subst aqa
  subst aqb
  subst aqc
  unfold aQ.pl125 at hp
  unfold aQ.l125
  refine ay hp (λhp=>?_) λhp=>?_
  ·obtain ⟨n1,g1,hp⟩:=ag hp
   obtain ⟨p1,q1,i1,h1,j1⟩:=ROs.ixr aeD rfl g1
   refine ai i1 ?_
   have h1:_=[_]:=h1
   subst h1
   refine ai (aG (j1 0 _ rfl)) ?_
   refine lSl w0 0 ?_
   exact aQ.l8027_P (@ih) F rfl rfl rfl rfl ⟨w0,s0,aqd,aeB,aeC,aeD⟩ hp
  ·obtain ⟨w2,s2⟩:=w0.pp [1,2,3,4] 5
   exact aQ.j3_P rfl rfl ⟨w2,(s0.trans s2),(aeB.step s2),(aeC.step s2)⟩ hp
def aQ.p (F:Nat) (aa:Int) (aF:ati) (au:Int) (bA:ati):Option (Int×List Int×Int):=(cI.p F ([(aa,aF),(au,bA)]:List (Int×List Int))).bind λr6=>(bif (!r6) then (some (0,([]:List Int),1)) else ((bM.p F aF).bind λr13=>(bM.p F bA).bind λr16=>(dC.p F r13 r16 1000000000000).bind λr18=>(bif (!r18.2) then (some (0,([]:List Int),3)) else ((mkn (wrap .i64 ((aF.length:Int)+(bA.length:Int))) (0:Int)).bind λl24=>aQ.pl125 F F bA (wrap .i64 (aa+au)) l24 aF (aF.length:Int) 0))))
theorem aQ.P {aa au ck ew bE dh cl ey aF bA} (dv:bE=aF.length) (gO:dh=bA.length) (h0:Inn H R0 λR=>ROs eI H R ⟨ck,bE,cl⟩ aF/\ROs eI H R ⟨ew,dh,ey⟩ bA) {r:atx} (hp:aQ.p F aa aF au bA=some r):Rt (aQ.tw F aa ⟨ck,bE,cl⟩ au ⟨ew,dh,ey⟩ H) (aQ.Q H R0 R0  r):=by
 obtain ⟨w0,ct,fd⟩:=h0
 subst dv
 subst gO
 unfold aQ.p at hp
 unfold aQ.tw aQ.twX
 have s0:=w0.rf
 refine aS w0 λH1 w1 s1=>?_
 refine aS w1 λH2 w2 s2=>?_
 refine aS w2 λH3 w3 s3=>?_
 refine lI w3 2 ?_
 refine lSl w3 2 ?_
 refine lI w3 1 ?_
 refine lSl w3 1 ?_
 refine cL (ac eI (eSl eI)) w3 (n:=2) (l:=([(aa,aF),(au,bA)]:List (Int×List Int))) rfl (CR.cons (c:=[_,_]) ⟨[_],_,rfl,rfl,⟨_,rfl,(ct.step (s1.trans (s2.trans s3)))⟩⟩ (CR.cons (c:=[_,_]) ⟨[_],_,rfl,rfl,⟨_,rfl,(fd.step (s1.trans (s2.trans s3)))⟩⟩ CR.empty)) rfl λH4 w4 s4 c4=>?_
 have f5:=W.borrow1 (ac eI (eSl eI)) w4 c4
 obtain ⟨w5,s5⟩:=w4.right1
 obtain ⟨r6,e6,hp⟩:=ag hp
 refine aE (cI.P (show 2=List.length ([(aa,aF),(au,bA)]:List (Int×List Int)) from rfl) ⟨w5,f5⟩ e6) ?_
 rintro _ H7 ⟨rfl,w7,s7,_⟩
 obtain ⟨w8,s8⟩:=W.frame1 w4 w7 s7
 refine br ?_
 refine ay hp (λhp=>?_) λhp=>?_
 ·refine aq w8 1 λH9 w9 s9=>?_
  refine aq w9 1 λH10 w10 s10=>?_
  refine lI w10 1 ?_
  refine lSl w10 1 ?_
  obtain ⟨w11,s11⟩:=w10.nilS eI.z (by decide)
  obtain ⟨w12,s12⟩:=w11.pp [0] 5
  exact az hp ⟨_,_,_,_,rfl,rfl,w12,(s0.trans (s1.trans (s2.trans (s3.trans (s4.trans (s8.trans (s9.trans (s10.trans (s11.trans s12))))))))),((CR.empty:CR eI _ _ [] []).step s12)⟩
 ·refine lI w8 3 ?_
  refine lSl w8 3 ?_
  obtain ⟨r13,e13,hp⟩:=ag hp
  refine aE (bM.P rfl ⟨w8,(ct.step (s1.trans (s2.trans (s3.trans (s4.trans s8)))))⟩ e13) ?_
  rintro _ H14 ⟨rfl,w14,s14,_⟩
  refine br ?_
  refine eL (W.cons_of (Rn:=[]) w8 w14 s14) ?_
  refine lI w14 2 ?_
  refine lSl w14 2 ?_
  obtain ⟨r16,e16,hp⟩:=ag hp
  refine aE (bM.P rfl ⟨w14,(fd.step (s1.trans (s2.trans (s3.trans (s4.trans (s8.trans s14))))))⟩ e16) ?_
  rintro _ H17 ⟨rfl,w17,s17,_⟩
  refine br ?_
  obtain ⟨r18,e18,hp⟩:=ag hp
  refine aE (dC.P ⟨w17,trivial⟩ e18) ?_
  rintro _ H19 ⟨rfl,w19,s19,_⟩
  refine br (br (br (br (br ?_))))
  refine ay hp (λhp=>?_) λhp=>?_
  ·refine aq w19 1 λH20 w20 s20=>?_
   refine aq w20 1 λH21 w21 s21=>?_
   refine lI w21 1 ?_
   refine lSl w21 1 ?_
   obtain ⟨w22,s22⟩:=w21.nilS eI.z (by decide)
   obtain ⟨w23,s23⟩:=w22.pp [0] 5
   exact az hp ⟨_,_,_,_,rfl,rfl,w23,(s0.trans (s1.trans (s2.trans (s3.trans (s4.trans (s8.trans (s14.trans (s17.trans (s19.trans (s20.trans (s21.trans (s22.trans s23)))))))))))),((CR.empty:CR eI _ _ [] []).step s23)⟩
  ·refine lI w19 3 ?_
   refine lI w19 2 ?_
   refine lSl w19 3 ?_
   refine lSl w19 2 ?_
   obtain ⟨l24,e24,hp⟩:=ag hp
   refine kc eI (0:Int) w19 rfl rfl rfl e24 λH25 k25 w25 s25 c25=>?_
   refine aS w25 λH26 w26 s26=>?_
   refine aq w26 0 λH27 w27 s27=>?_
   refine aq w27 0 λH28 w28 s28=>?_
   refine lSl w28 5 ?_
   obtain ⟨w29,s29⟩:=w28.nilS eI.z (by decide)
   obtain ⟨w30,s30⟩:=w29.pp [5,0,4,2,1] 7
   exact aQ.l125_P F rfl rfl rfl rfl ⟨w30,(s0.trans (s1.trans (s2.trans (s3.trans (s4.trans (s8.trans (s14.trans (s17.trans (s19.trans (s25.trans (s26.trans (s27.trans (s28.trans (s29.trans s30)))))))))))))),(fd.step (s1.trans (s2.trans (s3.trans (s4.trans (s8.trans (s14.trans (s17.trans (s19.trans (s25.trans (s26.trans (s27.trans (s28.trans (s29.trans s30)))))))))))))),((CR.empty:CR eI _ _ [] []).step s30),(c25.step (s26.trans (s27.trans (s28.trans (s29.trans s30))))),(ct.step (s1.trans (s2.trans (s3.trans (s4.trans (s8.trans (s14.trans (s17.trans (s19.trans (s25.trans (s26.trans (s27.trans (s28.trans (s29.trans s30))))))))))))))⟩ hp
def cZ.Q (H0:Hp) (Ri R0:atf)  (r:atl) (v:AV) (H':Hp):Prop:=∃ o1a:ON,∃ o1n:Nat,∃ o1c:Cap,∃ o1k:List AV,v=(.agg [(.i r.1),(.sl ⟨o1a,o1n,o1c⟩)])/\o1n=(r.2).length/\Out H0 Ri H' (Rs.own ⟨o1a,o1n,o1c⟩ eI.z o1k::R0) λR=>CR eI H' R o1k (r.2)
def cZ.p (F:Nat) (aa:Int) (aF:ati) (au:Int) (bA:ati):Option (Int×List Int):=(aQ.p F aa aF au bA).bind λr4=>some (r4.1,r4.2.1)
theorem cZ.P {aa au ck ew bE dh cl ey aF bA} (dv:bE=aF.length) (gO:dh=bA.length) (h0:Inn H R0 λR=>ROs eI H R ⟨ck,bE,cl⟩ aF/\ROs eI H R ⟨ew,dh,ey⟩ bA) {r:atl} (hp:cZ.p F aa aF au bA=some r):Rt (cZ.tw F aa ⟨ck,bE,cl⟩ au ⟨ew,dh,ey⟩ H) (cZ.Q H R0 R0  r):=by
 obtain ⟨w0,ct,fd⟩:=h0
 subst dv
 subst gO
 unfold cZ.p at hp
 unfold cZ.tw cZ.twX
 have s0:=w0.rf
 refine aS w0 λH1 w1 s1=>?_
 refine aS w1 λH2 w2 s2=>?_
 refine aS w2 λH3 w3 s3=>?_
 refine lI w3 2 ?_
 refine lSl w3 2 ?_
 refine lI w3 1 ?_
 refine lSl w3 1 ?_
 obtain ⟨r4,e4,hp⟩:=ag hp
 refine aE (aQ.P rfl rfl ⟨w3,(ct.step (s1.trans (s2.trans s3))),(fd.step (s1.trans (s2.trans s3)))⟩ e4) ?_
 rintro _ H5 ⟨o1a_5,o1n_5,o1c_5,o1k_5,rfl,rfl,w5,s5,f5_0⟩
 refine br (br (br (br (br (br (br (br (br ?_))))))))
 refine aS w5 λH6 w6 s6=>?_
 refine aq w6 0 λH7 w7 s7=>?_
 refine aq w7 0 λH8 w8 s8=>?_
 refine lI w8 0 ?_
 refine lSl w8 0 ?_
 refine aq w8 2 λH9 w9 s9=>?_
 refine aq w9 2 λH10 w10 s10=>?_
 refine lI w10 2 ?_
 refine lSl w10 2 ?_
 obtain ⟨w11,s11⟩:=w10.pp [1] 5
 exact az hp ⟨_,_,_,_,rfl,rfl,w11,(s0.trans (s1.trans (s2.trans (s3.trans (s5.trans (s6.trans (s7.trans (s8.trans (s9.trans (s10.trans s11)))))))))),(f5_0.step (s6.trans (s7.trans (s8.trans (s9.trans (s10.trans s11))))))⟩
def dP.Q (H0:Hp) (Ri R0:atf)  (r:Int) (v:AV) (H':Hp):Prop:=v=(.i r)/\Out H0 Ri H' (R0) λR=>True
def dP.p (F:Nat) (aa:Int):Option (Int):=some (wrap .i64 (1 - (wrap .i64 (2 * (Int.tmod aa 2)))))
theorem dP.P {aa}  (h0:Inn H R0 λR=>True) {r:Int} (hp:dP.p F aa=some r):Rt (dP.tw F aa H) (dP.Q H R0 R0  r):=by
 obtain ⟨w0,_⟩:=h0
 unfold dP.p at hp
 unfold dP.tw dP.twX
 have s0:=w0.rf
 exact az hp ⟨rfl,w0,s0,trivial⟩
def aw.Q (H0:Hp) (Ri R0:atf)  (r:atl) (v:AV) (H':Hp):Prop:=∃ o1a:ON,∃ o1n:Nat,∃ o1c:Cap,v=(.agg [(.i r.1),(.sl ⟨o1a,o1n,o1c⟩)])/\o1n=(r.2).length/\Out H0 Ri H' (R0) λR=>ROs eI H' R ⟨o1a,o1n,o1c⟩ (r.2)
def aw.S125 (H0:Hp) (Ri R0:atf)  (C:atJ) (pC:atv):Prop:=∀ {SU SV SW GL GM gg GN SX SY SZ wH aeE fl gS S_ Ta Tc rN},∀ {H:Hp},GL=wH.length->GM=S_.length->GN=rN.length->(Out H0 Ri H (Rs.own ⟨SV,GM,SY⟩ eI.z Ta::Rs.blk gg [.i aeE,.sl ⟨SV,GM,SY⟩]::Rs.own ⟨SW,GN,SZ⟩ (ac eI (eSl eI)).z Tc::R0) λR=>ROs (eSl (ac eI (eSl eI))) H R ⟨SU,GL,SX⟩ wH/\CR eI H R Ta S_/\CR (ac eI (eSl eI)) H R Tc rN)->∀ {r:atl},pC wH fl rN gS=some r->Rt (C ⟨SU,GL,SX⟩ gg 0 fl ⟨SW,GN,SZ⟩ gS H) (aw.Q H0 Ri R0  r)
def aw.S8021 (H0:Hp) (Ri R0:atf)  (C:aui) (pC:auv):Prop:=∀ {Td Te Tf Tg GO GP mY GQ GR Th Ti Tj Tk pg aeF jC iw jD fm Tl ph Tn To Tp pi},∀ {H:Hp},GO=pg.length->GP=Tl.length->GQ=pi.length->GR=ph.length->(Out H0 Ri H (Rs.own ⟨Te,GP,Ti⟩ eI.z Tn::Rs.blk mY [.i aeF,.sl ⟨Te,GP,Ti⟩]::Rs.own ⟨Tf,GQ,Tj⟩ (ac eI (eSl eI)).z To::Rs.own ⟨Tg,GR,Tk⟩ eI.z Tp::R0) λR=>ROs (eSl (ac eI (eSl eI))) H R ⟨Td,GO,Th⟩ pg/\CR eI H R Tn Tl/\CR (ac eI (eSl eI)) H R To pi/\CR eI H R Tp ph)->∀ {r:atl},pC pg jC pi iw ph jD fm=some r->Rt (C ⟨Td,GO,Th⟩ mY 0 jC ⟨Tf,GQ,Tj⟩ iw ⟨Tg,GR,Tk⟩ jD fm H) (aw.Q H0 Ri R0  r)
def aw.pj11 (F:Nat) (GS:auv) (Ai:aty) (vB:Int) (Aj:atz) (vC:Int) (Ak:ati) (vD:Int) (vE:Int):Option (Int×List Int):=GS Ai vB Aj vC Ak vD (wrap .i64 (vE+1))
theorem aw.j11_P  {C8021_:aui} {GS:auv} (hC8021:aw.S8021 H0 Ri R0  C8021_ GS) {aeG aeH aeI aeJ Tq Ts CU Tt Tu aeK aeL aeM aeN Ai aqe vB vC vD vE aeO Ak aeP aeQ aeR Aj} (aqf:Tq=Ai.length) (aqg:Ts=aeO.length) (aqh:Tt=Aj.length) (aqi:Tu=Ak.length) (h0:Out H0 Ri H (Rs.own ⟨aeH,Ts,aeL⟩ eI.z aeP::Rs.blk CU [.i aqe,.sl ⟨aeH,Ts,aeL⟩]::Rs.own ⟨aeI,Tt,aeM⟩ (ac eI (eSl eI)).z aeQ::Rs.own ⟨aeJ,Tu,aeN⟩ eI.z aeR::R0) λR=>ROs (eSl (ac eI (eSl eI))) H R ⟨aeG,Tq,aeK⟩ Ai/\CR eI H R aeP aeO/\CR (ac eI (eSl eI)) H R aeQ Aj/\CR eI H R aeR Ak) {r:atl} (hp:aw.pj11 F GS Ai vB Aj vC Ak vD vE=some r):Rt (aw.j11 F (cn.tw F) (cZ.tw F) (dP.tw F) (cq.tw F) C8021_ ⟨aeG,Tq,aeK⟩ CU 0 vB ⟨aeI,Tt,aeM⟩ vC ⟨aeJ,Tu,aeN⟩ vD vE H) (aw.Q H0 Ri R0  r):=by
 obtain ⟨w0,s0,aqj,aqk,aql,aqm⟩:=h0
 subst aqf
 subst aqg
 subst aqh
 subst aqi
 unfold aw.pj11 at hp
 unfold aw.j11
 exact hC8021 rfl rfl rfl rfl ⟨w0,s0,aqj,aqk,aql,aqm⟩ hp
def aw.S16047 (H0:Hp) (Ri R0:atf)  (C:Sl->Nat->Nat->Int->Sl->Int->Int->Sl->Int->Int->Hp->OA) (pC:List ((List (Int×List Int)))->Int->List (Int×List Int)->Int->Int->List Int->Int->Int->Option (Int×List Int)):Prop:=∀ {Tv Tw Tx Ty GT GU oz GV GW Tz TA TC TE lK aeS kY gL jB kZ iv TF mr TG TH TJ iF},∀ {H:Hp},GT=lK.length->GU=TF.length->GV=iF.length->GW=mr.length->(Out H0 Ri H (Rs.own ⟨Tw,GU,TA⟩ eI.z TG::Rs.blk oz [.i aeS,.sl ⟨Tw,GU,TA⟩]::Rs.own ⟨Tx,GV,TC⟩ (ac eI (eSl eI)).z TH::Rs.own ⟨Ty,GW,TE⟩ eI.z TJ::R0) λR=>ROs (eSl (ac eI (eSl eI))) H R ⟨Tv,GT,Tz⟩ lK/\CR eI H R TG TF/\CR (ac eI (eSl eI)) H R TH iF/\CR eI H R TJ mr)->∀ {r:atl},pC lK kY iF gL jB mr kZ iv=some r->Rt (C ⟨Tv,GT,Tz⟩ oz 0 kY ⟨Tx,GV,TC⟩ gL jB ⟨Ty,GW,TE⟩ kZ iv H) (aw.Q H0 Ri R0  r)
def aw.pj8 (F:Nat) (bu:atv) (Al:aty) (vv:Int) (Am:atz) (vw:Int):Option (Int×List Int):=bu Al vv Am (wrap .i64 (vw+1))
theorem aw.j8_P  {C125_:atJ} {bu:atv} (hC125:aw.S125 H0 Ri R0  C125_ bu) {aeT aeU aeV TK TL CO TN aeW aeX aeY Al aqn vv vw aeZ ae0 ae1 Am} (aqo:TK=Al.length) (aqp:TL=aeZ.length) (aqq:TN=Am.length) (h0:Out H0 Ri H (Rs.own ⟨aeU,TL,aeX⟩ eI.z ae0::Rs.blk CO [.i aqn,.sl ⟨aeU,TL,aeX⟩]::Rs.own ⟨aeV,TN,aeY⟩ (ac eI (eSl eI)).z ae1::R0) λR=>ROs (eSl (ac eI (eSl eI))) H R ⟨aeT,TK,aeW⟩ Al/\CR eI H R ae0 aeZ/\CR (ac eI (eSl eI)) H R ae1 Am) {r:atl} (hp:aw.pj8 F bu Al vv Am vw=some r):Rt (aw.j8 F (cn.tw F) (cZ.tw F) (dP.tw F) (cq.tw F) C125_ ⟨aeT,TK,aeW⟩ CO 0 vv ⟨aeV,TN,aeY⟩ vw H) (aw.Q H0 Ri R0  r):=by
 obtain ⟨w0,s0,aqr,aqs,aqt⟩:=h0
 subst aqo
 subst aqp
 subst aqq
 unfold aw.pj8 at hp
 unfold aw.j8
 exact hC125 rfl rfl rfl ⟨w0,s0,aqr,aqs,aqt⟩ hp
def aw.pj9 (F:Nat) (bu:atv) (An:aty) (vx:Int) (Ao:atz) (vy:Int):Option (Int×List Int):=aw.pj8 F bu An vx Ao vy
theorem aw.j9_P  {C125_:atJ} {bu:atv} (hC125:aw.S125 H0 Ri R0  C125_ bu) {ae2 ae3 ae4 TO TP CP TQ ae5 ae6 ae7 An aqu vx vy ae8 ae9 ae_ Ao} (aqv:TO=An.length) (aqw:TP=ae8.length) (aqx:TQ=Ao.length) (h0:Out H0 Ri H (Rs.own ⟨ae3,TP,ae6⟩ eI.z ae9::Rs.blk CP [.i aqu,.sl ⟨ae3,TP,ae6⟩]::Rs.own ⟨ae4,TQ,ae7⟩ (ac eI (eSl eI)).z ae_::R0) λR=>ROs (eSl (ac eI (eSl eI))) H R ⟨ae2,TO,ae5⟩ An/\CR eI H R ae9 ae8/\CR (ac eI (eSl eI)) H R ae_ Ao) {r:atl} (hp:aw.pj9 F bu An vx Ao vy=some r):Rt (aw.j9 F (cn.tw F) (cZ.tw F) (dP.tw F) (cq.tw F) C125_ ⟨ae2,TO,ae5⟩ CP 0 vx ⟨ae4,TQ,ae7⟩ vy H) (aw.Q H0 Ri R0  r):=by
 obtain ⟨w0,s0,aqy,aqz,aqA⟩:=h0
 subst aqv
 subst aqw
 subst aqx
 unfold aw.pj9 at hp
 unfold aw.j9
 exact aw.j8_P (@hC125) rfl rfl rfl ⟨w0,s0,aqy,aqz,aqA⟩ hp
def aw.pl16047 (F:Nat) (bu:atv):Nat->List ((List (Int×List Int)))->Int->List (Int×List Int)->Int->Int->List Int->Int->Int->Option (Int×List Int)
 | 0,_,_,_,_,_,_,_,_=>none
 | k+1,lK,kY,iF,gL,jB,mr,kZ,iv=>(bif (decide (iv<kZ)) then ((ix mr iv).bind λn1=>(ix lK jB).bind λn2=>(ix (gt lK n2) (gt mr n1)).bind λn3=>(if (gt mr n1)<0 then none else ((ix iF (Go.bits .andNot .i64 gL (wrap .i64 (1 * 2 ^ (min ((gt mr n1):Int).toNat (IntKind.i64).bits))))).bind λn5=>(cZ.p F ((gt (gt lK n2) n3).1) ((gt (gt lK n2) n3).2) ((gt iF n5).1) ((gt iF n5).2)).bind λr6=>(ix iF gL).bind λn12=>(dP.p F (wrap .i64 (jB - iv))).bind λr13=>(cn.p F r13 0).bind λr16=>(cZ.p F r6.1 r6.2 r16.1 r16.2).bind λr22=>(cq.p F ((gt iF n12).1) ((gt iF n12).2) r22.1 r22.2).bind λr29=>(ix iF gL).bind λn32=>(some (iF.set n32 (r29.1,(gt iF n32).2))).bind λl33=>(some (l33.set n32 ((gt l33 n32).1,r29.2))).bind λl36=>aw.pl16047 F bu k lK kY l36 gL jB mr kZ (wrap .i64 (iv+1))))) else (aw.pj9 F bu lK kY iF gL))
theorem aw.l16047_P  {C125_:atJ} {bu:atv} (hC125:aw.S125 H0 Ri R0  C125_ bu):∀ k,aw.S16047 H0 Ri R0  (aw.l16047 F (cn.tw F) (cZ.tw F) (dP.tw F) (cq.tw F) C125_ k) (aw.pl16047 F bu k):=by
 intro k
 induction k with
 | zero=>unfold aw.S16047;intros;rename_i hp;cases hp
 | succ k ih=>
  intro Tv Tw Tx Ty GT GU oz GV GW Tz TA TC TE lK aeS kY gL jB kZ iv TF mr TG TH TJ iF H aqB aqC aqD aqE h0 r hp
  obtain ⟨w0,s0,TT,afa,Ap,afb⟩:=h0
  subst aqB
  subst aqC
  subst aqD
  subst aqE
  unfold aw.pl16047 at hp
  unfold aw.l16047
  refine ay hp (λhp=>?_) λhp=>?_
  ·obtain ⟨n1,g1,hp⟩:=ag hp
   obtain ⟨p1,q1,i1,h1,j1⟩:=W.ixo (E:=eI) w0 (i:=3) rfl rfl afb g1
   refine ai i1 ?_
   have h1:_=[_]:=h1
   subst h1
   refine ai (aG (j1 0 _ rfl)) ?_
   obtain ⟨n2,g2,hp⟩:=ag hp
   obtain ⟨p2,q2,i2,h2,j2⟩:=ROs.ixr TT rfl g2
   refine ai i2 ?_
   obtain ⟨⟨amG,m2_0,c2_0⟩,rfl,f2_0⟩:=h2
   obtain rfl:m2_0=_:=f2_0.n
   refine ai (iG (j2 0 _ rfl)) ?_
   obtain ⟨n3,g3,hp⟩:=ag hp
   obtain ⟨p3,q3,i3,h3,j3⟩:=ROs.ixr f2_0 rfl g3
   refine ai i3 ?_
   obtain ⟨_,_,rfl,rfl,⟨⟨amH,m3_1,c3_1⟩,rfl,f3_1⟩⟩:=h3
   obtain rfl:m3_1=_:=f3_1.n
   refine ai (aG (j3 0 _ rfl)) ?_
   refine ai (iG (j3 1 _ rfl)) ?_
   obtain ⟨g4,hp⟩:=kd hp
   refine ke g4 ?_
   obtain ⟨n5,g5,hp⟩:=ag hp
   obtain ⟨p5,q5,i5,h5,j5⟩:=W.ixo (E:=(ac eI (eSl eI))) w0 (i:=2) rfl rfl Ap g5
   refine ai i5 ?_
   obtain ⟨_,_,rfl,rfl,⟨⟨amI,m5_1,c5_1⟩,rfl,f5_1⟩⟩:=h5
   obtain rfl:m5_1=_:=f5_1.n
   refine ai (aG (j5 0 _ rfl)) ?_
   refine ai (iG (j5 1 _ rfl)) ?_
   obtain ⟨r6,e6,hp⟩:=ag hp
   refine aE (cZ.P rfl rfl ⟨w0,f3_1,f5_1⟩ e6) ?_
   rintro _ H7 ⟨o1a_7,o1n_7,o1c_7,o1k_7,rfl,rfl,w7,s7,f7_0⟩
   refine br (br (br (br (br ?_))))
   refine eL (W.cons_of (Rn:=[_]) w0 w7 s7) ?_
   refine aS w7 λH9 w9 s9=>?_
   refine aq w9 0 λH10 w10 s10=>?_
   refine aq w10 0 λH11 w11 s11=>?_
   obtain ⟨n12,g12,hp⟩:=ag hp
   obtain ⟨p12,q12,i12,h12,j12⟩:=W.ixo (E:=(ac eI (eSl eI))) w11 (i:=4) rfl rfl (Ap.step (s7.trans (s9.trans (s10.trans s11)))) g12
   refine ai i12 ?_
   obtain ⟨_,_,rfl,rfl,⟨⟨asR,m12_1,c12_1⟩,rfl,f12_1⟩⟩:=h12
   obtain rfl:m12_1=_:=f12_1.n
   refine ai (aG (j12 0 _ rfl)) ?_
   refine ai (iG (j12 1 _ rfl)) ?_
   refine lI w11 0 ?_
   refine lSl w11 0 ?_
   obtain ⟨r13,e13,hp⟩:=ag hp
   refine aE (dP.P ⟨w11,trivial⟩ e13) ?_
   rintro _ H14 ⟨rfl,w14,s14,_⟩
   refine br ?_
   refine eL (W.cons_of (Rn:=[]) w11 w14 s14) ?_
   obtain ⟨r16,e16,hp⟩:=ag hp
   refine aE (cn.P ⟨w14,trivial⟩ e16) ?_
   rintro _ H17 ⟨o1a_17,o1n_17,o1c_17,o1k_17,rfl,rfl,w17,s17,f17_0⟩
   refine br (br (br (br (br ?_))))
   refine eL (W.cons_of (Rn:=[_]) w14 w17 s17) ?_
   obtain ⟨w19,s19⟩:=w17.pp [2,0,1,3,4,5,6] 7
   have f20:=W.borrow1 eI w19 (f7_0.step (s9.trans (s10.trans (s11.trans (s14.trans (s17.trans s19))))))
   obtain ⟨w20,s20⟩:=w19.right1
   have f21:=W.borrow1 eI w20 ((f17_0.step s19).step s20)
   obtain ⟨w21,s21⟩:=w20.right1
   obtain ⟨r22,e22,hp⟩:=ag hp
   refine aE (cZ.P rfl rfl ⟨w21,(f20.step s21),f21⟩ e22) ?_
   rintro _ H23 ⟨o1a_23,o1n_23,o1c_23,o1k_23,rfl,rfl,w23,s23,f23_0⟩
   obtain ⟨w24,s24⟩:=W.frame1 w20 w23 s23
   obtain ⟨w25,s25⟩:=W.frame1 w19 w24 s24
   refine br (br (br (br (br ?_))))
   refine eL (aZ.tr (aZ.refl _) s19 (W.cons_of (Rn:=[_]) w21 w23 s23)) ?_
   obtain ⟨w27,s27⟩:=w25.pp [2,0,1,3,4,5,6,7] 8
   have f28:=W.borrow1 eI w27 ((CR.flat (fB .i64) f23_0).step s27)
   obtain ⟨w28,s28⟩:=w27.right1
   obtain ⟨r29,e29,hp⟩:=ag hp
   refine aE (cq.P rfl rfl ⟨w28,((f12_1.step (s14.trans (s17.trans (s19.trans (s25.trans s27))))).step s28),f28⟩ e29) ?_
   rintro _ H30 ⟨o1a_30,o1n_30,o1c_30,o1k_30,rfl,rfl,w30,s30,f30_0⟩
   obtain ⟨w31,s31⟩:=W.frame1 w27 w30 s30
   refine br (br (br (br (br ?_))))
   obtain ⟨n32,g32,hp⟩:=ag hp
   obtain ⟨p32,q32,i32,h32,j32⟩:=W.ixo (E:=(ac eI (eSl eI))) w31 (i:=7) rfl rfl (Ap.step (s7.trans (s9.trans (s10.trans (s11.trans (s14.trans (s17.trans (s19.trans (s25.trans (s27.trans s31)))))))))) g32
   refine ai i32 ?_
   obtain ⟨l33,e33,hp⟩:=ag hp
   refine dD (ac eI (eSl eI)) w31 (i:=7) (j:=0) (p:=p32) rfl rfl (Ap.step (s7.trans (s9.trans (s10.trans (s11.trans (s14.trans (s17.trans (s19.trans (s25.trans (s27.trans s31)))))))))) g32 i32 e33 rfl rfl (λ_ h=>by obtain ⟨_,_,rfl,rfl,⟨_,rfl,q1⟩⟩:=h;exact ⟨[_],_,rfl,rfl,⟨_,rfl,q1⟩⟩) λH34 k34 w34 s34 c34=>?_
   obtain ⟨w35,s35,f35⟩:=w34.frz (i:=1) eI rfl ((CR.flat (fB .i64) f30_0).step s34)
   obtain ⟨l36,e36,hp⟩:=ag hp
   refine dD (ac eI (eSl eI)) w35 (i:=6) (j:=1) (p:=p32) rfl rfl (c34.step s35) (mw g32 (cA e33)) i32 e36 rfl rfl (λ_ h=>by obtain ⟨_,_,rfl,rfl,⟨_,rfl,q1⟩⟩:=h;exact ⟨[_],_,rfl,rfl,⟨_,rfl,f35⟩⟩) λH37 k37 w37 s37 c37=>?_
   obtain ⟨w38,s38⟩:=w37.pp [4,5,6,7] 8
   exact ih rfl rfl ((cA e33).symm.trans (cA e36).symm) rfl ⟨w38,(s0.trans (s7.trans (s9.trans (s10.trans (s11.trans (s14.trans (s17.trans (s19.trans (s25.trans (s27.trans (s31.trans (s34.trans (s35.trans (s37.trans s38)))))))))))))),(TT.step (s7.trans (s9.trans (s10.trans (s11.trans (s14.trans (s17.trans (s19.trans (s25.trans (s27.trans (s31.trans (s34.trans (s35.trans (s37.trans s38)))))))))))))),(afa.step (s7.trans (s9.trans (s10.trans (s11.trans (s14.trans (s17.trans (s19.trans (s25.trans (s27.trans (s31.trans (s34.trans (s35.trans (s37.trans s38)))))))))))))),(c37.step s38),(afb.step (s7.trans (s9.trans (s10.trans (s11.trans (s14.trans (s17.trans (s19.trans (s25.trans (s27.trans (s31.trans (s34.trans (s35.trans (s37.trans s38))))))))))))))⟩ hp
  ·obtain ⟨w39,s39⟩:=w0.pp [0,1,2] 4
   exact aw.j9_P (@hC125) rfl rfl rfl ⟨w39,(s0.trans s39),(TT.step s39),(afa.step s39),(Ap.step s39)⟩ hp
def aw.pj10 (F:Nat) (bu:atv) (Aq:aty) (vz:Int) (Ar:atz) (vA:Int) (rO:ati):Option (Int×List Int):=aw.pl16047 F bu F Aq vz Ar vA (wrap .i64 ((rO.length:Int) - 1)) rO (rO.length:Int) 0
theorem aw.j10_P  {C125_:atJ} {bu:atv} (hC125:aw.S125 H0 Ri R0  C125_ bu) {afc afd afe aff TU TV CT TW TX afg afh afi afj Aq aqF vz vA afk rO afl afm afn Ar} (aqG:TU=Aq.length) (aqH:TV=afk.length) (aqI:TW=Ar.length) (aqJ:TX=rO.length) (h0:Out H0 Ri H (Rs.own ⟨afd,TV,afh⟩ eI.z afl::Rs.blk CT [.i aqF,.sl ⟨afd,TV,afh⟩]::Rs.own ⟨afe,TW,afi⟩ (ac eI (eSl eI)).z afm::Rs.own ⟨aff,TX,afj⟩ eI.z afn::R0) λR=>ROs (eSl (ac eI (eSl eI))) H R ⟨afc,TU,afg⟩ Aq/\CR eI H R afl afk/\CR (ac eI (eSl eI)) H R afm Ar/\CR eI H R afn rO) {r:atl} (hp:aw.pj10 F bu Aq vz Ar vA rO=some r):Rt (aw.j10 F (cn.tw F) (cZ.tw F) (dP.tw F) (cq.tw F) C125_ ⟨afc,TU,afg⟩ CT 0 vz ⟨afe,TW,afi⟩ vA ⟨aff,TX,afj⟩ H) (aw.Q H0 Ri R0  r):=by
 obtain ⟨w0,s0,aqK,aqL,aqM,aqN⟩:=h0
 subst aqG
 subst aqH
 subst aqI
 subst aqJ
 unfold aw.pj10 at hp
 unfold aw.j10
 exact aw.l16047_P (@hC125) F rfl rfl rfl rfl ⟨w0,s0,aqK,aqL,aqM,aqN⟩ hp
def aw.pl8021 (F:Nat) (bu:atv):Nat->List ((List (Int×List Int)))->Int->List (Int×List Int)->Int->List Int->Int->Int->Option (Int×List Int)
 | 0,_,_,_,_,_,_,_=>none
 | k+1,pg,jC,pi,iw,ph,jD,fm=>(bif (decide (fm<jD)) then ((if fm<0 then none else ((bif ((Go.bits .and .i64 (Int.fdiv iw (2 ^ (min (fm:Int).toNat (IntKind.i64).bits))) 1)==1) then ((apn ph ([fm]:List Int)).bind λl3=>aw.pj11 F (aw.pl8021 F bu k) pg jC pi iw l3 jD fm) else (aw.pj11 F (aw.pl8021 F bu k) pg jC pi iw ph jD fm))))) else (aw.pj10 F bu pg jC pi iw ph))
theorem aw.l8021_P  {C125_:atJ} {bu:atv} (hC125:aw.S125 H0 Ri R0  C125_ bu):∀ k,aw.S8021 H0 Ri R0  (aw.l8021 F (cn.tw F) (cZ.tw F) (dP.tw F) (cq.tw F) C125_ k) (aw.pl8021 F bu k):=by
 intro k
 induction k with
 | zero=>unfold aw.S8021;intros;rename_i hp;cases hp
 | succ k ih=>
  intro Td Te Tf Tg GO GP mY GQ GR Th Ti Tj Tk pg aeF jC iw jD fm Tl ph Tn To Tp pi H aqO aqP aqQ aqR h0 r hp
  obtain ⟨w0,s0,TY,TZ,T_,Ua⟩:=h0
  subst aqO
  subst aqP
  subst aqQ
  subst aqR
  unfold aw.pl8021 at hp
  unfold aw.l8021
  refine ay hp (λhp=>?_) λhp=>?_
  ·obtain ⟨g1,hp⟩:=kd hp
   refine ke g1 ?_
   refine ay hp (λhp=>?_) λhp=>?_
   ·refine cL eI w0 (n:=1) (l:=([fm]:List Int)) rfl (CR.cons1 rfl CR.empty) rfl λH2 w2 s2 c2=>?_
    refine ai (w2.rowo (i:=0) rfl) ?_
    obtain ⟨l3,e3,hp⟩:=ag hp
    refine fA eI w2 (i:=4) rfl rfl (Ua.step s2) c2 (show 1=List.length ([fm]:List Int) from rfl) rfl e3 λa4 d4 H4 w4 s4 c4 x4=>?_
    obtain ⟨w5,s5⟩:=w4.pp [1,2,3,4] 5
    exact aw.j11_P (@ih) rfl rfl rfl rfl ⟨w5,(s0.trans (s2.trans (s4.trans s5))),(TY.step (s2.trans (s4.trans s5))),(TZ.step (s2.trans (s4.trans s5))),(T_.step (s2.trans (s4.trans s5))),(c4.step s5)⟩ hp
   ·exact aw.j11_P (@ih) rfl rfl rfl rfl ⟨w0,s0,TY,TZ,T_,Ua⟩ hp
  ·exact aw.j10_P (@hC125) rfl rfl rfl rfl ⟨w0,s0,TY,TZ,T_,Ua⟩ hp
def aw.pj6 (F:Nat)  (oy:Int) (rP:atz):Option (Int×List Int):=(if oy<0 then none else ((ix rP (wrap .i64 ((wrap .i64 (1 * 2 ^ (min (oy:Int).toNat (IntKind.i64).bits))) - 1))).bind λn2=>some (((gt rP n2).1),(gt rP n2).2)))
theorem aw.j6_P   {aqS oy afo afp Ub pQ Uc afq afr afs aft afu rP} (aqT:Ub=afs.length) (aqU:Uc=rP.length) (h0:Out H0 Ri H (Rs.own ⟨afo,Ub,afq⟩ eI.z aft::Rs.blk pQ [.i aqS,.sl ⟨afo,Ub,afq⟩]::Rs.own ⟨afp,Uc,afr⟩ (ac eI (eSl eI)).z afu::R0) λR=>CR eI H R aft afs/\CR (ac eI (eSl eI)) H R afu rP) {r:atl} (hp:aw.pj6 F  oy rP=some r):Rt (aw.j6 F (cn.tw F) (cZ.tw F) (dP.tw F) (cq.tw F)  pQ 0 oy ⟨afp,Uc,afr⟩ H) (aw.Q H0 Ri R0  r):=by
 obtain ⟨w0,s0,asT,aqV⟩:=h0
 subst aqT
 subst aqU
 unfold aw.pj6 at hp
 unfold aw.j6
 obtain ⟨g1,hp⟩:=kd hp
 refine ke g1 ?_
 obtain ⟨n2,g2,hp⟩:=ag hp
 obtain ⟨p2,q2,i2,h2,j2⟩:=W.ixo (E:=(ac eI (eSl eI))) w0 (i:=2) rfl rfl aqV g2
 refine ai i2 ?_
 obtain ⟨_,_,rfl,rfl,⟨⟨amX,m2_1,c2_1⟩,rfl,f2_1⟩⟩:=h2
 obtain rfl:m2_1=_:=f2_1.n
 refine ai (aG (j2 0 _ rfl)) ?_
 refine ai (iG (j2 1 _ rfl)) ?_
 refine aq w0 1 λH3 w3 s3=>?_
 refine aq w3 1 λH4 w4 s4=>?_
 refine lI w4 1 ?_
 refine lSl w4 1 ?_
 obtain ⟨w5,s5⟩:=w4.pp [] 3
 exact az hp ⟨_,_,_,rfl,rfl,w5,(s0.trans (s3.trans (s4.trans s5))),(f2_1.step (s3.trans (s4.trans s5)))⟩
def aw.pl125 (F:Nat) :Nat->List ((List (Int×List Int)))->Int->List (Int×List Int)->Int->Option (Int×List Int)
 | 0,_,_,_,_=>none
 | k+1,wH,fl,rN,gS=>(if fl<0 then none else ((bif (decide (gS<(wrap .i64 (1 * 2 ^ (min (fl:Int).toNat (IntKind.i64).bits))))) then (aw.pl8021 F (aw.pl125 F k) F wH fl rN gS ([]:List Int) fl 0) else (aw.pj6 F fl rN))))
theorem aw.l125_P  :∀ k,aw.S125 H0 Ri R0  (aw.l125 F (cn.tw F) (cZ.tw F) (dP.tw F) (cq.tw F)  k) (aw.pl125 F  k):=by
 intro k
 induction k with
 | zero=>unfold aw.S125;intros;rename_i hp;cases hp
 | succ k ih=>
  intro SU SV SW GL GM gg GN SX SY SZ wH aeE fl gS S_ Ta Tc rN H aqW aqX aqY h0 r hp
  obtain ⟨w0,s0,aqZ,afv,afw⟩:=h0
  subst aqW
  subst aqX
  subst aqY
  unfold aw.pl125 at hp
  unfold aw.l125
  obtain ⟨g1,hp⟩:=kd hp
  refine ke g1 ?_
  refine ay hp (λhp=>?_) λhp=>?_
  ·obtain ⟨w2,s2⟩:=w0.nilS eI.z (by decide)
   obtain ⟨w3,s3⟩:=w2.pp [1,2,3,0] 4
   exact aw.l8021_P (@ih) F rfl rfl rfl rfl ⟨w3,(s0.trans (s2.trans s3)),(aqZ.step (s2.trans s3)),(afv.step (s2.trans s3)),(afw.step (s2.trans s3)),((CR.empty:CR eI _ _ [] []).step s3)⟩ hp
  ·exact aw.j6_P rfl rfl ⟨w0,s0,afv,afw⟩ hp
def aw.p (F:Nat) (ah:aty):Option (Int×List Int):=(if (ah.length:Int)<0 then none else ((mkn (wrap .i64 (1 * 2 ^ (min ((ah.length:Int):Int).toNat (IntKind.i64).bits))) ((0:Int),([]:List Int))).bind λl3=>(cn.p F 1 0).bind λr5=>(ix l3 0).bind λn7=>(some (l3.set n7 (r5.1,(gt l3 n7).2))).bind λl8=>(some (l8.set n7 ((gt l8 n7).1,r5.2))).bind λl11=>aw.pl125 F F ah (ah.length:Int) l11 1))
theorem aw.P {aB ak aC ah} (ba:ak=ah.length) (h0:Inn H R0 λR=>ROs (eSl (ac eI (eSl eI))) H R ⟨aB,ak,aC⟩ ah) {r:atl} (hp:aw.p F ah=some r):Rt (aw.tw F ⟨aB,ak,aC⟩ H) (aw.Q H R0 R0  r):=by
 obtain ⟨w0,aO⟩:=h0
 subst ba
 unfold aw.p at hp
 unfold aw.tw aw.twX
 have s0:=w0.rf
 refine aS w0 λH1 w1 s1=>?_
 obtain ⟨g2,hp⟩:=kd hp
 refine ke g2 ?_
 obtain ⟨l3,e3,hp⟩:=ag hp
 refine kc (ac eI (eSl eI)) ((0:Int),([]:List Int)) w1 ⟨[_],_,rfl,rfl,⟨_,rfl,ROs.nil⟩⟩ rfl rfl e3 λH4 k4 w4 s4 c4=>?_
 obtain ⟨r5,e5,hp⟩:=ag hp
 refine aE (cn.P ⟨w4,trivial⟩ e5) ?_
 rintro _ H6 ⟨o1a_6,o1n_6,o1c_6,o1k_6,rfl,rfl,w6,s6,f6_0⟩
 refine br (br (br (br (br ?_))))
 obtain ⟨n7,g7,hp⟩:=ag hp
 obtain ⟨p7,q7,i7,h7,j7⟩:=W.ixo (E:=(ac eI (eSl eI))) w6 (i:=1) rfl rfl (c4.step s6) g7
 refine ai i7 ?_
 obtain ⟨l8,e8,hp⟩:=ag hp
 refine dD (ac eI (eSl eI)) w6 (i:=1) (j:=0) (p:=p7) rfl rfl (c4.step s6) g7 i7 e8 rfl rfl (λ_ h=>by obtain ⟨_,_,rfl,rfl,⟨_,rfl,q1⟩⟩:=h;exact ⟨[_],_,rfl,rfl,⟨_,rfl,q1⟩⟩) λH9 k9 w9 s9 c9=>?_
 obtain ⟨w10,s10,f10⟩:=w9.frz (i:=0) eI rfl (f6_0.step s9)
 obtain ⟨l11,e11,hp⟩:=ag hp
 refine dD (ac eI (eSl eI)) w10 (i:=0) (j:=1) (p:=p7) rfl rfl (c9.step s10) (mw g7 (cA e8)) i7 e11 rfl rfl (λ_ h=>by obtain ⟨_,_,rfl,rfl,⟨_,rfl,q1⟩⟩:=h;exact ⟨[_],_,rfl,rfl,⟨_,rfl,f10⟩⟩) λH12 k12 w12 s12 c12=>?_
 obtain ⟨w13,s13⟩:=w12.nilS eI.z (by decide)
 obtain ⟨w14,s14⟩:=w13.pp [0,2,1] 3
 exact aw.l125_P F rfl rfl ((cA e8).symm.trans (cA e11).symm) ⟨w14,(s0.trans (s1.trans (s4.trans (s6.trans (s9.trans (s10.trans (s12.trans (s13.trans s14)))))))),(aO.step (s1.trans (s4.trans (s6.trans (s9.trans (s10.trans (s12.trans (s13.trans s14)))))))),((CR.empty:CR eI _ _ [] []).step s14),(c12.step (s13.trans s14))⟩ hp
def bJ.Q (H0:Hp) (Ri R0:atf)  (r:atl) (v:AV) (H':Hp):Prop:=∃ o1a:ON,∃ o1n:Nat,∃ o1c:Cap,∃ o1k:List AV,v=(.agg [(.i r.1),(.sl ⟨o1a,o1n,o1c⟩)])/\o1n=(r.2).length/\Out H0 Ri H' (Rs.own ⟨o1a,o1n,o1c⟩ eI.z o1k::R0) λR=>CR eI H' R o1k (r.2)
def bJ.S117 (H0:Hp) (Ri R0:atf)  (C:Nat->Nat->Nat->Nat->Int->Int->Hp->OA) (pC:auq):Prop:=∀ {afx wI k_ iy qY Ud ns eW GX gR qZ Ue q_ ms rc Uf},∀ {H:Hp},ns=q_.length->GX=ms.length->(Out H0 Ri H (Rs.own ⟨qY,ns,qZ⟩ eI.z rc::Rs.blk eW [.i afx,.sl ⟨qY,ns,qZ⟩]::Rs.own ⟨Ud,GX,Ue⟩ eI.z Uf::Rs.blk gR [.i wI,.sl ⟨Ud,GX,Ue⟩]::R0) λR=>CR eI H R rc q_/\CR eI H R Uf ms)->∀ {r:atl},pC wI ms k_ iy=some r->Rt (C eW 0 gR 0 k_ iy H) (bJ.Q H0 Ri R0  r)
def bJ.pl117 (F:Nat) :Nat->Int->List Int->Int->Int->Option (Int×List Int)
 | 0,_,_,_,_=>none
 | k+1,wI,ms,k_,iy=>(bif (decide (iy<k_)) then ((ix ms iy).bind λn1=>(ix ms iy).bind λn2=>(some (ms.set n2 (wrap .i64 (0 - (gt ms n1))))).bind λl3=>bJ.pl117 F k wI l3 k_ (wrap .i64 (iy+1))) else (some (wI,ms)))
theorem bJ.l117_P  :∀ k,bJ.S117 H0 Ri R0  (bJ.l117 F (dy.tw F)  k) (bJ.pl117 F  k):=by
 intro k
 induction k with
 | zero=>unfold bJ.S117;intros;rename_i hp;cases hp
 | succ k ih=>
  intro afx wI k_ iy qY Ud ns eW GX gR qZ Ue q_ ms rc Uf H OU aq0 h0 r hp
  obtain ⟨w0,s0,OW,GY⟩:=h0
  subst OU
  subst aq0
  unfold bJ.pl117 at hp
  unfold bJ.l117
  refine ay hp (λhp=>?_) λhp=>?_
  ·refine lSl w0 3 ?_
   refine lSl w0 3 ?_
   obtain ⟨n1,g1,hp⟩:=ag hp
   obtain ⟨p1,q1,i1,h1,j1⟩:=W.ixo (E:=eI) w0 (i:=2) rfl rfl GY g1
   refine ai i1 ?_
   have h1:_=[_]:=h1
   subst h1
   refine ai (aG (j1 0 _ rfl)) ?_
   obtain ⟨n2,g2,hp⟩:=ag hp
   obtain ⟨p2,q2,i2,h2,j2⟩:=W.ixo (E:=eI) w0 (i:=2) rfl rfl GY g2
   refine ai i2 ?_
   obtain ⟨l3,e3,hp⟩:=ag hp
   refine dD eI w0 (i:=2) (j:=0) (p:=p2) rfl rfl GY g2 i2 e3 rfl rfl (λ_ h=>by have h:_=[_]:=h;subst h;exact rfl) λH4 k4 w4 s4 c4=>?_
   exact ih rfl ((cA e3).symm) ⟨w4,(s0.trans s4),(OW.step s4),c4⟩ hp
  ·refine lI w0 3 ?_
   refine lSl w0 3 ?_
   refine aq w0 1 λH5 w5 s5=>?_
   refine aq w5 1 λH6 w6 s6=>?_
   refine lI w6 1 ?_
   refine lSl w6 1 ?_
   obtain ⟨w7,s7⟩:=w6.pp [2] 4
   exact az hp ⟨_,_,_,_,rfl,rfl,w7,(s0.trans (s5.trans (s6.trans s7))),(GY.step (s5.trans (s6.trans s7)))⟩
def bJ.p (F:Nat) (aF:ati):Option (Int×List Int):=(dy.p F aF).bind λr3=>(bif (decide ((r3.length:Int)>0)) then ((ix r3 0).bind λn8=>(bif (decide ((gt r3 n8)<0)) then (bJ.pl117 F F 0 r3 (r3.length:Int) 0) else (some (0,r3)))) else (some (0,r3)))
theorem bJ.P {aa ck bE cl aF} (dv:bE=aF.length) (h0:Inn H R0 λR=>ROs eI H R ⟨ck,bE,cl⟩ aF) {r:atl} (hp:bJ.p F aF=some r):Rt (bJ.tw F aa ⟨ck,bE,cl⟩ H) (bJ.Q H R0 R0  r):=by
 obtain ⟨w0,ct⟩:=h0
 subst dv
 unfold bJ.p at hp
 unfold bJ.tw bJ.twX
 have s0:=w0.rf
 refine aS w0 λH1 w1 s1=>?_
 refine aS w1 λH2 w2 s2=>?_
 refine lSl w2 1 ?_
 obtain ⟨r3,e3,hp⟩:=ag hp
 refine aE (dy.P rfl ⟨w2,(ct.step (s1.trans s2))⟩ e3) ?_
 rintro _ H4 ⟨o0a_4,o0n_4,o0c_4,o0k_4,rfl,rfl,w4,s4,f4_0⟩
 refine br ?_
 refine aS w4 λH5 w5 s5=>?_
 refine aq w5 0 λH6 w6 s6=>?_
 refine aq w6 0 λH7 w7 s7=>?_
 refine lSl w7 0 ?_
 refine ay hp (λhp=>?_) λhp=>?_
 ·refine lSl w7 0 ?_
  obtain ⟨n8,g8,hp⟩:=ag hp
  obtain ⟨p8,q8,i8,h8,j8⟩:=W.ixo (E:=eI) w7 (i:=1) rfl rfl (f4_0.step (s5.trans (s6.trans s7))) g8
  refine ai i8 ?_
  have h8:_=[_]:=h8
  subst h8
  refine ai (aG (j8 0 _ rfl)) ?_
  refine ay hp (λhp=>?_) λhp=>?_
  ·refine lSl w7 0 ?_
   obtain ⟨w9,s9⟩:=w7.nilS eI.z (by decide)
   obtain ⟨w10,s10⟩:=w9.pp [0,3,2,1] 5
   exact bJ.l117_P F rfl rfl ⟨w10,(s0.trans (s1.trans (s2.trans (s4.trans (s5.trans (s6.trans (s7.trans (s9.trans s10)))))))),((CR.empty:CR eI _ _ [] []).step s10),(f4_0.step (s5.trans (s6.trans (s7.trans (s9.trans s10)))))⟩ hp
  ·refine lI w7 0 ?_
   refine lSl w7 0 ?_
   refine aq w7 2 λH11 w11 s11=>?_
   refine aq w11 2 λH12 w12 s12=>?_
   refine lI w12 2 ?_
   refine lSl w12 2 ?_
   obtain ⟨w13,s13⟩:=w12.pp [1] 4
   exact az hp ⟨_,_,_,_,rfl,rfl,w13,(s0.trans (s1.trans (s2.trans (s4.trans (s5.trans (s6.trans (s7.trans (s11.trans (s12.trans s13))))))))),(f4_0.step (s5.trans (s6.trans (s7.trans (s11.trans (s12.trans s13))))))⟩
 ·refine lI w7 0 ?_
  refine lSl w7 0 ?_
  refine aq w7 2 λH14 w14 s14=>?_
  refine aq w14 2 λH15 w15 s15=>?_
  refine lI w15 2 ?_
  refine lSl w15 2 ?_
  obtain ⟨w16,s16⟩:=w15.pp [1] 4
  exact az hp ⟨_,_,_,_,rfl,rfl,w16,(s0.trans (s1.trans (s2.trans (s4.trans (s5.trans (s6.trans (s7.trans (s14.trans (s15.trans s16))))))))),(f4_0.step (s5.trans (s6.trans (s7.trans (s14.trans (s15.trans s16))))))⟩
def bh.Q (H0:Hp) (Ri R0:atf)  (r:atl) (v:AV) (H':Hp):Prop:=∃ o1a:ON,∃ o1n:Nat,∃ o1c:Cap,∃ o1k:List AV,v=(.agg [(.i r.1),(.sl ⟨o1a,o1n,o1c⟩)])/\o1n=(r.2).length/\Out H0 Ri H' (Rs.own ⟨o1a,o1n,o1c⟩ eI.z o1k::R0) λR=>CR eI H' R o1k (r.2)
def bh.S253 (H0:Hp) (Ri R0:atf)  (C:Nat->Nat->Sl->Int->Int->Int->Hp->OA) (pC:List ((List (Int×List Int)))->Int->Int->Int->Option (Int×List Int)):Prop:=∀ {afy lf lg iz Ug Uh GZ oA G_ Ui Uj Uk Ul afz afA Um mu},∀ {H:Hp},GZ=Uk.length->G_=mu.length->(Out H0 Ri H (Rs.own ⟨Ug,GZ,Ui⟩ eI.z Ul::Rs.blk oA [.i afy,.sl ⟨Ug,GZ,Ui⟩]::Rs.ow false ⟨Uh,G_,Uj⟩ (eSl (ac eI (eSl eI))).z afz Um afA::R0) λR=>CR eI H R Ul Uk/\CR (eSl (ac eI (eSl eI))) H R Um mu)->∀ {r:atl},pC mu lf lg iz=some r->Rt (C oA 0 ⟨Uh,G_,Uj⟩ lf lg iz H) (bh.Q H0 Ri R0  r)
def bh.pj1 (F:Nat)  (As:aty):Option (Int×List Int):=(aw.p F As).bind λr2=>(bJ.p F r2.2).bind λr4=>some (r4.1,r4.2)
theorem bh.j1_P   {aq1 afB afC Un pU Uo afD afE afF afG aq2 aq3 afH As} (aq4:Un=afF.length) (aq5:Uo=As.length) (h0:Out H0 Ri H (Rs.own ⟨afB,Un,afD⟩ eI.z afG::Rs.blk pU [.i aq1,.sl ⟨afB,Un,afD⟩]::Rs.ow false ⟨afC,Uo,afE⟩ (eSl (ac eI (eSl eI))).z aq2 afH aq3::R0) λR=>CR eI H R afG afF/\CR (eSl (ac eI (eSl eI))) H R afH As) {r:atl} (hp:bh.pj1 F  As=some r):Rt (bh.j1 F (aX.tw F) (bg.tw F) (er.tw F) (aw.tw F) (bJ.tw F)  pU 0 ⟨afC,Uo,afE⟩ H) (bh.Q H0 Ri R0  r):=by
 obtain ⟨w0,s0,asU,aq6⟩:=h0
 subst aq4
 subst aq5
 unfold bh.pj1 at hp
 unfold bh.j1
 obtain ⟨w1,s1,f1⟩:=w0.frz (i:=2) (eSl (ac eI (eSl eI))) rfl aq6
 obtain ⟨r2,e2,hp⟩:=ag hp
 refine aE (aw.P rfl ⟨w1,f1⟩ e2) ?_
 rintro _ H3 ⟨o1a_3,o1n_3,o1c_3,rfl,rfl,w3,s3,f3_0⟩
 refine br (br (br (br (br ?_))))
 obtain ⟨r4,e4,hp⟩:=ag hp
 refine aE (bJ.P rfl ⟨w3,f3_0⟩ e4) ?_
 rintro _ H5 ⟨o1a_5,o1n_5,o1c_5,o1k_5,rfl,rfl,w5,s5,f5_0⟩
 refine br (br (br (br (br ?_))))
 refine aq w5 2 λH6 w6 s6=>?_
 refine aq w6 2 λH7 w7 s7=>?_
 refine lI w7 2 ?_
 refine lSl w7 2 ?_
 obtain ⟨w8,s8⟩:=w7.pp [0] 3
 exact az hp ⟨_,_,_,_,rfl,rfl,w8,(s0.trans (s1.trans (s3.trans (s5.trans (s6.trans (s7.trans s8)))))),(f5_0.step (s6.trans (s7.trans s8)))⟩
def bh.pl253 (F:Nat) :Nat->List ((List (Int×List Int)))->Int->Int->Int->Option (Int×List Int)
 | 0,_,_,_,_=>none
 | k+1,mu,lf,lg,iz=>(bif (decide (iz<lg)) then ((ix mu iz).bind λn1=>(cutf (gt mu n1) 0 (wrap .i64 (lf - 1))).bind λl2=>(ix mu iz).bind λn3=>(some (mu.set n3 l2)).bind λl4=>bh.pl253 F k l4 lf lg (wrap .i64 (iz+1))) else (bh.pj1 F mu))
theorem bh.l253_P  :∀ k,bh.S253 H0 Ri R0  (bh.l253 F (aX.tw F) (bg.tw F) (er.tw F) (aw.tw F) (bJ.tw F)  k) (bh.pl253 F  k):=by
 intro k
 induction k with
 | zero=>unfold bh.S253;intros;rename_i hp;cases hp
 | succ k ih=>
  intro afy lf lg iz Ug Uh GZ oA G_ Ui Uj Uk Ul afz afA Um mu H aq7 aq8 h0 r hp
  obtain ⟨w0,s0,afI,Ha⟩:=h0
  subst aq7
  subst aq8
  unfold bh.pl253 at hp
  unfold bh.l253
  refine ay hp (λhp=>?_) λhp=>?_
  ·obtain ⟨n1,g1,hp⟩:=ag hp
   obtain ⟨p1,q1,i1,h1,j1⟩:=W.ixo (E:=(eSl (ac eI (eSl eI)))) w0 (i:=2) rfl rfl Ha g1
   refine ai i1 ?_
   obtain ⟨⟨YW,m1_0,c1_0⟩,rfl,f1_0⟩:=h1
   obtain rfl:m1_0=_:=f1_0.n
   refine ai (iG (j1 0 _ rfl)) ?_
   obtain ⟨l2,e2,hp⟩:=ag hp
   obtain ⟨a2,d2,h2,f2⟩:=ROs.cutf f1_0 rfl e2
   refine ai h2 ?_
   obtain ⟨n3,g3,hp⟩:=ag hp
   obtain ⟨p3,q3,i3,h3,j3⟩:=W.ixo (E:=(eSl (ac eI (eSl eI)))) w0 (i:=2) rfl rfl Ha g3
   refine ai i3 ?_
   obtain ⟨l4,e4,hp⟩:=ag hp
   refine dD (eSl (ac eI (eSl eI))) w0 (i:=2) (j:=0) (p:=p3) rfl rfl Ha g3 i3 e4 rfl rfl (λ_ h=>by obtain ⟨_,h,_⟩:=h;subst h;exact ⟨_,rfl,f2⟩) λH5 k5 w5 s5 c5=>?_
   exact ih rfl ((cA e4).symm) ⟨w5,(s0.trans s5),(afI.step s5),c5⟩ hp
  ·exact bh.j1_P rfl rfl ⟨w0,s0,afI,Ha⟩ hp
def bh.pj2 (F:Nat)  (rQ:aty) (oC:Int):Option (Int×List Int):=(er.p F rQ).bind λr3=>(bif (r3 != (wrap .i64 (oC - 1))) then (some (0,([]:List Int))) else (bh.pl253 F F rQ oC (rQ.length:Int) 0))
theorem bh.j2_P   {aq9 oC afJ afK Up oB Uq afL afM afN afO aq_ ara afP rQ} (arb:Up=afN.length) (arc:Uq=rQ.length) (h0:Out H0 Ri H (Rs.own ⟨afJ,Up,afL⟩ eI.z afO::Rs.blk oB [.i aq9,.sl ⟨afJ,Up,afL⟩]::Rs.ow false ⟨afK,Uq,afM⟩ (eSl (ac eI (eSl eI))).z aq_ afP ara::R0) λR=>CR eI H R afO afN/\CR (eSl (ac eI (eSl eI))) H R afP rQ) {r:atl} (hp:bh.pj2 F  rQ oC=some r):Rt (bh.j2 F (aX.tw F) (bg.tw F) (er.tw F) (aw.tw F) (bJ.tw F)  oB 0 ⟨afK,Uq,afM⟩ oC H) (bh.Q H0 Ri R0  r):=by
 obtain ⟨w0,s0,ard,afQ⟩:=h0
 subst arb
 subst arc
 unfold bh.pj2 at hp
 unfold bh.j2
 obtain ⟨w1,s1⟩:=w0.pp [2,0,1] 3
 have f2:=W.borrow1 (eSl (ac eI (eSl eI))) w1 (afQ.step s1)
 obtain ⟨w2,s2⟩:=w1.right1
 obtain ⟨r3,e3,hp⟩:=ag hp
 refine aE (er.P rfl ⟨w2,f2⟩ e3) ?_
 rintro _ H4 ⟨rfl,w4,s4,_⟩
 obtain ⟨w5,s5⟩:=W.frame1 w1 w4 s4
 refine br ?_
 refine ay hp (λhp=>?_) λhp=>?_
 ·refine aq w5 2 λH6 w6 s6=>?_
  refine aq w6 2 λH7 w7 s7=>?_
  refine lI w7 2 ?_
  refine lSl w7 2 ?_
  obtain ⟨w8,s8⟩:=w7.nilS eI.z (by decide)
  obtain ⟨w9,s9⟩:=w8.pp [0] 4
  exact az hp ⟨_,_,_,_,rfl,rfl,w9,(s0.trans (s1.trans (s5.trans (s6.trans (s7.trans (s8.trans s9)))))),((CR.empty:CR eI _ _ [] []).step s9)⟩
 ·obtain ⟨w10,s10⟩:=w5.pp [1,2,0] 3
  exact bh.l253_P F rfl rfl ⟨w10,(s0.trans (s1.trans (s5.trans s10))),(ard.step (s1.trans (s5.trans s10))),(afQ.step (s1.trans (s5.trans s10)))⟩ hp
def bh.p (F:Nat) (ah:ato) (af:Int):Option (Int×List Int):=(aX.p F ah af).bind λr3=>(bg.p F ah af).bind λr5=>(er.p F r3).bind λr9=>(bif (r9==r5.2) then ((cutf r3 0 (wrap .i64 (r5.2 - 1))).bind λl12=>bh.pj2 F l12 r5.2) else (bh.pj2 F r3 r5.2))
theorem bh.P {aB ak aC ah af} (ba:ak=ah.length) (h0:Inn H R0 λR=>ROs (ac eI (ac eI (ac eI (ac eI eI)))) H R ⟨aB,ak,aC⟩ ah) {r:atl} (hp:bh.p F ah af=some r):Rt (bh.tw F ⟨aB,ak,aC⟩ af H) (bh.Q H R0 R0  r):=by
 obtain ⟨w0,aO⟩:=h0
 subst ba
 unfold bh.p at hp
 unfold bh.tw bh.twX
 have s0:=w0.rf
 refine aS w0 λH1 w1 s1=>?_
 refine aS w1 λH2 w2 s2=>?_
 refine lSl w2 1 ?_
 refine lI w2 1 ?_
 obtain ⟨r3,e3,hp⟩:=ag hp
 refine aE (aX.P rfl ⟨w2,(aO.step (s1.trans s2))⟩ e3) ?_
 rintro _ H4 ⟨o0a_4,o0n_4,o0c_4,o0k_4,rfl,rfl,w4,s4,f4_0⟩
 refine br ?_
 refine lSl w4 2 ?_
 refine lI w4 2 ?_
 obtain ⟨r5,e5,hp⟩:=ag hp
 refine aE (bg.P rfl ⟨w4,(aO.step (s1.trans (s2.trans s4)))⟩ e5) ?_
 rintro _ H6 ⟨o0a_6,o0n_6,o0c_6,o0k_6,rfl,rfl,w6,s6,f6_0⟩
 refine br (br (br (br (br ?_))))
 obtain ⟨w7,s7⟩:=w6.pp [1,0,2,3] 4
 have f8:=W.borrow1 (eSl (ac eI (eSl eI))) w7 (f4_0.step (s6.trans s7))
 obtain ⟨w8,s8⟩:=w7.right1
 obtain ⟨r9,e9,hp⟩:=ag hp
 refine aE (er.P rfl ⟨w8,f8⟩ e9) ?_
 rintro _ H10 ⟨rfl,w10,s10,_⟩
 obtain ⟨w11,s11⟩:=W.frame1 w7 w10 s10
 refine br ?_
 refine ay hp (λhp=>?_) λhp=>?_
 ·obtain ⟨l12,e12,hp⟩:=ag hp
  obtain ⟨a13,d13,h13,w13,s13,c13⟩:=w11.cuto (eSl (ac eI (eSl eI))) (i:=0) rfl (f4_0.step (s6.trans (s7.trans s11))) e12
  refine ai h13 ?_
  obtain ⟨w14,s14⟩:=w13.nilS eI.z (by decide)
  obtain ⟨w15,s15⟩:=w14.pp [0,3,1] 5
  exact bh.j2_P rfl rfl ⟨w15,(s0.trans (s1.trans (s2.trans (s4.trans (s6.trans (s7.trans (s11.trans (s13.trans (s14.trans s15))))))))),((CR.empty:CR eI _ _ [] []).step s15),(c13.step (s14.trans s15))⟩ hp
 ·obtain ⟨w16,s16⟩:=w11.nilS eI.z (by decide)
  obtain ⟨w17,s17⟩:=w16.loose (i:=1) rfl
  obtain ⟨w18,s18⟩:=w17.pp [0,3,1] 5
  exact bh.j2_P rfl rfl ⟨w18,(s0.trans (s1.trans (s2.trans (s4.trans (s6.trans (s7.trans (s11.trans (s16.trans (s17.trans s18))))))))),((CR.empty:CR eI _ _ [] []).step (s17.trans s18)),(f4_0.step (s6.trans (s7.trans (s11.trans (s16.trans (s17.trans s18))))))⟩ hp
def eH.Q (H0:Hp) (Ri R0:atf)  (r:atx) (v:AV) (H':Hp):Prop:=∃ o1a:ON,∃ o1n:Nat,∃ o1c:Cap,∃ o1k:List AV,v=(.tup [(.agg [(.i r.1),(.sl ⟨o1a,o1n,o1c⟩)]),(.i r.2.2)])/\o1n=(r.2.1).length/\Out H0 Ri H' (Rs.own ⟨o1a,o1n,o1c⟩ eI.z o1k::R0) λR=>CR eI H' R o1k (r.2.1)
def eH.p (F:Nat) (ah:ato) (af:Int):Option (Int×List Int×Int):=(eM.p F ah af).bind λr3=>(bif (r3 != 0) then (some (0,([]:List Int),r3)) else ((bh.p F ah af).bind λr9=>some (r9.1,r9.2,0)))
theorem eH.P {aB ak aC ah af} (ba:ak=ah.length) (h0:Inn H R0 λR=>ROs (ac eI (ac eI (ac eI (ac eI eI)))) H R ⟨aB,ak,aC⟩ ah) {r:atx} (hp:eH.p F ah af=some r):Rt (eH.tw F ⟨aB,ak,aC⟩ af H) (eH.Q H R0 R0  r):=by
 obtain ⟨w0,aO⟩:=h0
 subst ba
 unfold eH.p at hp
 unfold eH.tw eH.twX
 have s0:=w0.rf
 refine aS w0 λH1 w1 s1=>?_
 refine aS w1 λH2 w2 s2=>?_
 refine lSl w2 1 ?_
 refine lI w2 1 ?_
 obtain ⟨r3,e3,hp⟩:=ag hp
 refine aE (eM.P rfl ⟨w2,(aO.step (s1.trans s2))⟩ e3) ?_
 rintro _ H4 ⟨rfl,w4,s4,_⟩
 refine br ?_
 refine ay hp (λhp=>?_) λhp=>?_
 ·refine aq w4 0 λH5 w5 s5=>?_
  refine aq w5 0 λH6 w6 s6=>?_
  refine lI w6 0 ?_
  refine lSl w6 0 ?_
  obtain ⟨w7,s7⟩:=w6.nilS eI.z (by decide)
  obtain ⟨w8,s8⟩:=w7.pp [0] 3
  exact az hp ⟨_,_,_,_,rfl,rfl,w8,(s0.trans (s1.trans (s2.trans (s4.trans (s5.trans (s6.trans (s7.trans s8))))))),((CR.empty:CR eI _ _ [] []).step s8)⟩
 ·refine lSl w4 1 ?_
  refine lI w4 1 ?_
  obtain ⟨r9,e9,hp⟩:=ag hp
  refine aE (bh.P rfl ⟨w4,(aO.step (s1.trans (s2.trans s4)))⟩ e9) ?_
  rintro _ H10 ⟨o1a_10,o1n_10,o1c_10,o1k_10,rfl,rfl,w10,s10,f10_0⟩
  refine br (br (br (br (br ?_))))
  refine aq w10 1 λH11 w11 s11=>?_
  refine aq w11 1 λH12 w12 s12=>?_
  refine lI w12 1 ?_
  refine lSl w12 1 ?_
  obtain ⟨w13,s13⟩:=w12.pp [0] 3
  exact az hp ⟨_,_,_,_,rfl,rfl,w13,(s0.trans (s1.trans (s2.trans (s4.trans (s10.trans (s11.trans (s12.trans s13))))))),(f10_0.step (s11.trans (s12.trans s13)))⟩
def bp.Q (H0:Hp) (Ri R0:atf)  (r:atK) (v:AV) (H':Hp):Prop:=v=(.tup [(.i r.1),(.bool r.2)])/\Out H0 Ri H' (R0) λR=>True
def bp.S61 (H0:Hp) (Ri R0:atf)  (C:auj) (pC:auw):Prop:=∀ {fc rR jE jF gM Hb Au dS Hc mv},∀ {H:Hp},Au=mv.length->(Out H0 Ri H (Rs.blk dS [.i rR,.sl ⟨Hb,Au,Hc⟩]::R0) λR=>ROs eI H R ⟨Hb,Au,Hc⟩ mv)->∀ {r:atK},pC fc rR mv jE jF gM=some r->Rt (C fc dS 0 jE ⟨Hb,Au,Hc⟩ jF gM H) (bp.Q H0 Ri R0  r)
def bp.pj3 (F:Nat) (ar:auw) (vI:Int) (Hd:Int) (Av:ati) (vJ:Int) (vK:Int) (vL:Int) (vM:Int):Option (Int×Bool):=ar vI Hd Av (wrap .i64 (vJ+vK)) vL (wrap .i64 (vM+1))
theorem bp.j3_P  {C61_:auj} {ar:auw} (hC61:bp.S61 H0 Ri R0  C61_ ar) {vI Hd vJ vK vL vM Ur He CZ Us Av} (arf:He=Av.length) (h0:Out H0 Ri H (Rs.blk CZ [.i Hd,.sl ⟨Ur,He,Us⟩]::R0) λR=>ROs eI H R ⟨Ur,He,Us⟩ Av) {r:atK} (hp:bp.pj3 F ar vI Hd Av vJ vK vL vM=some r):Rt (bp.j3 F (cP.tw F) C61_ vI CZ 0 vJ vK ⟨Ur,He,Us⟩ vL vM H) (bp.Q H0 Ri R0  r):=by
 obtain ⟨w0,s0,arh⟩:=h0
 subst arf
 unfold bp.pj3 at hp
 unfold bp.j3
 exact hC61 rfl ⟨w0,s0,arh⟩ hp
def bp.pl61 (F:Nat) :Nat->Int->Int->List Int->Int->Int->Int->Option (Int×Bool)
 | 0,_,_,_,_,_,_=>none
 | k+1,fc,rR,mv,jE,jF,gM=>(bif (decide (gM<jF)) then ((ix mv gM).bind λn1=>(bif ((Int.tmod (wrap .i64 (rR+gM)) 2) != 0) then (bp.pj3 F (bp.pl61 F k) fc rR mv jE (wrap .i64 ((gt mv n1) * fc)) jF gM) else (bp.pj3 F (bp.pl61 F k) fc rR mv jE (gt mv n1) jF gM))) else (some (jE,true)))
theorem bp.l61_P  :∀ k,bp.S61 H0 Ri R0  (bp.l61 F (cP.tw F)  k) (bp.pl61 F  k):=by
 intro k
 induction k with
 | zero=>unfold bp.S61;intros;rename_i hp;cases hp
 | succ k ih=>
  intro fc rR jE jF gM Hb Au dS Hc mv H ari h0 r hp
  obtain ⟨w0,s0,Ut⟩:=h0
  subst ari
  unfold bp.pl61 at hp
  unfold bp.l61
  refine ay hp (λhp=>?_) λhp=>?_
  ·obtain ⟨n1,g1,hp⟩:=ag hp
   obtain ⟨p1,q1,i1,h1,j1⟩:=ROs.ixr Ut rfl g1
   refine ai i1 ?_
   have h1:_=[_]:=h1
   subst h1
   refine ai (aG (j1 0 _ rfl)) ?_
   refine lI w0 0 ?_
   refine ay hp (λhp=>?_) λhp=>?_
   ·exact bp.j3_P (@ih) rfl ⟨w0,s0,Ut⟩ hp
   ·exact bp.j3_P (@ih) rfl ⟨w0,s0,Ut⟩ hp
  ·obtain ⟨w2,s2⟩:=w0.pp [] 1
   exact az hp ⟨rfl,w2,(s0.trans s2),trivial⟩
def bp.p (F:Nat) (aa:Int) (aF:ati) (au:Int):Option (Int×Bool):=(cP.p F aa aF).bind λr2=>(bif (!r2) then (some (0,false)) else ((bif (au != 1) then ((bif (au != (-1)) then (some (0,false)) else (bp.pl61 F F au aa aF 0 (aF.length:Int) 0))) else (bp.pl61 F F au aa aF 0 (aF.length:Int) 0))))
theorem bp.P {aa au ck bE cl aF} (dv:bE=aF.length) (h0:Inn H R0 λR=>ROs eI H R ⟨ck,bE,cl⟩ aF) {r:atK} (hp:bp.p F aa aF au=some r):Rt (bp.tw F aa ⟨ck,bE,cl⟩ au H) (bp.Q H R0 R0  r):=by
 obtain ⟨w0,ct⟩:=h0
 subst dv
 unfold bp.p at hp
 unfold bp.tw bp.twX
 have s0:=w0.rf
 refine aS w0 λH1 w1 s1=>?_
 refine lI w1 0 ?_
 refine lSl w1 0 ?_
 obtain ⟨r2,e2,hp⟩:=ag hp
 refine aE (cP.P rfl ⟨w1,(ct.step s1)⟩ e2) ?_
 rintro _ H3 ⟨rfl,w3,s3,_⟩
 refine br ?_
 refine ay hp (λhp=>?_) λhp=>?_
 ·obtain ⟨w4,s4⟩:=w3.pp [] 1
  exact az hp ⟨rfl,w4,(s0.trans (s1.trans (s3.trans s4))),trivial⟩
 ·refine ay hp (λhp=>?_) λhp=>?_
  ·refine ay hp (λhp=>?_) λhp=>?_
   ·obtain ⟨w5,s5⟩:=w3.pp [] 1
    exact az hp ⟨rfl,w5,(s0.trans (s1.trans (s3.trans s5))),trivial⟩
   ·refine lSl w3 0 ?_
    exact bp.l61_P F rfl ⟨w3,(s0.trans (s1.trans s3)),(ct.step (s1.trans s3))⟩ hp
  ·refine lSl w3 0 ?_
   exact bp.l61_P F rfl ⟨w3,(s0.trans (s1.trans s3)),(ct.step (s1.trans s3))⟩ hp
def eJ.Q (H0:Hp) (Ri R0:atf)  (r:atD) (v:AV) (H':Hp):Prop:=v=(.tup [(.i r.1),(.i r.2)])/\Out H0 Ri H' (R0) λR=>True
def eJ.p (F:Nat) (ah:ato) (af:Int):Option (Int×Int):=(eH.p F ah af).bind λr2=>(bif (r2.2.2 != 0) then (some (0,r2.2.2)) else ((bp.p F r2.1 r2.2.1 (-1)).bind λr10=>(dg.p F r10.1).bind λr13=>some (r13,0)))
theorem eJ.P {aB ak aC ah af} (ba:ak=ah.length) (h0:Inn H R0 λR=>ROs (ac eI (ac eI (ac eI (ac eI eI)))) H R ⟨aB,ak,aC⟩ ah) {r:atD} (hp:eJ.p F ah af=some r):Rt (eJ.tw F ⟨aB,ak,aC⟩ af H) (eJ.Q H R0 R0  r):=by
 obtain ⟨w0,aO⟩:=h0
 subst ba
 unfold eJ.p at hp
 unfold eJ.tw eJ.twX
 have s0:=w0.rf
 refine aS w0 λH1 w1 s1=>?_
 refine lSl w1 0 ?_
 refine lI w1 0 ?_
 obtain ⟨r2,e2,hp⟩:=ag hp
 refine aE (eH.P rfl ⟨w1,(aO.step s1)⟩ e2) ?_
 rintro _ H3 ⟨o1a_3,o1n_3,o1c_3,o1k_3,rfl,rfl,w3,s3,f3_0⟩
 refine br (br (br (br (br (br (br (br (br ?_))))))))
 refine aS w3 λH4 w4 s4=>?_
 refine aq w4 0 λH5 w5 s5=>?_
 refine aq w5 0 λH6 w6 s6=>?_
 refine ay hp (λhp=>?_) λhp=>?_
 ·obtain ⟨w7,s7⟩:=w6.pp [] 3
  exact az hp ⟨rfl,w7,(s0.trans (s1.trans (s3.trans (s4.trans (s5.trans (s6.trans s7)))))),trivial⟩
 ·refine lI w6 0 ?_
  refine lSl w6 0 ?_
  obtain ⟨w8,s8⟩:=w6.pp [1,0,2] 3
  have f9:=W.borrow1 eI w8 (f3_0.step (s4.trans (s5.trans (s6.trans s8))))
  obtain ⟨w9,s9⟩:=w8.right1
  obtain ⟨r10,e10,hp⟩:=ag hp
  refine aE (bp.P rfl ⟨w9,f9⟩ e10) ?_
  rintro _ H11 ⟨rfl,w11,s11,_⟩
  obtain ⟨w12,s12⟩:=W.frame1 w8 w11 s11
  refine br (br (br (br (br ?_))))
  obtain ⟨r13,e13,hp⟩:=ag hp
  refine aE (dg.P ⟨w12,trivial⟩ e13) ?_
  rintro _ H14 ⟨rfl,w14,s14,_⟩
  refine br ?_
  obtain ⟨w15,s15⟩:=w14.pp [] 3
  exact az hp ⟨rfl,w15,(s0.trans (s1.trans (s3.trans (s4.trans (s5.trans (s6.trans (s8.trans (s12.trans (s14.trans s15))))))))),trivial⟩
def fo.Q (H0:Hp) (Ri R0:atf)  (r:Bool) (v:AV) (H':Hp):Prop:=v=(.bool r)/\Out H0 Ri H' (R0) λR=>True
def fo.p (F:Nat) (aa:Int) (af:Int) (bW:Int) (bX:Int) (bR:Int) (cE:Int) (lj:Int) (ll:Int) (lm:Int) (lq:Int):Option (Bool):=(bif (aa != cE) then (some false) else ((bif (af != lj) then (some false) else ((bif (bW != ll) then (some false) else ((bif (bX != lm) then (some false) else ((bif (bR != lq) then (some false) else (some true))))))))))
theorem fo.P {aa af bW bX bR cE lj ll lm lq}  (h0:Inn H R0 λR=>True) {r:Bool} (hp:fo.p F aa af bW bX bR cE lj ll lm lq=some r):Rt (fo.tw F aa af bW bX bR cE lj ll lm lq H) (fo.Q H R0 R0  r):=by
 obtain ⟨w0,_⟩:=h0
 unfold fo.p at hp
 unfold fo.tw fo.twX
 have s0:=w0.rf
 refine aS w0 λH1 w1 s1=>?_
 refine aS w1 λH2 w2 s2=>?_
 refine lI w2 1 ?_
 refine lI w2 0 ?_
 refine ay hp (λhp=>?_) λhp=>?_
 ·obtain ⟨w3,s3⟩:=w2.pp [] 2
  exact az hp ⟨rfl,w3,(s0.trans (s1.trans (s2.trans s3))),trivial⟩
 ·refine lI w2 1 ?_
  refine lI w2 0 ?_
  refine ay hp (λhp=>?_) λhp=>?_
  ·obtain ⟨w4,s4⟩:=w2.pp [] 2
   exact az hp ⟨rfl,w4,(s0.trans (s1.trans (s2.trans s4))),trivial⟩
  ·refine lI w2 1 ?_
   refine lI w2 0 ?_
   refine ay hp (λhp=>?_) λhp=>?_
   ·obtain ⟨w5,s5⟩:=w2.pp [] 2
    exact az hp ⟨rfl,w5,(s0.trans (s1.trans (s2.trans s5))),trivial⟩
   ·refine lI w2 1 ?_
    refine lI w2 0 ?_
    refine ay hp (λhp=>?_) λhp=>?_
    ·obtain ⟨w6,s6⟩:=w2.pp [] 2
     exact az hp ⟨rfl,w6,(s0.trans (s1.trans (s2.trans s6))),trivial⟩
    ·refine lI w2 1 ?_
     refine lI w2 0 ?_
     refine ay hp (λhp=>?_) λhp=>?_
     ·obtain ⟨w7,s7⟩:=w2.pp [] 2
      exact az hp ⟨rfl,w7,(s0.trans (s1.trans (s2.trans s7))),trivial⟩
     ·obtain ⟨w8,s8⟩:=w2.pp [] 2
      exact az hp ⟨rfl,w8,(s0.trans (s1.trans (s2.trans s8))),trivial⟩
def bV.Q (H0:Hp) (Ri R0:atf)  (r:Bool) (v:AV) (H':Hp):Prop:=v=(.bool r)/\Out H0 Ri H' (R0) λR=>True
def bV.S29 (H0:Hp) (Ri R0:atf)  (C:Sl->Sl->Int->Hp->OA) (pC:List (Int×Int×Int×Int×Int)->List (Int×Int×Int×Int×Int)->Int->Option (Bool)):Prop:=∀ {pV Uu mZ Hf pW Uv es ka iA},∀ {H:Hp},mZ=es.length->Hf=ka.length->(Out H0 Ri H R0 λR=>ROs (ac eI (ac eI (ac eI (ac eI eI)))) H R ⟨pV,mZ,pW⟩ es/\ROs (ac eI (ac eI (ac eI (ac eI eI)))) H R ⟨Uu,Hf,Uv⟩ ka)->∀ {r:Bool},pC es ka iA=some r->Rt (C ⟨pV,mZ,pW⟩ ⟨Uu,Hf,Uv⟩ iA H) (bV.Q H0 Ri R0  r)
def bV.pl29 (F:Nat) :Nat->List (Int×Int×Int×Int×Int)->List (Int×Int×Int×Int×Int)->Int->Option (Bool)
 | 0,_,_,_=>none
 | k+1,es,ka,iA=>(bif (decide (iA<(es.length:Int))) then ((ix es iA).bind λn1=>(ix ka iA).bind λn2=>(fo.p F ((gt es n1).1) ((gt es n1).2.1) ((gt es n1).2.2.1) ((gt es n1).2.2.2.1) ((gt es n1).2.2.2.2) ((gt ka n2).1) ((gt ka n2).2.1) ((gt ka n2).2.2.1) ((gt ka n2).2.2.2.1) ((gt ka n2).2.2.2.2)).bind λr3=>(bif (!r3) then (some false) else (bV.pl29 F k es ka (wrap .i64 (iA+1))))) else (some true))
theorem bV.l29_P  :∀ k,bV.S29 H0 Ri R0  (bV.l29 F (fo.tw F)  k) (bV.pl29 F  k):=by
 intro k
 induction k with
 | zero=>unfold bV.S29;intros;rename_i hp;cases hp
 | succ k ih=>
  intro pV Uu mZ Hf pW Uv es ka iA H HT arj h0 r hp
  obtain ⟨w0,s0,xD,afR⟩:=h0
  subst HT
  subst arj
  unfold bV.pl29 at hp
  unfold bV.l29
  refine ay hp (λhp=>?_) λhp=>?_
  ·obtain ⟨n1,g1,hp⟩:=ag hp
   obtain ⟨p1,q1,i1,h1,j1⟩:=ROs.ixr xD rfl g1
   refine ai i1 ?_
   obtain ⟨_,_,rfl,rfl,_,_,rfl,rfl,_,_,rfl,rfl,_,_,rfl,rfl,rfl⟩:=h1
   refine ai (aG (j1 0 _ rfl)) ?_
   refine ai (aG (j1 1 _ rfl)) ?_
   refine ai (aG (j1 2 _ rfl)) ?_
   refine ai (aG (j1 3 _ rfl)) ?_
   refine ai (aG (j1 4 _ rfl)) ?_
   obtain ⟨n2,g2,hp⟩:=ag hp
   obtain ⟨p2,q2,i2,h2,j2⟩:=ROs.ixr afR rfl g2
   refine ai i2 ?_
   obtain ⟨_,_,rfl,rfl,_,_,rfl,rfl,_,_,rfl,rfl,_,_,rfl,rfl,rfl⟩:=h2
   refine ai (aG (j2 0 _ rfl)) ?_
   refine ai (aG (j2 1 _ rfl)) ?_
   refine ai (aG (j2 2 _ rfl)) ?_
   refine ai (aG (j2 3 _ rfl)) ?_
   refine ai (aG (j2 4 _ rfl)) ?_
   obtain ⟨r3,e3,hp⟩:=ag hp
   refine aE (fo.P ⟨w0,trivial⟩ e3) ?_
   rintro _ H4 ⟨rfl,w4,s4,_⟩
   refine br ?_
   refine ay hp (λhp=>?_) λhp=>?_
   ·exact az hp ⟨rfl,w4,(s0.trans s4),trivial⟩
   ·exact ih rfl rfl ⟨w4,(s0.trans s4),(xD.step s4),(afR.step s4)⟩ hp
  ·exact az hp ⟨rfl,w0,s0,trivial⟩
def bV.p (F:Nat) (ah:ato) (jH:ato):Option (Bool):=(bif ((ah.length:Int) != (jH.length:Int)) then (some false) else (bV.pl29 F F ah jH 0))
theorem bV.P {aB yz ak qD aC yA ah jH} (ba:ak=ah.length) (KL:qD=jH.length) (h0:Inn H R0 λR=>ROs (ac eI (ac eI (ac eI (ac eI eI)))) H R ⟨aB,ak,aC⟩ ah/\ROs (ac eI (ac eI (ac eI (ac eI eI)))) H R ⟨yz,qD,yA⟩ jH) {r:Bool} (hp:bV.p F ah jH=some r):Rt (bV.tw F ⟨aB,ak,aC⟩ ⟨yz,qD,yA⟩ H) (bV.Q H R0 R0  r):=by
 obtain ⟨w0,aO,KM⟩:=h0
 subst ba
 subst KL
 unfold bV.p at hp
 unfold bV.tw bV.twX
 have s0:=w0.rf
 refine ay hp (λhp=>?_) λhp=>?_
 ·exact az hp ⟨rfl,w0,s0,trivial⟩
 ·exact bV.l29_P F rfl rfl ⟨w0,s0,aO,KM⟩ hp
def eK.Q (H0:Hp) (Ri R0:atf)  (r:Bool) (v:AV) (H':Hp):Prop:=v=(.bool r)/\Out H0 Ri H' (R0) λR=>True
def eK.p (F:Nat) (ah:ato) (af:Int) (ez:ato) (bv:Int):Option (Bool):=(bV.p F ah ez).bind λr3=>(bif (!r3) then (some false) else ((bif (af != bv) then (some false) else (some true))))
theorem eK.P {aB lH ak iD aC lJ ah ez af bv} (ba:ak=ah.length) (ri:iD=ez.length) (h0:Inn H R0 λR=>ROs (ac eI (ac eI (ac eI (ac eI eI)))) H R ⟨aB,ak,aC⟩ ah/\ROs (ac eI (ac eI (ac eI (ac eI eI)))) H R ⟨lH,iD,lJ⟩ ez) {r:Bool} (hp:eK.p F ah af ez bv=some r):Rt (eK.tw F ⟨aB,ak,aC⟩ af ⟨lH,iD,lJ⟩ bv H) (eK.Q H R0 R0  r):=by
 obtain ⟨w0,aO,rj⟩:=h0
 subst ba
 subst ri
 unfold eK.p at hp
 unfold eK.tw eK.twX
 have s0:=w0.rf
 refine aS w0 λH1 w1 s1=>?_
 refine aS w1 λH2 w2 s2=>?_
 refine lSl w2 1 ?_
 refine lSl w2 0 ?_
 obtain ⟨r3,e3,hp⟩:=ag hp
 refine aE (bV.P rfl rfl ⟨w2,(aO.step (s1.trans s2)),(rj.step (s1.trans s2))⟩ e3) ?_
 rintro _ H4 ⟨rfl,w4,s4,_⟩
 refine br ?_
 refine ay hp (λhp=>?_) λhp=>?_
 ·obtain ⟨w5,s5⟩:=w4.pp [] 2
  exact az hp ⟨rfl,w5,(s0.trans (s1.trans (s2.trans (s4.trans s5)))),trivial⟩
 ·refine lI w4 1 ?_
  refine lI w4 0 ?_
  refine ay hp (λhp=>?_) λhp=>?_
  ·obtain ⟨w6,s6⟩:=w4.pp [] 2
   exact az hp ⟨rfl,w6,(s0.trans (s1.trans (s2.trans (s4.trans s6)))),trivial⟩
  ·obtain ⟨w7,s7⟩:=w4.pp [] 2
   exact az hp ⟨rfl,w7,(s0.trans (s1.trans (s2.trans (s4.trans s7)))),trivial⟩
def dM.Q (H0:Hp) (Ri R0:atf)  (r:Bool) (v:AV) (H':Hp):Prop:=v=(.bool r)/\Out H0 Ri H' (R0) λR=>True
def dM.p (F:Nat) (ah:ato) (af:Int):Option (Bool):=(d_.p F ah 1048576).bind λr2=>(bif (decide (r2<0)) then (some true) else ((dN.p F ah af).bind λr5=>(eD.p F r5.1 r5.2).bind λr8=>(dN.p F ah af).bind λr11=>(eJ.p F r11.1 r11.2).bind λr18=>(bif (r18.1 != r8.1) then (some false) else ((bif (r18.2 != r8.2) then (some false) else ((dN.p F ah af).bind λr23=>(eK.p F r11.1 r11.2 r23.1 r23.2).bind λr29=>(bif (!r29) then (some false) else (some true))))))))
theorem dM.P {aB ak aC ah af} (ba:ak=ah.length) (h0:Inn H R0 λR=>ROs (ac eI (ac eI (ac eI (ac eI eI)))) H R ⟨aB,ak,aC⟩ ah) {r:Bool} (hp:dM.p F ah af=some r):Rt (dM.tw F ⟨aB,ak,aC⟩ af H) (dM.Q H R0 R0  r):=by
 obtain ⟨w0,aO⟩:=h0
 subst ba
 unfold dM.p at hp
 unfold dM.tw dM.twX
 have s0:=w0.rf
 refine aS w0 λH1 w1 s1=>?_
 refine lSl w1 0 ?_
 refine lI w1 0 ?_
 obtain ⟨r2,e2,hp⟩:=ag hp
 refine aE (d_.P rfl ⟨w1,(aO.step s1)⟩ e2) ?_
 rintro _ H3 ⟨rfl,w3,s3,_⟩
 refine br ?_
 refine ay hp (λhp=>?_) λhp=>?_
 ·obtain ⟨w4,s4⟩:=w3.pp [] 1
  exact az hp ⟨rfl,w4,(s0.trans (s1.trans (s3.trans s4))),trivial⟩
 ·refine lSl w3 0 ?_
  refine lI w3 0 ?_
  obtain ⟨r5,e5,hp⟩:=ag hp
  refine aE (dN.P rfl ⟨w3,(aO.step (s1.trans s3))⟩ e5) ?_
  rintro _ H6 ⟨o0a_6,o0n_6,o0c_6,o0k_6,rfl,rfl,w6,s6,f6_0⟩
  refine br (br (br (br (br ?_))))
  have f7:=W.borrow1 (ac eI (ac eI (ac eI (ac eI eI)))) w6 f6_0
  obtain ⟨w7,s7⟩:=w6.right1
  obtain ⟨r8,e8,hp⟩:=ag hp
  refine aE (eD.P rfl ⟨w7,f7⟩ e8) ?_
  rintro _ H9 ⟨rfl,w9,s9,_⟩
  obtain ⟨w10,s10⟩:=W.frame1 w6 w9 s9
  refine br (br (br (br (br ?_))))
  refine lSl w10 1 ?_
  refine lI w10 1 ?_
  obtain ⟨r11,e11,hp⟩:=ag hp
  refine aE (dN.P rfl ⟨w10,(aO.step (s1.trans (s3.trans (s6.trans s10))))⟩ e11) ?_
  rintro _ H12 ⟨o0a_12,o0n_12,o0c_12,o0k_12,rfl,rfl,w12,s12,f12_0⟩
  refine br (br (br (br (br ?_))))
  refine aS w12 λH13 w13 s13=>?_
  refine aq w13 0 λH14 w14 s14=>?_
  refine aq w14 0 λH15 w15 s15=>?_
  refine lSl w15 0 ?_
  refine lI w15 0 ?_
  obtain ⟨w16,s16⟩:=w15.pp [1,0,2,3] 4
  have f17:=W.borrow1 (ac eI (ac eI (ac eI (ac eI eI)))) w16 (f12_0.step (s13.trans (s14.trans (s15.trans s16))))
  obtain ⟨w17,s17⟩:=w16.right1
  obtain ⟨r18,e18,hp⟩:=ag hp
  refine aE (eJ.P rfl ⟨w17,f17⟩ e18) ?_
  rintro _ H19 ⟨rfl,w19,s19,_⟩
  obtain ⟨w20,s20⟩:=W.frame1 w16 w19 s19
  refine br (br (br (br (br ?_))))
  refine ay hp (λhp=>?_) λhp=>?_
  ·obtain ⟨w21,s21⟩:=w20.pp [] 4
   exact az hp ⟨rfl,w21,(s0.trans (s1.trans (s3.trans (s6.trans (s10.trans (s12.trans (s13.trans (s14.trans (s15.trans (s16.trans (s20.trans s21))))))))))),trivial⟩
  ·refine ay hp (λhp=>?_) λhp=>?_
   ·obtain ⟨w22,s22⟩:=w20.pp [] 4
    exact az hp ⟨rfl,w22,(s0.trans (s1.trans (s3.trans (s6.trans (s10.trans (s12.trans (s13.trans (s14.trans (s15.trans (s16.trans (s20.trans s22))))))))))),trivial⟩
   ·refine lSl w20 1 ?_
    refine lI w20 1 ?_
    refine lSl w20 3 ?_
    refine lI w20 3 ?_
    obtain ⟨r23,e23,hp⟩:=ag hp
    refine aE (dN.P rfl ⟨w20,(aO.step (s1.trans (s3.trans (s6.trans (s10.trans (s12.trans (s13.trans (s14.trans (s15.trans (s16.trans s20))))))))))⟩ e23) ?_
    rintro _ H24 ⟨o0a_24,o0n_24,o0c_24,o0k_24,rfl,rfl,w24,s24,f24_0⟩
    refine br (br (br (br (br ?_))))
    refine eL (W.cons_of (Rn:=[_]) w20 w24 s24) ?_
    obtain ⟨w26,s26⟩:=w24.pp [1,0,2,3,4] 5
    have f27:=W.borrow1 (ac eI (ac eI (ac eI (ac eI eI)))) w26 (f12_0.step (s13.trans (s14.trans (s15.trans (s16.trans (s20.trans (s24.trans s26)))))))
    obtain ⟨w27,s27⟩:=w26.right1
    have f28:=W.borrow1 (ac eI (ac eI (ac eI (ac eI eI)))) w27 ((f24_0.step s26).step s27)
    obtain ⟨w28,s28⟩:=w27.right1
    obtain ⟨r29,e29,hp⟩:=ag hp
    refine aE (eK.P rfl rfl ⟨w28,(f27.step s28),f28⟩ e29) ?_
    rintro _ H30 ⟨rfl,w30,s30,_⟩
    obtain ⟨w31,s31⟩:=W.frame1 w27 w30 s30
    obtain ⟨w32,s32⟩:=W.frame1 w26 w31 s31
    refine br ?_
    refine ay hp (λhp=>?_) λhp=>?_
    ·obtain ⟨w33,s33⟩:=w32.pp [] 5
     exact az hp ⟨rfl,w33,(s0.trans (s1.trans (s3.trans (s6.trans (s10.trans (s12.trans (s13.trans (s14.trans (s15.trans (s16.trans (s20.trans (s24.trans (s26.trans (s32.trans s33)))))))))))))),trivial⟩
    ·obtain ⟨w34,s34⟩:=w32.pp [] 5
     exact az hp ⟨rfl,w34,(s0.trans (s1.trans (s3.trans (s6.trans (s10.trans (s12.trans (s13.trans (s14.trans (s15.trans (s16.trans (s20.trans (s24.trans (s26.trans (s32.trans s34)))))))))))))),trivial⟩
end
end Go.Proofs.Ytppbogklbhfboaa.AE
