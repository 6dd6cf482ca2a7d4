import Derived.Test.YtppbogklbhfboaaT1
import Derived.Test.YtppbogklbhfboaaE2
set_option linter.unusedVariables false
set_option linter.unusedSimpArgs false
namespace Go.Proofs.Ytppbogklbhfboaa.AE
open Go Go.AE Go.Proofs IntKind
set_option linter.unusedVariables false
variable {F:Nat} {H H0:Hp} {Ri R0:atf}
set_option maxHeartbeats 4000000
set_option maxRecDepth 100000
noncomputable section
def fp.Q (H0:Hp) (Ri R0:atf)  (r:Int) (v:AV) (H':Hp):Prop:=v=(.i r)/\Out H0 Ri H' (R0) λR=>True
def fp.p (F:Nat) (ah:ato) (aA:Int):Option (Int):=(bif (decide ((wrap .i64 (aA - (ah.length:Int)))<0)) then (some (-1)) else (some (wrap .i64 (aA - (ah.length:Int)))))
theorem fp.P {aB ak aC ah aA} (ba:ak=ah.length) (h0:Inn H R0 λR=>ROs (ac eI (ac eI (ac eI (ac eI eI)))) H R ⟨aB,ak,aC⟩ ah) {r:Int} (hp:fp.p F ah aA=some r):Rt (fp.tw F ⟨aB,ak,aC⟩ aA H) (fp.Q H R0 R0  r):=by
 obtain ⟨w0,aO⟩:=h0
 subst ba
 unfold fp.p at hp
 unfold fp.tw fp.twX
 have s0:=w0.rf
 refine ay hp (λhp=>?_) λhp=>?_
 ·exact az hp ⟨rfl,w0,s0,trivial⟩
 ·exact az hp ⟨rfl,w0,s0,trivial⟩
def d_.Q (H0:Hp) (Ri R0:atf)  (r:Int) (v:AV) (H':Hp):Prop:=v=(.i r)/\Out H0 Ri H' (R0) λR=>True
def d_.p (F:Nat) (ah:ato) (au:Int):Option (Int):=(fp.p F ah au).bind λr2=>(bif (decide (r2<0)) then (some (-1)) else (some r2))
theorem d_.P {aB ak aC ah af au} (ba:ak=ah.length) (h0:Inn H R0 λR=>ROs (ac eI (ac eI (ac eI (ac eI eI)))) H R ⟨aB,ak,aC⟩ ah) {r:Int} (hp:d_.p F ah au=some r):Rt (d_.tw F ⟨aB,ak,aC⟩ af au H) (d_.Q H R0 R0  r):=by
 obtain ⟨w0,aO⟩:=h0
 subst ba
 unfold d_.p at hp
 unfold d_.tw d_.twX
 have s0:=w0.rf
 refine aS w0 λH1 w1 s1=>?_
 refine lSl w1 0 ?_
 obtain ⟨r2,e2,hp⟩:=ag hp
 refine aE (fp.P rfl ⟨w1,(aO.step s1)⟩ e2) ?_
 rintro _ H3 ⟨rfl,w3,s3,_⟩
 refine br ?_
 refine ay hp (λhp=>?_) λhp=>?_
 ·obtain ⟨w4,s4⟩:=w3.pp [] 1
  exact az hp ⟨rfl,w4,(s0.trans (s1.trans (s3.trans s4))),trivial⟩
 ·obtain ⟨w5,s5⟩:=w3.pp [] 1
  exact az hp ⟨rfl,w5,(s0.trans (s1.trans (s3.trans s5))),trivial⟩
def fh.Q (H0:Hp) (Ri R0:atf)  (r:aux) (v:AV) (H':Hp):Prop:=v=(.agg [(.i r.1),(.i r.2.1),(.i r.2.2.1),(.i r.2.2.2.1),(.i r.2.2.2.2)])/\Out H0 Ri H' (R0) λR=>True
def fh.p (F:Nat) (aa:Int) (af:Int) (bW:Int) (bX:Int) (bR:Int):Option (Int×Int×Int×Int×Int):=some (aa,af,bW,bX,bR)
theorem fh.P {aa af bW bX bR}  (h0:Inn H R0 λR=>True) {r:aux} (hp:fh.p F aa af bW bX bR=some r):Rt (fh.tw F aa af bW bX bR H) (fh.Q H R0 R0  r):=by
 obtain ⟨w0,_⟩:=h0
 unfold fh.p at hp
 unfold fh.tw fh.twX
 have s0:=w0.rf
 refine aS w0 λH1 w1 s1=>?_
 refine aS w1 λH2 w2 s2=>?_
 refine aS w2 λH3 w3 s3=>?_
 refine lI w3 2 ?_
 refine aq w3 0 λH4 w4 s4=>?_
 refine lI w4 2 ?_
 refine aq w4 0 λH5 w5 s5=>?_
 refine lI w5 2 ?_
 refine aq w5 0 λH6 w6 s6=>?_
 refine lI w6 2 ?_
 refine aq w6 0 λH7 w7 s7=>?_
 refine lI w7 2 ?_
 refine aq w7 0 λH8 w8 s8=>?_
 refine lI w8 0 ?_
 refine lI w8 0 ?_
 refine lI w8 0 ?_
 refine lI w8 0 ?_
 refine lI w8 0 ?_
 refine aq w8 1 λH9 w9 s9=>?_
 refine aq w9 1 λH10 w10 s10=>?_
 refine aq w10 1 λH11 w11 s11=>?_
 refine aq w11 1 λH12 w12 s12=>?_
 dsimp only [pk,pks,nth,List.drop,List.set,List.eraseIdx] at w12 s4 s5 s6 s7 s8 s9 s10 s11 s12
 refine aq w12 1 λH13 w13 s13=>?_
 refine lI w13 1 ?_
 refine lI w13 1 ?_
 refine lI w13 1 ?_
 refine lI w13 1 ?_
 refine lI w13 1 ?_
 obtain ⟨w14,s14⟩:=w13.pp [] 3
 exact az hp ⟨rfl,w14,(s0.trans (s1.trans (s2.trans (s3.trans (s4.trans (s5.trans (s6.trans (s7.trans (s8.trans (s9.trans (s10.trans (s11.trans (s12.trans (s13.trans s14)))))))))))))),trivial⟩
def cg.Q (H0:Hp) (Ri R0:atf)  (r:(List (Int×Int×Int×Int×Int))) (v:AV) (H':Hp):Prop:=∃ o0a:ON,∃ o0n:Nat,∃ o0c:Cap,∃ o0k:List AV,v=(.sl ⟨o0a,o0n,o0c⟩)/\o0n=(r).length/\Out H0 Ri H' (Rs.own ⟨o0a,o0n,o0c⟩ (ac eI (ac eI (ac eI (ac eI eI)))).z o0k::R0) λR=>CR (ac eI (ac eI (ac eI (ac eI eI)))) H' R o0k (r)
def cg.S29 (H0:Hp) (Ri R0:atf)  (C:Sl->Sl->Int->Hp->OA) (pC:List (Int×Int×Int×Int×Int)->List (Int×Int×Int×Int×Int)->Int->Option ((List (Int×Int×Int×Int×Int)))):Prop:=∀ {pV HQ mZ Da pW HR es jR HS eA},∀ {H:Hp},mZ=es.length->Da=jR.length->(Out H0 Ri H (Rs.own ⟨HQ,Da,HR⟩ (ac eI (ac eI (ac eI (ac eI eI)))).z HS::R0) λR=>ROs (ac eI (ac eI (ac eI (ac eI eI)))) H R ⟨pV,mZ,pW⟩ es/\CR (ac eI (ac eI (ac eI (ac eI eI)))) H R HS jR)->∀ {r:(List (Int×Int×Int×Int×Int))},pC es jR eA=some r->Rt (C ⟨pV,mZ,pW⟩ ⟨HQ,Da,HR⟩ eA H) (cg.Q H0 Ri R0  r)
def cg.pl29 (F:Nat) :Nat->List (Int×Int×Int×Int×Int)->List (Int×Int×Int×Int×Int)->Int->Option ((List (Int×Int×Int×Int×Int)))
 | 0,_,_,_=>none
 | k+1,es,jR,eA=>(bif (decide (eA<(es.length:Int))) then ((ix es eA).bind λn1=>(fh.p F ((gt es n1).1) ((gt es n1).2.1) ((gt es n1).2.2.1) ((gt es n1).2.2.2.1) ((gt es n1).2.2.2.2)).bind λr2=>(ix jR eA).bind λn4=>(some (jR.set n4 (r2.1,(gt jR n4).2.1,(gt jR n4).2.2.1,(gt jR n4).2.2.2.1,(gt jR n4).2.2.2.2))).bind λl5=>(some (l5.set n4 ((gt l5 n4).1,r2.2.1,(gt l5 n4).2.2.1,(gt l5 n4).2.2.2.1,(gt l5 n4).2.2.2.2))).bind λl7=>(some (l7.set n4 ((gt l7 n4).1,(gt l7 n4).2.1,r2.2.2.1,(gt l7 n4).2.2.2.1,(gt l7 n4).2.2.2.2))).bind λl9=>(some (l9.set n4 ((gt l9 n4).1,(gt l9 n4).2.1,(gt l9 n4).2.2.1,r2.2.2.2.1,(gt l9 n4).2.2.2.2))).bind λl11=>(some (l11.set n4 ((gt l11 n4).1,(gt l11 n4).2.1,(gt l11 n4).2.2.1,(gt l11 n4).2.2.2.1,r2.2.2.2.2))).bind λl13=>cg.pl29 F k es l13 (wrap .i64 (eA+1))) else (some jR))
theorem cg.l29_P  :∀ k,cg.S29 H0 Ri R0  (cg.l29 F (fh.tw F)  k) (cg.pl29 F  k):=by
 intro k
 induction k with
 | zero=>unfold cg.S29;intros;rename_i hp;cases hp
 | succ k ih=>
  intro pV HQ mZ Da pW HR es jR HS eA H HT aiY h0 r hp
  obtain ⟨w0,s0,xD,HU⟩:=h0
  subst HT
  subst aiY
  unfold cg.pl29 at hp
  unfold cg.l29
  refine ay hp (λhp=>?_) λhp=>?_
  ·obtain ⟨n1,g1,hp⟩:=ag hp
   obtain ⟨p1,q1,i1,h1,j1⟩:=ROs.ixr xD rfl g1
   refine ai i1 ?_
   obtain ⟨_,_,rfl,rfl,_,_,rfl,rfl,_,_,rfl,rfl,_,_,rfl,rfl,rfl⟩:=h1
   refine ai (aG (j1 0 _ rfl)) ?_
   refine ai (aG (j1 1 _ rfl)) ?_
   refine ai (aG (j1 2 _ rfl)) ?_
   refine ai (aG (j1 3 _ rfl)) ?_
   refine ai (aG (j1 4 _ rfl)) ?_
   obtain ⟨r2,e2,hp⟩:=ag hp
   refine aE (fh.P ⟨w0,trivial⟩ e2) ?_
   rintro _ H3 ⟨rfl,w3,s3,_⟩
   refine br (br (br (br (br (br (br (br (br (br (br ?_))))))))))
   obtain ⟨n4,g4,hp⟩:=ag hp
   obtain ⟨p4,q4,i4,h4,j4⟩:=W.ixo (E:=(ac eI (ac eI (ac eI (ac eI eI))))) w3 (i:=0) rfl rfl (HU.step s3) g4
   refine ai i4 ?_
   obtain ⟨l5,e5,hp⟩:=ag hp
   refine dD (ac eI (ac eI (ac eI (ac eI eI)))) w3 (i:=0) (j:=0) (p:=p4) rfl rfl (HU.step s3) g4 i4 e5 rfl rfl (λ_ h=>by obtain ⟨_,_,rfl,rfl,_,_,rfl,rfl,_,_,rfl,rfl,_,_,rfl,rfl,rfl⟩:=h;exact ⟨[_],_,rfl,rfl,[_],_,rfl,rfl,[_],_,rfl,rfl,[_],_,rfl,rfl,rfl⟩) λH6 k6 w6 s6 c6=>?_
   obtain ⟨l7,e7,hp⟩:=ag hp
   refine dD (ac eI (ac eI (ac eI (ac eI eI)))) w6 (i:=0) (j:=1) (p:=p4) rfl rfl c6 (mw g4 (cA e5)) i4 e7 rfl rfl (λ_ h=>by obtain ⟨_,_,rfl,rfl,_,_,rfl,rfl,_,_,rfl,rfl,_,_,rfl,rfl,rfl⟩:=h;exact ⟨[_],_,rfl,rfl,[_],_,rfl,rfl,[_],_,rfl,rfl,[_],_,rfl,rfl,rfl⟩) λH8 k8 w8 s8 c8=>?_
   obtain ⟨l9,e9,hp⟩:=ag hp
   refine dD (ac eI (ac eI (ac eI (ac eI eI)))) w8 (i:=0) (j:=2) (p:=p4) rfl rfl c8 (mw g4 ((cA e7).trans (cA e5))) i4 e9 rfl rfl (λ_ h=>by obtain ⟨_,_,rfl,rfl,_,_,rfl,rfl,_,_,rfl,rfl,_,_,rfl,rfl,rfl⟩:=h;exact ⟨[_],_,rfl,rfl,[_],_,rfl,rfl,[_],_,rfl,rfl,[_],_,rfl,rfl,rfl⟩) λH10 k10 w10 s10 c10=>?_
   obtain ⟨l11,e11,hp⟩:=ag hp
   refine dD (ac eI (ac eI (ac eI (ac eI eI)))) w10 (i:=0) (j:=3) (p:=p4) rfl rfl c10 (mw g4 (((cA e9).trans (cA e7)).trans (cA e5))) i4 e11 rfl rfl (λ_ h=>by obtain ⟨_,_,rfl,rfl,_,_,rfl,rfl,_,_,rfl,rfl,_,_,rfl,rfl,rfl⟩:=h;exact ⟨[_],_,rfl,rfl,[_],_,rfl,rfl,[_],_,rfl,rfl,[_],_,rfl,rfl,rfl⟩) λH12 k12 w12 s12 c12=>?_
   obtain ⟨l13,e13,hp⟩:=ag hp
   refine dD (ac eI (ac eI (ac eI (ac eI eI)))) w12 (i:=0) (j:=4) (p:=p4) rfl rfl c12 (mw g4 ((((cA e11).trans (cA e9)).trans (cA e7)).trans (cA e5))) i4 e13 rfl rfl (λ_ h=>by obtain ⟨_,_,rfl,rfl,_,_,rfl,rfl,_,_,rfl,rfl,_,_,rfl,rfl,rfl⟩:=h;exact ⟨[_],_,rfl,rfl,[_],_,rfl,rfl,[_],_,rfl,rfl,[_],_,rfl,rfl,rfl⟩) λH14 k14 w14 s14 c14=>?_
   exact ih rfl (((((cA e5).symm.trans (cA e7).symm).trans (cA e9).symm).trans (cA e11).symm).trans (cA e13).symm) ⟨w14,(s0.trans (s3.trans (s6.trans (s8.trans (s10.trans (s12.trans s14)))))),(xD.step (s3.trans (s6.trans (s8.trans (s10.trans (s12.trans s14)))))),c14⟩ hp
  ·exact az hp ⟨_,_,_,_,rfl,rfl,w0,s0,HU⟩
def cg.p (F:Nat) (ah:ato):Option ((List (Int×Int×Int×Int×Int))):=(mkn (ah.length:Int) ((0:Int),(0:Int),(0:Int),(0:Int),(0:Int))).bind λl1=>cg.pl29 F F ah l1 0
theorem cg.P {aB ak aC ah} (ba:ak=ah.length) (h0:Inn H R0 λR=>ROs (ac eI (ac eI (ac eI (ac eI eI)))) H R ⟨aB,ak,aC⟩ ah) {r:(List (Int×Int×Int×Int×Int))} (hp:cg.p F ah=some r):Rt (cg.tw F ⟨aB,ak,aC⟩ H) (cg.Q H R0 R0  r):=by
 obtain ⟨w0,aO⟩:=h0
 subst ba
 unfold cg.p at hp
 unfold cg.tw cg.twX
 have s0:=w0.rf
 obtain ⟨l1,e1,hp⟩:=ag hp
 refine kc (ac eI (ac eI (ac eI (ac eI eI)))) ((0:Int),(0:Int),(0:Int),(0:Int),(0:Int)) w0 ⟨[_],_,rfl,rfl,⟨[_],_,rfl,rfl,⟨[_],_,rfl,rfl,⟨[_],_,rfl,rfl,rfl⟩⟩⟩⟩ rfl rfl e1 λH2 k2 w2 s2 c2=>?_
 exact cg.l29_P F rfl rfl ⟨w2,(s0.trans s2),(aO.step s2),c2⟩ hp
def dN.Q (H0:Hp) (Ri R0:atf)  (r:(List (Int×Int×Int×Int×Int))×Int) (v:AV) (H':Hp):Prop:=∃ o0a:ON,∃ o0n:Nat,∃ o0c:Cap,∃ o0k:List AV,v=(.agg [(.sl ⟨o0a,o0n,o0c⟩),(.i r.2)])/\o0n=(r.1).length/\Out H0 Ri H' (Rs.own ⟨o0a,o0n,o0c⟩ (ac eI (ac eI (ac eI (ac eI eI)))).z o0k::R0) λR=>CR (ac eI (ac eI (ac eI (ac eI eI)))) H' R o0k (r.1)
def dN.p (F:Nat) (ah:ato) (af:Int):Option ((List (Int×Int×Int×Int×Int))×Int):=(cg.p F ah).bind λr4=>some (r4,af)
theorem dN.P {aB ak aC ah af} (ba:ak=ah.length) (h0:Inn H R0 λR=>ROs (ac eI (ac eI (ac eI (ac eI eI)))) H R ⟨aB,ak,aC⟩ ah) {r:(List (Int×Int×Int×Int×Int))×Int} (hp:dN.p F ah af=some r):Rt (dN.tw F ⟨aB,ak,aC⟩ af H) (dN.Q H R0 R0  r):=by
 obtain ⟨w0,aO⟩:=h0
 subst ba
 unfold dN.p at hp
 unfold dN.tw dN.twX
 have s0:=w0.rf
 refine aS w0 λH1 w1 s1=>?_
 refine aS w1 λH2 w2 s2=>?_
 refine aS w2 λH3 w3 s3=>?_
 refine lSl w3 2 ?_
 obtain ⟨r4,e4,hp⟩:=ag hp
 refine aE (cg.P rfl ⟨w3,(aO.step (s1.trans (s2.trans s3)))⟩ e4) ?_
 rintro _ H5 ⟨o0a_5,o0n_5,o0c_5,o0k_5,rfl,rfl,w5,s5,f5_0⟩
 refine br ?_
 refine aq w5 1 λH6 w6 s6=>?_
 refine lI w6 3 ?_
 refine aq w6 1 λH7 w7 s7=>?_
 refine lSl w7 1 ?_
 refine lI w7 1 ?_
 refine aq w7 2 λH8 w8 s8=>?_
 refine aq w8 2 λH9 w9 s9=>?_
 refine lSl w9 2 ?_
 refine lI w9 2 ?_
 obtain ⟨w10,s10⟩:=w9.pp [0] 4
 exact az hp ⟨_,_,_,_,rfl,rfl,w10,(s0.trans (s1.trans (s2.trans (s3.trans (s5.trans (s6.trans (s7.trans (s8.trans (s9.trans s10))))))))),(f5_0.step (s6.trans (s7.trans (s8.trans (s9.trans s10)))))⟩
def cS.Q (H0:Hp) (Ri R0:atf)  (r:Bool) (v:AV) (H':Hp):Prop:=v=(.bool r)/\Out H0 Ri H' (R0) λR=>True
def cS.p (F:Nat) (aa:Int) (aA:Int) (cM:Int):Option (Bool):=(bif (decide (aa>=aA)) then (some (decide (aa<=cM))) else (some false))
theorem cS.P {aa aA cM}  (h0:Inn H R0 λR=>True) {r:Bool} (hp:cS.p F aa aA cM=some r):Rt (cS.tw F aa aA cM H) (cS.Q H R0 R0  r):=by
 obtain ⟨w0,_⟩:=h0
 unfold cS.p at hp
 unfold cS.tw cS.twX
 have s0:=w0.rf
 refine ay hp (λhp=>?_) λhp=>?_
 ·exact az hp ⟨rfl,w0,s0,trivial⟩
 ·exact az hp ⟨rfl,w0,s0,trivial⟩
def cX.Q (H0:Hp) (Ri R0:atf)  (r:Int) (v:AV) (H':Hp):Prop:=v=(.i r)/\Out H0 Ri H' (R0) λR=>True
def cX.p (F:Nat) (aa:Int) (af:Int) (bW:Int) (bX:Int) (cE:Int):Option (Int):=(ix ([aa,af,bW,bX]:List Int) cE).bind λn3=>some (gt ([aa,af,bW,bX]:List Int) n3)
theorem cX.P {aa af bW bX bR cE}  (h0:Inn H R0 λR=>True) {r:Int} (hp:cX.p F aa af bW bX cE=some r):Rt (cX.tw F aa af bW bX bR cE H) (cX.Q H R0 R0  r):=by
 obtain ⟨w0,_⟩:=h0
 unfold cX.p at hp
 unfold cX.tw cX.twX
 have s0:=w0.rf
 refine aS w0 λH1 w1 s1=>?_
 refine lI w1 0 ?_
 refine lI w1 0 ?_
 refine lI w1 0 ?_
 refine lI w1 0 ?_
 refine cL eI w1 (n:=4) (l:=([aa,af,bW,bX]:List Int)) rfl (CR.cons1 rfl (CR.cons1 rfl (CR.cons1 rfl (CR.cons1 rfl CR.empty)))) rfl λH2 w2 s2 c2=>?_
 obtain ⟨n3,g3,hp⟩:=ag hp
 obtain ⟨p3,q3,i3,h3,j3⟩:=W.ixo (E:=eI) w2 (i:=0) rfl rfl c2 g3
 refine ai i3 ?_
 have h3:_=[_]:=h3
 subst h3
 refine ai (aG (j3 0 _ rfl)) ?_
 obtain ⟨w4,s4⟩:=w2.pp [] 2
 exact az hp ⟨rfl,w4,(s0.trans (s1.trans (s2.trans s4))),trivial⟩
def cY.Q (H0:Hp) (Ri R0:atf)  (r:Bool) (v:AV) (H':Hp):Prop:=v=(.bool r)/\Out H0 Ri H' (R0) λR=>True
def cY.p (F:Nat) (bR:Int) (cE:Int):Option (Bool):=(bif (cE==0) then (some true) else ((bif (cE==3) then ((bif (bR==1) then (some true) else ((bif (cE==1) then (some (bR==(-1))) else (some false))))) else ((bif (cE==1) then (some (bR==(-1))) else (some false))))))
theorem cY.P {aa af bW bX bR cE}  (h0:Inn H R0 λR=>True) {r:Bool} (hp:cY.p F bR cE=some r):Rt (cY.tw F aa af bW bX bR cE H) (cY.Q H R0 R0  r):=by
 obtain ⟨w0,_⟩:=h0
 unfold cY.p at hp
 unfold cY.tw cY.twX
 have s0:=w0.rf
 refine aS w0 λH1 w1 s1=>?_
 refine ay hp (λhp=>?_) λhp=>?_
 ·obtain ⟨w2,s2⟩:=w1.pp [] 1
  exact az hp ⟨rfl,w2,(s0.trans (s1.trans s2)),trivial⟩
 ·refine ay hp (λhp=>?_) λhp=>?_
  ·refine lI w1 0 ?_
   refine ay hp (λhp=>?_) λhp=>?_
   ·obtain ⟨w3,s3⟩:=w1.pp [] 1
    exact az hp ⟨rfl,w3,(s0.trans (s1.trans s3)),trivial⟩
   ·refine ay hp (λhp=>?_) λhp=>?_
    ·refine lI w1 0 ?_
     obtain ⟨w4,s4⟩:=w1.pp [] 1
     exact az hp ⟨rfl,w4,(s0.trans (s1.trans s4)),trivial⟩
    ·obtain ⟨w5,s5⟩:=w1.pp [] 1
     exact az hp ⟨rfl,w5,(s0.trans (s1.trans s5)),trivial⟩
  ·refine ay hp (λhp=>?_) λhp=>?_
   ·refine lI w1 0 ?_
    obtain ⟨w6,s6⟩:=w1.pp [] 1
    exact az hp ⟨rfl,w6,(s0.trans (s1.trans s6)),trivial⟩
   ·obtain ⟨w7,s7⟩:=w1.pp [] 1
    exact az hp ⟨rfl,w7,(s0.trans (s1.trans s7)),trivial⟩
def bc.Q (H0:Hp) (Ri R0:atf)  (r:Bool) (v:AV) (H':Hp):Prop:=v=(.bool r)/\Out H0 Ri H' (R0) λR=>True
def bc.S61 (H0:Hp) (Ri R0:atf)  (C:aud) (pC:auk):Prop:=∀ {pX pY HV m_ fC na Db pZ p_ HW dQ xE gq gY gl qd qe HX},∀ {H:Hp},m_=dQ.length->na=gl.length->Db=qd.length->(Out H0 Ri H (Rs.blk fC [.sl ⟨pX,m_,pZ⟩,.i xE]::Rs.own ⟨pY,na,p_⟩ cD.z qe::Rs.own ⟨HV,Db,HW⟩ cD.z HX::R0) λR=>ROs (ac eI (ac eI (ac eI (ac eI eI)))) H R ⟨pX,m_,pZ⟩ dQ/\CR cD H R qe gl/\CR cD H R HX qd)->∀ {r:Bool},pC dQ gq gl qd gY=some r->Rt (C fC 0 gq ⟨pY,na,p_⟩ ⟨HV,Db,HW⟩ gY H) (bc.Q H0 Ri R0  r)
def bc.S3927 (H0:Hp) (Ri R0:atf)  (C:Nat->Nat->Int->Sl->Sl->Int->Nat->Nat->Int->Hp->OA) (pC:List (Int×Int×Int×Int×Int)->Int->List Bool->List Bool->Int->Int->Int->Int->Int->Int->Int->Option (Bool)):Prop:=∀ {HY HZ H_ Dc mF Dd De ga Ia Ib Ic oE Vu gX f_ qf qg qh qi qj gp lr lu Ie If},∀ {H:Hp},Dc=oE.length->Dd=lr.length->De=lu.length->(Out H0 Ri H (Rs.blk mF [.sl ⟨HY,Dc,Ia⟩,.i Vu]::Rs.own ⟨HZ,Dd,Ib⟩ cD.z Ie::Rs.own ⟨H_,De,Ic⟩ cD.z If::Rs.blk ga [.i qf,.i qg,.i qh,.i qi,.i qj]::R0) λR=>ROs (ac eI (ac eI (ac eI (ac eI eI)))) H R ⟨HY,Dc,Ia⟩ oE/\CR cD H R Ie lr/\CR cD H R If lu)->∀ {r:Bool},pC oE gX lr lu f_ qf qg qh qi qj gp=some r->Rt (C mF 0 gX ⟨HZ,Dd,Ib⟩ ⟨H_,De,Ic⟩ f_ ga 0 gp H) (bc.Q H0 Ri R0  r)
def bc.pl3927 (F:Nat) (ar:auk):Nat->List (Int×Int×Int×Int×Int)->Int->List Bool->List Bool->Int->Int->Int->Int->Int->Int->Int->Option (Bool)
 | 0,_,_,_,_,_,_,_,_,_,_,_=>none
 | k+1,oE,gX,lr,lu,f_,qf,qg,qh,qi,qj,gp=>(bif (decide (gp<4)) then ((cX.p F qf qg qh qi gp).bind λr1=>(cS.p F r1 0 (wrap .i64 (gX - 1))).bind λr3=>(bif (!r3) then (some false) else ((cY.p F qj gp).bind λr6=>(bif r6 then ((ix lr r1).bind λn8=>(bif (gt lr n8) then (some false) else ((ix lr r1).bind λn10=>(some (lr.set n10 true)).bind λl11=>bc.pl3927 F ar k oE gX l11 lu f_ qf qg qh qi qj (wrap .i64 (gp+1))))) else ((ix lu r1).bind λn13=>(bif (gt lu n13) then (some false) else ((ix lu r1).bind λn15=>(some (lu.set n15 true)).bind λl16=>bc.pl3927 F ar k oE gX lr l16 f_ qf qg qh qi qj (wrap .i64 (gp+1))))))))) else (ar oE gX lr lu (wrap .i64 (f_+1))))
theorem bc.l3927_P  {C61_:aud} {ar:auk} (hC61:bc.S61 H0 Ri R0  C61_ ar):∀ k,bc.S3927 H0 Ri R0  (bc.l3927 F (cX.tw F) (cS.tw F) (cY.tw F) C61_ k) (bc.pl3927 F ar k):=by
 intro k
 induction k with
 | zero=>unfold bc.S3927;intros;rename_i hp;cases hp
 | succ k ih=>
  intro HY HZ H_ Dc mF Dd De ga Ia Ib Ic oE Vu gX f_ qf qg qh qi qj gp lr lu Ie If H aiZ ai0 ai1 h0 r hp
  obtain ⟨w0,s0,Ig,xF,xG⟩:=h0
  subst aiZ
  subst ai0
  subst ai1
  unfold bc.pl3927 at hp
  unfold bc.l3927
  refine ay hp (λhp=>?_) λhp=>?_
  ·refine lI w0 3 ?_
   refine lI w0 3 ?_
   refine lI w0 3 ?_
   refine lI w0 3 ?_
   refine lI w0 3 ?_
   obtain ⟨r1,e1,hp⟩:=ag hp
   refine aE (cX.P ⟨w0,trivial⟩ e1) ?_
   rintro _ H2 ⟨rfl,w2,s2,_⟩
   refine br ?_
   obtain ⟨r3,e3,hp⟩:=ag hp
   refine aE (cS.P ⟨w2,trivial⟩ e3) ?_
   rintro _ H4 ⟨rfl,w4,s4,_⟩
   refine br ?_
   refine ay hp (λhp=>?_) λhp=>?_
   ·obtain ⟨w5,s5⟩:=w4.pp [] 4
    exact az hp ⟨rfl,w5,(s0.trans (s2.trans (s4.trans s5))),trivial⟩
   ·refine lI w4 3 ?_
    refine lI w4 3 ?_
    refine lI w4 3 ?_
    refine lI w4 3 ?_
    refine lI w4 3 ?_
    obtain ⟨r6,e6,hp⟩:=ag hp
    refine aE (cY.P ⟨w4,trivial⟩ e6) ?_
    rintro _ H7 ⟨rfl,w7,s7,_⟩
    refine br ?_
    refine ay hp (λhp=>?_) λhp=>?_
    ·obtain ⟨n8,g8,hp⟩:=ag hp
     obtain ⟨p8,q8,i8,h8,j8⟩:=W.ixo (E:=cD) w7 (i:=1) rfl rfl (xF.step (s2.trans (s4.trans s7))) g8
     refine ai i8 ?_
     have h8:_=[_]:=h8
     subst h8
     refine ai (wJ (j8 0 _ rfl)) ?_
     refine ay hp (λhp=>?_) λhp=>?_
     ·obtain ⟨w9,s9⟩:=w7.pp [] 4
      exact az hp ⟨rfl,w9,(s0.trans (s2.trans (s4.trans (s7.trans s9)))),trivial⟩
     ·obtain ⟨n10,g10,hp⟩:=ag hp
      obtain ⟨p10,q10,i10,h10,j10⟩:=W.ixo (E:=cD) w7 (i:=1) rfl rfl (xF.step (s2.trans (s4.trans s7))) g10
      refine ai i10 ?_
      obtain ⟨l11,e11,hp⟩:=ag hp
      refine dD cD w7 (i:=1) (j:=0) (p:=p10) rfl rfl (xF.step (s2.trans (s4.trans s7))) g10 i10 e11 rfl rfl (λ_ h=>by have h:_=[_]:=h;subst h;exact rfl) λH12 k12 w12 s12 c12=>?_
      exact ih rfl ((cA e11).symm) rfl ⟨w12,(s0.trans (s2.trans (s4.trans (s7.trans s12)))),(Ig.step (s2.trans (s4.trans (s7.trans s12)))),c12,(xG.step (s2.trans (s4.trans (s7.trans s12))))⟩ hp
    ·obtain ⟨n13,g13,hp⟩:=ag hp
     obtain ⟨p13,q13,i13,h13,j13⟩:=W.ixo (E:=cD) w7 (i:=2) rfl rfl (xG.step (s2.trans (s4.trans s7))) g13
     refine ai i13 ?_
     have h13:_=[_]:=h13
     subst h13
     refine ai (wJ (j13 0 _ rfl)) ?_
     refine ay hp (λhp=>?_) λhp=>?_
     ·obtain ⟨w14,s14⟩:=w7.pp [] 4
      exact az hp ⟨rfl,w14,(s0.trans (s2.trans (s4.trans (s7.trans s14)))),trivial⟩
     ·obtain ⟨n15,g15,hp⟩:=ag hp
      obtain ⟨p15,q15,i15,h15,j15⟩:=W.ixo (E:=cD) w7 (i:=2) rfl rfl (xG.step (s2.trans (s4.trans s7))) g15
      refine ai i15 ?_
      obtain ⟨l16,e16,hp⟩:=ag hp
      refine dD cD w7 (i:=2) (j:=0) (p:=p15) rfl rfl (xG.step (s2.trans (s4.trans s7))) g15 i15 e16 rfl rfl (λ_ h=>by have h:_=[_]:=h;subst h;exact rfl) λH17 k17 w17 s17 c17=>?_
      exact ih rfl rfl ((cA e16).symm) ⟨w17,(s0.trans (s2.trans (s4.trans (s7.trans s17)))),(Ig.step (s2.trans (s4.trans (s7.trans s17)))),(xF.step (s2.trans (s4.trans (s7.trans s17)))),c17⟩ hp
  ·obtain ⟨w18,s18⟩:=w0.pp [0,1,2] 4
   exact hC61 rfl rfl rfl ⟨w18,(s0.trans s18),(Ig.step s18),(xF.step s18),(xG.step s18)⟩ hp
def bc.pl61 (F:Nat) :Nat->List (Int×Int×Int×Int×Int)->Int->List Bool->List Bool->Int->Option (Bool)
 | 0,_,_,_,_,_=>none
 | k+1,dQ,gq,gl,qd,gY=>(bif (decide (gY<(dQ.length:Int))) then ((ix dQ gY).bind λn1=>(bif (((gt dQ n1).2.2.2.2) != 1) then ((bif (((gt dQ n1).2.2.2.2) != (-1)) then (some false) else (bc.pl3927 F (bc.pl61 F k) F dQ gq gl qd gY ((gt dQ n1).1) ((gt dQ n1).2.1) ((gt dQ n1).2.2.1) ((gt dQ n1).2.2.2.1) ((gt dQ n1).2.2.2.2) 0))) else (bc.pl3927 F (bc.pl61 F k) F dQ gq gl qd gY ((gt dQ n1).1) ((gt dQ n1).2.1) ((gt dQ n1).2.2.1) ((gt dQ n1).2.2.2.1) ((gt dQ n1).2.2.2.2) 0))) else (some true))
theorem bc.l61_P  :∀ k,bc.S61 H0 Ri R0  (bc.l61 F (cX.tw F) (cS.tw F) (cY.tw F)  k) (bc.pl61 F  k):=by
 intro k
 induction k with
 | zero=>unfold bc.S61;intros;rename_i hp;cases hp
 | succ k ih=>
  intro pX pY HV m_ fC na Db pZ p_ HW dQ xE gq gY gl qd qe HX H Ih Ii ai2 h0 r hp
  obtain ⟨w0,s0,vU,vV,Vv⟩:=h0
  subst Ih
  subst Ii
  subst ai2
  unfold bc.pl61 at hp
  unfold bc.l61
  refine lSl w0 0 ?_
  refine ay hp (λhp=>?_) λhp=>?_
  ·refine lSl w0 0 ?_
   obtain ⟨n1,g1,hp⟩:=ag hp
   obtain ⟨p1,q1,i1,h1,j1⟩:=ROs.ixr vU rfl g1
   refine ai i1 ?_
   obtain ⟨_,_,rfl,rfl,_,_,rfl,rfl,_,_,rfl,rfl,_,_,rfl,rfl,rfl⟩:=h1
   refine ai (aG (j1 0 _ rfl)) ?_
   refine ai (aG (j1 1 _ rfl)) ?_
   refine ai (aG (j1 2 _ rfl)) ?_
   refine ai (aG (j1 3 _ rfl)) ?_
   refine ai (aG (j1 4 _ rfl)) ?_
   refine aS w0 λH2 w2 s2=>?_
   refine aq w2 0 λH3 w3 s3=>?_
   refine aq w3 0 λH4 w4 s4=>?_
   refine aq w4 0 λH5 w5 s5=>?_
   refine aq w5 0 λH6 w6 s6=>?_
   refine aq w6 0 λH7 w7 s7=>?_
   refine lI w7 0 ?_
   refine ay hp (λhp=>?_) λhp=>?_
   ·refine lI w7 0 ?_
    refine ay hp (λhp=>?_) λhp=>?_
    ·obtain ⟨w8,s8⟩:=w7.pp [] 4
     exact az hp ⟨rfl,w8,(s0.trans (s2.trans (s3.trans (s4.trans (s5.trans (s6.trans (s7.trans s8))))))),trivial⟩
    ·obtain ⟨w9,s9⟩:=w7.pp [1,2,3,0] 4
     exact bc.l3927_P (@ih) F rfl rfl rfl ⟨w9,(s0.trans (s2.trans (s3.trans (s4.trans (s5.trans (s6.trans (s7.trans s9))))))),(vU.step (s2.trans (s3.trans (s4.trans (s5.trans (s6.trans (s7.trans s9))))))),(vV.step (s2.trans (s3.trans (s4.trans (s5.trans (s6.trans (s7.trans s9))))))),(Vv.step (s2.trans (s3.trans (s4.trans (s5.trans (s6.trans (s7.trans s9)))))))⟩ hp
   ·obtain ⟨w10,s10⟩:=w7.pp [1,2,3,0] 4
    exact bc.l3927_P (@ih) F rfl rfl rfl ⟨w10,(s0.trans (s2.trans (s3.trans (s4.trans (s5.trans (s6.trans (s7.trans s10))))))),(vU.step (s2.trans (s3.trans (s4.trans (s5.trans (s6.trans (s7.trans s10))))))),(vV.step (s2.trans (s3.trans (s4.trans (s5.trans (s6.trans (s7.trans s10))))))),(Vv.step (s2.trans (s3.trans (s4.trans (s5.trans (s6.trans (s7.trans s10)))))))⟩ hp
  ·obtain ⟨w11,s11⟩:=w0.pp [] 3
   exact az hp ⟨rfl,w11,(s0.trans s11),trivial⟩
def bc.p (F:Nat) (ah:ato):Option (Bool):=(mkn (wrap .i64 (2 * (ah.length:Int))) false).bind λl2=>(mkn (wrap .i64 (2 * (ah.length:Int))) false).bind λl4=>bc.pl61 F F ah (wrap .i64 (2 * (ah.length:Int))) l2 l4 0
theorem bc.P {aB ak aC ah af} (ba:ak=ah.length) (h0:Inn H R0 λR=>ROs (ac eI (ac eI (ac eI (ac eI eI)))) H R ⟨aB,ak,aC⟩ ah) {r:Bool} (hp:bc.p F ah=some r):Rt (bc.tw F ⟨aB,ak,aC⟩ af H) (bc.Q H R0 R0  r):=by
 obtain ⟨w0,aO⟩:=h0
 subst ba
 unfold bc.p at hp
 unfold bc.tw bc.twX
 have s0:=w0.rf
 refine aS w0 λH1 w1 s1=>?_
 refine lSl w1 0 ?_
 obtain ⟨l2,e2,hp⟩:=ag hp
 refine kc cD false w1 rfl rfl rfl e2 λH3 k3 w3 s3 c3=>?_
 obtain ⟨l4,e4,hp⟩:=ag hp
 refine kc cD false w3 rfl rfl rfl e4 λH5 k5 w5 s5 c5=>?_
 obtain ⟨w6,s6⟩:=w5.pp [2,1,0] 3
 exact bc.l61_P F rfl rfl rfl ⟨w6,(s0.trans (s1.trans (s3.trans (s5.trans s6)))),(aO.step (s1.trans (s3.trans (s5.trans s6)))),(c3.step (s5.trans s6)),(c5.step s6)⟩ hp
def aK.Q (H0:Hp) (Ri R0:atf)  (r:atD) (v:AV) (H':Hp):Prop:=v=(.tup [(.i r.1),(.i r.2)])/\Out H0 Ri H' (R0) λR=>True
def aK.S13 (H0:Hp) (Ri R0:atf)  (C:atT) (pC:atZ):Prop:=∀ {cu Vw ko fE Ij Df eB Ik qk},∀ {H:Hp},Df=qk.length->(Out H0 Ri H (Rs.blk eB [.sl ⟨Ij,Df,Ik⟩,.i Vw]::R0) λR=>ROs (ac eI (ac eI (ac eI (ac eI eI)))) H R ⟨Ij,Df,Ik⟩ qk)->∀ {r:atD},pC cu fE qk ko=some r->Rt (C cu fE eB 0 ko H) (aK.Q H0 Ri R0  r)
def aK.S213 (H0:Hp) (Ri R0:atf)  (C:Int->Bool->Nat->Nat->Int->Int->Hp->OA) (pC:Int->Bool->List (Int×Int×Int×Int×Int)->Int->Int->Option (Int×Int)):Prop:=∀ {g_ Vx fD c_ hG Il Dg kn Im iB},∀ {H:Hp},Dg=iB.length->(Out H0 Ri H (Rs.blk kn [.sl ⟨Il,Dg,Im⟩,.i Vx]::R0) λR=>ROs (ac eI (ac eI (ac eI (ac eI eI)))) H R ⟨Il,Dg,Im⟩ iB)->∀ {r:atD},pC g_ hG iB fD c_=some r->Rt (C g_ hG kn 0 fD c_ H) (aK.Q H0 Ri R0  r)
def aK.pj3 (F:Nat) (gU:atZ) (nD:Int) (sd:Bool) (xH:ato) (sf:Int):Option (Int×Int):=gU nD sd xH (wrap .i64 (sf+1))
theorem aK.j3_P  {C13_:atT} {gU:atZ} (hC13:aK.S13 H0 Ri R0  C13_ gU) {nD ai3 sf sd Vy Io se Vz xH} (ai4:Io=xH.length) (h0:Out H0 Ri H (Rs.blk se [.sl ⟨Vy,Io,Vz⟩,.i ai3]::R0) λR=>ROs (ac eI (ac eI (ac eI (ac eI eI)))) H R ⟨Vy,Io,Vz⟩ xH) {r:atD} (hp:aK.pj3 F gU nD sd xH sf=some r):Rt (aK.j3 F (cX.tw F) (cY.tw F) C13_ nD sd se 0 sf H) (aK.Q H0 Ri R0  r):=by
 obtain ⟨w0,s0,ai5⟩:=h0
 subst ai4
 unfold aK.pj3 at hp
 unfold aK.j3
 exact hC13 rfl ⟨w0,s0,ai5⟩ hp
def aK.pj4 (F:Nat) (gU:atZ) (gZ:Int) (si:Bool) (xI:ato) (sj:Int):Option (Int×Int):=aK.pj3 F gU gZ si xI sj
theorem aK.j4_P  {C13_:atT} {gU:atZ} (hC13:aK.S13 H0 Ri R0  C13_ gU) {gZ ai6 sj si VA Ip AK VB xI} (ai7:Ip=xI.length) (h0:Out H0 Ri H (Rs.blk AK [.sl ⟨VA,Ip,VB⟩,.i ai6]::R0) λR=>ROs (ac eI (ac eI (ac eI (ac eI eI)))) H R ⟨VA,Ip,VB⟩ xI) {r:atD} (hp:aK.pj4 F gU gZ si xI sj=some r):Rt (aK.j4 F (cX.tw F) (cY.tw F) C13_ gZ si AK 0 sj H) (aK.Q H0 Ri R0  r):=by
 obtain ⟨w0,s0,ai8⟩:=h0
 subst ai7
 unfold aK.pj4 at hp
 unfold aK.j4
 exact aK.j3_P (@hC13) rfl ⟨w0,s0,ai8⟩ hp
def aK.pl213 (F:Nat) (gU:atZ):Nat->Int->Bool->List (Int×Int×Int×Int×Int)->Int->Int->Option (Int×Int)
 | 0,_,_,_,_,_=>none
 | k+1,g_,hG,iB,fD,c_=>(bif (decide (c_<4)) then ((ix iB fD).bind λn1=>(cX.p F ((gt iB n1).1) ((gt iB n1).2.1) ((gt iB n1).2.2.1) ((gt iB n1).2.2.2.1) c_).bind λr2=>(bif (r2==g_) then ((ix iB fD).bind λn4=>(cY.p F ((gt iB n4).2.2.2.2) c_).bind λr5=>(bif (r5==hG) then (some (fD,c_)) else (aK.pl213 F gU k g_ hG iB fD (wrap .i64 (c_+1))))) else (aK.pl213 F gU k g_ hG iB fD (wrap .i64 (c_+1))))) else (aK.pj4 F gU g_ hG iB fD))
theorem aK.l213_P  {C13_:atT} {gU:atZ} (hC13:aK.S13 H0 Ri R0  C13_ gU):∀ k,aK.S213 H0 Ri R0  (aK.l213 F (cX.tw F) (cY.tw F) C13_ k) (aK.pl213 F gU k):=by
 intro k
 induction k with
 | zero=>unfold aK.S213;intros;rename_i hp;cases hp
 | succ k ih=>
  intro g_ Vx fD c_ hG Il Dg kn Im iB H ai9 h0 r hp
  obtain ⟨w0,s0,xJ⟩:=h0
  subst ai9
  unfold aK.pl213 at hp
  unfold aK.l213
  refine ay hp (λhp=>?_) λhp=>?_
  ·refine lSl w0 0 ?_
   obtain ⟨n1,g1,hp⟩:=ag hp
   obtain ⟨p1,q1,i1,h1,j1⟩:=ROs.ixr xJ rfl g1
   refine ai i1 ?_
   obtain ⟨_,_,rfl,rfl,_,_,rfl,rfl,_,_,rfl,rfl,_,_,rfl,rfl,rfl⟩:=h1
   refine ai (aG (j1 0 _ rfl)) ?_
   refine ai (aG (j1 1 _ rfl)) ?_
   refine ai (aG (j1 2 _ rfl)) ?_
   refine ai (aG (j1 3 _ rfl)) ?_
   refine ai (aG (j1 4 _ rfl)) ?_
   obtain ⟨r2,e2,hp⟩:=ag hp
   refine aE (cX.P ⟨w0,trivial⟩ e2) ?_
   rintro _ H3 ⟨rfl,w3,s3,_⟩
   refine br ?_
   refine ay hp (λhp=>?_) λhp=>?_
   ·refine lSl w3 0 ?_
    obtain ⟨n4,g4,hp⟩:=ag hp
    obtain ⟨p4,q4,i4,h4,j4⟩:=ROs.ixr (xJ.step s3) rfl g4
    refine ai i4 ?_
    obtain ⟨_,_,rfl,rfl,_,_,rfl,rfl,_,_,rfl,rfl,_,_,rfl,rfl,rfl⟩:=h4
    refine ai (aG (j4 0 _ rfl)) ?_
    refine ai (aG (j4 1 _ rfl)) ?_
    refine ai (aG (j4 2 _ rfl)) ?_
    refine ai (aG (j4 3 _ rfl)) ?_
    refine ai (aG (j4 4 _ rfl)) ?_
    obtain ⟨r5,e5,hp⟩:=ag hp
    refine aE (cY.P ⟨w3,trivial⟩ e5) ?_
    rintro _ H6 ⟨rfl,w6,s6,_⟩
    refine br ?_
    refine ay hp (λhp=>?_) λhp=>?_
    ·obtain ⟨w7,s7⟩:=w6.pp [] 1
     exact az hp ⟨rfl,w7,(s0.trans (s3.trans (s6.trans s7))),trivial⟩
    ·exact ih rfl ⟨w6,(s0.trans (s3.trans s6)),(xJ.step (s3.trans s6))⟩ hp
   ·exact ih rfl ⟨w3,(s0.trans s3),(xJ.step s3)⟩ hp
  ·exact aK.j4_P (@hC13) rfl ⟨w0,s0,xJ⟩ hp
def aK.pl13 (F:Nat) :Nat->Int->Bool->List (Int×Int×Int×Int×Int)->Int->Option (Int×Int)
 | 0,_,_,_,_=>none
 | k+1,cu,fE,qk,ko=>(bif (decide (ko<(qk.length:Int))) then (aK.pl213 F (aK.pl13 F k) F cu fE qk ko 0) else (some ((-1),(-1))))
theorem aK.l13_P  :∀ k,aK.S13 H0 Ri R0  (aK.l13 F (cX.tw F) (cY.tw F)  k) (aK.pl13 F  k):=by
 intro k
 induction k with
 | zero=>unfold aK.S13;intros;rename_i hp;cases hp
 | succ k ih=>
  intro cu Vw ko fE Ij Df eB Ik qk H ai_ h0 r hp
  obtain ⟨w0,s0,aja⟩:=h0
  subst ai_
  unfold aK.pl13 at hp
  unfold aK.l13
  refine lSl w0 0 ?_
  refine ay hp (λhp=>?_) λhp=>?_
  ·exact aK.l213_P (@ih) F rfl ⟨w0,s0,aja⟩ hp
  ·obtain ⟨w1,s1⟩:=w0.pp [] 1
   exact az hp ⟨rfl,w1,(s0.trans s1),trivial⟩
def aK.p (F:Nat) (ah:ato) (au:Int) (iN:Bool):Option (Int×Int):=aK.pl13 F F au iN ah 0
theorem aK.P {aB ak aC ah af au iN} (ba:ak=ah.length) (h0:Inn H R0 λR=>ROs (ac eI (ac eI (ac eI (ac eI eI)))) H R ⟨aB,ak,aC⟩ ah) {r:atD} (hp:aK.p F ah au iN=some r):Rt (aK.tw F ⟨aB,ak,aC⟩ af au iN H) (aK.Q H R0 R0  r):=by
 obtain ⟨w0,aO⟩:=h0
 subst ba
 unfold aK.p at hp
 unfold aK.tw aK.twX
 have s0:=w0.rf
 refine aS w0 λH1 w1 s1=>?_
 exact aK.l13_P F rfl ⟨w1,(s0.trans s1),(aO.step s1)⟩ hp
def dd.Q (H0:Hp) (Ri R0:atf)  (r:Int) (v:AV) (H':Hp):Prop:=v=(.i r)/\Out H0 Ri H' (R0) λR=>True
def dd.p (F:Nat) (ah:ato) (au:Int):Option (Int):=(ix ah (wrap .i64 (Int.tdiv au 4))).bind λn2=>(cX.p F ((gt ah n2).1) ((gt ah n2).2.1) ((gt ah n2).2.2.1) ((gt ah n2).2.2.2.1) (Int.tmod (wrap .i64 ((Int.tmod au 4)+1)) 4)).bind λr9=>(cY.p F ((gt ah n2).2.2.2.2) (Int.tmod (wrap .i64 ((Int.tmod au 4)+1)) 4)).bind λr12=>(aK.p F ah r9 (!r12)).bind λr15=>some (wrap .i64 ((wrap .i64 (4 * r15.1))+r15.2))
theorem dd.P {aB ak aC ah af au} (ba:ak=ah.length) (h0:Inn H R0 λR=>ROs (ac eI (ac eI (ac eI (ac eI eI)))) H R ⟨aB,ak,aC⟩ ah) {r:Int} (hp:dd.p F ah au=some r):Rt (dd.tw F ⟨aB,ak,aC⟩ af au H) (dd.Q H R0 R0  r):=by
 obtain ⟨w0,aO⟩:=h0
 subst ba
 unfold dd.p at hp
 unfold dd.tw dd.twX
 have s0:=w0.rf
 refine aS w0 λH1 w1 s1=>?_
 refine lSl w1 0 ?_
 obtain ⟨n2,g2,hp⟩:=ag hp
 obtain ⟨p2,q2,i2,h2,j2⟩:=ROs.ixr (aO.step s1) rfl g2
 refine ai i2 ?_
 obtain ⟨_,_,rfl,rfl,_,_,rfl,rfl,_,_,rfl,rfl,_,_,rfl,rfl,rfl⟩:=h2
 refine ai (aG (j2 0 _ rfl)) ?_
 refine ai (aG (j2 1 _ rfl)) ?_
 refine ai (aG (j2 2 _ rfl)) ?_
 refine ai (aG (j2 3 _ rfl)) ?_
 refine ai (aG (j2 4 _ rfl)) ?_
 refine aS w1 λH3 w3 s3=>?_
 refine aq w3 0 λH4 w4 s4=>?_
 refine aq w4 0 λH5 w5 s5=>?_
 refine aq w5 0 λH6 w6 s6=>?_
 refine aq w6 0 λH7 w7 s7=>?_
 refine aq w7 0 λH8 w8 s8=>?_
 refine lSl w8 1 ?_
 refine lI w8 1 ?_
 refine lI w8 0 ?_
 refine lI w8 0 ?_
 refine lI w8 0 ?_
 refine lI w8 0 ?_
 refine lI w8 0 ?_
 obtain ⟨r9,e9,hp⟩:=ag hp
 refine aE (cX.P ⟨w8,trivial⟩ e9) ?_
 rintro _ H10 ⟨rfl,w10,s10,_⟩
 refine br ?_
 refine eL (W.cons_of (Rn:=[]) w8 w10 s10) ?_
 refine lI w10 0 ?_
 refine lI w10 0 ?_
 refine lI w10 0 ?_
 refine lI w10 0 ?_
 refine lI w10 0 ?_
 obtain ⟨r12,e12,hp⟩:=ag hp
 refine aE (cY.P ⟨w10,trivial⟩ e12) ?_
 rintro _ H13 ⟨rfl,w13,s13,_⟩
 refine br ?_
 refine eL (W.cons_of (Rn:=[]) w10 w13 s13) ?_
 obtain ⟨r15,e15,hp⟩:=ag hp
 refine aE (aK.P rfl ⟨w13,(aO.step (s1.trans (s3.trans (s4.trans (s5.trans (s6.trans (s7.trans (s8.trans (s10.trans s13)))))))))⟩ e15) ?_
 rintro _ H16 ⟨rfl,w16,s16,_⟩
 refine br (br (br (br (br ?_))))
 obtain ⟨w17,s17⟩:=w16.pp [] 2
 exact az hp ⟨rfl,w17,(s0.trans (s1.trans (s3.trans (s4.trans (s5.trans (s6.trans (s7.trans (s8.trans (s10.trans (s13.trans (s16.trans s17))))))))))),trivial⟩
def aP.Q (H0:Hp) (Ri R0:atf)  (r:ats) (v:AV) (H':Hp):Prop:=∃ o0a:ON,∃ o0n:Nat,∃ o0c:Cap,∃ o0k:List AV,v=(.sl ⟨o0a,o0n,o0c⟩)/\o0n=(r).length/\Out H0 Ri H' (Rs.own ⟨o0a,o0n,o0c⟩ (eSl eI).z o0k::R0) λR=>CR (eSl eI) H' R o0k (r)
def aP.S61 (H0:Hp) (Ri R0:atf)  (C:atF) (pC:atN):Prop:=∀ {pX Iq pY m_ fC Dh na pZ Ir p_ dQ xE e_ oF Is qe gl},∀ {H:Hp},m_=dQ.length->Dh=oF.length->na=gl.length->(Out H0 Ri H (Rs.blk fC [.sl ⟨pX,m_,pZ⟩,.i xE]::Rs.own ⟨Iq,Dh,Ir⟩ (eSl eI).z Is::Rs.own ⟨pY,na,p_⟩ cD.z qe::R0) λR=>ROs (ac eI (ac eI (ac eI (ac eI eI)))) H R ⟨pX,m_,pZ⟩ dQ/\CR (eSl eI) H R Is oF/\CR cD H R qe gl)->∀ {r:ats},pC dQ oF gl e_=some r->Rt (C fC 0 ⟨Iq,Dh,Ir⟩ ⟨pY,na,p_⟩ e_ H) (aP.Q H0 Ri R0  r)
def aP.pj4 (F:Nat) (ar:atN) (lw:ato) (lx:ats) (ly:at8) (sk:Int):Option (List (List Int)):=ar lw lx ly (wrap .i64 (sk+1))
theorem aP.j4_P  {C61_:atF} {ar:atN} (hC61:aP.S61 H0 Ri R0  C61_ ar) {xK xL xM qn fq qo qp xN xO xP lw It sk lx xQ xR ly} (Iu:qn=lw.length) (Iv:qo=lx.length) (Iw:qp=ly.length) (h0:Out H0 Ri H (Rs.blk fq [.sl ⟨xK,qn,xN⟩,.i It]::Rs.own ⟨xL,qo,xO⟩ (eSl eI).z xQ::Rs.own ⟨xM,qp,xP⟩ cD.z xR::R0) λR=>ROs (ac eI (ac eI (ac eI (ac eI eI)))) H R ⟨xK,qn,xN⟩ lw/\CR (eSl eI) H R xQ lx/\CR cD H R xR ly) {r:ats} (hp:aP.pj4 F ar lw lx ly sk=some r):Rt (aP.j4 F (dd.tw F) C61_ fq 0 ⟨xL,qo,xO⟩ ⟨xM,qp,xP⟩ sk H) (aP.Q H0 Ri R0  r):=by
 obtain ⟨w0,s0,Ix,Iy,Iz⟩:=h0
 subst Iu
 subst Iv
 subst Iw
 unfold aP.pj4 at hp
 unfold aP.j4
 exact hC61 rfl rfl rfl ⟨w0,s0,Ix,Iy,Iz⟩ hp
def aP.S7853 (H0:Hp) (Ri R0:atf)  (C:Nat->Nat->Sl->Sl->Int->Sl->Int->Hp->OA) (pC:List (Int×Int×Int×Int×Int)->List (List Int)->List Bool->Int->List Int->Int->Option (List (List Int))):Prop:=∀ {IA IB IC ID Di lN Dj Dk Dl IE IF IG IH oG VC kq gr qq II IJ IK ma qs},∀ {H:Hp},Di=oG.length->Dj=qq.length->Dk=ma.length->Dl=qs.length->(Out H0 Ri H (Rs.blk lN [.sl ⟨IA,Di,IE⟩,.i VC]::Rs.own ⟨IB,Dj,IF⟩ (eSl eI).z II::Rs.own ⟨IC,Dk,IG⟩ cD.z IJ::Rs.own ⟨ID,Dl,IH⟩ eI.z IK::R0) λR=>ROs (ac eI (ac eI (ac eI (ac eI eI)))) H R ⟨IA,Di,IE⟩ oG/\CR (eSl eI) H R II qq/\CR cD H R IJ ma/\CR eI H R IK qs)->∀ {r:ats},pC oG qq ma kq qs gr=some r->Rt (C lN 0 ⟨IB,Dj,IF⟩ ⟨IC,Dk,IG⟩ kq ⟨ID,Dl,IH⟩ gr H) (aP.Q H0 Ri R0  r)
def aP.pj5 (F:Nat) (ar:atN) (xS:ato) (xT:ats) (xU:at8) (sq:Int):Option (List (List Int)):=ar xS xT xU (wrap .i64 (sq+1))
theorem aP.j5_P  {C61_:atF} {ar:atN} (hC61:aP.S61 H0 Ri R0  C61_ ar) {VD VE VF IL AL IM IN VG VH VI xS ajb sq xT VJ VK xU} (ajc:IL=xS.length) (ajd:IM=xT.length) (aje:IN=xU.length) (h0:Out H0 Ri H (Rs.blk AL [.sl ⟨VD,IL,VG⟩,.i ajb]::Rs.own ⟨VE,IM,VH⟩ (eSl eI).z VJ::Rs.own ⟨VF,IN,VI⟩ cD.z VK::R0) λR=>ROs (ac eI (ac eI (ac eI (ac eI eI)))) H R ⟨VD,IL,VG⟩ xS/\CR (eSl eI) H R VJ xT/\CR cD H R VK xU) {r:ats} (hp:aP.pj5 F ar xS xT xU sq=some r):Rt (aP.j5 F (dd.tw F) C61_ AL 0 ⟨VE,IM,VH⟩ ⟨VF,IN,VI⟩ sq H) (aP.Q H0 Ri R0  r):=by
 obtain ⟨w0,s0,ajf,ajg,ajh⟩:=h0
 subst ajc
 subst ajd
 subst aje
 unfold aP.pj5 at hp
 unfold aP.j5
 exact hC61 rfl rfl rfl ⟨w0,s0,ajf,ajg,ajh⟩ hp
def aP.pj6 (F:Nat) (ar:atN) (xV:ato) (xW:ats) (xX:at8) (kp:Int) (qt:ati):Option (List (List Int)):=(apn xW ([qt]:List (List Int))).bind λl3=>aP.pj5 F ar xV l3 xX kp
theorem aP.j6_P  {C61_:atF} {ar:atN} (hC61:aP.S61 H0 Ri R0  C61_ ar) {VL VM VN VO IP AN IQ IR IS VP VQ VR VS xV aji kp xW VT VU VV xX qt} (ajj:IP=xV.length) (ajk:IQ=xW.length) (ajl:IR=xX.length) (ajm:IS=qt.length) (h0:Out H0 Ri H (Rs.blk AN [.sl ⟨VL,IP,VP⟩,.i aji]::Rs.own ⟨VM,IQ,VQ⟩ (eSl eI).z VT::Rs.own ⟨VN,IR,VR⟩ cD.z VU::Rs.own ⟨VO,IS,VS⟩ eI.z VV::R0) λR=>ROs (ac eI (ac eI (ac eI (ac eI eI)))) H R ⟨VL,IP,VP⟩ xV/\CR (eSl eI) H R VT xW/\CR cD H R VU xX/\CR eI H R VV qt) {r:ats} (hp:aP.pj6 F ar xV xW xX kp qt=some r):Rt (aP.j6 F (dd.tw F) C61_ AN 0 ⟨VM,IQ,VQ⟩ ⟨VN,IR,VR⟩ kp ⟨VO,IS,VS⟩ H) (aP.Q H0 Ri R0  r):=by
 obtain ⟨w0,s0,ajn,ajo,ajp,ajq⟩:=h0
 subst ajj
 subst ajk
 subst ajl
 subst ajm
 unfold aP.pj6 at hp
 unfold aP.j6
 obtain ⟨w1,s1,f1⟩:=w0.frz (i:=3) eI rfl ajq
 refine cL (eSl eI) w1 (n:=1) (l:=([qt]:List (List Int))) rfl (CR.cons1 ⟨_,rfl,f1⟩ CR.empty) rfl λH2 w2 s2 c2=>?_
 refine ai (w2.rowo (i:=0) rfl) ?_
 obtain ⟨l3,e3,hp⟩:=ag hp
 refine fA (eSl eI) w2 (i:=2) rfl rfl (ajo.step (s1.trans s2)) c2 (show 1=List.length ([qt]:List (List Int)) from rfl) rfl e3 λa4 d4 H4 w4 s4 c4 x4=>?_
 obtain ⟨w5,s5⟩:=w4.pp [1,2,3] 4
 exact aP.j5_P (@hC61) rfl rfl rfl ⟨w5,(s0.trans (s1.trans (s2.trans (s4.trans s5)))),(ajn.step (s1.trans (s2.trans (s4.trans s5)))),(c4.step s5),(ajp.step (s1.trans (s2.trans (s4.trans s5))))⟩ hp
def aP.pl7853 (F:Nat) (ar:atN):Nat->List (Int×Int×Int×Int×Int)->List (List Int)->List Bool->Int->List Int->Int->Option (List (List Int))
 | 0,_,_,_,_,_,_=>none
 | k+1,oG,qq,ma,kq,qs,gr=>(ix ma gr).bind λn1=>(bif (!(gt ma n1)) then ((ix ma gr).bind λn2=>(some (ma.set n2 true)).bind λl3=>(apn qs ([gr]:List Int)).bind λl6=>(dd.p F oG gr).bind λr8=>aP.pl7853 F ar k oG qq l3 kq l6 r8) else (aP.pj6 F ar oG qq ma kq qs))
theorem aP.l7853_P  {C61_:atF} {ar:atN} (hC61:aP.S61 H0 Ri R0  C61_ ar):∀ k,aP.S7853 H0 Ri R0  (aP.l7853 F (dd.tw F) C61_ k) (aP.pl7853 F ar k):=by
 intro k
 induction k with
 | zero=>unfold aP.S7853;intros;rename_i hp;cases hp
 | succ k ih=>
  intro IA IB IC ID Di lN Dj Dk Dl IE IF IG IH oG VC kq gr qq II IJ IK ma qs H ajr ajs ajt aju h0 r hp
  obtain ⟨w0,s0,IT,VW,Dm,VX⟩:=h0
  subst ajr
  subst ajs
  subst ajt
  subst aju
  unfold aP.pl7853 at hp
  unfold aP.l7853
  obtain ⟨n1,g1,hp⟩:=ag hp
  obtain ⟨p1,q1,i1,h1,j1⟩:=W.ixo (E:=cD) w0 (i:=2) rfl rfl Dm g1
  refine ai i1 ?_
  have h1:_=[_]:=h1
  subst h1
  refine ai (wJ (j1 0 _ rfl)) ?_
  refine ay hp (λhp=>?_) λhp=>?_
  ·obtain ⟨n2,g2,hp⟩:=ag hp
   obtain ⟨p2,q2,i2,h2,j2⟩:=W.ixo (E:=cD) w0 (i:=2) rfl rfl Dm g2
   refine ai i2 ?_
   obtain ⟨l3,e3,hp⟩:=ag hp
   refine dD cD w0 (i:=2) (j:=0) (p:=p2) rfl rfl Dm g2 i2 e3 rfl rfl (λ_ h=>by have h:_=[_]:=h;subst h;exact rfl) λH4 k4 w4 s4 c4=>?_
   refine cL eI w4 (n:=1) (l:=([gr]:List Int)) rfl (CR.cons1 rfl CR.empty) rfl λH5 w5 s5 c5=>?_
   refine ai (w5.rowo (i:=0) rfl) ?_
   obtain ⟨l6,e6,hp⟩:=ag hp
   refine fA eI w5 (i:=4) rfl rfl (VX.step (s4.trans s5)) c5 (show 1=List.length ([gr]:List Int) from rfl) rfl e6 λa7 d7 H7 w7 s7 c7 x7=>?_
   refine lSl w7 1 ?_
   refine lI w7 1 ?_
   obtain ⟨r8,e8,hp⟩:=ag hp
   refine aE (dd.P rfl ⟨w7,(IT.step (s4.trans (s5.trans s7)))⟩ e8) ?_
   rintro _ H9 ⟨rfl,w9,s9,_⟩
   refine br ?_
   obtain ⟨w10,s10⟩:=w9.pp [1,2,3,4] 5
   exact ih rfl rfl ((cA e3).symm) rfl ⟨w10,(s0.trans (s4.trans (s5.trans (s7.trans (s9.trans s10))))),(IT.step (s4.trans (s5.trans (s7.trans (s9.trans s10))))),(VW.step (s4.trans (s5.trans (s7.trans (s9.trans s10))))),(c4.step (s5.trans (s7.trans (s9.trans s10)))),(c7.step (s9.trans s10))⟩ hp
  ·exact aP.j6_P (@hC61) rfl rfl rfl rfl ⟨w0,s0,IT,VW,Dm,VX⟩ hp
def aP.pl61 (F:Nat) :Nat->List (Int×Int×Int×Int×Int)->List (List Int)->List Bool->Int->Option (List (List Int))
 | 0,_,_,_,_=>none
 | k+1,dQ,oF,gl,e_=>(bif (decide (e_<(gl.length:Int))) then ((ix gl e_).bind λn1=>(bif (gt gl n1) then (aP.pj4 F (aP.pl61 F k) dQ oF gl e_) else (aP.pl7853 F (aP.pl61 F k) F dQ oF gl e_ ([]:List Int) e_))) else (some oF))
theorem aP.l61_P  :∀ k,aP.S61 H0 Ri R0  (aP.l61 F (dd.tw F)  k) (aP.pl61 F  k):=by
 intro k
 induction k with
 | zero=>unfold aP.S61;intros;rename_i hp;cases hp
 | succ k ih=>
  intro pX Iq pY m_ fC Dh na pZ Ir p_ dQ xE e_ oF Is qe gl H Ih ajv Ii h0 r hp
  obtain ⟨w0,s0,vU,IU,vV⟩:=h0
  subst Ih
  subst ajv
  subst Ii
  unfold aP.pl61 at hp
  unfold aP.l61
  refine ay hp (λhp=>?_) λhp=>?_
  ·obtain ⟨n1,g1,hp⟩:=ag hp
   obtain ⟨p1,q1,i1,h1,j1⟩:=W.ixo (E:=cD) w0 (i:=2) rfl rfl vV g1
   refine ai i1 ?_
   have h1:_=[_]:=h1
   subst h1
   refine ai (wJ (j1 0 _ rfl)) ?_
   refine ay hp (λhp=>?_) λhp=>?_
   ·exact aP.j4_P (@ih) rfl rfl rfl ⟨w0,s0,vU,IU,vV⟩ hp
   ·refine cL eI w0 (n:=0) (l:=([]:List Int)) rfl CR.empty rfl λH2 w2 s2 c2=>?_
    obtain ⟨w3,s3⟩:=w2.pp [1,2,3,0] 4
    exact aP.l7853_P (@ih) F rfl rfl rfl (show 0=List.length ([]:List Int) from rfl) ⟨w3,(s0.trans (s2.trans s3)),(vU.step (s2.trans s3)),(IU.step (s2.trans s3)),(vV.step (s2.trans s3)),(c2.step s3)⟩ hp
  ·obtain ⟨w4,s4⟩:=w0.pp [1] 3
   exact az hp ⟨_,_,_,_,rfl,rfl,w4,(s0.trans s4),(IU.step s4)⟩
def aP.p (F:Nat) (ah:ato):Option (List (List Int)):=(mkn (wrap .i64 (4 * (ah.length:Int))) false).bind λl3=>aP.pl61 F F ah ([]:List (List Int)) l3 0
theorem aP.P {aB ak aC ah af} (ba:ak=ah.length) (h0:Inn H R0 λR=>ROs (ac eI (ac eI (ac eI (ac eI eI)))) H R ⟨aB,ak,aC⟩ ah) {r:ats} (hp:aP.p F ah=some r):Rt (aP.tw F ⟨aB,ak,aC⟩ af H) (aP.Q H R0 R0  r):=by
 obtain ⟨w0,aO⟩:=h0
 subst ba
 unfold aP.p at hp
 unfold aP.tw aP.twX
 have s0:=w0.rf
 refine aS w0 λH1 w1 s1=>?_
 refine cL (eSl eI) w1 (n:=0) (l:=([]:List (List Int))) rfl CR.empty rfl λH2 w2 s2 c2=>?_
 refine lSl w2 1 ?_
 obtain ⟨l3,e3,hp⟩:=ag hp
 refine kc cD false w2 rfl rfl rfl e3 λH4 k4 w4 s4 c4=>?_
 obtain ⟨w5,s5⟩:=w4.pp [2,1,0] 3
 exact aP.l61_P F rfl (show 0=List.length ([]:List (List Int)) from rfl) rfl ⟨w5,(s0.trans (s1.trans (s2.trans (s4.trans s5)))),(aO.step (s1.trans (s2.trans (s4.trans s5)))),(c2.step (s4.trans s5)),(c4.step s5)⟩ hp
def aD.Q (H0:Hp) (Ri R0:atf)  (r:ati) (v:AV) (H':Hp):Prop:=∃ o0a:ON,∃ o0n:Nat,∃ o0c:Cap,∃ o0k:List AV,v=(.sl ⟨o0a,o0n,o0c⟩)/\o0n=(r).length/\Out H0 Ri H' (Rs.own ⟨o0a,o0n,o0c⟩ eI.z o0k::R0) λR=>CR eI H' R o0k (r)
def aD.S29 (H0:Hp) (Ri R0:atf)  (C:atC) (pC:atR):Prop:=∀ {qu IV nb de Dn qv IW gN ng dO qw IX},∀ {H:Hp},nb=gN.length->Dn=qw.length->(Out H0 Ri H (Rs.blk de [.sl ⟨qu,nb,qv⟩,.i ng]::Rs.own ⟨IV,Dn,IW⟩ eI.z IX::R0) λR=>ROs (ac eI (ac eI (ac eI (ac eI eI)))) H R ⟨qu,nb,qv⟩ gN/\CR eI H R IX qw)->∀ {r:ati},pC gN qw dO=some r->Rt (C de 0 ⟨IV,Dn,IW⟩ dO H) (aD.Q H0 Ri R0  r)
def aD.S61 (H0:Hp) (Ri R0:atf)  (C:atC) (pC:atR):Prop:=∀ {IY IZ Do jN Dp I_ Ja nh VY hJ lz Jb},∀ {H:Hp},Do=nh.length->Dp=lz.length->(Out H0 Ri H (Rs.blk jN [.sl ⟨IY,Do,I_⟩,.i VY]::Rs.own ⟨IZ,Dp,Ja⟩ eI.z Jb::R0) λR=>ROs (ac eI (ac eI (ac eI (ac eI eI)))) H R ⟨IY,Do,I_⟩ nh/\CR eI H R Jb lz)->∀ {r:ati},pC nh lz hJ=some r->Rt (C jN 0 ⟨IZ,Dp,Ja⟩ hJ H) (aD.Q H0 Ri R0  r)
def aD.S7855 (H0:Hp) (Ri R0:atf)  (C:at7) (pC:aul):Prop:=∀ {Jc Jd Dq mH Dr Je Jf oH VZ iZ fF fG gu jS Jg},∀ {H:Hp},Dq=oH.length->Dr=jS.length->(Out H0 Ri H (Rs.blk mH [.sl ⟨Jc,Dq,Je⟩,.i VZ]::Rs.own ⟨Jd,Dr,Jf⟩ eI.z Jg::R0) λR=>ROs (ac eI (ac eI (ac eI (ac eI eI)))) H R ⟨Jc,Dq,Je⟩ oH/\CR eI H R Jg jS)->∀ {r:ati},pC oH jS iZ fF fG gu=some r->Rt (C mH 0 ⟨Jd,Dr,Jf⟩ iZ fF fG gu H) (aD.Q H0 Ri R0  r)
def aD.pj8 (F:Nat) (Ds:aul) (xY:ato) (xZ:ati) (sy:Int) (sB:Int) (sC:Int) (sD:Int):Option (List Int):=Ds xY xZ sy sB sC (wrap .i64 (sD+1))
theorem aD.j8_P  {C7855_:at7} {Ds:aul} (hC7855:aD.S7855 H0 Ri R0  C7855_ Ds) {V_ Wa Jh AR Ji Wb Wc xY ajw sy sB sC sD xZ Wd} (ajx:Jh=xY.length) (ajy:Ji=xZ.length) (h0:Out H0 Ri H (Rs.blk AR [.sl ⟨V_,Jh,Wb⟩,.i ajw]::Rs.own ⟨Wa,Ji,Wc⟩ eI.z Wd::R0) λR=>ROs (ac eI (ac eI (ac eI (ac eI eI)))) H R ⟨V_,Jh,Wb⟩ xY/\CR eI H R Wd xZ) {r:ati} (hp:aD.pj8 F Ds xY xZ sy sB sC sD=some r):Rt (aD.j8 F (aK.tw F) C7855_ AR 0 ⟨Wa,Ji,Wc⟩ sy sB sC sD H) (aD.Q H0 Ri R0  r):=by
 obtain ⟨w0,s0,ajz,ajA⟩:=h0
 subst ajx
 subst ajy
 unfold aD.pj8 at hp
 unfold aD.j8
 exact hC7855 rfl rfl ⟨w0,s0,ajz,ajA⟩ hp
def aD.pj6 (F:Nat) (ar:atR) (x_:ato) (ya:ati) (sw:Int):Option (List Int):=ar x_ ya (wrap .i64 (sw+1))
theorem aD.j6_P  {C61_:atC} {ar:atR} (hC61:aD.S61 H0 Ri R0  C61_ ar) {We Wf Jj AP Jk Wg Wh x_ ajB sw ya Wi} (ajC:Jj=x_.length) (ajD:Jk=ya.length) (h0:Out H0 Ri H (Rs.blk AP [.sl ⟨We,Jj,Wg⟩,.i ajB]::Rs.own ⟨Wf,Jk,Wh⟩ eI.z Wi::R0) λR=>ROs (ac eI (ac eI (ac eI (ac eI eI)))) H R ⟨We,Jj,Wg⟩ x_/\CR eI H R Wi ya) {r:ati} (hp:aD.pj6 F ar x_ ya sw=some r):Rt (aD.j6 F (aK.tw F) C61_ AP 0 ⟨Wf,Jk,Wh⟩ sw H) (aD.Q H0 Ri R0  r):=by
 obtain ⟨w0,s0,ajE,ajF⟩:=h0
 subst ajC
 subst ajD
 unfold aD.pj6 at hp
 unfold aD.j6
 exact hC61 rfl rfl ⟨w0,s0,ajE,ajF⟩ hp
def aD.pj7 (F:Nat) (ar:atR) (yb:ato) (yc:ati) (nE:Int):Option (List Int):=aD.pj6 F ar yb yc nE
theorem aD.j7_P  {C61_:atC} {ar:atR} (hC61:aD.S61 H0 Ri R0  C61_ ar) {Wj Wk Jl AQ Jm Wl Wm yb ajG nE yc Wn} (ajH:Jl=yb.length) (ajI:Jm=yc.length) (h0:Out H0 Ri H (Rs.blk AQ [.sl ⟨Wj,Jl,Wl⟩,.i ajG]::Rs.own ⟨Wk,Jm,Wm⟩ eI.z Wn::R0) λR=>ROs (ac eI (ac eI (ac eI (ac eI eI)))) H R ⟨Wj,Jl,Wl⟩ yb/\CR eI H R Wn yc) {r:ati} (hp:aD.pj7 F ar yb yc nE=some r):Rt (aD.j7 F (aK.tw F) C61_ AQ 0 ⟨Wk,Jm,Wm⟩ nE H) (aD.Q H0 Ri R0  r):=by
 obtain ⟨w0,s0,ajJ,ajK⟩:=h0
 subst ajH
 subst ajI
 unfold aD.pj7 at hp
 unfold aD.j7
 exact aD.j6_P (@hC61) rfl rfl ⟨w0,s0,ajJ,ajK⟩ hp
def aD.pl7855 (F:Nat) (ar:atR):Nat->List (Int×Int×Int×Int×Int)->List Int->Int->Int->Int->Int->Option (List Int)
 | 0,_,_,_,_,_,_=>none
 | k+1,oH,jS,iZ,fF,fG,gu=>(bif (decide (gu<(jS.length:Int))) then ((ix jS gu).bind λn1=>(bif ((gt jS n1)==(if fG>fF then fG else fF)) then ((ix jS gu).bind λn2=>(some (jS.set n2 (if fG<fF then fG else fF))).bind λl3=>aD.pj8 F (aD.pl7855 F ar k) oH l3 iZ fF fG gu) else (aD.pj8 F (aD.pl7855 F ar k) oH jS iZ fF fG gu))) else (aD.pj7 F ar oH jS iZ))
theorem aD.l7855_P  {C61_:atC} {ar:atR} (hC61:aD.S61 H0 Ri R0  C61_ ar):∀ k,aD.S7855 H0 Ri R0  (aD.l7855 F (aK.tw F) C61_ k) (aD.pl7855 F ar k):=by
 intro k
 induction k with
 | zero=>unfold aD.S7855;intros;rename_i hp;cases hp
 | succ k ih=>
  intro Jc Jd Dq mH Dr Je Jf oH VZ iZ fF fG gu jS Jg H ajL ajM h0 r hp
  obtain ⟨w0,s0,Jn,yd⟩:=h0
  subst ajL
  subst ajM
  unfold aD.pl7855 at hp
  unfold aD.l7855
  refine ay hp (λhp=>?_) λhp=>?_
  ·obtain ⟨n1,g1,hp⟩:=ag hp
   obtain ⟨p1,q1,i1,h1,j1⟩:=W.ixo (E:=eI) w0 (i:=1) rfl rfl yd g1
   refine ai i1 ?_
   have h1:_=[_]:=h1
   subst h1
   refine ai (aG (j1 0 _ rfl)) ?_
   refine ay hp (λhp=>?_) λhp=>?_
   ·obtain ⟨n2,g2,hp⟩:=ag hp
    obtain ⟨p2,q2,i2,h2,j2⟩:=W.ixo (E:=eI) w0 (i:=1) rfl rfl yd g2
    refine ai i2 ?_
    obtain ⟨l3,e3,hp⟩:=ag hp
    refine dD eI w0 (i:=1) (j:=0) (p:=p2) rfl rfl yd g2 i2 e3 rfl rfl (λ_ h=>by have h:_=[_]:=h;subst h;exact rfl) λH4 k4 w4 s4 c4=>?_
    exact aD.j8_P (@ih) rfl ((cA e3).symm) ⟨w4,(s0.trans s4),(Jn.step s4),c4⟩ hp
   ·exact aD.j8_P (@ih) rfl rfl ⟨w0,s0,Jn,yd⟩ hp
  ·exact aD.j7_P (@hC61) rfl rfl ⟨w0,s0,Jn,yd⟩ hp
def aD.pl61 (F:Nat) :Nat->List (Int×Int×Int×Int×Int)->List Int->Int->Option (List Int)
 | 0,_,_,_=>none
 | k+1,nh,lz,hJ=>(bif (decide (hJ<(wrap .i64 (2 * (nh.length:Int))))) then ((aK.p F nh hJ true).bind λr1=>(aK.p F nh hJ false).bind λr3=>(ix lz r1.1).bind λn5=>(ix lz r3.1).bind λn6=>aD.pl7855 F (aD.pl61 F k) F nh lz hJ (gt lz n5) (gt lz n6) 0) else (some lz))
theorem aD.l61_P  :∀ k,aD.S61 H0 Ri R0  (aD.l61 F (aK.tw F)  k) (aD.pl61 F  k):=by
 intro k
 induction k with
 | zero=>unfold aD.S61;intros;rename_i hp;cases hp
 | succ k ih=>
  intro IY IZ Do jN Dp I_ Ja nh VY hJ lz Jb H ajN ajO h0 r hp
  obtain ⟨w0,s0,Jo,Dt⟩:=h0
  subst ajN
  subst ajO
  unfold aD.pl61 at hp
  unfold aD.l61
  refine lSl w0 0 ?_
  refine ay hp (λhp=>?_) λhp=>?_
  ·refine lSl w0 0 ?_
   refine lI w0 0 ?_
   obtain ⟨r1,e1,hp⟩:=ag hp
   refine aE (aK.P rfl ⟨w0,Jo⟩ e1) ?_
   rintro _ H2 ⟨rfl,w2,s2,_⟩
   refine br (br (br (br (br ?_))))
   refine lSl w2 0 ?_
   refine lI w2 0 ?_
   obtain ⟨r3,e3,hp⟩:=ag hp
   refine aE (aK.P rfl ⟨w2,(Jo.step s2)⟩ e3) ?_
   rintro _ H4 ⟨rfl,w4,s4,_⟩
   refine br (br (br (br (br ?_))))
   obtain ⟨n5,g5,hp⟩:=ag hp
   obtain ⟨p5,q5,i5,h5,j5⟩:=W.ixo (E:=eI) w4 (i:=1) rfl rfl (Dt.step (s2.trans s4)) g5
   refine ai i5 ?_
   have h5:_=[_]:=h5
   subst h5
   refine ai (aG (j5 0 _ rfl)) ?_
   obtain ⟨n6,g6,hp⟩:=ag hp
   obtain ⟨p6,q6,i6,h6,j6⟩:=W.ixo (E:=eI) w4 (i:=1) rfl rfl (Dt.step (s2.trans s4)) g6
   refine ai i6 ?_
   have h6:_=[_]:=h6
   subst h6
   refine ai (aG (j6 0 _ rfl)) ?_
   exact aD.l7855_P (@ih) F rfl rfl ⟨w4,(s0.trans (s2.trans s4)),(Jo.step (s2.trans s4)),(Dt.step (s2.trans s4))⟩ hp
  ·obtain ⟨w7,s7⟩:=w0.pp [1] 2
   exact az hp ⟨_,_,_,_,rfl,rfl,w7,(s0.trans s7),(Dt.step s7)⟩
def aD.pj9 (F:Nat)  (ye:ato) (yf:ati):Option (List Int):=aD.pl61 F F ye yf 0
theorem aD.j9_P   {Wo Wp Jp AS Jq Wq Wr ye ajP yf Ws} (ajQ:Jp=ye.length) (ajR:Jq=yf.length) (h0:Out H0 Ri H (Rs.blk AS [.sl ⟨Wo,Jp,Wq⟩,.i ajP]::Rs.own ⟨Wp,Jq,Wr⟩ eI.z Ws::R0) λR=>ROs (ac eI (ac eI (ac eI (ac eI eI)))) H R ⟨Wo,Jp,Wq⟩ ye/\CR eI H R Ws yf) {r:ati} (hp:aD.pj9 F  ye yf=some r):Rt (aD.j9 F (aK.tw F)  AS 0 ⟨Wp,Jq,Wr⟩ H) (aD.Q H0 Ri R0  r):=by
 obtain ⟨w0,s0,ajS,ajT⟩:=h0
 subst ajQ
 subst ajR
 unfold aD.pj9 at hp
 unfold aD.j9
 exact aD.l61_P F rfl rfl ⟨w0,s0,ajS,ajT⟩ hp
def aD.pl29 (F:Nat) :Nat->List (Int×Int×Int×Int×Int)->List Int->Int->Option (List Int)
 | 0,_,_,_=>none
 | k+1,gN,qw,dO=>(bif (decide (dO<(gN.length:Int))) then ((apn qw ([dO]:List Int)).bind λl2=>aD.pl29 F k gN l2 (wrap .i64 (dO+1))) else (aD.pj9 F gN qw))
theorem aD.l29_P  :∀ k,aD.S29 H0 Ri R0  (aD.l29 F (aK.tw F)  k) (aD.pl29 F  k):=by
 intro k
 induction k with
 | zero=>unfold aD.S29;intros;rename_i hp;cases hp
 | succ k ih=>
  intro qu IV nb de Dn qv IW gN ng dO qw IX H Jr ajU h0 r hp
  obtain ⟨w0,s0,yg,Wt⟩:=h0
  subst Jr
  subst ajU
  unfold aD.pl29 at hp
  unfold aD.l29
  refine lSl w0 0 ?_
  refine ay hp (λhp=>?_) λhp=>?_
  ·refine cL eI w0 (n:=1) (l:=([dO]:List Int)) rfl (CR.cons1 rfl CR.empty) rfl λH1 w1 s1 c1=>?_
   refine ai (w1.rowo (i:=0) rfl) ?_
   obtain ⟨l2,e2,hp⟩:=ag hp
   refine fA eI w1 (i:=2) rfl rfl (Wt.step s1) c1 (show 1=List.length ([dO]:List Int) from rfl) rfl e2 λa3 d3 H3 w3 s3 c3 x3=>?_
   obtain ⟨w4,s4⟩:=w3.pp [1,2] 3
   exact ih rfl rfl ⟨w4,(s0.trans (s1.trans (s3.trans s4))),(yg.step (s1.trans (s3.trans s4))),(c3.step s4)⟩ hp
  ·exact aD.j9_P rfl rfl ⟨w0,s0,yg,Wt⟩ hp
def aD.p (F:Nat) (ah:ato):Option (List Int):=aD.pl29 F F ah ([]:List Int) 0
theorem aD.P {aB ak aC ah af} (ba:ak=ah.length) (h0:Inn H R0 λR=>ROs (ac eI (ac eI (ac eI (ac eI eI)))) H R ⟨aB,ak,aC⟩ ah) {r:ati} (hp:aD.p F ah=some r):Rt (aD.tw F ⟨aB,ak,aC⟩ af H) (aD.Q H R0 R0  r):=by
 obtain ⟨w0,aO⟩:=h0
 subst ba
 unfold aD.p at hp
 unfold aD.tw aD.twX
 have s0:=w0.rf
 refine aS w0 λH1 w1 s1=>?_
 refine cL eI w1 (n:=0) (l:=([]:List Int)) rfl CR.empty rfl λH2 w2 s2 c2=>?_
 obtain ⟨w3,s3⟩:=w2.pp [1,0] 2
 exact aD.l29_P F rfl (show 0=List.length ([]:List Int) from rfl) ⟨w3,(s0.trans (s1.trans (s2.trans s3))),(aO.step (s1.trans (s2.trans s3))),(c2.step s3)⟩ hp
def bx.Q (H0:Hp) (Ri R0:atf)  (r:Int) (v:AV) (H':Hp):Prop:=v=(.i r)/\Out H0 Ri H' (R0) λR=>True
def bx.S61 (H0:Hp) (Ri R0:atf)  (C:atH) (pC:aum):Prop:=∀ {i_ gv Js Du Jt mb Ju},∀ {H:Hp},Du=mb.length->(Out H0 Ri H (Rs.own ⟨Js,Du,Jt⟩ eI.z Ju::R0) λR=>CR eI H R Ju mb)->∀ {r:Int},pC i_ mb gv=some r->Rt (C i_ ⟨Js,Du,Jt⟩ gv H) (bx.Q H0 Ri R0  r)
def bx.pj2 (F:Nat) (ar:aum) (sG:Int) (yh:ati) (sH:Int):Option (Int):=ar sG yh (wrap .i64 (sH+1))
theorem bx.j2_P  {C61_:atH} {ar:aum} (hC61:bx.S61 H0 Ri R0  C61_ ar) {sG sH Wu Jv Wv yh Ww} (ajV:Jv=yh.length) (h0:Out H0 Ri H (Rs.own ⟨Wu,Jv,Wv⟩ eI.z Ww::R0) λR=>CR eI H R Ww yh) {r:Int} (hp:bx.pj2 F ar sG yh sH=some r):Rt (bx.j2 F (aD.tw F) C61_ sG ⟨Wu,Jv,Wv⟩ sH H) (bx.Q H0 Ri R0  r):=by
 obtain ⟨w0,s0,ajW⟩:=h0
 subst ajV
 unfold bx.pj2 at hp
 unfold bx.j2
 exact hC61 rfl ⟨w0,s0,ajW⟩ hp
def bx.pl61 (F:Nat) :Nat->Int->List Int->Int->Option (Int)
 | 0,_,_,_=>none
 | k+1,i_,mb,gv=>(bif (decide (gv<(mb.length:Int))) then ((ix mb gv).bind λn1=>(bif ((gt mb n1)==gv) then (bx.pj2 F (bx.pl61 F k) (wrap .i64 (i_+1)) mb gv) else (bx.pj2 F (bx.pl61 F k) i_ mb gv))) else (some i_))
theorem bx.l61_P  :∀ k,bx.S61 H0 Ri R0  (bx.l61 F (aD.tw F)  k) (bx.pl61 F  k):=by
 intro k
 induction k with
 | zero=>unfold bx.S61;intros;rename_i hp;cases hp
 | succ k ih=>
  intro i_ gv Js Du Jt mb Ju H ajX h0 r hp
  obtain ⟨w0,s0,Jw⟩:=h0
  subst ajX
  unfold bx.pl61 at hp
  unfold bx.l61
  refine ay hp (λhp=>?_) λhp=>?_
  ·obtain ⟨n1,g1,hp⟩:=ag hp
   obtain ⟨p1,q1,i1,h1,j1⟩:=W.ixo (E:=eI) w0 (i:=0) rfl rfl Jw g1
   refine ai i1 ?_
   have h1:_=[_]:=h1
   subst h1
   refine ai (aG (j1 0 _ rfl)) ?_
   refine ay hp (λhp=>?_) λhp=>?_
   ·exact bx.j2_P (@ih) rfl ⟨w0,s0,Jw⟩ hp
   ·exact bx.j2_P (@ih) rfl ⟨w0,s0,Jw⟩ hp
  ·obtain ⟨w2,s2⟩:=w0.pp [] 1
   exact az hp ⟨rfl,w2,(s0.trans s2),trivial⟩
def bx.p (F:Nat) (ah:ato):Option (Int):=(aD.p F ah).bind λr2=>bx.pl61 F F 0 r2 0
theorem bx.P {aB ak aC ah af} (ba:ak=ah.length) (h0:Inn H R0 λR=>ROs (ac eI (ac eI (ac eI (ac eI eI)))) H R ⟨aB,ak,aC⟩ ah) {r:Int} (hp:bx.p F ah=some r):Rt (bx.tw F ⟨aB,ak,aC⟩ af H) (bx.Q H R0 R0  r):=by
 obtain ⟨w0,aO⟩:=h0
 subst ba
 unfold bx.p at hp
 unfold bx.tw bx.twX
 have s0:=w0.rf
 refine aS w0 λH1 w1 s1=>?_
 refine lSl w1 0 ?_
 refine lI w1 0 ?_
 obtain ⟨r2,e2,hp⟩:=ag hp
 refine aE (aD.P rfl ⟨w1,(aO.step s1)⟩ e2) ?_
 rintro _ H3 ⟨o0a_3,o0n_3,o0c_3,o0k_3,rfl,rfl,w3,s3,f3_0⟩
 refine br ?_
 obtain ⟨w4,s4⟩:=w3.pp [0] 2
 exact bx.l61_P F rfl ⟨w4,(s0.trans (s1.trans (s3.trans s4))),(f3_0.step s4)⟩ hp
def dG.Q (H0:Hp) (Ri R0:atf)  (r:Bool) (v:AV) (H':Hp):Prop:=v=(.bool r)/\Out H0 Ri H' (R0) λR=>True
def dG.p (F:Nat) (ah:ato) (af:Int):Option (Bool):=(bif (decide ((ah.length:Int)>10)) then (some false) else ((cS.p F af 0 8).bind λr3=>(bif (!r3) then (some false) else ((bc.p F ah).bind λr6=>(bif (!r6) then (some false) else ((aP.p F ah).bind λr9=>(bx.p F ah).bind λr12=>some ((r9.length:Int)==(wrap .i64 ((ah.length:Int)+(wrap .i64 (2 * r12)))))))))))
theorem dG.P {aB ak aC ah af} (ba:ak=ah.length) (h0:Inn H R0 λR=>ROs (ac eI (ac eI (ac eI (ac eI eI)))) H R ⟨aB,ak,aC⟩ ah) {r:Bool} (hp:dG.p F ah af=some r):Rt (dG.tw F ⟨aB,ak,aC⟩ af H) (dG.Q H R0 R0  r):=by
 obtain ⟨w0,aO⟩:=h0
 subst ba
 unfold dG.p at hp
 unfold dG.tw dG.twX
 have s0:=w0.rf
 refine aS w0 λH1 w1 s1=>?_
 refine lSl w1 0 ?_
 refine ay hp (λhp=>?_) λhp=>?_
 ·obtain ⟨w2,s2⟩:=w1.pp [] 1
  exact az hp ⟨rfl,w2,(s0.trans (s1.trans s2)),trivial⟩
 ·refine lI w1 0 ?_
  obtain ⟨r3,e3,hp⟩:=ag hp
  refine aE (cS.P ⟨w1,trivial⟩ e3) ?_
  rintro _ H4 ⟨rfl,w4,s4,_⟩
  refine br ?_
  refine ay hp (λhp=>?_) λhp=>?_
  ·obtain ⟨w5,s5⟩:=w4.pp [] 1
   exact az hp ⟨rfl,w5,(s0.trans (s1.trans (s4.trans s5))),trivial⟩
  ·refine lSl w4 0 ?_
   refine lI w4 0 ?_
   obtain ⟨r6,e6,hp⟩:=ag hp
   refine aE (bc.P rfl ⟨w4,(aO.step (s1.trans s4))⟩ e6) ?_
   rintro _ H7 ⟨rfl,w7,s7,_⟩
   refine br ?_
   refine ay hp (λhp=>?_) λhp=>?_
   ·obtain ⟨w8,s8⟩:=w7.pp [] 1
    exact az hp ⟨rfl,w8,(s0.trans (s1.trans (s4.trans (s7.trans s8)))),trivial⟩
   ·refine lSl w7 0 ?_
    refine lI w7 0 ?_
    obtain ⟨r9,e9,hp⟩:=ag hp
    refine aE (aP.P rfl ⟨w7,(aO.step (s1.trans (s4.trans s7)))⟩ e9) ?_
    rintro _ H10 ⟨o0a_10,o0n_10,o0c_10,o0k_10,rfl,rfl,w10,s10,f10_0⟩
    refine br ?_
    refine eL (W.cons_of (Rn:=[_]) w7 w10 s10) ?_
    refine lSl w10 1 ?_
    refine lSl w10 1 ?_
    refine lI w10 1 ?_
    obtain ⟨r12,e12,hp⟩:=ag hp
    refine aE (bx.P rfl ⟨w10,(aO.step (s1.trans (s4.trans (s7.trans s10))))⟩ e12) ?_
    rintro _ H13 ⟨rfl,w13,s13,_⟩
    refine br ?_
    refine eL (W.cons_of (Rn:=[]) w10 w13 s13) ?_
    obtain ⟨w15,s15⟩:=w13.pp [] 2
    exact az hp ⟨rfl,w15,(s0.trans (s1.trans (s4.trans (s7.trans (s10.trans (s13.trans s15)))))),trivial⟩
def aj.Q (H0:Hp) (Ri R0:atf)  (r:atA) (v:AV) (H':Hp):Prop:=∃ o0a:ON,∃ o0n:Nat,∃ o0c:Cap,∃ o0k:List AV,v=(.tup [(.sl ⟨o0a,o0n,o0c⟩),(.i r.2)])/\o0n=(r.1).length/\Out H0 Ri H' (Rs.own ⟨o0a,o0n,o0c⟩ eI.z o0k::R0) λR=>CR eI H' R o0k (r.1)
def aj.S29 (H0:Hp) (Ri R0:atf)  (C:atC) (pC:atS):Prop:=∀ {qu Jx nb de Dv qv Jy gN ng eu qx Jz},∀ {H:Hp},nb=gN.length->Dv=qx.length->(Out H0 Ri H (Rs.blk de [.sl ⟨qu,nb,qv⟩,.i ng]::Rs.own ⟨Jx,Dv,Jy⟩ eI.z Jz::R0) λR=>ROs (ac eI (ac eI (ac eI (ac eI eI)))) H R ⟨qu,nb,qv⟩ gN/\CR eI H R Jz qx)->∀ {r:atA},pC gN ng qx eu=some r->Rt (C de 0 ⟨Jx,Dv,Jy⟩ eu H) (aj.Q H0 Ri R0  r)
def aj.S61 (H0:Hp) (Ri R0:atf)  (C:atC) (pC:atS):Prop:=∀ {JA JB Dw kr Dx JC JD lA vW hK lC JE},∀ {H:Hp},Dw=lA.length->Dx=lC.length->(Out H0 Ri H (Rs.blk kr [.sl ⟨JA,Dw,JC⟩,.i vW]::Rs.own ⟨JB,Dx,JD⟩ eI.z JE::R0) λR=>ROs (ac eI (ac eI (ac eI (ac eI eI)))) H R ⟨JA,Dw,JC⟩ lA/\CR eI H R JE lC)->∀ {r:atA},pC lA vW lC hK=some r->Rt (C kr 0 ⟨JB,Dx,JD⟩ hK H) (aj.Q H0 Ri R0  r)
def aj.S1963 (H0:Hp) (Ri R0:atf)  (C:at7) (pC:aun):Prop:=∀ {JF JG Dy mJ Dz JH JI oI qy ja fI fJ gy jT JJ},∀ {H:Hp},Dy=oI.length->Dz=jT.length->(Out H0 Ri H (Rs.blk mJ [.sl ⟨JF,Dy,JH⟩,.i qy]::Rs.own ⟨JG,Dz,JI⟩ eI.z JJ::R0) λR=>ROs (ac eI (ac eI (ac eI (ac eI eI)))) H R ⟨JF,Dy,JH⟩ oI/\CR eI H R JJ jT)->∀ {r:atA},pC oI qy jT ja fI fJ gy=some r->Rt (C mJ 0 ⟨JG,Dz,JI⟩ ja fI fJ gy H) (aj.Q H0 Ri R0  r)
def aj.pj12 (F:Nat) (DA:aun) (yi:ato) (DB:Int) (yj:ati) (sV:Int) (sW:Int) (sX:Int) (sY:Int):Option (List Int×Int):=DA yi DB yj sV sW sX (wrap .i64 (sY+1))
theorem aj.j12_P  {C1963_:at7} {DA:aun} (hC1963:aj.S1963 H0 Ri R0  C1963_ DA) {Wx Wy JK Ba JL Wz WA yi DB sV sW sX sY yj WB} (ajY:JK=yi.length) (ajZ:JL=yj.length) (h0:Out H0 Ri H (Rs.blk Ba [.sl ⟨Wx,JK,Wz⟩,.i DB]::Rs.own ⟨Wy,JL,WA⟩ eI.z WB::R0) λR=>ROs (ac eI (ac eI (ac eI (ac eI eI)))) H R ⟨Wx,JK,Wz⟩ yi/\CR eI H R WB yj) {r:atA} (hp:aj.pj12 F DA yi DB yj sV sW sX sY=some r):Rt (aj.j12 F  C1963_ Ba 0 ⟨Wy,JL,WA⟩ sV sW sX sY H) (aj.Q H0 Ri R0  r):=by
 obtain ⟨w0,s0,aj0,aj1⟩:=h0
 subst ajY
 subst ajZ
 unfold aj.pj12 at hp
 unfold aj.j12
 exact hC1963 rfl rfl ⟨w0,s0,aj0,aj1⟩ hp
def aj.pj10 (F:Nat) (ar:atS) (yk:ato) (DC:Int) (yl:ati) (sT:Int):Option (List Int×Int):=ar yk DC yl (wrap .i64 (sT+1))
theorem aj.j10_P  {C61_:atC} {ar:atS} (hC61:aj.S61 H0 Ri R0  C61_ ar) {WC WD JM AZ JN WE WG yk DC sT yl WH} (aj2:JM=yk.length) (aj3:JN=yl.length) (h0:Out H0 Ri H (Rs.blk AZ [.sl ⟨WC,JM,WE⟩,.i DC]::Rs.own ⟨WD,JN,WG⟩ eI.z WH::R0) λR=>ROs (ac eI (ac eI (ac eI (ac eI eI)))) H R ⟨WC,JM,WE⟩ yk/\CR eI H R WH yl) {r:atA} (hp:aj.pj10 F ar yk DC yl sT=some r):Rt (aj.j10 F  C61_ AZ 0 ⟨WD,JN,WG⟩ sT H) (aj.Q H0 Ri R0  r):=by
 obtain ⟨w0,s0,aj4,aj5⟩:=h0
 subst aj2
 subst aj3
 unfold aj.pj10 at hp
 unfold aj.j10
 exact hC61 rfl rfl ⟨w0,s0,aj4,aj5⟩ hp
def aj.pj11 (F:Nat) (ar:atS) (ym:ato) (DE:Int) (yn:ati) (sU:Int):Option (List Int×Int):=aj.pj10 F ar ym DE yn sU
theorem aj.j11_P  {C61_:atC} {ar:atS} (hC61:aj.S61 H0 Ri R0  C61_ ar) {WI WJ JO A_ JP WK WL ym DE sU yn WM} (aj6:JO=ym.length) (aj7:JP=yn.length) (h0:Out H0 Ri H (Rs.blk A_ [.sl ⟨WI,JO,WK⟩,.i DE]::Rs.own ⟨WJ,JP,WL⟩ eI.z WM::R0) λR=>ROs (ac eI (ac eI (ac eI (ac eI eI)))) H R ⟨WI,JO,WK⟩ ym/\CR eI H R WM yn) {r:atA} (hp:aj.pj11 F ar ym DE yn sU=some r):Rt (aj.j11 F  C61_ A_ 0 ⟨WJ,JP,WL⟩ sU H) (aj.Q H0 Ri R0  r):=by
 obtain ⟨w0,s0,aj8,aj9⟩:=h0
 subst aj6
 subst aj7
 unfold aj.pj11 at hp
 unfold aj.j11
 exact aj.j10_P (@hC61) rfl rfl ⟨w0,s0,aj8,aj9⟩ hp
def aj.pl1963 (F:Nat) (ar:atS):Nat->List (Int×Int×Int×Int×Int)->Int->List Int->Int->Int->Int->Int->Option (List Int×Int)
 | 0,_,_,_,_,_,_,_=>none
 | k+1,oI,qy,jT,ja,fI,fJ,gy=>(bif (decide (gy<(jT.length:Int))) then ((ix jT gy).bind λn1=>(bif ((gt jT n1)==(if fJ>fI then fJ else fI)) then ((ix jT gy).bind λn2=>(some (jT.set n2 (if fJ<fI then fJ else fI))).bind λl3=>aj.pj12 F (aj.pl1963 F ar k) oI qy l3 ja fI fJ gy) else (aj.pj12 F (aj.pl1963 F ar k) oI qy jT ja fI fJ gy))) else (aj.pj11 F ar oI qy jT ja))
theorem aj.l1963_P  {C61_:atC} {ar:atS} (hC61:aj.S61 H0 Ri R0  C61_ ar):∀ k,aj.S1963 H0 Ri R0  (aj.l1963 F  C61_ k) (aj.pl1963 F ar k):=by
 intro k
 induction k with
 | zero=>unfold aj.S1963;intros;rename_i hp;cases hp
 | succ k ih=>
  intro JF JG Dy mJ Dz JH JI oI qy ja fI fJ gy jT JJ H aj_ aka h0 r hp
  obtain ⟨w0,s0,JQ,yo⟩:=h0
  subst aj_
  subst aka
  unfold aj.pl1963 at hp
  unfold aj.l1963
  refine ay hp (λhp=>?_) λhp=>?_
  ·obtain ⟨n1,g1,hp⟩:=ag hp
   obtain ⟨p1,q1,i1,h1,j1⟩:=W.ixo (E:=eI) w0 (i:=1) rfl rfl yo g1
   refine ai i1 ?_
   have h1:_=[_]:=h1
   subst h1
   refine ai (aG (j1 0 _ rfl)) ?_
   refine ay hp (λhp=>?_) λhp=>?_
   ·obtain ⟨n2,g2,hp⟩:=ag hp
    obtain ⟨p2,q2,i2,h2,j2⟩:=W.ixo (E:=eI) w0 (i:=1) rfl rfl yo g2
    refine ai i2 ?_
    obtain ⟨l3,e3,hp⟩:=ag hp
    refine dD eI w0 (i:=1) (j:=0) (p:=p2) rfl rfl yo g2 i2 e3 rfl rfl (λ_ h=>by have h:_=[_]:=h;subst h;exact rfl) λH4 k4 w4 s4 c4=>?_
    exact aj.j12_P (@ih) rfl ((cA e3).symm) ⟨w4,(s0.trans s4),(JQ.step s4),c4⟩ hp
   ·exact aj.j12_P (@ih) rfl rfl ⟨w0,s0,JQ,yo⟩ hp
  ·exact aj.j11_P (@hC61) rfl rfl ⟨w0,s0,JQ,yo⟩ hp
def aj.S509 (H0:Hp) (Ri R0:atf)  (C:at9) (pC:auo):Prop:=∀ {JR JS JT DF mI DH DI JU JV JW JX qz gw fH jU jV JY JZ},∀ {H:Hp},DF=JX.length->DH=jU.length->DI=jV.length->(Out H0 Ri H (Rs.blk mI [.sl ⟨JR,DF,JU⟩,.i qz]::Rs.own ⟨JS,DH,JV⟩ eI.z JY::Rs.own ⟨JT,DI,JW⟩ eI.z JZ::R0) λR=>ROs (ac eI (ac eI (ac eI (ac eI eI)))) H R ⟨JR,DF,JU⟩ JX/\CR eI H R JY jU/\CR eI H R JZ jV)->∀ {r:atA},pC qz jU jV gw fH=some r->Rt (C mI 0 ⟨JS,DH,JV⟩ ⟨JT,DI,JW⟩ gw fH H) (aj.Q H0 Ri R0  r)
def aj.pj7 (F:Nat) (DJ:auo) (DK:Int) (yp:ati) (yq:ati) (sO:Int) (sQ:Int):Option (List Int×Int):=DJ DK yp yq sO (wrap .i64 (sQ+1))
theorem aj.j7_P  {C509_:at9} {DJ:auo} (hC509:aj.S509 H0 Ri R0  C509_ DJ) {WN WO WP J_ AU Ka Kb WQ WR WS WT DK sO sQ yp yq WU WV} (akb:J_=WT.length) (akc:Ka=yp.length) (akd:Kb=yq.length) (h0:Out H0 Ri H (Rs.blk AU [.sl ⟨WN,J_,WQ⟩,.i DK]::Rs.own ⟨WO,Ka,WR⟩ eI.z WU::Rs.own ⟨WP,Kb,WS⟩ eI.z WV::R0) λR=>ROs (ac eI (ac eI (ac eI (ac eI eI)))) H R ⟨WN,J_,WQ⟩ WT/\CR eI H R WU yp/\CR eI H R WV yq) {r:atA} (hp:aj.pj7 F DJ DK yp yq sO sQ=some r):Rt (aj.j7 F  C509_ AU 0 ⟨WO,Ka,WR⟩ ⟨WP,Kb,WS⟩ sO sQ H) (aj.Q H0 Ri R0  r):=by
 obtain ⟨w0,s0,ake,akf,akg⟩:=h0
 subst akb
 subst akc
 subst akd
 unfold aj.pj7 at hp
 unfold aj.j7
 exact hC509 rfl rfl rfl ⟨w0,s0,ake,akf,akg⟩ hp
def aj.pj6 (F:Nat)  (DL:Int) (yr:ati) (sM:Int):Option (List Int×Int):=some (yr,(wrap .i64 (sM+DL)))
theorem aj.j6_P   {WW WX Kc AT Kd WY WZ W_ DL sM yr Xa} (akh:Kc=W_.length) (aki:Kd=yr.length) (h0:Out H0 Ri H (Rs.blk AT [.sl ⟨WW,Kc,WY⟩,.i DL]::Rs.own ⟨WX,Kd,WZ⟩ eI.z Xa::R0) λR=>ROs (ac eI (ac eI (ac eI (ac eI eI)))) H R ⟨WW,Kc,WY⟩ W_/\CR eI H R Xa yr) {r:atA} (hp:aj.pj6 F  DL yr sM=some r):Rt (aj.j6 F   AT 0 ⟨WX,Kd,WZ⟩ sM H) (aj.Q H0 Ri R0  r):=by
 obtain ⟨w0,s0,asD,akj⟩:=h0
 subst akh
 subst aki
 unfold aj.pj6 at hp
 unfold aj.j6
 refine lI w0 0 ?_
 obtain ⟨w1,s1⟩:=w0.pp [1] 2
 exact az hp ⟨_,_,_,_,rfl,rfl,w1,(s0.trans s1),(akj.step s1)⟩
def aj.pl509 (F:Nat) :Nat->Int->List Int->List Int->Int->Int->Option (List Int×Int)
 | 0,_,_,_,_,_=>none
 | k+1,qz,jU,jV,gw,fH=>(bif (decide (fH<(jU.length:Int))) then ((ix jU fH).bind λn1=>(bif ((gt jU n1)==fH) then ((apn jV ([gw]:List Int)).bind λl3=>aj.pj7 F (aj.pl509 F k) qz jU l3 (wrap .i64 (gw+1)) fH) else ((ix jU fH).bind λn6=>(ix jV (gt jU n6)).bind λn7=>(apn jV ([(gt jV n7)]:List Int)).bind λl9=>aj.pj7 F (aj.pl509 F k) qz jU l9 gw fH))) else (aj.pj6 F qz jV gw))
theorem aj.l509_P  :∀ k,aj.S509 H0 Ri R0  (aj.l509 F   k) (aj.pl509 F  k):=by
 intro k
 induction k with
 | zero=>unfold aj.S509;intros;rename_i hp;cases hp
 | succ k ih=>
  intro JR JS JT DF mI DH DI JU JV JW JX qz gw fH jU jV JY JZ H akk akl akm h0 r hp
  obtain ⟨w0,s0,Ke,DM,DN⟩:=h0
  subst akk
  subst akl
  subst akm
  unfold aj.pl509 at hp
  unfold aj.l509
  refine ay hp (λhp=>?_) λhp=>?_
  ·obtain ⟨n1,g1,hp⟩:=ag hp
   obtain ⟨p1,q1,i1,h1,j1⟩:=W.ixo (E:=eI) w0 (i:=1) rfl rfl DM g1
   refine ai i1 ?_
   have h1:_=[_]:=h1
   subst h1
   refine ai (aG (j1 0 _ rfl)) ?_
   refine ay hp (λhp=>?_) λhp=>?_
   ·refine cL eI w0 (n:=1) (l:=([gw]:List Int)) rfl (CR.cons1 rfl CR.empty) rfl λH2 w2 s2 c2=>?_
    refine ai (w2.rowo (i:=0) rfl) ?_
    obtain ⟨l3,e3,hp⟩:=ag hp
    refine fA eI w2 (i:=3) rfl rfl (DN.step s2) c2 (show 1=List.length ([gw]:List Int) from rfl) rfl e3 λa4 d4 H4 w4 s4 c4 x4=>?_
    obtain ⟨w5,s5⟩:=w4.pp [1,2,3] 4
    exact aj.j7_P (@ih) rfl rfl rfl ⟨w5,(s0.trans (s2.trans (s4.trans s5))),(Ke.step (s2.trans (s4.trans s5))),(DM.step (s2.trans (s4.trans s5))),(c4.step s5)⟩ hp
   ·obtain ⟨n6,g6,hp⟩:=ag hp
    obtain ⟨p6,q6,i6,h6,j6⟩:=W.ixo (E:=eI) w0 (i:=1) rfl rfl DM g6
    refine ai i6 ?_
    have h6:_=[_]:=h6
    subst h6
    refine ai (aG (j6 0 _ rfl)) ?_
    obtain ⟨n7,g7,hp⟩:=ag hp
    obtain ⟨p7,q7,i7,h7,j7⟩:=W.ixo (E:=eI) w0 (i:=2) rfl rfl DN g7
    refine ai i7 ?_
    have h7:_=[_]:=h7
    subst h7
    refine ai (aG (j7 0 _ rfl)) ?_
    refine cL eI w0 (n:=1) (l:=([(gt jV n7)]:List Int)) rfl (CR.cons1 rfl CR.empty) rfl λH8 w8 s8 c8=>?_
    refine ai (w8.rowo (i:=0) rfl) ?_
    obtain ⟨l9,e9,hp⟩:=ag hp
    refine fA eI w8 (i:=3) rfl rfl (DN.step s8) c8 (show 1=List.length ([(gt jV n7)]:List Int) from rfl) rfl e9 λa10 d10 H10 w10 s10 c10 x10=>?_
    obtain ⟨w11,s11⟩:=w10.pp [1,2,3] 4
    exact aj.j7_P (@ih) rfl rfl rfl ⟨w11,(s0.trans (s8.trans (s10.trans s11))),(Ke.step (s8.trans (s10.trans s11))),(DM.step (s8.trans (s10.trans s11))),(c10.step s11)⟩ hp
  ·obtain ⟨w12,s12⟩:=w0.pp [0,2] 3
   exact aj.j6_P rfl rfl ⟨w12,(s0.trans s12),(Ke.step s12),(DN.step s12)⟩ hp
def aj.pj8 (F:Nat)  (DO:Int) (yt:ati):Option (List Int×Int):=aj.pl509 F F DO yt ([]:List Int) 0 0
theorem aj.j8_P   {Xb Xc Kf AY Kg Xd Xe Xf DO yt Xg} (akn:Kf=Xf.length) (ako:Kg=yt.length) (h0:Out H0 Ri H (Rs.blk AY [.sl ⟨Xb,Kf,Xd⟩,.i DO]::Rs.own ⟨Xc,Kg,Xe⟩ eI.z Xg::R0) λR=>ROs (ac eI (ac eI (ac eI (ac eI eI)))) H R ⟨Xb,Kf,Xd⟩ Xf/\CR eI H R Xg yt) {r:atA} (hp:aj.pj8 F  DO yt=some r):Rt (aj.j8 F   AY 0 ⟨Xc,Kg,Xe⟩ H) (aj.Q H0 Ri R0  r):=by
 obtain ⟨w0,s0,akp,akq⟩:=h0
 subst akn
 subst ako
 unfold aj.pj8 at hp
 unfold aj.j8
 refine cL eI w0 (n:=0) (l:=([]:List Int)) rfl CR.empty rfl λH1 w1 s1 c1=>?_
 obtain ⟨w2,s2⟩:=w1.pp [1,2,0] 3
 exact aj.l509_P F rfl rfl (show 0=List.length ([]:List Int) from rfl) ⟨w2,(s0.trans (s1.trans s2)),(akp.step (s1.trans s2)),(akq.step (s1.trans s2)),(c1.step s2)⟩ hp
def aj.pl61 (F:Nat) :Nat->List (Int×Int×Int×Int×Int)->Int->List Int->Int->Option (List Int×Int)
 | 0,_,_,_,_=>none
 | k+1,lA,vW,lC,hK=>(bif (decide (hK<(lA.length:Int))) then ((ix lA hK).bind λn1=>(ix lC ((gt lA n1).2.1)).bind λn2=>(ix lA hK).bind λn3=>(ix lC ((gt lA n3).2.2.2.1)).bind λn4=>aj.pl1963 F (aj.pl61 F k) F lA vW lC hK (gt lC n2) (gt lC n4) 0) else (aj.pj8 F vW lC))
theorem aj.l61_P  :∀ k,aj.S61 H0 Ri R0  (aj.l61 F   k) (aj.pl61 F  k):=by
 intro k
 induction k with
 | zero=>unfold aj.S61;intros;rename_i hp;cases hp
 | succ k ih=>
  intro JA JB Dw kr Dx JC JD lA vW hK lC JE H akr aks h0 r hp
  obtain ⟨w0,s0,DP,DQ⟩:=h0
  subst akr
  subst aks
  unfold aj.pl61 at hp
  unfold aj.l61
  refine lSl w0 0 ?_
  refine ay hp (λhp=>?_) λhp=>?_
  ·refine lSl w0 0 ?_
   obtain ⟨n1,g1,hp⟩:=ag hp
   obtain ⟨p1,q1,i1,h1,j1⟩:=ROs.ixr DP rfl g1
   refine ai i1 ?_
   obtain ⟨_,_,rfl,rfl,_,_,rfl,rfl,_,_,rfl,rfl,_,_,rfl,rfl,rfl⟩:=h1
   refine ai (aG (j1 1 _ rfl)) ?_
   obtain ⟨n2,g2,hp⟩:=ag hp
   obtain ⟨p2,q2,i2,h2,j2⟩:=W.ixo (E:=eI) w0 (i:=1) rfl rfl DQ g2
   refine ai i2 ?_
   have h2:_=[_]:=h2
   subst h2
   refine ai (aG (j2 0 _ rfl)) ?_
   refine lSl w0 0 ?_
   obtain ⟨n3,g3,hp⟩:=ag hp
   obtain ⟨p3,q3,i3,h3,j3⟩:=ROs.ixr DP rfl g3
   refine ai i3 ?_
   obtain ⟨_,_,rfl,rfl,_,_,rfl,rfl,_,_,rfl,rfl,_,_,rfl,rfl,rfl⟩:=h3
   refine ai (aG (j3 3 _ rfl)) ?_
   obtain ⟨n4,g4,hp⟩:=ag hp
   obtain ⟨p4,q4,i4,h4,j4⟩:=W.ixo (E:=eI) w0 (i:=1) rfl rfl DQ g4
   refine ai i4 ?_
   have h4:_=[_]:=h4
   subst h4
   refine ai (aG (j4 0 _ rfl)) ?_
   exact aj.l1963_P (@ih) F rfl rfl ⟨w0,s0,DP,DQ⟩ hp
  ·exact aj.j8_P rfl rfl ⟨w0,s0,DP,DQ⟩ hp
def aj.pj13 (F:Nat)  (yu:ato) (DR:Int) (yv:ati):Option (List Int×Int):=aj.pl61 F F yu DR yv 0
theorem aj.j13_P   {Xh Xi Kh sF Ki Xj Xk yu DR yv Xl} (akt:Kh=yu.length) (aku:Ki=yv.length) (h0:Out H0 Ri H (Rs.blk sF [.sl ⟨Xh,Kh,Xj⟩,.i DR]::Rs.own ⟨Xi,Ki,Xk⟩ eI.z Xl::R0) λR=>ROs (ac eI (ac eI (ac eI (ac eI eI)))) H R ⟨Xh,Kh,Xj⟩ yu/\CR eI H R Xl yv) {r:atA} (hp:aj.pj13 F  yu DR yv=some r):Rt (aj.j13 F   sF 0 ⟨Xi,Ki,Xk⟩ H) (aj.Q H0 Ri R0  r):=by
 obtain ⟨w0,s0,akv,akw⟩:=h0
 subst akt
 subst aku
 unfold aj.pj13 at hp
 unfold aj.j13
 exact aj.l61_P F rfl rfl ⟨w0,s0,akv,akw⟩ hp
def aj.pl29 (F:Nat) :Nat->List (Int×Int×Int×Int×Int)->Int->List Int->Int->Option (List Int×Int)
 | 0,_,_,_,_=>none
 | k+1,gN,ng,qx,eu=>(bif (decide (eu<(wrap .i64 (2 * (gN.length:Int))))) then ((apn qx ([eu]:List Int)).bind λl2=>aj.pl29 F k gN ng l2 (wrap .i64 (eu+1))) else (aj.pj13 F gN ng qx))
theorem aj.l29_P  :∀ k,aj.S29 H0 Ri R0  (aj.l29 F   k) (aj.pl29 F  k):=by
 intro k
 induction k with
 | zero=>unfold aj.S29;intros;rename_i hp;cases hp
 | succ k ih=>
  intro qu Jx nb de Dv qv Jy gN ng eu qx Jz H Jr akx h0 r hp
  obtain ⟨w0,s0,yg,Xm⟩:=h0
  subst Jr
  subst akx
  unfold aj.pl29 at hp
  unfold aj.l29
  refine lSl w0 0 ?_
  refine ay hp (λhp=>?_) λhp=>?_
  ·refine cL eI w0 (n:=1) (l:=([eu]:List Int)) rfl (CR.cons1 rfl CR.empty) rfl λH1 w1 s1 c1=>?_
   refine ai (w1.rowo (i:=0) rfl) ?_
   obtain ⟨l2,e2,hp⟩:=ag hp
   refine fA eI w1 (i:=2) rfl rfl (Xm.step s1) c1 (show 1=List.length ([eu]:List Int) from rfl) rfl e2 λa3 d3 H3 w3 s3 c3 x3=>?_
   obtain ⟨w4,s4⟩:=w3.pp [1,2] 3
   exact ih rfl rfl ⟨w4,(s0.trans (s1.trans (s3.trans s4))),(yg.step (s1.trans (s3.trans s4))),(c3.step s4)⟩ hp
  ·exact aj.j13_P rfl rfl ⟨w0,s0,yg,Xm⟩ hp
def aj.p (F:Nat) (ah:ato) (af:Int):Option (List Int×Int):=aj.pl29 F F ah af ([]:List Int) 0
theorem aj.P {aB ak aC ah af} (ba:ak=ah.length) (h0:Inn H R0 λR=>ROs (ac eI (ac eI (ac eI (ac eI eI)))) H R ⟨aB,ak,aC⟩ ah) {r:atA} (hp:aj.p F ah af=some r):Rt (aj.tw F ⟨aB,ak,aC⟩ af H) (aj.Q H R0 R0  r):=by
 obtain ⟨w0,aO⟩:=h0
 subst ba
 unfold aj.p at hp
 unfold aj.tw aj.twX
 have s0:=w0.rf
 refine aS w0 λH1 w1 s1=>?_
 refine cL eI w1 (n:=0) (l:=([]:List Int)) rfl CR.empty rfl λH2 w2 s2 c2=>?_
 obtain ⟨w3,s3⟩:=w2.pp [1,0] 2
 exact aj.l29_P F rfl (show 0=List.length ([]:List Int) from rfl) ⟨w3,(s0.trans (s1.trans (s2.trans s3))),(aO.step (s1.trans (s2.trans s3))),(c2.step s3)⟩ hp
def bi.Q (H0:Hp) (Ri R0:atf)  (r:ats) (v:AV) (H':Hp):Prop:=∃ o0a:ON,∃ o0n:Nat,∃ o0c:Cap,∃ o0k:List AV,v=(.sl ⟨o0a,o0n,o0c⟩)/\o0n=(r).length/\Out H0 Ri H' (Rs.own ⟨o0a,o0n,o0c⟩ (eSl eI).z o0k::R0) λR=>CR (eSl eI) H' R o0k (r)
def bi.S61 (H0:Hp) (Ri R0:atf)  (C:atF) (pC:aup):Prop:=∀ {Kj qA Kk DS lO ni DT Kl qB Km jG Xn hO dl qC Ko cK},∀ {H:Hp},DS=jG.length->ni=dl.length->DT=cK.length->(Out H0 Ri H (Rs.blk lO [.sl ⟨Kj,DS,Kl⟩,.i Xn]::Rs.own ⟨qA,ni,qB⟩ (eSl eI).z qC::Rs.own ⟨Kk,DT,Km⟩ eI.z Ko::R0) λR=>ROs (ac eI (ac eI (ac eI (ac eI eI)))) H R ⟨Kj,DS,Kl⟩ jG/\CR (eSl eI) H R qC dl/\CR eI H R Ko cK)->∀ {r:ats},pC jG dl cK hO=some r->Rt (C lO 0 ⟨qA,ni,qB⟩ ⟨Kk,DT,Km⟩ hO H) (bi.Q H0 Ri R0  r)
def bi.pj2 (F:Nat) (ar:aup) (lw:ato) (lx:ats) (ly:ati) (gz:Int):Option (List (List Int)):=ar lw lx ly (wrap .i64 (gz+1))
theorem bi.j2_P  {C61_:atF} {ar:aup} (hC61:bi.S61 H0 Ri R0  C61_ ar) {xK xL xM qn fq qo qp xN xO xP lw It gz lx xQ xR ly} (Iu:qn=lw.length) (Iv:qo=lx.length) (Iw:qp=ly.length) (h0:Out H0 Ri H (Rs.blk fq [.sl ⟨xK,qn,xN⟩,.i It]::Rs.own ⟨xL,qo,xO⟩ (eSl eI).z xQ::Rs.own ⟨xM,qp,xP⟩ eI.z xR::R0) λR=>ROs (ac eI (ac eI (ac eI (ac eI eI)))) H R ⟨xK,qn,xN⟩ lw/\CR (eSl eI) H R xQ lx/\CR eI H R xR ly) {r:ats} (hp:bi.pj2 F ar lw lx ly gz=some r):Rt (bi.j2 F (aj.tw F) C61_ fq 0 ⟨xL,qo,xO⟩ ⟨xM,qp,xP⟩ gz H) (bi.Q H0 Ri R0  r):=by
 obtain ⟨w0,s0,Ix,Iy,Iz⟩:=h0
 subst Iu
 subst Iv
 subst Iw
 unfold bi.pj2 at hp
 unfold bi.j2
 exact hC61 rfl rfl rfl ⟨w0,s0,Ix,Iy,Iz⟩ hp
def bi.pl61 (F:Nat) :Nat->List (Int×Int×Int×Int×Int)->List (List Int)->List Int->Int->Option (List (List Int))
 | 0,_,_,_,_=>none
 | k+1,jG,dl,cK,hO=>(bif (decide (hO<(jG.length:Int))) then ((ix jG hO).bind λn1=>(ix cK ((gt jG n1).1)).bind λn8=>(ix cK ((gt jG n1).2.2.1)).bind λn9=>(ix cK ((gt jG n1).2.1)).bind λn10=>(bif (((gt jG n1).2.2.2.2)==1) then ((apn dl ([([(wrap .i64 ((gt cK n9)+1)),(wrap .i64 ((gt cK n10)+1)),(wrap .i64 (0 - (wrap .i64 ((gt cK n8)+1)))),(wrap .i64 (0 - (wrap .i64 ((gt cK n10)+1))))]:List Int)]:List (List Int))).bind λl14=>bi.pj2 F (bi.pl61 F k) jG l14 cK hO) else ((apn dl ([([(wrap .i64 ((gt cK n9)+1)),(wrap .i64 (0 - (wrap .i64 ((gt cK n10)+1)))),(wrap .i64 (0 - (wrap .i64 ((gt cK n8)+1)))),(wrap .i64 ((gt cK n10)+1))]:List Int)]:List (List Int))).bind λl20=>bi.pj2 F (bi.pl61 F k) jG l20 cK hO))) else (some dl))
theorem bi.l61_P  :∀ k,bi.S61 H0 Ri R0  (bi.l61 F (aj.tw F)  k) (bi.pl61 F  k):=by
 intro k
 induction k with
 | zero=>unfold bi.S61;intros;rename_i hp;cases hp
 | succ k ih=>
  intro Kj qA Kk DS lO ni DT Kl qB Km jG Xn hO dl qC Ko cK H aky Kp akz h0 r hp
  obtain ⟨w0,s0,Kq,oJ,yw⟩:=h0
  subst aky
  subst Kp
  subst akz
  unfold bi.pl61 at hp
  unfold bi.l61
  refine lSl w0 0 ?_
  refine ay hp (λhp=>?_) λhp=>?_
  ·refine lSl w0 0 ?_
   obtain ⟨n1,g1,hp⟩:=ag hp
   obtain ⟨p1,q1,i1,h1,j1⟩:=ROs.ixr Kq rfl g1
   refine ai i1 ?_
   obtain ⟨_,_,rfl,rfl,_,_,rfl,rfl,_,_,rfl,rfl,_,_,rfl,rfl,rfl⟩:=h1
   refine ai (aG (j1 0 _ rfl)) ?_
   refine ai (aG (j1 1 _ rfl)) ?_
   refine ai (aG (j1 2 _ rfl)) ?_
   refine ai (aG (j1 3 _ rfl)) ?_
   refine ai (aG (j1 4 _ rfl)) ?_
   refine aS w0 λH2 w2 s2=>?_
   refine aq w2 0 λH3 w3 s3=>?_
   refine aq w3 0 λH4 w4 s4=>?_
   refine aq w4 0 λH5 w5 s5=>?_
   refine aq w5 0 λH6 w6 s6=>?_
   refine aq w6 0 λH7 w7 s7=>?_
   refine lI w7 0 ?_
   obtain ⟨n8,g8,hp⟩:=ag hp
   obtain ⟨p8,q8,i8,h8,j8⟩:=W.ixo (E:=eI) w7 (i:=3) rfl rfl (yw.step (s2.trans (s3.trans (s4.trans (s5.trans (s6.trans s7)))))) g8
   refine ai i8 ?_
   have h8:_=[_]:=h8
   subst h8
   refine ai (aG (j8 0 _ rfl)) ?_
   refine lI w7 0 ?_
   obtain ⟨n9,g9,hp⟩:=ag hp
   obtain ⟨p9,q9,i9,h9,j9⟩:=W.ixo (E:=eI) w7 (i:=3) rfl rfl (yw.step (s2.trans (s3.trans (s4.trans (s5.trans (s6.trans s7)))))) g9
   refine ai i9 ?_
   have h9:_=[_]:=h9
   subst h9
   refine ai (aG (j9 0 _ rfl)) ?_
   refine lI w7 0 ?_
   obtain ⟨n10,g10,hp⟩:=ag hp
   obtain ⟨p10,q10,i10,h10,j10⟩:=W.ixo (E:=eI) w7 (i:=3) rfl rfl (yw.step (s2.trans (s3.trans (s4.trans (s5.trans (s6.trans s7)))))) g10
   refine ai i10 ?_
   have h10:_=[_]:=h10
   subst h10
   refine ai (aG (j10 0 _ rfl)) ?_
   refine lI w7 0 ?_
   refine ay hp (λhp=>?_) λhp=>?_
   ·refine cL eI w7 (n:=4) (l:=([(wrap .i64 ((gt cK n9)+1)),(wrap .i64 ((gt cK n10)+1)),(wrap .i64 (0 - (wrap .i64 ((gt cK n8)+1)))),(wrap .i64 (0 - (wrap .i64 ((gt cK n10)+1))))]:List Int)) rfl (CR.cons1 rfl (CR.cons1 rfl (CR.cons1 rfl (CR.cons1 rfl CR.empty)))) rfl λH11 w11 s11 c11=>?_
    obtain ⟨w12,s12,f12⟩:=w11.frz (i:=0) eI rfl c11
    refine cL (eSl eI) w12 (n:=1) (l:=([([(wrap .i64 ((gt cK n9)+1)),(wrap .i64 ((gt cK n10)+1)),(wrap .i64 (0 - (wrap .i64 ((gt cK n8)+1)))),(wrap .i64 (0 - (wrap .i64 ((gt cK n10)+1))))]:List Int)]:List (List Int))) rfl (CR.cons1 ⟨_,rfl,f12⟩ CR.empty) rfl λH13 w13 s13 c13=>?_
    refine ai (w13.rowo (i:=0) rfl) ?_
    obtain ⟨l14,e14,hp⟩:=ag hp
    refine fA (eSl eI) w13 (i:=3) rfl rfl (oJ.step (s2.trans (s3.trans (s4.trans (s5.trans (s6.trans (s7.trans (s11.trans (s12.trans s13))))))))) c13 (show 1=List.length ([([(wrap .i64 ((gt cK n9)+1)),(wrap .i64 ((gt cK n10)+1)),(wrap .i64 (0 - (wrap .i64 ((gt cK n8)+1)))),(wrap .i64 (0 - (wrap .i64 ((gt cK n10)+1))))]:List Int)]:List (List Int)) from rfl) rfl e14 λa15 d15 H15 w15 s15 c15 x15=>?_
    obtain ⟨w16,s16⟩:=w15.pp [2,3,4] 5
    exact bi.j2_P (@ih) rfl rfl rfl ⟨w16,(s0.trans (s2.trans (s3.trans (s4.trans (s5.trans (s6.trans (s7.trans (s11.trans (s12.trans (s13.trans (s15.trans s16))))))))))),(Kq.step (s2.trans (s3.trans (s4.trans (s5.trans (s6.trans (s7.trans (s11.trans (s12.trans (s13.trans (s15.trans s16))))))))))),(c15.step s16),(yw.step (s2.trans (s3.trans (s4.trans (s5.trans (s6.trans (s7.trans (s11.trans (s12.trans (s13.trans (s15.trans s16)))))))))))⟩ hp
   ·refine cL eI w7 (n:=4) (l:=([(wrap .i64 ((gt cK n9)+1)),(wrap .i64 (0 - (wrap .i64 ((gt cK n10)+1)))),(wrap .i64 (0 - (wrap .i64 ((gt cK n8)+1)))),(wrap .i64 ((gt cK n10)+1))]:List Int)) rfl (CR.cons1 rfl (CR.cons1 rfl (CR.cons1 rfl (CR.cons1 rfl CR.empty)))) rfl λH17 w17 s17 c17=>?_
    obtain ⟨w18,s18,f18⟩:=w17.frz (i:=0) eI rfl c17
    refine cL (eSl eI) w18 (n:=1) (l:=([([(wrap .i64 ((gt cK n9)+1)),(wrap .i64 (0 - (wrap .i64 ((gt cK n10)+1)))),(wrap .i64 (0 - (wrap .i64 ((gt cK n8)+1)))),(wrap .i64 ((gt cK n10)+1))]:List Int)]:List (List Int))) rfl (CR.cons1 ⟨_,rfl,f18⟩ CR.empty) rfl λH19 w19 s19 c19=>?_
    refine ai (w19.rowo (i:=0) rfl) ?_
    obtain ⟨l20,e20,hp⟩:=ag hp
    refine fA (eSl eI) w19 (i:=3) rfl rfl (oJ.step (s2.trans (s3.trans (s4.trans (s5.trans (s6.trans (s7.trans (s17.trans (s18.trans s19))))))))) c19 (show 1=List.length ([([(wrap .i64 ((gt cK n9)+1)),(wrap .i64 (0 - (wrap .i64 ((gt cK n10)+1)))),(wrap .i64 (0 - (wrap .i64 ((gt cK n8)+1)))),(wrap .i64 ((gt cK n10)+1))]:List Int)]:List (List Int)) from rfl) rfl e20 λa21 d21 H21 w21 s21 c21 x21=>?_
    obtain ⟨w22,s22⟩:=w21.pp [2,3,4] 5
    exact bi.j2_P (@ih) rfl rfl rfl ⟨w22,(s0.trans (s2.trans (s3.trans (s4.trans (s5.trans (s6.trans (s7.trans (s17.trans (s18.trans (s19.trans (s21.trans s22))))))))))),(Kq.step (s2.trans (s3.trans (s4.trans (s5.trans (s6.trans (s7.trans (s17.trans (s18.trans (s19.trans (s21.trans s22))))))))))),(c21.step s22),(yw.step (s2.trans (s3.trans (s4.trans (s5.trans (s6.trans (s7.trans (s17.trans (s18.trans (s19.trans (s21.trans s22)))))))))))⟩ hp
  ·obtain ⟨w23,s23⟩:=w0.pp [1] 3
   exact az hp ⟨_,_,_,_,rfl,rfl,w23,(s0.trans s23),(oJ.step s23)⟩
def bi.p (F:Nat) (ah:ato) (af:Int):Option (List (List Int)):=(aj.p F ah af).bind λr3=>bi.pl61 F F ah ([]:List (List Int)) r3.1 0
theorem bi.P {aB ak aC ah af} (ba:ak=ah.length) (h0:Inn H R0 λR=>ROs (ac eI (ac eI (ac eI (ac eI eI)))) H R ⟨aB,ak,aC⟩ ah) {r:ats} (hp:bi.p F ah af=some r):Rt (bi.tw F ⟨aB,ak,aC⟩ af H) (bi.Q H R0 R0  r):=by
 obtain ⟨w0,aO⟩:=h0
 subst ba
 unfold bi.p at hp
 unfold bi.tw bi.twX
 have s0:=w0.rf
 refine aS w0 λH1 w1 s1=>?_
 refine cL (eSl eI) w1 (n:=0) (l:=([]:List (List Int))) rfl CR.empty rfl λH2 w2 s2 c2=>?_
 refine lSl w2 1 ?_
 refine lI w2 1 ?_
 obtain ⟨r3,e3,hp⟩:=ag hp
 refine aE (aj.P rfl ⟨w2,(aO.step (s1.trans s2))⟩ e3) ?_
 rintro _ H4 ⟨o0a_4,o0n_4,o0c_4,o0k_4,rfl,rfl,w4,s4,f4_0⟩
 refine br (br (br (br (br ?_))))
 obtain ⟨w5,s5⟩:=w4.pp [2,1,0] 3
 exact bi.l61_P F rfl (show 0=List.length ([]:List (List Int)) from rfl) rfl ⟨w5,(s0.trans (s1.trans (s2.trans (s4.trans s5)))),(aO.step (s1.trans (s2.trans (s4.trans s5)))),(c2.step (s4.trans s5)),(f4_0.step s5)⟩ hp
def aR.Q (H0:Hp) (Ri R0:atf)  (r:atl) (v:AV) (H':Hp):Prop:=∃ o1a:ON,∃ o1n:Nat,∃ o1c:Cap,∃ o1k:List AV,v=(.agg [(.i r.1),(.sl ⟨o1a,o1n,o1c⟩)])/\o1n=(r.2).length/\Out H0 Ri H' (Rs.own ⟨o1a,o1n,o1c⟩ eI.z o1k::R0) λR=>CR eI H' R o1k (r.2)
def aR.S14 (H0:Hp) (Ri R0:atf)  (C:auy) (pC:auq):Prop:=∀ {jc Xo gB hP Ks Kt DU DV eA Ku Kv mc Kw Ky},∀ {H:Hp},DU=mc.length->DV=Kw.length->(Out H0 Ri H (Rs.own ⟨Kt,DV,Kv⟩ eI.z Ky::Rs.blk eA [.i Xo,.sl ⟨Kt,DV,Kv⟩]::R0) λR=>ROs eI H R ⟨Ks,DU,Ku⟩ mc/\CR eI H R Ky Kw)->∀ {r:atl},pC jc mc gB hP=some r->Rt (C jc ⟨Ks,DU,Ku⟩ eA 0 gB hP H) (aR.Q H0 Ri R0  r)
def aR.S30 (H0:Hp) (Ri R0:atf)  (C:auy) (pC:auq):Prop:=∀ {jb Xp fi gA Kz KA DW DX mK KB KC md KD KE},∀ {H:Hp},DW=md.length->DX=KD.length->(Out H0 Ri H (Rs.own ⟨KA,DX,KC⟩ eI.z KE::Rs.blk mK [.i Xp,.sl ⟨KA,DX,KC⟩]::R0) λR=>ROs eI H R ⟨Kz,DW,KB⟩ md/\CR eI H R KE KD)->∀ {r:atl},pC jb md fi gA=some r->Rt (C jb ⟨Kz,DW,KB⟩ mK 0 fi gA H) (aR.Q H0 Ri R0  r)
def aR.pj1 (F:Nat)  (ta:Int) (yx:ati) (lP:Int) (nJ:Int):Option (Int×List Int):=(bif (lP==nJ) then (some (0,([]:List Int))) else ((cutf yx lP nJ).bind λl6=>(apn ([]:List Int) l6).bind λl8=>some ((wrap .i64 (ta+lP)),l8)))
theorem aR.j1_P   {ta akA lP nJ Xq Xr KF KG kt Xs Xt yx Xu Xv} (akB:KF=yx.length) (akC:KG=Xu.length) (h0:Out H0 Ri H (Rs.own ⟨Xr,KG,Xt⟩ eI.z Xv::Rs.blk kt [.i akA,.sl ⟨Xr,KG,Xt⟩]::R0) λR=>ROs eI H R ⟨Xq,KF,Xs⟩ yx/\CR eI H R Xv Xu) {r:atl} (hp:aR.pj1 F  ta yx lP nJ=some r):Rt (aR.j1 F   ta ⟨Xq,KF,Xs⟩ kt 0 lP nJ H) (aR.Q H0 Ri R0  r):=by
 obtain ⟨w0,s0,akD,asE⟩:=h0
 subst akB
 subst akC
 unfold aR.pj1 at hp
 unfold aR.j1
 refine ay hp (λhp=>?_) λhp=>?_
 ·refine aq w0 1 λH1 w1 s1=>?_
  refine aq w1 1 λH2 w2 s2=>?_
  refine lI w2 1 ?_
  refine lSl w2 1 ?_
  obtain ⟨w3,s3⟩:=w2.nilS eI.z (by decide)
  obtain ⟨w4,s4⟩:=w3.pp [0] 3
  exact az hp ⟨_,_,_,_,rfl,rfl,w4,(s0.trans (s1.trans (s2.trans (s3.trans s4)))),((CR.empty:CR eI _ _ [] []).step s4)⟩
 ·refine cL eI w0 (n:=0) (l:=([]:List Int)) rfl CR.empty rfl λH5 w5 s5 c5=>?_
  obtain ⟨l6,e6,hp⟩:=ag hp
  obtain ⟨a6,d6,h6,f6⟩:=ROs.cutf (akD.step s5) rfl e6
  refine ai h6 ?_
  obtain ⟨x7,h7,c7⟩:=f6.row rfl
  refine ai h7 ?_
  obtain ⟨l8,e8,hp⟩:=ag hp
  refine fA eI w5 (i:=0) rfl rfl c5 c7 rfl rfl e8 λa9 d9 H9 w9 s9 c9 x9=>?_
  refine aq w9 2 λH10 w10 s10=>?_
  refine aq w10 2 λH11 w11 s11=>?_
  refine lI w11 2 ?_
  refine lSl w11 2 ?_
  obtain ⟨w12,s12⟩:=w11.pp [0] 3
  exact az hp ⟨_,_,_,_,rfl,rfl,w12,(s0.trans (s5.trans (s9.trans (s10.trans (s11.trans s12))))),(c9.step (s10.trans (s11.trans s12)))⟩
def aR.pl30 (F:Nat) :Nat->Int->List Int->Int->Int->Option (Int×List Int)
 | 0,_,_,_,_=>none
 | k+1,jb,md,fi,gA=>(bif (decide (fi<gA)) then ((ix md (wrap .i64 (gA - 1))).bind λn1=>(bif ((gt md n1)==0) then (aR.pl30 F k jb md fi (wrap .i64 (gA - 1))) else (aR.pj1 F jb md fi gA))) else (aR.pj1 F jb md fi gA))
theorem aR.l30_P  :∀ k,aR.S30 H0 Ri R0  (aR.l30 F   k) (aR.pl30 F  k):=by
 intro k
 induction k with
 | zero=>unfold aR.S30;intros;rename_i hp;cases hp
 | succ k ih=>
  intro jb Xp fi gA Kz KA DW DX mK KB KC md KD KE H akE akF h0 r hp
  obtain ⟨w0,s0,DY,KH⟩:=h0
  subst akE
  subst akF
  unfold aR.pl30 at hp
  unfold aR.l30
  refine ay hp (λhp=>?_) λhp=>?_
  ·obtain ⟨n1,g1,hp⟩:=ag hp
   obtain ⟨p1,q1,i1,h1,j1⟩:=ROs.ixr DY rfl g1
   refine ai i1 ?_
   have h1:_=[_]:=h1
   subst h1
   refine ai (aG (j1 0 _ rfl)) ?_
   refine ay hp (λhp=>?_) λhp=>?_
   ·exact ih rfl rfl ⟨w0,s0,DY,KH⟩ hp
   ·exact aR.j1_P rfl rfl ⟨w0,s0,DY,KH⟩ hp
  ·exact aR.j1_P rfl rfl ⟨w0,s0,DY,KH⟩ hp
def aR.pj2 (F:Nat)  (td:Int) (yy:ati) (te:Int) (tf:Int):Option (Int×List Int):=aR.pl30 F F td yy te tf
theorem aR.j2_P   {td akG te tf Xw Xx KI KJ Bb Xy Xz yy XA XB} (akH:KI=yy.length) (akI:KJ=XA.length) (h0:Out H0 Ri H (Rs.own ⟨Xx,KJ,Xz⟩ eI.z XB::Rs.blk Bb [.i akG,.sl ⟨Xx,KJ,Xz⟩]::R0) λR=>ROs eI H R ⟨Xw,KI,Xy⟩ yy/\CR eI H R XB XA) {r:atl} (hp:aR.pj2 F  td yy te tf=some r):Rt (aR.j2 F   td ⟨Xw,KI,Xy⟩ Bb 0 te tf H) (aR.Q H0 Ri R0  r):=by
 obtain ⟨w0,s0,akJ,akK⟩:=h0
 subst akH
 subst akI
 unfold aR.pj2 at hp
 unfold aR.j2
 exact aR.l30_P F rfl rfl ⟨w0,s0,akJ,akK⟩ hp
def aR.pl14 (F:Nat) :Nat->Int->List Int->Int->Int->Option (Int×List Int)
 | 0,_,_,_,_=>none
 | k+1,jc,mc,gB,hP=>(bif (decide (gB<hP)) then ((ix mc gB).bind λn1=>(bif ((gt mc n1)==0) then (aR.pl14 F k jc mc (wrap .i64 (gB+1)) hP) else (aR.pj2 F jc mc gB hP))) else (aR.pj2 F jc mc gB hP))
theorem aR.l14_P  :∀ k,aR.S14 H0 Ri R0  (aR.l14 F   k) (aR.pl14 F  k):=by
 intro k
 induction k with
 | zero=>unfold aR.S14;intros;rename_i hp;cases hp
 | succ k ih=>
  intro jc Xo gB hP Ks Kt DU DV eA Ku Kv mc Kw Ky H akL akM h0 r hp
  obtain ⟨w0,s0,DZ,KK⟩:=h0
  subst akL
  subst akM
  unfold aR.pl14 at hp
  unfold aR.l14
  refine ay hp (λhp=>?_) λhp=>?_
  ·obtain ⟨n1,g1,hp⟩:=ag hp
   obtain ⟨p1,q1,i1,h1,j1⟩:=ROs.ixr DZ rfl g1
   refine ai i1 ?_
   have h1:_=[_]:=h1
   subst h1
   refine ai (aG (j1 0 _ rfl)) ?_
   refine ay hp (λhp=>?_) λhp=>?_
   ·exact ih rfl rfl ⟨w0,s0,DZ,KK⟩ hp
   ·exact aR.j2_P rfl rfl ⟨w0,s0,DZ,KK⟩ hp
  ·exact aR.j2_P rfl rfl ⟨w0,s0,DZ,KK⟩ hp
def aR.p (F:Nat) (aa:Int) (jH:ati):Option (Int×List Int):=aR.pl14 F F aa jH 0 (jH.length:Int)
theorem aR.P {aa yz qD yA jH} (KL:qD=jH.length) (h0:Inn H R0 λR=>ROs eI H R ⟨yz,qD,yA⟩ jH) {r:atl} (hp:aR.p F aa jH=some r):Rt (aR.tw F aa ⟨yz,qD,yA⟩ H) (aR.Q H R0 R0  r):=by
 obtain ⟨w0,KM⟩:=h0
 subst KL
 unfold aR.p at hp
 unfold aR.tw aR.twX
 have s0:=w0.rf
 refine aS w0 λH1 w1 s1=>?_
 obtain ⟨w2,s2⟩:=w1.nilS eI.z (by decide)
 exact aR.l14_P F rfl rfl ⟨w2,(s0.trans (s1.trans s2)),(KM.step (s1.trans s2)),(CR.empty:CR eI _ _ [] [])⟩ hp
def aI.Q (H0:Hp) (Ri R0:atf)  (r:atl) (v:AV) (H':Hp):Prop:=∃ o1a:ON,∃ o1n:Nat,∃ o1c:Cap,∃ o1k:List AV,v=(.agg [(.i r.1),(.sl ⟨o1a,o1n,o1c⟩)])/\o1n=(r.2).length/\Out H0 Ri H' (Rs.own ⟨o1a,o1n,o1c⟩ eI.z o1k::R0) λR=>CR eI H' R o1k (r.2)
def aI.S509 (H0:Hp) (Ri R0:atf)  (C:Nat->Nat->Nat->Nat->Nat->Nat->Int->Sl->Int->Hp->OA) (pC:Int->List Int->Int->List Int->Int->List Int->Int->Option (Int×List Int)):Prop:=∀ {qE vX XC hU gC KN KO KP KQ D_ lR Ea nM Eb nN Ec KR KS KT KU nj qF KV mf KW KX},∀ {H:Hp},D_=nj.length->Ea=qF.length->Eb=KV.length->Ec=mf.length->(Out H0 Ri H (Rs.blk lR [.i qE,.sl ⟨KN,D_,KR⟩]::Rs.blk nM [.i vX,.sl ⟨KO,Ea,KS⟩]::Rs.own ⟨KP,Eb,KT⟩ eI.z KW::Rs.blk nN [.i XC,.sl ⟨KP,Eb,KT⟩]::Rs.own ⟨KQ,Ec,KU⟩ eI.z KX::R0) λR=>ROs eI H R ⟨KN,D_,KR⟩ nj/\ROs eI H R ⟨KO,Ea,KS⟩ qF/\CR eI H R KW KV/\CR eI H R KX mf)->∀ {r:atl},pC qE nj vX qF hU mf gC=some r->Rt (C lR 0 nM 0 nN 0 hU ⟨KQ,Ec,KU⟩ gC H) (aI.Q H0 Ri R0  r)
def aI.S1021 (H0:Hp) (Ri R0:atf)  (C:Nat->Nat->Nat->Nat->Int->Sl->Int->Hp->OA) (pC:Int->List Int->Int->List Int->Int->Option (Int×List Int)):Prop:=∀ {qG XD hQ c_ KY KZ K_ Ed lQ Ee nL Ef La Lb Lc nk Ld mg Le Lf},∀ {H:Hp},Ed=nk.length->Ee=Ld.length->Ef=mg.length->(Out H0 Ri H (Rs.blk lQ [.i qG,.sl ⟨KY,Ed,La⟩]::Rs.own ⟨KZ,Ee,Lb⟩ eI.z Le::Rs.blk nL [.i XD,.sl ⟨KZ,Ee,Lb⟩]::Rs.own ⟨K_,Ef,Lc⟩ eI.z Lf::R0) λR=>ROs eI H R ⟨KY,Ed,La⟩ nk/\CR eI H R Le Ld/\CR eI H R Lf mg)->∀ {r:atl},pC qG nk hQ mg c_=some r->Rt (C lQ 0 nL 0 hQ ⟨K_,Ef,Lc⟩ c_ H) (aI.Q H0 Ri R0  r)
def aI.pj1 (F:Nat)  (jd:Int) (yB:ati):Option (Int×List Int):=(aR.p F jd yB).bind λr3=>some (r3.1,r3.2)
theorem aI.j1_P   {akN jd XE XF Lg pF Lh XG XH XI yB XJ XK} (akO:Lg=XI.length) (akP:Lh=yB.length) (h0:Out H0 Ri H (Rs.own ⟨XE,Lg,XG⟩ eI.z XJ::Rs.blk pF [.i akN,.sl ⟨XE,Lg,XG⟩]::Rs.own ⟨XF,Lh,XH⟩ eI.z XK::R0) λR=>CR eI H R XJ XI/\CR eI H R XK yB) {r:atl} (hp:aI.pj1 F  jd yB=some r):Rt (aI.j1 F (aR.tw F)  pF 0 jd ⟨XF,Lh,XH⟩ H) (aI.Q H0 Ri R0  r):=by
 obtain ⟨w0,s0,asF,akQ⟩:=h0
 subst akO
 subst akP
 unfold aI.pj1 at hp
 unfold aI.j1
 obtain ⟨w1,s1⟩:=w0.pp [2,0,1] 3
 have f2:=W.borrow1 eI w1 (akQ.step s1)
 obtain ⟨w2,s2⟩:=w1.right1
 obtain ⟨r3,e3,hp⟩:=ag hp
 refine aE (aR.P rfl ⟨w2,f2⟩ e3) ?_
 rintro _ H4 ⟨o1a_4,o1n_4,o1c_4,o1k_4,rfl,rfl,w4,s4,f4_0⟩
 obtain ⟨w5,s5⟩:=W.frame1 w1 w4 s4
 refine br (br (br (br (br ?_))))
 refine aq w5 3 λH6 w6 s6=>?_
 refine aq w6 3 λH7 w7 s7=>?_
 refine lI w7 3 ?_
 refine lSl w7 3 ?_
 obtain ⟨w8,s8⟩:=w7.pp [1] 4
 exact az hp ⟨_,_,_,_,rfl,rfl,w8,(s0.trans (s1.trans (s5.trans (s6.trans (s7.trans s8))))),((CR.flat (fB .i64) f4_0).step (s6.trans (s7.trans s8)))⟩
def aI.pl1021 (F:Nat) :Nat->Int->List Int->Int->List Int->Int->Option (Int×List Int)
 | 0,_,_,_,_,_=>none
 | k+1,qG,nk,hQ,mg,c_=>(bif (decide (c_<(nk.length:Int))) then ((ix mg (wrap .i64 ((wrap .i64 (qG - hQ))+c_))).bind λn1=>(ix nk c_).bind λn2=>(ix mg (wrap .i64 ((wrap .i64 (qG - hQ))+c_))).bind λn3=>(some (mg.set n3 (wrap .i64 ((gt mg n1)+(gt nk n2))))).bind λl4=>aI.pl1021 F k qG nk hQ l4 (wrap .i64 (c_+1))) else (aI.pj1 F hQ mg))
theorem aI.l1021_P  :∀ k,aI.S1021 H0 Ri R0  (aI.l1021 F (aR.tw F)  k) (aI.pl1021 F  k):=by
 intro k
 induction k with
 | zero=>unfold aI.S1021;intros;rename_i hp;cases hp
 | succ k ih=>
  intro qG XD hQ c_ KY KZ K_ Ed lQ Ee nL Ef La Lb Lc nk Ld mg Le Lf H akR akS akT h0 r hp
  obtain ⟨w0,s0,XL,XM,Eg⟩:=h0
  subst akR
  subst akS
  subst akT
  unfold aI.pl1021 at hp
  unfold aI.l1021
  refine lSl w0 0 ?_
  refine ay hp (λhp=>?_) λhp=>?_
  ·refine lI w0 0 ?_
   obtain ⟨n1,g1,hp⟩:=ag hp
   obtain ⟨p1,q1,i1,h1,j1⟩:=W.ixo (E:=eI) w0 (i:=3) rfl rfl Eg g1
   refine ai i1 ?_
   have h1:_=[_]:=h1
   subst h1
   refine ai (aG (j1 0 _ rfl)) ?_
   refine lSl w0 0 ?_
   obtain ⟨n2,g2,hp⟩:=ag hp
   obtain ⟨p2,q2,i2,h2,j2⟩:=ROs.ixr XL rfl g2
   refine ai i2 ?_
   have h2:_=[_]:=h2
   subst h2
   refine ai (aG (j2 0 _ rfl)) ?_
   obtain ⟨n3,g3,hp⟩:=ag hp
   obtain ⟨p3,q3,i3,h3,j3⟩:=W.ixo (E:=eI) w0 (i:=3) rfl rfl Eg g3
   refine ai i3 ?_
   obtain ⟨l4,e4,hp⟩:=ag hp
   refine dD eI w0 (i:=3) (j:=0) (p:=p3) rfl rfl Eg g3 i3 e4 rfl rfl (λ_ h=>by have h:_=[_]:=h;subst h;exact rfl) λH5 k5 w5 s5 c5=>?_
   exact ih rfl rfl ((cA e4).symm) ⟨w5,(s0.trans s5),(XL.step s5),(XM.step s5),c5⟩ hp
  ·obtain ⟨w6,s6⟩:=w0.pp [1,2,3] 4
   exact aI.j1_P rfl rfl ⟨w6,(s0.trans s6),(XM.step s6),(Eg.step s6)⟩ hp
def aI.pj2 (F:Nat)  (Eh:Int) (yC:ati) (tj:Int) (yD:ati):Option (Int×List Int):=aI.pl1021 F F Eh yC tj yD 0
theorem aI.j2_P   {Eh akU tj XN XO XP Li Be Lj Bf Lk XQ XR XS yC XT yD XU XV} (akV:Li=yC.length) (akW:Lj=XT.length) (akX:Lk=yD.length) (h0:Out H0 Ri H (Rs.blk Be [.i Eh,.sl ⟨XN,Li,XQ⟩]::Rs.own ⟨XO,Lj,XR⟩ eI.z XU::Rs.blk Bf [.i akU,.sl ⟨XO,Lj,XR⟩]::Rs.own ⟨XP,Lk,XS⟩ eI.z XV::R0) λR=>ROs eI H R ⟨XN,Li,XQ⟩ yC/\CR eI H R XU XT/\CR eI H R XV yD) {r:atl} (hp:aI.pj2 F  Eh yC tj yD=some r):Rt (aI.j2 F (aR.tw F)  Be 0 Bf 0 tj ⟨XP,Lk,XS⟩ H) (aI.Q H0 Ri R0  r):=by
 obtain ⟨w0,s0,akY,akZ,ak0⟩:=h0
 subst akV
 subst akW
 subst akX
 unfold aI.pj2 at hp
 unfold aI.j2
 exact aI.l1021_P F rfl rfl rfl ⟨w0,s0,akY,akZ,ak0⟩ hp
def aI.pl509 (F:Nat) :Nat->Int->List Int->Int->List Int->Int->List Int->Int->Option (Int×List Int)
 | 0,_,_,_,_,_,_,_=>none
 | k+1,qE,nj,vX,qF,hU,mf,gC=>(bif (decide (gC<(nj.length:Int))) then ((ix mf (wrap .i64 ((wrap .i64 (qE - hU))+gC))).bind λn1=>(ix nj gC).bind λn2=>(ix mf (wrap .i64 ((wrap .i64 (qE - hU))+gC))).bind λn3=>(some (mf.set n3 (wrap .i64 ((gt mf n1)+(gt nj n2))))).bind λl4=>aI.pl509 F k qE nj vX qF hU l4 (wrap .i64 (gC+1))) else (aI.pj2 F vX qF hU mf))
theorem aI.l509_P  :∀ k,aI.S509 H0 Ri R0  (aI.l509 F (aR.tw F)  k) (aI.pl509 F  k):=by
 intro k
 induction k with
 | zero=>unfold aI.S509;intros;rename_i hp;cases hp
 | succ k ih=>
  intro qE vX XC hU gC KN KO KP KQ D_ lR Ea nM Eb nN Ec KR KS KT KU nj qF KV mf KW KX H ak1 ak2 ak3 ak4 h0 r hp
  obtain ⟨w0,s0,XW,XX,XY,Ei⟩:=h0
  subst ak1
  subst ak2
  subst ak3
  subst ak4
  unfold aI.pl509 at hp
  unfold aI.l509
  refine lSl w0 0 ?_
  refine ay hp (λhp=>?_) λhp=>?_
  ·refine lI w0 0 ?_
   obtain ⟨n1,g1,hp⟩:=ag hp
   obtain ⟨p1,q1,i1,h1,j1⟩:=W.ixo (E:=eI) w0 (i:=4) rfl rfl Ei g1
   refine ai i1 ?_
   have h1:_=[_]:=h1
   subst h1
   refine ai (aG (j1 0 _ rfl)) ?_
   refine lSl w0 0 ?_
   obtain ⟨n2,g2,hp⟩:=ag hp
   obtain ⟨p2,q2,i2,h2,j2⟩:=ROs.ixr XW rfl g2
   refine ai i2 ?_
   have h2:_=[_]:=h2
   subst h2
   refine ai (aG (j2 0 _ rfl)) ?_
   obtain ⟨n3,g3,hp⟩:=ag hp
   obtain ⟨p3,q3,i3,h3,j3⟩:=W.ixo (E:=eI) w0 (i:=4) rfl rfl Ei g3
   refine ai i3 ?_
   obtain ⟨l4,e4,hp⟩:=ag hp
   refine dD eI w0 (i:=4) (j:=0) (p:=p3) rfl rfl Ei g3 i3 e4 rfl rfl (λ_ h=>by have h:_=[_]:=h;subst h;exact rfl) λH5 k5 w5 s5 c5=>?_
   exact ih rfl rfl rfl ((cA e4).symm) ⟨w5,(s0.trans s5),(XW.step s5),(XX.step s5),(XY.step s5),c5⟩ hp
  ·obtain ⟨w6,s6⟩:=w0.pp [1,2,3,4] 5
   exact aI.j2_P rfl rfl rfl ⟨w6,(s0.trans s6),(XX.step s6),(XY.step s6),(Ei.step s6)⟩ hp
def aI.p (F:Nat) (aa:Int) (aF:ati) (au:Int) (bA:ati):Option (Int×List Int):=(bif ((aF.length:Int)==0) then ((aR.p F au bA).bind λr4=>some (r4.1,r4.2)) else ((bif ((bA.length:Int)==0) then ((aR.p F aa aF).bind λr9=>some (r9.1,r9.2)) else ((mkn (wrap .i64 ((if (wrap .i64 (au+(bA.length:Int)))>(wrap .i64 (aa+(aF.length:Int))) then (wrap .i64 (au+(bA.length:Int))) else (wrap .i64 (aa+(aF.length:Int)))) - (if au<aa then au else aa))) (0:Int)).bind λl14=>aI.pl509 F F aa aF au bA (if au<aa then au else aa) l14 0))))
theorem aI.P {aa au ck ew bE dh cl ey aF bA} (dv:bE=aF.length) (gO:dh=bA.length) (h0:Inn H R0 λR=>ROs eI H R ⟨ck,bE,cl⟩ aF/\ROs eI H R ⟨ew,dh,ey⟩ bA) {r:atl} (hp:aI.p F aa aF au bA=some r):Rt (aI.tw F aa ⟨ck,bE,cl⟩ au ⟨ew,dh,ey⟩ H) (aI.Q H R0 R0  r):=by
 obtain ⟨w0,ct,fd⟩:=h0
 subst dv
 subst gO
 unfold aI.p at hp
 unfold aI.tw aI.twX
 have s0:=w0.rf
 refine aS w0 λH1 w1 s1=>?_
 refine aS w1 λH2 w2 s2=>?_
 refine aS w2 λH3 w3 s3=>?_
 refine lSl w3 2 ?_
 refine ay hp (λhp=>?_) λhp=>?_
 ·refine lI w3 1 ?_
  refine lSl w3 1 ?_
  obtain ⟨r4,e4,hp⟩:=ag hp
  refine aE (aR.P rfl ⟨w3,(fd.step (s1.trans (s2.trans s3)))⟩ e4) ?_
  rintro _ H5 ⟨o1a_5,o1n_5,o1c_5,o1k_5,rfl,rfl,w5,s5,f5_0⟩
  refine br (br (br (br (br ?_))))
  refine aq w5 1 λH6 w6 s6=>?_
  refine aq w6 1 λH7 w7 s7=>?_
  refine lI w7 1 ?_
  refine lSl w7 1 ?_
  obtain ⟨w8,s8⟩:=w7.pp [0] 4
  exact az hp ⟨_,_,_,_,rfl,rfl,w8,(s0.trans (s1.trans (s2.trans (s3.trans (s5.trans (s6.trans (s7.trans s8))))))),(f5_0.step (s6.trans (s7.trans s8)))⟩
 ·refine lSl w3 1 ?_
  refine ay hp (λhp=>?_) λhp=>?_
  ·refine lI w3 2 ?_
   refine lSl w3 2 ?_
   obtain ⟨r9,e9,hp⟩:=ag hp
   refine aE (aR.P rfl ⟨w3,(ct.step (s1.trans (s2.trans s3)))⟩ e9) ?_
   rintro _ H10 ⟨o1a_10,o1n_10,o1c_10,o1k_10,rfl,rfl,w10,s10,f10_0⟩
   refine br (br (br (br (br ?_))))
   refine aq w10 1 λH11 w11 s11=>?_
   refine aq w11 1 λH12 w12 s12=>?_
   refine lI w12 1 ?_
   refine lSl w12 1 ?_
   obtain ⟨w13,s13⟩:=w12.pp [0] 4
   exact az hp ⟨_,_,_,_,rfl,rfl,w13,(s0.trans (s1.trans (s2.trans (s3.trans (s10.trans (s11.trans (s12.trans s13))))))),(f10_0.step (s11.trans (s12.trans s13)))⟩
  ·refine lI w3 2 ?_
   refine lI w3 1 ?_
   refine lI w3 2 ?_
   refine lSl w3 2 ?_
   refine lI w3 1 ?_
   refine lSl w3 1 ?_
   obtain ⟨l14,e14,hp⟩:=ag hp
   refine kc eI (0:Int) w3 rfl rfl rfl e14 λH15 k15 w15 s15 c15=>?_
   obtain ⟨w16,s16⟩:=w15.nilS eI.z (by decide)
   obtain ⟨w17,s17⟩:=w16.pp [4,3,0,2,1] 5
   exact aI.l509_P F rfl rfl rfl rfl ⟨w17,(s0.trans (s1.trans (s2.trans (s3.trans (s15.trans (s16.trans s17)))))),(ct.step (s1.trans (s2.trans (s3.trans (s15.trans (s16.trans s17)))))),(fd.step (s1.trans (s2.trans (s3.trans (s15.trans (s16.trans s17)))))),((CR.empty:CR eI _ _ [] []).step s17),(c15.step (s16.trans s17))⟩ hp
def aT.Q (H0:Hp) (Ri R0:atf)  (r:atl) (v:AV) (H':Hp):Prop:=∃ o1a:ON,∃ o1n:Nat,∃ o1c:Cap,∃ o1k:List AV,v=(.agg [(.i r.1),(.sl ⟨o1a,o1n,o1c⟩)])/\o1n=(r.2).length/\Out H0 Ri H' (Rs.own ⟨o1a,o1n,o1c⟩ eI.z o1k::R0) λR=>CR eI H' R o1k (r.2)
def aT.S61 (H0:Hp) (Ri R0:atf)  (C:atU) (pC:at0):Prop:=∀ {Ll Lm Ln Ej Ek jP El iO Lo Lp Lq mh Lr oK cu XZ qH jf hY Lt Lu},∀ {H:Hp},Ej=mh.length->Ek=Lr.length->El=oK.length->(Out H0 Ri H (Rs.own ⟨Lm,Ek,Lp⟩ eI.z Lt::Rs.blk jP [.i XZ,.sl ⟨Lm,Ek,Lp⟩]::Rs.own ⟨Ln,El,Lq⟩ eI.z Lu::Rs.blk iO [.i qH,.sl ⟨Ln,El,Lq⟩]::R0) λR=>ROs eI H R ⟨Ll,Ej,Lo⟩ mh/\CR eI H R Lt Lr/\CR eI H R Lu oK)->∀ {r:atl},pC mh cu qH oK jf hY=some r->Rt (C ⟨Ll,Ej,Lo⟩ cu jP 0 iO 0 jf hY H) (aT.Q H0 Ri R0  r)
def aT.pj4 (F:Nat) (ar:at0) (yE:ati) (tp:Int) (Em:Int) (yF:ati) (nP:Int) (je:Int):Option (Int×List Int):=ar yE tp Em yF nP (wrap .i64 (je+1))
theorem aT.j4_P  {C61_:atU} {ar:at0} (hC61:aT.S61 H0 Ri R0  C61_ ar) {X_ Ya Yb Lv Lw Bi Lx kp Yc Yd Ye yE Yf yF tp ak5 Em nP je Yg Yh} (ak6:Lv=yE.length) (ak7:Lw=Yf.length) (ak8:Lx=yF.length) (h0:Out H0 Ri H (Rs.own ⟨Ya,Lw,Yd⟩ eI.z Yg::Rs.blk Bi [.i ak5,.sl ⟨Ya,Lw,Yd⟩]::Rs.own ⟨Yb,Lx,Ye⟩ eI.z Yh::Rs.blk kp [.i Em,.sl ⟨Yb,Lx,Ye⟩]::R0) λR=>ROs eI H R ⟨X_,Lv,Yc⟩ yE/\CR eI H R Yg Yf/\CR eI H R Yh yF) {r:atl} (hp:aT.pj4 F ar yE tp Em yF nP je=some r):Rt (aT.j4 F (aI.tw F) C61_ ⟨X_,Lv,Yc⟩ tp Bi 0 kp 0 nP je H) (aT.Q H0 Ri R0  r):=by
 obtain ⟨w0,s0,ak9,ak_,ala⟩:=h0
 subst ak6
 subst ak7
 subst ak8
 unfold aT.pj4 at hp
 unfold aT.j4
 exact hC61 rfl rfl rfl ⟨w0,s0,ak9,ak_,ala⟩ hp
def aT.pj5 (F:Nat) (ar:at0) (oL:ati) (gZ:Int) (yG:Int) (vY:ati) (nQ:Int) (lT:Int):Option (Int×List Int):=(ix oL lT).bind λn1=>(bif (decide ((gt oL n1)>0)) then (aT.pj4 F ar oL gZ yG vY (wrap .i64 (nQ+1)) lT) else (aT.pj4 F ar oL gZ yG vY (wrap .i64 (nQ - 1)) lT))
theorem aT.j5_P  {C61_:atU} {ar:at0} (hC61:aT.S61 H0 Ri R0  C61_ ar) {Yi Yj Yk Ly Lz xd LA xe Yl Ym Yn oL Yo vY gZ alb yG nQ lT Yp Yq} (alc:Ly=oL.length) (ald:Lz=Yo.length) (ale:LA=vY.length) (h0:Out H0 Ri H (Rs.own ⟨Yj,Lz,Ym⟩ eI.z Yp::Rs.blk xd [.i alb,.sl ⟨Yj,Lz,Ym⟩]::Rs.own ⟨Yk,LA,Yn⟩ eI.z Yq::Rs.blk xe [.i yG,.sl ⟨Yk,LA,Yn⟩]::R0) λR=>ROs eI H R ⟨Yi,Ly,Yl⟩ oL/\CR eI H R Yp Yo/\CR eI H R Yq vY) {r:atl} (hp:aT.pj5 F ar oL gZ yG vY nQ lT=some r):Rt (aT.j5 F (aI.tw F) C61_ ⟨Yi,Ly,Yl⟩ gZ xd 0 xe 0 nQ lT H) (aT.Q H0 Ri R0  r):=by
 obtain ⟨w0,s0,LB,Yr,Ys⟩:=h0
 subst alc
 subst ald
 subst ale
 unfold aT.pj5 at hp
 unfold aT.j5
 obtain ⟨n1,g1,hp⟩:=ag hp
 obtain ⟨p1,q1,i1,h1,j1⟩:=ROs.ixr LB rfl g1
 refine ai i1 ?_
 have h1:_=[_]:=h1
 subst h1
 refine ai (aG (j1 0 _ rfl)) ?_
 refine ay hp (λhp=>?_) λhp=>?_
 ·exact aT.j4_P (@hC61) rfl rfl rfl ⟨w0,s0,LB,Yr,Ys⟩ hp
 ·exact aT.j4_P (@hC61) rfl rfl rfl ⟨w0,s0,LB,Yr,Ys⟩ hp
def aT.pj6 (F:Nat) (ar:at0) (oM:ati) (fq:Int) (yH:Int) (vZ:ati) (gz:Int) (lU:Int):Option (Int×List Int):=(ix oM lU).bind λn1=>(bif ((gt oM n1)==(wrap .i64 (0 - fq))) then ((aI.p F yH vZ (wrap .i64 (gz - 1)) ([(-1)]:List Int)).bind λr6=>aT.pj5 F ar oM fq r6.1 r6.2 gz lU) else (aT.pj5 F ar oM fq yH vZ gz lU))
theorem aT.j6_P  {C61_:atU} {ar:at0} (hC61:aT.S61 H0 Ri R0  C61_ ar) {Yt Yu Yv LC LD xf LE mL Yw Yx Yy oM Yz vZ fq alf yH gz lU YA YB} (alg:LC=oM.length) (alh:LD=Yz.length) (ali:LE=vZ.length) (h0:Out H0 Ri H (Rs.own ⟨Yu,LD,Yx⟩ eI.z YA::Rs.blk xf [.i alf,.sl ⟨Yu,LD,Yx⟩]::Rs.own ⟨Yv,LE,Yy⟩ eI.z YB::Rs.blk mL [.i yH,.sl ⟨Yv,LE,Yy⟩]::R0) λR=>ROs eI H R ⟨Yt,LC,Yw⟩ oM/\CR eI H R YA Yz/\CR eI H R YB vZ) {r:atl} (hp:aT.pj6 F ar oM fq yH vZ gz lU=some r):Rt (aT.j6 F (aI.tw F) C61_ ⟨Yt,LC,Yw⟩ fq xf 0 mL 0 gz lU H) (aT.Q H0 Ri R0  r):=by
 obtain ⟨w0,s0,LF,YC,YD⟩:=h0
 subst alg
 subst alh
 subst ali
 unfold aT.pj6 at hp
 unfold aT.j6
 obtain ⟨n1,g1,hp⟩:=ag hp
 obtain ⟨p1,q1,i1,h1,j1⟩:=ROs.ixr LF rfl g1
 refine ai i1 ?_
 have h1:_=[_]:=h1
 subst h1
 refine ai (aG (j1 0 _ rfl)) ?_
 refine ay hp (λhp=>?_) λhp=>?_
 ·refine lI w0 3 ?_
  refine lSl w0 3 ?_
  refine cL eI w0 (n:=1) (l:=([(-1)]:List Int)) rfl (CR.cons1 rfl CR.empty) rfl λH2 w2 s2 c2=>?_
  obtain ⟨w3,s3⟩:=w2.pp [3,0,1,2,4] 5
  have f4:=W.borrow1 eI w3 (YD.step (s2.trans s3))
  obtain ⟨w4,s4⟩:=w3.right1
  have f5:=W.borrow1 eI w4 ((c2.step s3).step s4)
  obtain ⟨w5,s5⟩:=w4.right1
  obtain ⟨r6,e6,hp⟩:=ag hp
  refine aE (aI.P rfl (show 1=List.length ([(-1)]:List Int) from rfl) ⟨w5,(f4.step s5),f5⟩ e6) ?_
  rintro _ H7 ⟨o1a_7,o1n_7,o1c_7,o1k_7,rfl,rfl,w7,s7,f7_0⟩
  obtain ⟨w8,s8⟩:=W.frame1 w4 w7 s7
  obtain ⟨w9,s9⟩:=W.frame1 w3 w8 s8
  refine br (br (br (br (br ?_))))
  refine aq w9 5 λH10 w10 s10=>?_
  refine aq w10 5 λH11 w11 s11=>?_
  obtain ⟨w12,s12⟩:=w11.pp [3,4,2,5] 6
  exact aT.j5_P (@hC61) rfl rfl rfl ⟨w12,(s0.trans (s2.trans (s3.trans (s9.trans (s10.trans (s11.trans s12)))))),(LF.step (s2.trans (s3.trans (s9.trans (s10.trans (s11.trans s12)))))),(YC.step (s2.trans (s3.trans (s9.trans (s10.trans (s11.trans s12)))))),((CR.flat (fB .i64) f7_0).step (s10.trans (s11.trans s12)))⟩ hp
 ·exact aT.j5_P (@hC61) rfl rfl rfl ⟨w0,s0,LF,YC,YD⟩ hp
def aT.pl61 (F:Nat) :Nat->List Int->Int->Int->List Int->Int->Int->Option (Int×List Int)
 | 0,_,_,_,_,_,_=>none
 | k+1,mh,cu,qH,oK,jf,hY=>(bif (decide (hY<(mh.length:Int))) then ((ix mh hY).bind λn1=>(bif ((gt mh n1)==cu) then ((aI.p F qH oK jf ([1]:List Int)).bind λr6=>aT.pj6 F (aT.pl61 F k) mh cu r6.1 r6.2 jf hY) else (aT.pj6 F (aT.pl61 F k) mh cu qH oK jf hY))) else (some (qH,oK)))
theorem aT.l61_P  :∀ k,aT.S61 H0 Ri R0  (aT.l61 F (aI.tw F)  k) (aT.pl61 F  k):=by
 intro k
 induction k with
 | zero=>unfold aT.S61;intros;rename_i hp;cases hp
 | succ k ih=>
  intro Ll Lm Ln Ej Ek jP El iO Lo Lp Lq mh Lr oK cu XZ qH jf hY Lt Lu H alj alk alm h0 r hp
  obtain ⟨w0,s0,LG,YE,LI⟩:=h0
  subst alj
  subst alk
  subst alm
  unfold aT.pl61 at hp
  unfold aT.l61
  refine ay hp (λhp=>?_) λhp=>?_
  ·obtain ⟨n1,g1,hp⟩:=ag hp
   obtain ⟨p1,q1,i1,h1,j1⟩:=ROs.ixr LG rfl g1
   refine ai i1 ?_
   have h1:_=[_]:=h1
   subst h1
   refine ai (aG (j1 0 _ rfl)) ?_
   refine ay hp (λhp=>?_) λhp=>?_
   ·refine lI w0 3 ?_
    refine lSl w0 3 ?_
    refine cL eI w0 (n:=1) (l:=([1]:List Int)) rfl (CR.cons1 rfl CR.empty) rfl λH2 w2 s2 c2=>?_
    obtain ⟨w3,s3⟩:=w2.pp [3,0,1,2,4] 5
    have f4:=W.borrow1 eI w3 (LI.step (s2.trans s3))
    obtain ⟨w4,s4⟩:=w3.right1
    have f5:=W.borrow1 eI w4 ((c2.step s3).step s4)
    obtain ⟨w5,s5⟩:=w4.right1
    obtain ⟨r6,e6,hp⟩:=ag hp
    refine aE (aI.P rfl (show 1=List.length ([1]:List Int) from rfl) ⟨w5,(f4.step s5),f5⟩ e6) ?_
    rintro _ H7 ⟨o1a_7,o1n_7,o1c_7,o1k_7,rfl,rfl,w7,s7,f7_0⟩
    obtain ⟨w8,s8⟩:=W.frame1 w4 w7 s7
    obtain ⟨w9,s9⟩:=W.frame1 w3 w8 s8
    refine br (br (br (br (br ?_))))
    refine aq w9 5 λH10 w10 s10=>?_
    refine aq w10 5 λH11 w11 s11=>?_
    obtain ⟨w12,s12⟩:=w11.pp [3,4,2,5] 6
    exact aT.j6_P (@ih) rfl rfl rfl ⟨w12,(s0.trans (s2.trans (s3.trans (s9.trans (s10.trans (s11.trans s12)))))),(LG.step (s2.trans (s3.trans (s9.trans (s10.trans (s11.trans s12)))))),(YE.step (s2.trans (s3.trans (s9.trans (s10.trans (s11.trans s12)))))),((CR.flat (fB .i64) f7_0).step (s10.trans (s11.trans s12)))⟩ hp
   ·exact aT.j6_P (@ih) rfl rfl rfl ⟨w0,s0,LG,YE,LI⟩ hp
  ·refine lI w0 3 ?_
   refine lSl w0 3 ?_
   refine aq w0 1 λH13 w13 s13=>?_
   refine aq w13 1 λH14 w14 s14=>?_
   refine lI w14 1 ?_
   refine lSl w14 1 ?_
   obtain ⟨w15,s15⟩:=w14.pp [2] 4
   exact az hp ⟨_,_,_,_,rfl,rfl,w15,(s0.trans (s13.trans (s14.trans s15))),(LI.step (s13.trans (s14.trans s15)))⟩
def aT.p (F:Nat) (ah:ati) (aA:Int):Option (Int×List Int):=aT.pl61 F F ah aA 0 ([]:List Int) 0 0
theorem aT.P {aB ak aC ah aA} (ba:ak=ah.length) (h0:Inn H R0 λR=>ROs eI H R ⟨aB,ak,aC⟩ ah) {r:atl} (hp:aT.p F ah aA=some r):Rt (aT.tw F ⟨aB,ak,aC⟩ aA H) (aT.Q H R0 R0  r):=by
 obtain ⟨w0,aO⟩:=h0
 subst ba
 unfold aT.p at hp
 unfold aT.tw aT.twX
 have s0:=w0.rf
 refine aS w0 λH1 w1 s1=>?_
 refine aS w1 λH2 w2 s2=>?_
 refine aq w2 0 λH3 w3 s3=>?_
 refine aq w3 0 λH4 w4 s4=>?_
 obtain ⟨w5,s5⟩:=w4.nilS eI.z (by decide)
 obtain ⟨w6,s6⟩:=w5.nilS eI.z (by decide)
 obtain ⟨w7,s7⟩:=w6.pp [1,3,0,2] 4
 exact aT.l61_P F rfl rfl rfl ⟨w7,(s0.trans (s1.trans (s2.trans (s3.trans (s4.trans (s5.trans (s6.trans s7))))))),(aO.step (s1.trans (s2.trans (s3.trans (s4.trans (s5.trans (s6.trans s7))))))),((CR.empty:CR eI _ _ [] []).step (s6.trans s7)),((CR.empty:CR eI _ _ [] []).step s7)⟩ hp
def a_.Q (H0:Hp) (Ri R0:atf)  (r:(List ((List (Int×List Int))))) (v:AV) (H':Hp):Prop:=∃ o0a:ON,∃ o0n:Nat,∃ o0c:Cap,∃ o0k:List AV,v=(.sl ⟨o0a,o0n,o0c⟩)/\o0n=(r).length/\Out H0 Ri H' (Rs.own ⟨o0a,o0n,o0c⟩ (eSl (ac eI (eSl eI))).z o0k::R0) λR=>CR (eSl (ac eI (eSl eI))) H' R o0k (r)
def a_.S125 (H0:Hp) (Ri R0:atf)  (C:atG) (pC:at1):Prop:=∀ {LJ LL En Er LM LN qI LP LQ mM ku qJ},∀ {H:Hp},En=qI.length->Er=qJ.length->(Out H0 Ri H (Rs.own ⟨LJ,En,LM⟩ (eSl (ac eI (eSl eI))).z LP::Rs.own ⟨LL,Er,LN⟩ (eSl eI).z LQ::R0) λR=>CR (eSl (ac eI (eSl eI))) H R LP qI/\CR (eSl eI) H R LQ qJ)->∀ {r:(List ((List (Int×List Int))))},pC qI mM qJ ku=some r->Rt (C ⟨LJ,En,LM⟩ mM ⟨LL,Er,LN⟩ ku H) (a_.Q H0 Ri R0  r)
def a_.S8021 (H0:Hp) (Ri R0:atf)  (C:Sl->Int->Sl->Int->Sl->Int->Hp->OA) (pC:List ((List (Int×List Int)))->Int->List (List Int)->Int->List (Int×List Int)->Int->Option ((List ((List (Int×List Int)))))):Prop:=∀ {LR LS LT Es Et Eu LU LV LW qK LX LY LZ jg jh ji nl qL},∀ {H:Hp},Es=qK.length->Et=nl.length->Eu=qL.length->(Out H0 Ri H (Rs.own ⟨LR,Es,LU⟩ (eSl (ac eI (eSl eI))).z LX::Rs.own ⟨LS,Et,LV⟩ (eSl eI).z LY::Rs.own ⟨LT,Eu,LW⟩ (ac eI (eSl eI)).z LZ::R0) λR=>CR (eSl (ac eI (eSl eI))) H R LX qK/\CR (eSl eI) H R LY nl/\CR (ac eI (eSl eI)) H R LZ qL)->∀ {r:(List ((List (Int×List Int))))},pC qK jg nl jh qL ji=some r->Rt (C ⟨LR,Es,LU⟩ jg ⟨LS,Et,LV⟩ jh ⟨LT,Eu,LW⟩ ji H) (a_.Q H0 Ri R0  r)
def a_.pj3 (F:Nat) (bu:at1) (yI:aty) (nO:Int) (yJ:ats) (je:Int):Option ((List ((List (Int×List Int))))):=bu yI nO yJ (wrap .i64 (je+1))
theorem a_.j3_P  {C125_:atG} {bu:at1} (hC125:a_.S125 H0 Ri R0  C125_ bu) {YF YG L_ Ma YH YI yI YJ YK nO je yJ} (aln:L_=yI.length) (alo:Ma=yJ.length) (h0:Out H0 Ri H (Rs.own ⟨YF,L_,YH⟩ (eSl (ac eI (eSl eI))).z YJ::Rs.own ⟨YG,Ma,YI⟩ (eSl eI).z YK::R0) λR=>CR (eSl (ac eI (eSl eI))) H R YJ yI/\CR (eSl eI) H R YK yJ) {r:(List ((List (Int×List Int))))} (hp:a_.pj3 F bu yI nO yJ je=some r):Rt (a_.j3 F (aj.tw F) (bi.tw F) (aT.tw F) C125_ ⟨YF,L_,YH⟩ nO ⟨YG,Ma,YI⟩ je H) (a_.Q H0 Ri R0  r):=by
 obtain ⟨w0,s0,alp,alq⟩:=h0
 subst aln
 subst alo
 unfold a_.pj3 at hp
 unfold a_.j3
 exact hC125 rfl rfl ⟨w0,s0,alp,alq⟩ hp
def a_.pj4 (F:Nat) (bu:at1) (yK:aty) (jd:Int) (yL:ats) (nK:Int) (qM:atz):Option ((List ((List (Int×List Int))))):=(apn yK ([qM]:List ((List (Int×List Int))))).bind λl3=>a_.pj3 F bu l3 jd yL nK
theorem a_.j4_P  {C125_:atG} {bu:at1} (hC125:a_.S125 H0 Ri R0  C125_ bu) {YL YM YN Mb Mc Md YO YP YQ yK YR YS YT jd nK yL qM} (alr:Mb=yK.length) (als:Mc=yL.length) (alu:Md=qM.length) (h0:Out H0 Ri H (Rs.own ⟨YL,Mb,YO⟩ (eSl (ac eI (eSl eI))).z YR::Rs.own ⟨YM,Mc,YP⟩ (eSl eI).z YS::Rs.own ⟨YN,Md,YQ⟩ (ac eI (eSl eI)).z YT::R0) λR=>CR (eSl (ac eI (eSl eI))) H R YR yK/\CR (eSl eI) H R YS yL/\CR (ac eI (eSl eI)) H R YT qM) {r:(List ((List (Int×List Int))))} (hp:a_.pj4 F bu yK jd yL nK qM=some r):Rt (a_.j4 F (aj.tw F) (bi.tw F) (aT.tw F) C125_ ⟨YL,Mb,YO⟩ jd ⟨YM,Mc,YP⟩ nK ⟨YN,Md,YQ⟩ H) (a_.Q H0 Ri R0  r):=by
 obtain ⟨w0,s0,alv,alw,alx⟩:=h0
 subst alr
 subst als
 subst alu
 unfold a_.pj4 at hp
 unfold a_.j4
 obtain ⟨w1,s1,f1⟩:=w0.frz (i:=2) (ac eI (eSl eI)) rfl alx
 refine cL (eSl (ac eI (eSl eI))) w1 (n:=1) (l:=([qM]:List ((List (Int×List Int))))) rfl (CR.cons1 ⟨_,rfl,f1⟩ CR.empty) rfl λH2 w2 s2 c2=>?_
 refine ai (w2.rowo (i:=0) rfl) ?_
 obtain ⟨l3,e3,hp⟩:=ag hp
 refine fA (eSl (ac eI (eSl eI))) w2 (i:=1) rfl rfl (alv.step (s1.trans s2)) c2 (show 1=List.length ([qM]:List ((List (Int×List Int)))) from rfl) rfl e3 λa4 d4 H4 w4 s4 c4 x4=>?_
 obtain ⟨w5,s5⟩:=w4.pp [1,2] 3
 exact a_.j3_P (@hC125) rfl rfl ⟨w5,(s0.trans (s1.trans (s2.trans (s4.trans s5)))),(c4.step s5),(alw.step (s1.trans (s2.trans (s4.trans s5))))⟩ hp
def a_.pl8021 (F:Nat) (bu:at1):Nat->List ((List (Int×List Int)))->Int->List (List Int)->Int->List (Int×List Int)->Int->Option ((List ((List (Int×List Int)))))
 | 0,_,_,_,_,_,_=>none
 | k+1,qK,jg,nl,jh,qL,ji=>(bif (decide (ji<=jg)) then ((ix nl jh).bind λn1=>(aT.p F (gt nl n1) ji).bind λr2=>(apn qL ([(r2.1,r2.2)]:List (Int×List Int))).bind λl6=>a_.pl8021 F bu k qK jg nl jh l6 (wrap .i64 (ji+1))) else (a_.pj4 F bu qK jg nl jh qL))
theorem a_.l8021_P  {C125_:atG} {bu:at1} (hC125:a_.S125 H0 Ri R0  C125_ bu):∀ k,a_.S8021 H0 Ri R0  (a_.l8021 F (aj.tw F) (bi.tw F) (aT.tw F) C125_ k) (a_.pl8021 F bu k):=by
 intro k
 induction k with
 | zero=>unfold a_.S8021;intros;rename_i hp;cases hp
 | succ k ih=>
  intro LR LS LT Es Et Eu LU LV LW qK LX LY LZ jg jh ji nl qL H aly alz alA h0 r hp
  obtain ⟨w0,s0,YU,Me,YV⟩:=h0
  subst aly
  subst alz
  subst alA
  unfold a_.pl8021 at hp
  unfold a_.l8021
  refine ay hp (λhp=>?_) λhp=>?_
  ·obtain ⟨n1,g1,hp⟩:=ag hp
   obtain ⟨p1,q1,i1,h1,j1⟩:=W.ixo (E:=(eSl eI)) w0 (i:=1) rfl rfl Me g1
   refine ai i1 ?_
   obtain ⟨⟨YW,m1_0,c1_0⟩,rfl,f1_0⟩:=h1
   obtain rfl:m1_0=_:=f1_0.n
   refine ai (iG (j1 0 _ rfl)) ?_
   obtain ⟨r2,e2,hp⟩:=ag hp
   refine aE (aT.P rfl ⟨w0,f1_0⟩ e2) ?_
   rintro _ H3 ⟨o1a_3,o1n_3,o1c_3,o1k_3,rfl,rfl,w3,s3,f3_0⟩
   refine br (br (br (br (br ?_))))
   obtain ⟨w4,s4,f4⟩:=w3.frz (i:=0) eI rfl f3_0
   refine cL (ac eI (eSl eI)) w4 (n:=1) (l:=([(r2.1,r2.2)]:List (Int×List Int))) rfl (CR.cons (c:=[_,_]) ⟨[_],_,rfl,rfl,⟨_,rfl,f4⟩⟩ CR.empty) rfl λH5 w5 s5 c5=>?_
   refine ai (w5.rowo (i:=0) rfl) ?_
   obtain ⟨l6,e6,hp⟩:=ag hp
   refine fA (ac eI (eSl eI)) w5 (i:=3) rfl rfl (YV.step (s3.trans (s4.trans s5))) c5 (show 1=List.length ([(r2.1,r2.2)]:List (Int×List Int)) from rfl) rfl e6 λa7 d7 H7 w7 s7 c7 x7=>?_
   obtain ⟨w8,s8⟩:=w7.pp [1,2,3] 4
   exact ih rfl rfl rfl ⟨w8,(s0.trans (s3.trans (s4.trans (s5.trans (s7.trans s8))))),(YU.step (s3.trans (s4.trans (s5.trans (s7.trans s8))))),(Me.step (s3.trans (s4.trans (s5.trans (s7.trans s8))))),(c7.step s8)⟩ hp
  ·exact a_.j4_P (@hC125) rfl rfl rfl ⟨w0,s0,YU,Me,YV⟩ hp
def a_.pl125 (F:Nat) :Nat->List ((List (Int×List Int)))->Int->List (List Int)->Int->Option ((List ((List (Int×List Int)))))
 | 0,_,_,_,_=>none
 | k+1,qI,mM,qJ,ku=>(bif (decide (ku<(qJ.length:Int))) then (a_.pl8021 F (a_.pl125 F k) F qI mM qJ ku ([]:List (Int×List Int)) 1) else (some qI))
theorem a_.l125_P  :∀ k,a_.S125 H0 Ri R0  (a_.l125 F (aj.tw F) (bi.tw F) (aT.tw F)  k) (a_.pl125 F  k):=by
 intro k
 induction k with
 | zero=>unfold a_.S125;intros;rename_i hp;cases hp
 | succ k ih=>
  intro LJ LL En Er LM LN qI LP LQ mM ku qJ H alB alC h0 r hp
  obtain ⟨w0,s0,YX,alD⟩:=h0
  subst alB
  subst alC
  unfold a_.pl125 at hp
  unfold a_.l125
  refine ay hp (λhp=>?_) λhp=>?_
  ·refine cL (ac eI (eSl eI)) w0 (n:=0) (l:=([]:List (Int×List Int))) rfl CR.empty rfl λH1 w1 s1 c1=>?_
   obtain ⟨w2,s2⟩:=w1.pp [1,2,0] 3
   exact a_.l8021_P (@ih) F rfl rfl (show 0=List.length ([]:List (Int×List Int)) from rfl) ⟨w2,(s0.trans (s1.trans s2)),(YX.step (s1.trans s2)),(alD.step (s1.trans s2)),(c1.step s2)⟩ hp
  ·obtain ⟨w3,s3⟩:=w0.pp [0] 2
   exact az hp ⟨_,_,_,_,rfl,rfl,w3,(s0.trans s3),(YX.step s3)⟩
def a_.p (F:Nat) (ah:ato) (af:Int):Option ((List ((List (Int×List Int))))):=(aj.p F ah af).bind λr3=>(bi.p F ah af).bind λr5=>a_.pl125 F F ([]:List ((List (Int×List Int)))) r3.2 r5 0
theorem a_.P {aB ak aC ah af} (ba:ak=ah.length) (h0:Inn H R0 λR=>ROs (ac eI (ac eI (ac eI (ac eI eI)))) H R ⟨aB,ak,aC⟩ ah) {r:(List ((List (Int×List Int))))} (hp:a_.p F ah af=some r):Rt (a_.tw F ⟨aB,ak,aC⟩ af H) (a_.Q H R0 R0  r):=by
 obtain ⟨w0,aO⟩:=h0
 subst ba
 unfold a_.p at hp
 unfold a_.tw a_.twX
 have s0:=w0.rf
 refine aS w0 λH1 w1 s1=>?_
 refine cL (eSl (ac eI (eSl eI))) w1 (n:=0) (l:=([]:List ((List (Int×List Int))))) rfl CR.empty rfl λH2 w2 s2 c2=>?_
 refine lSl w2 1 ?_
 refine lI w2 1 ?_
 obtain ⟨r3,e3,hp⟩:=ag hp
 refine aE (aj.P rfl ⟨w2,(aO.step (s1.trans s2))⟩ e3) ?_
 rintro _ H4 ⟨o0a_4,o0n_4,o0c_4,o0k_4,rfl,rfl,w4,s4,f4_0⟩
 refine br (br (br (br (br ?_))))
 refine lSl w4 2 ?_
 refine lI w4 2 ?_
 obtain ⟨r5,e5,hp⟩:=ag hp
 refine aE (bi.P rfl ⟨w4,(aO.step (s1.trans (s2.trans s4)))⟩ e5) ?_
 rintro _ H6 ⟨o0a_6,o0n_6,o0c_6,o0k_6,rfl,rfl,w6,s6,f6_0⟩
 refine br ?_
 obtain ⟨w7,s7⟩:=w6.pp [2,0] 4
 exact a_.l125_P F (show 0=List.length ([]:List ((List (Int×List Int)))) from rfl) rfl ⟨w7,(s0.trans (s1.trans (s2.trans (s4.trans (s6.trans s7))))),(c2.step (s4.trans (s6.trans s7))),(f6_0.step s7)⟩ hp
def aH.Q (H0:Hp) (Ri R0:atf)  (r:atl) (v:AV) (H':Hp):Prop:=∃ o1a:ON,∃ o1n:Nat,∃ o1c:Cap,∃ o1k:List AV,v=(.agg [(.i r.1),(.sl ⟨o1a,o1n,o1c⟩)])/\o1n=(r.2).length/\Out H0 Ri H' (Rs.own ⟨o1a,o1n,o1c⟩ eI.z o1k::R0) λR=>CR eI H' R o1k (r.2)
def aH.S61 (H0:Hp) (Ri R0:atf)  (C:atV) (pC:at2):Prop:=∀ {nm v_ YY kv qN Mf Mg Mh nn fb Ev nT Ew nU Ex qO Mi Mj Ml lD wb Mm qP Mn Mo},∀ {H:Hp},nn=lD.length->Ev=wb.length->Ew=Mm.length->Ex=qP.length->(Out H0 Ri H (Rs.blk fb [.i nm,.sl ⟨qN,nn,qO⟩]::Rs.blk nT [.i v_,.sl ⟨Mf,Ev,Mi⟩]::Rs.own ⟨Mg,Ew,Mj⟩ eI.z Mn::Rs.blk nU [.i YY,.sl ⟨Mg,Ew,Mj⟩]::Rs.own ⟨Mh,Ex,Ml⟩ eI.z Mo::R0) λR=>ROs eI H R ⟨qN,nn,qO⟩ lD/\ROs eI H R ⟨Mf,Ev,Mi⟩ wb/\CR eI H R Mn Mm/\CR eI H R Mo qP)->∀ {r:atl},pC nm lD v_ wb qP kv=some r->Rt (C fb 0 nT 0 nU 0 ⟨Mh,Ex,Ml⟩ kv H) (aH.Q H0 Ri R0  r)
def aH.S981 (H0:Hp) (Ri R0:atf)  (C:atQ) (pC:Int->List Int->Int->List Int->List Int->Int->Int->Option (Int×List Int)):Prop:=∀ {wd wg YZ gD gE Mp Mq Mr Ms Ey mN Ez lV EA nS EB Mt Mu Mv Mw np mi Mx mj My Mz},∀ {H:Hp},Ey=np.length->Ez=mi.length->EA=Mx.length->EB=mj.length->(Out H0 Ri H (Rs.blk mN [.i wd,.sl ⟨Mp,Ey,Mt⟩]::Rs.blk lV [.i wg,.sl ⟨Mq,Ez,Mu⟩]::Rs.own ⟨Mr,EA,Mv⟩ eI.z My::Rs.blk nS [.i YZ,.sl ⟨Mr,EA,Mv⟩]::Rs.own ⟨Ms,EB,Mw⟩ eI.z Mz::R0) λR=>ROs eI H R ⟨Mp,Ey,Mt⟩ np/\ROs eI H R ⟨Mq,Ez,Mu⟩ mi/\CR eI H R My Mx/\CR eI H R Mz mj)->∀ {r:atl},pC wd np wg mi mj gD gE=some r->Rt (C mN 0 lV 0 nS 0 ⟨Ms,EB,Mw⟩ gD gE H) (aH.Q H0 Ri R0  r)
def aH.pj4 (F:Nat) (ar:at2) (EC:Int) (yM:ati) (ED:Int) (yN:ati) (yO:ati) (tu:Int):Option (Int×List Int):=ar EC yM ED yN yO (wrap .i64 (tu+1))
theorem aH.j4_P  {C61_:atV} {ar:at2} (hC61:aH.S61 H0 Ri R0  C61_ ar) {EC ED alE tu Y_ Za Zb Zc MA Bq MB Br MC Bs MD Zd Ze Zf Zg yM yN Zh yO Zi Zj} (alF:MA=yM.length) (alG:MB=yN.length) (alH:MC=Zh.length) (alI:MD=yO.length) (h0:Out H0 Ri H (Rs.blk Bq [.i EC,.sl ⟨Y_,MA,Zd⟩]::Rs.blk Br [.i ED,.sl ⟨Za,MB,Ze⟩]::Rs.own ⟨Zb,MC,Zf⟩ eI.z Zi::Rs.blk Bs [.i alE,.sl ⟨Zb,MC,Zf⟩]::Rs.own ⟨Zc,MD,Zg⟩ eI.z Zj::R0) λR=>ROs eI H R ⟨Y_,MA,Zd⟩ yM/\ROs eI H R ⟨Za,MB,Ze⟩ yN/\CR eI H R Zi Zh/\CR eI H R Zj yO) {r:atl} (hp:aH.pj4 F ar EC yM ED yN yO tu=some r):Rt (aH.j4 F (aR.tw F) C61_ Bq 0 Br 0 Bs 0 ⟨Zc,MD,Zg⟩ tu H) (aH.Q H0 Ri R0  r):=by
 obtain ⟨w0,s0,alJ,alK,alL,alM⟩:=h0
 subst alF
 subst alG
 subst alH
 subst alI
 unfold aH.pj4 at hp
 unfold aH.j4
 exact hC61 rfl rfl rfl rfl ⟨w0,s0,alJ,alK,alL,alM⟩ hp
def aH.pj5 (F:Nat) (ar:at2) (EE:Int) (yP:ati) (EF:Int) (yQ:ati) (yR:ati) (tz:Int):Option (Int×List Int):=aH.pj4 F ar EE yP EF yQ yR tz
theorem aH.j5_P  {C61_:atV} {ar:at2} (hC61:aH.S61 H0 Ri R0  C61_ ar) {EE EF ME tz Zk Zl yS Zm MF Bt MG Bu qQ jQ MH Zn Zo yT Zp yP yQ yU yR yV Zq} (alN:MF=yP.length) (alO:MG=yQ.length) (MI:qQ=yU.length) (alP:MH=yR.length) (h0:Out H0 Ri H (Rs.blk Bt [.i EE,.sl ⟨Zk,MF,Zn⟩]::Rs.blk Bu [.i EF,.sl ⟨Zl,MG,Zo⟩]::Rs.own ⟨yS,qQ,yT⟩ eI.z yV::Rs.blk jQ [.i ME,.sl ⟨yS,qQ,yT⟩]::Rs.own ⟨Zm,MH,Zp⟩ eI.z Zq::R0) λR=>ROs eI H R ⟨Zk,MF,Zn⟩ yP/\ROs eI H R ⟨Zl,MG,Zo⟩ yQ/\CR eI H R yV yU/\CR eI H R Zq yR) {r:atl} (hp:aH.pj5 F ar EE yP EF yQ yR tz=some r):Rt (aH.j5 F (aR.tw F) C61_ Bt 0 Bu 0 jQ 0 ⟨Zm,MH,Zp⟩ tz H) (aH.Q H0 Ri R0  r):=by
 obtain ⟨w0,s0,alQ,alR,Zr,alS⟩:=h0
 subst alN
 subst alO
 subst MI
 subst alP
 unfold aH.pj5 at hp
 unfold aH.j5
 exact aH.j4_P (@hC61) rfl rfl rfl rfl ⟨w0,s0,alQ,alR,Zr,alS⟩ hp
def aH.pl981 (F:Nat) (ar:at2):Nat->Int->List Int->Int->List Int->List Int->Int->Int->Option (Int×List Int)
 | 0,_,_,_,_,_,_,_=>none
 | k+1,wd,np,wg,mi,mj,gD,gE=>(bif (decide (gE<(mi.length:Int))) then ((ix mj (wrap .i64 (gD+gE))).bind λn1=>(ix np gD).bind λn2=>(ix mi gE).bind λn3=>(ix mj (wrap .i64 (gD+gE))).bind λn4=>(some (mj.set n4 (wrap .i64 ((gt mj n1)+(wrap .i64 ((gt np n2) * (gt mi n3))))))).bind λl5=>aH.pl981 F ar k wd np wg mi l5 gD (wrap .i64 (gE+1))) else (aH.pj5 F ar wd np wg mi mj gD))
theorem aH.l981_P  {C61_:atV} {ar:at2} (hC61:aH.S61 H0 Ri R0  C61_ ar):∀ k,aH.S981 H0 Ri R0  (aH.l981 F (aR.tw F) C61_ k) (aH.pl981 F ar k):=by
 intro k
 induction k with
 | zero=>unfold aH.S981;intros;rename_i hp;cases hp
 | succ k ih=>
  intro wd wg YZ gD gE Mp Mq Mr Ms Ey mN Ez lV EA nS EB Mt Mu Mv Mw np mi Mx mj My Mz H alT alU alV alW h0 r hp
  obtain ⟨w0,s0,MJ,MK,Zs,EG⟩:=h0
  subst alT
  subst alU
  subst alV
  subst alW
  unfold aH.pl981 at hp
  unfold aH.l981
  refine lSl w0 1 ?_
  refine ay hp (λhp=>?_) λhp=>?_
  ·obtain ⟨n1,g1,hp⟩:=ag hp
   obtain ⟨p1,q1,i1,h1,j1⟩:=W.ixo (E:=eI) w0 (i:=4) rfl rfl EG g1
   refine ai i1 ?_
   have h1:_=[_]:=h1
   subst h1
   refine ai (aG (j1 0 _ rfl)) ?_
   refine lSl w0 0 ?_
   obtain ⟨n2,g2,hp⟩:=ag hp
   obtain ⟨p2,q2,i2,h2,j2⟩:=ROs.ixr MJ rfl g2
   refine ai i2 ?_
   have h2:_=[_]:=h2
   subst h2
   refine ai (aG (j2 0 _ rfl)) ?_
   refine lSl w0 1 ?_
   obtain ⟨n3,g3,hp⟩:=ag hp
   obtain ⟨p3,q3,i3,h3,j3⟩:=ROs.ixr MK rfl g3
   refine ai i3 ?_
   have h3:_=[_]:=h3
   subst h3
   refine ai (aG (j3 0 _ rfl)) ?_
   obtain ⟨n4,g4,hp⟩:=ag hp
   obtain ⟨p4,q4,i4,h4,j4⟩:=W.ixo (E:=eI) w0 (i:=4) rfl rfl EG g4
   refine ai i4 ?_
   obtain ⟨l5,e5,hp⟩:=ag hp
   refine dD eI w0 (i:=4) (j:=0) (p:=p4) rfl rfl EG g4 i4 e5 rfl rfl (λ_ h=>by have h:_=[_]:=h;subst h;exact rfl) λH6 k6 w6 s6 c6=>?_
   exact ih rfl rfl rfl ((cA e5).symm) ⟨w6,(s0.trans s6),(MJ.step s6),(MK.step s6),(Zs.step s6),c6⟩ hp
  ·exact aH.j5_P (@hC61) rfl rfl rfl rfl ⟨w0,s0,MJ,MK,Zs,EG⟩ hp
def aH.pj3 (F:Nat)  (EH:Int) (EI:Int) (yW:ati):Option (Int×List Int):=(aR.p F (wrap .i64 (EH+EI)) yW).bind λr3=>some (r3.1,r3.2)
theorem aH.j3_P   {EH EI alX Zt Zu Zv Zw ML Bn MM Bo MN pG MO Zx Zy Zz ZA ZB ZC ZD yW ZE ZF} (alY:ML=ZB.length) (alZ:MM=ZC.length) (al0:MN=ZD.length) (al1:MO=yW.length) (h0:Out H0 Ri H (Rs.blk Bn [.i EH,.sl ⟨Zt,ML,Zx⟩]::Rs.blk Bo [.i EI,.sl ⟨Zu,MM,Zy⟩]::Rs.own ⟨Zv,MN,Zz⟩ eI.z ZE::Rs.blk pG [.i alX,.sl ⟨Zv,MN,Zz⟩]::Rs.own ⟨Zw,MO,ZA⟩ eI.z ZF::R0) λR=>ROs eI H R ⟨Zt,ML,Zx⟩ ZB/\ROs eI H R ⟨Zu,MM,Zy⟩ ZC/\CR eI H R ZE ZD/\CR eI H R ZF yW) {r:atl} (hp:aH.pj3 F  EH EI yW=some r):Rt (aH.j3 F (aR.tw F)  Bn 0 Bo 0 pG 0 ⟨Zw,MO,ZA⟩ H) (aH.Q H0 Ri R0  r):=by
 obtain ⟨w0,s0,asG,asH,asJ,al2⟩:=h0
 subst alY
 subst alZ
 subst al0
 subst al1
 unfold aH.pj3 at hp
 unfold aH.j3
 refine lI w0 0 ?_
 refine lI w0 1 ?_
 obtain ⟨w1,s1⟩:=w0.pp [4,0,1,2,3] 5
 have f2:=W.borrow1 eI w1 (al2.step s1)
 obtain ⟨w2,s2⟩:=w1.right1
 obtain ⟨r3,e3,hp⟩:=ag hp
 refine aE (aR.P rfl ⟨w2,f2⟩ e3) ?_
 rintro _ H4 ⟨o1a_4,o1n_4,o1c_4,o1k_4,rfl,rfl,w4,s4,f4_0⟩
 obtain ⟨w5,s5⟩:=W.frame1 w1 w4 s4
 refine br (br (br (br (br ?_))))
 refine aq w5 5 λH6 w6 s6=>?_
 refine aq w6 5 λH7 w7 s7=>?_
 refine lI w7 5 ?_
 refine lSl w7 5 ?_
 obtain ⟨w8,s8⟩:=w7.pp [1] 6
 exact az hp ⟨_,_,_,_,rfl,rfl,w8,(s0.trans (s1.trans (s5.trans (s6.trans (s7.trans s8))))),((CR.flat (fB .i64) f4_0).step (s6.trans (s7.trans s8)))⟩
def aH.pl61 (F:Nat) :Nat->Int->List Int->Int->List Int->List Int->Int->Option (Int×List Int)
 | 0,_,_,_,_,_,_=>none
 | k+1,nm,lD,v_,wb,qP,kv=>(bif (decide (kv<(lD.length:Int))) then (aH.pl981 F (aH.pl61 F k) F nm lD v_ wb qP kv 0) else (aH.pj3 F nm v_ qP))
theorem aH.l61_P  :∀ k,aH.S61 H0 Ri R0  (aH.l61 F (aR.tw F)  k) (aH.pl61 F  k):=by
 intro k
 induction k with
 | zero=>unfold aH.S61;intros;rename_i hp;cases hp
 | succ k ih=>
  intro nm v_ YY kv qN Mf Mg Mh nn fb Ev nT Ew nU Ex qO Mi Mj Ml lD wb Mm qP Mn Mo H MP al3 al4 al5 h0 r hp
  obtain ⟨w0,s0,yX,ZG,ZH,ZI⟩:=h0
  subst MP
  subst al3
  subst al4
  subst al5
  unfold aH.pl61 at hp
  unfold aH.l61
  refine lSl w0 0 ?_
  refine ay hp (λhp=>?_) λhp=>?_
  ·exact aH.l981_P (@ih) F rfl rfl rfl rfl ⟨w0,s0,yX,ZG,ZH,ZI⟩ hp
  ·exact aH.j3_P rfl rfl rfl rfl ⟨w0,s0,yX,ZG,ZH,ZI⟩ hp
def aH.p (F:Nat) (aa:Int) (aF:ati) (au:Int) (bA:ati):Option (Int×List Int):=(bif ((aF.length:Int)==0) then (some (0,([]:List Int))) else ((bif ((bA.length:Int)==0) then (some (0,([]:List Int))) else ((mkn (wrap .i64 ((wrap .i64 ((aF.length:Int)+(bA.length:Int))) - 1)) (0:Int)).bind λl12=>aH.pl61 F F aa aF au bA l12 0))))
theorem aH.P {aa au ck ew bE dh cl ey aF bA} (dv:bE=aF.length) (gO:dh=bA.length) (h0:Inn H R0 λR=>ROs eI H R ⟨ck,bE,cl⟩ aF/\ROs eI H R ⟨ew,dh,ey⟩ bA) {r:atl} (hp:aH.p F aa aF au bA=some r):Rt (aH.tw F aa ⟨ck,bE,cl⟩ au ⟨ew,dh,ey⟩ H) (aH.Q H R0 R0  r):=by
 obtain ⟨w0,ct,fd⟩:=h0
 subst dv
 subst gO
 unfold aH.p at hp
 unfold aH.tw aH.twX
 have s0:=w0.rf
 refine aS w0 λH1 w1 s1=>?_
 refine aS w1 λH2 w2 s2=>?_
 refine aS w2 λH3 w3 s3=>?_
 refine lSl w3 2 ?_
 refine ay hp (λhp=>?_) λhp=>?_
 ·refine aq w3 0 λH4 w4 s4=>?_
  refine aq w4 0 λH5 w5 s5=>?_
  refine lI w5 0 ?_
  refine lSl w5 0 ?_
  obtain ⟨w6,s6⟩:=w5.nilS eI.z (by decide)
  obtain ⟨w7,s7⟩:=w6.pp [0] 4
  exact az hp ⟨_,_,_,_,rfl,rfl,w7,(s0.trans (s1.trans (s2.trans (s3.trans (s4.trans (s5.trans (s6.trans s7))))))),((CR.empty:CR eI _ _ [] []).step s7)⟩
 ·refine lSl w3 1 ?_
  refine ay hp (λhp=>?_) λhp=>?_
  ·refine aq w3 0 λH8 w8 s8=>?_
   refine aq w8 0 λH9 w9 s9=>?_
   refine lI w9 0 ?_
   refine lSl w9 0 ?_
   obtain ⟨w10,s10⟩:=w9.nilS eI.z (by decide)
   obtain ⟨w11,s11⟩:=w10.pp [0] 4
   exact az hp ⟨_,_,_,_,rfl,rfl,w11,(s0.trans (s1.trans (s2.trans (s3.trans (s8.trans (s9.trans (s10.trans s11))))))),((CR.empty:CR eI _ _ [] []).step s11)⟩
  ·refine lSl w3 2 ?_
   refine lSl w3 1 ?_
   obtain ⟨l12,e12,hp⟩:=ag hp
   refine kc eI (0:Int) w3 rfl rfl rfl e12 λH13 k13 w13 s13 c13=>?_
   obtain ⟨w14,s14⟩:=w13.nilS eI.z (by decide)
   obtain ⟨w15,s15⟩:=w14.pp [4,3,0,2,1] 5
   exact aH.l61_P F rfl rfl rfl rfl ⟨w15,(s0.trans (s1.trans (s2.trans (s3.trans (s13.trans (s14.trans s15)))))),(ct.step (s1.trans (s2.trans (s3.trans (s13.trans (s14.trans s15)))))),(fd.step (s1.trans (s2.trans (s3.trans (s13.trans (s14.trans s15)))))),((CR.empty:CR eI _ _ [] []).step s15),(c13.step (s14.trans s15))⟩ hp
def av.Q (H0:Hp) (Ri R0:atf)  (r:atl) (v:AV) (H':Hp):Prop:=∃ o1a:ON,∃ o1n:Nat,∃ o1c:Cap,v=(.agg [(.i r.1),(.sl ⟨o1a,o1n,o1c⟩)])/\o1n=(r.2).length/\Out H0 Ri H' (R0) λR=>ROs eI H' R ⟨o1a,o1n,o1c⟩ (r.2)
def av.S61 (H0:Hp) (Ri R0:atf)  (C:atI) (pC:atv):Prop:=∀ {MQ MR MS EJ EK dO EL MT MU MV wh eb ZJ kx MW MX MY qR},∀ {H:Hp},EJ=wh.length->EK=MW.length->EL=qR.length->(Out H0 Ri H (Rs.own ⟨MR,EK,MU⟩ eI.z MX::Rs.blk dO [.i ZJ,.sl ⟨MR,EK,MU⟩]::Rs.own ⟨MS,EL,MV⟩ (ac eI (eSl eI)).z MY::R0) λR=>ROs (eSl (ac eI (eSl eI))) H R ⟨MQ,EJ,MT⟩ wh/\CR eI H R MX MW/\CR (ac eI (eSl eI)) H R MY qR)->∀ {r:atl},pC wh eb qR kx=some r->Rt (C ⟨MQ,EJ,MT⟩ eb dO 0 ⟨MS,EL,MV⟩ kx H) (av.Q H0 Ri R0  r)
def av.S3925 (H0:Hp) (Ri R0:atf)  (C:Sl->Int->Nat->Nat->Sl->Int->Int->Int->Hp->OA) (pC:List ((List (Int×List Int)))->Int->List (Int×List Int)->Int->Int->Int->Option (Int×List Int)):Prop:=∀ {MZ M_ Na EM EN nY EO Nb Nc Nd qS jm ZK jn kw ia Nf Ng Nh qT},∀ {H:Hp},EM=qS.length->EN=Nf.length->EO=qT.length->(Out H0 Ri H (Rs.own ⟨M_,EN,Nc⟩ eI.z Ng::Rs.blk nY [.i ZK,.sl ⟨M_,EN,Nc⟩]::Rs.own ⟨Na,EO,Nd⟩ (ac eI (eSl eI)).z Nh::R0) λR=>ROs (eSl (ac eI (eSl eI))) H R ⟨MZ,EM,Nb⟩ qS/\CR eI H R Ng Nf/\CR (ac eI (eSl eI)) H R Nh qT)->∀ {r:atl},pC qS jm qT jn kw ia=some r->Rt (C ⟨MZ,EM,Nb⟩ jm nY 0 ⟨Na,EO,Nd⟩ jn kw ia H) (av.Q H0 Ri R0  r)
def av.S31421 (H0:Hp) (Ri R0:atf)  (C:aua) (pC:auc):Prop:=∀ {Ni Nj Nk Nl EP EQ mO ER ES jl Nm Nn No Np jW jj ZL gF jk qU h_ eU Nq oN Nr Ns Nt lE},∀ {H:Hp},EP=jW.length->EQ=Nq.length->ER=lE.length->ES=oN.length->(Out H0 Ri H (Rs.own ⟨Nj,EQ,Nn⟩ eI.z Nr::Rs.blk mO [.i ZL,.sl ⟨Nj,EQ,Nn⟩]::Rs.own ⟨Nk,ER,No⟩ (ac eI (eSl eI)).z Ns::Rs.own ⟨Nl,ES,Np⟩ eI.z Nt::Rs.blk jl [.i qU,.sl ⟨Nl,ES,Np⟩]::R0) λR=>ROs (eSl (ac eI (eSl eI))) H R ⟨Ni,EP,Nm⟩ jW/\CR eI H R Nr Nq/\CR (ac eI (eSl eI)) H R Ns lE/\CR eI H R Nt oN)->∀ {r:atl},pC jW jj lE gF jk qU oN h_ eU=some r->Rt (C ⟨Ni,EP,Nm⟩ jj mO 0 ⟨Nk,ER,No⟩ gF jk jl 0 h_ eU H) (av.Q H0 Ri R0  r)
def av.pj13 (F:Nat) (nq:auc) (yY:aty) (tG:Int) (yZ:atz) (tH:Int) (tI:Int) (ET:Int) (y_:ati) (tJ:Int) (tK:Int):Option (Int×List Int):=nq yY tG yZ tH tI ET y_ tJ (wrap .i64 (tK - 1))
theorem av.j13_P  {C31421_:aua} {nq:auc} (hC31421:av.S31421 H0 Ri R0  C31421_ nq) {ZM ZN ZO ZP Nu Nv BA Nw Nx BB ZQ ZR ZS ZT yY tG al6 tH tI ET tJ tK ZU y_ ZV ZW ZX yZ} (al7:Nu=yY.length) (al8:Nv=ZU.length) (al9:Nw=yZ.length) (al_:Nx=y_.length) (h0:Out H0 Ri H (Rs.own ⟨ZN,Nv,ZR⟩ eI.z ZV::Rs.blk BA [.i al6,.sl ⟨ZN,Nv,ZR⟩]::Rs.own ⟨ZO,Nw,ZS⟩ (ac eI (eSl eI)).z ZW::Rs.own ⟨ZP,Nx,ZT⟩ eI.z ZX::Rs.blk BB [.i ET,.sl ⟨ZP,Nx,ZT⟩]::R0) λR=>ROs (eSl (ac eI (eSl eI))) H R ⟨ZM,Nu,ZQ⟩ yY/\CR eI H R ZV ZU/\CR (ac eI (eSl eI)) H R ZW yZ/\CR eI H R ZX y_) {r:atl} (hp:av.pj13 F nq yY tG yZ tH tI ET y_ tJ tK=some r):Rt (av.j13 F (aH.tw F) (aI.tw F) C31421_ ⟨ZM,Nu,ZQ⟩ tG BA 0 ⟨ZO,Nw,ZS⟩ tH tI BB 0 tJ tK H) (av.Q H0 Ri R0  r):=by
 obtain ⟨w0,s0,ama,amb,amc,amd⟩:=h0
 subst al7
 subst al8
 subst al9
 subst al_
 unfold av.pj13 at hp
 unfold av.j13
 exact hC31421 rfl rfl rfl rfl ⟨w0,s0,ama,amb,amc,amd⟩ hp
def av.pj14 (F:Nat) (nq:auc) (za:aty) (tL:Int) (zb:atz) (tM:Int) (tO:Int) (EU:Int) (zd:ati) (tP:Int) (tQ:Int):Option (Int×List Int):=nq za tL zb tM tO EU zd tP (wrap .i64 (tQ - 1))
theorem av.j14_P  {C31421_:aua} {nq:auc} (hC31421:av.S31421 H0 Ri R0  C31421_ nq) {ZY ZZ Z_ aaa Ny Nz BC NA NB BD aab aac aad aae za tL ame tM tO EU tP tQ aaf zd aag aah aai zb} (amf:Ny=za.length) (amg:Nz=aaf.length) (amh:NA=zb.length) (ami:NB=zd.length) (h0:Out H0 Ri H (Rs.own ⟨ZZ,Nz,aac⟩ eI.z aag::Rs.blk BC [.i ame,.sl ⟨ZZ,Nz,aac⟩]::Rs.own ⟨Z_,NA,aad⟩ (ac eI (eSl eI)).z aah::Rs.own ⟨aaa,NB,aae⟩ eI.z aai::Rs.blk BD [.i EU,.sl ⟨aaa,NB,aae⟩]::R0) λR=>ROs (eSl (ac eI (eSl eI))) H R ⟨ZY,Ny,aab⟩ za/\CR eI H R aag aaf/\CR (ac eI (eSl eI)) H R aah zb/\CR eI H R aai zd) {r:atl} (hp:av.pj14 F nq za tL zb tM tO EU zd tP tQ=some r):Rt (av.j14 F (aH.tw F) (aI.tw F) C31421_ ⟨ZY,Ny,aab⟩ tL BC 0 ⟨Z_,NA,aad⟩ tM tO BD 0 tP tQ H) (av.Q H0 Ri R0  r):=by
 obtain ⟨w0,s0,amj,amk,aml,amm⟩:=h0
 subst amf
 subst amg
 subst amh
 subst ami
 unfold av.pj14 at hp
 unfold av.j14
 exact hC31421 rfl rfl rfl rfl ⟨w0,s0,amj,amk,aml,amm⟩ hp
def av.pj11 (F:Nat) (ar:atv) (ze:aty) (tD:Int) (zf:atz) (tE:Int):Option (Int×List Int):=ar ze tD zf (wrap .i64 (tE+1))
theorem av.j11_P  {C61_:atI} {ar:atv} (hC61:av.S61 H0 Ri R0  C61_ ar) {aaj aak aal NC NE By NF aam aan aao ze tD amn tE aap aaq aar zf} (amo:NC=ze.length) (amp:NE=aap.length) (amq:NF=zf.length) (h0:Out H0 Ri H (Rs.own ⟨aak,NE,aan⟩ eI.z aaq::Rs.blk By [.i amn,.sl ⟨aak,NE,aan⟩]::Rs.own ⟨aal,NF,aao⟩ (ac eI (eSl eI)).z aar::R0) λR=>ROs (eSl (ac eI (eSl eI))) H R ⟨aaj,NC,aam⟩ ze/\CR eI H R aaq aap/\CR (ac eI (eSl eI)) H R aar zf) {r:atl} (hp:av.pj11 F ar ze tD zf tE=some r):Rt (av.j11 F (aH.tw F) (aI.tw F) C61_ ⟨aaj,NC,aam⟩ tD By 0 ⟨aal,NF,aao⟩ tE H) (av.Q H0 Ri R0  r):=by
 obtain ⟨w0,s0,amr,ams,amt⟩:=h0
 subst amo
 subst amp
 subst amq
 unfold av.pj11 at hp
 unfold av.j11
 exact hC61 rfl rfl rfl ⟨w0,s0,amr,ams,amt⟩ hp
def av.pj12 (F:Nat) (ar:atv) (zg:aty) (tF:Int) (qV:atz) (nW:Int) (EV:Int) (zh:ati):Option (Int×List Int):=(ix qV nW).bind λn1=>(some (qV.set n1 (EV,(gt qV n1).2))).bind λl2=>(some (l2.set n1 ((gt l2 n1).1,zh))).bind λl5=>av.pj11 F ar zg tF l5 nW
theorem av.j12_P  {C61_:atI} {ar:atv} (hC61:av.S61 H0 Ri R0  C61_ ar) {aas aat aau aav NG NH Bz NI NJ xi aaw aax aay aaz zg tF amu nW EV aaA zh aaB aaC aaD qV} (amv:NG=zg.length) (amw:NH=aaA.length) (amx:NI=qV.length) (amy:NJ=zh.length) (h0:Out H0 Ri H (Rs.own ⟨aat,NH,aax⟩ eI.z aaB::Rs.blk Bz [.i amu,.sl ⟨aat,NH,aax⟩]::Rs.own ⟨aau,NI,aay⟩ (ac eI (eSl eI)).z aaC::Rs.own ⟨aav,NJ,aaz⟩ eI.z aaD::Rs.blk xi [.i EV,.sl ⟨aav,NJ,aaz⟩]::R0) λR=>ROs (eSl (ac eI (eSl eI))) H R ⟨aas,NG,aaw⟩ zg/\CR eI H R aaB aaA/\CR (ac eI (eSl eI)) H R aaC qV/\CR eI H R aaD zh) {r:atl} (hp:av.pj12 F ar zg tF qV nW EV zh=some r):Rt (av.j12 F (aH.tw F) (aI.tw F) C61_ ⟨aas,NG,aaw⟩ tF Bz 0 ⟨aau,NI,aay⟩ nW xi 0 H) (av.Q H0 Ri R0  r):=by
 obtain ⟨w0,s0,amz,amA,aaE,amB⟩:=h0
 subst amv
 subst amw
 subst amx
 subst amy
 unfold av.pj12 at hp
 unfold av.j12
 refine lI w0 4 ?_
 refine lSl w0 4 ?_
 obtain ⟨n1,g1,hp⟩:=ag hp
 obtain ⟨p1,q1,i1,h1,j1⟩:=W.ixo (E:=(ac eI (eSl eI))) w0 (i:=2) rfl rfl aaE g1
 refine ai i1 ?_
 obtain ⟨l2,e2,hp⟩:=ag hp
 refine dD (ac eI (eSl eI)) w0 (i:=2) (j:=0) (p:=p1) rfl rfl aaE g1 i1 e2 rfl rfl (λ_ h=>by obtain ⟨_,_,rfl,rfl,⟨_,rfl,q1⟩⟩:=h;exact ⟨[_],_,rfl,rfl,⟨_,rfl,q1⟩⟩) λH3 k3 w3 s3 c3=>?_
 obtain ⟨w4,s4,f4⟩:=w3.frz (i:=3) eI rfl (amB.step s3)
 obtain ⟨l5,e5,hp⟩:=ag hp
 refine dD (ac eI (eSl eI)) w4 (i:=2) (j:=1) (p:=p1) rfl rfl (c3.step s4) (mw g1 (cA e2)) i1 e5 rfl rfl (λ_ h=>by obtain ⟨_,_,rfl,rfl,⟨_,rfl,q1⟩⟩:=h;exact ⟨[_],_,rfl,rfl,⟨_,rfl,f4⟩⟩) λH6 k6 w6 s6 c6=>?_
 obtain ⟨w7,s7⟩:=w6.pp [0,1,2] 4
 exact av.j11_P (@hC61) rfl rfl ((cA e2).symm.trans (cA e5).symm) ⟨w7,(s0.trans (s3.trans (s4.trans (s6.trans s7)))),(amz.step (s3.trans (s4.trans (s6.trans s7)))),(amA.step (s3.trans (s4.trans (s6.trans s7)))),(c6.step s7)⟩ hp
def av.pl31421 (F:Nat) (ar:atv):Nat->List ((List (Int×List Int)))->Int->List (Int×List Int)->Int->Int->Int->List Int->Int->Int->Option (Int×List Int)
 | 0,_,_,_,_,_,_,_,_,_=>none
 | k+1,jW,jj,lE,gF,jk,qU,oN,h_,eU=>(bif (decide (eU>=0)) then ((if (IntKind.u64.wrap eU)<0 then none else ((bif ((Go.bits .and .i64 (Int.fdiv gF (2 ^ (min ((IntKind.u64.wrap eU):Int).toNat (IntKind.i64).bits))) 1)==0) then (av.pj13 F (av.pl31421 F ar k) jW jj lE gF jk qU oN h_ eU) else ((ix jW jk).bind λn2=>(ix (gt jW n2) eU).bind λn3=>(if (IntKind.u64.wrap eU)<0 then none else ((ix lE (wrap .i64 (gF - (wrap .i64 (1 * 2 ^ (min ((IntKind.u64.wrap eU):Int).toNat (IntKind.i64).bits)))))).bind λn5=>(aH.p F ((gt (gt jW n2) n3).1) ((gt (gt jW n2) n3).2) ((gt lE n5).1) ((gt lE n5).2)).bind λr6=>(aH.p F r6.1 r6.2 0 ([h_]:List Int)).bind λr16=>(aI.p F qU oN r16.1 r16.2).bind λr24=>av.pj14 F (av.pl31421 F ar k) jW jj lE gF jk r24.1 r24.2 (wrap .i64 (0 - h_)) eU))))))) else (av.pj12 F ar jW jj lE gF qU oN))
theorem av.l31421_P  {C61_:atI} {ar:atv} (hC61:av.S61 H0 Ri R0  C61_ ar):∀ k,av.S31421 H0 Ri R0  (av.l31421 F (aH.tw F) (aI.tw F) C61_ k) (av.pl31421 F ar k):=by
 intro k
 induction k with
 | zero=>unfold av.S31421;intros;rename_i hp;cases hp
 | succ k ih=>
  intro Ni Nj Nk Nl EP EQ mO ER ES jl Nm Nn No Np jW jj ZL gF jk qU h_ eU Nq oN Nr Ns Nt lE H amC amD amE amF h0 r hp
  obtain ⟨w0,s0,EW,NK,EY,NL⟩:=h0
  subst amC
  subst amD
  subst amE
  subst amF
  unfold av.pl31421 at hp
  unfold av.l31421
  refine ay hp (λhp=>?_) λhp=>?_
  ·obtain ⟨g1,hp⟩:=kd hp
   refine ke g1 ?_
   refine ay hp (λhp=>?_) λhp=>?_
   ·exact av.j13_P (@ih) rfl rfl rfl rfl ⟨w0,s0,EW,NK,EY,NL⟩ hp
   ·obtain ⟨n2,g2,hp⟩:=ag hp
    obtain ⟨p2,q2,i2,h2,j2⟩:=ROs.ixr EW rfl g2
    refine ai i2 ?_
    obtain ⟨⟨amG,m2_0,c2_0⟩,rfl,f2_0⟩:=h2
    obtain rfl:m2_0=_:=f2_0.n
    refine ai (iG (j2 0 _ rfl)) ?_
    obtain ⟨n3,g3,hp⟩:=ag hp
    obtain ⟨p3,q3,i3,h3,j3⟩:=ROs.ixr f2_0 rfl g3
    refine ai i3 ?_
    obtain ⟨_,_,rfl,rfl,⟨⟨amH,m3_1,c3_1⟩,rfl,f3_1⟩⟩:=h3
    obtain rfl:m3_1=_:=f3_1.n
    refine ai (aG (j3 0 _ rfl)) ?_
    refine ai (iG (j3 1 _ rfl)) ?_
    obtain ⟨g4,hp⟩:=kd hp
    refine ke g4 ?_
    obtain ⟨n5,g5,hp⟩:=ag hp
    obtain ⟨p5,q5,i5,h5,j5⟩:=W.ixo (E:=(ac eI (eSl eI))) w0 (i:=2) rfl rfl EY g5
    refine ai i5 ?_
    obtain ⟨_,_,rfl,rfl,⟨⟨amI,m5_1,c5_1⟩,rfl,f5_1⟩⟩:=h5
    obtain rfl:m5_1=_:=f5_1.n
    refine ai (aG (j5 0 _ rfl)) ?_
    refine ai (iG (j5 1 _ rfl)) ?_
    obtain ⟨r6,e6,hp⟩:=ag hp
    refine aE (aH.P rfl rfl ⟨w0,f3_1,f5_1⟩ e6) ?_
    rintro _ H7 ⟨o1a_7,o1n_7,o1c_7,o1k_7,rfl,rfl,w7,s7,f7_0⟩
    refine br (br (br (br (br ?_))))
    refine eL (W.cons_of (Rn:=[_]) w0 w7 s7) ?_
    refine aS w7 λH9 w9 s9=>?_
    refine aq w9 0 λH10 w10 s10=>?_
    refine aq w10 0 λH11 w11 s11=>?_
    refine lI w11 6 ?_
    refine lSl w11 6 ?_
    refine lI w11 0 ?_
    refine lSl w11 0 ?_
    refine cL eI w11 (n:=1) (l:=([h_]:List Int)) rfl (CR.cons1 rfl CR.empty) rfl λH12 w12 s12 c12=>?_
    obtain ⟨w13,s13⟩:=w12.pp [2,0,1,3,4,5,6,7] 8
    have f14:=W.borrow1 eI w13 (f7_0.step (s9.trans (s10.trans (s11.trans (s12.trans s13)))))
    obtain ⟨w14,s14⟩:=w13.right1
    have f15:=W.borrow1 eI w14 ((c12.step s13).step s14)
    obtain ⟨w15,s15⟩:=w14.right1
    obtain ⟨r16,e16,hp⟩:=ag hp
    refine aE (aH.P rfl (show 1=List.length ([h_]:List Int) from rfl) ⟨w15,(f14.step s15),f15⟩ e16) ?_
    rintro _ H17 ⟨o1a_17,o1n_17,o1c_17,o1k_17,rfl,rfl,w17,s17,f17_0⟩
    obtain ⟨w18,s18⟩:=W.frame1 w14 w17 s17
    obtain ⟨w19,s19⟩:=W.frame1 w13 w18 s18
    refine br (br (br (br (br ?_))))
    refine eL (aZ.tr (aZ.refl _) s13 (W.cons_of (Rn:=[_]) w15 w17 s17)) ?_
    obtain ⟨w21,s21⟩:=w19.pp [7,2,0,1,3,4,5,6,8] 9
    have f22:=W.borrow1 eI w21 (NL.step (s7.trans (s9.trans (s10.trans (s11.trans (s12.trans (s13.trans (s19.trans s21))))))))
    obtain ⟨w22,s22⟩:=w21.right1
    have f23:=W.borrow1 eI w22 (((CR.flat (fB .i64) f17_0).step s21).step s22)
    obtain ⟨w23,s23⟩:=w22.right1
    obtain ⟨r24,e24,hp⟩:=ag hp
    refine aE (aI.P rfl rfl ⟨w23,(f22.step s23),f23⟩ e24) ?_
    rintro _ H25 ⟨o1a_25,o1n_25,o1c_25,o1k_25,rfl,rfl,w25,s25,f25_0⟩
    obtain ⟨w26,s26⟩:=W.frame1 w22 w25 s25
    obtain ⟨w27,s27⟩:=W.frame1 w21 w26 s26
    refine br (br (br (br (br ?_))))
    refine aq w27 9 λH28 w28 s28=>?_
    refine aq w28 9 λH29 w29 s29=>?_
    obtain ⟨w30,s30⟩:=w29.pp [6,7,8,2,9] 10
    exact av.j14_P (@ih) rfl rfl rfl rfl ⟨w30,(s0.trans (s7.trans (s9.trans (s10.trans (s11.trans (s12.trans (s13.trans (s19.trans (s21.trans (s27.trans (s28.trans (s29.trans s30)))))))))))),(EW.step (s7.trans (s9.trans (s10.trans (s11.trans (s12.trans (s13.trans (s19.trans (s21.trans (s27.trans (s28.trans (s29.trans s30)))))))))))),(NK.step (s7.trans (s9.trans (s10.trans (s11.trans (s12.trans (s13.trans (s19.trans (s21.trans (s27.trans (s28.trans (s29.trans s30)))))))))))),(EY.step (s7.trans (s9.trans (s10.trans (s11.trans (s12.trans (s13.trans (s19.trans (s21.trans (s27.trans (s28.trans (s29.trans s30)))))))))))),((CR.flat (fB .i64) f25_0).step (s28.trans (s29.trans s30)))⟩ hp
  ·exact av.j12_P (@hC61) rfl rfl rfl rfl ⟨w0,s0,EW,NK,EY,NL⟩ hp
def av.pj15 (F:Nat) (ar:atv) (zi:aty) (nX:Int) (zj:atz) (tT:Int) (tU:Int):Option (Int×List Int):=av.pl31421 F ar F zi nX zj tT tU 0 ([]:List Int) 1 (wrap .i64 (nX - 1))
theorem av.j15_P  {C61_:atI} {ar:atv} (hC61:av.S61 H0 Ri R0  C61_ ar) {aaF aaG aaH NM NN BE NO aaI aaJ aaK zi nX amJ tT tU aaL aaM aaN zj} (amK:NM=zi.length) (amL:NN=aaL.length) (amM:NO=zj.length) (h0:Out H0 Ri H (Rs.own ⟨aaG,NN,aaJ⟩ eI.z aaM::Rs.blk BE [.i amJ,.sl ⟨aaG,NN,aaJ⟩]::Rs.own ⟨aaH,NO,aaK⟩ (ac eI (eSl eI)).z aaN::R0) λR=>ROs (eSl (ac eI (eSl eI))) H R ⟨aaF,NM,aaI⟩ zi/\CR eI H R aaM aaL/\CR (ac eI (eSl eI)) H R aaN zj) {r:atl} (hp:av.pj15 F ar zi nX zj tT tU=some r):Rt (av.j15 F (aH.tw F) (aI.tw F) C61_ ⟨aaF,NM,aaI⟩ nX BE 0 ⟨aaH,NO,aaK⟩ tT tU H) (av.Q H0 Ri R0  r):=by
 obtain ⟨w0,s0,amN,amO,amP⟩:=h0
 subst amK
 subst amL
 subst amM
 unfold av.pj15 at hp
 unfold av.j15
 refine aS w0 λH1 w1 s1=>?_
 refine aq w1 0 λH2 w2 s2=>?_
 refine aq w2 0 λH3 w3 s3=>?_
 obtain ⟨w4,s4⟩:=w3.nilS eI.z (by decide)
 obtain ⟨w5,s5⟩:=w4.pp [2,3,4,0,1] 5
 exact av.l31421_P (@hC61) F rfl rfl rfl rfl ⟨w5,(s0.trans (s1.trans (s2.trans (s3.trans (s4.trans s5))))),(amN.step (s1.trans (s2.trans (s3.trans (s4.trans s5))))),(amO.step (s1.trans (s2.trans (s3.trans (s4.trans s5))))),(amP.step (s1.trans (s2.trans (s3.trans (s4.trans s5))))),((CR.empty:CR eI _ _ [] []).step s5)⟩ hp
def av.pl3925 (F:Nat) (ar:atv):Nat->List ((List (Int×List Int)))->Int->List (Int×List Int)->Int->Int->Int->Option (Int×List Int)
 | 0,_,_,_,_,_,_=>none
 | k+1,qS,jm,qT,jn,kw,ia=>(bif (decide (ia<jm)) then ((if (IntKind.u64.wrap ia)<0 then none else (av.pl3925 F ar k qS jm qT jn (wrap .i64 (kw+(Go.bits .and .i64 (Int.fdiv jn (2 ^ (min ((IntKind.u64.wrap ia):Int).toNat (IntKind.i64).bits))) 1))) (wrap .i64 (ia+1))))) else (av.pj15 F ar qS jm qT jn kw))
theorem av.l3925_P  {C61_:atI} {ar:atv} (hC61:av.S61 H0 Ri R0  C61_ ar):∀ k,av.S3925 H0 Ri R0  (av.l3925 F (aH.tw F) (aI.tw F) C61_ k) (av.pl3925 F ar k):=by
 intro k
 induction k with
 | zero=>unfold av.S3925;intros;rename_i hp;cases hp
 | succ k ih=>
  intro MZ M_ Na EM EN nY EO Nb Nc Nd qS jm ZK jn kw ia Nf Ng Nh qT H amQ amR amS h0 r hp
  obtain ⟨w0,s0,aaO,aaP,aaQ⟩:=h0
  subst amQ
  subst amR
  subst amS
  unfold av.pl3925 at hp
  unfold av.l3925
  refine ay hp (λhp=>?_) λhp=>?_
  ·obtain ⟨g1,hp⟩:=kd hp
   refine ke g1 ?_
   exact ih rfl rfl rfl ⟨w0,s0,aaO,aaP,aaQ⟩ hp
  ·exact av.j15_P (@hC61) rfl rfl rfl ⟨w0,s0,aaO,aaP,aaQ⟩ hp
def av.pj8 (F:Nat)  (nV:Int) (qW:atz):Option (Int×List Int):=(if (IntKind.u64.wrap nV)<0 then none else ((ix qW (wrap .i64 ((wrap .i64 (1 * 2 ^ (min ((IntKind.u64.wrap nV):Int).toNat (IntKind.i64).bits))) - 1))).bind λn2=>some (((gt qW n2).1),(gt qW n2).2)))
theorem av.j8_P   {nV amT aaR aaS NP pH NQ aaT aaU aaV aaW aaX qW} (amU:NP=aaV.length) (amV:NQ=qW.length) (h0:Out H0 Ri H (Rs.own ⟨aaR,NP,aaT⟩ eI.z aaW::Rs.blk pH [.i amT,.sl ⟨aaR,NP,aaT⟩]::Rs.own ⟨aaS,NQ,aaU⟩ (ac eI (eSl eI)).z aaX::R0) λR=>CR eI H R aaW aaV/\CR (ac eI (eSl eI)) H R aaX qW) {r:atl} (hp:av.pj8 F  nV qW=some r):Rt (av.j8 F (aH.tw F) (aI.tw F)  nV pH 0 ⟨aaS,NQ,aaU⟩ H) (av.Q H0 Ri R0  r):=by
 obtain ⟨w0,s0,asK,amW⟩:=h0
 subst amU
 subst amV
 unfold av.pj8 at hp
 unfold av.j8
 obtain ⟨g1,hp⟩:=kd hp
 refine ke g1 ?_
 obtain ⟨n2,g2,hp⟩:=ag hp
 obtain ⟨p2,q2,i2,h2,j2⟩:=W.ixo (E:=(ac eI (eSl eI))) w0 (i:=2) rfl rfl amW g2
 refine ai i2 ?_
 obtain ⟨_,_,rfl,rfl,⟨⟨amX,m2_1,c2_1⟩,rfl,f2_1⟩⟩:=h2
 obtain rfl:m2_1=_:=f2_1.n
 refine ai (aG (j2 0 _ rfl)) ?_
 refine ai (iG (j2 1 _ rfl)) ?_
 refine aq w0 1 λH3 w3 s3=>?_
 refine aq w3 1 λH4 w4 s4=>?_
 refine lI w4 1 ?_
 refine lSl w4 1 ?_
 obtain ⟨w5,s5⟩:=w4.pp [] 3
 exact az hp ⟨_,_,_,rfl,rfl,w5,(s0.trans (s3.trans (s4.trans s5))),(f2_1.step (s3.trans (s4.trans s5)))⟩
def av.pl61 (F:Nat) :Nat->List ((List (Int×List Int)))->Int->List (Int×List Int)->Int->Option (Int×List Int)
 | 0,_,_,_,_=>none
 | k+1,wh,eb,qR,kx=>(if (IntKind.u64.wrap eb)<0 then none else ((bif (decide (kx<(wrap .i64 (1 * 2 ^ (min ((IntKind.u64.wrap eb):Int).toNat (IntKind.i64).bits))))) then (av.pl3925 F (av.pl61 F k) F wh eb qR kx (-1) 0) else (av.pj8 F eb qR))))
theorem av.l61_P  :∀ k,av.S61 H0 Ri R0  (av.l61 F (aH.tw F) (aI.tw F)  k) (av.pl61 F  k):=by
 intro k
 induction k with
 | zero=>unfold av.S61;intros;rename_i hp;cases hp
 | succ k ih=>
  intro MQ MR MS EJ EK dO EL MT MU MV wh eb ZJ kx MW MX MY qR H amY amZ am0 h0 r hp
  obtain ⟨w0,s0,am1,aaY,aaZ⟩:=h0
  subst amY
  subst amZ
  subst am0
  unfold av.pl61 at hp
  unfold av.l61
  obtain ⟨g1,hp⟩:=kd hp
  refine ke g1 ?_
  refine ay hp (λhp=>?_) λhp=>?_
  ·exact av.l3925_P (@ih) F rfl rfl rfl ⟨w0,s0,am1,aaY,aaZ⟩ hp
  ·exact av.j8_P rfl rfl ⟨w0,s0,aaY,aaZ⟩ hp
def av.p (F:Nat) (ah:aty) (aA:Int):Option (Int×List Int):=(if (IntKind.u64.wrap aA)<0 then none else ((mkn (wrap .i64 (1 * 2 ^ (min ((IntKind.u64.wrap aA):Int).toNat (IntKind.i64).bits))) ((0:Int),([]:List Int))).bind λl3=>(ix l3 0).bind λn6=>(some (l3.set n6 (0,(gt l3 n6).2))).bind λl7=>(some (l7.set n6 ((gt l7 n6).1,([1]:List Int)))).bind λl10=>av.pl61 F F ah aA l10 1))
theorem av.P {aB ak aC ah aA} (ba:ak=ah.length) (h0:Inn H R0 λR=>ROs (eSl (ac eI (eSl eI))) H R ⟨aB,ak,aC⟩ ah) {r:atl} (hp:av.p F ah aA=some r):Rt (av.tw F ⟨aB,ak,aC⟩ aA H) (av.Q H R0 R0  r):=by
 obtain ⟨w0,aO⟩:=h0
 subst ba
 unfold av.p at hp
 unfold av.tw av.twX
 have s0:=w0.rf
 refine aS w0 λH1 w1 s1=>?_
 obtain ⟨g2,hp⟩:=kd hp
 refine ke g2 ?_
 obtain ⟨l3,e3,hp⟩:=ag hp
 refine kc (ac eI (eSl eI)) ((0:Int),([]:List Int)) w1 ⟨[_],_,rfl,rfl,⟨_,rfl,ROs.nil⟩⟩ rfl rfl e3 λH4 k4 w4 s4 c4=>?_
 refine cL eI w4 (n:=1) (l:=([1]:List Int)) rfl (CR.cons1 rfl CR.empty) rfl λH5 w5 s5 c5=>?_
 obtain ⟨n6,g6,hp⟩:=ag hp
 obtain ⟨p6,q6,i6,h6,j6⟩:=W.ixo (E:=(ac eI (eSl eI))) w5 (i:=1) rfl rfl (c4.step s5) g6
 refine ai i6 ?_
 obtain ⟨l7,e7,hp⟩:=ag hp
 refine dD (ac eI (eSl eI)) w5 (i:=1) (j:=0) (p:=p6) rfl rfl (c4.step s5) g6 i6 e7 rfl rfl (λ_ h=>by obtain ⟨_,_,rfl,rfl,⟨_,rfl,q1⟩⟩:=h;exact ⟨[_],_,rfl,rfl,⟨_,rfl,q1⟩⟩) λH8 k8 w8 s8 c8=>?_
 obtain ⟨w9,s9,f9⟩:=w8.frz (i:=0) eI rfl (c5.step s8)
 obtain ⟨l10,e10,hp⟩:=ag hp
 refine dD (ac eI (eSl eI)) w9 (i:=0) (j:=1) (p:=p6) rfl rfl (c8.step s9) (mw g6 (cA e7)) i6 e10 rfl rfl (λ_ h=>by obtain ⟨_,_,rfl,rfl,⟨_,rfl,q1⟩⟩:=h;exact ⟨[_],_,rfl,rfl,⟨_,rfl,f9⟩⟩) λH11 k11 w11 s11 c11=>?_
 obtain ⟨w12,s12⟩:=w11.nilS eI.z (by decide)
 obtain ⟨w13,s13⟩:=w12.pp [0,2,1] 3
 exact av.l61_P F rfl rfl ((cA e7).symm.trans (cA e10).symm) ⟨w13,(s0.trans (s1.trans (s4.trans (s5.trans (s8.trans (s9.trans (s11.trans (s12.trans s13)))))))),(aO.step (s1.trans (s4.trans (s5.trans (s8.trans (s9.trans (s11.trans (s12.trans s13)))))))),((CR.empty:CR eI _ _ [] []).step s13),(c11.step (s12.trans s13))⟩ hp
def bG.Q (H0:Hp) (Ri R0:atf)  (r:Bool) (v:AV) (H':Hp):Prop:=v=(.bool r)/\Out H0 Ri H' (R0) λR=>True
def bG.S125 (H0:Hp) (Ri R0:atf)  (C:Nat->Nat->Int->Hp->OA) (pC:List Int->Int->Option (Bool)):Prop:=∀ {aa0 fK NR EZ mQ NS nr},∀ {H:Hp},EZ=nr.length->(Out H0 Ri H (Rs.blk mQ [.i aa0,.sl ⟨NR,EZ,NS⟩]::R0) λR=>ROs eI H R ⟨NR,EZ,NS⟩ nr)->∀ {r:Bool},pC nr fK=some r->Rt (C mQ 0 fK H) (bG.Q H0 Ri R0  r)
def bG.pl125 (F:Nat) :Nat->List Int->Int->Option (Bool)
 | 0,_,_=>none
 | k+1,nr,fK=>(bif (decide (fK<(nr.length:Int))) then ((ix nr fK).bind λn1=>(cS.p F (gt nr n1) (-1000000000000) 1000000000000).bind λr2=>(bif (!r2) then (some false) else (bG.pl125 F k nr (wrap .i64 (fK+1))))) else (some true))
theorem bG.l125_P  :∀ k,bG.S125 H0 Ri R0  (bG.l125 F (cS.tw F)  k) (bG.pl125 F  k):=by
 intro k
 induction k with
 | zero=>unfold bG.S125;intros;rename_i hp;cases hp
 | succ k ih=>
  intro aa0 fK NR EZ mQ NS nr H am2 h0 r hp
  obtain ⟨w0,s0,aa1⟩:=h0
  subst am2
  unfold bG.pl125 at hp
  unfold bG.l125
  refine lSl w0 0 ?_
  refine ay hp (λhp=>?_) λhp=>?_
  ·refine lSl w0 0 ?_
   obtain ⟨n1,g1,hp⟩:=ag hp
   obtain ⟨p1,q1,i1,h1,j1⟩:=ROs.ixr aa1 rfl g1
   refine ai i1 ?_
   have h1:_=[_]:=h1
   subst h1
   refine ai (aG (j1 0 _ rfl)) ?_
   obtain ⟨r2,e2,hp⟩:=ag hp
   refine aE (cS.P ⟨w0,trivial⟩ e2) ?_
   rintro _ H3 ⟨rfl,w3,s3,_⟩
   refine br ?_
   refine ay hp (λhp=>?_) λhp=>?_
   ·obtain ⟨w4,s4⟩:=w3.pp [] 1
    exact az hp ⟨rfl,w4,(s0.trans (s3.trans s4)),trivial⟩
   ·exact ih rfl ⟨w3,(s0.trans s3),(aa1.step s3)⟩ hp
  ·obtain ⟨w5,s5⟩:=w0.pp [] 1
   exact az hp ⟨rfl,w5,(s0.trans s5),trivial⟩
def bG.p (F:Nat) (aa:Int) (aF:ati):Option (Bool):=(bif ((aF.length:Int)==0) then (some (aa==0)) else ((bif (decide ((aF.length:Int)>160)) then (some false) else ((cS.p F aa (-240) 240).bind λr4=>(bif (!r4) then (some false) else ((bif (decide ((wrap .i64 ((wrap .i64 (aa+(aF.length:Int))) - 1))>240)) then (some false) else ((ix aF 0).bind λn8=>(bif ((gt aF n8)==0) then (some false) else ((ix aF (wrap .i64 ((aF.length:Int) - 1))).bind λn10=>(bif ((gt aF n10)==0) then (some false) else (bG.pl125 F F aF 0))))))))))))
theorem bG.P {aa ck bE cl aF} (dv:bE=aF.length) (h0:Inn H R0 λR=>ROs eI H R ⟨ck,bE,cl⟩ aF) {r:Bool} (hp:bG.p F aa aF=some r):Rt (bG.tw F aa ⟨ck,bE,cl⟩ H) (bG.Q H R0 R0  r):=by
 obtain ⟨w0,ct⟩:=h0
 subst dv
 unfold bG.p at hp
 unfold bG.tw bG.twX
 have s0:=w0.rf
 refine aS w0 λH1 w1 s1=>?_
 refine lSl w1 0 ?_
 refine ay hp (λhp=>?_) λhp=>?_
 ·refine lI w1 0 ?_
  obtain ⟨w2,s2⟩:=w1.pp [] 1
  exact az hp ⟨rfl,w2,(s0.trans (s1.trans s2)),trivial⟩
 ·refine ay hp (λhp=>?_) λhp=>?_
  ·obtain ⟨w3,s3⟩:=w1.pp [] 1
   exact az hp ⟨rfl,w3,(s0.trans (s1.trans s3)),trivial⟩
  ·refine lI w1 0 ?_
   obtain ⟨r4,e4,hp⟩:=ag hp
   refine aE (cS.P ⟨w1,trivial⟩ e4) ?_
   rintro _ H5 ⟨rfl,w5,s5,_⟩
   refine br ?_
   refine ay hp (λhp=>?_) λhp=>?_
   ·obtain ⟨w6,s6⟩:=w5.pp [] 1
    exact az hp ⟨rfl,w6,(s0.trans (s1.trans (s5.trans s6))),trivial⟩
   ·refine lI w5 0 ?_
    refine ay hp (λhp=>?_) λhp=>?_
    ·obtain ⟨w7,s7⟩:=w5.pp [] 1
     exact az hp ⟨rfl,w7,(s0.trans (s1.trans (s5.trans s7))),trivial⟩
    ·refine lSl w5 0 ?_
     obtain ⟨n8,g8,hp⟩:=ag hp
     obtain ⟨p8,q8,i8,h8,j8⟩:=ROs.ixr (ct.step (s1.trans s5)) rfl g8
     refine ai i8 ?_
     have h8:_=[_]:=h8
     subst h8
     refine ai (aG (j8 0 _ rfl)) ?_
     refine ay hp (λhp=>?_) λhp=>?_
     ·obtain ⟨w9,s9⟩:=w5.pp [] 1
      exact az hp ⟨rfl,w9,(s0.trans (s1.trans (s5.trans s9))),trivial⟩
     ·refine lSl w5 0 ?_
      obtain ⟨n10,g10,hp⟩:=ag hp
      obtain ⟨p10,q10,i10,h10,j10⟩:=ROs.ixr (ct.step (s1.trans s5)) rfl g10
      refine ai i10 ?_
      have h10:_=[_]:=h10
      subst h10
      refine ai (aG (j10 0 _ rfl)) ?_
      refine ay hp (λhp=>?_) λhp=>?_
      ·obtain ⟨w11,s11⟩:=w5.pp [] 1
       exact az hp ⟨rfl,w11,(s0.trans (s1.trans (s5.trans s11))),trivial⟩
      ·exact bG.l125_P F rfl ⟨w5,(s0.trans (s1.trans s5)),(ct.step (s1.trans s5))⟩ hp
def bm.Q (H0:Hp) (Ri R0:atf)  (r:atl) (v:AV) (H':Hp):Prop:=∃ o1a:ON,∃ o1n:Nat,∃ o1c:Cap,∃ o1k:List AV,v=(.agg [(.i r.1),(.sl ⟨o1a,o1n,o1c⟩)])/\o1n=(r.2).length/\Out H0 Ri H' (Rs.own ⟨o1a,o1n,o1c⟩ eI.z o1k::R0) λR=>CR eI H' R o1k (r.2)
def bm.S61 (H0:Hp) (Ri R0:atf)  (C:aue) (pC:aur):Prop:=∀ {aa2 nm qX ft NT qN NU E_ ky nn fb Fa hZ NV qO NW jI lD oO NX NY},∀ {H:Hp},E_=jI.length->nn=lD.length->Fa=oO.length->(Out H0 Ri H (Rs.blk ky [.i aa2,.sl ⟨NT,E_,NV⟩]::Rs.own ⟨qN,nn,qO⟩ eI.z NX::Rs.blk fb [.i nm,.sl ⟨qN,nn,qO⟩]::Rs.own ⟨NU,Fa,NW⟩ eI.z NY::Rs.blk hZ [.i qX,.sl ⟨NU,Fa,NW⟩]::R0) λR=>ROs eI H R ⟨NT,E_,NV⟩ jI/\CR eI H R NX lD/\CR eI H R NY oO)->∀ {r:atl},pC jI qX oO ft=some r->Rt (C ky 0 fb 0 hZ 0 ft H) (bm.Q H0 Ri R0  r)
def bm.pj2 (F:Nat) (ar:aur) (zk:ati) (Fb:Int) (zm:ati) (tW:Int) (nZ:Int):Option (Int×List Int):=(apn zm ([nZ]:List Int)).bind λl2=>ar zk Fb l2 (wrap .i64 (tW+1))
theorem bm.j2_P  {C61_:aue} {ar:aur} (hC61:bm.S61 H0 Ri R0  C61_ ar) {am3 am4 Fb tW nZ aa3 aa4 aa5 NZ BJ N_ BK Oa tV aa6 aa7 aa8 zk aa9 zm aa_ aba} (am5:NZ=zk.length) (am6:N_=aa9.length) (am7:Oa=zm.length) (h0:Out H0 Ri H (Rs.blk BJ [.i am3,.sl ⟨aa3,NZ,aa6⟩]::Rs.own ⟨aa4,N_,aa7⟩ eI.z aa_::Rs.blk BK [.i am4,.sl ⟨aa4,N_,aa7⟩]::Rs.own ⟨aa5,Oa,aa8⟩ eI.z aba::Rs.blk tV [.i Fb,.sl ⟨aa5,Oa,aa8⟩]::R0) λR=>ROs eI H R ⟨aa3,NZ,aa6⟩ zk/\CR eI H R aa_ aa9/\CR eI H R aba zm) {r:atl} (hp:bm.pj2 F ar zk Fb zm tW nZ=some r):Rt (bm.j2 F (bG.tw F) C61_ BJ 0 BK 0 tV 0 tW nZ H) (bm.Q H0 Ri R0  r):=by
 obtain ⟨w0,s0,am8,am9,am_⟩:=h0
 subst am5
 subst am6
 subst am7
 unfold bm.pj2 at hp
 unfold bm.j2
 refine lSl w0 4 ?_
 refine cL eI w0 (n:=1) (l:=([nZ]:List Int)) rfl (CR.cons1 rfl CR.empty) rfl λH1 w1 s1 c1=>?_
 refine ai (w1.rowo (i:=0) rfl) ?_
 obtain ⟨l2,e2,hp⟩:=ag hp
 refine fA eI w1 (i:=4) rfl rfl (am_.step s1) c1 (show 1=List.length ([nZ]:List Int) from rfl) rfl e2 λa3 d3 H3 w3 s3 c3 x3=>?_
 refine aq w3 5 λH4 w4 s4=>?_
 obtain ⟨w5,s5⟩:=w4.pp [1,2,3,4,5] 6
 exact hC61 rfl rfl rfl ⟨w5,(s0.trans (s1.trans (s3.trans (s4.trans s5)))),(am8.step (s1.trans (s3.trans (s4.trans s5)))),(am9.step (s1.trans (s3.trans (s4.trans s5)))),(c3.step (s4.trans s5))⟩ hp
def bm.pl61 (F:Nat) :Nat->List Int->Int->List Int->Int->Option (Int×List Int)
 | 0,_,_,_,_=>none
 | k+1,jI,qX,oO,ft=>(bif (decide (ft<(jI.length:Int))) then ((ix jI ft).bind λn1=>(ix jI 0).bind λn2=>(bif (decide ((gt jI n2)<0)) then (bm.pj2 F (bm.pl61 F k) jI qX oO ft (wrap .i64 (0 - (gt jI n1)))) else (bm.pj2 F (bm.pl61 F k) jI qX oO ft (gt jI n1)))) else (some (qX,oO)))
theorem bm.l61_P  :∀ k,bm.S61 H0 Ri R0  (bm.l61 F (bG.tw F)  k) (bm.pl61 F  k):=by
 intro k
 induction k with
 | zero=>unfold bm.S61;intros;rename_i hp;cases hp
 | succ k ih=>
  intro aa2 nm qX ft NT qN NU E_ ky nn fb Fa hZ NV qO NW jI lD oO NX NY H ana MP anb h0 r hp
  obtain ⟨w0,s0,Fc,yX,Ob⟩:=h0
  subst ana
  subst MP
  subst anb
  unfold bm.pl61 at hp
  unfold bm.l61
  refine lSl w0 0 ?_
  refine ay hp (λhp=>?_) λhp=>?_
  ·refine lSl w0 0 ?_
   obtain ⟨n1,g1,hp⟩:=ag hp
   obtain ⟨p1,q1,i1,h1,j1⟩:=ROs.ixr Fc rfl g1
   refine ai i1 ?_
   have h1:_=[_]:=h1
   subst h1
   refine ai (aG (j1 0 _ rfl)) ?_
   refine lSl w0 0 ?_
   obtain ⟨n2,g2,hp⟩:=ag hp
   obtain ⟨p2,q2,i2,h2,j2⟩:=ROs.ixr Fc rfl g2
   refine ai i2 ?_
   have h2:_=[_]:=h2
   subst h2
   refine ai (aG (j2 0 _ rfl)) ?_
   refine ay hp (λhp=>?_) λhp=>?_
   ·exact bm.j2_P (@ih) rfl rfl rfl ⟨w0,s0,Fc,yX,Ob⟩ hp
   ·exact bm.j2_P (@ih) rfl rfl rfl ⟨w0,s0,Fc,yX,Ob⟩ hp
  ·refine lI w0 4 ?_
   refine lSl w0 4 ?_
   refine aq w0 2 λH3 w3 s3=>?_
   refine aq w3 2 λH4 w4 s4=>?_
   refine lI w4 2 ?_
   refine lSl w4 2 ?_
   obtain ⟨w5,s5⟩:=w4.pp [3] 5
   exact az hp ⟨_,_,_,_,rfl,rfl,w5,(s0.trans (s3.trans (s4.trans s5))),(Ob.step (s3.trans (s4.trans s5)))⟩
def bm.p (F:Nat) (aa:Int) (aF:ati):Option (Int×List Int):=(bG.p F aa aF).bind λr3=>(bif (!r3) then (some (0,([]:List Int))) else ((bif ((aF.length:Int)==0) then (some (0,([]:List Int))) else (bm.pl61 F F aF 0 ([]:List Int) 0))))
theorem bm.P {aa ck bE cl aF} (dv:bE=aF.length) (h0:Inn H R0 λR=>ROs eI H R ⟨ck,bE,cl⟩ aF) {r:atl} (hp:bm.p F aa aF=some r):Rt (bm.tw F aa ⟨ck,bE,cl⟩ H) (bm.Q H R0 R0  r):=by
 obtain ⟨w0,ct⟩:=h0
 subst dv
 unfold bm.p at hp
 unfold bm.tw bm.twX
 have s0:=w0.rf
 refine aS w0 λH1 w1 s1=>?_
 refine aS w1 λH2 w2 s2=>?_
 refine lI w2 1 ?_
 refine lSl w2 1 ?_
 obtain ⟨r3,e3,hp⟩:=ag hp
 refine aE (bG.P rfl ⟨w2,(ct.step (s1.trans s2))⟩ e3) ?_
 rintro _ H4 ⟨rfl,w4,s4,_⟩
 refine br ?_
 refine ay hp (λhp=>?_) λhp=>?_
 ·refine aq w4 0 λH5 w5 s5=>?_
  refine aq w5 0 λH6 w6 s6=>?_
  refine lI w6 0 ?_
  refine lSl w6 0 ?_
  obtain ⟨w7,s7⟩:=w6.nilS eI.z (by decide)
  obtain ⟨w8,s8⟩:=w7.pp [0] 3
  exact az hp ⟨_,_,_,_,rfl,rfl,w8,(s0.trans (s1.trans (s2.trans (s4.trans (s5.trans (s6.trans (s7.trans s8))))))),((CR.empty:CR eI _ _ [] []).step s8)⟩
 ·refine lSl w4 1 ?_
  refine ay hp (λhp=>?_) λhp=>?_
  ·refine aq w4 0 λH9 w9 s9=>?_
   refine aq w9 0 λH10 w10 s10=>?_
   refine lI w10 0 ?_
   refine lSl w10 0 ?_
   obtain ⟨w11,s11⟩:=w10.nilS eI.z (by decide)
   obtain ⟨w12,s12⟩:=w11.pp [0] 3
   exact az hp ⟨_,_,_,_,rfl,rfl,w12,(s0.trans (s1.trans (s2.trans (s4.trans (s9.trans (s10.trans (s11.trans s12))))))),((CR.empty:CR eI _ _ [] []).step s12)⟩
  ·refine aS w4 λH13 w13 s13=>?_
   refine aq w13 0 λH14 w14 s14=>?_
   refine aq w14 0 λH15 w15 s15=>?_
   obtain ⟨w16,s16⟩:=w15.nilS eI.z (by decide)
   obtain ⟨w17,s17⟩:=w16.nilS eI.z (by decide)
   obtain ⟨w18,s18⟩:=w17.pp [4,1,3,0,2] 5
   exact bm.l61_P F rfl rfl rfl ⟨w18,(s0.trans (s1.trans (s2.trans (s4.trans (s13.trans (s14.trans (s15.trans (s16.trans (s17.trans s18))))))))),(ct.step (s1.trans (s2.trans (s4.trans (s13.trans (s14.trans (s15.trans (s16.trans (s17.trans s18))))))))),((CR.empty:CR eI _ _ [] []).step (s17.trans s18)),((CR.empty:CR eI _ _ [] []).step s18)⟩ hp
def ed.Q (H0:Hp) (Ri R0:atf)  (r:atl) (v:AV) (H':Hp):Prop:=∃ o1a:ON,∃ o1n:Nat,∃ o1c:Cap,∃ o1k:List AV,v=(.agg [(.i r.1),(.sl ⟨o1a,o1n,o1c⟩)])/\o1n=(r.2).length/\Out H0 Ri H' (Rs.own ⟨o1a,o1n,o1c⟩ eI.z o1k::R0) λR=>CR eI H' R o1k (r.2)
def ed.p (F:Nat) (ah:ato) (af:Int):Option (Int×List Int):=(aj.p F ah af).bind λr3=>(bif ((ah.length:Int) != r3.2) then ((bif ((ah.length:Int) != (wrap .i64 (r3.2 - 1))) then (some (0,([]:List Int))) else ((a_.p F ah af).bind λr9=>(av.p F r9 (wrap .i64 (r3.2 - 1))).bind λr12=>(bm.p F r12.1 r12.2).bind λr14=>some (r14.1,r14.2)))) else ((a_.p F ah af).bind λr19=>(av.p F r19 (wrap .i64 (r3.2 - 1))).bind λr22=>(bm.p F r22.1 r22.2).bind λr24=>some (r24.1,r24.2)))
theorem ed.P {aB ak aC ah af} (ba:ak=ah.length) (h0:Inn H R0 λR=>ROs (ac eI (ac eI (ac eI (ac eI eI)))) H R ⟨aB,ak,aC⟩ ah) {r:atl} (hp:ed.p F ah af=some r):Rt (ed.tw F ⟨aB,ak,aC⟩ af H) (ed.Q H R0 R0  r):=by
 obtain ⟨w0,aO⟩:=h0
 subst ba
 unfold ed.p at hp
 unfold ed.tw ed.twX
 have s0:=w0.rf
 refine aS w0 λH1 w1 s1=>?_
 refine aS w1 λH2 w2 s2=>?_
 refine lSl w2 1 ?_
 refine lI w2 1 ?_
 obtain ⟨r3,e3,hp⟩:=ag hp
 refine aE (aj.P rfl ⟨w2,(aO.step (s1.trans s2))⟩ e3) ?_
 rintro _ H4 ⟨o0a_4,o0n_4,o0c_4,o0k_4,rfl,rfl,w4,s4,f4_0⟩
 refine br (br (br (br (br ?_))))
 refine lSl w4 2 ?_
 refine ay hp (λhp=>?_) λhp=>?_
 ·refine ay hp (λhp=>?_) λhp=>?_
  ·refine aq w4 1 λH5 w5 s5=>?_
   refine aq w5 1 λH6 w6 s6=>?_
   refine lI w6 1 ?_
   refine lSl w6 1 ?_
   obtain ⟨w7,s7⟩:=w6.nilS eI.z (by decide)
   obtain ⟨w8,s8⟩:=w7.pp [0] 4
   exact az hp ⟨_,_,_,_,rfl,rfl,w8,(s0.trans (s1.trans (s2.trans (s4.trans (s5.trans (s6.trans (s7.trans s8))))))),((CR.empty:CR eI _ _ [] []).step s8)⟩
  ·refine lSl w4 2 ?_
   refine lI w4 2 ?_
   obtain ⟨r9,e9,hp⟩:=ag hp
   refine aE (a_.P rfl ⟨w4,(aO.step (s1.trans (s2.trans s4)))⟩ e9) ?_
   rintro _ H10 ⟨o0a_10,o0n_10,o0c_10,o0k_10,rfl,rfl,w10,s10,f10_0⟩
   refine br ?_
   obtain ⟨w11,s11,f11⟩:=w10.frz (i:=0) (eSl (ac eI (eSl eI))) rfl f10_0
   obtain ⟨r12,e12,hp⟩:=ag hp
   refine aE (av.P rfl ⟨w11,f11⟩ e12) ?_
   rintro _ H13 ⟨o1a_13,o1n_13,o1c_13,rfl,rfl,w13,s13,f13_0⟩
   refine br (br (br (br (br ?_))))
   obtain ⟨r14,e14,hp⟩:=ag hp
   refine aE (bm.P rfl ⟨w13,f13_0⟩ e14) ?_
   rintro _ H15 ⟨o1a_15,o1n_15,o1c_15,o1k_15,rfl,rfl,w15,s15,f15_0⟩
   refine br (br (br (br (br ?_))))
   refine aq w15 2 λH16 w16 s16=>?_
   refine aq w16 2 λH17 w17 s17=>?_
   refine lI w17 2 ?_
   refine lSl w17 2 ?_
   obtain ⟨w18,s18⟩:=w17.pp [0] 4
   exact az hp ⟨_,_,_,_,rfl,rfl,w18,(s0.trans (s1.trans (s2.trans (s4.trans (s10.trans (s11.trans (s13.trans (s15.trans (s16.trans (s17.trans s18)))))))))),(f15_0.step (s16.trans (s17.trans s18)))⟩
 ·refine lSl w4 2 ?_
  refine lI w4 2 ?_
  obtain ⟨r19,e19,hp⟩:=ag hp
  refine aE (a_.P rfl ⟨w4,(aO.step (s1.trans (s2.trans s4)))⟩ e19) ?_
  rintro _ H20 ⟨o0a_20,o0n_20,o0c_20,o0k_20,rfl,rfl,w20,s20,f20_0⟩
  refine br ?_
  obtain ⟨w21,s21,f21⟩:=w20.frz (i:=0) (eSl (ac eI (eSl eI))) rfl f20_0
  obtain ⟨r22,e22,hp⟩:=ag hp
  refine aE (av.P rfl ⟨w21,f21⟩ e22) ?_
  rintro _ H23 ⟨o1a_23,o1n_23,o1c_23,rfl,rfl,w23,s23,f23_0⟩
  refine br (br (br (br (br ?_))))
  obtain ⟨r24,e24,hp⟩:=ag hp
  refine aE (bm.P rfl ⟨w23,f23_0⟩ e24) ?_
  rintro _ H25 ⟨o1a_25,o1n_25,o1c_25,o1k_25,rfl,rfl,w25,s25,f25_0⟩
  refine br (br (br (br (br ?_))))
  refine aq w25 2 λH26 w26 s26=>?_
  refine aq w26 2 λH27 w27 s27=>?_
  refine lI w27 2 ?_
  refine lSl w27 2 ?_
  obtain ⟨w28,s28⟩:=w27.pp [0] 4
  exact az hp ⟨_,_,_,_,rfl,rfl,w28,(s0.trans (s1.trans (s2.trans (s4.trans (s20.trans (s21.trans (s23.trans (s25.trans (s26.trans (s27.trans s28)))))))))),(f25_0.step (s26.trans (s27.trans s28)))⟩
def eC.Q (H0:Hp) (Ri R0:atf)  (r:atx) (v:AV) (H':Hp):Prop:=∃ o1a:ON,∃ o1n:Nat,∃ o1c:Cap,∃ o1k:List AV,v=(.tup [(.agg [(.i r.1),(.sl ⟨o1a,o1n,o1c⟩)]),(.i r.2.2)])/\o1n=(r.2.1).length/\Out H0 Ri H' (Rs.own ⟨o1a,o1n,o1c⟩ eI.z o1k::R0) λR=>CR eI H' R o1k (r.2.1)
def eC.p (F:Nat) (ah:ato) (af:Int):Option (Int×List Int×Int):=(dG.p F ah af).bind λr3=>(bif (!r3) then (some (0,([]:List Int),1)) else ((bif ((ah.length:Int)==0) then ((bif (af==0) then (some (0,([]:List Int),5)) else ((ed.p F ah af).bind λr13=>some (r13.1,r13.2,0)))) else ((ed.p F ah af).bind λr18=>some (r18.1,r18.2,0)))))
theorem eC.P {aB ak aC ah af} (ba:ak=ah.length) (h0:Inn H R0 λR=>ROs (ac eI (ac eI (ac eI (ac eI eI)))) H R ⟨aB,ak,aC⟩ ah) {r:atx} (hp:eC.p F ah af=some r):Rt (eC.tw F ⟨aB,ak,aC⟩ af H) (eC.Q H R0 R0  r):=by
 obtain ⟨w0,aO⟩:=h0
 subst ba
 unfold eC.p at hp
 unfold eC.tw eC.twX
 have s0:=w0.rf
 refine aS w0 λH1 w1 s1=>?_
 refine aS w1 λH2 w2 s2=>?_
 refine lSl w2 1 ?_
 refine lI w2 1 ?_
 obtain ⟨r3,e3,hp⟩:=ag hp
 refine aE (dG.P rfl ⟨w2,(aO.step (s1.trans s2))⟩ e3) ?_
 rintro _ H4 ⟨rfl,w4,s4,_⟩
 refine br ?_
 refine ay hp (λhp=>?_) λhp=>?_
 ·refine aq w4 0 λH5 w5 s5=>?_
  refine aq w5 0 λH6 w6 s6=>?_
  refine lI w6 0 ?_
  refine lSl w6 0 ?_
  obtain ⟨w7,s7⟩:=w6.nilS eI.z (by decide)
  obtain ⟨w8,s8⟩:=w7.pp [0] 3
  exact az hp ⟨_,_,_,_,rfl,rfl,w8,(s0.trans (s1.trans (s2.trans (s4.trans (s5.trans (s6.trans (s7.trans s8))))))),((CR.empty:CR eI _ _ [] []).step s8)⟩
 ·refine lSl w4 1 ?_
  refine ay hp (λhp=>?_) λhp=>?_
  ·refine lI w4 1 ?_
   refine ay hp (λhp=>?_) λhp=>?_
   ·refine aq w4 0 λH9 w9 s9=>?_
    refine aq w9 0 λH10 w10 s10=>?_
    refine lI w10 0 ?_
    refine lSl w10 0 ?_
    obtain ⟨w11,s11⟩:=w10.nilS eI.z (by decide)
    obtain ⟨w12,s12⟩:=w11.pp [0] 3
    exact az hp ⟨_,_,_,_,rfl,rfl,w12,(s0.trans (s1.trans (s2.trans (s4.trans (s9.trans (s10.trans (s11.trans s12))))))),((CR.empty:CR eI _ _ [] []).step s12)⟩
   ·refine lSl w4 1 ?_
    refine lI w4 1 ?_
    obtain ⟨r13,e13,hp⟩:=ag hp
    refine aE (ed.P rfl ⟨w4,(aO.step (s1.trans (s2.trans s4)))⟩ e13) ?_
    rintro _ H14 ⟨o1a_14,o1n_14,o1c_14,o1k_14,rfl,rfl,w14,s14,f14_0⟩
    refine br (br (br (br (br ?_))))
    refine aq w14 1 λH15 w15 s15=>?_
    refine aq w15 1 λH16 w16 s16=>?_
    refine lI w16 1 ?_
    refine lSl w16 1 ?_
    obtain ⟨w17,s17⟩:=w16.pp [0] 3
    exact az hp ⟨_,_,_,_,rfl,rfl,w17,(s0.trans (s1.trans (s2.trans (s4.trans (s14.trans (s15.trans (s16.trans s17))))))),(f14_0.step (s15.trans (s16.trans s17)))⟩
  ·refine lSl w4 1 ?_
   refine lI w4 1 ?_
   obtain ⟨r18,e18,hp⟩:=ag hp
   refine aE (ed.P rfl ⟨w4,(aO.step (s1.trans (s2.trans s4)))⟩ e18) ?_
   rintro _ H19 ⟨o1a_19,o1n_19,o1c_19,o1k_19,rfl,rfl,w19,s19,f19_0⟩
   refine br (br (br (br (br ?_))))
   refine aq w19 1 λH20 w20 s20=>?_
   refine aq w20 1 λH21 w21 s21=>?_
   refine lI w21 1 ?_
   refine lSl w21 1 ?_
   obtain ⟨w22,s22⟩:=w21.pp [0] 3
   exact az hp ⟨_,_,_,_,rfl,rfl,w22,(s0.trans (s1.trans (s2.trans (s4.trans (s19.trans (s20.trans (s21.trans s22))))))),(f19_0.step (s20.trans (s21.trans s22)))⟩
def bk.Q (H0:Hp) (Ri R0:atf)  (r:atK) (v:AV) (H':Hp):Prop:=v=(.tup [(.i r.1),(.bool r.2)])/\Out H0 Ri H' (R0) λR=>True
def bk.S61 (H0:Hp) (Ri R0:atf)  (C:auf) (pC:aus):Prop:=∀ {ib oP ic eV Oc Fe iS Od iC},∀ {H:Hp},Fe=iC.length->(Out H0 Ri H (Rs.blk iS [.i oP,.sl ⟨Oc,Fe,Od⟩]::R0) λR=>ROs eI H R ⟨Oc,Fe,Od⟩ iC)->∀ {r:atK},pC ib oP iC ic eV=some r->Rt (C ib iS 0 ic eV H) (bk.Q H0 Ri R0  r)
def bk.pj2 (F:Nat) (ar:aus) (tZ:Int) (Ff:Int) (zn:ati) (t_:Int) (ua:Int):Option (Int×Bool):=ar tZ Ff zn t_ (wrap .i64 (ua+1))
theorem bk.j2_P  {C61_:auf} {ar:aus} (hC61:bk.S61 H0 Ri R0  C61_ ar) {tZ Ff t_ ua abb Oe BL abc zn} (anc:Oe=zn.length) (h0:Out H0 Ri H (Rs.blk BL [.i Ff,.sl ⟨abb,Oe,abc⟩]::R0) λR=>ROs eI H R ⟨abb,Oe,abc⟩ zn) {r:atK} (hp:bk.pj2 F ar tZ Ff zn t_ ua=some r):Rt (bk.j2 F (bG.tw F) C61_ tZ BL 0 t_ ua H) (bk.Q H0 Ri R0  r):=by
 obtain ⟨w0,s0,ane⟩:=h0
 subst anc
 unfold bk.pj2 at hp
 unfold bk.j2
 exact hC61 rfl ⟨w0,s0,ane⟩ hp
def bk.pl61 (F:Nat) :Nat->Int->Int->List Int->Int->Int->Option (Int×Bool)
 | 0,_,_,_,_,_=>none
 | k+1,ib,oP,iC,ic,eV=>(bif (decide (eV<(iC.length:Int))) then ((bif (decide (ib<0)) then ((bif ((Int.tmod (wrap .i64 (oP+eV)) 2) != 0) then ((ix iC eV).bind λn1=>bk.pj2 F (bk.pl61 F k) ib oP iC (wrap .i64 (ic - (gt iC n1))) eV) else ((ix iC eV).bind λn2=>bk.pj2 F (bk.pl61 F k) ib oP iC (wrap .i64 (ic+(gt iC n2))) eV))) else ((ix iC eV).bind λn3=>bk.pl61 F k ib oP iC (wrap .i64 (ic+(gt iC n3))) (wrap .i64 (eV+1))))) else (some (ic,true)))
theorem bk.l61_P  :∀ k,bk.S61 H0 Ri R0  (bk.l61 F (bG.tw F)  k) (bk.pl61 F  k):=by
 intro k
 induction k with
 | zero=>unfold bk.S61;intros;rename_i hp;cases hp
 | succ k ih=>
  intro ib oP ic eV Oc Fe iS Od iC H anf h0 r hp
  obtain ⟨w0,s0,wi⟩:=h0
  subst anf
  unfold bk.pl61 at hp
  unfold bk.l61
  refine lSl w0 0 ?_
  refine ay hp (λhp=>?_) λhp=>?_
  ·refine ay hp (λhp=>?_) λhp=>?_
   ·refine lI w0 0 ?_
    refine ay hp (λhp=>?_) λhp=>?_
    ·refine lSl w0 0 ?_
     obtain ⟨n1,g1,hp⟩:=ag hp
     obtain ⟨p1,q1,i1,h1,j1⟩:=ROs.ixr wi rfl g1
     refine ai i1 ?_
     have h1:_=[_]:=h1
     subst h1
     refine ai (aG (j1 0 _ rfl)) ?_
     exact bk.j2_P (@ih) rfl ⟨w0,s0,wi⟩ hp
    ·refine lSl w0 0 ?_
     obtain ⟨n2,g2,hp⟩:=ag hp
     obtain ⟨p2,q2,i2,h2,j2⟩:=ROs.ixr wi rfl g2
     refine ai i2 ?_
     have h2:_=[_]:=h2
     subst h2
     refine ai (aG (j2 0 _ rfl)) ?_
     exact bk.j2_P (@ih) rfl ⟨w0,s0,wi⟩ hp
   ·refine lSl w0 0 ?_
    obtain ⟨n3,g3,hp⟩:=ag hp
    obtain ⟨p3,q3,i3,h3,j3⟩:=ROs.ixr wi rfl g3
    refine ai i3 ?_
    have h3:_=[_]:=h3
    subst h3
    refine ai (aG (j3 0 _ rfl)) ?_
    exact ih rfl ⟨w0,s0,wi⟩ hp
  ·obtain ⟨w4,s4⟩:=w0.pp [] 1
   exact az hp ⟨rfl,w4,(s0.trans s4),trivial⟩
def bk.p (F:Nat) (aa:Int) (aF:ati) (au:Int):Option (Int×Bool):=(bG.p F aa aF).bind λr2=>(bif (!r2) then (some (0,false)) else ((bif (au != 1) then ((bif (au != (-1)) then (some (0,false)) else (bk.pl61 F F au aa aF 0 0))) else (bk.pl61 F F au aa aF 0 0))))
theorem bk.P {aa au ck bE cl aF} (dv:bE=aF.length) (h0:Inn H R0 λR=>ROs eI H R ⟨ck,bE,cl⟩ aF) {r:atK} (hp:bk.p F aa aF au=some r):Rt (bk.tw F aa ⟨ck,bE,cl⟩ au H) (bk.Q H R0 R0  r):=by
 obtain ⟨w0,ct⟩:=h0
 subst dv
 unfold bk.p at hp
 unfold bk.tw bk.twX
 have s0:=w0.rf
 refine aS w0 λH1 w1 s1=>?_
 refine lI w1 0 ?_
 refine lSl w1 0 ?_
 obtain ⟨r2,e2,hp⟩:=ag hp
 refine aE (bG.P rfl ⟨w1,(ct.step s1)⟩ e2) ?_
 rintro _ H3 ⟨rfl,w3,s3,_⟩
 refine br ?_
 refine ay hp (λhp=>?_) λhp=>?_
 ·obtain ⟨w4,s4⟩:=w3.pp [] 1
  exact az hp ⟨rfl,w4,(s0.trans (s1.trans (s3.trans s4))),trivial⟩
 ·refine ay hp (λhp=>?_) λhp=>?_
  ·refine ay hp (λhp=>?_) λhp=>?_
   ·obtain ⟨w5,s5⟩:=w3.pp [] 1
    exact az hp ⟨rfl,w5,(s0.trans (s1.trans (s3.trans s5))),trivial⟩
   ·exact bk.l61_P F rfl ⟨w3,(s0.trans (s1.trans s3)),(ct.step (s1.trans s3))⟩ hp
  ·exact bk.l61_P F rfl ⟨w3,(s0.trans (s1.trans s3)),(ct.step (s1.trans s3))⟩ hp
def fN.Q (H0:Hp) (Ri R0:atf)  (r:Int) (v:AV) (H':Hp):Prop:=v=(.i r)/\Out H0 Ri H' (R0) λR=>True
def fN.p (F:Nat) (aa:Int):Option (Int):=some (if (wrap .i64 (0 - aa))>aa then (wrap .i64 (0 - aa)) else aa)
theorem fN.P {aa}  (h0:Inn H R0 λR=>True) {r:Int} (hp:fN.p F aa=some r):Rt (fN.tw F aa H) (fN.Q H R0 R0  r):=by
 obtain ⟨w0,_⟩:=h0
 unfold fN.p at hp
 unfold fN.tw fN.twX
 have s0:=w0.rf
 exact az hp ⟨rfl,w0,s0,trivial⟩
def eD.Q (H0:Hp) (Ri R0:atf)  (r:atD) (v:AV) (H':Hp):Prop:=v=(.tup [(.i r.1),(.i r.2)])/\Out H0 Ri H' (R0) λR=>True
def eD.p (F:Nat) (ah:ato) (af:Int):Option (Int×Int):=(eC.p F ah af).bind λr2=>(bif (r2.2.2 != 0) then (some (0,r2.2.2)) else ((bk.p F r2.1 r2.2.1 (-1)).bind λr10=>(fN.p F r10.1).bind λr13=>some (r13,0)))
theorem eD.P {aB ak aC ah af} (ba:ak=ah.length) (h0:Inn H R0 λR=>ROs (ac eI (ac eI (ac eI (ac eI eI)))) H R ⟨aB,ak,aC⟩ ah) {r:atD} (hp:eD.p F ah af=some r):Rt (eD.tw F ⟨aB,ak,aC⟩ af H) (eD.Q H R0 R0  r):=by
 obtain ⟨w0,aO⟩:=h0
 subst ba
 unfold eD.p at hp
 unfold eD.tw eD.twX
 have s0:=w0.rf
 refine aS w0 λH1 w1 s1=>?_
 refine lSl w1 0 ?_
 refine lI w1 0 ?_
 obtain ⟨r2,e2,hp⟩:=ag hp
 refine aE (eC.P rfl ⟨w1,(aO.step s1)⟩ e2) ?_
 rintro _ H3 ⟨o1a_3,o1n_3,o1c_3,o1k_3,rfl,rfl,w3,s3,f3_0⟩
 refine br (br (br (br (br (br (br (br (br ?_))))))))
 refine aS w3 λH4 w4 s4=>?_
 refine aq w4 0 λH5 w5 s5=>?_
 refine aq w5 0 λH6 w6 s6=>?_
 refine ay hp (λhp=>?_) λhp=>?_
 ·obtain ⟨w7,s7⟩:=w6.pp [] 3
  exact az hp ⟨rfl,w7,(s0.trans (s1.trans (s3.trans (s4.trans (s5.trans (s6.trans s7)))))),trivial⟩
 ·refine lI w6 0 ?_
  refine lSl w6 0 ?_
  obtain ⟨w8,s8⟩:=w6.pp [1,0,2] 3
  have f9:=W.borrow1 eI w8 (f3_0.step (s4.trans (s5.trans (s6.trans s8))))
  obtain ⟨w9,s9⟩:=w8.right1
  obtain ⟨r10,e10,hp⟩:=ag hp
  refine aE (bk.P rfl ⟨w9,f9⟩ e10) ?_
  rintro _ H11 ⟨rfl,w11,s11,_⟩
  obtain ⟨w12,s12⟩:=W.frame1 w8 w11 s11
  refine br (br (br (br (br ?_))))
  obtain ⟨r13,e13,hp⟩:=ag hp
  refine aE (fN.P ⟨w12,trivial⟩ e13) ?_
  rintro _ H14 ⟨rfl,w14,s14,_⟩
  refine br ?_
  obtain ⟨w15,s15⟩:=w14.pp [] 3
  exact az hp ⟨rfl,w15,(s0.trans (s1.trans (s3.trans (s4.trans (s5.trans (s6.trans (s8.trans (s12.trans (s14.trans s15))))))))),trivial⟩
def cN.Q (H0:Hp) (Ri R0:atf)  (r:Int) (v:AV) (H':Hp):Prop:=v=(.i r)/\Out H0 Ri H' (R0) λR=>True
def cN.p (F:Nat) (ah:ato):Option (Int):=some (ah.length:Int)
theorem cN.P {aB ak aC ah} (ba:ak=ah.length) (h0:Inn H R0 λR=>ROs (ac eI (ac eI (ac eI (ac eI eI)))) H R ⟨aB,ak,aC⟩ ah) {r:Int} (hp:cN.p F ah=some r):Rt (cN.tw F ⟨aB,ak,aC⟩ H) (cN.Q H R0 R0  r):=by
 obtain ⟨w0,aO⟩:=h0
 subst ba
 unfold cN.p at hp
 unfold cN.tw cN.twX
 have s0:=w0.rf
 exact az hp ⟨rfl,w0,s0,trivial⟩
def dx.Q (H0:Hp) (Ri R0:atf)  (r:Bool) (v:AV) (H':Hp):Prop:=v=(.bool r)/\Out H0 Ri H' (R0) λR=>True
def dx.p (F:Nat) (aa:Int) (aA:Int) (cM:Int):Option (Bool):=(bif (decide (aA<=aa)) then (some (decide (aa<=cM))) else (some false))
theorem dx.P {aa aA cM}  (h0:Inn H R0 λR=>True) {r:Bool} (hp:dx.p F aa aA cM=some r):Rt (dx.tw F aa aA cM H) (dx.Q H R0 R0  r):=by
 obtain ⟨w0,_⟩:=h0
 unfold dx.p at hp
 unfold dx.tw dx.twX
 have s0:=w0.rf
 refine ay hp (λhp=>?_) λhp=>?_
 ·exact az hp ⟨rfl,w0,s0,trivial⟩
 ·exact az hp ⟨rfl,w0,s0,trivial⟩
def fj.Q (H0:Hp) (Ri R0:atf)  (r:Bool) (v:AV) (H':Hp):Prop:=v=(.bool r)/\Out H0 Ri H' (R0) λR=>True
def fj.p (F:Nat) (bR:Int):Option (Bool):=(bif (bR != 1) then (some (bR != (-1))) else (some false))
theorem fj.P {aa af bW bX bR}  (h0:Inn H R0 λR=>True) {r:Bool} (hp:fj.p F bR=some r):Rt (fj.tw F aa af bW bX bR H) (fj.Q H R0 R0  r):=by
 obtain ⟨w0,_⟩:=h0
 unfold fj.p at hp
 unfold fj.tw fj.twX
 have s0:=w0.rf
 refine aS w0 λH1 w1 s1=>?_
 refine lI w1 0 ?_
 refine ay hp (λhp=>?_) λhp=>?_
 ·refine lI w1 0 ?_
  obtain ⟨w2,s2⟩:=w1.pp [] 1
  exact az hp ⟨rfl,w2,(s0.trans (s1.trans s2)),trivial⟩
 ·obtain ⟨w3,s3⟩:=w1.pp [] 1
  exact az hp ⟨rfl,w3,(s0.trans (s1.trans s3)),trivial⟩
def bZ.Q (H0:Hp) (Ri R0:atf)  (r:Int) (v:AV) (H':Hp):Prop:=v=(.i r)/\Out H0 Ri H' (R0) λR=>True
def bZ.S13 (H0:Hp) (Ri R0:atf)  (C:atr) (pC:List (Int×Int×Int×Int×Int)->Int->Int->Option (Int)):Prop:=∀ {lF iV lG et df cw},∀ {H:Hp},iV=et.length->(Out H0 Ri H R0 λR=>ROs (ac eI (ac eI (ac eI (ac eI eI)))) H R ⟨lF,iV,lG⟩ et)->∀ {r:Int},pC et df cw=some r->Rt (C ⟨lF,iV,lG⟩ df cw H) (bZ.Q H0 Ri R0  r)
def bZ.pl13 (F:Nat) :Nat->List (Int×Int×Int×Int×Int)->Int->Int->Option (Int)
 | 0,_,_,_=>none
 | k+1,et,df,cw=>(bif (decide (cw<df)) then ((ix et cw).bind λn1=>(fj.p F ((gt et n1).2.2.2.2)).bind λr2=>(bif r2 then (some cw) else (bZ.pl13 F k et df (wrap .i64 (cw+1))))) else (some (-1)))
theorem bZ.l13_P  :∀ k,bZ.S13 H0 Ri R0  (bZ.l13 F (fj.tw F)  k) (bZ.pl13 F  k):=by
 intro k
 induction k with
 | zero=>unfold bZ.S13;intros;rename_i hp;cases hp
 | succ k ih=>
  intro lF iV lG et df cw H zo h0 r hp
  obtain ⟨w0,s0,oQ⟩:=h0
  subst zo
  unfold bZ.pl13 at hp
  unfold bZ.l13
  refine ay hp (λhp=>?_) λhp=>?_
  ·obtain ⟨n1,g1,hp⟩:=ag hp
   obtain ⟨p1,q1,i1,h1,j1⟩:=ROs.ixr oQ rfl g1
   refine ai i1 ?_
   obtain ⟨_,_,rfl,rfl,_,_,rfl,rfl,_,_,rfl,rfl,_,_,rfl,rfl,rfl⟩:=h1
   refine ai (aG (j1 0 _ rfl)) ?_
   refine ai (aG (j1 1 _ rfl)) ?_
   refine ai (aG (j1 2 _ rfl)) ?_
   refine ai (aG (j1 3 _ rfl)) ?_
   refine ai (aG (j1 4 _ rfl)) ?_
   obtain ⟨r2,e2,hp⟩:=ag hp
   refine aE (fj.P ⟨w0,trivial⟩ e2) ?_
   rintro _ H3 ⟨rfl,w3,s3,_⟩
   refine br ?_
   refine ay hp (λhp=>?_) λhp=>?_
   ·exact az hp ⟨rfl,w3,(s0.trans s3),trivial⟩
   ·exact ih rfl ⟨w3,(s0.trans s3),(oQ.step s3)⟩ hp
  ·exact az hp ⟨rfl,w0,s0,trivial⟩
def bZ.p (F:Nat) (ah:ato):Option (Int):=bZ.pl13 F F ah (ah.length:Int) 0
theorem bZ.P {aB ak aC ah} (ba:ak=ah.length) (h0:Inn H R0 λR=>ROs (ac eI (ac eI (ac eI (ac eI eI)))) H R ⟨aB,ak,aC⟩ ah) {r:Int} (hp:bZ.p F ah=some r):Rt (bZ.tw F ⟨aB,ak,aC⟩ H) (bZ.Q H R0 R0  r):=by
 obtain ⟨w0,aO⟩:=h0
 subst ba
 unfold bZ.p at hp
 unfold bZ.tw bZ.twX
 have s0:=w0.rf
 exact bZ.l13_P F rfl ⟨w0,s0,aO⟩ hp
def eE.Q (H0:Hp) (Ri R0:atf)  (r:Bool) (v:AV) (H':Hp):Prop:=v=(.bool r)/\Out H0 Ri H' (R0) λR=>True
def eE.p (F:Nat) (ah:ato):Option (Bool):=(bZ.p F ah).bind λr1=>some (decide (r1>=0))
theorem eE.P {aB ak aC ah} (ba:ak=ah.length) (h0:Inn H R0 λR=>ROs (ac eI (ac eI (ac eI (ac eI eI)))) H R ⟨aB,ak,aC⟩ ah) {r:Bool} (hp:eE.p F ah=some r):Rt (eE.tw F ⟨aB,ak,aC⟩ H) (eE.Q H R0 R0  r):=by
 obtain ⟨w0,aO⟩:=h0
 subst ba
 unfold eE.p at hp
 unfold eE.tw eE.twX
 have s0:=w0.rf
 obtain ⟨r1,e1,hp⟩:=ag hp
 refine aE (bZ.P rfl ⟨w0,aO⟩ e1) ?_
 rintro _ H2 ⟨rfl,w2,s2,_⟩
 refine br ?_
 exact az hp ⟨rfl,w2,(s0.trans s2),trivial⟩
def bits_Mul64.Q (H0:Hp) (Ri R0:atf)  (r:atD) (v:AV) (H':Hp):Prop:=v=(.tup [(.int .u64 r.1),(.int .u64 r.2)])/\Out H0 Ri H' (R0) λR=>True
def bits_Mul64.p (F:Nat) (aa:Int) (aA:Int):Option (Int×Int):=some ((IntKind.u64.wrap ((IntKind.u64.wrap ((IntKind.u64.wrap ((Int.fdiv aa (2 ^ (min (32:Int).toNat (IntKind.u64).bits))) * (Int.fdiv aA (2 ^ (min (32:Int).toNat (IntKind.u64).bits)))))+(Int.fdiv (IntKind.u64.wrap ((IntKind.u64.wrap ((Int.fdiv aa (2 ^ (min (32:Int).toNat (IntKind.u64).bits))) * (Go.bits .and .u64 aA 4294967295)))+(Int.fdiv (IntKind.u64.wrap ((Go.bits .and .u64 aa 4294967295) * (Go.bits .and .u64 aA 4294967295))) (2 ^ (min (32:Int).toNat (IntKind.u64).bits))))) (2 ^ (min (32:Int).toNat (IntKind.u64).bits)))))+(Int.fdiv (IntKind.u64.wrap ((Go.bits .and .u64 (IntKind.u64.wrap ((IntKind.u64.wrap ((Int.fdiv aa (2 ^ (min (32:Int).toNat (IntKind.u64).bits))) * (Go.bits .and .u64 aA 4294967295)))+(Int.fdiv (IntKind.u64.wrap ((Go.bits .and .u64 aa 4294967295) * (Go.bits .and .u64 aA 4294967295))) (2 ^ (min (32:Int).toNat (IntKind.u64).bits))))) 4294967295)+(IntKind.u64.wrap ((Go.bits .and .u64 aa 4294967295) * (Int.fdiv aA (2 ^ (min (32:Int).toNat (IntKind.u64).bits))))))) (2 ^ (min (32:Int).toNat (IntKind.u64).bits))))),(IntKind.u64.wrap (aa * aA)))
theorem bits_Mul64.P {aa aA}  (h0:Inn H R0 λR=>True) {r:atD} (hp:bits_Mul64.p F aa aA=some r):Rt (bits_Mul64.tw F aa aA H) (bits_Mul64.Q H R0 R0  r):=by
 obtain ⟨w0,_⟩:=h0
 unfold bits_Mul64.p at hp
 unfold bits_Mul64.tw bits_Mul64.twX
 have s0:=w0.rf
 exact az hp ⟨rfl,w0,s0,trivial⟩
def bits_Mul.Q (H0:Hp) (Ri R0:atf)  (r:atD) (v:AV) (H':Hp):Prop:=v=(.tup [(.int .u64 r.1),(.int .u64 r.2)])/\Out H0 Ri H' (R0) λR=>True
def bits_Mul.p (F:Nat) (aa:Int) (aA:Int):Option (Int×Int):=(bits_Mul64.p F aa aA).bind λr1=>some (r1.1,r1.2)
theorem bits_Mul.P {aa aA}  (h0:Inn H R0 λR=>True) {r:atD} (hp:bits_Mul.p F aa aA=some r):Rt (bits_Mul.tw F aa aA H) (bits_Mul.Q H R0 R0  r):=by
 obtain ⟨w0,_⟩:=h0
 unfold bits_Mul.p at hp
 unfold bits_Mul.tw bits_Mul.twX
 have s0:=w0.rf
 obtain ⟨r1,e1,hp⟩:=ag hp
 refine aE (bits_Mul64.P ⟨w0,trivial⟩ e1) ?_
 rintro _ H2 ⟨rfl,w2,s2,_⟩
 refine br (br (br (br (br ?_))))
 exact az hp ⟨rfl,w2,(s0.trans s2),trivial⟩
def bw.Q (H0:Hp) (Ri R0:atf)  (r:(List (Int×Int))) (v:AV) (H':Hp):Prop:=∃ o0a:ON,∃ o0n:Nat,∃ o0k:List AV,v=(.sl ⟨o0a,o0n,.ex o0n⟩)/\o0n=(r).length/\Out H0 Ri H' (Rs.own ⟨o0a,o0n,.ex o0n⟩ (ac eI eI).z o0k::R0) λR=>CR (ac eI eI) H' R o0k (r)
def bw.pj1 (F:Nat)  (wj:atB) (pN:Int):Option ((List (Int×Int))):=(mkn (wrap .i64 pN) ((0:Int),(0:Int))).bind λl1=>(some (cpl l1 wj)).bind λl3=>(wK F l3 ((min wj.length l1.length:Nat):Int)).bind λl5=>some l5
theorem bw.j1_P   {abd Of abe wj pN} (ang:Of=wj.length) (h0:Out H0 Ri H R0 λR=>ROs (ac eI eI) H R ⟨abd,Of,abe⟩ wj) {r:(List (Int×Int))} (hp:bw.pj1 F  wj pN=some r):Rt (bw.j1 F (bits_Mul.tw F)  ⟨abd,Of,abe⟩ pN H) (bw.Q H0 Ri R0  r):=by
 obtain ⟨w0,s0,anh⟩:=h0
 subst ang
 unfold bw.pj1 at hp
 unfold bw.j1
 obtain ⟨l1,e1,hp⟩:=ag hp
 refine kc (ac eI eI) ((0:Int),(0:Int)) w0 ⟨[_],_,rfl,rfl,rfl⟩ rfl rfl e1 λH2 k2 w2 s2 c2=>?_
 obtain ⟨x3,h3,c3⟩:=(anh.step s2).row (z:=(ac eI eI).z) rfl
 obtain ⟨l3,e3,hp⟩:=ag hp
 refine ary (ac eI eI) w2 (i:=0) rfl rfl c2 h3 c3 rfl rfl e3 λk4 H4 w4 s4 c4=>?_
 obtain ⟨l5,e5,hp⟩:=ag hp
 refine arz (ac eI eI) rfl (L:=bw.l254 F (bits_Mul.tw F)) (λ_ _ _ _=>rfl) w4 (i:=0) rfl c4 e5 λH6 k6 w6 s6 c6=>?_
 dsimp only [List.set] at w6 s6 c6
 exact az hp ⟨_,_,_,rfl,((arA e3).symm.trans (arB e5).symm),w6,(s0.trans (s2.trans (s4.trans s6))),c6⟩
def bw.pj2 (F:Nat)  (wk:atB) (uh:Int):Option ((List (Int×Int))):=(bits_Mul.p F (IntKind.u64.wrap (wk.length:Int)) (IntKind.u64.wrap uh)).bind λr1=>(bif (decide (r1.1>0)) then (none) else ((bif (decide (r1.2>9223372036854775807)) then (none) else (bw.pj1 F wk r1.2))))
theorem bw.j2_P   {abf Og abg wk uh} (ani:Og=wk.length) (h0:Out H0 Ri H R0 λR=>ROs (ac eI eI) H R ⟨abf,Og,abg⟩ wk) {r:(List (Int×Int))} (hp:bw.pj2 F  wk uh=some r):Rt (bw.j2 F (bits_Mul.tw F)  ⟨abf,Og,abg⟩ uh H) (bw.Q H0 Ri R0  r):=by
 obtain ⟨w0,s0,anj⟩:=h0
 subst ani
 unfold bw.pj2 at hp
 unfold bw.j2
 obtain ⟨r1,e1,hp⟩:=ag hp
 refine aE (bits_Mul.P ⟨w0,trivial⟩ e1) ?_
 rintro _ H2 ⟨rfl,w2,s2,_⟩
 refine br (br (br (br (br ?_))))
 refine ay hp (λhp=>?_) λhp=>?_
 ·cases hp
 ·refine ay hp (λhp=>?_) λhp=>?_
  ·cases hp
  ·exact bw.j1_P rfl ⟨w2,(s0.trans s2),(anj.step s2)⟩ hp
def bw.p (F:Nat) (ah:atB) (aA:Int):Option ((List (Int×Int))):=(bif (decide (aA<0)) then (none) else (bw.pj2 F ah aA))
theorem bw.P {aB ak aC ah aA} (ba:ak=ah.length) (h0:Inn H R0 λR=>ROs (ac eI eI) H R ⟨aB,ak,aC⟩ ah) {r:(List (Int×Int))} (hp:bw.p F ah aA=some r):Rt (bw.tw F ⟨aB,ak,aC⟩ aA H) (bw.Q H R0 R0  r):=by
 obtain ⟨w0,aO⟩:=h0
 subst ba
 unfold bw.p at hp
 unfold bw.tw bw.twX
 have s0:=w0.rf
 refine ay hp (λhp=>?_) λhp=>?_
 ·cases hp
 ·exact bw.j2_P rfl ⟨w0,s0,aO⟩ hp
def dU.Q (H0:Hp) (Ri R0:atf)  (r:Int×Int×Int×Int) (v:AV) (H':Hp):Prop:=v=(.agg [(.i r.1),(.i r.2.1),(.i r.2.2.1),(.i r.2.2.2)])/\Out H0 Ri H' (R0) λR=>True
def dU.p (F:Nat) (aa:Int) (af:Int) (bW:Int) (bX:Int):Option (Int×Int×Int×Int):=some (aa,af,bW,bX)
theorem dU.P {aa af bW bX bR}  (h0:Inn H R0 λR=>True) {r:Int×Int×Int×Int} (hp:dU.p F aa af bW bX=some r):Rt (dU.tw F aa af bW bX bR H) (dU.Q H R0 R0  r):=by
 obtain ⟨w0,_⟩:=h0
 unfold dU.p at hp
 unfold dU.tw dU.twX
 have s0:=w0.rf
 refine aS w0 λH1 w1 s1=>?_
 refine aS w1 λH2 w2 s2=>?_
 refine lI w2 1 ?_
 refine lI w2 1 ?_
 refine lI w2 1 ?_
 refine lI w2 1 ?_
 refine aq w2 0 λH3 w3 s3=>?_
 refine aq w3 0 λH4 w4 s4=>?_
 refine aq w4 0 λH5 w5 s5=>?_
 refine aq w5 0 λH6 w6 s6=>?_
 refine lI w6 0 ?_
 refine lI w6 0 ?_
 refine lI w6 0 ?_
 refine lI w6 0 ?_
 obtain ⟨w7,s7⟩:=w6.pp [] 2
 exact az hp ⟨rfl,w7,(s0.trans (s1.trans (s2.trans (s3.trans (s4.trans (s5.trans (s6.trans s7))))))),trivial⟩
def dV.Q (H0:Hp) (Ri R0:atf)  (r:Bool) (v:AV) (H':Hp):Prop:=v=(.bool r)/\Out H0 Ri H' (R0) λR=>True
def dV.p (F:Nat) (bR:Int) (cE:Int):Option (Bool):=(bif (cE==0) then (some true) else (some (cE==(wrap .i64 (2+bR)))))
theorem dV.P {aa af bW bX bR cE}  (h0:Inn H R0 λR=>True) {r:Bool} (hp:dV.p F bR cE=some r):Rt (dV.tw F aa af bW bX bR cE H) (dV.Q H R0 R0  r):=by
 obtain ⟨w0,_⟩:=h0
 unfold dV.p at hp
 unfold dV.tw dV.twX
 have s0:=w0.rf
 refine aS w0 λH1 w1 s1=>?_
 refine ay hp (λhp=>?_) λhp=>?_
 ·obtain ⟨w2,s2⟩:=w1.pp [] 1
  exact az hp ⟨rfl,w2,(s0.trans (s1.trans s2)),trivial⟩
 ·refine lI w1 0 ?_
  obtain ⟨w3,s3⟩:=w1.pp [] 1
  exact az hp ⟨rfl,w3,(s0.trans (s1.trans s3)),trivial⟩
def fO.Q (H0:Hp) (Ri R0:atf)  (r:Int) (v:AV) (H':Hp):Prop:=v=(.i r)/\Out H0 Ri H' (R0) λR=>True
def fO.p (F:Nat) (ah:atB):Option (Int):=some (ah.length:Int)
theorem fO.P {aB ak aC ah} (ba:ak=ah.length) (h0:Inn H R0 λR=>ROs (ac eI eI) H R ⟨aB,ak,aC⟩ ah) {r:Int} (hp:fO.p F ah=some r):Rt (fO.tw F ⟨aB,ak,aC⟩ H) (fO.Q H R0 R0  r):=by
 obtain ⟨w0,aO⟩:=h0
 subst ba
 unfold fO.p at hp
 unfold fO.tw fO.twX
 have s0:=w0.rf
 exact az hp ⟨rfl,w0,s0,trivial⟩
def dJ.Q (H0:Hp) (Ri R0:atf)  (r:Bool) (v:AV) (H':Hp):Prop:=v=(.bool r)/\Out H0 Ri H' (R0) λR=>True
def dJ.p (F:Nat) (ah:atB) (aA:Int):Option (Bool):=(fO.p F ah).bind λr1=>(dx.p F aA 0 (wrap .i64 (r1 - 1))).bind λr3=>some r3
theorem dJ.P {aB ak aC ah aA} (ba:ak=ah.length) (h0:Inn H R0 λR=>ROs (ac eI eI) H R ⟨aB,ak,aC⟩ ah) {r:Bool} (hp:dJ.p F ah aA=some r):Rt (dJ.tw F ⟨aB,ak,aC⟩ aA H) (dJ.Q H R0 R0  r):=by
 obtain ⟨w0,aO⟩:=h0
 subst ba
 unfold dJ.p at hp
 unfold dJ.tw dJ.twX
 have s0:=w0.rf
 obtain ⟨r1,e1,hp⟩:=ag hp
 refine aE (fO.P rfl ⟨w0,aO⟩ e1) ?_
 rintro _ H2 ⟨rfl,w2,s2,_⟩
 refine br ?_
 obtain ⟨r3,e3,hp⟩:=ag hp
 refine aE (dx.P ⟨w2,trivial⟩ e3) ?_
 rintro _ H4 ⟨rfl,w4,s4,_⟩
 refine br ?_
 exact az hp ⟨rfl,w4,(s0.trans (s2.trans s4)),trivial⟩
def bf.Q (H0:Hp) (Ri R0:atf)  (r:(List (Int×Int))×(List (Int×Int))×Bool) (v:AV) (H':Hp):Prop:=∃ o0a:ON,∃ o0n:Nat,∃ o0c:Cap,∃ o0k:List AV,∃ o1a:ON,∃ o1n:Nat,∃ o1c:Cap,∃ o1k:List AV,v=(.tup [(.agg [(.sl ⟨o0a,o0n,o0c⟩),(.sl ⟨o1a,o1n,o1c⟩)]),(.bool r.2.2)])/\o0n=(r.1).length/\o1n=(r.2.1).length/\Out H0 Ri H' (Rs.own ⟨o0a,o0n,o0c⟩ (ac eI eI).z o0k::Rs.own ⟨o1a,o1n,o1c⟩ (ac eI eI).z o1k::R0) λR=>CR (ac eI eI) H' R o0k (r.1)/\CR (ac eI eI) H' R o1k (r.2.1)
def bf.S61 (H0:Hp) (Ri R0:atf)  (C:aug) (pC:aut):Prop:=∀ {Oh qY Oi Oj Ol Fg ns eW Fh Fi mS Fj Om qZ On Oo Oq Ot q_ ra rb Ou rc Ov Ox jX kz ik},∀ {H:Hp},Fg=Ot.length->ns=q_.length->Fh=ra.length->Fi=rb.length->Fj=jX.length->(Out H0 Ri H (Rs.own ⟨Oh,Fg,Om⟩ (ac eI eI).z Ou::Rs.own ⟨qY,ns,qZ⟩ (ac eI eI).z rc::Rs.blk eW [.sl ⟨Oh,Fg,Om⟩,.sl ⟨qY,ns,qZ⟩]::Rs.own ⟨Oi,Fh,On⟩ (ac eI eI).z Ov::Rs.own ⟨Oj,Fi,Oo⟩ (ac eI eI).z Ox::Rs.blk mS [.sl ⟨Oi,Fh,On⟩,.sl ⟨Oj,Fi,Oo⟩]::R0) λR=>CR (ac eI eI) H R Ou Ot/\CR (ac eI eI) H R rc q_/\CR (ac eI eI) H R Ov ra/\CR (ac eI eI) H R Ox rb/\ROs (ac eI (ac eI (ac eI (ac eI eI)))) H R ⟨Ol,Fj,Oq⟩ jX)->∀ {r:(List (Int×Int))×(List (Int×Int))×Bool},pC ra rb jX kz ik=some r->Rt (C eW 0 mS 0 ⟨Ol,Fj,Oq⟩ kz ik H) (bf.Q H0 Ri R0  r)
def bf.S3931 (H0:Hp) (Ri R0:atf)  (C:Nat->Nat->Nat->Nat->Sl->Int->Int->Nat->Nat->Int->Int->Int->Int->Int->Int->Hp->OA) (pC:List (Int×Int)->List (Int×Int)->List (Int×Int×Int×Int×Int)->Int->Int->Int->Int->Int->Int->Int->Int->Int->Option ((List (Int×Int))×(List (Int×Int))×Bool)):Prop:=∀ {Oy Oz OB OC OD Fk Fl eF Fm Fo fP Fp jq OE OF OG OH OI OJ OK gP gQ OL OM OO OP oR jo jp abh abi abj abk rh ii fv fx fy fz dA},∀ {H:Hp},Fk=OJ.length->Fl=OK.length->Fm=gP.length->Fo=gQ.length->Fp=oR.length->(Out H0 Ri H (Rs.own ⟨Oy,Fk,OE⟩ (ac eI eI).z OL::Rs.own ⟨Oz,Fl,OF⟩ (ac eI eI).z OM::Rs.blk eF [.sl ⟨Oy,Fk,OE⟩,.sl ⟨Oz,Fl,OF⟩]::Rs.own ⟨OB,Fm,OG⟩ (ac eI eI).z OO::Rs.own ⟨OC,Fo,OH⟩ (ac eI eI).z OP::Rs.blk fP [.sl ⟨OB,Fm,OG⟩,.sl ⟨OC,Fo,OH⟩]::Rs.blk jq [.i abh,.i abi,.i abj,.i abk,.i rh]::R0) λR=>CR (ac eI eI) H R OL OJ/\CR (ac eI eI) H R OM OK/\CR (ac eI eI) H R OO gP/\CR (ac eI eI) H R OP gQ/\ROs (ac eI (ac eI (ac eI (ac eI eI)))) H R ⟨OD,Fp,OI⟩ oR)->∀ {r:(List (Int×Int))×(List (Int×Int))×Bool},pC gP gQ oR jo jp rh ii fv fx fy fz dA=some r->Rt (C eF 0 fP 0 ⟨OD,Fp,OI⟩ jo jp jq 0 ii fv fx fy fz dA H) (bf.Q H0 Ri R0  r)
def bf.pl3931 (F:Nat) (ar:aut):Nat->List (Int×Int)->List (Int×Int)->List (Int×Int×Int×Int×Int)->Int->Int->Int->Int->Int->Int->Int->Int->Int->Option ((List (Int×Int))×(List (Int×Int))×Bool)
 | 0,_,_,_,_,_,_,_,_,_,_,_,_=>none
 | k+1,gP,gQ,oR,jo,jp,rh,ii,fv,fx,fy,fz,dA=>(bif (decide (dA<4)) then ((if 0<=dA/\dA<(4:Int) then ((dV.p F rh dA).bind λr2=>(bif r2 then ((dJ.p F gQ (gt ([fv,fx,fy,fz]:List Int) (dA:Int).toNat)).bind λr6=>(bif (!r6) then (some (gP,gQ,false)) else ((ix gQ (gt ([fv,fx,fy,fz]:List Int) (dA:Int).toNat)).bind λn12=>(bif (decide (((gt gQ n12).1)>=0)) then (some (gP,gQ,false)) else ((ix gQ (gt ([fv,fx,fy,fz]:List Int) (dA:Int).toNat)).bind λn16=>(some (gQ.set n16 (ii,(gt gQ n16).2))).bind λl17=>(some (l17.set n16 ((gt l17 n16).1,dA))).bind λl19=>bf.pl3931 F ar k gP l19 oR jo jp rh ii fv fx fy fz (wrap .i64 (dA+1))))))) else ((dJ.p F gP (gt ([fv,fx,fy,fz]:List Int) (dA:Int).toNat)).bind λr24=>(bif (!r24) then (some (gP,gQ,false)) else ((ix gP (gt ([fv,fx,fy,fz]:List Int) (dA:Int).toNat)).bind λn30=>(bif (decide (((gt gP n30).1)>=0)) then (some (gP,gQ,false)) else ((ix gP (gt ([fv,fx,fy,fz]:List Int) (dA:Int).toNat)).bind λn34=>(some (gP.set n34 (ii,(gt gP n34).2))).bind λl35=>(some (l35.set n34 ((gt l35 n34).1,dA))).bind λl37=>bf.pl3931 F ar k l37 gQ oR jo jp rh ii fv fx fy fz (wrap .i64 (dA+1))))))))) else none)) else (ar gP gQ oR jo (wrap .i64 (jp+1))))
theorem bf.l3931_P  {C61_:aug} {ar:aut} (hC61:bf.S61 H0 Ri R0  C61_ ar):∀ k,bf.S3931 H0 Ri R0  (bf.l3931 F (bw.tw F) (dU.tw F) (dV.tw F) (dJ.tw F) C61_ k) (bf.pl3931 F ar k):=by
 intro k
 induction k with
 | zero=>unfold bf.S3931;intros;rename_i hp;cases hp
 | succ k ih=>
  intro Oy Oz OB OC OD Fk Fl eF Fm Fo fP Fp jq OE OF OG OH OI OJ OK gP gQ OL OM OO OP oR jo jp abh abi abj abk rh ii fv fx fy fz dA H ank anl anm ann ano h0 r hp
  obtain ⟨w0,s0,OQ,OR,ml,mm,OS⟩:=h0
  subst ank
  subst anl
  subst anm
  subst ann
  subst ano
  unfold bf.pl3931 at hp
  unfold bf.l3931
  refine ay hp (λhp=>?_) λhp=>?_
  ·obtain ⟨g1,hp⟩:=fX hp
   refine eL g1 ?_
   refine ai (a:=AV.int .i64 (gt ([fv,fx,fy,fz]:List Int) (dA:Int).toNat)) (by rw [Nat.mul_one];exact afU (k:=.i64) (l:=[fv,fx,fy,fz]) rfl (by have:=g1;simp only [List.length_cons,List.length_nil];omega)) ?_
   refine br ?_
   refine lSl w0 5 ?_
   refine lI w0 6 ?_
   refine lI w0 6 ?_
   refine lI w0 6 ?_
   refine lI w0 6 ?_
   refine lI w0 6 ?_
   obtain ⟨r2,e2,hp⟩:=ag hp
   refine aE (dV.P ⟨w0,trivial⟩ e2) ?_
   rintro _ H3 ⟨rfl,w3,s3,_⟩
   refine br ?_
   refine ay hp (λhp=>?_) λhp=>?_
   ·refine lSl w3 5 ?_
    obtain ⟨w4,s4⟩:=w3.pp [4,0,1,2,3,5,6] 7
    have f5:=W.borrow1 (ac eI eI) w4 (mm.step (s3.trans s4))
    obtain ⟨w5,s5⟩:=w4.right1
    obtain ⟨r6,e6,hp⟩:=ag hp
    refine aE (dJ.P rfl ⟨w5,f5⟩ e6) ?_
    rintro _ H7 ⟨rfl,w7,s7,_⟩
    obtain ⟨w8,s8⟩:=W.frame1 w4 w7 s7
    refine br ?_
    refine ay hp (λhp=>?_) λhp=>?_
    ·refine lSl w8 5 ?_
     refine lSl w8 5 ?_
     refine aq w8 3 λH9 w9 s9=>?_
     refine aq w9 3 λH10 w10 s10=>?_
     refine lSl w10 3 ?_
     refine lSl w10 3 ?_
     obtain ⟨w11,s11⟩:=w10.pp [4,0] 7
     exact az hp ⟨_,_,_,_,_,_,_,_,rfl,rfl,rfl,w11,(s0.trans (s3.trans (s4.trans (s8.trans (s9.trans (s10.trans s11)))))),(ml.step (s3.trans (s4.trans (s8.trans (s9.trans (s10.trans s11)))))),(mm.step (s3.trans (s4.trans (s8.trans (s9.trans (s10.trans s11))))))⟩
    ·obtain ⟨n12,g12,hp⟩:=ag hp
     obtain ⟨p12,q12,i12,h12,j12⟩:=W.ixo (E:=(ac eI eI)) w8 (i:=0) rfl rfl (mm.step (s3.trans (s4.trans s8))) g12
     refine ai i12 ?_
     obtain ⟨_,_,rfl,rfl,rfl⟩:=h12
     refine ai (aG (j12 0 _ rfl)) ?_
     refine ay hp (λhp=>?_) λhp=>?_
     ·refine lSl w8 5 ?_
      refine lSl w8 5 ?_
      refine aq w8 3 λH13 w13 s13=>?_
      refine aq w13 3 λH14 w14 s14=>?_
      refine lSl w14 3 ?_
      refine lSl w14 3 ?_
      obtain ⟨w15,s15⟩:=w14.pp [4,0] 7
      exact az hp ⟨_,_,_,_,_,_,_,_,rfl,rfl,rfl,w15,(s0.trans (s3.trans (s4.trans (s8.trans (s13.trans (s14.trans s15)))))),(ml.step (s3.trans (s4.trans (s8.trans (s13.trans (s14.trans s15)))))),(mm.step (s3.trans (s4.trans (s8.trans (s13.trans (s14.trans s15))))))⟩
     ·obtain ⟨n16,g16,hp⟩:=ag hp
      obtain ⟨p16,q16,i16,h16,j16⟩:=W.ixo (E:=(ac eI eI)) w8 (i:=0) rfl rfl (mm.step (s3.trans (s4.trans s8))) g16
      refine ai i16 ?_
      obtain ⟨l17,e17,hp⟩:=ag hp
      refine dD (ac eI eI) w8 (i:=0) (j:=0) (p:=p16) rfl rfl (mm.step (s3.trans (s4.trans s8))) g16 i16 e17 rfl rfl (λ_ h=>by obtain ⟨_,_,rfl,rfl,rfl⟩:=h;exact ⟨[_],_,rfl,rfl,rfl⟩) λH18 k18 w18 s18 c18=>?_
      obtain ⟨l19,e19,hp⟩:=ag hp
      refine dD (ac eI eI) w18 (i:=0) (j:=1) (p:=p16) rfl rfl c18 (mw g16 (cA e17)) i16 e19 rfl rfl (λ_ h=>by obtain ⟨_,_,rfl,rfl,rfl⟩:=h;exact ⟨[_],_,rfl,rfl,rfl⟩) λH20 k20 w20 s20 c20=>?_
      obtain ⟨w21,s21⟩:=w20.pp [1,2,3,4,0,5,6] 7
      exact ih rfl rfl rfl ((cA e17).symm.trans (cA e19).symm) rfl ⟨w21,(s0.trans (s3.trans (s4.trans (s8.trans (s18.trans (s20.trans s21)))))),(OQ.step (s3.trans (s4.trans (s8.trans (s18.trans (s20.trans s21)))))),(OR.step (s3.trans (s4.trans (s8.trans (s18.trans (s20.trans s21)))))),(ml.step (s3.trans (s4.trans (s8.trans (s18.trans (s20.trans s21)))))),(c20.step s21),(OS.step (s3.trans (s4.trans (s8.trans (s18.trans (s20.trans s21))))))⟩ hp
   ·obtain ⟨w22,s22⟩:=w3.pp [3,0,1,2,4,5,6] 7
    have f23:=W.borrow1 (ac eI eI) w22 (ml.step (s3.trans s22))
    obtain ⟨w23,s23⟩:=w22.right1
    obtain ⟨r24,e24,hp⟩:=ag hp
    refine aE (dJ.P rfl ⟨w23,f23⟩ e24) ?_
    rintro _ H25 ⟨rfl,w25,s25,_⟩
    obtain ⟨w26,s26⟩:=W.frame1 w22 w25 s25
    refine br ?_
    refine ay hp (λhp=>?_) λhp=>?_
    ·refine lSl w26 5 ?_
     refine lSl w26 5 ?_
     refine aq w26 3 λH27 w27 s27=>?_
     refine aq w27 3 λH28 w28 s28=>?_
     refine lSl w28 3 ?_
     refine lSl w28 3 ?_
     obtain ⟨w29,s29⟩:=w28.pp [0,4] 7
     exact az hp ⟨_,_,_,_,_,_,_,_,rfl,rfl,rfl,w29,(s0.trans (s3.trans (s22.trans (s26.trans (s27.trans (s28.trans s29)))))),(ml.step (s3.trans (s22.trans (s26.trans (s27.trans (s28.trans s29)))))),(mm.step (s3.trans (s22.trans (s26.trans (s27.trans (s28.trans s29))))))⟩
    ·obtain ⟨n30,g30,hp⟩:=ag hp
     obtain ⟨p30,q30,i30,h30,j30⟩:=W.ixo (E:=(ac eI eI)) w26 (i:=0) rfl rfl (ml.step (s3.trans (s22.trans s26))) g30
     refine ai i30 ?_
     obtain ⟨_,_,rfl,rfl,rfl⟩:=h30
     refine ai (aG (j30 0 _ rfl)) ?_
     refine ay hp (λhp=>?_) λhp=>?_
     ·refine lSl w26 5 ?_
      refine lSl w26 5 ?_
      refine aq w26 3 λH31 w31 s31=>?_
      refine aq w31 3 λH32 w32 s32=>?_
      refine lSl w32 3 ?_
      refine lSl w32 3 ?_
      obtain ⟨w33,s33⟩:=w32.pp [0,4] 7
      exact az hp ⟨_,_,_,_,_,_,_,_,rfl,rfl,rfl,w33,(s0.trans (s3.trans (s22.trans (s26.trans (s31.trans (s32.trans s33)))))),(ml.step (s3.trans (s22.trans (s26.trans (s31.trans (s32.trans s33)))))),(mm.step (s3.trans (s22.trans (s26.trans (s31.trans (s32.trans s33))))))⟩
     ·obtain ⟨n34,g34,hp⟩:=ag hp
      obtain ⟨p34,q34,i34,h34,j34⟩:=W.ixo (E:=(ac eI eI)) w26 (i:=0) rfl rfl (ml.step (s3.trans (s22.trans s26))) g34
      refine ai i34 ?_
      obtain ⟨l35,e35,hp⟩:=ag hp
      refine dD (ac eI eI) w26 (i:=0) (j:=0) (p:=p34) rfl rfl (ml.step (s3.trans (s22.trans s26))) g34 i34 e35 rfl rfl (λ_ h=>by obtain ⟨_,_,rfl,rfl,rfl⟩:=h;exact ⟨[_],_,rfl,rfl,rfl⟩) λH36 k36 w36 s36 c36=>?_
      obtain ⟨l37,e37,hp⟩:=ag hp
      refine dD (ac eI eI) w36 (i:=0) (j:=1) (p:=p34) rfl rfl c36 (mw g34 (cA e35)) i34 e37 rfl rfl (λ_ h=>by obtain ⟨_,_,rfl,rfl,rfl⟩:=h;exact ⟨[_],_,rfl,rfl,rfl⟩) λH38 k38 w38 s38 c38=>?_
      obtain ⟨w39,s39⟩:=w38.pp [1,2,3,0,4,5,6] 7
      exact ih rfl rfl ((cA e35).symm.trans (cA e37).symm) rfl rfl ⟨w39,(s0.trans (s3.trans (s22.trans (s26.trans (s36.trans (s38.trans s39)))))),(OQ.step (s3.trans (s22.trans (s26.trans (s36.trans (s38.trans s39)))))),(OR.step (s3.trans (s22.trans (s26.trans (s36.trans (s38.trans s39)))))),(c38.step s39),(mm.step (s3.trans (s22.trans (s26.trans (s36.trans (s38.trans s39)))))),(OS.step (s3.trans (s22.trans (s26.trans (s36.trans (s38.trans s39))))))⟩ hp
  ·obtain ⟨w40,s40⟩:=w0.pp [0,1,2,3,4,5] 7
   exact hC61 rfl rfl rfl rfl rfl ⟨w40,(s0.trans s40),(OQ.step s40),(OR.step s40),(ml.step s40),(mm.step s40),(OS.step s40)⟩ hp
def bf.pl61 (F:Nat) :Nat->List (Int×Int)->List (Int×Int)->List (Int×Int×Int×Int×Int)->Int->Int->Option ((List (Int×Int))×(List (Int×Int))×Bool)
 | 0,_,_,_,_,_=>none
 | k+1,ra,rb,jX,kz,ik=>(bif (decide (ik<kz)) then ((ix jX ik).bind λn1=>(dU.p F ((gt jX n1).1) ((gt jX n1).2.1) ((gt jX n1).2.2.1) ((gt jX n1).2.2.2.1)).bind λr8=>bf.pl3931 F (bf.pl61 F k) F ra rb jX kz ik ((gt jX n1).2.2.2.2) ik r8.1 r8.2.1 r8.2.2.1 r8.2.2.2 0) else (some (ra,rb,true)))
theorem bf.l61_P  :∀ k,bf.S61 H0 Ri R0  (bf.l61 F (bw.tw F) (dU.tw F) (dV.tw F) (dJ.tw F)  k) (bf.pl61 F  k):=by
 intro k
 induction k with
 | zero=>unfold bf.S61;intros;rename_i hp;cases hp
 | succ k ih=>
  intro Oh qY Oi Oj Ol Fg ns eW Fh Fi mS Fj Om qZ On Oo Oq Ot q_ ra rb Ou rc Ov Ox jX kz ik H anp OU anq anr ans h0 r hp
  obtain ⟨w0,s0,ant,OW,abl,abm,abn⟩:=h0
  subst anp
  subst OU
  subst anq
  subst anr
  subst ans
  unfold bf.pl61 at hp
  unfold bf.l61
  refine ay hp (λhp=>?_) λhp=>?_
  ·obtain ⟨n1,g1,hp⟩:=ag hp
   obtain ⟨p1,q1,i1,h1,j1⟩:=ROs.ixr abn rfl g1
   refine ai i1 ?_
   obtain ⟨_,_,rfl,rfl,_,_,rfl,rfl,_,_,rfl,rfl,_,_,rfl,rfl,rfl⟩:=h1
   refine ai (aG (j1 0 _ rfl)) ?_
   refine ai (aG (j1 1 _ rfl)) ?_
   refine ai (aG (j1 2 _ rfl)) ?_
   refine ai (aG (j1 3 _ rfl)) ?_
   refine ai (aG (j1 4 _ rfl)) ?_
   refine aS w0 λH2 w2 s2=>?_
   refine aq w2 0 λH3 w3 s3=>?_
   refine aq w3 0 λH4 w4 s4=>?_
   refine aq w4 0 λH5 w5 s5=>?_
   refine aq w5 0 λH6 w6 s6=>?_
   refine aq w6 0 λH7 w7 s7=>?_
   refine lI w7 0 ?_
   refine lI w7 0 ?_
   refine lI w7 0 ?_
   refine lI w7 0 ?_
   refine lI w7 0 ?_
   obtain ⟨r8,e8,hp⟩:=ag hp
   refine aE (dU.P ⟨w7,trivial⟩ e8) ?_
   rintro _ H9 ⟨rfl,w9,s9,_⟩
   refine br (br (br (br (br (br (br (br (br ?_))))))))
   obtain ⟨w10,s10⟩:=w9.pp [1,2,3,4,5,6,0] 7
   exact bf.l3931_P (@ih) F rfl rfl rfl rfl rfl ⟨w10,(s0.trans (s2.trans (s3.trans (s4.trans (s5.trans (s6.trans (s7.trans (s9.trans s10)))))))),(ant.step (s2.trans (s3.trans (s4.trans (s5.trans (s6.trans (s7.trans (s9.trans s10)))))))),(OW.step (s2.trans (s3.trans (s4.trans (s5.trans (s6.trans (s7.trans (s9.trans s10)))))))),(abl.step (s2.trans (s3.trans (s4.trans (s5.trans (s6.trans (s7.trans (s9.trans s10)))))))),(abm.step (s2.trans (s3.trans (s4.trans (s5.trans (s6.trans (s7.trans (s9.trans s10)))))))),(abn.step (s2.trans (s3.trans (s4.trans (s5.trans (s6.trans (s7.trans (s9.trans s10))))))))⟩ hp
  ·refine lSl w0 5 ?_
   refine lSl w0 5 ?_
   refine aq w0 2 λH11 w11 s11=>?_
   refine aq w11 2 λH12 w12 s12=>?_
   refine lSl w12 2 ?_
   refine lSl w12 2 ?_
   obtain ⟨w13,s13⟩:=w12.pp [3,4] 6
   exact az hp ⟨_,_,_,_,_,_,_,_,rfl,rfl,rfl,w13,(s0.trans (s11.trans (s12.trans s13))),(abl.step (s11.trans (s12.trans s13))),(abm.step (s11.trans (s12.trans s13)))⟩
def bf.p (F:Nat) (ah:ato):Option ((List (Int×Int))×(List (Int×Int))×Bool):=(bw.p F ([((-1),0)]:List (Int×Int)) (wrap .i64 (2 * (ah.length:Int)))).bind λr5=>(bw.p F ([((-1),0)]:List (Int×Int)) (wrap .i64 (2 * (ah.length:Int)))).bind λr10=>bf.pl61 F F r5 r10 ah (ah.length:Int) 0
theorem bf.P {aB ak aC ah af} (ba:ak=ah.length) (h0:Inn H R0 λR=>ROs (ac eI (ac eI (ac eI (ac eI eI)))) H R ⟨aB,ak,aC⟩ ah) {r:(List (Int×Int))×(List (Int×Int))×Bool} (hp:bf.p F ah=some r):Rt (bf.tw F ⟨aB,ak,aC⟩ af H) (bf.Q H R0 R0  r):=by
 obtain ⟨w0,aO⟩:=h0
 subst ba
 unfold bf.p at hp
 unfold bf.tw bf.twX
 have s0:=w0.rf
 refine aS w0 λH1 w1 s1=>?_
 refine aS w1 λH2 w2 s2=>?_
 refine lSl w2 1 ?_
 refine cL (ac eI eI) w2 (n:=1) (l:=([((-1),0)]:List (Int×Int))) rfl (CR.cons (c:=[_,_]) ⟨[_],_,rfl,rfl,rfl⟩ CR.empty) rfl λH3 w3 s3 c3=>?_
 have f4:=W.borrow1 (ac eI eI) w3 c3
 obtain ⟨w4,s4⟩:=w3.right1
 obtain ⟨r5,e5,hp⟩:=ag hp
 refine aE (bw.P (show 1=List.length ([((-1),0)]:List (Int×Int)) from rfl) ⟨w4,f4⟩ e5) ?_
 rintro _ H6 ⟨o0a_6,o0n_6,o0k_6,rfl,rfl,w6,s6,f6_0⟩
 obtain ⟨w7,s7⟩:=W.frame1 w3 w6 s6
 refine br ?_
 refine cL (ac eI eI) w7 (n:=1) (l:=([((-1),0)]:List (Int×Int))) rfl (CR.cons (c:=[_,_]) ⟨[_],_,rfl,rfl,rfl⟩ CR.empty) rfl λH8 w8 s8 c8=>?_
 have f9:=W.borrow1 (ac eI eI) w8 c8
 obtain ⟨w9,s9⟩:=w8.right1
 obtain ⟨r10,e10,hp⟩:=ag hp
 refine aE (bw.P (show 1=List.length ([((-1),0)]:List (Int×Int)) from rfl) ⟨w9,f9⟩ e10) ?_
 rintro _ H11 ⟨o0a_11,o0n_11,o0k_11,rfl,rfl,w11,s11,f11_0⟩
 obtain ⟨w12,s12⟩:=W.frame1 w8 w11 s11
 refine br ?_
 refine aS w12 λH13 w13 s13=>?_
 refine aq w13 0 λH14 w14 s14=>?_
 refine aq w14 0 λH15 w15 s15=>?_
 refine lSl w15 6 ?_
 obtain ⟨w16,s16⟩:=w15.nilS (ac eI eI).z (by decide)
 obtain ⟨w17,s17⟩:=w16.nilS (ac eI eI).z (by decide)
 obtain ⟨w18,s18⟩:=w17.pp [1,0,7,6,4,2] 9
 exact bf.l61_P F rfl rfl rfl rfl rfl ⟨w18,(s0.trans (s1.trans (s2.trans (s3.trans (s7.trans (s8.trans (s12.trans (s13.trans (s14.trans (s15.trans (s16.trans (s17.trans s18)))))))))))),((CR.empty:CR (ac eI eI) _ _ [] []).step (s17.trans s18)),((CR.empty:CR (ac eI eI) _ _ [] []).step s18),((CR.flat (afV (fB .i64) (fB .i64)) f6_0).step (s8.trans (s12.trans (s13.trans (s14.trans (s15.trans (s16.trans (s17.trans s18)))))))),((CR.flat (afV (fB .i64) (fB .i64)) f11_0).step (s13.trans (s14.trans (s15.trans (s16.trans (s17.trans s18)))))),(aO.step (s1.trans (s2.trans (s3.trans (s7.trans (s8.trans (s12.trans (s13.trans (s14.trans (s15.trans (s16.trans (s17.trans s18))))))))))))⟩ hp
def dk.Q (H0:Hp) (Ri R0:atf)  (r:atD) (v:AV) (H':Hp):Prop:=v=(.agg [(.i r.1),(.i r.2)])/\Out H0 Ri H' (R0) λR=>True
def dk.p (F:Nat) (ah:ato) (ez:atB) (bA:atB) (iU:Int) (fQ:Int):Option (Int×Int):=(ix ah iU).bind λn5=>(dU.p F ((gt ah n5).1) ((gt ah n5).2.1) ((gt ah n5).2.2.1) ((gt ah n5).2.2.2.1)).bind λr12=>(if 0<=fQ/\fQ<(4:Int) then ((dV.p F ((gt ah n5).2.2.2.2) fQ).bind λr16=>(bif r16 then ((ix ez (gt ([r12.1,r12.2.1,r12.2.2.1,r12.2.2.2]:List Int) (fQ:Int).toNat)).bind λn18=>some (((gt ez n18).1),((gt ez n18).2))) else ((ix bA (gt ([r12.1,r12.2.1,r12.2.2.1,r12.2.2.2]:List Int) (fQ:Int).toNat)).bind λn22=>some (((gt bA n22).1),((gt bA n22).2))))) else none)
theorem dk.P {aB lH ew ak iD dh aC lJ ey ah af iU fQ ez bA} (ba:ak=ah.length) (ri:iD=ez.length) (gO:dh=bA.length) (h0:Inn H R0 λR=>ROs (ac eI (ac eI (ac eI (ac eI eI)))) H R ⟨aB,ak,aC⟩ ah/\ROs (ac eI eI) H R ⟨lH,iD,lJ⟩ ez/\ROs (ac eI eI) H R ⟨ew,dh,ey⟩ bA) {r:atD} (hp:dk.p F ah ez bA iU fQ=some r):Rt (dk.tw F ⟨aB,ak,aC⟩ af ⟨lH,iD,lJ⟩ ⟨ew,dh,ey⟩ iU fQ H) (dk.Q H R0 R0  r):=by
 obtain ⟨w0,aO,rj,fd⟩:=h0
 subst ba
 subst ri
 subst gO
 unfold dk.p at hp
 unfold dk.tw dk.twX
 have s0:=w0.rf
 refine aS w0 λH1 w1 s1=>?_
 refine aS w1 λH2 w2 s2=>?_
 refine aS w2 λH3 w3 s3=>?_
 refine aS w3 λH4 w4 s4=>?_
 refine lSl w4 3 ?_
 refine lI w4 1 ?_
 obtain ⟨n5,g5,hp⟩:=ag hp
 obtain ⟨p5,q5,i5,h5,j5⟩:=ROs.ixr (aO.step (s1.trans (s2.trans (s3.trans s4)))) rfl g5
 refine ai i5 ?_
 obtain ⟨_,_,rfl,rfl,_,_,rfl,rfl,_,_,rfl,rfl,_,_,rfl,rfl,rfl⟩:=h5
 refine ai (aG (j5 0 _ rfl)) ?_
 refine ai (aG (j5 1 _ rfl)) ?_
 refine ai (aG (j5 2 _ rfl)) ?_
 refine ai (aG (j5 3 _ rfl)) ?_
 refine ai (aG (j5 4 _ rfl)) ?_
 refine aS w4 λH6 w6 s6=>?_
 refine aq w6 0 λH7 w7 s7=>?_
 refine aq w7 0 λH8 w8 s8=>?_
 refine aq w8 0 λH9 w9 s9=>?_
 refine aq w9 0 λH10 w10 s10=>?_
 refine aq w10 0 λH11 w11 s11=>?_
 refine lI w11 0 ?_
 refine lI w11 0 ?_
 refine lI w11 0 ?_
 refine lI w11 0 ?_
 refine lI w11 0 ?_
 obtain ⟨r12,e12,hp⟩:=ag hp
 refine aE (dU.P ⟨w11,trivial⟩ e12) ?_
 rintro _ H13 ⟨rfl,w13,s13,_⟩
 refine br (br (br (br (br (br (br (br (br ?_))))))))
 refine eL (W.cons_of (Rn:=[]) w11 w13 s13) ?_
 refine lI w13 2 ?_
 obtain ⟨g15,hp⟩:=fX hp
 refine eL g15 ?_
 refine ai (a:=AV.int .i64 (gt ([r12.1,r12.2.1,r12.2.2.1,r12.2.2.2]:List Int) (fQ:Int).toNat)) (by rw [Nat.mul_one];exact afU (k:=.i64) (l:=[r12.1,r12.2.1,r12.2.2.1,r12.2.2.2]) rfl (by have:=g15;simp only [List.length_cons,List.length_nil];omega)) ?_
 refine br ?_
 refine lI w13 0 ?_
 refine lI w13 0 ?_
 refine lI w13 0 ?_
 refine lI w13 0 ?_
 refine lI w13 0 ?_
 refine lI w13 2 ?_
 obtain ⟨r16,e16,hp⟩:=ag hp
 refine aE (dV.P ⟨w13,trivial⟩ e16) ?_
 rintro _ H17 ⟨rfl,w17,s17,_⟩
 refine br ?_
 refine ay hp (λhp=>?_) λhp=>?_
 ·refine lSl w17 3 ?_
  obtain ⟨n18,g18,hp⟩:=ag hp
  obtain ⟨p18,q18,i18,h18,j18⟩:=ROs.ixr (rj.step (s1.trans (s2.trans (s3.trans (s4.trans (s6.trans (s7.trans (s8.trans (s9.trans (s10.trans (s11.trans (s13.trans s17)))))))))))) rfl g18
  refine ai i18 ?_
  obtain ⟨_,_,rfl,rfl,rfl⟩:=h18
  refine ai (aG (j18 0 _ rfl)) ?_
  refine ai (aG (j18 1 _ rfl)) ?_
  refine aq w17 1 λH19 w19 s19=>?_
  refine aq w19 1 λH20 w20 s20=>?_
  refine lI w20 1 ?_
  refine lI w20 1 ?_
  obtain ⟨w21,s21⟩:=w20.pp [] 5
  exact az hp ⟨rfl,w21,(s0.trans (s1.trans (s2.trans (s3.trans (s4.trans (s6.trans (s7.trans (s8.trans (s9.trans (s10.trans (s11.trans (s13.trans (s17.trans (s19.trans (s20.trans s21))))))))))))))),trivial⟩
 ·refine lSl w17 3 ?_
  obtain ⟨n22,g22,hp⟩:=ag hp
  obtain ⟨p22,q22,i22,h22,j22⟩:=ROs.ixr (fd.step (s1.trans (s2.trans (s3.trans (s4.trans (s6.trans (s7.trans (s8.trans (s9.trans (s10.trans (s11.trans (s13.trans s17)))))))))))) rfl g22
  refine ai i22 ?_
  obtain ⟨_,_,rfl,rfl,rfl⟩:=h22
  refine ai (aG (j22 0 _ rfl)) ?_
  refine ai (aG (j22 1 _ rfl)) ?_
  refine aq w17 1 λH23 w23 s23=>?_
  refine aq w23 1 λH24 w24 s24=>?_
  refine lI w24 1 ?_
  refine lI w24 1 ?_
  obtain ⟨w25,s25⟩:=w24.pp [] 5
  exact az hp ⟨rfl,w25,(s0.trans (s1.trans (s2.trans (s3.trans (s4.trans (s6.trans (s7.trans (s8.trans (s9.trans (s10.trans (s11.trans (s13.trans (s17.trans (s23.trans (s24.trans s25))))))))))))))),trivial⟩
def aL.Q (H0:Hp) (Ri R0:atf)  (r:ats) (v:AV) (H':Hp):Prop:=∃ o0a:ON,∃ o0n:Nat,∃ o0c:Cap,∃ o0k:List AV,v=(.sl ⟨o0a,o0n,o0c⟩)/\o0n=(r).length/\Out H0 Ri H' (Rs.own ⟨o0a,o0n,o0c⟩ (eSl eI).z o0k::R0) λR=>CR (eSl eI) H' R o0k (r)
def aL.S61 (H0:Hp) (Ri R0:atf)  (C:atL) (pC:atO):Prop:=∀ {OX OY OZ O_ Pa Fq dS Fs Ft pO Fu Fv Pb Pc Pd Pe Pf wo abo gT eG wq wu rm Pg Ph wv},∀ {H:Hp},Fq=wo.length->Fs=wq.length->Ft=wu.length->Fu=rm.length->Fv=wv.length->(Out H0 Ri H (Rs.blk dS [.sl ⟨OX,Fq,Pb⟩,.i abo]::Rs.blk pO [.sl ⟨OY,Fs,Pc⟩,.sl ⟨OZ,Ft,Pd⟩]::Rs.own ⟨O_,Fu,Pe⟩ (eSl eI).z Pg::Rs.own ⟨Pa,Fv,Pf⟩ cD.z Ph::R0) λR=>ROs (ac eI (ac eI (ac eI (ac eI eI)))) H R ⟨OX,Fq,Pb⟩ wo/\ROs (ac eI eI) H R ⟨OY,Fs,Pc⟩ wq/\ROs (ac eI eI) H R ⟨OZ,Ft,Pd⟩ wu/\CR (eSl eI) H R Pg rm/\CR cD H R Ph wv)->∀ {r:ats},pC wo wq wu rm wv gT eG=some r->Rt (C dS 0 pO 0 ⟨O_,Fu,Pe⟩ ⟨Pa,Fv,Pf⟩ gT eG H) (aL.Q H0 Ri R0  r)
def aL.S15725 (H0:Hp) (Ri R0:atf)  (C:Nat->Nat->Nat->Nat->Sl->Sl->Int->Int->Sl->Int->Hp->OA) (pC:List (Int×Int×Int×Int×Int)->List (Int×Int)->List (Int×Int)->List (List Int)->List Bool->Int->Int->List Int->Int->Option (List (List Int))):Prop:=∀ {Pi Pj Pm Pn Pp Pq Fw lW Fx Fy lX Fz FA FB Pr Ps Pt Pu Pv Pw oS abp kA kB fR oT oU rn Px Py Pz mn rp},∀ {H:Hp},Fw=oS.length->Fx=oT.length->Fy=oU.length->Fz=rn.length->FA=mn.length->FB=rp.length->(Out H0 Ri H (Rs.blk lW [.sl ⟨Pi,Fw,Pr⟩,.i abp]::Rs.blk lX [.sl ⟨Pj,Fx,Ps⟩,.sl ⟨Pm,Fy,Pt⟩]::Rs.own ⟨Pn,Fz,Pu⟩ (eSl eI).z Px::Rs.own ⟨Pp,FA,Pv⟩ cD.z Py::Rs.own ⟨Pq,FB,Pw⟩ eI.z Pz::R0) λR=>ROs (ac eI (ac eI (ac eI (ac eI eI)))) H R ⟨Pi,Fw,Pr⟩ oS/\ROs (ac eI eI) H R ⟨Pj,Fx,Ps⟩ oT/\ROs (ac eI eI) H R ⟨Pm,Fy,Pt⟩ oU/\CR (eSl eI) H R Px rn/\CR cD H R Py mn/\CR eI H R Pz rp)->∀ {r:ats},pC oS oT oU rn mn kA kB rp fR=some r->Rt (C lW 0 lX 0 ⟨Pn,Fz,Pu⟩ ⟨Pp,FA,Pv⟩ kA kB ⟨Pq,FB,Pw⟩ fR H) (aL.Q H0 Ri R0  r)
def aL.pj4 (F:Nat) (ar:atO) (zp:ato) (zq:atB) (zr:atB) (zt:ats) (zu:at8) (uj:Int) (uk:Int):Option (List (List Int)):=ar zp zq zr zt zu uj (wrap .i64 (uk+1))
theorem aL.j4_P  {C61_:atL} {ar:atO} (hC61:aL.S61 H0 Ri R0  C61_ ar) {abq abr abt abu abv PA BN PB PC BO PD PE abw abx aby abz abA zp anu uj uk zq zr zt abB abC zu} (anv:PA=zp.length) (anw:PB=zq.length) (anx:PC=zr.length) (anz:PD=zt.length) (anA:PE=zu.length) (h0:Out H0 Ri H (Rs.blk BN [.sl ⟨abq,PA,abw⟩,.i anu]::Rs.blk BO [.sl ⟨abr,PB,abx⟩,.sl ⟨abt,PC,aby⟩]::Rs.own ⟨abu,PD,abz⟩ (eSl eI).z abB::Rs.own ⟨abv,PE,abA⟩ cD.z abC::R0) λR=>ROs (ac eI (ac eI (ac eI (ac eI eI)))) H R ⟨abq,PA,abw⟩ zp/\ROs (ac eI eI) H R ⟨abr,PB,abx⟩ zq/\ROs (ac eI eI) H R ⟨abt,PC,aby⟩ zr/\CR (eSl eI) H R abB zt/\CR cD H R abC zu) {r:ats} (hp:aL.pj4 F ar zp zq zr zt zu uj uk=some r):Rt (aL.j4 F (dk.tw F) C61_ BN 0 BO 0 ⟨abu,PD,abz⟩ ⟨abv,PE,abA⟩ uj uk H) (aL.Q H0 Ri R0  r):=by
 obtain ⟨w0,s0,anB,anC,anD,anE,anF⟩:=h0
 subst anv
 subst anw
 subst anx
 subst anz
 subst anA
 unfold aL.pj4 at hp
 unfold aL.j4
 exact hC61 rfl rfl rfl rfl rfl ⟨w0,s0,anB,anC,anD,anE,anF⟩ hp
def aL.pj5 (F:Nat) (ar:atO) (zw:ato) (zx:atB) (zy:atB) (zA:ats) (zB:at8) (ul:Int) (um:Int):Option (List (List Int)):=aL.pj4 F ar zw zx zy zA zB ul um
theorem aL.j5_P  {C61_:atL} {ar:atO} (hC61:aL.S61 H0 Ri R0  C61_ ar) {abD abE abF abG abH PF BP PG PH sx PI PJ abI abJ abK abL abM zw anG ul um zx zy zA abN abO zB} (anH:PF=zw.length) (anI:PG=zx.length) (anJ:PH=zy.length) (anK:PI=zA.length) (anL:PJ=zB.length) (h0:Out H0 Ri H (Rs.blk BP [.sl ⟨abD,PF,abI⟩,.i anG]::Rs.blk sx [.sl ⟨abE,PG,abJ⟩,.sl ⟨abF,PH,abK⟩]::Rs.own ⟨abG,PI,abL⟩ (eSl eI).z abN::Rs.own ⟨abH,PJ,abM⟩ cD.z abO::R0) λR=>ROs (ac eI (ac eI (ac eI (ac eI eI)))) H R ⟨abD,PF,abI⟩ zw/\ROs (ac eI eI) H R ⟨abE,PG,abJ⟩ zx/\ROs (ac eI eI) H R ⟨abF,PH,abK⟩ zy/\CR (eSl eI) H R abN zA/\CR cD H R abO zB) {r:ats} (hp:aL.pj5 F ar zw zx zy zA zB ul um=some r):Rt (aL.j5 F (dk.tw F) C61_ BP 0 sx 0 ⟨abG,PI,abL⟩ ⟨abH,PJ,abM⟩ ul um H) (aL.Q H0 Ri R0  r):=by
 obtain ⟨w0,s0,anM,anN,anO,anP,anQ⟩:=h0
 subst anH
 subst anI
 subst anJ
 subst anK
 subst anL
 unfold aL.pj5 at hp
 unfold aL.j5
 exact aL.j4_P (@hC61) rfl rfl rfl rfl rfl ⟨w0,s0,anM,anN,anO,anP,anQ⟩ hp
def aL.pj6 (F:Nat) (ar:atO) (ww:ato) (wx:atB) (wy:atB) (wz:ats) (wA:at8) (oV:ati) (oa:Int) (ob:Int):Option (List (List Int)):=(bif (decide ((oV.length:Int)>0)) then ((apn wz ([oV]:List (List Int))).bind λl3=>aL.pj5 F ar ww wx wy l3 wA oa ob) else (aL.pj5 F ar ww wx wy wz wA oa ob))
theorem aL.j6_P  {C61_:atL} {ar:atO} (hC61:aL.S61 H0 Ri R0  C61_ ar) {abP abQ abR abS abT abU PK xm PL PM xn PO PP PQ abV abW abX abY abZ ab0 ww anR oa ob wx wy wz ab1 ab2 ab3 wA oV} (anS:PK=ww.length) (anT:PL=wx.length) (anU:PM=wy.length) (anV:PO=wz.length) (anW:PP=wA.length) (anX:PQ=oV.length) (h0:Out H0 Ri H (Rs.blk xm [.sl ⟨abP,PK,abV⟩,.i anR]::Rs.blk xn [.sl ⟨abQ,PL,abW⟩,.sl ⟨abR,PM,abX⟩]::Rs.own ⟨abS,PO,abY⟩ (eSl eI).z ab1::Rs.own ⟨abT,PP,abZ⟩ cD.z ab2::Rs.own ⟨abU,PQ,ab0⟩ eI.z ab3::R0) λR=>ROs (ac eI (ac eI (ac eI (ac eI eI)))) H R ⟨abP,PK,abV⟩ ww/\ROs (ac eI eI) H R ⟨abQ,PL,abW⟩ wx/\ROs (ac eI eI) H R ⟨abR,PM,abX⟩ wy/\CR (eSl eI) H R ab1 wz/\CR cD H R ab2 wA/\CR eI H R ab3 oV) {r:ats} (hp:aL.pj6 F ar ww wx wy wz wA oV oa ob=some r):Rt (aL.j6 F (dk.tw F) C61_ xm 0 xn 0 ⟨abS,PO,abY⟩ ⟨abT,PP,abZ⟩ ⟨abU,PQ,ab0⟩ oa ob H) (aL.Q H0 Ri R0  r):=by
 obtain ⟨w0,s0,ab4,ab5,ab6,ab7,ab8,anY⟩:=h0
 subst anS
 subst anT
 subst anU
 subst anV
 subst anW
 subst anX
 unfold aL.pj6 at hp
 unfold aL.j6
 refine ay hp (λhp=>?_) λhp=>?_
 ·obtain ⟨w1,s1,f1⟩:=w0.frz (i:=4) eI rfl anY
  refine cL (eSl eI) w1 (n:=1) (l:=([oV]:List (List Int))) rfl (CR.cons1 ⟨_,rfl,f1⟩ CR.empty) rfl λH2 w2 s2 c2=>?_
  refine ai (w2.rowo (i:=0) rfl) ?_
  obtain ⟨l3,e3,hp⟩:=ag hp
  refine fA (eSl eI) w2 (i:=3) rfl rfl (ab7.step (s1.trans s2)) c2 (show 1=List.length ([oV]:List (List Int)) from rfl) rfl e3 λa4 d4 H4 w4 s4 c4 x4=>?_
  obtain ⟨w5,s5⟩:=w4.pp [1,2,3,4] 5
  exact aL.j5_P (@hC61) rfl rfl rfl rfl rfl ⟨w5,(s0.trans (s1.trans (s2.trans (s4.trans s5)))),(ab4.step (s1.trans (s2.trans (s4.trans s5)))),(ab5.step (s1.trans (s2.trans (s4.trans s5)))),(ab6.step (s1.trans (s2.trans (s4.trans s5)))),(c4.step s5),(ab8.step (s1.trans (s2.trans (s4.trans s5))))⟩ hp
 ·obtain ⟨w6,s6⟩:=w0.pp [0,1,2,3] 5
  exact aL.j5_P (@hC61) rfl rfl rfl rfl rfl ⟨w6,(s0.trans s6),(ab4.step s6),(ab5.step s6),(ab6.step s6),(ab7.step s6),(ab8.step s6)⟩ hp
def aL.pl15725 (F:Nat) (ar:atO):Nat->List (Int×Int×Int×Int×Int)->List (Int×Int)->List (Int×Int)->List (List Int)->List Bool->Int->Int->List Int->Int->Option (List (List Int))
 | 0,_,_,_,_,_,_,_,_,_=>none
 | k+1,oS,oT,oU,rn,mn,kA,kB,rp,fR=>(ix mn fR).bind λn1=>(bif (!(gt mn n1)) then ((ix mn fR).bind λn2=>(some (mn.set n2 true)).bind λl3=>(apn rp ([fR]:List Int)).bind λl6=>(dk.p F oS oT oU (wrap .i64 (Int.tdiv fR 4)) (Int.tmod (wrap .i64 (fR+1)) 4)).bind λr8=>aL.pl15725 F ar k oS oT oU rn l3 kA kB l6 (wrap .i64 ((wrap .i64 (4 * r8.1))+r8.2))) else (aL.pj6 F ar oS oT oU rn mn rp kA kB))
theorem aL.l15725_P  {C61_:atL} {ar:atO} (hC61:aL.S61 H0 Ri R0  C61_ ar):∀ k,aL.S15725 H0 Ri R0  (aL.l15725 F (dk.tw F) C61_ k) (aL.pl15725 F ar k):=by
 intro k
 induction k with
 | zero=>unfold aL.S15725;intros;rename_i hp;cases hp
 | succ k ih=>
  intro Pi Pj Pm Pn Pp Pq Fw lW Fx Fy lX Fz FA FB Pr Ps Pt Pu Pv Pw oS abp kA kB fR oT oU rn Px Py Pz mn rp H anZ an0 an1 an2 an3 an4 h0 r hp
  obtain ⟨w0,s0,PR,PU,PW,ab9,FC,ab_⟩:=h0
  subst anZ
  subst an0
  subst an1
  subst an2
  subst an3
  subst an4
  unfold aL.pl15725 at hp
  unfold aL.l15725
  obtain ⟨n1,g1,hp⟩:=ag hp
  obtain ⟨p1,q1,i1,h1,j1⟩:=W.ixo (E:=cD) w0 (i:=3) rfl rfl FC g1
  refine ai i1 ?_
  have h1:_=[_]:=h1
  subst h1
  refine ai (wJ (j1 0 _ rfl)) ?_
  refine ay hp (λhp=>?_) λhp=>?_
  ·obtain ⟨n2,g2,hp⟩:=ag hp
   obtain ⟨p2,q2,i2,h2,j2⟩:=W.ixo (E:=cD) w0 (i:=3) rfl rfl FC g2
   refine ai i2 ?_
   obtain ⟨l3,e3,hp⟩:=ag hp
   refine dD cD w0 (i:=3) (j:=0) (p:=p2) rfl rfl FC g2 i2 e3 rfl rfl (λ_ h=>by have h:_=[_]:=h;subst h;exact rfl) λH4 k4 w4 s4 c4=>?_
   refine cL eI w4 (n:=1) (l:=([fR]:List Int)) rfl (CR.cons1 rfl CR.empty) rfl λH5 w5 s5 c5=>?_
   refine ai (w5.rowo (i:=0) rfl) ?_
   obtain ⟨l6,e6,hp⟩:=ag hp
   refine fA eI w5 (i:=5) rfl rfl (ab_.step (s4.trans s5)) c5 (show 1=List.length ([fR]:List Int) from rfl) rfl e6 λa7 d7 H7 w7 s7 c7 x7=>?_
   refine lSl w7 1 ?_
   refine lI w7 1 ?_
   refine lSl w7 2 ?_
   refine lSl w7 2 ?_
   obtain ⟨r8,e8,hp⟩:=ag hp
   refine aE (dk.P rfl rfl rfl ⟨w7,(PR.step (s4.trans (s5.trans s7))),(PU.step (s4.trans (s5.trans s7))),(PW.step (s4.trans (s5.trans s7)))⟩ e8) ?_
   rintro _ H9 ⟨rfl,w9,s9,_⟩
   refine br (br (br (br (br ?_))))
   refine aS w9 λH10 w10 s10=>?_
   refine aq w10 0 λH11 w11 s11=>?_
   refine aq w11 0 λH12 w12 s12=>?_
   refine lI w12 0 ?_
   refine lI w12 0 ?_
   obtain ⟨w13,s13⟩:=w12.pp [2,3,4,5,6] 7
   exact ih rfl rfl rfl rfl ((cA e3).symm) rfl ⟨w13,(s0.trans (s4.trans (s5.trans (s7.trans (s9.trans (s10.trans (s11.trans (s12.trans s13)))))))),(PR.step (s4.trans (s5.trans (s7.trans (s9.trans (s10.trans (s11.trans (s12.trans s13)))))))),(PU.step (s4.trans (s5.trans (s7.trans (s9.trans (s10.trans (s11.trans (s12.trans s13)))))))),(PW.step (s4.trans (s5.trans (s7.trans (s9.trans (s10.trans (s11.trans (s12.trans s13)))))))),(ab9.step (s4.trans (s5.trans (s7.trans (s9.trans (s10.trans (s11.trans (s12.trans s13)))))))),(c4.step (s5.trans (s7.trans (s9.trans (s10.trans (s11.trans (s12.trans s13))))))),(c7.step (s9.trans (s10.trans (s11.trans (s12.trans s13)))))⟩ hp
  ·exact aL.j6_P (@hC61) rfl rfl rfl rfl rfl rfl ⟨w0,s0,PR,PU,PW,ab9,FC,ab_⟩ hp
def aL.pl61 (F:Nat) :Nat->List (Int×Int×Int×Int×Int)->List (Int×Int)->List (Int×Int)->List (List Int)->List Bool->Int->Int->Option (List (List Int))
 | 0,_,_,_,_,_,_,_=>none
 | k+1,wo,wq,wu,rm,wv,gT,eG=>(bif (decide (eG<gT)) then (aL.pl15725 F (aL.pl61 F k) F wo wq wu rm wv gT eG ([]:List Int) eG) else (some rm))
theorem aL.l61_P  :∀ k,aL.S61 H0 Ri R0  (aL.l61 F (dk.tw F)  k) (aL.pl61 F  k):=by
 intro k
 induction k with
 | zero=>unfold aL.S61;intros;rename_i hp;cases hp
 | succ k ih=>
  intro OX OY OZ O_ Pa Fq dS Fs Ft pO Fu Fv Pb Pc Pd Pe Pf wo abo gT eG wq wu rm Pg Ph wv H an5 an6 an7 an8 an9 h0 r hp
  obtain ⟨w0,s0,an_,aoa,aob,aca,aoc⟩:=h0
  subst an5
  subst an6
  subst an7
  subst an8
  subst an9
  unfold aL.pl61 at hp
  unfold aL.l61
  refine ay hp (λhp=>?_) λhp=>?_
  ·obtain ⟨w1,s1⟩:=w0.nilS eI.z (by decide)
   obtain ⟨w2,s2⟩:=w1.pp [1,2,3,4,0] 5
   exact aL.l15725_P (@ih) F rfl rfl rfl rfl rfl rfl ⟨w2,(s0.trans (s1.trans s2)),(an_.step (s1.trans s2)),(aoa.step (s1.trans s2)),(aob.step (s1.trans s2)),(aca.step (s1.trans s2)),(aoc.step (s1.trans s2)),((CR.empty:CR eI _ _ [] []).step s2)⟩ hp
  ·obtain ⟨w3,s3⟩:=w0.pp [2] 4
   exact az hp ⟨_,_,_,_,rfl,rfl,w3,(s0.trans s3),(aca.step s3)⟩
def aL.p (F:Nat) (ah:ato) (ez:atB) (bA:atB):Option (List (List Int)):=(mkn (wrap .i64 (4 * (ah.length:Int))) false).bind λl3=>aL.pl61 F F ah ez bA ([]:List (List Int)) l3 (l3.length:Int) 0
theorem aL.P {aB lH ew ak iD dh aC lJ ey ah af ez bA} (ba:ak=ah.length) (ri:iD=ez.length) (gO:dh=bA.length) (h0:Inn H R0 λR=>ROs (ac eI (ac eI (ac eI (ac eI eI)))) H R ⟨aB,ak,aC⟩ ah/\ROs (ac eI eI) H R ⟨lH,iD,lJ⟩ ez/\ROs (ac eI eI) H R ⟨ew,dh,ey⟩ bA) {r:ats} (hp:aL.p F ah ez bA=some r):Rt (aL.tw F ⟨aB,ak,aC⟩ af ⟨lH,iD,lJ⟩ ⟨ew,dh,ey⟩ H) (aL.Q H R0 R0  r):=by
 obtain ⟨w0,aO,rj,fd⟩:=h0
 subst ba
 subst ri
 subst gO
 unfold aL.p at hp
 unfold aL.tw aL.twX
 have s0:=w0.rf
 refine aS w0 λH1 w1 s1=>?_
 refine aS w1 λH2 w2 s2=>?_
 refine lSl w2 1 ?_
 obtain ⟨l3,e3,hp⟩:=ag hp
 refine kc cD false w2 rfl rfl rfl e3 λH4 k4 w4 s4 c4=>?_
 obtain ⟨w5,s5⟩:=w4.nilS (eSl eI).z (by decide)
 obtain ⟨w6,s6⟩:=w5.pp [3,2,0,1] 4
 exact aL.l61_P F rfl rfl rfl rfl rfl ⟨w6,(s0.trans (s1.trans (s2.trans (s4.trans (s5.trans s6))))),(aO.step (s1.trans (s2.trans (s4.trans (s5.trans s6))))),(rj.step (s1.trans (s2.trans (s4.trans (s5.trans s6))))),(fd.step (s1.trans (s2.trans (s4.trans (s5.trans s6))))),((CR.empty:CR (eSl eI) _ _ [] []).step s6),(c4.step (s5.trans s6))⟩ hp
def fS.Q (H0:Hp) (Ri R0:atf)  (r:Int) (v:AV) (H':Hp):Prop:=v=(.i r)/\Out H0 Ri H' (R0) λR=>True
def fS.p (F:Nat) (ah:ats):Option (Int):=some (ah.length:Int)
theorem fS.P {aB ak aC ah} (ba:ak=ah.length) (h0:Inn H R0 λR=>ROs (eSl eI) H R ⟨aB,ak,aC⟩ ah) {r:Int} (hp:fS.p F ah=some r):Rt (fS.tw F ⟨aB,ak,aC⟩ H) (fS.Q H R0 R0  r):=by
 obtain ⟨w0,aO⟩:=h0
 subst ba
 unfold fS.p at hp
 unfold fS.tw fS.twX
 have s0:=w0.rf
 exact az hp ⟨rfl,w0,s0,trivial⟩
def bU.Q (H0:Hp) (Ri R0:atf)  (r:ati) (v:AV) (H':Hp):Prop:=∃ o0a:ON,∃ o0n:Nat,∃ o0c:Cap,∃ o0k:List AV,v=(.sl ⟨o0a,o0n,o0c⟩)/\o0n=(r).length/\Out H0 Ri H' (Rs.own ⟨o0a,o0n,o0c⟩ eI.z o0k::R0) λR=>CR eI H' R o0k (r)
def bU.S29 (H0:Hp) (Ri R0:atf)  (C:atr) (pC:List Int->Int->Int->Option (List Int)):Prop:=∀ {PX FD PY rq PZ kC il},∀ {H:Hp},FD=rq.length->(Out H0 Ri H (Rs.own ⟨PX,FD,PY⟩ eI.z PZ::R0) λR=>CR eI H R PZ rq)->∀ {r:ati},pC rq kC il=some r->Rt (C ⟨PX,FD,PY⟩ kC il H) (bU.Q H0 Ri R0  r)
def bU.pl29 (F:Nat) :Nat->List Int->Int->Int->Option (List Int)
 | 0,_,_,_=>none
 | k+1,rq,kC,il=>(bif (decide (il<kC)) then ((apn rq ([il]:List Int)).bind λl2=>bU.pl29 F k l2 kC (wrap .i64 (il+1))) else (some rq))
theorem bU.l29_P  :∀ k,bU.S29 H0 Ri R0  (bU.l29 F   k) (bU.pl29 F  k):=by
 intro k
 induction k with
 | zero=>unfold bU.S29;intros;rename_i hp;cases hp
 | succ k ih=>
  intro PX FD PY rq PZ kC il H aod h0 r hp
  obtain ⟨w0,s0,acb⟩:=h0
  subst aod
  unfold bU.pl29 at hp
  unfold bU.l29
  refine ay hp (λhp=>?_) λhp=>?_
  ·refine cL eI w0 (n:=1) (l:=([il]:List Int)) rfl (CR.cons1 rfl CR.empty) rfl λH1 w1 s1 c1=>?_
   refine ai (w1.rowo (i:=0) rfl) ?_
   obtain ⟨l2,e2,hp⟩:=ag hp
   refine fA eI w1 (i:=1) rfl rfl (acb.step s1) c1 (show 1=List.length ([il]:List Int) from rfl) rfl e2 λa3 d3 H3 w3 s3 c3 x3=>?_
   obtain ⟨w4,s4⟩:=w3.pp [1] 2
   exact ih rfl ⟨w4,(s0.trans (s1.trans (s3.trans s4))),(c3.step s4)⟩ hp
  ·exact az hp ⟨_,_,_,_,rfl,rfl,w0,s0,acb⟩
def bU.p (F:Nat) (aa:Int):Option (List Int):=bU.pl29 F F ([]:List Int) aa 0
theorem bU.P {aa}  (h0:Inn H R0 λR=>True) {r:ati} (hp:bU.p F aa=some r):Rt (bU.tw F aa H) (bU.Q H R0 R0  r):=by
 obtain ⟨w0,_⟩:=h0
 unfold bU.p at hp
 unfold bU.tw bU.twX
 have s0:=w0.rf
 obtain ⟨w1,s1⟩:=w0.nilS eI.z (by decide)
 exact bU.l29_P F rfl ⟨w1,(s0.trans s1),(CR.empty:CR eI _ _ [] [])⟩ hp
def bj.Q (H0:Hp) (Ri R0:atf) (aB:ON) (ak:Nat) (aC:Cap) (zC:Bool) (zD zE:att) (r:ati) (v:AV) (H':Hp):Prop:=∃ acd:List AV,v=(.tup [])/\ak=(r).length/\Out H0 Ri H' (Rs.ow zC ⟨aB,ak,aC⟩ eI.z zD acd zE::R0) λR=>CR eI H' R acd (r)
def bj.S7 (H0:Hp) (Ri R0:atf) (jY:ON) (iW:Nat) (jZ:Cap) (oW:Bool) (oX oY:att) (C:auh) (pC:auu):Prop:=∀ {fe P_ dB jr js gG},∀ {H:Hp},iW=fe.length->(Out H0 Ri H (Rs.ow oW ⟨jY,iW,jZ⟩ eI.z oX P_ oY::R0) λR=>CR eI H R P_ fe)->∀ {r:ati},pC fe dB jr js gG=some r->Rt (C ⟨jY,iW,jZ⟩ dB jr ⟨jY,iW,jZ⟩ js gG H) (bj.Q H0 Ri R0 jY iW jZ oW oX oY r)
def bj.pj2 (F:Nat) (FE:auu) (zF:ati) (ur:Int) (ut:Int) (uu:Int) (uv:Int):Option (List Int):=FE zF ur ut uu (wrap .i64 (uv+1))
theorem bj.j2_P {jY iW jZ oW oX oY} {C7_:auh} {FE:auu} (hC7:bj.S7 H0 Ri R0 jY iW jZ oW oX oY C7_ FE) {zF ace ur ut uu uv} (aoe:iW=zF.length) (h0:Out H0 Ri H (Rs.ow oW ⟨jY,iW,jZ⟩ eI.z oX ace oY::R0) λR=>CR eI H R ace zF) {r:ati} (hp:bj.pj2 F FE zF ur ut uu uv=some r):Rt (bj.j2 F  C7_ ⟨jY,iW,jZ⟩ ur ut ⟨jY,iW,jZ⟩ uu uv H) (bj.Q H0 Ri R0 jY iW jZ oW oX oY r):=by
 obtain ⟨w0,s0,aof⟩:=h0
 subst aoe
 unfold bj.pj2 at hp
 unfold bj.j2
 exact hC7 rfl ⟨w0,s0,aof⟩ hp
def bj.pl7 (F:Nat) :Nat->List Int->Int->Int->Int->Int->Option (List Int)
 | 0,_,_,_,_,_=>none
 | k+1,fe,dB,jr,js,gG=>(bif (decide (gG<js)) then ((ix fe gG).bind λn1=>(bif ((gt fe n1)==dB) then ((ix fe gG).bind λn2=>(some (fe.set n2 jr)).bind λl3=>bj.pj2 F (bj.pl7 F k) l3 dB jr js gG) else (bj.pj2 F (bj.pl7 F k) fe dB jr js gG))) else (some fe))
theorem bj.l7_P {jY iW jZ oW oX oY} :∀ k,bj.S7 H0 Ri R0 jY iW jZ oW oX oY (bj.l7 F   k) (bj.pl7 F  k):=by
 intro k
 induction k with
 | zero=>unfold bj.S7;intros;rename_i hp;cases hp
 | succ k ih=>
  intro fe P_ dB jr js gG H Qa h0 r hp
  obtain ⟨w0,s0,oZ⟩:=h0
  subst Qa
  unfold bj.pl7 at hp
  unfold bj.l7
  refine ay hp (λhp=>?_) λhp=>?_
  ·obtain ⟨n1,g1,hp⟩:=ag hp
   obtain ⟨p1,q1,i1,h1,j1⟩:=W.ixo (E:=eI) w0 (i:=0) rfl rfl oZ g1
   refine ai i1 ?_
   have h1:_=[_]:=h1
   subst h1
   refine ai (aG (j1 0 _ rfl)) ?_
   refine ay hp (λhp=>?_) λhp=>?_
   ·obtain ⟨n2,g2,hp⟩:=ag hp
    obtain ⟨p2,q2,i2,h2,j2⟩:=W.ixo (E:=eI) w0 (i:=0) rfl rfl oZ g2
    refine ai i2 ?_
    obtain ⟨l3,e3,hp⟩:=ag hp
    refine dD eI w0 (i:=0) (j:=0) (p:=p2) rfl rfl oZ g2 i2 e3 rfl rfl (λ_ h=>by have h:_=[_]:=h;subst h;exact rfl) λH4 k4 w4 s4 c4=>?_
    exact bj.j2_P (@ih) ((cA e3).symm) ⟨w4,(s0.trans s4),c4⟩ hp
   ·exact bj.j2_P (@ih) rfl ⟨w0,s0,oZ⟩ hp
  ·exact az hp ⟨_,rfl,rfl,w0,s0,oZ⟩
def bj.p (F:Nat) (ah:ati) (aA:Int) (cM:Int):Option (List Int):=(ix ah cM).bind λn1=>(ix ah aA).bind λn2=>bj.pl7 F F ah (gt ah n1) (gt ah n2) (ah.length:Int) 0
theorem bj.P {aB ak aC ah zC zD zE Qb aA cM} (ba:ak=ah.length) (h0:Inn H (Rs.ow zC ⟨aB,ak,aC⟩ eI.z zD Qb zE::R0) λR=>CR eI H R Qb ah) {r:ati} (hp:bj.p F ah aA cM=some r):Rt (bj.tw F ⟨aB,ak,aC⟩ aA cM H) (bj.Q H (Rs.ow zC ⟨aB,ak,aC⟩ eI.z zD Qb zE::R0) R0 aB ak aC zC zD zE r):=by
 obtain ⟨w0,aO⟩:=h0
 subst ba
 unfold bj.p at hp
 unfold bj.tw bj.twX
 have s0:=w0.rf
 obtain ⟨n1,g1,hp⟩:=ag hp
 obtain ⟨p1,q1,i1,h1,j1⟩:=W.ixo (E:=eI) w0 (i:=0) rfl rfl aO g1
 refine ai i1 ?_
 have h1:_=[_]:=h1
 subst h1
 refine ai (aG (j1 0 _ rfl)) ?_
 obtain ⟨n2,g2,hp⟩:=ag hp
 obtain ⟨p2,q2,i2,h2,j2⟩:=W.ixo (E:=eI) w0 (i:=0) rfl rfl aO g2
 refine ai i2 ?_
 have h2:_=[_]:=h2
 subst h2
 refine ai (aG (j2 0 _ rfl)) ?_
 exact bj.l7_P F rfl ⟨w0,s0,aO⟩ hp
def cT.Q (H0:Hp) (Ri R0:atf)  (r:ati) (v:AV) (H':Hp):Prop:=∃ o0a:ON,∃ o0n:Nat,∃ o0c:Cap,∃ o0k:List AV,v=(.sl ⟨o0a,o0n,o0c⟩)/\o0n=(r).length/\Out H0 Ri H' (Rs.own ⟨o0a,o0n,o0c⟩ eI.z o0k::R0) λR=>CR eI H' R o0k (r)
def cT.p (F:Nat) (ah:ati):Option (List Int):=(if ah.length<=4294967296/\wfs ah=true then some (kf ah) else none)
theorem cT.P {aB ak aC ah} (ba:ak=ah.length) (h0:Inn H R0 λR=>ROs eI H R ⟨aB,ak,aC⟩ ah) {r:ati} (hp:cT.p F ah=some r):Rt (cT.tw F ⟨aB,ak,aC⟩ H) (cT.Q H R0 R0  r):=by
 obtain ⟨w0,f0⟩:=h0
 subst ba
 unfold cT.p at hp
 unfold cT.tw Ax
 have s0:=w0.rf
 obtain ⟨hc,hp⟩:=fX hp
 have hp:=Option.some.inj hp
 obtain ⟨xs,hx,cx⟩:=f0.row rfl
 refine ai hx ?_
 obtain rfl:=cx.ints_eq
 refine ai (afW _) ?_
 refine eL hc ?_
 by_cases hz:ah.length=0
 ·rw [if_pos hz]
  obtain ⟨w1,s1⟩:=w0.nilS eI.z (by decide)
  obtain rfl:r=[]:=List.length_eq_zero_iff.1 (by rw [<- hp,Ux,hz])
  exact ⟨_,_,rfl,none,0,.ex 0,[],rfl,rfl,w1,s0.trans s1,CR.empty⟩
 ·rw [if_neg hz]
  obtain ⟨H2,e2,w2,s2⟩:=w0.newF ((kf ah).map (AV.int .i64)) ah.length eI.z (by rw [List.length_map,Ux];exact (Nat.mul_one _).symm) (by decide)
  subst e2
  subst hp
  exact ⟨_,_,rfl,some (_,0),_,.full 1,_,rfl,(Ux _).symm,w2,s0.trans s2,CR.ints _ _ _ _⟩
def bQ.Q (H0:Hp) (Ri R0:atf)  (r:ati) (v:AV) (H':Hp):Prop:=∃ o0a:ON,∃ o0n:Nat,∃ o0c:Cap,∃ o0k:List AV,v=(.sl ⟨o0a,o0n,o0c⟩)/\o0n=(r).length/\Out H0 Ri H' (Rs.own ⟨o0a,o0n,o0c⟩ eI.z o0k::R0) λR=>CR eI H' R o0k (r)
def bQ.S29 (H0:Hp) (Ri R0:atf)  (C:at9) (pC:List (Int×Int)->List (Int×Int)->List Int->Int->Int->Option (List Int)):Prop:=∀ {FG Qc rr zG FH oc nu FI Qd ru o_ pa iE rv kE im},∀ {H:Hp},zG=o_.length->FH=pa.length->nu=iE.length->(Out H0 Ri H (Rs.blk oc [.sl ⟨FG,zG,FI⟩,.sl ⟨Qc,FH,Qd⟩]::Rs.own ⟨rr,nu,ru⟩ eI.z rv::R0) λR=>ROs (ac eI eI) H R ⟨FG,zG,FI⟩ o_/\ROs (ac eI eI) H R ⟨Qc,FH,Qd⟩ pa/\CR eI H R rv iE)->∀ {r:ati},pC o_ pa iE kE im=some r->Rt (C oc 0 ⟨rr,nu,ru⟩ ⟨FG,zG,FI⟩ kE im H) (bQ.Q H0 Ri R0  r)
def bQ.pl29 (F:Nat) :Nat->List (Int×Int)->List (Int×Int)->List Int->Int->Int->Option (List Int)
 | 0,_,_,_,_,_=>none
 | k+1,o_,pa,iE,kE,im=>(bif (decide (im<kE)) then ((ix o_ im).bind λn1=>(ix pa im).bind λn5=>(bj.p F iE ((gt o_ n1).1) ((gt pa n5).1)).bind λr7=>bQ.pl29 F k o_ pa r7 kE (wrap .i64 (im+1))) else ((cT.p F iE).bind λr12=>some r12))
theorem bQ.l29_P  :∀ k,bQ.S29 H0 Ri R0  (bQ.l29 F (cN.tw F) (bU.tw F) (bj.tw F) (cT.tw F)  k) (bQ.pl29 F  k):=by
 intro k
 induction k with
 | zero=>unfold bQ.S29;intros;rename_i hp;cases hp
 | succ k ih=>
  intro FG Qc rr zG FH oc nu FI Qd ru o_ pa iE rv kE im H aog aoh Qe h0 r hp
  obtain ⟨w0,s0,acf,acg,zH⟩:=h0
  subst aog
  subst aoh
  subst Qe
  unfold bQ.pl29 at hp
  unfold bQ.l29
  refine ay hp (λhp=>?_) λhp=>?_
  ·obtain ⟨n1,g1,hp⟩:=ag hp
   obtain ⟨p1,q1,i1,h1,j1⟩:=ROs.ixr acf rfl g1
   refine ai i1 ?_
   obtain ⟨_,_,rfl,rfl,rfl⟩:=h1
   refine ai (aG (j1 0 _ rfl)) ?_
   refine ai (aG (j1 1 _ rfl)) ?_
   refine aS w0 λH2 w2 s2=>?_
   refine aq w2 0 λH3 w3 s3=>?_
   refine aq w3 0 λH4 w4 s4=>?_
   refine lI w4 0 ?_
   refine lSl w4 1 ?_
   obtain ⟨n5,g5,hp⟩:=ag hp
   obtain ⟨p5,q5,i5,h5,j5⟩:=ROs.ixr (acg.step (s2.trans (s3.trans s4))) rfl g5
   refine ai i5 ?_
   obtain ⟨_,_,rfl,rfl,rfl⟩:=h5
   refine ai (aG (j5 0 _ rfl)) ?_
   obtain ⟨w6,s6⟩:=w4.pp [2,0,1] 3
   obtain ⟨r7,e7,hp⟩:=ag hp
   refine aE (bj.P rfl ⟨w6,(zH.step (s2.trans (s3.trans (s4.trans s6))))⟩ e7) ?_
   rintro _ H8 ⟨asL,rfl,hl8_0,w8,s8,f8_0⟩
   obtain ⟨w9,s9⟩:=w8.pp [2,0] 3
   exact ih rfl rfl hl8_0 ⟨w9,(s0.trans (s2.trans (s3.trans (s4.trans (s6.trans (s8.trans s9)))))),(acf.step (s2.trans (s3.trans (s4.trans (s6.trans (s8.trans s9)))))),(acg.step (s2.trans (s3.trans (s4.trans (s6.trans (s8.trans s9)))))),(f8_0.step s9)⟩ hp
  ·obtain ⟨w10,s10⟩:=w0.pp [1,0] 2
   have f11:=W.borrow1 eI w10 (zH.step s10)
   obtain ⟨w11,s11⟩:=w10.right1
   obtain ⟨r12,e12,hp⟩:=ag hp
   refine aE (cT.P rfl ⟨w11,f11⟩ e12) ?_
   rintro _ H13 ⟨o0a_13,o0n_13,o0c_13,o0k_13,rfl,rfl,w13,s13,f13_0⟩
   obtain ⟨w14,s14⟩:=W.frame1 w10 w13 s13
   refine br ?_
   obtain ⟨w15,s15⟩:=w14.pp [1] 3
   exact az hp ⟨_,_,_,_,rfl,rfl,w15,(s0.trans (s10.trans (s14.trans s15))),((CR.flat (fB .i64) f13_0).step s15)⟩
def bQ.p (F:Nat) (ah:ato) (ez:atB) (bA:atB):Option (List Int):=(cN.p F ah).bind λr3=>(bU.p F r3).bind λr5=>bQ.pl29 F F ez bA r5 (ez.length:Int) 0
theorem bQ.P {aB lH ew ak iD dh aC lJ ey ah af ez bA} (ba:ak=ah.length) (ri:iD=ez.length) (gO:dh=bA.length) (h0:Inn H R0 λR=>ROs (ac eI (ac eI (ac eI (ac eI eI)))) H R ⟨aB,ak,aC⟩ ah/\ROs (ac eI eI) H R ⟨lH,iD,lJ⟩ ez/\ROs (ac eI eI) H R ⟨ew,dh,ey⟩ bA) {r:ati} (hp:bQ.p F ah ez bA=some r):Rt (bQ.tw F ⟨aB,ak,aC⟩ af ⟨lH,iD,lJ⟩ ⟨ew,dh,ey⟩ H) (bQ.Q H R0 R0  r):=by
 obtain ⟨w0,aO,rj,fd⟩:=h0
 subst ba
 subst ri
 subst gO
 unfold bQ.p at hp
 unfold bQ.tw bQ.twX
 have s0:=w0.rf
 refine aS w0 λH1 w1 s1=>?_
 refine aS w1 λH2 w2 s2=>?_
 refine lSl w2 1 ?_
 obtain ⟨r3,e3,hp⟩:=ag hp
 refine aE (cN.P rfl ⟨w2,(aO.step (s1.trans s2))⟩ e3) ?_
 rintro _ H4 ⟨rfl,w4,s4,_⟩
 refine br ?_
 obtain ⟨r5,e5,hp⟩:=ag hp
 refine aE (bU.P ⟨w4,trivial⟩ e5) ?_
 rintro _ H6 ⟨o0a_6,o0n_6,o0c_6,o0k_6,rfl,rfl,w6,s6,f6_0⟩
 refine br ?_
 refine lSl w6 1 ?_
 obtain ⟨w7,s7⟩:=w6.pp [1,0] 3
 exact bQ.l29_P F rfl rfl rfl ⟨w7,(s0.trans (s1.trans (s2.trans (s4.trans (s6.trans s7))))),(rj.step (s1.trans (s2.trans (s4.trans (s6.trans s7))))),(fd.step (s1.trans (s2.trans (s4.trans (s6.trans s7))))),(f6_0.step s7)⟩ hp
def bO.Q (H0:Hp) (Ri R0:atf)  (r:Int) (v:AV) (H':Hp):Prop:=v=(.i r)/\Out H0 Ri H' (R0) λR=>True
def bO.S61 (H0:Hp) (Ri R0:atf)  (C:atr) (pC:auz):Prop:=∀ {Qf FJ Qg fe gb gd},∀ {H:Hp},FJ=fe.length->(Out H0 Ri H R0 λR=>ROs eI H R ⟨Qf,FJ,Qg⟩ fe)->∀ {r:Int},pC fe gb gd=some r->Rt (C ⟨Qf,FJ,Qg⟩ gb gd H) (bO.Q H0 Ri R0  r)
def bO.pl61 (F:Nat) :Nat->List Int->Int->Int->Option (Int)
 | 0,_,_,_=>none
 | k+1,fe,gb,gd=>(bif (decide (gd<(fe.length:Int))) then ((ix fe gd).bind λn1=>bO.pl61 F k fe (if (gt fe n1)>gb then (gt fe n1) else gb) (wrap .i64 (gd+1))) else (some gb))
theorem bO.l61_P  :∀ k,bO.S61 H0 Ri R0  (bO.l61 F   k) (bO.pl61 F  k):=by
 intro k
 induction k with
 | zero=>unfold bO.S61;intros;rename_i hp;cases hp
 | succ k ih=>
  intro Qf FJ Qg fe gb gd H Qa h0 r hp
  obtain ⟨w0,s0,oZ⟩:=h0
  subst Qa
  unfold bO.pl61 at hp
  unfold bO.l61
  refine ay hp (λhp=>?_) λhp=>?_
  ·obtain ⟨n1,g1,hp⟩:=ag hp
   obtain ⟨p1,q1,i1,h1,j1⟩:=ROs.ixr oZ rfl g1
   refine ai i1 ?_
   have h1:_=[_]:=h1
   subst h1
   refine ai (aG (j1 0 _ rfl)) ?_
   exact ih rfl ⟨w0,s0,oZ⟩ hp
  ·exact az hp ⟨rfl,w0,s0,trivial⟩
def bO.pj1 (F:Nat)  (rx:ati):Option (Int):=(ix rx 0).bind λn1=>bO.pl61 F F rx (gt rx n1) 1
theorem bO.j1_P   {ach Qh aci rx} (aoi:Qh=rx.length) (h0:Out H0 Ri H R0 λR=>ROs eI H R ⟨ach,Qh,aci⟩ rx) {r:Int} (hp:bO.pj1 F  rx=some r):Rt (bO.j1 F   ⟨ach,Qh,aci⟩ H) (bO.Q H0 Ri R0  r):=by
 obtain ⟨w0,s0,acj⟩:=h0
 subst aoi
 unfold bO.pj1 at hp
 unfold bO.j1
 obtain ⟨n1,g1,hp⟩:=ag hp
 obtain ⟨p1,q1,i1,h1,j1⟩:=ROs.ixr acj rfl g1
 refine ai i1 ?_
 have h1:_=[_]:=h1
 subst h1
 refine ai (aG (j1 0 _ rfl)) ?_
 exact bO.l61_P F rfl ⟨w0,s0,acj⟩ hp
def bO.p (F:Nat) (ah:ati):Option (Int):=(bif (decide ((ah.length:Int)<1)) then (none) else (bO.pj1 F ah))
theorem bO.P {aB ak aC ah} (ba:ak=ah.length) (h0:Inn H R0 λR=>ROs eI H R ⟨aB,ak,aC⟩ ah) {r:Int} (hp:bO.p F ah=some r):Rt (bO.tw F ⟨aB,ak,aC⟩ H) (bO.Q H R0 R0  r):=by
 obtain ⟨w0,aO⟩:=h0
 subst ba
 unfold bO.p at hp
 unfold bO.tw bO.twX
 have s0:=w0.rf
 refine ay hp (λhp=>?_) λhp=>?_
 ·cases hp
 ·exact bO.j1_P rfl ⟨w0,s0,aO⟩ hp
def dr.Q (H0:Hp) (Ri R0:atf)  (r:Int) (v:AV) (H':Hp):Prop:=v=(.i r)/\Out H0 Ri H' (R0) λR=>True
def dr.p (F:Nat) (ah:ati):Option (Int):=(bif ((ah.length:Int)==0) then (some 0) else ((bO.p F ah).bind λr1=>some (wrap .i64 (r1+1))))
theorem dr.P {aB ak aC ah} (ba:ak=ah.length) (h0:Inn H R0 λR=>ROs eI H R ⟨aB,ak,aC⟩ ah) {r:Int} (hp:dr.p F ah=some r):Rt (dr.tw F ⟨aB,ak,aC⟩ H) (dr.Q H R0 R0  r):=by
 obtain ⟨w0,aO⟩:=h0
 subst ba
 unfold dr.p at hp
 unfold dr.tw dr.twX
 have s0:=w0.rf
 refine ay hp (λhp=>?_) λhp=>?_
 ·exact az hp ⟨rfl,w0,s0,trivial⟩
 ·obtain ⟨r1,e1,hp⟩:=ag hp
  refine aE (bO.P rfl ⟨w0,aO⟩ e1) ?_
  rintro _ H2 ⟨rfl,w2,s2,_⟩
  refine br ?_
  exact az hp ⟨rfl,w2,(s0.trans s2),trivial⟩
def dc.Q (H0:Hp) (Ri R0:atf)  (r:(List (Int×Int))×(List (Int×Int))×Bool) (v:AV) (H':Hp):Prop:=∃ o0a:ON,∃ o0n:Nat,∃ o0c:Cap,∃ o1a:ON,∃ o1n:Nat,∃ o1c:Cap,v=(.tup [(.agg [(.sl ⟨o0a,o0n,o0c⟩),(.sl ⟨o1a,o1n,o1c⟩)]),(.bool r.2.2)])/\o0n=(r.1).length/\o1n=(r.2.1).length/\Out H0 Ri H' (R0) λR=>ROs (ac eI eI) H' R ⟨o0a,o0n,o0c⟩ (r.1)/\ROs (ac eI eI) H' R ⟨o1a,o1n,o1c⟩ (r.2.1)
def dc.p (F:Nat) (ah:ato) (af:Int):Option ((List (Int×Int))×(List (Int×Int))×Bool):=(cN.p F ah).bind λr3=>(bif (decide (r3>10)) then (some (([]:List (Int×Int)),([]:List (Int×Int)),false)) else ((dx.p F af 0 8).bind λr12=>(bif (!r12) then (some (([]:List (Int×Int)),([]:List (Int×Int)),false)) else ((eE.p F ah).bind λr21=>(bif r21 then (some (([]:List (Int×Int)),([]:List (Int×Int)),false)) else ((bf.p F ah).bind λr30=>(bif (!r30.2.2) then (some (([]:List (Int×Int)),([]:List (Int×Int)),false)) else ((aL.p F ah r30.1 r30.2.1).bind λr44=>(fS.p F r44).bind λr48=>(bQ.p F ah r30.1 r30.2.1).bind λr52=>(dr.p F r52).bind λr55=>(bif (r48 != (wrap .i64 (r3+(wrap .i64 (2 * r55))))) then (some (([]:List (Int×Int)),([]:List (Int×Int)),false)) else (some (r30.1,r30.2.1,true)))))))))))
theorem dc.P {aB ak aC ah af} (ba:ak=ah.length) (h0:Inn H R0 λR=>ROs (ac eI (ac eI (ac eI (ac eI eI)))) H R ⟨aB,ak,aC⟩ ah) {r:(List (Int×Int))×(List (Int×Int))×Bool} (hp:dc.p F ah af=some r):Rt (dc.tw F ⟨aB,ak,aC⟩ af H) (dc.Q H R0 R0  r):=by
 obtain ⟨w0,aO⟩:=h0
 subst ba
 unfold dc.p at hp
 unfold dc.tw dc.twX
 have s0:=w0.rf
 refine aS w0 λH1 w1 s1=>?_
 refine aS w1 λH2 w2 s2=>?_
 refine lSl w2 1 ?_
 obtain ⟨r3,e3,hp⟩:=ag hp
 refine aE (cN.P rfl ⟨w2,(aO.step (s1.trans s2))⟩ e3) ?_
 rintro _ H4 ⟨rfl,w4,s4,_⟩
 refine br ?_
 refine ay hp (λhp=>?_) λhp=>?_
 ·refine aq w4 0 λH5 w5 s5=>?_
  refine aq w5 0 λH6 w6 s6=>?_
  refine lSl w6 0 ?_
  refine lSl w6 0 ?_
  obtain ⟨w7,s7⟩:=w6.nilS (ac eI eI).z (by decide)
  obtain ⟨w8,s8⟩:=w7.nilS (ac eI eI).z (by decide)
  obtain ⟨w9,s9,f9⟩:=w8.frz (i:=1) (ac eI eI) rfl ((CR.empty:CR (ac eI eI) _ _ [] []).step s8)
  obtain ⟨w10,s10,f10⟩:=w9.frz (i:=0) (ac eI eI) rfl ((CR.empty:CR (ac eI eI) _ _ [] []).step s9)
  obtain ⟨w11,s11⟩:=w10.pp [] 2
  exact az hp ⟨_,_,_,_,_,_,rfl,rfl,rfl,w11,(s0.trans (s1.trans (s2.trans (s4.trans (s5.trans (s6.trans (s7.trans (s8.trans (s9.trans (s10.trans s11)))))))))),(f9.step (s10.trans s11)),(f10.step s11)⟩
 ·refine lI w4 1 ?_
  obtain ⟨r12,e12,hp⟩:=ag hp
  refine aE (dx.P ⟨w4,trivial⟩ e12) ?_
  rintro _ H13 ⟨rfl,w13,s13,_⟩
  refine br ?_
  refine ay hp (λhp=>?_) λhp=>?_
  ·refine aq w13 0 λH14 w14 s14=>?_
   refine aq w14 0 λH15 w15 s15=>?_
   refine lSl w15 0 ?_
   refine lSl w15 0 ?_
   obtain ⟨w16,s16⟩:=w15.nilS (ac eI eI).z (by decide)
   obtain ⟨w17,s17⟩:=w16.nilS (ac eI eI).z (by decide)
   obtain ⟨w18,s18,f18⟩:=w17.frz (i:=1) (ac eI eI) rfl ((CR.empty:CR (ac eI eI) _ _ [] []).step s17)
   obtain ⟨w19,s19,f19⟩:=w18.frz (i:=0) (ac eI eI) rfl ((CR.empty:CR (ac eI eI) _ _ [] []).step s18)
   obtain ⟨w20,s20⟩:=w19.pp [] 2
   exact az hp ⟨_,_,_,_,_,_,rfl,rfl,rfl,w20,(s0.trans (s1.trans (s2.trans (s4.trans (s13.trans (s14.trans (s15.trans (s16.trans (s17.trans (s18.trans (s19.trans s20))))))))))),(f18.step (s19.trans s20)),(f19.step s20)⟩
  ·refine lSl w13 1 ?_
   obtain ⟨r21,e21,hp⟩:=ag hp
   refine aE (eE.P rfl ⟨w13,(aO.step (s1.trans (s2.trans (s4.trans s13))))⟩ e21) ?_
   rintro _ H22 ⟨rfl,w22,s22,_⟩
   refine br ?_
   refine ay hp (λhp=>?_) λhp=>?_
   ·refine aq w22 0 λH23 w23 s23=>?_
    refine aq w23 0 λH24 w24 s24=>?_
    refine lSl w24 0 ?_
    refine lSl w24 0 ?_
    obtain ⟨w25,s25⟩:=w24.nilS (ac eI eI).z (by decide)
    obtain ⟨w26,s26⟩:=w25.nilS (ac eI eI).z (by decide)
    obtain ⟨w27,s27,f27⟩:=w26.frz (i:=1) (ac eI eI) rfl ((CR.empty:CR (ac eI eI) _ _ [] []).step s26)
    obtain ⟨w28,s28,f28⟩:=w27.frz (i:=0) (ac eI eI) rfl ((CR.empty:CR (ac eI eI) _ _ [] []).step s27)
    obtain ⟨w29,s29⟩:=w28.pp [] 2
    exact az hp ⟨_,_,_,_,_,_,rfl,rfl,rfl,w29,(s0.trans (s1.trans (s2.trans (s4.trans (s13.trans (s22.trans (s23.trans (s24.trans (s25.trans (s26.trans (s27.trans (s28.trans s29)))))))))))),(f27.step (s28.trans s29)),(f28.step s29)⟩
   ·refine lSl w22 1 ?_
    refine lI w22 1 ?_
    obtain ⟨r30,e30,hp⟩:=ag hp
    refine aE (bf.P rfl ⟨w22,(aO.step (s1.trans (s2.trans (s4.trans (s13.trans s22)))))⟩ e30) ?_
    rintro _ H31 ⟨o0a_31,o0n_31,o0c_31,o0k_31,o1a_31,o1n_31,o1c_31,o1k_31,rfl,rfl,rfl,w31,s31,f31_0,f31_1⟩
    refine br (br (br (br (br (br (br (br (br ?_))))))))
    refine aS w31 λH32 w32 s32=>?_
    refine aq w32 0 λH33 w33 s33=>?_
    refine aq w33 0 λH34 w34 s34=>?_
    refine ay hp (λhp=>?_) λhp=>?_
    ·refine aq w34 3 λH35 w35 s35=>?_
     refine aq w35 3 λH36 w36 s36=>?_
     refine lSl w36 3 ?_
     refine lSl w36 3 ?_
     obtain ⟨w37,s37⟩:=w36.nilS (ac eI eI).z (by decide)
     obtain ⟨w38,s38⟩:=w37.nilS (ac eI eI).z (by decide)
     obtain ⟨w39,s39,f39⟩:=w38.frz (i:=1) (ac eI eI) rfl ((CR.empty:CR (ac eI eI) _ _ [] []).step s38)
     obtain ⟨w40,s40,f40⟩:=w39.frz (i:=0) (ac eI eI) rfl ((CR.empty:CR (ac eI eI) _ _ [] []).step s39)
     obtain ⟨w41,s41⟩:=w40.pp [] 5
     exact az hp ⟨_,_,_,_,_,_,rfl,rfl,rfl,w41,(s0.trans (s1.trans (s2.trans (s4.trans (s13.trans (s22.trans (s31.trans (s32.trans (s33.trans (s34.trans (s35.trans (s36.trans (s37.trans (s38.trans (s39.trans (s40.trans s41)))))))))))))))),(f39.step (s40.trans s41)),(f40.step s41)⟩
    ·refine lSl w34 4 ?_
     refine lI w34 4 ?_
     refine lSl w34 0 ?_
     refine lSl w34 0 ?_
     obtain ⟨w42,s42,f42⟩:=w34.frz (i:=1) (ac eI eI) rfl (f31_0.step (s32.trans (s33.trans s34)))
     obtain ⟨w43,s43,f43⟩:=w42.frz (i:=1) (ac eI eI) rfl (f31_1.step (s32.trans (s33.trans (s34.trans s42))))
     obtain ⟨r44,e44,hp⟩:=ag hp
     refine aE (aL.P rfl rfl rfl ⟨w43,(aO.step (s1.trans (s2.trans (s4.trans (s13.trans (s22.trans (s31.trans (s32.trans (s33.trans (s34.trans (s42.trans s43))))))))))),(f42.step s43),f43⟩ e44) ?_
     rintro _ H45 ⟨o0a_45,o0n_45,o0c_45,o0k_45,rfl,rfl,w45,s45,f45_0⟩
     refine br ?_
     refine eL (aZ.tr (aZ.refl _) s42 (aZ.tr (aZ.refl _) s43 (W.cons_of (Rn:=[_]) w43 w45 s45))) ?_
     have f47:=W.borrow1 (eSl eI) w45 f45_0
     obtain ⟨w47,s47⟩:=w45.right1
     obtain ⟨r48,e48,hp⟩:=ag hp
     refine aE (fS.P rfl ⟨w47,f47⟩ e48) ?_
     rintro _ H49 ⟨rfl,w49,s49,_⟩
     obtain ⟨w50,s50⟩:=W.frame1 w45 w49 s49
     refine br ?_
     refine eL (W.cons_of (Rn:=[]) w47 w49 s49) ?_
     refine lSl w50 3 ?_
     refine lI w50 3 ?_
     refine lSl w50 1 ?_
     refine lSl w50 1 ?_
     obtain ⟨r52,e52,hp⟩:=ag hp
     refine aE (bQ.P rfl rfl rfl ⟨w50,(aO.step (s1.trans (s2.trans (s4.trans (s13.trans (s22.trans (s31.trans (s32.trans (s33.trans (s34.trans (s42.trans (s43.trans (s45.trans s50))))))))))))),(f42.step (s43.trans (s45.trans s50))),(f43.step (s45.trans s50))⟩ e52) ?_
     rintro _ H53 ⟨o0a_53,o0n_53,o0c_53,o0k_53,rfl,rfl,w53,s53,f53_0⟩
     refine br ?_
     have f54:=W.borrow1 eI w53 f53_0
     obtain ⟨w54,s54⟩:=w53.right1
     obtain ⟨r55,e55,hp⟩:=ag hp
     refine aE (dr.P rfl ⟨w54,f54⟩ e55) ?_
     rintro _ H56 ⟨rfl,w56,s56,_⟩
     obtain ⟨w57,s57⟩:=W.frame1 w53 w56 s56
     refine br ?_
     refine ay hp (λhp=>?_) λhp=>?_
     ·refine aq w57 3 λH58 w58 s58=>?_
      refine aq w58 3 λH59 w59 s59=>?_
      refine lSl w59 3 ?_
      refine lSl w59 3 ?_
      obtain ⟨w60,s60⟩:=w59.nilS (ac eI eI).z (by decide)
      obtain ⟨w61,s61⟩:=w60.nilS (ac eI eI).z (by decide)
      obtain ⟨w62,s62,f62⟩:=w61.frz (i:=1) (ac eI eI) rfl ((CR.empty:CR (ac eI eI) _ _ [] []).step s61)
      obtain ⟨w63,s63,f63⟩:=w62.frz (i:=0) (ac eI eI) rfl ((CR.empty:CR (ac eI eI) _ _ [] []).step s62)
      obtain ⟨w64,s64⟩:=w63.pp [] 5
      dsimp only [pk,pks,nth,List.drop,List.set,List.eraseIdx] at w64 s33 s34 s42 f42 s43 f43 s58 s59 s60 s61 s62 f62 s63 f63 s64
      exact az hp ⟨_,_,_,_,_,_,rfl,rfl,rfl,w64,(s0.trans (s1.trans (s2.trans (s4.trans (s13.trans (s22.trans (s31.trans (s32.trans (s33.trans (s34.trans (s42.trans (s43.trans (s45.trans (s50.trans (s53.trans (s57.trans (s58.trans (s59.trans (s60.trans (s61.trans (s62.trans (s63.trans s64)))))))))))))))))))))),(f62.step (s63.trans s64)),(f63.step s64)⟩
     ·refine lSl w57 2 ?_
      refine lSl w57 2 ?_
      refine aq w57 3 λH65 w65 s65=>?_
      refine aq w65 3 λH66 w66 s66=>?_
      refine lSl w66 3 ?_
      refine lSl w66 3 ?_
      obtain ⟨w67,s67⟩:=w66.pp [] 5
      exact az hp ⟨_,_,_,_,_,_,rfl,rfl,rfl,w67,(s0.trans (s1.trans (s2.trans (s4.trans (s13.trans (s22.trans (s31.trans (s32.trans (s33.trans (s34.trans (s42.trans (s43.trans (s45.trans (s50.trans (s53.trans (s57.trans (s65.trans (s66.trans s67)))))))))))))))))),(f42.step (s43.trans (s45.trans (s50.trans (s53.trans (s57.trans (s65.trans (s66.trans s67)))))))),(f43.step (s45.trans (s50.trans (s53.trans (s57.trans (s65.trans (s66.trans s67)))))))⟩
def eg.Q (H0:Hp) (Ri R0:atf)  (r:Bool) (v:AV) (H':Hp):Prop:=v=(.bool r)/\Out H0 Ri H' (R0) λR=>True
def eg.p (F:Nat) (ah:ato) (af:Int):Option (Bool):=(dc.p F ah af).bind λr2=>some r2.2.2
theorem eg.P {aB ak aC ah af} (ba:ak=ah.length) (h0:Inn H R0 λR=>ROs (ac eI (ac eI (ac eI (ac eI eI)))) H R ⟨aB,ak,aC⟩ ah) {r:Bool} (hp:eg.p F ah af=some r):Rt (eg.tw F ⟨aB,ak,aC⟩ af H) (eg.Q H R0 R0  r):=by
 obtain ⟨w0,aO⟩:=h0
 subst ba
 unfold eg.p at hp
 unfold eg.tw eg.twX
 have s0:=w0.rf
 refine aS w0 λH1 w1 s1=>?_
 refine lSl w1 0 ?_
 refine lI w1 0 ?_
 obtain ⟨r2,e2,hp⟩:=ag hp
 refine aE (dc.P rfl ⟨w1,(aO.step s1)⟩ e2) ?_
 rintro _ H3 ⟨o0a_3,o0n_3,o0c_3,o1a_3,o1n_3,o1c_3,rfl,rfl,rfl,w3,s3,f3_0,f3_1⟩
 refine br (br (br (br (br (br (br (br (br ?_))))))))
 refine aS w3 λH4 w4 s4=>?_
 refine aq w4 0 λH5 w5 s5=>?_
 refine aq w5 0 λH6 w6 s6=>?_
 obtain ⟨w7,s7⟩:=w6.pp [] 2
 exact az hp ⟨rfl,w7,(s0.trans (s1.trans (s3.trans (s4.trans (s5.trans (s6.trans s7)))))),trivial⟩
def fU.Q (H0:Hp) (Ri R0:atf)  (r:Bool) (v:AV) (H':Hp):Prop:=v=(.bool r)/\Out H0 Ri H' (R0) λR=>True
def fU.p (F:Nat) (ah:ato) (af:Int):Option (Bool):=(bif ((ah.length:Int)==0) then (some (af==0)) else (some false))
theorem fU.P {aB ak aC ah af} (ba:ak=ah.length) (h0:Inn H R0 λR=>ROs (ac eI (ac eI (ac eI (ac eI eI)))) H R ⟨aB,ak,aC⟩ ah) {r:Bool} (hp:fU.p F ah af=some r):Rt (fU.tw F ⟨aB,ak,aC⟩ af H) (fU.Q H R0 R0  r):=by
 obtain ⟨w0,aO⟩:=h0
 subst ba
 unfold fU.p at hp
 unfold fU.tw fU.twX
 have s0:=w0.rf
 refine aS w0 λH1 w1 s1=>?_
 refine lSl w1 0 ?_
 refine ay hp (λhp=>?_) λhp=>?_
 ·refine lI w1 0 ?_
  obtain ⟨w2,s2⟩:=w1.pp [] 1
  exact az hp ⟨rfl,w2,(s0.trans (s1.trans s2)),trivial⟩
 ·obtain ⟨w3,s3⟩:=w1.pp [] 1
  exact az hp ⟨rfl,w3,(s0.trans (s1.trans s3)),trivial⟩
def eM.Q (H0:Hp) (Ri R0:atf)  (r:Int) (v:AV) (H':Hp):Prop:=v=(.i r)/\Out H0 Ri H' (R0) λR=>True
def eM.p (F:Nat) (ah:ato) (af:Int):Option (Int):=(eg.p F ah af).bind λr2=>(bif (!r2) then (some 1) else ((fU.p F ah af).bind λr5=>(bif r5 then (some 5) else (some 0))))
theorem eM.P {aB ak aC ah af} (ba:ak=ah.length) (h0:Inn H R0 λR=>ROs (ac eI (ac eI (ac eI (ac eI eI)))) H R ⟨aB,ak,aC⟩ ah) {r:Int} (hp:eM.p F ah af=some r):Rt (eM.tw F ⟨aB,ak,aC⟩ af H) (eM.Q H R0 R0  r):=by
 obtain ⟨w0,aO⟩:=h0
 subst ba
 unfold eM.p at hp
 unfold eM.tw eM.twX
 have s0:=w0.rf
 refine aS w0 λH1 w1 s1=>?_
 refine lSl w1 0 ?_
 refine lI w1 0 ?_
 obtain ⟨r2,e2,hp⟩:=ag hp
 refine aE (eg.P rfl ⟨w1,(aO.step s1)⟩ e2) ?_
 rintro _ H3 ⟨rfl,w3,s3,_⟩
 refine br ?_
 refine ay hp (λhp=>?_) λhp=>?_
 ·obtain ⟨w4,s4⟩:=w3.pp [] 1
  exact az hp ⟨rfl,w4,(s0.trans (s1.trans (s3.trans s4))),trivial⟩
 ·refine lSl w3 0 ?_
  refine lI w3 0 ?_
  obtain ⟨r5,e5,hp⟩:=ag hp
  refine aE (fU.P rfl ⟨w3,(aO.step (s1.trans s3))⟩ e5) ?_
  rintro _ H6 ⟨rfl,w6,s6,_⟩
  refine br ?_
  refine ay hp (λhp=>?_) λhp=>?_
  ·obtain ⟨w7,s7⟩:=w6.pp [] 1
   exact az hp ⟨rfl,w7,(s0.trans (s1.trans (s3.trans (s6.trans s7)))),trivial⟩
  ·obtain ⟨w8,s8⟩:=w6.pp [] 1
   exact az hp ⟨rfl,w8,(s0.trans (s1.trans (s3.trans (s6.trans s8)))),trivial⟩
def bg.Q (H0:Hp) (Ri R0:atf)  (r:atA) (v:AV) (H':Hp):Prop:=∃ o0a:ON,∃ o0n:Nat,∃ o0c:Cap,∃ o0k:List AV,v=(.tup [(.sl ⟨o0a,o0n,o0c⟩),(.i r.2)])/\o0n=(r.1).length/\Out H0 Ri H' (Rs.own ⟨o0a,o0n,o0c⟩ eI.z o0k::R0) λR=>CR eI H' R o0k (r.1)
def bg.S29 (H0:Hp) (Ri R0:atf)  (C:at9) (pC:List (Int×Int×Int×Int×Int)->Int->List Int->Int->Int->Option (List Int×Int)):Prop:=∀ {FK Qi zI fc FL FM Qj nv wB kF jt ry Qk},∀ {H:Hp},zI=nv.length->FL=ry.length->(Out H0 Ri H (Rs.blk fc [.sl ⟨FK,zI,FM⟩,.i wB]::Rs.own ⟨Qi,FL,Qj⟩ eI.z Qk::R0) λR=>ROs (ac eI (ac eI (ac eI (ac eI eI)))) H R ⟨FK,zI,FM⟩ nv/\CR eI H R Qk ry)->∀ {r:atA},pC nv wB ry kF jt=some r->Rt (C fc 0 ⟨Qi,FL,Qj⟩ ⟨FK,zI,FM⟩ kF jt H) (bg.Q H0 Ri R0  r)
def bg.pj1 (F:Nat)  (FN:Int) (zJ:ati):Option (List Int×Int):=(cT.p F zJ).bind λr3=>(dr.p F r3).bind λr8=>some (r3,(wrap .i64 (r8+FN)))
theorem bg.j1_P   {ack acl Ql BV Qm acm acn aco FN zJ acp} (aoj:Ql=aco.length) (aol:Qm=zJ.length) (h0:Out H0 Ri H (Rs.blk BV [.sl ⟨ack,Ql,acm⟩,.i FN]::Rs.own ⟨acl,Qm,acn⟩ eI.z acp::R0) λR=>ROs (ac eI (ac eI (ac eI (ac eI eI)))) H R ⟨ack,Ql,acm⟩ aco/\CR eI H R acp zJ) {r:atA} (hp:bg.pj1 F  FN zJ=some r):Rt (bg.j1 F (cN.tw F) (bU.tw F) (bj.tw F) (cT.tw F) (dr.tw F)  BV 0 ⟨acl,Qm,acn⟩ H) (bg.Q H0 Ri R0  r):=by
 obtain ⟨w0,s0,asM,aom⟩:=h0
 subst aoj
 subst aol
 unfold bg.pj1 at hp
 unfold bg.j1
 obtain ⟨w1,s1⟩:=w0.pp [1,0] 2
 have f2:=W.borrow1 eI w1 (aom.step s1)
 obtain ⟨w2,s2⟩:=w1.right1
 obtain ⟨r3,e3,hp⟩:=ag hp
 refine aE (cT.P rfl ⟨w2,f2⟩ e3) ?_
 rintro _ H4 ⟨o0a_4,o0n_4,o0c_4,o0k_4,rfl,rfl,w4,s4,f4_0⟩
 obtain ⟨w5,s5⟩:=W.frame1 w1 w4 s4
 refine br ?_
 obtain ⟨w6,s6⟩:=w5.pp [1,0,2] 3
 have f7:=W.borrow1 eI w6 ((CR.flat (fB .i64) f4_0).step s6)
 obtain ⟨w7,s7⟩:=w6.right1
 obtain ⟨r8,e8,hp⟩:=ag hp
 refine aE (dr.P rfl ⟨w7,f7⟩ e8) ?_
 rintro _ H9 ⟨rfl,w9,s9,_⟩
 obtain ⟨w10,s10⟩:=W.frame1 w6 w9 s9
 refine br ?_
 refine eL (aZ.tr (aZ.refl _) s6 (W.cons_of (Rn:=[]) w7 w9 s9)) ?_
 refine lI w10 2 ?_
 obtain ⟨w12,s12⟩:=w10.pp [0] 3
 exact az hp ⟨_,_,_,_,rfl,rfl,w12,(s0.trans (s1.trans (s5.trans (s6.trans (s10.trans s12))))),((CR.flat (fB .i64) f4_0).step (s6.trans (s10.trans s12)))⟩
def bg.pl29 (F:Nat) :Nat->List (Int×Int×Int×Int×Int)->Int->List Int->Int->Int->Option (List Int×Int)
 | 0,_,_,_,_,_=>none
 | k+1,nv,wB,ry,kF,jt=>(bif (decide (jt<kF)) then ((ix nv jt).bind λn1=>(bj.p F ry ((gt nv n1).2.1) ((gt nv n1).2.2.2.1)).bind λr9=>bg.pl29 F k nv wB r9 kF (wrap .i64 (jt+1))) else (bg.pj1 F wB ry))
theorem bg.l29_P  :∀ k,bg.S29 H0 Ri R0  (bg.l29 F (cN.tw F) (bU.tw F) (bj.tw F) (cT.tw F) (dr.tw F)  k) (bg.pl29 F  k):=by
 intro k
 induction k with
 | zero=>unfold bg.S29;intros;rename_i hp;cases hp
 | succ k ih=>
  intro FK Qi zI fc FL FM Qj nv wB kF jt ry Qk H aon aoo h0 r hp
  obtain ⟨w0,s0,Qn,acq⟩:=h0
  subst aon
  subst aoo
  unfold bg.pl29 at hp
  unfold bg.l29
  refine ay hp (λhp=>?_) λhp=>?_
  ·obtain ⟨n1,g1,hp⟩:=ag hp
   obtain ⟨p1,q1,i1,h1,j1⟩:=ROs.ixr Qn rfl g1
   refine ai i1 ?_
   obtain ⟨_,_,rfl,rfl,_,_,rfl,rfl,_,_,rfl,rfl,_,_,rfl,rfl,rfl⟩:=h1
   refine ai (aG (j1 0 _ rfl)) ?_
   refine ai (aG (j1 1 _ rfl)) ?_
   refine ai (aG (j1 2 _ rfl)) ?_
   refine ai (aG (j1 3 _ rfl)) ?_
   refine ai (aG (j1 4 _ rfl)) ?_
   refine aS w0 λH2 w2 s2=>?_
   refine aq w2 0 λH3 w3 s3=>?_
   refine aq w3 0 λH4 w4 s4=>?_
   refine aq w4 0 λH5 w5 s5=>?_
   refine aq w5 0 λH6 w6 s6=>?_
   refine aq w6 0 λH7 w7 s7=>?_
   refine lI w7 0 ?_
   refine lI w7 0 ?_
   obtain ⟨w8,s8⟩:=w7.pp [2,0,1] 3
   obtain ⟨r9,e9,hp⟩:=ag hp
   refine aE (bj.P rfl ⟨w8,(acq.step (s2.trans (s3.trans (s4.trans (s5.trans (s6.trans (s7.trans s8)))))))⟩ e9) ?_
   rintro _ H10 ⟨asN,rfl,hl10_0,w10,s10,f10_0⟩
   obtain ⟨w11,s11⟩:=w10.pp [2,0] 3
   exact ih rfl hl10_0 ⟨w11,(s0.trans (s2.trans (s3.trans (s4.trans (s5.trans (s6.trans (s7.trans (s8.trans (s10.trans s11))))))))),(Qn.step (s2.trans (s3.trans (s4.trans (s5.trans (s6.trans (s7.trans (s8.trans (s10.trans s11))))))))),(f10_0.step s11)⟩ hp
  ·exact bg.j1_P rfl rfl ⟨w0,s0,Qn,acq⟩ hp
def bg.p (F:Nat) (ah:ato) (af:Int):Option (List Int×Int):=(cN.p F ah).bind λr2=>(bU.p F (wrap .i64 (2 * r2))).bind λr4=>bg.pl29 F F ah af r4 (ah.length:Int) 0
theorem bg.P {aB ak aC ah af} (ba:ak=ah.length) (h0:Inn H R0 λR=>ROs (ac eI (ac eI (ac eI (ac eI eI)))) H R ⟨aB,ak,aC⟩ ah) {r:atA} (hp:bg.p F ah af=some r):Rt (bg.tw F ⟨aB,ak,aC⟩ af H) (bg.Q H R0 R0  r):=by
 obtain ⟨w0,aO⟩:=h0
 subst ba
 unfold bg.p at hp
 unfold bg.tw bg.twX
 have s0:=w0.rf
 refine aS w0 λH1 w1 s1=>?_
 refine lSl w1 0 ?_
 obtain ⟨r2,e2,hp⟩:=ag hp
 refine aE (cN.P rfl ⟨w1,(aO.step s1)⟩ e2) ?_
 rintro _ H3 ⟨rfl,w3,s3,_⟩
 refine br ?_
 obtain ⟨r4,e4,hp⟩:=ag hp
 refine aE (bU.P ⟨w3,trivial⟩ e4) ?_
 rintro _ H5 ⟨o0a_5,o0n_5,o0c_5,o0k_5,rfl,rfl,w5,s5,f5_0⟩
 refine br ?_
 refine lSl w5 1 ?_
 obtain ⟨w6,s6⟩:=w5.pp [1,0] 2
 exact bg.l29_P F rfl rfl ⟨w6,(s0.trans (s1.trans (s3.trans (s5.trans s6)))),(aO.step (s1.trans (s3.trans (s5.trans s6)))),(f5_0.step s6)⟩ hp
def bP.Q (H0:Hp) (Ri R0:atf)  (r:ats) (v:AV) (H':Hp):Prop:=∃ o0a:ON,∃ o0n:Nat,∃ o0c:Cap,∃ o0k:List AV,v=(.sl ⟨o0a,o0n,o0c⟩)/\o0n=(r).length/\Out H0 Ri H' (Rs.own ⟨o0a,o0n,o0c⟩ (eSl eI).z o0k::R0) λR=>CR (eSl eI) H' R o0k (r)
def bP.S61 (H0:Hp) (Ri R0:atf)  (C:Sl->Sl->Sl->Int->Int->Hp->OA) (pC:List Int->List (List Int)->List (Int×Int×Int×Int×Int)->Int->Int->Option (List (List Int))):Prop:=∀ {qA Qo Qp ni FO FP qB Qq Qr dl qC Qs rz gm eG ju},∀ {H:Hp},ni=dl.length->FO=rz.length->FP=gm.length->(Out H0 Ri H (Rs.own ⟨qA,ni,qB⟩ eI.z qC::Rs.own ⟨Qo,FO,Qq⟩ (eSl eI).z Qs::R0) λR=>CR eI H R qC dl/\CR (eSl eI) H R Qs rz/\ROs (ac eI (ac eI (ac eI (ac eI eI)))) H R ⟨Qp,FP,Qr⟩ gm)->∀ {r:ats},pC dl rz gm eG ju=some r->Rt (C ⟨qA,ni,qB⟩ ⟨Qo,FO,Qq⟩ ⟨Qp,FP,Qr⟩ eG ju H) (bP.Q H0 Ri R0  r)
def bP.pl61 (F:Nat) :Nat->List Int->List (List Int)->List (Int×Int×Int×Int×Int)->Int->Int->Option (List (List Int))
 | 0,_,_,_,_,_=>none
 | k+1,dl,rz,gm,eG,ju=>(bif (decide (ju<eG)) then ((ix gm ju).bind λn1=>(ix dl ((gt gm n1).1)).bind λn8=>(ix dl ((gt gm n1).2.2.1)).bind λn9=>(ix dl ((gt gm n1).2.1)).bind λn10=>(apn rz ([([(wrap .i64 ((gt dl n9)+1)),(wrap .i64 (((gt gm n1).2.2.2.2) * (wrap .i64 ((gt dl n10)+1)))),(wrap .i64 (0 - (wrap .i64 ((gt dl n8)+1)))),(wrap .i64 ((wrap .i64 (0 - ((gt gm n1).2.2.2.2))) * (wrap .i64 ((gt dl n10)+1))))]:List Int)]:List (List Int))).bind λl14=>bP.pl61 F k dl l14 gm eG (wrap .i64 (ju+1))) else (some rz))
theorem bP.l61_P  :∀ k,bP.S61 H0 Ri R0  (bP.l61 F (bg.tw F)  k) (bP.pl61 F  k):=by
 intro k
 induction k with
 | zero=>unfold bP.S61;intros;rename_i hp;cases hp
 | succ k ih=>
  intro qA Qo Qp ni FO FP qB Qq Qr dl qC Qs rz gm eG ju H Kp aoq aor h0 r hp
  obtain ⟨w0,s0,oJ,acr,acs⟩:=h0
  subst Kp
  subst aoq
  subst aor
  unfold bP.pl61 at hp
  unfold bP.l61
  refine ay hp (λhp=>?_) λhp=>?_
  ·obtain ⟨n1,g1,hp⟩:=ag hp
   obtain ⟨p1,q1,i1,h1,j1⟩:=ROs.ixr acs rfl g1
   refine ai i1 ?_
   obtain ⟨_,_,rfl,rfl,_,_,rfl,rfl,_,_,rfl,rfl,_,_,rfl,rfl,rfl⟩:=h1
   refine ai (aG (j1 0 _ rfl)) ?_
   refine ai (aG (j1 1 _ rfl)) ?_
   refine ai (aG (j1 2 _ rfl)) ?_
   refine ai (aG (j1 3 _ rfl)) ?_
   refine ai (aG (j1 4 _ rfl)) ?_
   refine aS w0 λH2 w2 s2=>?_
   refine aq w2 0 λH3 w3 s3=>?_
   refine aq w3 0 λH4 w4 s4=>?_
   refine aq w4 0 λH5 w5 s5=>?_
   refine aq w5 0 λH6 w6 s6=>?_
   refine aq w6 0 λH7 w7 s7=>?_
   refine lI w7 0 ?_
   obtain ⟨n8,g8,hp⟩:=ag hp
   obtain ⟨p8,q8,i8,h8,j8⟩:=W.ixo (E:=eI) w7 (i:=1) rfl rfl (oJ.step (s2.trans (s3.trans (s4.trans (s5.trans (s6.trans s7)))))) g8
   refine ai i8 ?_
   have h8:_=[_]:=h8
   subst h8
   refine ai (aG (j8 0 _ rfl)) ?_
   refine lI w7 0 ?_
   obtain ⟨n9,g9,hp⟩:=ag hp
   obtain ⟨p9,q9,i9,h9,j9⟩:=W.ixo (E:=eI) w7 (i:=1) rfl rfl (oJ.step (s2.trans (s3.trans (s4.trans (s5.trans (s6.trans s7)))))) g9
   refine ai i9 ?_
   have h9:_=[_]:=h9
   subst h9
   refine ai (aG (j9 0 _ rfl)) ?_
   refine lI w7 0 ?_
   obtain ⟨n10,g10,hp⟩:=ag hp
   obtain ⟨p10,q10,i10,h10,j10⟩:=W.ixo (E:=eI) w7 (i:=1) rfl rfl (oJ.step (s2.trans (s3.trans (s4.trans (s5.trans (s6.trans s7)))))) g10
   refine ai i10 ?_
   have h10:_=[_]:=h10
   subst h10
   refine ai (aG (j10 0 _ rfl)) ?_
   refine lI w7 0 ?_
   refine lI w7 0 ?_
   refine cL eI w7 (n:=4) (l:=([(wrap .i64 ((gt dl n9)+1)),(wrap .i64 (((gt gm n1).2.2.2.2) * (wrap .i64 ((gt dl n10)+1)))),(wrap .i64 (0 - (wrap .i64 ((gt dl n8)+1)))),(wrap .i64 ((wrap .i64 (0 - ((gt gm n1).2.2.2.2))) * (wrap .i64 ((gt dl n10)+1))))]:List Int)) rfl (CR.cons1 rfl (CR.cons1 rfl (CR.cons1 rfl (CR.cons1 rfl CR.empty)))) rfl λH11 w11 s11 c11=>?_
   obtain ⟨w12,s12,f12⟩:=w11.frz (i:=0) eI rfl c11
   refine cL (eSl eI) w12 (n:=1) (l:=([([(wrap .i64 ((gt dl n9)+1)),(wrap .i64 (((gt gm n1).2.2.2.2) * (wrap .i64 ((gt dl n10)+1)))),(wrap .i64 (0 - (wrap .i64 ((gt dl n8)+1)))),(wrap .i64 ((wrap .i64 (0 - ((gt gm n1).2.2.2.2))) * (wrap .i64 ((gt dl n10)+1))))]:List Int)]:List (List Int))) rfl (CR.cons1 ⟨_,rfl,f12⟩ CR.empty) rfl λH13 w13 s13 c13=>?_
   refine ai (w13.rowo (i:=0) rfl) ?_
   obtain ⟨l14,e14,hp⟩:=ag hp
   refine fA (eSl eI) w13 (i:=3) rfl rfl (acr.step (s2.trans (s3.trans (s4.trans (s5.trans (s6.trans (s7.trans (s11.trans (s12.trans s13))))))))) c13 (show 1=List.length ([([(wrap .i64 ((gt dl n9)+1)),(wrap .i64 (((gt gm n1).2.2.2.2) * (wrap .i64 ((gt dl n10)+1)))),(wrap .i64 (0 - (wrap .i64 ((gt dl n8)+1)))),(wrap .i64 ((wrap .i64 (0 - ((gt gm n1).2.2.2.2))) * (wrap .i64 ((gt dl n10)+1))))]:List Int)]:List (List Int)) from rfl) rfl e14 λa15 d15 H15 w15 s15 c15 x15=>?_
   obtain ⟨w16,s16⟩:=w15.pp [2,3] 4
   exact ih rfl rfl rfl ⟨w16,(s0.trans (s2.trans (s3.trans (s4.trans (s5.trans (s6.trans (s7.trans (s11.trans (s12.trans (s13.trans (s15.trans s16))))))))))),(oJ.step (s2.trans (s3.trans (s4.trans (s5.trans (s6.trans (s7.trans (s11.trans (s12.trans (s13.trans (s15.trans s16))))))))))),(c15.step s16),(acs.step (s2.trans (s3.trans (s4.trans (s5.trans (s6.trans (s7.trans (s11.trans (s12.trans (s13.trans (s15.trans s16)))))))))))⟩ hp
  ·obtain ⟨w17,s17⟩:=w0.pp [1] 2
   exact az hp ⟨_,_,_,_,rfl,rfl,w17,(s0.trans s17),(acr.step s17)⟩
def bP.p (F:Nat) (ah:ato) (af:Int):Option (List (List Int)):=(bg.p F ah af).bind λr2=>bP.pl61 F F r2.1 ([]:List (List Int)) ah (ah.length:Int) 0
theorem bP.P {aB ak aC ah af} (ba:ak=ah.length) (h0:Inn H R0 λR=>ROs (ac eI (ac eI (ac eI (ac eI eI)))) H R ⟨aB,ak,aC⟩ ah) {r:ats} (hp:bP.p F ah af=some r):Rt (bP.tw F ⟨aB,ak,aC⟩ af H) (bP.Q H R0 R0  r):=by
 obtain ⟨w0,aO⟩:=h0
 subst ba
 unfold bP.p at hp
 unfold bP.tw bP.twX
 have s0:=w0.rf
 refine aS w0 λH1 w1 s1=>?_
 refine lSl w1 0 ?_
 refine lI w1 0 ?_
 obtain ⟨r2,e2,hp⟩:=ag hp
 refine aE (bg.P rfl ⟨w1,(aO.step s1)⟩ e2) ?_
 rintro _ H3 ⟨o0a_3,o0n_3,o0c_3,o0k_3,rfl,rfl,w3,s3,f3_0⟩
 refine br (br (br (br (br ?_))))
 refine lSl w3 1 ?_
 obtain ⟨w4,s4⟩:=w3.nilS (eSl eI).z (by decide)
 obtain ⟨w5,s5⟩:=w4.pp [1,0] 3
 exact bP.l61_P F rfl rfl rfl ⟨w5,(s0.trans (s1.trans (s3.trans (s4.trans s5)))),(f3_0.step (s4.trans s5)),((CR.empty:CR (eSl eI) _ _ [] []).step s5),(aO.step (s1.trans (s3.trans (s4.trans s5))))⟩ hp
def dy.Q (H0:Hp) (Ri R0:atf)  (r:ati) (v:AV) (H':Hp):Prop:=∃ o0a:ON,∃ o0n:Nat,∃ o0c:Cap,∃ o0k:List AV,v=(.sl ⟨o0a,o0n,o0c⟩)/\o0n=(r).length/\Out H0 Ri H' (Rs.own ⟨o0a,o0n,o0c⟩ eI.z o0k::R0) λR=>CR eI H' R o0k (r)
def dy.p (F:Nat) (ah:ati):Option (List Int):=apn ([]:List Int) ah
theorem dy.P {aB ak aC ah} (ba:ak=ah.length) (h0:Inn H R0 λR=>ROs eI H R ⟨aB,ak,aC⟩ ah) {r:ati} (hp:dy.p F ah=some r):Rt (dy.tw F ⟨aB,ak,aC⟩ H) (dy.Q H R0 R0  r):=by
 obtain ⟨w0,f0⟩:=h0
 subst ba
 unfold dy.p at hp
 unfold dy.tw dy.twX
 have s0:=w0.rf
 refine arC (λhb=>?_) (λhb=>?_)
 ·obtain ⟨w1,s1⟩:=w0.nilS eI.z (by decide)
  obtain rfl:=ROs.none_nil f0 (Option.isNone_iff_eq_none.1 hb)
  obtain rfl:r=[]:=(afX hp).2
  exact ⟨_,_,rfl,none,0,.ex 0,[],rfl,rfl,w1,s0.trans s1,CR.empty⟩
 ·refine cL eI w0 (n:=0) (l:=[]) rfl CR.empty rfl λH2 w2 s2 c2=>?_
  obtain ⟨xs,hx,cx⟩:=(f0.step s2).row rfl
  refine ai hx ?_
  refine fA eI w2 (i:=0) rfl rfl c2 cx rfl rfl hp λa d H3 w3 s3 c3 _=>?_
  dsimp only [List.set] at w3 s3 c3
  exact ⟨_,_,rfl,_,_,_,_,rfl,rfl,w3,s0.trans (s2.trans s3),c3⟩
def aV.Q (H0:Hp) (Ri R0:atf)  (r:atl) (v:AV) (H':Hp):Prop:=∃ o1a:ON,∃ o1n:Nat,∃ o1c:Cap,∃ o1k:List AV,v=(.agg [(.i r.1),(.sl ⟨o1a,o1n,o1c⟩)])/\o1n=(r.2).length/\Out H0 Ri H' (Rs.own ⟨o1a,o1n,o1c⟩ eI.z o1k::R0) λR=>CR eI H' R o1k (r.2)
def aV.S6 (H0:Hp) (Ri R0:atf)  (C:auA) (pC:auB):Prop:=∀ {rA acu Qt Qu FQ de FR fE Qv Qw j_ Qx Qy},∀ {H:Hp},FQ=j_.length->FR=Qx.length->(Out H0 Ri H (Rs.blk de [.i rA,.sl ⟨Qt,FQ,Qv⟩]::Rs.own ⟨Qu,FR,Qw⟩ eI.z Qy::Rs.blk fE [.i acu,.sl ⟨Qu,FR,Qw⟩]::R0) λR=>ROs eI H R ⟨Qt,FQ,Qv⟩ j_/\CR eI H R Qy Qx)->∀ {r:atl},pC rA j_=some r->Rt (C de 0 fE 0 H) (aV.Q H0 Ri R0  r)
def aV.S14 (H0:Hp) (Ri R0:atf)  (C:auA) (pC:auB):Prop:=∀ {rB acv Qz QA FS eT FT mT QB QC jJ QD QE},∀ {H:Hp},FS=jJ.length->FT=QD.length->(Out H0 Ri H (Rs.blk eT [.i rB,.sl ⟨Qz,FS,QB⟩]::Rs.own ⟨QA,FT,QC⟩ eI.z QE::Rs.blk mT [.i acv,.sl ⟨QA,FT,QC⟩]::R0) λR=>ROs eI H R ⟨Qz,FS,QB⟩ jJ/\CR eI H R QE QD)->∀ {r:atl},pC rB jJ=some r->Rt (C eT 0 mT 0 H) (aV.Q H0 Ri R0  r)
def aV.pj1 (F:Nat)  (FU:Int) (wC:ati):Option (Int×List Int):=(bif ((wC.length:Int)==0) then (some (0,([]:List Int))) else ((dy.p F wC).bind λr5=>some (FU,r5)))
theorem aV.j1_P   {FU aos acw acx QF uF QG kG acy acz wC acA acB} (aot:QF=wC.length) (aou:QG=acA.length) (h0:Out H0 Ri H (Rs.blk uF [.i FU,.sl ⟨acw,QF,acy⟩]::Rs.own ⟨acx,QG,acz⟩ eI.z acB::Rs.blk kG [.i aos,.sl ⟨acx,QG,acz⟩]::R0) λR=>ROs eI H R ⟨acw,QF,acy⟩ wC/\CR eI H R acB acA) {r:atl} (hp:aV.pj1 F  FU wC=some r):Rt (aV.j1 F (dy.tw F)  uF 0 kG 0 H) (aV.Q H0 Ri R0  r):=by
 obtain ⟨w0,s0,aov,asO⟩:=h0
 subst aot
 subst aou
 unfold aV.pj1 at hp
 unfold aV.j1
 refine lSl w0 0 ?_
 refine ay hp (λhp=>?_) λhp=>?_
 ·refine aq w0 2 λH1 w1 s1=>?_
  refine aq w1 2 λH2 w2 s2=>?_
  refine lI w2 2 ?_
  refine lSl w2 2 ?_
  obtain ⟨w3,s3⟩:=w2.nilS eI.z (by decide)
  obtain ⟨w4,s4⟩:=w3.pp [0] 4
  exact az hp ⟨_,_,_,_,rfl,rfl,w4,(s0.trans (s1.trans (s2.trans (s3.trans s4)))),((CR.empty:CR eI _ _ [] []).step s4)⟩
 ·refine lI w0 0 ?_
  refine lSl w0 0 ?_
  obtain ⟨r5,e5,hp⟩:=ag hp
  refine aE (dy.P rfl ⟨w0,aov⟩ e5) ?_
  rintro _ H6 ⟨o0a_6,o0n_6,o0c_6,o0k_6,rfl,rfl,w6,s6,f6_0⟩
  refine br ?_
  refine eL (W.cons_of (Rn:=[_]) w0 w6 s6) ?_
  refine aq w6 3 λH8 w8 s8=>?_
  refine aq w8 3 λH9 w9 s9=>?_
  refine lI w9 3 ?_
  refine lSl w9 3 ?_
  obtain ⟨w10,s10⟩:=w9.pp [0] 4
  exact az hp ⟨_,_,_,_,rfl,rfl,w10,(s0.trans (s6.trans (s8.trans (s9.trans s10)))),(f6_0.step (s8.trans (s9.trans s10)))⟩
def aV.pl14 (F:Nat) :Nat->Int->List Int->Option (Int×List Int)
 | 0,_,_=>none
 | k+1,rB,jJ=>(bif (decide ((jJ.length:Int)>0)) then ((ix jJ (wrap .i64 ((jJ.length:Int) - 1))).bind λn1=>(bif ((gt jJ n1)==0) then ((cutf jJ 0 (wrap .i64 ((jJ.length:Int) - 1))).bind λl2=>aV.pl14 F k rB l2) else (aV.pj1 F rB jJ))) else (aV.pj1 F rB jJ))
theorem aV.l14_P  :∀ k,aV.S14 H0 Ri R0  (aV.l14 F (dy.tw F)  k) (aV.pl14 F  k):=by
 intro k
 induction k with
 | zero=>unfold aV.S14;intros;rename_i hp;cases hp
 | succ k ih=>
  intro rB acv Qz QA FS eT FT mT QB QC jJ QD QE H aow aox h0 r hp
  obtain ⟨w0,s0,FV,QH⟩:=h0
  subst aow
  subst aox
  unfold aV.pl14 at hp
  unfold aV.l14
  refine lSl w0 0 ?_
  refine ay hp (λhp=>?_) λhp=>?_
  ·refine lSl w0 0 ?_
   refine lSl w0 0 ?_
   obtain ⟨n1,g1,hp⟩:=ag hp
   obtain ⟨p1,q1,i1,h1,j1⟩:=ROs.ixr FV rfl g1
   refine ai i1 ?_
   have h1:_=[_]:=h1
   subst h1
   refine ai (aG (j1 0 _ rfl)) ?_
   refine ay hp (λhp=>?_) λhp=>?_
   ·refine lSl w0 0 ?_
    refine lSl w0 0 ?_
    obtain ⟨l2,e2,hp⟩:=ag hp
    obtain ⟨a2,d2,h2,f2⟩:=ROs.cutf FV rfl e2
    refine ai h2 ?_
    refine aq w0 0 λH3 w3 s3=>?_
    exact ih rfl rfl ⟨w3,(s0.trans s3),(f2.step s3),(QH.step s3)⟩ hp
   ·exact aV.j1_P rfl rfl ⟨w0,s0,FV,QH⟩ hp
  ·exact aV.j1_P rfl rfl ⟨w0,s0,FV,QH⟩ hp
def aV.pj2 (F:Nat)  (FW:Int) (zK:ati):Option (Int×List Int):=aV.pl14 F F FW zK
theorem aV.j2_P   {FW aoy acC acD QI BZ QJ lZ acE acF zK acG acH} (aoz:QI=zK.length) (aoA:QJ=acG.length) (h0:Out H0 Ri H (Rs.blk BZ [.i FW,.sl ⟨acC,QI,acE⟩]::Rs.own ⟨acD,QJ,acF⟩ eI.z acH::Rs.blk lZ [.i aoy,.sl ⟨acD,QJ,acF⟩]::R0) λR=>ROs eI H R ⟨acC,QI,acE⟩ zK/\CR eI H R acH acG) {r:atl} (hp:aV.pj2 F  FW zK=some r):Rt (aV.j2 F (dy.tw F)  BZ 0 lZ 0 H) (aV.Q H0 Ri R0  r):=by
 obtain ⟨w0,s0,aoB,aoC⟩:=h0
 subst aoz
 subst aoA
 unfold aV.pj2 at hp
 unfold aV.j2
 exact aV.l14_P F rfl rfl ⟨w0,s0,aoB,aoC⟩ hp
def aV.pl6 (F:Nat) :Nat->Int->List Int->Option (Int×List Int)
 | 0,_,_=>none
 | k+1,rA,j_=>(bif (decide ((j_.length:Int)>0)) then ((ix j_ 0).bind λn1=>(bif ((gt j_ n1)==0) then ((cutf j_ 1 (j_.length:Int)).bind λl3=>aV.pl6 F k (wrap .i64 (rA+1)) l3) else (aV.pj2 F rA j_))) else (aV.pj2 F rA j_))
theorem aV.l6_P  :∀ k,aV.S6 H0 Ri R0  (aV.l6 F (dy.tw F)  k) (aV.pl6 F  k):=by
 intro k
 induction k with
 | zero=>unfold aV.S6;intros;rename_i hp;cases hp
 | succ k ih=>
  intro rA acu Qt Qu FQ de FR fE Qv Qw j_ Qx Qy H aoD aoE h0 r hp
  obtain ⟨w0,s0,FX,QK⟩:=h0
  subst aoD
  subst aoE
  unfold aV.pl6 at hp
  unfold aV.l6
  refine lSl w0 0 ?_
  refine ay hp (λhp=>?_) λhp=>?_
  ·refine lSl w0 0 ?_
   obtain ⟨n1,g1,hp⟩:=ag hp
   obtain ⟨p1,q1,i1,h1,j1⟩:=ROs.ixr FX rfl g1
   refine ai i1 ?_
   have h1:_=[_]:=h1
   subst h1
   refine ai (aG (j1 0 _ rfl)) ?_
   refine ay hp (λhp=>?_) λhp=>?_
   ·refine lI w0 0 ?_
    refine aq w0 0 λH2 w2 s2=>?_
    refine lSl w2 0 ?_
    obtain ⟨l3,e3,hp⟩:=ag hp
    obtain ⟨a3,d3,h3,f3⟩:=ROs.cutf (FX.step s2) rfl e3
    refine ai h3 ?_
    refine aq w2 0 λH4 w4 s4=>?_
    exact ih rfl rfl ⟨w4,(s0.trans (s2.trans s4)),(f3.step s4),(QK.step (s2.trans s4))⟩ hp
   ·exact aV.j2_P rfl rfl ⟨w0,s0,FX,QK⟩ hp
  ·exact aV.j2_P rfl rfl ⟨w0,s0,FX,QK⟩ hp
def aV.p (F:Nat) (aa:Int) (aF:ati):Option (Int×List Int):=aV.pl6 F F aa aF
theorem aV.P {aa ck bE cl aF} (dv:bE=aF.length) (h0:Inn H R0 λR=>ROs eI H R ⟨ck,bE,cl⟩ aF) {r:atl} (hp:aV.p F aa aF=some r):Rt (aV.tw F aa ⟨ck,bE,cl⟩ H) (aV.Q H R0 R0  r):=by
 obtain ⟨w0,ct⟩:=h0
 subst dv
 unfold aV.p at hp
 unfold aV.tw aV.twX
 have s0:=w0.rf
 refine aS w0 λH1 w1 s1=>?_
 refine aS w1 λH2 w2 s2=>?_
 obtain ⟨w3,s3⟩:=w2.nilS eI.z (by decide)
 obtain ⟨w4,s4⟩:=w3.pp [2,0,1] 3
 exact aV.l6_P F rfl rfl ⟨w4,(s0.trans (s1.trans (s2.trans (s3.trans s4)))),(ct.step (s1.trans (s2.trans (s3.trans s4)))),((CR.empty:CR eI _ _ [] []).step s4)⟩ hp
def cn.Q (H0:Hp) (Ri R0:atf)  (r:atl) (v:AV) (H':Hp):Prop:=∃ o1a:ON,∃ o1n:Nat,∃ o1c:Cap,∃ o1k:List AV,v=(.agg [(.i r.1),(.sl ⟨o1a,o1n,o1c⟩)])/\o1n=(r.2).length/\Out H0 Ri H' (Rs.own ⟨o1a,o1n,o1c⟩ eI.z o1k::R0) λR=>CR eI H' R o1k (r.2)
def cn.p (F:Nat) (aa:Int) (aA:Int):Option (Int×List Int):=(aV.p F aA ([aa]:List Int)).bind λr4=>some (r4.1,r4.2)
theorem cn.P {aa aA}  (h0:Inn H R0 λR=>True) {r:atl} (hp:cn.p F aa aA=some r):Rt (cn.tw F aa aA H) (cn.Q H R0 R0  r):=by
 obtain ⟨w0,_⟩:=h0
 unfold cn.p at hp
 unfold cn.tw cn.twX
 have s0:=w0.rf
 refine aS w0 λH1 w1 s1=>?_
 refine cL eI w1 (n:=1) (l:=([aa]:List Int)) rfl (CR.cons1 rfl CR.empty) rfl λH2 w2 s2 c2=>?_
 have f3:=W.borrow1 eI w2 c2
 obtain ⟨w3,s3⟩:=w2.right1
 obtain ⟨r4,e4,hp⟩:=ag hp
 refine aE (aV.P (show 1=List.length ([aa]:List Int) from rfl) ⟨w3,f3⟩ e4) ?_
 rintro _ H5 ⟨o1a_5,o1n_5,o1c_5,o1k_5,rfl,rfl,w5,s5,f5_0⟩
 obtain ⟨w6,s6⟩:=W.frame1 w2 w5 s5
 refine br (br (br (br (br ?_))))
 refine aq w6 2 λH7 w7 s7=>?_
 refine aq w7 2 λH8 w8 s8=>?_
 refine lI w8 2 ?_
 refine lSl w8 2 ?_
 obtain ⟨w9,s9⟩:=w8.pp [1] 3
 exact az hp ⟨_,_,_,_,rfl,rfl,w9,(s0.trans (s1.trans (s2.trans (s6.trans (s7.trans (s8.trans s9)))))),((CR.flat (fB .i64) f5_0).step (s7.trans (s8.trans s9)))⟩
def fV.Q (H0:Hp) (Ri R0:atf)  (r:Int) (v:AV) (H':Hp):Prop:=v=(.i r)/\Out H0 Ri H' (R0) λR=>True
def fV.p (F:Nat) (ah:ati):Option (Int):=some (ah.length:Int)
theorem fV.P {aB ak aC ah} (ba:ak=ah.length) (h0:Inn H R0 λR=>ROs eI H R ⟨aB,ak,aC⟩ ah) {r:Int} (hp:fV.p F ah=some r):Rt (fV.tw F ⟨aB,ak,aC⟩ H) (fV.Q H R0 R0  r):=by
 obtain ⟨w0,aO⟩:=h0
 subst ba
 unfold fV.p at hp
 unfold fV.tw fV.twX
 have s0:=w0.rf
 exact az hp ⟨rfl,w0,s0,trivial⟩
def cO.Q (H0:Hp) (Ri R0:atf)  (r:Int) (v:AV) (H':Hp):Prop:=v=(.i r)/\Out H0 Ri H' (R0) λR=>True
def cO.p (F:Nat) (aa:Int) (aF:ati):Option (Int):=(fV.p F aF).bind λr2=>some (wrap .i64 ((wrap .i64 (aa+r2)) - 1))
theorem cO.P {aa ck bE cl aF} (dv:bE=aF.length) (h0:Inn H R0 λR=>ROs eI H R ⟨ck,bE,cl⟩ aF) {r:Int} (hp:cO.p F aa aF=some r):Rt (cO.tw F aa ⟨ck,bE,cl⟩ H) (cO.Q H R0 R0  r):=by
 obtain ⟨w0,ct⟩:=h0
 subst dv
 unfold cO.p at hp
 unfold cO.tw cO.twX
 have s0:=w0.rf
 refine aS w0 λH1 w1 s1=>?_
 refine lI w1 0 ?_
 refine lSl w1 0 ?_
 obtain ⟨r2,e2,hp⟩:=ag hp
 refine aE (fV.P rfl ⟨w1,(ct.step s1)⟩ e2) ?_
 rintro _ H3 ⟨rfl,w3,s3,_⟩
 refine br ?_
 refine eL (W.cons_of (Rn:=[]) w1 w3 s3) ?_
 obtain ⟨w5,s5⟩:=w3.pp [] 1
 exact az hp ⟨rfl,w5,(s0.trans (s1.trans (s3.trans s5))),trivial⟩
def ev.Q (H0:Hp) (Ri R0:atf)  (r:Bool) (v:AV) (H':Hp):Prop:=v=(.bool r)/\Out H0 Ri H' (R0) λR=>True
def ev.p (F:Nat) (aa:Int):Option (Bool):=(dx.p F aa (-1000000000000) 1000000000000).bind λr1=>some (!r1)
theorem ev.P {aa}  (h0:Inn H R0 λR=>True) {r:Bool} (hp:ev.p F aa=some r):Rt (ev.tw F aa H) (ev.Q H R0 R0  r):=by
 obtain ⟨w0,_⟩:=h0
 unfold ev.p at hp
 unfold ev.tw ev.twX
 have s0:=w0.rf
 obtain ⟨r1,e1,hp⟩:=ag hp
 refine aE (dx.P ⟨w0,trivial⟩ e1) ?_
 rintro _ H2 ⟨rfl,w2,s2,_⟩
 refine br ?_
 exact az hp ⟨rfl,w2,(s0.trans s2),trivial⟩
def ch.Q (H0:Hp) (Ri R0:atf)  (r:Int) (v:AV) (H':Hp):Prop:=v=(.i r)/\Out H0 Ri H' (R0) λR=>True
def ch.S13 (H0:Hp) (Ri R0:atf)  (C:atr) (pC:auz):Prop:=∀ {lF iV lG et df cw},∀ {H:Hp},iV=et.length->(Out H0 Ri H R0 λR=>ROs eI H R ⟨lF,iV,lG⟩ et)->∀ {r:Int},pC et df cw=some r->Rt (C ⟨lF,iV,lG⟩ df cw H) (ch.Q H0 Ri R0  r)
def ch.pl13 (F:Nat) :Nat->List Int->Int->Int->Option (Int)
 | 0,_,_,_=>none
 | k+1,et,df,cw=>(bif (decide (cw<df)) then ((ix et cw).bind λn1=>(ev.p F (gt et n1)).bind λr2=>(bif r2 then (some cw) else (ch.pl13 F k et df (wrap .i64 (cw+1))))) else (some (-1)))
theorem ch.l13_P  :∀ k,ch.S13 H0 Ri R0  (ch.l13 F (ev.tw F)  k) (ch.pl13 F  k):=by
 intro k
 induction k with
 | zero=>unfold ch.S13;intros;rename_i hp;cases hp
 | succ k ih=>
  intro lF iV lG et df cw H zo h0 r hp
  obtain ⟨w0,s0,oQ⟩:=h0
  subst zo
  unfold ch.pl13 at hp
  unfold ch.l13
  refine ay hp (λhp=>?_) λhp=>?_
  ·obtain ⟨n1,g1,hp⟩:=ag hp
   obtain ⟨p1,q1,i1,h1,j1⟩:=ROs.ixr oQ rfl g1
   refine ai i1 ?_
   have h1:_=[_]:=h1
   subst h1
   refine ai (aG (j1 0 _ rfl)) ?_
   obtain ⟨r2,e2,hp⟩:=ag hp
   refine aE (ev.P ⟨w0,trivial⟩ e2) ?_
   rintro _ H3 ⟨rfl,w3,s3,_⟩
   refine br ?_
   refine ay hp (λhp=>?_) λhp=>?_
   ·exact az hp ⟨rfl,w3,(s0.trans s3),trivial⟩
   ·exact ih rfl ⟨w3,(s0.trans s3),(oQ.step s3)⟩ hp
  ·exact az hp ⟨rfl,w0,s0,trivial⟩
def ch.p (F:Nat) (ah:ati):Option (Int):=ch.pl13 F F ah (ah.length:Int) 0
theorem ch.P {aB ak aC ah} (ba:ak=ah.length) (h0:Inn H R0 λR=>ROs eI H R ⟨aB,ak,aC⟩ ah) {r:Int} (hp:ch.p F ah=some r):Rt (ch.tw F ⟨aB,ak,aC⟩ H) (ch.Q H R0 R0  r):=by
 obtain ⟨w0,aO⟩:=h0
 subst ba
 unfold ch.p at hp
 unfold ch.tw ch.twX
 have s0:=w0.rf
 exact ch.l13_P F rfl ⟨w0,s0,aO⟩ hp
def eN.Q (H0:Hp) (Ri R0:atf)  (r:Bool) (v:AV) (H':Hp):Prop:=v=(.bool r)/\Out H0 Ri H' (R0) λR=>True
def eN.p (F:Nat) (ah:ati):Option (Bool):=(ch.p F ah).bind λr1=>some (decide (r1>=0))
theorem eN.P {aB ak aC ah} (ba:ak=ah.length) (h0:Inn H R0 λR=>ROs eI H R ⟨aB,ak,aC⟩ ah) {r:Bool} (hp:eN.p F ah=some r):Rt (eN.tw F ⟨aB,ak,aC⟩ H) (eN.Q H R0 R0  r):=by
 obtain ⟨w0,aO⟩:=h0
 subst ba
 unfold eN.p at hp
 unfold eN.tw eN.twX
 have s0:=w0.rf
 obtain ⟨r1,e1,hp⟩:=ag hp
 refine aE (ch.P rfl ⟨w0,aO⟩ e1) ?_
 rintro _ H2 ⟨rfl,w2,s2,_⟩
 refine br ?_
 exact az hp ⟨rfl,w2,(s0.trans s2),trivial⟩
def cP.Q (H0:Hp) (Ri R0:atf)  (r:Bool) (v:AV) (H':Hp):Prop:=v=(.bool r)/\Out H0 Ri H' (R0) λR=>True
def cP.p (F:Nat) (aa:Int) (aF:ati):Option (Bool):=(bif ((aF.length:Int)==0) then (some (aa==0)) else ((bif (decide ((aF.length:Int)<=160)) then ((ix aF 0).bind λn3=>(bif ((gt aF n3) != 0) then ((ix aF (wrap .i64 ((aF.length:Int) - 1))).bind λn4=>(bif ((gt aF n4) != 0) then ((bif (decide (aa>=(-240))) then ((cO.p F aa aF).bind λr5=>(bif (decide (r5<=240)) then ((bif (decide (aa<=240)) then ((eN.p F aF).bind λr7=>some (!r7)) else (some false))) else (some false))) else (some false))) else (some false))) else (some false))) else (some false))))
theorem cP.P {aa ck bE cl aF} (dv:bE=aF.length) (h0:Inn H R0 λR=>ROs eI H R ⟨ck,bE,cl⟩ aF) {r:Bool} (hp:cP.p F aa aF=some r):Rt (cP.tw F aa ⟨ck,bE,cl⟩ H) (cP.Q H R0 R0  r):=by
 obtain ⟨w0,ct⟩:=h0
 subst dv
 unfold cP.p at hp
 unfold cP.tw cP.twX
 have s0:=w0.rf
 refine aS w0 λH1 w1 s1=>?_
 refine lSl w1 0 ?_
 refine ay hp (λhp=>?_) λhp=>?_
 ·refine lI w1 0 ?_
  obtain ⟨w2,s2⟩:=w1.pp [] 1
  exact az hp ⟨rfl,w2,(s0.trans (s1.trans s2)),trivial⟩
 ·refine ay hp (λhp=>?_) λhp=>?_
  ·refine lSl w1 0 ?_
   obtain ⟨n3,g3,hp⟩:=ag hp
   obtain ⟨p3,q3,i3,h3,j3⟩:=ROs.ixr (ct.step s1) rfl g3
   refine ai i3 ?_
   have h3:_=[_]:=h3
   subst h3
   refine ai (aG (j3 0 _ rfl)) ?_
   refine ay hp (λhp=>?_) λhp=>?_
   ·refine lSl w1 0 ?_
    obtain ⟨n4,g4,hp⟩:=ag hp
    obtain ⟨p4,q4,i4,h4,j4⟩:=ROs.ixr (ct.step s1) rfl g4
    refine ai i4 ?_
    have h4:_=[_]:=h4
    subst h4
    refine ai (aG (j4 0 _ rfl)) ?_
    refine ay hp (λhp=>?_) λhp=>?_
    ·refine lI w1 0 ?_
     refine ay hp (λhp=>?_) λhp=>?_
     ·refine lI w1 0 ?_
      refine lSl w1 0 ?_
      obtain ⟨r5,e5,hp⟩:=ag hp
      refine aE (cO.P rfl ⟨w1,(ct.step s1)⟩ e5) ?_
      rintro _ H6 ⟨rfl,w6,s6,_⟩
      refine br ?_
      refine ay hp (λhp=>?_) λhp=>?_
      ·refine lI w6 0 ?_
       refine ay hp (λhp=>?_) λhp=>?_
       ·refine lSl w6 0 ?_
        obtain ⟨r7,e7,hp⟩:=ag hp
        refine aE (eN.P rfl ⟨w6,(ct.step (s1.trans s6))⟩ e7) ?_
        rintro _ H8 ⟨rfl,w8,s8,_⟩
        refine br ?_
        obtain ⟨w9,s9⟩:=w8.pp [] 1
        exact az hp ⟨rfl,w9,(s0.trans (s1.trans (s6.trans (s8.trans s9)))),trivial⟩
       ·obtain ⟨w10,s10⟩:=w6.pp [] 1
        exact az hp ⟨rfl,w10,(s0.trans (s1.trans (s6.trans s10))),trivial⟩
      ·obtain ⟨w11,s11⟩:=w6.pp [] 1
       exact az hp ⟨rfl,w11,(s0.trans (s1.trans (s6.trans s11))),trivial⟩
     ·obtain ⟨w12,s12⟩:=w1.pp [] 1
      exact az hp ⟨rfl,w12,(s0.trans (s1.trans s12)),trivial⟩
    ·obtain ⟨w13,s13⟩:=w1.pp [] 1
     exact az hp ⟨rfl,w13,(s0.trans (s1.trans s13)),trivial⟩
   ·obtain ⟨w14,s14⟩:=w1.pp [] 1
    exact az hp ⟨rfl,w14,(s0.trans (s1.trans s14)),trivial⟩
  ·obtain ⟨w15,s15⟩:=w1.pp [] 1
   exact az hp ⟨rfl,w15,(s0.trans (s1.trans s15)),trivial⟩
def el.Q (H0:Hp) (Ri R0:atf)  (r:Bool) (v:AV) (H':Hp):Prop:=v=(.bool r)/\Out H0 Ri H' (R0) λR=>True
def el.p (F:Nat) (aa:Int) (aF:ati):Option (Bool):=(cP.p F aa aF).bind λr2=>some (!r2)
theorem el.P {aa ck bE cl aF} (dv:bE=aF.length) (h0:Inn H R0 λR=>ROs eI H R ⟨ck,bE,cl⟩ aF) {r:Bool} (hp:el.p F aa aF=some r):Rt (el.tw F aa ⟨ck,bE,cl⟩ H) (el.Q H R0 R0  r):=by
 obtain ⟨w0,ct⟩:=h0
 subst dv
 unfold el.p at hp
 unfold el.tw el.twX
 have s0:=w0.rf
 refine aS w0 λH1 w1 s1=>?_
 refine lI w1 0 ?_
 refine lSl w1 0 ?_
 obtain ⟨r2,e2,hp⟩:=ag hp
 refine aE (cP.P rfl ⟨w1,(ct.step s1)⟩ e2) ?_
 rintro _ H3 ⟨rfl,w3,s3,_⟩
 refine br ?_
 obtain ⟨w4,s4⟩:=w3.pp [] 1
 exact az hp ⟨rfl,w4,(s0.trans (s1.trans (s3.trans s4))),trivial⟩
def b_.Q (H0:Hp) (Ri R0:atf)  (r:Int) (v:AV) (H':Hp):Prop:=v=(.i r)/\Out H0 Ri H' (R0) λR=>True
def b_.S13 (H0:Hp) (Ri R0:atf)  (C:atr) (pC:List (Int×List Int)->Int->Int->Option (Int)):Prop:=∀ {lF iV lG et df cw},∀ {H:Hp},iV=et.length->(Out H0 Ri H R0 λR=>ROs (ac eI (eSl eI)) H R ⟨lF,iV,lG⟩ et)->∀ {r:Int},pC et df cw=some r->Rt (C ⟨lF,iV,lG⟩ df cw H) (b_.Q H0 Ri R0  r)
def b_.pl13 (F:Nat) :Nat->List (Int×List Int)->Int->Int->Option (Int)
 | 0,_,_,_=>none
 | k+1,et,df,cw=>(bif (decide (cw<df)) then ((ix et cw).bind λn1=>(el.p F ((gt et n1).1) ((gt et n1).2)).bind λr2=>(bif r2 then (some cw) else (b_.pl13 F k et df (wrap .i64 (cw+1))))) else (some (-1)))
theorem b_.l13_P  :∀ k,b_.S13 H0 Ri R0  (b_.l13 F (el.tw F)  k) (b_.pl13 F  k):=by
 intro k
 induction k with
 | zero=>unfold b_.S13;intros;rename_i hp;cases hp
 | succ k ih=>
  intro lF iV lG et df cw H zo h0 r hp
  obtain ⟨w0,s0,oQ⟩:=h0
  subst zo
  unfold b_.pl13 at hp
  unfold b_.l13
  refine ay hp (λhp=>?_) λhp=>?_
  ·obtain ⟨n1,g1,hp⟩:=ag hp
   obtain ⟨p1,q1,i1,h1,j1⟩:=ROs.ixr oQ rfl g1
   refine ai i1 ?_
   obtain ⟨_,_,rfl,rfl,⟨⟨aoF,m1_1,c1_1⟩,rfl,f1_1⟩⟩:=h1
   obtain rfl:m1_1=_:=f1_1.n
   refine ai (aG (j1 0 _ rfl)) ?_
   refine ai (iG (j1 1 _ rfl)) ?_
   obtain ⟨r2,e2,hp⟩:=ag hp
   refine aE (el.P rfl ⟨w0,f1_1⟩ e2) ?_
   rintro _ H3 ⟨rfl,w3,s3,_⟩
   refine br ?_
   refine ay hp (λhp=>?_) λhp=>?_
   ·exact az hp ⟨rfl,w3,(s0.trans s3),trivial⟩
   ·exact ih rfl ⟨w3,(s0.trans s3),(oQ.step s3)⟩ hp
  ·exact az hp ⟨rfl,w0,s0,trivial⟩
def b_.p (F:Nat) (ah:atz):Option (Int):=b_.pl13 F F ah (ah.length:Int) 0
theorem b_.P {aB ak aC ah} (ba:ak=ah.length) (h0:Inn H R0 λR=>ROs (ac eI (eSl eI)) H R ⟨aB,ak,aC⟩ ah) {r:Int} (hp:b_.p F ah=some r):Rt (b_.tw F ⟨aB,ak,aC⟩ H) (b_.Q H R0 R0  r):=by
 obtain ⟨w0,aO⟩:=h0
 subst ba
 unfold b_.p at hp
 unfold b_.tw b_.twX
 have s0:=w0.rf
 exact b_.l13_P F rfl ⟨w0,s0,aO⟩ hp
def eO.Q (H0:Hp) (Ri R0:atf)  (r:Bool) (v:AV) (H':Hp):Prop:=v=(.bool r)/\Out H0 Ri H' (R0) λR=>True
def eO.p (F:Nat) (ah:atz):Option (Bool):=(b_.p F ah).bind λr1=>some (decide (r1>=0))
theorem eO.P {aB ak aC ah} (ba:ak=ah.length) (h0:Inn H R0 λR=>ROs (ac eI (eSl eI)) H R ⟨aB,ak,aC⟩ ah) {r:Bool} (hp:eO.p F ah=some r):Rt (eO.tw F ⟨aB,ak,aC⟩ H) (eO.Q H R0 R0  r):=by
 obtain ⟨w0,aO⟩:=h0
 subst ba
 unfold eO.p at hp
 unfold eO.tw eO.twX
 have s0:=w0.rf
 obtain ⟨r1,e1,hp⟩:=ag hp
 refine aE (b_.P rfl ⟨w0,aO⟩ e1) ?_
 rintro _ H2 ⟨rfl,w2,s2,_⟩
 refine br ?_
 exact az hp ⟨rfl,w2,(s0.trans s2),trivial⟩
def cI.Q (H0:Hp) (Ri R0:atf)  (r:Bool) (v:AV) (H':Hp):Prop:=v=(.bool r)/\Out H0 Ri H' (R0) λR=>True
def cI.p (F:Nat) (ah:atz):Option (Bool):=(eO.p F ah).bind λr1=>some (!r1)
theorem cI.P {aB ak aC ah} (ba:ak=ah.length) (h0:Inn H R0 λR=>ROs (ac eI (eSl eI)) H R ⟨aB,ak,aC⟩ ah) {r:Bool} (hp:cI.p F ah=some r):Rt (cI.tw F ⟨aB,ak,aC⟩ H) (cI.Q H R0 R0  r):=by
 obtain ⟨w0,aO⟩:=h0
 subst ba
 unfold cI.p at hp
 unfold cI.tw cI.twX
 have s0:=w0.rf
 obtain ⟨r1,e1,hp⟩:=ag hp
 refine aE (eO.P rfl ⟨w0,aO⟩ e1) ?_
 rintro _ H2 ⟨rfl,w2,s2,_⟩
 refine br ?_
 exact az hp ⟨rfl,w2,(s0.trans s2),trivial⟩
def cJ.Q (H0:Hp) (Ri R0:atf)  (r:atx) (v:AV) (H':Hp):Prop:=∃ o1a:ON,∃ o1n:Nat,∃ o1c:Cap,∃ o1k:List AV,v=(.tup [(.agg [(.i r.1),(.sl ⟨o1a,o1n,o1c⟩)]),(.i r.2.2)])/\o1n=(r.2.1).length/\Out H0 Ri H' (Rs.own ⟨o1a,o1n,o1c⟩ eI.z o1k::R0) λR=>CR eI H' R o1k (r.2.1)
def cJ.p (F:Nat) (aa:Int) (aF:ati):Option (Int×List Int×Int):=(aV.p F aa aF).bind λr3=>(cP.p F r3.1 r3.2).bind λr8=>(bif (!r8) then (some (0,([]:List Int),3)) else (some (r3.1,r3.2,0)))
theorem cJ.P {aa ck bE cl aF} (dv:bE=aF.length) (h0:Inn H R0 λR=>ROs eI H R ⟨ck,bE,cl⟩ aF) {r:atx} (hp:cJ.p F aa aF=some r):Rt (cJ.tw F aa ⟨ck,bE,cl⟩ H) (cJ.Q H R0 R0  r):=by
 obtain ⟨w0,ct⟩:=h0
 subst dv
 unfold cJ.p at hp
 unfold cJ.tw cJ.twX
 have s0:=w0.rf
 refine aS w0 λH1 w1 s1=>?_
 refine aS w1 λH2 w2 s2=>?_
 refine lI w2 1 ?_
 refine lSl w2 1 ?_
 obtain ⟨r3,e3,hp⟩:=ag hp
 refine aE (aV.P rfl ⟨w2,(ct.step (s1.trans s2))⟩ e3) ?_
 rintro _ H4 ⟨o1a_4,o1n_4,o1c_4,o1k_4,rfl,rfl,w4,s4,f4_0⟩
 refine br (br (br (br (br ?_))))
 refine aq w4 2 λH5 w5 s5=>?_
 refine aq w5 2 λH6 w6 s6=>?_
 refine lI w6 2 ?_
 refine lSl w6 2 ?_
 have f7:=W.borrow1 eI w6 (f4_0.step (s5.trans s6))
 obtain ⟨w7,s7⟩:=w6.right1
 obtain ⟨r8,e8,hp⟩:=ag hp
 refine aE (cP.P rfl ⟨w7,f7⟩ e8) ?_
 rintro _ H9 ⟨rfl,w9,s9,_⟩
 obtain ⟨w10,s10⟩:=W.frame1 w6 w9 s9
 refine br ?_
 refine ay hp (λhp=>?_) λhp=>?_
 ·refine aq w10 1 λH11 w11 s11=>?_
  refine aq w11 1 λH12 w12 s12=>?_
  refine lI w12 1 ?_
  refine lSl w12 1 ?_
  obtain ⟨w13,s13⟩:=w12.nilS eI.z (by decide)
  obtain ⟨w14,s14⟩:=w13.pp [0] 4
  exact az hp ⟨_,_,_,_,rfl,rfl,w14,(s0.trans (s1.trans (s2.trans (s4.trans (s5.trans (s6.trans (s10.trans (s11.trans (s12.trans (s13.trans s14)))))))))),((CR.empty:CR eI _ _ [] []).step s14)⟩
 ·refine lI w10 2 ?_
  refine lSl w10 2 ?_
  refine aq w10 1 λH15 w15 s15=>?_
  refine aq w15 1 λH16 w16 s16=>?_
  refine lI w16 1 ?_
  refine lSl w16 1 ?_
  obtain ⟨w17,s17⟩:=w16.pp [0] 3
  exact az hp ⟨_,_,_,_,rfl,rfl,w17,(s0.trans (s1.trans (s2.trans (s4.trans (s5.trans (s6.trans (s10.trans (s15.trans (s16.trans s17))))))))),(f4_0.step (s5.trans (s6.trans (s10.trans (s15.trans (s16.trans s17))))))⟩
def aN.Q (H0:Hp) (Ri R0:atf)  (r:atx) (v:AV) (H':Hp):Prop:=∃ o1a:ON,∃ o1n:Nat,∃ o1c:Cap,∃ o1k:List AV,v=(.tup [(.agg [(.i r.1),(.sl ⟨o1a,o1n,o1c⟩)]),(.i r.2.2)])/\o1n=(r.2.1).length/\Out H0 Ri H' (Rs.own ⟨o1a,o1n,o1c⟩ eI.z o1k::R0) λR=>CR eI H' R o1k (r.2.1)
def aN.S125 (H0:Hp) (Ri R0:atf)  (C:atW) (pC:at3):Prop:=∀ {acI mV wD kL jw QL QM QN FY oh FZ ol F_ QO QP QQ QR rC QT QU QV mo},∀ {H:Hp},FY=QR.length->FZ=rC.length->F_=mo.length->(Out H0 Ri H (Rs.own ⟨QL,FY,QO⟩ eI.z QT::Rs.blk oh [.i acI,.sl ⟨QL,FY,QO⟩]::Rs.own ⟨QM,FZ,QP⟩ eI.z QU::Rs.blk ol [.i wD,.sl ⟨QM,FZ,QP⟩]::Rs.own ⟨QN,F_,QQ⟩ (ac eI (eSl eI)).z QV::R0) λR=>CR eI H R QT QR/\CR eI H R QU rC/\CR (ac eI (eSl eI)) H R QV mo)->∀ {r:atx},pC mV wD rC mo kL jw=some r->Rt (C oh 0 mV ol 0 ⟨QN,F_,QQ⟩ kL jw H) (aN.Q H0 Ri R0  r)
def aN.S8027 (H0:Hp) (Ri R0:atf)  (C:Nat->Nat->Int->Nat->Nat->Sl->Int->Int->Nat->Nat->Sl->Int->Int->Hp->OA) (pC:Int->Int->List Int->List (Int×List Int)->Int->Int->Int->List Int->Int->Int->Option (Int×List Int×Int)):Prop:=∀ {acJ ip wE kI kJ rD kK gH QW QX QY Ga Gb oe Gc mU Gd zL og QZ Q_ Ra Ge Rc mp pb Rd Re Rf rE},∀ {H:Hp},Gb=Rc.length->Gc=mp.length->Gd=rE.length->zL=pb.length->(Out H0 Ri H (Rs.own ⟨QW,Gb,QZ⟩ eI.z Rd::Rs.blk oe [.i acJ,.sl ⟨QW,Gb,QZ⟩]::Rs.own ⟨QX,Gc,Q_⟩ eI.z Re::Rs.blk mU [.i wE,.sl ⟨QX,Gc,Q_⟩]::Rs.own ⟨QY,Gd,Ra⟩ (ac eI (eSl eI)).z Rf::Rs.blk og [.i rD,.sl ⟨Ga,zL,Ge⟩]::R0) λR=>CR eI H R Rd Rc/\CR eI H R Re mp/\CR (ac eI (eSl eI)) H R Rf rE/\ROs eI H R ⟨Ga,zL,Ge⟩ pb)->∀ {r:atx},pC ip wE mp rE kI kJ rD pb kK gH=some r->Rt (C oe 0 ip mU 0 ⟨QY,Gd,Ra⟩ kI kJ og 0 ⟨Ga,zL,Ge⟩ kK gH H) (aN.Q H0 Ri R0  r)
def aN.pj4 (F:Nat) (bu:at3) (l_:Int) (Gf:Int) (zM:ati) (zN:atz) (uL:Int) (uM:Int):Option (Int×List Int×Int):=bu l_ Gf zM zN uL (wrap .i64 (uM+1))
theorem aN.j4_P  {C125_:atW} {bu:at3} (hC125:aN.S125 H0 Ri R0  C125_ bu) {aoG l_ Gf uL uM acK acL acM Rh Ca Rj Cb Rk acN acO acP acQ zM acR acS acT zN} (aoH:Rh=acQ.length) (aoI:Rj=zM.length) (aoJ:Rk=zN.length) (h0:Out H0 Ri H (Rs.own ⟨acK,Rh,acN⟩ eI.z acR::Rs.blk Ca [.i aoG,.sl ⟨acK,Rh,acN⟩]::Rs.own ⟨acL,Rj,acO⟩ eI.z acS::Rs.blk Cb [.i Gf,.sl ⟨acL,Rj,acO⟩]::Rs.own ⟨acM,Rk,acP⟩ (ac eI (eSl eI)).z acT::R0) λR=>CR eI H R acR acQ/\CR eI H R acS zM/\CR (ac eI (eSl eI)) H R acT zN) {r:atx} (hp:aN.pj4 F bu l_ Gf zM zN uL uM=some r):Rt (aN.j4 F (cI.tw F) (cO.tw F) (cJ.tw F) C125_ Ca 0 l_ Cb 0 ⟨acM,Rk,acP⟩ uL uM H) (aN.Q H0 Ri R0  r):=by
 obtain ⟨w0,s0,aoK,aoL,aoM⟩:=h0
 subst aoH
 subst aoI
 subst aoJ
 unfold aN.pj4 at hp
 unfold aN.j4
 exact hC125 rfl rfl rfl ⟨w0,s0,aoK,aoL,aoM⟩ hp
def aN.pj5 (F:Nat) (bu:at3) (uN:Int) (Gg:Int) (zO:ati) (zP:atz) (uO:Int) (uP:Int):Option (Int×List Int×Int):=aN.pj4 F bu uN Gg zO zP uO uP
theorem aN.j5_P  {C125_:atW} {bu:at3} (hC125:aN.S125 H0 Ri R0  C125_ bu) {aoN uN Gg uO uP acU acV acW Rl Cc Rm Cd Rp acX acY acZ ac0 zO ac1 ac2 ac3 zP} (aoO:Rl=ac0.length) (aoP:Rm=zO.length) (aoQ:Rp=zP.length) (h0:Out H0 Ri H (Rs.own ⟨acU,Rl,acX⟩ eI.z ac1::Rs.blk Cc [.i aoN,.sl ⟨acU,Rl,acX⟩]::Rs.own ⟨acV,Rm,acY⟩ eI.z ac2::Rs.blk Cd [.i Gg,.sl ⟨acV,Rm,acY⟩]::Rs.own ⟨acW,Rp,acZ⟩ (ac eI (eSl eI)).z ac3::R0) λR=>CR eI H R ac1 ac0/\CR eI H R ac2 zO/\CR (ac eI (eSl eI)) H R ac3 zP) {r:atx} (hp:aN.pj5 F bu uN Gg zO zP uO uP=some r):Rt (aN.j5 F (cI.tw F) (cO.tw F) (cJ.tw F) C125_ Cc 0 uN Cd 0 ⟨acW,Rp,acZ⟩ uO uP H) (aN.Q H0 Ri R0  r):=by
 obtain ⟨w0,s0,aoR,aoS,aoT⟩:=h0
 subst aoO
 subst aoP
 subst aoQ
 unfold aN.pj5 at hp
 unfold aN.j5
 exact aN.j4_P (@hC125) rfl rfl rfl ⟨w0,s0,aoR,aoS,aoT⟩ hp
def aN.pl8027 (F:Nat) (bu:at3):Nat->Int->Int->List Int->List (Int×List Int)->Int->Int->Int->List Int->Int->Int->Option (Int×List Int×Int)
 | 0,_,_,_,_,_,_,_,_,_,_=>none
 | k+1,ip,wE,mp,rE,kI,kJ,rD,pb,kK,gH=>(bif (decide (gH<kK)) then ((ix pb gH).bind λn1=>(ix mp (wrap .i64 ((wrap .i64 (rD - ip))+gH))).bind λn2=>(ix mp (wrap .i64 ((wrap .i64 (rD - ip))+gH))).bind λn3=>(some (mp.set n3 (wrap .i64 ((gt mp n2)+(gt pb n1))))).bind λl4=>aN.pl8027 F bu k ip wE l4 rE kI kJ rD pb kK (wrap .i64 (gH+1))) else (aN.pj5 F bu ip wE mp rE kI kJ))
theorem aN.l8027_P  {C125_:atW} {bu:at3} (hC125:aN.S125 H0 Ri R0  C125_ bu):∀ k,aN.S8027 H0 Ri R0  (aN.l8027 F (cI.tw F) (cO.tw F) (cJ.tw F) C125_ k) (aN.pl8027 F bu k):=by
 intro k
 induction k with
 | zero=>unfold aN.S8027;intros;rename_i hp;cases hp
 | succ k ih=>
  intro acJ ip wE kI kJ rD kK gH QW QX QY Ga Gb oe Gc mU Gd zL og QZ Q_ Ra Ge Rc mp pb Rd Re Rf rE H aoU aoV aoW aoX h0 r hp
  obtain ⟨w0,s0,ac4,Gh,ac5,ac6⟩:=h0
  subst aoU
  subst aoV
  subst aoW
  subst aoX
  unfold aN.pl8027 at hp
  unfold aN.l8027
  refine ay hp (λhp=>?_) λhp=>?_
  ·obtain ⟨n1,g1,hp⟩:=ag hp
   obtain ⟨p1,q1,i1,h1,j1⟩:=ROs.ixr ac6 rfl g1
   refine ai i1 ?_
   have h1:_=[_]:=h1
   subst h1
   refine ai (aG (j1 0 _ rfl)) ?_
   refine lSl w0 3 ?_
   refine lI w0 5 ?_
   obtain ⟨n2,g2,hp⟩:=ag hp
   obtain ⟨p2,q2,i2,h2,j2⟩:=W.ixo (E:=eI) w0 (i:=2) rfl rfl Gh g2
   refine ai i2 ?_
   have h2:_=[_]:=h2
   subst h2
   refine ai (aG (j2 0 _ rfl)) ?_
   obtain ⟨n3,g3,hp⟩:=ag hp
   obtain ⟨p3,q3,i3,h3,j3⟩:=W.ixo (E:=eI) w0 (i:=2) rfl rfl Gh g3
   refine ai i3 ?_
   obtain ⟨l4,e4,hp⟩:=ag hp
   refine dD eI w0 (i:=2) (j:=0) (p:=p3) rfl rfl Gh g3 i3 e4 rfl rfl (λ_ h=>by have h:_=[_]:=h;subst h;exact rfl) λH5 k5 w5 s5 c5=>?_
   exact ih rfl ((cA e4).symm) rfl rfl ⟨w5,(s0.trans s5),(ac4.step s5),c5,(ac5.step s5),(ac6.step s5)⟩ hp
  ·obtain ⟨w6,s6⟩:=w0.pp [0,1,2,3,4] 6
   exact aN.j5_P (@hC125) rfl rfl rfl ⟨w6,(s0.trans s6),(ac4.step s6),(Gh.step s6),(ac5.step s6)⟩ hp
def aN.pj3 (F:Nat)  (Gi:Int) (zQ:ati):Option (Int×List Int×Int):=(cJ.p F Gi zQ).bind λr3=>some (r3.1,r3.2.1,r3.2.2)
theorem aN.j3_P   {aoY Gi ac7 ac8 Rq pP Rr xt ac9 ac_ ada zQ adb adc} (aoZ:Rq=ada.length) (ao0:Rr=zQ.length) (h0:Out H0 Ri H (Rs.own ⟨ac7,Rq,ac9⟩ eI.z adb::Rs.blk pP [.i aoY,.sl ⟨ac7,Rq,ac9⟩]::Rs.own ⟨ac8,Rr,ac_⟩ eI.z adc::Rs.blk xt [.i Gi,.sl ⟨ac8,Rr,ac_⟩]::R0) λR=>CR eI H R adb ada/\CR eI H R adc zQ) {r:atx} (hp:aN.pj3 F  Gi zQ=some r):Rt (aN.j3 F (cI.tw F) (cO.tw F) (cJ.tw F)  pP 0 xt 0 H) (aN.Q H0 Ri R0  r):=by
 obtain ⟨w0,s0,asQ,ao1⟩:=h0
 subst aoZ
 subst ao0
 unfold aN.pj3 at hp
 unfold aN.j3
 refine lI w0 3 ?_
 refine lSl w0 3 ?_
 obtain ⟨w1,s1⟩:=w0.pp [2,0,1,3] 4
 have f2:=W.borrow1 eI w1 (ao1.step s1)
 obtain ⟨w2,s2⟩:=w1.right1
 obtain ⟨r3,e3,hp⟩:=ag hp
 refine aE (cJ.P rfl ⟨w2,f2⟩ e3) ?_
 rintro _ H4 ⟨o1a_4,o1n_4,o1c_4,o1k_4,rfl,rfl,w4,s4,f4_0⟩
 obtain ⟨w5,s5⟩:=W.frame1 w1 w4 s4
 refine br (br (br (br (br (br (br (br (br ?_))))))))
 refine aq w5 3 λH6 w6 s6=>?_
 refine aq w6 3 λH7 w7 s7=>?_
 refine lI w7 3 ?_
 refine lSl w7 3 ?_
 obtain ⟨w8,s8⟩:=w7.pp [1] 5
 exact az hp ⟨_,_,_,_,rfl,rfl,w8,(s0.trans (s1.trans (s5.trans (s6.trans (s7.trans s8))))),((CR.flat (fB .i64) f4_0).step (s6.trans (s7.trans s8)))⟩
def aN.pl125 (F:Nat) :Nat->Int->Int->List Int->List (Int×List Int)->Int->Int->Option (Int×List Int×Int)
 | 0,_,_,_,_,_,_=>none
 | k+1,mV,wD,rC,mo,kL,jw=>(bif (decide (jw<kL)) then ((ix mo jw).bind λn1=>aN.pl8027 F (aN.pl125 F k) F mV wD rC mo kL jw ((gt mo n1).1) ((gt mo n1).2) ((((gt mo n1).2).length):Int) 0) else (aN.pj3 F wD rC))
theorem aN.l125_P  :∀ k,aN.S125 H0 Ri R0  (aN.l125 F (cI.tw F) (cO.tw F) (cJ.tw F)  k) (aN.pl125 F  k):=by
 intro k
 induction k with
 | zero=>unfold aN.S125;intros;rename_i hp;cases hp
 | succ k ih=>
  intro acI mV wD kL jw QL QM QN FY oh FZ ol F_ QO QP QQ QR rC QT QU QV mo H ao2 ao3 ao4 h0 r hp
  obtain ⟨w0,s0,ade,adf,adg⟩:=h0
  subst ao2
  subst ao3
  subst ao4
  unfold aN.pl125 at hp
  unfold aN.l125
  refine ay hp (λhp=>?_) λhp=>?_
  ·obtain ⟨n1,g1,hp⟩:=ag hp
   obtain ⟨p1,q1,i1,h1,j1⟩:=W.ixo (E:=(ac eI (eSl eI))) w0 (i:=4) rfl rfl adg g1
   refine ai i1 ?_
   obtain ⟨_,_,rfl,rfl,⟨⟨aoF,m1_1,c1_1⟩,rfl,f1_1⟩⟩:=h1
   obtain rfl:m1_1=_:=f1_1.n
   refine ai (aG (j1 0 _ rfl)) ?_
   refine ai (iG (j1 1 _ rfl)) ?_
   refine aS w0 λH2 w2 s2=>?_
   refine aq w2 0 λH3 w3 s3=>?_
   refine aq w3 0 λH4 w4 s4=>?_
   refine lSl w4 0 ?_
   obtain ⟨w5,s5⟩:=w4.pp [1,2,3,4,5,0] 6
   exact aN.l8027_P (@ih) F rfl rfl rfl rfl ⟨w5,(s0.trans (s2.trans (s3.trans (s4.trans s5)))),(ade.step (s2.trans (s3.trans (s4.trans s5)))),(adf.step (s2.trans (s3.trans (s4.trans s5)))),(adg.step (s2.trans (s3.trans (s4.trans s5)))),(f1_1.step (s2.trans (s3.trans (s4.trans s5))))⟩ hp
  ·obtain ⟨w6,s6⟩:=w0.pp [0,1,2,3] 5
   exact aN.j3_P rfl rfl ⟨w6,(s0.trans s6),(ade.step s6),(adf.step s6)⟩ hp
def aN.p (F:Nat) (aa:Int) (aF:ati) (au:Int) (bA:ati):Option (Int×List Int×Int):=(cI.p F ([(aa,aF),(au,bA)]:List (Int×List Int))).bind λr6=>(bif (!r6) then (some (0,([]:List Int),1)) else ((cO.p F aa aF).bind λr13=>(cO.p F au bA).bind λr16=>(mkn (wrap .i64 ((wrap .i64 ((if (if au<aa then au else aa)>(if r16>r13 then r16 else r13) then (if au<aa then au else aa) else (if r16>r13 then r16 else r13)) - (if au<aa then au else aa)))+1)) (0:Int)).bind λl19=>aN.pl125 F F (if au<aa then au else aa) (if au<aa then au else aa) l19 ([(aa,aF),(au,bA)]:List (Int×List Int)) (2:Int) 0))
theorem aN.P {aa au ck ew bE dh cl ey aF bA} (dv:bE=aF.length) (gO:dh=bA.length) (h0:Inn H R0 λR=>ROs eI H R ⟨ck,bE,cl⟩ aF/\ROs eI H R ⟨ew,dh,ey⟩ bA) {r:atx} (hp:aN.p F aa aF au bA=some r):Rt (aN.tw F aa ⟨ck,bE,cl⟩ au ⟨ew,dh,ey⟩ H) (aN.Q H R0 R0  r):=by
 obtain ⟨w0,ct,fd⟩:=h0
 subst dv
 subst gO
 unfold aN.p at hp
 unfold aN.tw aN.twX
 have s0:=w0.rf
 refine aS w0 λH1 w1 s1=>?_
 refine aS w1 λH2 w2 s2=>?_
 refine aS w2 λH3 w3 s3=>?_
 refine lI w3 2 ?_
 refine lSl w3 2 ?_
 refine lI w3 1 ?_
 refine lSl w3 1 ?_
 refine cL (ac eI (eSl eI)) w3 (n:=2) (l:=([(aa,aF),(au,bA)]:List (Int×List Int))) rfl (CR.cons (c:=[_,_]) ⟨[_],_,rfl,rfl,⟨_,rfl,(ct.step (s1.trans (s2.trans s3)))⟩⟩ (CR.cons (c:=[_,_]) ⟨[_],_,rfl,rfl,⟨_,rfl,(fd.step (s1.trans (s2.trans s3)))⟩⟩ CR.empty)) rfl λH4 w4 s4 c4=>?_
 have f5:=W.borrow1 (ac eI (eSl eI)) w4 c4
 obtain ⟨w5,s5⟩:=w4.right1
 obtain ⟨r6,e6,hp⟩:=ag hp
 refine aE (cI.P (show 2=List.length ([(aa,aF),(au,bA)]:List (Int×List Int)) from rfl) ⟨w5,f5⟩ e6) ?_
 rintro _ H7 ⟨rfl,w7,s7,_⟩
 obtain ⟨w8,s8⟩:=W.frame1 w4 w7 s7
 refine br ?_
 refine ay hp (λhp=>?_) λhp=>?_
 ·refine aq w8 1 λH9 w9 s9=>?_
  refine aq w9 1 λH10 w10 s10=>?_
  refine lI w10 1 ?_
  refine lSl w10 1 ?_
  obtain ⟨w11,s11⟩:=w10.nilS eI.z (by decide)
  obtain ⟨w12,s12⟩:=w11.pp [0] 5
  exact az hp ⟨_,_,_,_,rfl,rfl,w12,(s0.trans (s1.trans (s2.trans (s3.trans (s4.trans (s8.trans (s9.trans (s10.trans (s11.trans s12))))))))),((CR.empty:CR eI _ _ [] []).step s12)⟩
 ·refine lI w8 3 ?_
  refine lI w8 2 ?_
  refine lI w8 3 ?_
  refine lSl w8 3 ?_
  obtain ⟨r13,e13,hp⟩:=ag hp
  refine aE (cO.P rfl ⟨w8,(ct.step (s1.trans (s2.trans (s3.trans (s4.trans s8)))))⟩ e13) ?_
  rintro _ H14 ⟨rfl,w14,s14,_⟩
  refine br ?_
  refine eL (W.cons_of (Rn:=[]) w8 w14 s14) ?_
  refine lI w14 2 ?_
  refine lSl w14 2 ?_
  obtain ⟨r16,e16,hp⟩:=ag hp
  refine aE (cO.P rfl ⟨w14,(fd.step (s1.trans (s2.trans (s3.trans (s4.trans (s8.trans s14))))))⟩ e16) ?_
  rintro _ H17 ⟨rfl,w17,s17,_⟩
  refine br ?_
  refine eL (W.cons_of (Rn:=[]) w14 w17 s17) ?_
  obtain ⟨l19,e19,hp⟩:=ag hp
  refine kc eI (0:Int) w17 rfl rfl rfl e19 λH20 k20 w20 s20 c20=>?_
  refine aS w20 λH21 w21 s21=>?_
  refine aq w21 0 λH22 w22 s22=>?_
  refine aq w22 0 λH23 w23 s23=>?_
  refine lI w23 5 ?_
  refine lSl w23 5 ?_
  refine lI w23 4 ?_
  refine lSl w23 4 ?_
  refine cL (ac eI (eSl eI)) w23 (n:=2) (l:=([(aa,aF),(au,bA)]:List (Int×List Int))) rfl (CR.cons (c:=[_,_]) ⟨[_],_,rfl,rfl,⟨_,rfl,(ct.step (s1.trans (s2.trans (s3.trans (s4.trans (s8.trans (s14.trans (s17.trans (s20.trans (s21.trans (s22.trans s23)))))))))))⟩⟩ (CR.cons (c:=[_,_]) ⟨[_],_,rfl,rfl,⟨_,rfl,(fd.step (s1.trans (s2.trans (s3.trans (s4.trans (s8.trans (s14.trans (s17.trans (s20.trans (s21.trans (s22.trans s23)))))))))))⟩⟩ CR.empty)) rfl λH24 w24 s24 c24=>?_
  obtain ⟨w25,s25⟩:=w24.nilS eI.z (by decide)
  obtain ⟨w26,s26⟩:=w25.pp [0,5,3,2,1] 8
  exact aN.l125_P F rfl rfl (show 2=List.length ([(aa,aF),(au,bA)]:List (Int×List Int)) from rfl) ⟨w26,(s0.trans (s1.trans (s2.trans (s3.trans (s4.trans (s8.trans (s14.trans (s17.trans (s20.trans (s21.trans (s22.trans (s23.trans (s24.trans (s25.trans s26)))))))))))))),((CR.empty:CR eI _ _ [] []).step s26),(c20.step (s21.trans (s22.trans (s23.trans (s24.trans (s25.trans s26)))))),(c24.step (s25.trans s26))⟩ hp
def cq.Q (H0:Hp) (Ri R0:atf)  (r:atl) (v:AV) (H':Hp):Prop:=∃ o1a:ON,∃ o1n:Nat,∃ o1c:Cap,∃ o1k:List AV,v=(.agg [(.i r.1),(.sl ⟨o1a,o1n,o1c⟩)])/\o1n=(r.2).length/\Out H0 Ri H' (Rs.own ⟨o1a,o1n,o1c⟩ eI.z o1k::R0) λR=>CR eI H' R o1k (r.2)
def cq.p (F:Nat) (aa:Int) (aF:ati) (au:Int) (bA:ati):Option (Int×List Int):=(aN.p F aa aF au bA).bind λr4=>some (r4.1,r4.2.1)
theorem cq.P {aa au ck ew bE dh cl ey aF bA} (dv:bE=aF.length) (gO:dh=bA.length) (h0:Inn H R0 λR=>ROs eI H R ⟨ck,bE,cl⟩ aF/\ROs eI H R ⟨ew,dh,ey⟩ bA) {r:atl} (hp:cq.p F aa aF au bA=some r):Rt (cq.tw F aa ⟨ck,bE,cl⟩ au ⟨ew,dh,ey⟩ H) (cq.Q H R0 R0  r):=by
 obtain ⟨w0,ct,fd⟩:=h0
 subst dv
 subst gO
 unfold cq.p at hp
 unfold cq.tw cq.twX
 have s0:=w0.rf
 refine aS w0 λH1 w1 s1=>?_
 refine aS w1 λH2 w2 s2=>?_
 refine aS w2 λH3 w3 s3=>?_
 refine lI w3 2 ?_
 refine lSl w3 2 ?_
 refine lI w3 1 ?_
 refine lSl w3 1 ?_
 obtain ⟨r4,e4,hp⟩:=ag hp
 refine aE (aN.P rfl rfl ⟨w3,(ct.step (s1.trans (s2.trans s3))),(fd.step (s1.trans (s2.trans s3)))⟩ e4) ?_
 rintro _ H5 ⟨o1a_5,o1n_5,o1c_5,o1k_5,rfl,rfl,w5,s5,f5_0⟩
 refine br (br (br (br (br (br (br (br (br ?_))))))))
 refine aS w5 λH6 w6 s6=>?_
 refine aq w6 0 λH7 w7 s7=>?_
 refine aq w7 0 λH8 w8 s8=>?_
 refine lI w8 0 ?_
 refine lSl w8 0 ?_
 refine aq w8 2 λH9 w9 s9=>?_
 refine aq w9 2 λH10 w10 s10=>?_
 refine lI w10 2 ?_
 refine lSl w10 2 ?_
 obtain ⟨w11,s11⟩:=w10.pp [1] 5
 exact az hp ⟨_,_,_,_,rfl,rfl,w11,(s0.trans (s1.trans (s2.trans (s3.trans (s5.trans (s6.trans (s7.trans (s8.trans (s9.trans (s10.trans s11)))))))))),(f5_0.step (s6.trans (s7.trans (s8.trans (s9.trans (s10.trans s11))))))⟩
def eo.Q (H0:Hp) (Ri R0:atf)  (r:Int) (v:AV) (H':Hp):Prop:=v=(.i r)/\Out H0 Ri H' (R0) λR=>True
def eo.p (F:Nat) (aa:Int):Option (Int):=(bif (decide (aa<0)) then (some (-1)) else (some 1))
theorem eo.P {aa}  (h0:Inn H R0 λR=>True) {r:Int} (hp:eo.p F aa=some r):Rt (eo.tw F aa H) (eo.Q H R0 R0  r):=by
 obtain ⟨w0,_⟩:=h0
 unfold eo.p at hp
 unfold eo.tw eo.twX
 have s0:=w0.rf
 refine ay hp (λhp=>?_) λhp=>?_
 ·exact az hp ⟨rfl,w0,s0,trivial⟩
 ·exact az hp ⟨rfl,w0,s0,trivial⟩
end
end Go.Proofs.Ytppbogklbhfboaa.AE
