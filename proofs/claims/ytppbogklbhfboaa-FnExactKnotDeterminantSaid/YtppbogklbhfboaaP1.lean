import Derived.Test.YtppbogklbhfboaaT1
import Derived.Test.YtppbogklbhfboaaE2
set_option linter.unusedVariables false
set_option linter.unusedSimpArgs false
namespace Go.Proofs.Ytppbogklbhfboaa.AE
open Go Go.AE Go.Proofs IntKind
set_option linter.unusedVariables false
variable {F:Nat} {H H0:Hp} {Ri R0:as2}
set_option maxHeartbeats 4000000
set_option maxRecDepth 100000
noncomputable section
def fo.Q (H0:Hp) (Ri R0:as2)  (r:Int) (v:AV) (H':Hp):Prop:=v=(.i r)/\Out H0 Ri H' (R0) λR=>True
def fo.p (F:Nat) (ah:ata) (aA:Int):Option (Int):=(bif (decide ((wrap .i64 (aA - (ah.length:Int)))<0)) then (some (-1)) else (some (wrap .i64 (aA - (ah.length:Int)))))
theorem fo.P {aB ak aC ah aA} (ba:ak=ah.length) (h0:Inn H R0 λR=>ROs (ac eI (ac eI (ac eI (ac eI eI)))) H R ⟨aB,ak,aC⟩ ah) {r:Int} (hp:fo.p F ah aA=some r):Rt (fo.tw F ⟨aB,ak,aC⟩ aA H) (fo.Q H R0 R0  r):=by
 obtain ⟨w0,aO⟩:=h0
 subst ba
 unfold fo.p at hp
 unfold fo.tw fo.twX
 have s0:=w0.rf
 refine ay hp (λhp=>?_) λhp=>?_
 ·exact az hp ⟨rfl,w0,s0,trivial⟩
 ·exact az hp ⟨rfl,w0,s0,trivial⟩
def dY.Q (H0:Hp) (Ri R0:as2)  (r:Int) (v:AV) (H':Hp):Prop:=v=(.i r)/\Out H0 Ri H' (R0) λR=>True
def dY.p (F:Nat) (ah:ata) (au:Int):Option (Int):=(fo.p F ah au).bind λr2=>(bif (decide (r2<0)) then (some (-1)) else (some r2))
theorem dY.P {aB ak aC ah af au} (ba:ak=ah.length) (h0:Inn H R0 λR=>ROs (ac eI (ac eI (ac eI (ac eI eI)))) H R ⟨aB,ak,aC⟩ ah) {r:Int} (hp:dY.p F ah au=some r):Rt (dY.tw F ⟨aB,ak,aC⟩ af au H) (dY.Q H R0 R0  r):=by
 obtain ⟨w0,aO⟩:=h0
 subst ba
 unfold dY.p at hp
 unfold dY.tw dY.twX
 have s0:=w0.rf
 refine aS w0 λH1 w1 s1=>?_
 refine lSl w1 0 ?_
 obtain ⟨r2,e2,hp⟩:=ag hp
 refine aE (fo.P rfl ⟨w1,(aO.step s1)⟩ e2) ?_
 rintro _ H3 ⟨rfl,w3,s3,_⟩
 refine br ?_
 refine ay hp (λhp=>?_) λhp=>?_
 ·obtain ⟨w4,s4⟩:=w3.pp [] 1
  exact az hp ⟨rfl,w4,(s0.trans (s1.trans (s3.trans s4))),trivial⟩
 ·obtain ⟨w5,s5⟩:=w3.pp [] 1
  exact az hp ⟨rfl,w5,(s0.trans (s1.trans (s3.trans s5))),trivial⟩
def fg.Q (H0:Hp) (Ri R0:as2)  (r:auj) (v:AV) (H':Hp):Prop:=v=(.agg [(.i r.1),(.i r.2.1),(.i r.2.2.1),(.i r.2.2.2.1),(.i r.2.2.2.2)])/\Out H0 Ri H' (R0) λR=>True
def fg.p (F:Nat) (aa:Int) (af:Int) (bV:Int) (bW:Int) (bQ:Int):Option (Int×Int×Int×Int×Int):=some (aa,af,bV,bW,bQ)
theorem fg.P {aa af bV bW bQ}  (h0:Inn H R0 λR=>True) {r:auj} (hp:fg.p F aa af bV bW bQ=some r):Rt (fg.tw F aa af bV bW bQ H) (fg.Q H R0 R0  r):=by
 obtain ⟨w0,_⟩:=h0
 unfold fg.p at hp
 unfold fg.tw fg.twX
 have s0:=w0.rf
 refine aS w0 λH1 w1 s1=>?_
 refine aS w1 λH2 w2 s2=>?_
 refine aS w2 λH3 w3 s3=>?_
 refine lI w3 2 ?_
 refine aq w3 0 λH4 w4 s4=>?_
 refine lI w4 2 ?_
 refine aq w4 0 λH5 w5 s5=>?_
 refine lI w5 2 ?_
 refine aq w5 0 λH6 w6 s6=>?_
 refine lI w6 2 ?_
 refine aq w6 0 λH7 w7 s7=>?_
 refine lI w7 2 ?_
 refine aq w7 0 λH8 w8 s8=>?_
 refine lI w8 0 ?_
 refine lI w8 0 ?_
 refine lI w8 0 ?_
 refine lI w8 0 ?_
 refine lI w8 0 ?_
 refine aq w8 1 λH9 w9 s9=>?_
 refine aq w9 1 λH10 w10 s10=>?_
 refine aq w10 1 λH11 w11 s11=>?_
 refine aq w11 1 λH12 w12 s12=>?_
 dsimp only [pk,pks,nth,List.drop,List.set,List.eraseIdx] at w12 s4 s5 s6 s7 s8 s9 s10 s11 s12
 refine aq w12 1 λH13 w13 s13=>?_
 refine lI w13 1 ?_
 refine lI w13 1 ?_
 refine lI w13 1 ?_
 refine lI w13 1 ?_
 refine lI w13 1 ?_
 obtain ⟨w14,s14⟩:=w13.pp [] 3
 exact az hp ⟨rfl,w14,(s0.trans (s1.trans (s2.trans (s3.trans (s4.trans (s5.trans (s6.trans (s7.trans (s8.trans (s9.trans (s10.trans (s11.trans (s12.trans (s13.trans s14)))))))))))))),trivial⟩
def b_.Q (H0:Hp) (Ri R0:as2)  (r:(List (Int×Int×Int×Int×Int))) (v:AV) (H':Hp):Prop:=∃ o0a:ON,∃ o0n:Nat,∃ o0c:Cap,∃ o0k:List AV,v=(.sl ⟨o0a,o0n,o0c⟩)/\o0n=(r).length/\Out H0 Ri H' (Rs.own ⟨o0a,o0n,o0c⟩ (ac eI (ac eI (ac eI (ac eI eI)))).z o0k::R0) λR=>CR (ac eI (ac eI (ac eI (ac eI eI)))) H' R o0k (r)
def b_.S29 (H0:Hp) (Ri R0:as2)  (C:Sl->Sl->Int->Hp->OA) (pC:List (Int×Int×Int×Int×Int)->List (Int×Int×Int×Int×Int)->Int->Option ((List (Int×Int×Int×Int×Int)))):Prop:=∀ {pR HJ mX CV pT HK eo jP HL ez},∀ {H:Hp},mX=eo.length->CV=jP.length->(Out H0 Ri H (Rs.own ⟨HJ,CV,HK⟩ (ac eI (ac eI (ac eI (ac eI eI)))).z HL::R0) λR=>ROs (ac eI (ac eI (ac eI (ac eI eI)))) H R ⟨pR,mX,pT⟩ eo/\CR (ac eI (ac eI (ac eI (ac eI eI)))) H R HL jP)->∀ {r:(List (Int×Int×Int×Int×Int))},pC eo jP ez=some r->Rt (C ⟨pR,mX,pT⟩ ⟨HJ,CV,HK⟩ ez H) (b_.Q H0 Ri R0  r)
def b_.pl29 (F:Nat) :Nat->List (Int×Int×Int×Int×Int)->List (Int×Int×Int×Int×Int)->Int->Option ((List (Int×Int×Int×Int×Int)))
 | 0,_,_,_=>none
 | k+1,eo,jP,ez=>(bif (decide (ez<(eo.length:Int))) then ((ix eo ez).bind λn1=>(fg.p F ((gt eo n1).1) ((gt eo n1).2.1) ((gt eo n1).2.2.1) ((gt eo n1).2.2.2.1) ((gt eo n1).2.2.2.2)).bind λr2=>(ix jP ez).bind λn4=>(some (jP.set n4 (r2.1,(gt jP n4).2.1,(gt jP n4).2.2.1,(gt jP n4).2.2.2.1,(gt jP n4).2.2.2.2))).bind λl5=>(some (l5.set n4 ((gt l5 n4).1,r2.2.1,(gt l5 n4).2.2.1,(gt l5 n4).2.2.2.1,(gt l5 n4).2.2.2.2))).bind λl7=>(some (l7.set n4 ((gt l7 n4).1,(gt l7 n4).2.1,r2.2.2.1,(gt l7 n4).2.2.2.1,(gt l7 n4).2.2.2.2))).bind λl9=>(some (l9.set n4 ((gt l9 n4).1,(gt l9 n4).2.1,(gt l9 n4).2.2.1,r2.2.2.2.1,(gt l9 n4).2.2.2.2))).bind λl11=>(some (l11.set n4 ((gt l11 n4).1,(gt l11 n4).2.1,(gt l11 n4).2.2.1,(gt l11 n4).2.2.2.1,r2.2.2.2.2))).bind λl13=>b_.pl29 F k eo l13 (wrap .i64 (ez+1))) else (some jP))
theorem b_.l29_P  :∀ k,b_.S29 H0 Ri R0  (b_.l29 F (fg.tw F)  k) (b_.pl29 F  k):=by
 intro k
 induction k with
 | zero=>unfold b_.S29;intros;rename_i hp;cases hp
 | succ k ih=>
  intro pR HJ mX CV pT HK eo jP HL ez H HM aiL h0 r hp
  obtain ⟨w0,s0,xy,HN⟩:=h0
  subst HM
  subst aiL
  unfold b_.pl29 at hp
  unfold b_.l29
  refine ay hp (λhp=>?_) λhp=>?_
  ·obtain ⟨n1,g1,hp⟩:=ag hp
   obtain ⟨p1,q1,i1,h1,j1⟩:=ROs.ixr xy rfl g1
   refine ai i1 ?_
   obtain ⟨_,_,rfl,rfl,_,_,rfl,rfl,_,_,rfl,rfl,_,_,rfl,rfl,rfl⟩:=h1
   refine ai (aG (j1 0 _ rfl)) ?_
   refine ai (aG (j1 1 _ rfl)) ?_
   refine ai (aG (j1 2 _ rfl)) ?_
   refine ai (aG (j1 3 _ rfl)) ?_
   refine ai (aG (j1 4 _ rfl)) ?_
   obtain ⟨r2,e2,hp⟩:=ag hp
   refine aE (fg.P ⟨w0,trivial⟩ e2) ?_
   rintro _ H3 ⟨rfl,w3,s3,_⟩
   refine br (br (br (br (br (br (br (br (br (br (br ?_))))))))))
   obtain ⟨n4,g4,hp⟩:=ag hp
   obtain ⟨p4,q4,i4,h4,j4⟩:=W.ixo (E:=(ac eI (ac eI (ac eI (ac eI eI))))) w3 (i:=0) rfl rfl (HN.step s3) g4
   refine ai i4 ?_
   obtain ⟨l5,e5,hp⟩:=ag hp
   refine dC (ac eI (ac eI (ac eI (ac eI eI)))) w3 (i:=0) (j:=0) (p:=p4) rfl rfl (HN.step s3) g4 i4 e5 rfl rfl (λ_ h=>by obtain ⟨_,_,rfl,rfl,_,_,rfl,rfl,_,_,rfl,rfl,_,_,rfl,rfl,rfl⟩:=h;exact ⟨[_],_,rfl,rfl,[_],_,rfl,rfl,[_],_,rfl,rfl,[_],_,rfl,rfl,rfl⟩) λH6 k6 w6 s6 c6=>?_
   obtain ⟨l7,e7,hp⟩:=ag hp
   refine dC (ac eI (ac eI (ac eI (ac eI eI)))) w6 (i:=0) (j:=1) (p:=p4) rfl rfl c6 (mv g4 (cz e5)) i4 e7 rfl rfl (λ_ h=>by obtain ⟨_,_,rfl,rfl,_,_,rfl,rfl,_,_,rfl,rfl,_,_,rfl,rfl,rfl⟩:=h;exact ⟨[_],_,rfl,rfl,[_],_,rfl,rfl,[_],_,rfl,rfl,[_],_,rfl,rfl,rfl⟩) λH8 k8 w8 s8 c8=>?_
   obtain ⟨l9,e9,hp⟩:=ag hp
   refine dC (ac eI (ac eI (ac eI (ac eI eI)))) w8 (i:=0) (j:=2) (p:=p4) rfl rfl c8 (mv g4 ((cz e7).trans (cz e5))) i4 e9 rfl rfl (λ_ h=>by obtain ⟨_,_,rfl,rfl,_,_,rfl,rfl,_,_,rfl,rfl,_,_,rfl,rfl,rfl⟩:=h;exact ⟨[_],_,rfl,rfl,[_],_,rfl,rfl,[_],_,rfl,rfl,[_],_,rfl,rfl,rfl⟩) λH10 k10 w10 s10 c10=>?_
   obtain ⟨l11,e11,hp⟩:=ag hp
   refine dC (ac eI (ac eI (ac eI (ac eI eI)))) w10 (i:=0) (j:=3) (p:=p4) rfl rfl c10 (mv g4 (((cz e9).trans (cz e7)).trans (cz e5))) i4 e11 rfl rfl (λ_ h=>by obtain ⟨_,_,rfl,rfl,_,_,rfl,rfl,_,_,rfl,rfl,_,_,rfl,rfl,rfl⟩:=h;exact ⟨[_],_,rfl,rfl,[_],_,rfl,rfl,[_],_,rfl,rfl,[_],_,rfl,rfl,rfl⟩) λH12 k12 w12 s12 c12=>?_
   obtain ⟨l13,e13,hp⟩:=ag hp
   refine dC (ac eI (ac eI (ac eI (ac eI eI)))) w12 (i:=0) (j:=4) (p:=p4) rfl rfl c12 (mv g4 ((((cz e11).trans (cz e9)).trans (cz e7)).trans (cz e5))) i4 e13 rfl rfl (λ_ h=>by obtain ⟨_,_,rfl,rfl,_,_,rfl,rfl,_,_,rfl,rfl,_,_,rfl,rfl,rfl⟩:=h;exact ⟨[_],_,rfl,rfl,[_],_,rfl,rfl,[_],_,rfl,rfl,[_],_,rfl,rfl,rfl⟩) λH14 k14 w14 s14 c14=>?_
   exact ih rfl (((((cz e5).symm.trans (cz e7).symm).trans (cz e9).symm).trans (cz e11).symm).trans (cz e13).symm) ⟨w14,(s0.trans (s3.trans (s6.trans (s8.trans (s10.trans (s12.trans s14)))))),(xy.step (s3.trans (s6.trans (s8.trans (s10.trans (s12.trans s14)))))),c14⟩ hp
  ·exact az hp ⟨_,_,_,_,rfl,rfl,w0,s0,HN⟩
def b_.p (F:Nat) (ah:ata):Option ((List (Int×Int×Int×Int×Int))):=(mkn (ah.length:Int) ((0:Int),(0:Int),(0:Int),(0:Int),(0:Int))).bind λl1=>b_.pl29 F F ah l1 0
theorem b_.P {aB ak aC ah} (ba:ak=ah.length) (h0:Inn H R0 λR=>ROs (ac eI (ac eI (ac eI (ac eI eI)))) H R ⟨aB,ak,aC⟩ ah) {r:(List (Int×Int×Int×Int×Int))} (hp:b_.p F ah=some r):Rt (b_.tw F ⟨aB,ak,aC⟩ H) (b_.Q H R0 R0  r):=by
 obtain ⟨w0,aO⟩:=h0
 subst ba
 unfold b_.p at hp
 unfold b_.tw b_.twX
 have s0:=w0.rf
 obtain ⟨l1,e1,hp⟩:=ag hp
 refine ka (ac eI (ac eI (ac eI (ac eI eI)))) ((0:Int),(0:Int),(0:Int),(0:Int),(0:Int)) w0 ⟨[_],_,rfl,rfl,⟨[_],_,rfl,rfl,⟨[_],_,rfl,rfl,⟨[_],_,rfl,rfl,rfl⟩⟩⟩⟩ rfl rfl e1 λH2 k2 w2 s2 c2=>?_
 exact b_.l29_P F rfl rfl ⟨w2,(s0.trans s2),(aO.step s2),c2⟩ hp
def dM.Q (H0:Hp) (Ri R0:as2)  (r:(List (Int×Int×Int×Int×Int))×Int) (v:AV) (H':Hp):Prop:=∃ o0a:ON,∃ o0n:Nat,∃ o0c:Cap,∃ o0k:List AV,v=(.agg [(.sl ⟨o0a,o0n,o0c⟩),(.i r.2)])/\o0n=(r.1).length/\Out H0 Ri H' (Rs.own ⟨o0a,o0n,o0c⟩ (ac eI (ac eI (ac eI (ac eI eI)))).z o0k::R0) λR=>CR (ac eI (ac eI (ac eI (ac eI eI)))) H' R o0k (r.1)
def dM.p (F:Nat) (ah:ata) (af:Int):Option ((List (Int×Int×Int×Int×Int))×Int):=(b_.p F ah).bind λr4=>some (r4,af)
theorem dM.P {aB ak aC ah af} (ba:ak=ah.length) (h0:Inn H R0 λR=>ROs (ac eI (ac eI (ac eI (ac eI eI)))) H R ⟨aB,ak,aC⟩ ah) {r:(List (Int×Int×Int×Int×Int))×Int} (hp:dM.p F ah af=some r):Rt (dM.tw F ⟨aB,ak,aC⟩ af H) (dM.Q H R0 R0  r):=by
 obtain ⟨w0,aO⟩:=h0
 subst ba
 unfold dM.p at hp
 unfold dM.tw dM.twX
 have s0:=w0.rf
 refine aS w0 λH1 w1 s1=>?_
 refine aS w1 λH2 w2 s2=>?_
 refine aS w2 λH3 w3 s3=>?_
 refine lSl w3 2 ?_
 obtain ⟨r4,e4,hp⟩:=ag hp
 refine aE (b_.P rfl ⟨w3,(aO.step (s1.trans (s2.trans s3)))⟩ e4) ?_
 rintro _ H5 ⟨o0a_5,o0n_5,o0c_5,o0k_5,rfl,rfl,w5,s5,f5_0⟩
 refine br ?_
 refine aq w5 1 λH6 w6 s6=>?_
 refine lI w6 3 ?_
 refine aq w6 1 λH7 w7 s7=>?_
 refine lSl w7 1 ?_
 refine lI w7 1 ?_
 refine aq w7 2 λH8 w8 s8=>?_
 refine aq w8 2 λH9 w9 s9=>?_
 refine lSl w9 2 ?_
 refine lI w9 2 ?_
 obtain ⟨w10,s10⟩:=w9.pp [0] 4
 exact az hp ⟨_,_,_,_,rfl,rfl,w10,(s0.trans (s1.trans (s2.trans (s3.trans (s5.trans (s6.trans (s7.trans (s8.trans (s9.trans s10))))))))),(f5_0.step (s6.trans (s7.trans (s8.trans (s9.trans s10)))))⟩
def cR.Q (H0:Hp) (Ri R0:as2)  (r:Bool) (v:AV) (H':Hp):Prop:=v=(.bool r)/\Out H0 Ri H' (R0) λR=>True
def cR.p (F:Nat) (aa:Int) (aA:Int) (cL:Int):Option (Bool):=(bif (decide (aa>=aA)) then (some (decide (aa<=cL))) else (some false))
theorem cR.P {aa aA cL}  (h0:Inn H R0 λR=>True) {r:Bool} (hp:cR.p F aa aA cL=some r):Rt (cR.tw F aa aA cL H) (cR.Q H R0 R0  r):=by
 obtain ⟨w0,_⟩:=h0
 unfold cR.p at hp
 unfold cR.tw cR.twX
 have s0:=w0.rf
 refine ay hp (λhp=>?_) λhp=>?_
 ·exact az hp ⟨rfl,w0,s0,trivial⟩
 ·exact az hp ⟨rfl,w0,s0,trivial⟩
def cW.Q (H0:Hp) (Ri R0:as2)  (r:Int) (v:AV) (H':Hp):Prop:=v=(.i r)/\Out H0 Ri H' (R0) λR=>True
def cW.p (F:Nat) (aa:Int) (af:Int) (bV:Int) (bW:Int) (cD:Int):Option (Int):=(ix ([aa,af,bV,bW]:List Int) cD).bind λn3=>some (gt ([aa,af,bV,bW]:List Int) n3)
theorem cW.P {aa af bV bW bQ cD}  (h0:Inn H R0 λR=>True) {r:Int} (hp:cW.p F aa af bV bW cD=some r):Rt (cW.tw F aa af bV bW bQ cD H) (cW.Q H R0 R0  r):=by
 obtain ⟨w0,_⟩:=h0
 unfold cW.p at hp
 unfold cW.tw cW.twX
 have s0:=w0.rf
 refine aS w0 λH1 w1 s1=>?_
 refine lI w1 0 ?_
 refine lI w1 0 ?_
 refine lI w1 0 ?_
 refine lI w1 0 ?_
 refine cK eI w1 (n:=4) (l:=([aa,af,bV,bW]:List Int)) rfl (CR.cons1 rfl (CR.cons1 rfl (CR.cons1 rfl (CR.cons1 rfl CR.empty)))) rfl λH2 w2 s2 c2=>?_
 obtain ⟨n3,g3,hp⟩:=ag hp
 obtain ⟨p3,q3,i3,h3,j3⟩:=W.ixo (E:=eI) w2 (i:=0) rfl rfl c2 g3
 refine ai i3 ?_
 have h3:_=[_]:=h3
 subst h3
 refine ai (aG (j3 0 _ rfl)) ?_
 obtain ⟨w4,s4⟩:=w2.pp [] 2
 exact az hp ⟨rfl,w4,(s0.trans (s1.trans (s2.trans s4))),trivial⟩
def cX.Q (H0:Hp) (Ri R0:as2)  (r:Bool) (v:AV) (H':Hp):Prop:=v=(.bool r)/\Out H0 Ri H' (R0) λR=>True
def cX.p (F:Nat) (bQ:Int) (cD:Int):Option (Bool):=(bif (cD==0) then (some true) else ((bif (cD==3) then ((bif (bQ==1) then (some true) else ((bif (cD==1) then (some (bQ==(-1))) else (some false))))) else ((bif (cD==1) then (some (bQ==(-1))) else (some false))))))
theorem cX.P {aa af bV bW bQ cD}  (h0:Inn H R0 λR=>True) {r:Bool} (hp:cX.p F bQ cD=some r):Rt (cX.tw F aa af bV bW bQ cD H) (cX.Q H R0 R0  r):=by
 obtain ⟨w0,_⟩:=h0
 unfold cX.p at hp
 unfold cX.tw cX.twX
 have s0:=w0.rf
 refine aS w0 λH1 w1 s1=>?_
 refine ay hp (λhp=>?_) λhp=>?_
 ·obtain ⟨w2,s2⟩:=w1.pp [] 1
  exact az hp ⟨rfl,w2,(s0.trans (s1.trans s2)),trivial⟩
 ·refine ay hp (λhp=>?_) λhp=>?_
  ·refine lI w1 0 ?_
   refine ay hp (λhp=>?_) λhp=>?_
   ·obtain ⟨w3,s3⟩:=w1.pp [] 1
    exact az hp ⟨rfl,w3,(s0.trans (s1.trans s3)),trivial⟩
   ·refine ay hp (λhp=>?_) λhp=>?_
    ·refine lI w1 0 ?_
     obtain ⟨w4,s4⟩:=w1.pp [] 1
     exact az hp ⟨rfl,w4,(s0.trans (s1.trans s4)),trivial⟩
    ·obtain ⟨w5,s5⟩:=w1.pp [] 1
     exact az hp ⟨rfl,w5,(s0.trans (s1.trans s5)),trivial⟩
  ·refine ay hp (λhp=>?_) λhp=>?_
   ·refine lI w1 0 ?_
    obtain ⟨w6,s6⟩:=w1.pp [] 1
    exact az hp ⟨rfl,w6,(s0.trans (s1.trans s6)),trivial⟩
   ·obtain ⟨w7,s7⟩:=w1.pp [] 1
    exact az hp ⟨rfl,w7,(s0.trans (s1.trans s7)),trivial⟩
def bc.Q (H0:Hp) (Ri R0:as2)  (r:Bool) (v:AV) (H':Hp):Prop:=v=(.bool r)/\Out H0 Ri H' (R0) λR=>True
def bc.S61 (H0:Hp) (Ri R0:as2)  (C:atZ) (pC:at6):Prop:=∀ {pU pV HO mY fB mZ CW pW pX HP dP xz gn gW gj pY pZ HQ},∀ {H:Hp},mY=dP.length->mZ=gj.length->CW=pY.length->(Out H0 Ri H (Rs.blk fB [.sl ⟨pU,mY,pW⟩,.i xz]::Rs.own ⟨pV,mZ,pX⟩ cC.z pZ::Rs.own ⟨HO,CW,HP⟩ cC.z HQ::R0) λR=>ROs (ac eI (ac eI (ac eI (ac eI eI)))) H R ⟨pU,mY,pW⟩ dP/\CR cC H R pZ gj/\CR cC H R HQ pY)->∀ {r:Bool},pC dP gn gj pY gW=some r->Rt (C fB 0 gn ⟨pV,mZ,pX⟩ ⟨HO,CW,HP⟩ gW H) (bc.Q H0 Ri R0  r)
def bc.S3927 (H0:Hp) (Ri R0:as2)  (C:Nat->Nat->Int->Sl->Sl->Int->Nat->Nat->Int->Hp->OA) (pC:List (Int×Int×Int×Int×Int)->Int->List Bool->List Bool->Int->Int->Int->Int->Int->Int->Int->Option (Bool)):Prop:=∀ {HR HS HT CX mD CY CZ f_ HU HV HW oC Vj gV fZ p_ qd qe qf qg gm lm lq HX HY},∀ {H:Hp},CX=oC.length->CY=lm.length->CZ=lq.length->(Out H0 Ri H (Rs.blk mD [.sl ⟨HR,CX,HU⟩,.i Vj]::Rs.own ⟨HS,CY,HV⟩ cC.z HX::Rs.own ⟨HT,CZ,HW⟩ cC.z HY::Rs.blk f_ [.i p_,.i qd,.i qe,.i qf,.i qg]::R0) λR=>ROs (ac eI (ac eI (ac eI (ac eI eI)))) H R ⟨HR,CX,HU⟩ oC/\CR cC H R HX lm/\CR cC H R HY lq)->∀ {r:Bool},pC oC gV lm lq fZ p_ qd qe qf qg gm=some r->Rt (C mD 0 gV ⟨HS,CY,HV⟩ ⟨HT,CZ,HW⟩ fZ f_ 0 gm H) (bc.Q H0 Ri R0  r)
def bc.pl3927 (F:Nat) (ar:at6):Nat->List (Int×Int×Int×Int×Int)->Int->List Bool->List Bool->Int->Int->Int->Int->Int->Int->Int->Option (Bool)
 | 0,_,_,_,_,_,_,_,_,_,_,_=>none
 | k+1,oC,gV,lm,lq,fZ,p_,qd,qe,qf,qg,gm=>(bif (decide (gm<4)) then ((cW.p F p_ qd qe qf gm).bind λr1=>(cR.p F r1 0 (wrap .i64 (gV - 1))).bind λr3=>(bif (!r3) then (some false) else ((cX.p F qg gm).bind λr6=>(bif r6 then ((ix lm r1).bind λn8=>(bif (gt lm n8) then (some false) else ((ix lm r1).bind λn10=>(some (lm.set n10 true)).bind λl11=>bc.pl3927 F ar k oC gV l11 lq fZ p_ qd qe qf qg (wrap .i64 (gm+1))))) else ((ix lq r1).bind λn13=>(bif (gt lq n13) then (some false) else ((ix lq r1).bind λn15=>(some (lq.set n15 true)).bind λl16=>bc.pl3927 F ar k oC gV lm l16 fZ p_ qd qe qf qg (wrap .i64 (gm+1))))))))) else (ar oC gV lm lq (wrap .i64 (fZ+1))))
theorem bc.l3927_P  {C61_:atZ} {ar:at6} (hC61:bc.S61 H0 Ri R0  C61_ ar):∀ k,bc.S3927 H0 Ri R0  (bc.l3927 F (cW.tw F) (cR.tw F) (cX.tw F) C61_ k) (bc.pl3927 F ar k):=by
 intro k
 induction k with
 | zero=>unfold bc.S3927;intros;rename_i hp;cases hp
 | succ k ih=>
  intro HR HS HT CX mD CY CZ f_ HU HV HW oC Vj gV fZ p_ qd qe qf qg gm lm lq HX HY H aiM aiN aiO h0 r hp
  obtain ⟨w0,s0,HZ,xA,xB⟩:=h0
  subst aiM
  subst aiN
  subst aiO
  unfold bc.pl3927 at hp
  unfold bc.l3927
  refine ay hp (λhp=>?_) λhp=>?_
  ·refine lI w0 3 ?_
   refine lI w0 3 ?_
   refine lI w0 3 ?_
   refine lI w0 3 ?_
   refine lI w0 3 ?_
   obtain ⟨r1,e1,hp⟩:=ag hp
   refine aE (cW.P ⟨w0,trivial⟩ e1) ?_
   rintro _ H2 ⟨rfl,w2,s2,_⟩
   refine br ?_
   obtain ⟨r3,e3,hp⟩:=ag hp
   refine aE (cR.P ⟨w2,trivial⟩ e3) ?_
   rintro _ H4 ⟨rfl,w4,s4,_⟩
   refine br ?_
   refine ay hp (λhp=>?_) λhp=>?_
   ·obtain ⟨w5,s5⟩:=w4.pp [] 4
    exact az hp ⟨rfl,w5,(s0.trans (s2.trans (s4.trans s5))),trivial⟩
   ·refine lI w4 3 ?_
    refine lI w4 3 ?_
    refine lI w4 3 ?_
    refine lI w4 3 ?_
    refine lI w4 3 ?_
    obtain ⟨r6,e6,hp⟩:=ag hp
    refine aE (cX.P ⟨w4,trivial⟩ e6) ?_
    rintro _ H7 ⟨rfl,w7,s7,_⟩
    refine br ?_
    refine ay hp (λhp=>?_) λhp=>?_
    ·obtain ⟨n8,g8,hp⟩:=ag hp
     obtain ⟨p8,q8,i8,h8,j8⟩:=W.ixo (E:=cC) w7 (i:=1) rfl rfl (xA.step (s2.trans (s4.trans s7))) g8
     refine ai i8 ?_
     have h8:_=[_]:=h8
     subst h8
     refine ai (wE (j8 0 _ rfl)) ?_
     refine ay hp (λhp=>?_) λhp=>?_
     ·obtain ⟨w9,s9⟩:=w7.pp [] 4
      exact az hp ⟨rfl,w9,(s0.trans (s2.trans (s4.trans (s7.trans s9)))),trivial⟩
     ·obtain ⟨n10,g10,hp⟩:=ag hp
      obtain ⟨p10,q10,i10,h10,j10⟩:=W.ixo (E:=cC) w7 (i:=1) rfl rfl (xA.step (s2.trans (s4.trans s7))) g10
      refine ai i10 ?_
      obtain ⟨l11,e11,hp⟩:=ag hp
      refine dC cC w7 (i:=1) (j:=0) (p:=p10) rfl rfl (xA.step (s2.trans (s4.trans s7))) g10 i10 e11 rfl rfl (λ_ h=>by have h:_=[_]:=h;subst h;exact rfl) λH12 k12 w12 s12 c12=>?_
      exact ih rfl ((cz e11).symm) rfl ⟨w12,(s0.trans (s2.trans (s4.trans (s7.trans s12)))),(HZ.step (s2.trans (s4.trans (s7.trans s12)))),c12,(xB.step (s2.trans (s4.trans (s7.trans s12))))⟩ hp
    ·obtain ⟨n13,g13,hp⟩:=ag hp
     obtain ⟨p13,q13,i13,h13,j13⟩:=W.ixo (E:=cC) w7 (i:=2) rfl rfl (xB.step (s2.trans (s4.trans s7))) g13
     refine ai i13 ?_
     have h13:_=[_]:=h13
     subst h13
     refine ai (wE (j13 0 _ rfl)) ?_
     refine ay hp (λhp=>?_) λhp=>?_
     ·obtain ⟨w14,s14⟩:=w7.pp [] 4
      exact az hp ⟨rfl,w14,(s0.trans (s2.trans (s4.trans (s7.trans s14)))),trivial⟩
     ·obtain ⟨n15,g15,hp⟩:=ag hp
      obtain ⟨p15,q15,i15,h15,j15⟩:=W.ixo (E:=cC) w7 (i:=2) rfl rfl (xB.step (s2.trans (s4.trans s7))) g15
      refine ai i15 ?_
      obtain ⟨l16,e16,hp⟩:=ag hp
      refine dC cC w7 (i:=2) (j:=0) (p:=p15) rfl rfl (xB.step (s2.trans (s4.trans s7))) g15 i15 e16 rfl rfl (λ_ h=>by have h:_=[_]:=h;subst h;exact rfl) λH17 k17 w17 s17 c17=>?_
      exact ih rfl rfl ((cz e16).symm) ⟨w17,(s0.trans (s2.trans (s4.trans (s7.trans s17)))),(HZ.step (s2.trans (s4.trans (s7.trans s17)))),(xA.step (s2.trans (s4.trans (s7.trans s17)))),c17⟩ hp
  ·obtain ⟨w18,s18⟩:=w0.pp [0,1,2] 4
   exact hC61 rfl rfl rfl ⟨w18,(s0.trans s18),(HZ.step s18),(xA.step s18),(xB.step s18)⟩ hp
def bc.pl61 (F:Nat) :Nat->List (Int×Int×Int×Int×Int)->Int->List Bool->List Bool->Int->Option (Bool)
 | 0,_,_,_,_,_=>none
 | k+1,dP,gn,gj,pY,gW=>(bif (decide (gW<(dP.length:Int))) then ((ix dP gW).bind λn1=>(bif (((gt dP n1).2.2.2.2) != 1) then ((bif (((gt dP n1).2.2.2.2) != (-1)) then (some false) else (bc.pl3927 F (bc.pl61 F k) F dP gn gj pY gW ((gt dP n1).1) ((gt dP n1).2.1) ((gt dP n1).2.2.1) ((gt dP n1).2.2.2.1) ((gt dP n1).2.2.2.2) 0))) else (bc.pl3927 F (bc.pl61 F k) F dP gn gj pY gW ((gt dP n1).1) ((gt dP n1).2.1) ((gt dP n1).2.2.1) ((gt dP n1).2.2.2.1) ((gt dP n1).2.2.2.2) 0))) else (some true))
theorem bc.l61_P  :∀ k,bc.S61 H0 Ri R0  (bc.l61 F (cW.tw F) (cR.tw F) (cX.tw F)  k) (bc.pl61 F  k):=by
 intro k
 induction k with
 | zero=>unfold bc.S61;intros;rename_i hp;cases hp
 | succ k ih=>
  intro pU pV HO mY fB mZ CW pW pX HP dP xz gn gW gj pY pZ HQ H H_ Ia aiP h0 r hp
  obtain ⟨w0,s0,vP,vQ,Vk⟩:=h0
  subst H_
  subst Ia
  subst aiP
  unfold bc.pl61 at hp
  unfold bc.l61
  refine lSl w0 0 ?_
  refine ay hp (λhp=>?_) λhp=>?_
  ·refine lSl w0 0 ?_
   obtain ⟨n1,g1,hp⟩:=ag hp
   obtain ⟨p1,q1,i1,h1,j1⟩:=ROs.ixr vP rfl g1
   refine ai i1 ?_
   obtain ⟨_,_,rfl,rfl,_,_,rfl,rfl,_,_,rfl,rfl,_,_,rfl,rfl,rfl⟩:=h1
   refine ai (aG (j1 0 _ rfl)) ?_
   refine ai (aG (j1 1 _ rfl)) ?_
   refine ai (aG (j1 2 _ rfl)) ?_
   refine ai (aG (j1 3 _ rfl)) ?_
   refine ai (aG (j1 4 _ rfl)) ?_
   refine aS w0 λH2 w2 s2=>?_
   refine aq w2 0 λH3 w3 s3=>?_
   refine aq w3 0 λH4 w4 s4=>?_
   refine aq w4 0 λH5 w5 s5=>?_
   refine aq w5 0 λH6 w6 s6=>?_
   refine aq w6 0 λH7 w7 s7=>?_
   refine lI w7 0 ?_
   refine ay hp (λhp=>?_) λhp=>?_
   ·refine lI w7 0 ?_
    refine ay hp (λhp=>?_) λhp=>?_
    ·obtain ⟨w8,s8⟩:=w7.pp [] 4
     exact az hp ⟨rfl,w8,(s0.trans (s2.trans (s3.trans (s4.trans (s5.trans (s6.trans (s7.trans s8))))))),trivial⟩
    ·obtain ⟨w9,s9⟩:=w7.pp [1,2,3,0] 4
     exact bc.l3927_P (@ih) F rfl rfl rfl ⟨w9,(s0.trans (s2.trans (s3.trans (s4.trans (s5.trans (s6.trans (s7.trans s9))))))),(vP.step (s2.trans (s3.trans (s4.trans (s5.trans (s6.trans (s7.trans s9))))))),(vQ.step (s2.trans (s3.trans (s4.trans (s5.trans (s6.trans (s7.trans s9))))))),(Vk.step (s2.trans (s3.trans (s4.trans (s5.trans (s6.trans (s7.trans s9)))))))⟩ hp
   ·obtain ⟨w10,s10⟩:=w7.pp [1,2,3,0] 4
    exact bc.l3927_P (@ih) F rfl rfl rfl ⟨w10,(s0.trans (s2.trans (s3.trans (s4.trans (s5.trans (s6.trans (s7.trans s10))))))),(vP.step (s2.trans (s3.trans (s4.trans (s5.trans (s6.trans (s7.trans s10))))))),(vQ.step (s2.trans (s3.trans (s4.trans (s5.trans (s6.trans (s7.trans s10))))))),(Vk.step (s2.trans (s3.trans (s4.trans (s5.trans (s6.trans (s7.trans s10)))))))⟩ hp
  ·obtain ⟨w11,s11⟩:=w0.pp [] 3
   exact az hp ⟨rfl,w11,(s0.trans s11),trivial⟩
def bc.p (F:Nat) (ah:ata):Option (Bool):=(mkn (wrap .i64 (2 * (ah.length:Int))) false).bind λl2=>(mkn (wrap .i64 (2 * (ah.length:Int))) false).bind λl4=>bc.pl61 F F ah (wrap .i64 (2 * (ah.length:Int))) l2 l4 0
theorem bc.P {aB ak aC ah af} (ba:ak=ah.length) (h0:Inn H R0 λR=>ROs (ac eI (ac eI (ac eI (ac eI eI)))) H R ⟨aB,ak,aC⟩ ah) {r:Bool} (hp:bc.p F ah=some r):Rt (bc.tw F ⟨aB,ak,aC⟩ af H) (bc.Q H R0 R0  r):=by
 obtain ⟨w0,aO⟩:=h0
 subst ba
 unfold bc.p at hp
 unfold bc.tw bc.twX
 have s0:=w0.rf
 refine aS w0 λH1 w1 s1=>?_
 refine lSl w1 0 ?_
 obtain ⟨l2,e2,hp⟩:=ag hp
 refine ka cC false w1 rfl rfl rfl e2 λH3 k3 w3 s3 c3=>?_
 obtain ⟨l4,e4,hp⟩:=ag hp
 refine ka cC false w3 rfl rfl rfl e4 λH5 k5 w5 s5 c5=>?_
 obtain ⟨w6,s6⟩:=w5.pp [2,1,0] 3
 exact bc.l61_P F rfl rfl rfl ⟨w6,(s0.trans (s1.trans (s3.trans (s5.trans s6)))),(aO.step (s1.trans (s3.trans (s5.trans s6)))),(c3.step (s5.trans s6)),(c5.step s6)⟩ hp
def aK.Q (H0:Hp) (Ri R0:as2)  (r:atp) (v:AV) (H':Hp):Prop:=v=(.tup [(.i r.1),(.i r.2)])/\Out H0 Ri H' (R0) λR=>True
def aK.S13 (H0:Hp) (Ri R0:as2)  (C:atF) (pC:atL):Prop:=∀ {ct Vl kl fD Ib C_ eA Ic qh},∀ {H:Hp},C_=qh.length->(Out H0 Ri H (Rs.blk eA [.sl ⟨Ib,C_,Ic⟩,.i Vl]::R0) λR=>ROs (ac eI (ac eI (ac eI (ac eI eI)))) H R ⟨Ib,C_,Ic⟩ qh)->∀ {r:atp},pC ct fD qh kl=some r->Rt (C ct fD eA 0 kl H) (aK.Q H0 Ri R0  r)
def aK.S213 (H0:Hp) (Ri R0:as2)  (C:Int->Bool->Nat->Nat->Int->Int->Hp->OA) (pC:Int->Bool->List (Int×Int×Int×Int×Int)->Int->Int->Option (Int×Int)):Prop:=∀ {gY Vm fC cZ gZ Id Da kj Ie iz},∀ {H:Hp},Da=iz.length->(Out H0 Ri H (Rs.blk kj [.sl ⟨Id,Da,Ie⟩,.i Vm]::R0) λR=>ROs (ac eI (ac eI (ac eI (ac eI eI)))) H R ⟨Id,Da,Ie⟩ iz)->∀ {r:atp},pC gY gZ iz fC cZ=some r->Rt (C gY gZ kj 0 fC cZ H) (aK.Q H0 Ri R0  r)
def aK.pj3 (F:Nat) (gS:atL) (nB:Int) (rX:Bool) (xC:ata) (rZ:Int):Option (Int×Int):=gS nB rX xC (wrap .i64 (rZ+1))
theorem aK.j3_P  {C13_:atF} {gS:atL} (hC13:aK.S13 H0 Ri R0  C13_ gS) {nB aiQ rZ rX Vn If rY Vo xC} (aiR:If=xC.length) (h0:Out H0 Ri H (Rs.blk rY [.sl ⟨Vn,If,Vo⟩,.i aiQ]::R0) λR=>ROs (ac eI (ac eI (ac eI (ac eI eI)))) H R ⟨Vn,If,Vo⟩ xC) {r:atp} (hp:aK.pj3 F gS nB rX xC rZ=some r):Rt (aK.j3 F (cW.tw F) (cX.tw F) C13_ nB rX rY 0 rZ H) (aK.Q H0 Ri R0  r):=by
 obtain ⟨w0,s0,aiS⟩:=h0
 subst aiR
 unfold aK.pj3 at hp
 unfold aK.j3
 exact hC13 rfl ⟨w0,s0,aiS⟩ hp
def aK.pj4 (F:Nat) (gS:atL) (gX:Int) (r_:Bool) (xD:ata) (sb:Int):Option (Int×Int):=aK.pj3 F gS gX r_ xD sb
theorem aK.j4_P  {C13_:atF} {gS:atL} (hC13:aK.S13 H0 Ri R0  C13_ gS) {gX aiT sb r_ Vp Ig AD Vq xD} (aiU:Ig=xD.length) (h0:Out H0 Ri H (Rs.blk AD [.sl ⟨Vp,Ig,Vq⟩,.i aiT]::R0) λR=>ROs (ac eI (ac eI (ac eI (ac eI eI)))) H R ⟨Vp,Ig,Vq⟩ xD) {r:atp} (hp:aK.pj4 F gS gX r_ xD sb=some r):Rt (aK.j4 F (cW.tw F) (cX.tw F) C13_ gX r_ AD 0 sb H) (aK.Q H0 Ri R0  r):=by
 obtain ⟨w0,s0,aiV⟩:=h0
 subst aiU
 unfold aK.pj4 at hp
 unfold aK.j4
 exact aK.j3_P (@hC13) rfl ⟨w0,s0,aiV⟩ hp
def aK.pl213 (F:Nat) (gS:atL):Nat->Int->Bool->List (Int×Int×Int×Int×Int)->Int->Int->Option (Int×Int)
 | 0,_,_,_,_,_=>none
 | k+1,gY,gZ,iz,fC,cZ=>(bif (decide (cZ<4)) then ((ix iz fC).bind λn1=>(cW.p F ((gt iz n1).1) ((gt iz n1).2.1) ((gt iz n1).2.2.1) ((gt iz n1).2.2.2.1) cZ).bind λr2=>(bif (r2==gY) then ((ix iz fC).bind λn4=>(cX.p F ((gt iz n4).2.2.2.2) cZ).bind λr5=>(bif (r5==gZ) then (some (fC,cZ)) else (aK.pl213 F gS k gY gZ iz fC (wrap .i64 (cZ+1))))) else (aK.pl213 F gS k gY gZ iz fC (wrap .i64 (cZ+1))))) else (aK.pj4 F gS gY gZ iz fC))
theorem aK.l213_P  {C13_:atF} {gS:atL} (hC13:aK.S13 H0 Ri R0  C13_ gS):∀ k,aK.S213 H0 Ri R0  (aK.l213 F (cW.tw F) (cX.tw F) C13_ k) (aK.pl213 F gS k):=by
 intro k
 induction k with
 | zero=>unfold aK.S213;intros;rename_i hp;cases hp
 | succ k ih=>
  intro gY Vm fC cZ gZ Id Da kj Ie iz H aiW h0 r hp
  obtain ⟨w0,s0,xE⟩:=h0
  subst aiW
  unfold aK.pl213 at hp
  unfold aK.l213
  refine ay hp (λhp=>?_) λhp=>?_
  ·refine lSl w0 0 ?_
   obtain ⟨n1,g1,hp⟩:=ag hp
   obtain ⟨p1,q1,i1,h1,j1⟩:=ROs.ixr xE rfl g1
   refine ai i1 ?_
   obtain ⟨_,_,rfl,rfl,_,_,rfl,rfl,_,_,rfl,rfl,_,_,rfl,rfl,rfl⟩:=h1
   refine ai (aG (j1 0 _ rfl)) ?_
   refine ai (aG (j1 1 _ rfl)) ?_
   refine ai (aG (j1 2 _ rfl)) ?_
   refine ai (aG (j1 3 _ rfl)) ?_
   refine ai (aG (j1 4 _ rfl)) ?_
   obtain ⟨r2,e2,hp⟩:=ag hp
   refine aE (cW.P ⟨w0,trivial⟩ e2) ?_
   rintro _ H3 ⟨rfl,w3,s3,_⟩
   refine br ?_
   refine ay hp (λhp=>?_) λhp=>?_
   ·refine lSl w3 0 ?_
    obtain ⟨n4,g4,hp⟩:=ag hp
    obtain ⟨p4,q4,i4,h4,j4⟩:=ROs.ixr (xE.step s3) rfl g4
    refine ai i4 ?_
    obtain ⟨_,_,rfl,rfl,_,_,rfl,rfl,_,_,rfl,rfl,_,_,rfl,rfl,rfl⟩:=h4
    refine ai (aG (j4 0 _ rfl)) ?_
    refine ai (aG (j4 1 _ rfl)) ?_
    refine ai (aG (j4 2 _ rfl)) ?_
    refine ai (aG (j4 3 _ rfl)) ?_
    refine ai (aG (j4 4 _ rfl)) ?_
    obtain ⟨r5,e5,hp⟩:=ag hp
    refine aE (cX.P ⟨w3,trivial⟩ e5) ?_
    rintro _ H6 ⟨rfl,w6,s6,_⟩
    refine br ?_
    refine ay hp (λhp=>?_) λhp=>?_
    ·obtain ⟨w7,s7⟩:=w6.pp [] 1
     exact az hp ⟨rfl,w7,(s0.trans (s3.trans (s6.trans s7))),trivial⟩
    ·exact ih rfl ⟨w6,(s0.trans (s3.trans s6)),(xE.step (s3.trans s6))⟩ hp
   ·exact ih rfl ⟨w3,(s0.trans s3),(xE.step s3)⟩ hp
  ·exact aK.j4_P (@hC13) rfl ⟨w0,s0,xE⟩ hp
def aK.pl13 (F:Nat) :Nat->Int->Bool->List (Int×Int×Int×Int×Int)->Int->Option (Int×Int)
 | 0,_,_,_,_=>none
 | k+1,ct,fD,qh,kl=>(bif (decide (kl<(qh.length:Int))) then (aK.pl213 F (aK.pl13 F k) F ct fD qh kl 0) else (some ((-1),(-1))))
theorem aK.l13_P  :∀ k,aK.S13 H0 Ri R0  (aK.l13 F (cW.tw F) (cX.tw F)  k) (aK.pl13 F  k):=by
 intro k
 induction k with
 | zero=>unfold aK.S13;intros;rename_i hp;cases hp
 | succ k ih=>
  intro ct Vl kl fD Ib C_ eA Ic qh H aiX h0 r hp
  obtain ⟨w0,s0,aiY⟩:=h0
  subst aiX
  unfold aK.pl13 at hp
  unfold aK.l13
  refine lSl w0 0 ?_
  refine ay hp (λhp=>?_) λhp=>?_
  ·exact aK.l213_P (@ih) F rfl ⟨w0,s0,aiY⟩ hp
  ·obtain ⟨w1,s1⟩:=w0.pp [] 1
   exact az hp ⟨rfl,w1,(s0.trans s1),trivial⟩
def aK.p (F:Nat) (ah:ata) (au:Int) (iL:Bool):Option (Int×Int):=aK.pl13 F F au iL ah 0
theorem aK.P {aB ak aC ah af au iL} (ba:ak=ah.length) (h0:Inn H R0 λR=>ROs (ac eI (ac eI (ac eI (ac eI eI)))) H R ⟨aB,ak,aC⟩ ah) {r:atp} (hp:aK.p F ah au iL=some r):Rt (aK.tw F ⟨aB,ak,aC⟩ af au iL H) (aK.Q H R0 R0  r):=by
 obtain ⟨w0,aO⟩:=h0
 subst ba
 unfold aK.p at hp
 unfold aK.tw aK.twX
 have s0:=w0.rf
 refine aS w0 λH1 w1 s1=>?_
 exact aK.l13_P F rfl ⟨w1,(s0.trans s1),(aO.step s1)⟩ hp
def dc.Q (H0:Hp) (Ri R0:as2)  (r:Int) (v:AV) (H':Hp):Prop:=v=(.i r)/\Out H0 Ri H' (R0) λR=>True
def dc.p (F:Nat) (ah:ata) (au:Int):Option (Int):=(ix ah (wrap .i64 (Int.tdiv au 4))).bind λn2=>(cW.p F ((gt ah n2).1) ((gt ah n2).2.1) ((gt ah n2).2.2.1) ((gt ah n2).2.2.2.1) (Int.tmod (wrap .i64 ((Int.tmod au 4)+1)) 4)).bind λr9=>(cX.p F ((gt ah n2).2.2.2.2) (Int.tmod (wrap .i64 ((Int.tmod au 4)+1)) 4)).bind λr12=>(aK.p F ah r9 (!r12)).bind λr15=>some (wrap .i64 ((wrap .i64 (4 * r15.1))+r15.2))
theorem dc.P {aB ak aC ah af au} (ba:ak=ah.length) (h0:Inn H R0 λR=>ROs (ac eI (ac eI (ac eI (ac eI eI)))) H R ⟨aB,ak,aC⟩ ah) {r:Int} (hp:dc.p F ah au=some r):Rt (dc.tw F ⟨aB,ak,aC⟩ af au H) (dc.Q H R0 R0  r):=by
 obtain ⟨w0,aO⟩:=h0
 subst ba
 unfold dc.p at hp
 unfold dc.tw dc.twX
 have s0:=w0.rf
 refine aS w0 λH1 w1 s1=>?_
 refine lSl w1 0 ?_
 obtain ⟨n2,g2,hp⟩:=ag hp
 obtain ⟨p2,q2,i2,h2,j2⟩:=ROs.ixr (aO.step s1) rfl g2
 refine ai i2 ?_
 obtain ⟨_,_,rfl,rfl,_,_,rfl,rfl,_,_,rfl,rfl,_,_,rfl,rfl,rfl⟩:=h2
 refine ai (aG (j2 0 _ rfl)) ?_
 refine ai (aG (j2 1 _ rfl)) ?_
 refine ai (aG (j2 2 _ rfl)) ?_
 refine ai (aG (j2 3 _ rfl)) ?_
 refine ai (aG (j2 4 _ rfl)) ?_
 refine aS w1 λH3 w3 s3=>?_
 refine aq w3 0 λH4 w4 s4=>?_
 refine aq w4 0 λH5 w5 s5=>?_
 refine aq w5 0 λH6 w6 s6=>?_
 refine aq w6 0 λH7 w7 s7=>?_
 refine aq w7 0 λH8 w8 s8=>?_
 refine lSl w8 1 ?_
 refine lI w8 1 ?_
 refine lI w8 0 ?_
 refine lI w8 0 ?_
 refine lI w8 0 ?_
 refine lI w8 0 ?_
 refine lI w8 0 ?_
 obtain ⟨r9,e9,hp⟩:=ag hp
 refine aE (cW.P ⟨w8,trivial⟩ e9) ?_
 rintro _ H10 ⟨rfl,w10,s10,_⟩
 refine br ?_
 refine eK (W.cons_of (Rn:=[]) w8 w10 s10) ?_
 refine lI w10 0 ?_
 refine lI w10 0 ?_
 refine lI w10 0 ?_
 refine lI w10 0 ?_
 refine lI w10 0 ?_
 obtain ⟨r12,e12,hp⟩:=ag hp
 refine aE (cX.P ⟨w10,trivial⟩ e12) ?_
 rintro _ H13 ⟨rfl,w13,s13,_⟩
 refine br ?_
 refine eK (W.cons_of (Rn:=[]) w10 w13 s13) ?_
 obtain ⟨r15,e15,hp⟩:=ag hp
 refine aE (aK.P rfl ⟨w13,(aO.step (s1.trans (s3.trans (s4.trans (s5.trans (s6.trans (s7.trans (s8.trans (s10.trans s13)))))))))⟩ e15) ?_
 rintro _ H16 ⟨rfl,w16,s16,_⟩
 refine br (br (br (br (br ?_))))
 obtain ⟨w17,s17⟩:=w16.pp [] 2
 exact az hp ⟨rfl,w17,(s0.trans (s1.trans (s3.trans (s4.trans (s5.trans (s6.trans (s7.trans (s8.trans (s10.trans (s13.trans (s16.trans s17))))))))))),trivial⟩
def aP.Q (H0:Hp) (Ri R0:as2)  (r:ate) (v:AV) (H':Hp):Prop:=∃ o0a:ON,∃ o0n:Nat,∃ o0c:Cap,∃ o0k:List AV,v=(.sl ⟨o0a,o0n,o0c⟩)/\o0n=(r).length/\Out H0 Ri H' (Rs.own ⟨o0a,o0n,o0c⟩ (eSl eI).z o0k::R0) λR=>CR (eSl eI) H' R o0k (r)
def aP.S61 (H0:Hp) (Ri R0:as2)  (C:atr) (pC:atz):Prop:=∀ {pU Ih pV mY fB Db mZ pW Ii pX dP xz eZ oD Ij pZ gj},∀ {H:Hp},mY=dP.length->Db=oD.length->mZ=gj.length->(Out H0 Ri H (Rs.blk fB [.sl ⟨pU,mY,pW⟩,.i xz]::Rs.own ⟨Ih,Db,Ii⟩ (eSl eI).z Ij::Rs.own ⟨pV,mZ,pX⟩ cC.z pZ::R0) λR=>ROs (ac eI (ac eI (ac eI (ac eI eI)))) H R ⟨pU,mY,pW⟩ dP/\CR (eSl eI) H R Ij oD/\CR cC H R pZ gj)->∀ {r:ate},pC dP oD gj eZ=some r->Rt (C fB 0 ⟨Ih,Db,Ii⟩ ⟨pV,mZ,pX⟩ eZ H) (aP.Q H0 Ri R0  r)
def aP.pj4 (F:Nat) (ar:atz) (lr:ata) (lu:ate) (lw:atU) (sd:Int):Option (List (List Int)):=ar lr lu lw (wrap .i64 (sd+1))
theorem aP.j4_P  {C61_:atr} {ar:atz} (hC61:aP.S61 H0 Ri R0  C61_ ar) {xF xG xH qi fp qj qk xI xJ xK lr Ik sd lu xL xM lw} (Il:qi=lr.length) (Im:qj=lu.length) (In:qk=lw.length) (h0:Out H0 Ri H (Rs.blk fp [.sl ⟨xF,qi,xI⟩,.i Ik]::Rs.own ⟨xG,qj,xJ⟩ (eSl eI).z xL::Rs.own ⟨xH,qk,xK⟩ cC.z xM::R0) λR=>ROs (ac eI (ac eI (ac eI (ac eI eI)))) H R ⟨xF,qi,xI⟩ lr/\CR (eSl eI) H R xL lu/\CR cC H R xM lw) {r:ate} (hp:aP.pj4 F ar lr lu lw sd=some r):Rt (aP.j4 F (dc.tw F) C61_ fp 0 ⟨xG,qj,xJ⟩ ⟨xH,qk,xK⟩ sd H) (aP.Q H0 Ri R0  r):=by
 obtain ⟨w0,s0,Io,Ip,Iq⟩:=h0
 subst Il
 subst Im
 subst In
 unfold aP.pj4 at hp
 unfold aP.j4
 exact hC61 rfl rfl rfl ⟨w0,s0,Io,Ip,Iq⟩ hp
def aP.S7853 (H0:Hp) (Ri R0:as2)  (C:Nat->Nat->Sl->Sl->Int->Sl->Int->Hp->OA) (pC:List (Int×Int×Int×Int×Int)->List (List Int)->List Bool->Int->List Int->Int->Option (List (List Int))):Prop:=∀ {Ir Is It Iu Dc lM Dd De Df Iv Iw Ix Iy oE Vr ko gp qn Iz IA IB l_ qo},∀ {H:Hp},Dc=oE.length->Dd=qn.length->De=l_.length->Df=qo.length->(Out H0 Ri H (Rs.blk lM [.sl ⟨Ir,Dc,Iv⟩,.i Vr]::Rs.own ⟨Is,Dd,Iw⟩ (eSl eI).z Iz::Rs.own ⟨It,De,Ix⟩ cC.z IA::Rs.own ⟨Iu,Df,Iy⟩ eI.z IB::R0) λR=>ROs (ac eI (ac eI (ac eI (ac eI eI)))) H R ⟨Ir,Dc,Iv⟩ oE/\CR (eSl eI) H R Iz qn/\CR cC H R IA l_/\CR eI H R IB qo)->∀ {r:ate},pC oE qn l_ ko qo gp=some r->Rt (C lM 0 ⟨Is,Dd,Iw⟩ ⟨It,De,Ix⟩ ko ⟨Iu,Df,Iy⟩ gp H) (aP.Q H0 Ri R0  r)
def aP.pj5 (F:Nat) (ar:atz) (xN:ata) (xO:ate) (xP:atU) (se:Int):Option (List (List Int)):=ar xN xO xP (wrap .i64 (se+1))
theorem aP.j5_P  {C61_:atr} {ar:atz} (hC61:aP.S61 H0 Ri R0  C61_ ar) {Vs Vt Vu IC AF ID IE Vv Vw Vx xN aiZ se xO Vy Vz xP} (ai0:IC=xN.length) (ai1:ID=xO.length) (ai2:IE=xP.length) (h0:Out H0 Ri H (Rs.blk AF [.sl ⟨Vs,IC,Vv⟩,.i aiZ]::Rs.own ⟨Vt,ID,Vw⟩ (eSl eI).z Vy::Rs.own ⟨Vu,IE,Vx⟩ cC.z Vz::R0) λR=>ROs (ac eI (ac eI (ac eI (ac eI eI)))) H R ⟨Vs,IC,Vv⟩ xN/\CR (eSl eI) H R Vy xO/\CR cC H R Vz xP) {r:ate} (hp:aP.pj5 F ar xN xO xP se=some r):Rt (aP.j5 F (dc.tw F) C61_ AF 0 ⟨Vt,ID,Vw⟩ ⟨Vu,IE,Vx⟩ se H) (aP.Q H0 Ri R0  r):=by
 obtain ⟨w0,s0,ai3,ai4,ai5⟩:=h0
 subst ai0
 subst ai1
 subst ai2
 unfold aP.pj5 at hp
 unfold aP.j5
 exact hC61 rfl rfl rfl ⟨w0,s0,ai3,ai4,ai5⟩ hp
def aP.pj6 (F:Nat) (ar:atz) (xQ:ata) (xR:ate) (xS:atU) (kn:Int) (qp:as5):Option (List (List Int)):=(apn xR ([qp]:List (List Int))).bind λl3=>aP.pj5 F ar xQ l3 xS kn
theorem aP.j6_P  {C61_:atr} {ar:atz} (hC61:aP.S61 H0 Ri R0  C61_ ar) {VA VB VC VD IF AG IG IH II VE VF VG VH xQ ai6 kn xR VI VJ VK xS qp} (ai7:IF=xQ.length) (ai8:IG=xR.length) (ai9:IH=xS.length) (ai_:II=qp.length) (h0:Out H0 Ri H (Rs.blk AG [.sl ⟨VA,IF,VE⟩,.i ai6]::Rs.own ⟨VB,IG,VF⟩ (eSl eI).z VI::Rs.own ⟨VC,IH,VG⟩ cC.z VJ::Rs.own ⟨VD,II,VH⟩ eI.z VK::R0) λR=>ROs (ac eI (ac eI (ac eI (ac eI eI)))) H R ⟨VA,IF,VE⟩ xQ/\CR (eSl eI) H R VI xR/\CR cC H R VJ xS/\CR eI H R VK qp) {r:ate} (hp:aP.pj6 F ar xQ xR xS kn qp=some r):Rt (aP.j6 F (dc.tw F) C61_ AG 0 ⟨VB,IG,VF⟩ ⟨VC,IH,VG⟩ kn ⟨VD,II,VH⟩ H) (aP.Q H0 Ri R0  r):=by
 obtain ⟨w0,s0,aja,ajb,ajc,ajd⟩:=h0
 subst ai7
 subst ai8
 subst ai9
 subst ai_
 unfold aP.pj6 at hp
 unfold aP.j6
 obtain ⟨w1,s1,f1⟩:=w0.frz (i:=3) eI rfl ajd
 refine cK (eSl eI) w1 (n:=1) (l:=([qp]:List (List Int))) rfl (CR.cons1 ⟨_,rfl,f1⟩ CR.empty) rfl λH2 w2 s2 c2=>?_
 refine ai (w2.rowo (i:=0) rfl) ?_
 obtain ⟨l3,e3,hp⟩:=ag hp
 refine fz (eSl eI) w2 (i:=2) rfl rfl (ajb.step (s1.trans s2)) c2 (show 1=List.length ([qp]:List (List Int)) from rfl) rfl e3 λa4 d4 H4 w4 s4 c4 x4=>?_
 obtain ⟨w5,s5⟩:=w4.pp [1,2,3] 4
 exact aP.j5_P (@hC61) rfl rfl rfl ⟨w5,(s0.trans (s1.trans (s2.trans (s4.trans s5)))),(aja.step (s1.trans (s2.trans (s4.trans s5)))),(c4.step s5),(ajc.step (s1.trans (s2.trans (s4.trans s5))))⟩ hp
def aP.pl7853 (F:Nat) (ar:atz):Nat->List (Int×Int×Int×Int×Int)->List (List Int)->List Bool->Int->List Int->Int->Option (List (List Int))
 | 0,_,_,_,_,_,_=>none
 | k+1,oE,qn,l_,ko,qo,gp=>(ix l_ gp).bind λn1=>(bif (!(gt l_ n1)) then ((ix l_ gp).bind λn2=>(some (l_.set n2 true)).bind λl3=>(apn qo ([gp]:List Int)).bind λl6=>(dc.p F oE gp).bind λr8=>aP.pl7853 F ar k oE qn l3 ko l6 r8) else (aP.pj6 F ar oE qn l_ ko qo))
theorem aP.l7853_P  {C61_:atr} {ar:atz} (hC61:aP.S61 H0 Ri R0  C61_ ar):∀ k,aP.S7853 H0 Ri R0  (aP.l7853 F (dc.tw F) C61_ k) (aP.pl7853 F ar k):=by
 intro k
 induction k with
 | zero=>unfold aP.S7853;intros;rename_i hp;cases hp
 | succ k ih=>
  intro Ir Is It Iu Dc lM Dd De Df Iv Iw Ix Iy oE Vr ko gp qn Iz IA IB l_ qo H aje ajf ajg ajh h0 r hp
  obtain ⟨w0,s0,IJ,VL,Dg,VM⟩:=h0
  subst aje
  subst ajf
  subst ajg
  subst ajh
  unfold aP.pl7853 at hp
  unfold aP.l7853
  obtain ⟨n1,g1,hp⟩:=ag hp
  obtain ⟨p1,q1,i1,h1,j1⟩:=W.ixo (E:=cC) w0 (i:=2) rfl rfl Dg g1
  refine ai i1 ?_
  have h1:_=[_]:=h1
  subst h1
  refine ai (wE (j1 0 _ rfl)) ?_
  refine ay hp (λhp=>?_) λhp=>?_
  ·obtain ⟨n2,g2,hp⟩:=ag hp
   obtain ⟨p2,q2,i2,h2,j2⟩:=W.ixo (E:=cC) w0 (i:=2) rfl rfl Dg g2
   refine ai i2 ?_
   obtain ⟨l3,e3,hp⟩:=ag hp
   refine dC cC w0 (i:=2) (j:=0) (p:=p2) rfl rfl Dg g2 i2 e3 rfl rfl (λ_ h=>by have h:_=[_]:=h;subst h;exact rfl) λH4 k4 w4 s4 c4=>?_
   refine cK eI w4 (n:=1) (l:=([gp]:List Int)) rfl (CR.cons1 rfl CR.empty) rfl λH5 w5 s5 c5=>?_
   refine ai (w5.rowo (i:=0) rfl) ?_
   obtain ⟨l6,e6,hp⟩:=ag hp
   refine fz eI w5 (i:=4) rfl rfl (VM.step (s4.trans s5)) c5 (show 1=List.length ([gp]:List Int) from rfl) rfl e6 λa7 d7 H7 w7 s7 c7 x7=>?_
   refine lSl w7 1 ?_
   refine lI w7 1 ?_
   obtain ⟨r8,e8,hp⟩:=ag hp
   refine aE (dc.P rfl ⟨w7,(IJ.step (s4.trans (s5.trans s7)))⟩ e8) ?_
   rintro _ H9 ⟨rfl,w9,s9,_⟩
   refine br ?_
   obtain ⟨w10,s10⟩:=w9.pp [1,2,3,4] 5
   exact ih rfl rfl ((cz e3).symm) rfl ⟨w10,(s0.trans (s4.trans (s5.trans (s7.trans (s9.trans s10))))),(IJ.step (s4.trans (s5.trans (s7.trans (s9.trans s10))))),(VL.step (s4.trans (s5.trans (s7.trans (s9.trans s10))))),(c4.step (s5.trans (s7.trans (s9.trans s10)))),(c7.step (s9.trans s10))⟩ hp
  ·exact aP.j6_P (@hC61) rfl rfl rfl rfl ⟨w0,s0,IJ,VL,Dg,VM⟩ hp
def aP.pl61 (F:Nat) :Nat->List (Int×Int×Int×Int×Int)->List (List Int)->List Bool->Int->Option (List (List Int))
 | 0,_,_,_,_=>none
 | k+1,dP,oD,gj,eZ=>(bif (decide (eZ<(gj.length:Int))) then ((ix gj eZ).bind λn1=>(bif (gt gj n1) then (aP.pj4 F (aP.pl61 F k) dP oD gj eZ) else (aP.pl7853 F (aP.pl61 F k) F dP oD gj eZ ([]:List Int) eZ))) else (some oD))
theorem aP.l61_P  :∀ k,aP.S61 H0 Ri R0  (aP.l61 F (dc.tw F)  k) (aP.pl61 F  k):=by
 intro k
 induction k with
 | zero=>unfold aP.S61;intros;rename_i hp;cases hp
 | succ k ih=>
  intro pU Ih pV mY fB Db mZ pW Ii pX dP xz eZ oD Ij pZ gj H H_ aji Ia h0 r hp
  obtain ⟨w0,s0,vP,IK,vQ⟩:=h0
  subst H_
  subst aji
  subst Ia
  unfold aP.pl61 at hp
  unfold aP.l61
  refine ay hp (λhp=>?_) λhp=>?_
  ·obtain ⟨n1,g1,hp⟩:=ag hp
   obtain ⟨p1,q1,i1,h1,j1⟩:=W.ixo (E:=cC) w0 (i:=2) rfl rfl vQ g1
   refine ai i1 ?_
   have h1:_=[_]:=h1
   subst h1
   refine ai (wE (j1 0 _ rfl)) ?_
   refine ay hp (λhp=>?_) λhp=>?_
   ·exact aP.j4_P (@ih) rfl rfl rfl ⟨w0,s0,vP,IK,vQ⟩ hp
   ·refine cK eI w0 (n:=0) (l:=([]:List Int)) rfl CR.empty rfl λH2 w2 s2 c2=>?_
    obtain ⟨w3,s3⟩:=w2.pp [1,2,3,0] 4
    exact aP.l7853_P (@ih) F rfl rfl rfl (show 0=List.length ([]:List Int) from rfl) ⟨w3,(s0.trans (s2.trans s3)),(vP.step (s2.trans s3)),(IK.step (s2.trans s3)),(vQ.step (s2.trans s3)),(c2.step s3)⟩ hp
  ·obtain ⟨w4,s4⟩:=w0.pp [1] 3
   exact az hp ⟨_,_,_,_,rfl,rfl,w4,(s0.trans s4),(IK.step s4)⟩
def aP.p (F:Nat) (ah:ata):Option (List (List Int)):=(mkn (wrap .i64 (4 * (ah.length:Int))) false).bind λl3=>aP.pl61 F F ah ([]:List (List Int)) l3 0
theorem aP.P {aB ak aC ah af} (ba:ak=ah.length) (h0:Inn H R0 λR=>ROs (ac eI (ac eI (ac eI (ac eI eI)))) H R ⟨aB,ak,aC⟩ ah) {r:ate} (hp:aP.p F ah=some r):Rt (aP.tw F ⟨aB,ak,aC⟩ af H) (aP.Q H R0 R0  r):=by
 obtain ⟨w0,aO⟩:=h0
 subst ba
 unfold aP.p at hp
 unfold aP.tw aP.twX
 have s0:=w0.rf
 refine aS w0 λH1 w1 s1=>?_
 refine cK (eSl eI) w1 (n:=0) (l:=([]:List (List Int))) rfl CR.empty rfl λH2 w2 s2 c2=>?_
 refine lSl w2 1 ?_
 obtain ⟨l3,e3,hp⟩:=ag hp
 refine ka cC false w2 rfl rfl rfl e3 λH4 k4 w4 s4 c4=>?_
 obtain ⟨w5,s5⟩:=w4.pp [2,1,0] 3
 exact aP.l61_P F rfl (show 0=List.length ([]:List (List Int)) from rfl) rfl ⟨w5,(s0.trans (s1.trans (s2.trans (s4.trans s5)))),(aO.step (s1.trans (s2.trans (s4.trans s5)))),(c2.step (s4.trans s5)),(c4.step s5)⟩ hp
def aD.Q (H0:Hp) (Ri R0:as2)  (r:as5) (v:AV) (H':Hp):Prop:=∃ o0a:ON,∃ o0n:Nat,∃ o0c:Cap,∃ o0k:List AV,v=(.sl ⟨o0a,o0n,o0c⟩)/\o0n=(r).length/\Out H0 Ri H' (Rs.own ⟨o0a,o0n,o0c⟩ eI.z o0k::R0) λR=>CR eI H' R o0k (r)
def aD.S29 (H0:Hp) (Ri R0:as2)  (C:ato) (pC:atD):Prop:=∀ {qq IL m_ dd Dh qr IM gL na dN qs IN},∀ {H:Hp},m_=gL.length->Dh=qs.length->(Out H0 Ri H (Rs.blk dd [.sl ⟨qq,m_,qr⟩,.i na]::Rs.own ⟨IL,Dh,IM⟩ eI.z IN::R0) λR=>ROs (ac eI (ac eI (ac eI (ac eI eI)))) H R ⟨qq,m_,qr⟩ gL/\CR eI H R IN qs)->∀ {r:as5},pC gL qs dN=some r->Rt (C dd 0 ⟨IL,Dh,IM⟩ dN H) (aD.Q H0 Ri R0  r)
def aD.S61 (H0:Hp) (Ri R0:as2)  (C:ato) (pC:atD):Prop:=∀ {IP IQ Di jL Dj IR IS nb VN g_ lx IT},∀ {H:Hp},Di=nb.length->Dj=lx.length->(Out H0 Ri H (Rs.blk jL [.sl ⟨IP,Di,IR⟩,.i VN]::Rs.own ⟨IQ,Dj,IS⟩ eI.z IT::R0) λR=>ROs (ac eI (ac eI (ac eI (ac eI eI)))) H R ⟨IP,Di,IR⟩ nb/\CR eI H R IT lx)->∀ {r:as5},pC nb lx g_=some r->Rt (C jL 0 ⟨IQ,Dj,IS⟩ g_ H) (aD.Q H0 Ri R0  r)
def aD.S7855 (H0:Hp) (Ri R0:as2)  (C:atT) (pC:at7):Prop:=∀ {IU IV Dk mF Dl IW IX oF VO iX fE fF gq jQ IY},∀ {H:Hp},Dk=oF.length->Dl=jQ.length->(Out H0 Ri H (Rs.blk mF [.sl ⟨IU,Dk,IW⟩,.i VO]::Rs.own ⟨IV,Dl,IX⟩ eI.z IY::R0) λR=>ROs (ac eI (ac eI (ac eI (ac eI eI)))) H R ⟨IU,Dk,IW⟩ oF/\CR eI H R IY jQ)->∀ {r:as5},pC oF jQ iX fE fF gq=some r->Rt (C mF 0 ⟨IV,Dl,IX⟩ iX fE fF gq H) (aD.Q H0 Ri R0  r)
def aD.pj8 (F:Nat) (Dm:at7) (xT:ata) (xU:as5) (sq:Int) (su:Int) (sv:Int) (sw:Int):Option (List Int):=Dm xT xU sq su sv (wrap .i64 (sw+1))
theorem aD.j8_P  {C7855_:atT} {Dm:at7} (hC7855:aD.S7855 H0 Ri R0  C7855_ Dm) {VP VQ IZ AK I_ VR VS xT ajj sq su sv sw xU VT} (ajk:IZ=xT.length) (ajl:I_=xU.length) (h0:Out H0 Ri H (Rs.blk AK [.sl ⟨VP,IZ,VR⟩,.i ajj]::Rs.own ⟨VQ,I_,VS⟩ eI.z VT::R0) λR=>ROs (ac eI (ac eI (ac eI (ac eI eI)))) H R ⟨VP,IZ,VR⟩ xT/\CR eI H R VT xU) {r:as5} (hp:aD.pj8 F Dm xT xU sq su sv sw=some r):Rt (aD.j8 F (aK.tw F) C7855_ AK 0 ⟨VQ,I_,VS⟩ sq su sv sw H) (aD.Q H0 Ri R0  r):=by
 obtain ⟨w0,s0,ajm,ajn⟩:=h0
 subst ajk
 subst ajl
 unfold aD.pj8 at hp
 unfold aD.j8
 exact hC7855 rfl rfl ⟨w0,s0,ajm,ajn⟩ hp
def aD.pj6 (F:Nat) (ar:atD) (xV:ata) (xW:as5) (sj:Int):Option (List Int):=ar xV xW (wrap .i64 (sj+1))
theorem aD.j6_P  {C61_:ato} {ar:atD} (hC61:aD.S61 H0 Ri R0  C61_ ar) {VU VV Ja AI Jb VW VX xV ajo sj xW VY} (ajp:Ja=xV.length) (ajq:Jb=xW.length) (h0:Out H0 Ri H (Rs.blk AI [.sl ⟨VU,Ja,VW⟩,.i ajo]::Rs.own ⟨VV,Jb,VX⟩ eI.z VY::R0) λR=>ROs (ac eI (ac eI (ac eI (ac eI eI)))) H R ⟨VU,Ja,VW⟩ xV/\CR eI H R VY xW) {r:as5} (hp:aD.pj6 F ar xV xW sj=some r):Rt (aD.j6 F (aK.tw F) C61_ AI 0 ⟨VV,Jb,VX⟩ sj H) (aD.Q H0 Ri R0  r):=by
 obtain ⟨w0,s0,ajr,ajs⟩:=h0
 subst ajp
 subst ajq
 unfold aD.pj6 at hp
 unfold aD.j6
 exact hC61 rfl rfl ⟨w0,s0,ajr,ajs⟩ hp
def aD.pj7 (F:Nat) (ar:atD) (xX:ata) (xY:as5) (nC:Int):Option (List Int):=aD.pj6 F ar xX xY nC
theorem aD.j7_P  {C61_:ato} {ar:atD} (hC61:aD.S61 H0 Ri R0  C61_ ar) {VZ V_ Jc AJ Jd Wa Wb xX ajt nC xY Wc} (aju:Jc=xX.length) (ajv:Jd=xY.length) (h0:Out H0 Ri H (Rs.blk AJ [.sl ⟨VZ,Jc,Wa⟩,.i ajt]::Rs.own ⟨V_,Jd,Wb⟩ eI.z Wc::R0) λR=>ROs (ac eI (ac eI (ac eI (ac eI eI)))) H R ⟨VZ,Jc,Wa⟩ xX/\CR eI H R Wc xY) {r:as5} (hp:aD.pj7 F ar xX xY nC=some r):Rt (aD.j7 F (aK.tw F) C61_ AJ 0 ⟨V_,Jd,Wb⟩ nC H) (aD.Q H0 Ri R0  r):=by
 obtain ⟨w0,s0,ajw,ajx⟩:=h0
 subst aju
 subst ajv
 unfold aD.pj7 at hp
 unfold aD.j7
 exact aD.j6_P (@hC61) rfl rfl ⟨w0,s0,ajw,ajx⟩ hp
def aD.pl7855 (F:Nat) (ar:atD):Nat->List (Int×Int×Int×Int×Int)->List Int->Int->Int->Int->Int->Option (List Int)
 | 0,_,_,_,_,_,_=>none
 | k+1,oF,jQ,iX,fE,fF,gq=>(bif (decide (gq<(jQ.length:Int))) then ((ix jQ gq).bind λn1=>(bif ((gt jQ n1)==(if fF>fE then fF else fE)) then ((ix jQ gq).bind λn2=>(some (jQ.set n2 (if fF<fE then fF else fE))).bind λl3=>aD.pj8 F (aD.pl7855 F ar k) oF l3 iX fE fF gq) else (aD.pj8 F (aD.pl7855 F ar k) oF jQ iX fE fF gq))) else (aD.pj7 F ar oF jQ iX))
theorem aD.l7855_P  {C61_:ato} {ar:atD} (hC61:aD.S61 H0 Ri R0  C61_ ar):∀ k,aD.S7855 H0 Ri R0  (aD.l7855 F (aK.tw F) C61_ k) (aD.pl7855 F ar k):=by
 intro k
 induction k with
 | zero=>unfold aD.S7855;intros;rename_i hp;cases hp
 | succ k ih=>
  intro IU IV Dk mF Dl IW IX oF VO iX fE fF gq jQ IY H ajy ajz h0 r hp
  obtain ⟨w0,s0,Je,xZ⟩:=h0
  subst ajy
  subst ajz
  unfold aD.pl7855 at hp
  unfold aD.l7855
  refine ay hp (λhp=>?_) λhp=>?_
  ·obtain ⟨n1,g1,hp⟩:=ag hp
   obtain ⟨p1,q1,i1,h1,j1⟩:=W.ixo (E:=eI) w0 (i:=1) rfl rfl xZ g1
   refine ai i1 ?_
   have h1:_=[_]:=h1
   subst h1
   refine ai (aG (j1 0 _ rfl)) ?_
   refine ay hp (λhp=>?_) λhp=>?_
   ·obtain ⟨n2,g2,hp⟩:=ag hp
    obtain ⟨p2,q2,i2,h2,j2⟩:=W.ixo (E:=eI) w0 (i:=1) rfl rfl xZ g2
    refine ai i2 ?_
    obtain ⟨l3,e3,hp⟩:=ag hp
    refine dC eI w0 (i:=1) (j:=0) (p:=p2) rfl rfl xZ g2 i2 e3 rfl rfl (λ_ h=>by have h:_=[_]:=h;subst h;exact rfl) λH4 k4 w4 s4 c4=>?_
    exact aD.j8_P (@ih) rfl ((cz e3).symm) ⟨w4,(s0.trans s4),(Je.step s4),c4⟩ hp
   ·exact aD.j8_P (@ih) rfl rfl ⟨w0,s0,Je,xZ⟩ hp
  ·exact aD.j7_P (@hC61) rfl rfl ⟨w0,s0,Je,xZ⟩ hp
def aD.pl61 (F:Nat) :Nat->List (Int×Int×Int×Int×Int)->List Int->Int->Option (List Int)
 | 0,_,_,_=>none
 | k+1,nb,lx,g_=>(bif (decide (g_<(wrap .i64 (2 * (nb.length:Int))))) then ((aK.p F nb g_ true).bind λr1=>(aK.p F nb g_ false).bind λr3=>(ix lx r1.1).bind λn5=>(ix lx r3.1).bind λn6=>aD.pl7855 F (aD.pl61 F k) F nb lx g_ (gt lx n5) (gt lx n6) 0) else (some lx))
theorem aD.l61_P  :∀ k,aD.S61 H0 Ri R0  (aD.l61 F (aK.tw F)  k) (aD.pl61 F  k):=by
 intro k
 induction k with
 | zero=>unfold aD.S61;intros;rename_i hp;cases hp
 | succ k ih=>
  intro IP IQ Di jL Dj IR IS nb VN g_ lx IT H ajA ajB h0 r hp
  obtain ⟨w0,s0,Jf,Dn⟩:=h0
  subst ajA
  subst ajB
  unfold aD.pl61 at hp
  unfold aD.l61
  refine lSl w0 0 ?_
  refine ay hp (λhp=>?_) λhp=>?_
  ·refine lSl w0 0 ?_
   refine lI w0 0 ?_
   obtain ⟨r1,e1,hp⟩:=ag hp
   refine aE (aK.P rfl ⟨w0,Jf⟩ e1) ?_
   rintro _ H2 ⟨rfl,w2,s2,_⟩
   refine br (br (br (br (br ?_))))
   refine lSl w2 0 ?_
   refine lI w2 0 ?_
   obtain ⟨r3,e3,hp⟩:=ag hp
   refine aE (aK.P rfl ⟨w2,(Jf.step s2)⟩ e3) ?_
   rintro _ H4 ⟨rfl,w4,s4,_⟩
   refine br (br (br (br (br ?_))))
   obtain ⟨n5,g5,hp⟩:=ag hp
   obtain ⟨p5,q5,i5,h5,j5⟩:=W.ixo (E:=eI) w4 (i:=1) rfl rfl (Dn.step (s2.trans s4)) g5
   refine ai i5 ?_
   have h5:_=[_]:=h5
   subst h5
   refine ai (aG (j5 0 _ rfl)) ?_
   obtain ⟨n6,g6,hp⟩:=ag hp
   obtain ⟨p6,q6,i6,h6,j6⟩:=W.ixo (E:=eI) w4 (i:=1) rfl rfl (Dn.step (s2.trans s4)) g6
   refine ai i6 ?_
   have h6:_=[_]:=h6
   subst h6
   refine ai (aG (j6 0 _ rfl)) ?_
   exact aD.l7855_P (@ih) F rfl rfl ⟨w4,(s0.trans (s2.trans s4)),(Jf.step (s2.trans s4)),(Dn.step (s2.trans s4))⟩ hp
  ·obtain ⟨w7,s7⟩:=w0.pp [1] 2
   exact az hp ⟨_,_,_,_,rfl,rfl,w7,(s0.trans s7),(Dn.step s7)⟩
def aD.pj9 (F:Nat)  (x_:ata) (ya:as5):Option (List Int):=aD.pl61 F F x_ ya 0
theorem aD.j9_P   {Wd We Jg AL Jh Wf Wg x_ ajC ya Wh} (ajD:Jg=x_.length) (ajE:Jh=ya.length) (h0:Out H0 Ri H (Rs.blk AL [.sl ⟨Wd,Jg,Wf⟩,.i ajC]::Rs.own ⟨We,Jh,Wg⟩ eI.z Wh::R0) λR=>ROs (ac eI (ac eI (ac eI (ac eI eI)))) H R ⟨Wd,Jg,Wf⟩ x_/\CR eI H R Wh ya) {r:as5} (hp:aD.pj9 F  x_ ya=some r):Rt (aD.j9 F (aK.tw F)  AL 0 ⟨We,Jh,Wg⟩ H) (aD.Q H0 Ri R0  r):=by
 obtain ⟨w0,s0,ajF,ajG⟩:=h0
 subst ajD
 subst ajE
 unfold aD.pj9 at hp
 unfold aD.j9
 exact aD.l61_P F rfl rfl ⟨w0,s0,ajF,ajG⟩ hp
def aD.pl29 (F:Nat) :Nat->List (Int×Int×Int×Int×Int)->List Int->Int->Option (List Int)
 | 0,_,_,_=>none
 | k+1,gL,qs,dN=>(bif (decide (dN<(gL.length:Int))) then ((apn qs ([dN]:List Int)).bind λl2=>aD.pl29 F k gL l2 (wrap .i64 (dN+1))) else (aD.pj9 F gL qs))
theorem aD.l29_P  :∀ k,aD.S29 H0 Ri R0  (aD.l29 F (aK.tw F)  k) (aD.pl29 F  k):=by
 intro k
 induction k with
 | zero=>unfold aD.S29;intros;rename_i hp;cases hp
 | succ k ih=>
  intro qq IL m_ dd Dh qr IM gL na dN qs IN H Ji ajH h0 r hp
  obtain ⟨w0,s0,yb,Wi⟩:=h0
  subst Ji
  subst ajH
  unfold aD.pl29 at hp
  unfold aD.l29
  refine lSl w0 0 ?_
  refine ay hp (λhp=>?_) λhp=>?_
  ·refine cK eI w0 (n:=1) (l:=([dN]:List Int)) rfl (CR.cons1 rfl CR.empty) rfl λH1 w1 s1 c1=>?_
   refine ai (w1.rowo (i:=0) rfl) ?_
   obtain ⟨l2,e2,hp⟩:=ag hp
   refine fz eI w1 (i:=2) rfl rfl (Wi.step s1) c1 (show 1=List.length ([dN]:List Int) from rfl) rfl e2 λa3 d3 H3 w3 s3 c3 x3=>?_
   obtain ⟨w4,s4⟩:=w3.pp [1,2] 3
   exact ih rfl rfl ⟨w4,(s0.trans (s1.trans (s3.trans s4))),(yb.step (s1.trans (s3.trans s4))),(c3.step s4)⟩ hp
  ·exact aD.j9_P rfl rfl ⟨w0,s0,yb,Wi⟩ hp
def aD.p (F:Nat) (ah:ata):Option (List Int):=aD.pl29 F F ah ([]:List Int) 0
theorem aD.P {aB ak aC ah af} (ba:ak=ah.length) (h0:Inn H R0 λR=>ROs (ac eI (ac eI (ac eI (ac eI eI)))) H R ⟨aB,ak,aC⟩ ah) {r:as5} (hp:aD.p F ah=some r):Rt (aD.tw F ⟨aB,ak,aC⟩ af H) (aD.Q H R0 R0  r):=by
 obtain ⟨w0,aO⟩:=h0
 subst ba
 unfold aD.p at hp
 unfold aD.tw aD.twX
 have s0:=w0.rf
 refine aS w0 λH1 w1 s1=>?_
 refine cK eI w1 (n:=0) (l:=([]:List Int)) rfl CR.empty rfl λH2 w2 s2 c2=>?_
 obtain ⟨w3,s3⟩:=w2.pp [1,0] 2
 exact aD.l29_P F rfl (show 0=List.length ([]:List Int) from rfl) ⟨w3,(s0.trans (s1.trans (s2.trans s3))),(aO.step (s1.trans (s2.trans s3))),(c2.step s3)⟩ hp
def bw.Q (H0:Hp) (Ri R0:as2)  (r:Int) (v:AV) (H':Hp):Prop:=v=(.i r)/\Out H0 Ri H' (R0) λR=>True
def bw.S61 (H0:Hp) (Ri R0:as2)  (C:att) (pC:at8):Prop:=∀ {iY gr Jj Do Jk ma Jl},∀ {H:Hp},Do=ma.length->(Out H0 Ri H (Rs.own ⟨Jj,Do,Jk⟩ eI.z Jl::R0) λR=>CR eI H R Jl ma)->∀ {r:Int},pC iY ma gr=some r->Rt (C iY ⟨Jj,Do,Jk⟩ gr H) (bw.Q H0 Ri R0  r)
def bw.pj2 (F:Nat) (ar:at8) (sB:Int) (yc:as5) (sC:Int):Option (Int):=ar sB yc (wrap .i64 (sC+1))
theorem bw.j2_P  {C61_:att} {ar:at8} (hC61:bw.S61 H0 Ri R0  C61_ ar) {sB sC Wj Jm Wk yc Wl} (ajI:Jm=yc.length) (h0:Out H0 Ri H (Rs.own ⟨Wj,Jm,Wk⟩ eI.z Wl::R0) λR=>CR eI H R Wl yc) {r:Int} (hp:bw.pj2 F ar sB yc sC=some r):Rt (bw.j2 F (aD.tw F) C61_ sB ⟨Wj,Jm,Wk⟩ sC H) (bw.Q H0 Ri R0  r):=by
 obtain ⟨w0,s0,ajJ⟩:=h0
 subst ajI
 unfold bw.pj2 at hp
 unfold bw.j2
 exact hC61 rfl ⟨w0,s0,ajJ⟩ hp
def bw.pl61 (F:Nat) :Nat->Int->List Int->Int->Option (Int)
 | 0,_,_,_=>none
 | k+1,iY,ma,gr=>(bif (decide (gr<(ma.length:Int))) then ((ix ma gr).bind λn1=>(bif ((gt ma n1)==gr) then (bw.pj2 F (bw.pl61 F k) (wrap .i64 (iY+1)) ma gr) else (bw.pj2 F (bw.pl61 F k) iY ma gr))) else (some iY))
theorem bw.l61_P  :∀ k,bw.S61 H0 Ri R0  (bw.l61 F (aD.tw F)  k) (bw.pl61 F  k):=by
 intro k
 induction k with
 | zero=>unfold bw.S61;intros;rename_i hp;cases hp
 | succ k ih=>
  intro iY gr Jj Do Jk ma Jl H ajK h0 r hp
  obtain ⟨w0,s0,Jn⟩:=h0
  subst ajK
  unfold bw.pl61 at hp
  unfold bw.l61
  refine ay hp (λhp=>?_) λhp=>?_
  ·obtain ⟨n1,g1,hp⟩:=ag hp
   obtain ⟨p1,q1,i1,h1,j1⟩:=W.ixo (E:=eI) w0 (i:=0) rfl rfl Jn g1
   refine ai i1 ?_
   have h1:_=[_]:=h1
   subst h1
   refine ai (aG (j1 0 _ rfl)) ?_
   refine ay hp (λhp=>?_) λhp=>?_
   ·exact bw.j2_P (@ih) rfl ⟨w0,s0,Jn⟩ hp
   ·exact bw.j2_P (@ih) rfl ⟨w0,s0,Jn⟩ hp
  ·obtain ⟨w2,s2⟩:=w0.pp [] 1
   exact az hp ⟨rfl,w2,(s0.trans s2),trivial⟩
def bw.p (F:Nat) (ah:ata):Option (Int):=(aD.p F ah).bind λr2=>bw.pl61 F F 0 r2 0
theorem bw.P {aB ak aC ah af} (ba:ak=ah.length) (h0:Inn H R0 λR=>ROs (ac eI (ac eI (ac eI (ac eI eI)))) H R ⟨aB,ak,aC⟩ ah) {r:Int} (hp:bw.p F ah=some r):Rt (bw.tw F ⟨aB,ak,aC⟩ af H) (bw.Q H R0 R0  r):=by
 obtain ⟨w0,aO⟩:=h0
 subst ba
 unfold bw.p at hp
 unfold bw.tw bw.twX
 have s0:=w0.rf
 refine aS w0 λH1 w1 s1=>?_
 refine lSl w1 0 ?_
 refine lI w1 0 ?_
 obtain ⟨r2,e2,hp⟩:=ag hp
 refine aE (aD.P rfl ⟨w1,(aO.step s1)⟩ e2) ?_
 rintro _ H3 ⟨o0a_3,o0n_3,o0c_3,o0k_3,rfl,rfl,w3,s3,f3_0⟩
 refine br ?_
 obtain ⟨w4,s4⟩:=w3.pp [0] 2
 exact bw.l61_P F rfl ⟨w4,(s0.trans (s1.trans (s3.trans s4))),(f3_0.step s4)⟩ hp
def dE.Q (H0:Hp) (Ri R0:as2)  (r:Bool) (v:AV) (H':Hp):Prop:=v=(.bool r)/\Out H0 Ri H' (R0) λR=>True
def dE.p (F:Nat) (ah:ata) (af:Int):Option (Bool):=(bif (decide ((ah.length:Int)>10)) then (some false) else ((cR.p F af 0 8).bind λr3=>(bif (!r3) then (some false) else ((bc.p F ah).bind λr6=>(bif (!r6) then (some false) else ((aP.p F ah).bind λr9=>(bw.p F ah).bind λr12=>some ((r9.length:Int)==(wrap .i64 ((ah.length:Int)+(wrap .i64 (2 * r12)))))))))))
theorem dE.P {aB ak aC ah af} (ba:ak=ah.length) (h0:Inn H R0 λR=>ROs (ac eI (ac eI (ac eI (ac eI eI)))) H R ⟨aB,ak,aC⟩ ah) {r:Bool} (hp:dE.p F ah af=some r):Rt (dE.tw F ⟨aB,ak,aC⟩ af H) (dE.Q H R0 R0  r):=by
 obtain ⟨w0,aO⟩:=h0
 subst ba
 unfold dE.p at hp
 unfold dE.tw dE.twX
 have s0:=w0.rf
 refine aS w0 λH1 w1 s1=>?_
 refine lSl w1 0 ?_
 refine ay hp (λhp=>?_) λhp=>?_
 ·obtain ⟨w2,s2⟩:=w1.pp [] 1
  exact az hp ⟨rfl,w2,(s0.trans (s1.trans s2)),trivial⟩
 ·refine lI w1 0 ?_
  obtain ⟨r3,e3,hp⟩:=ag hp
  refine aE (cR.P ⟨w1,trivial⟩ e3) ?_
  rintro _ H4 ⟨rfl,w4,s4,_⟩
  refine br ?_
  refine ay hp (λhp=>?_) λhp=>?_
  ·obtain ⟨w5,s5⟩:=w4.pp [] 1
   exact az hp ⟨rfl,w5,(s0.trans (s1.trans (s4.trans s5))),trivial⟩
  ·refine lSl w4 0 ?_
   refine lI w4 0 ?_
   obtain ⟨r6,e6,hp⟩:=ag hp
   refine aE (bc.P rfl ⟨w4,(aO.step (s1.trans s4))⟩ e6) ?_
   rintro _ H7 ⟨rfl,w7,s7,_⟩
   refine br ?_
   refine ay hp (λhp=>?_) λhp=>?_
   ·obtain ⟨w8,s8⟩:=w7.pp [] 1
    exact az hp ⟨rfl,w8,(s0.trans (s1.trans (s4.trans (s7.trans s8)))),trivial⟩
   ·refine lSl w7 0 ?_
    refine lI w7 0 ?_
    obtain ⟨r9,e9,hp⟩:=ag hp
    refine aE (aP.P rfl ⟨w7,(aO.step (s1.trans (s4.trans s7)))⟩ e9) ?_
    rintro _ H10 ⟨o0a_10,o0n_10,o0c_10,o0k_10,rfl,rfl,w10,s10,f10_0⟩
    refine br ?_
    refine eK (W.cons_of (Rn:=[_]) w7 w10 s10) ?_
    refine lSl w10 1 ?_
    refine lSl w10 1 ?_
    refine lI w10 1 ?_
    obtain ⟨r12,e12,hp⟩:=ag hp
    refine aE (bw.P rfl ⟨w10,(aO.step (s1.trans (s4.trans (s7.trans s10))))⟩ e12) ?_
    rintro _ H13 ⟨rfl,w13,s13,_⟩
    refine br ?_
    refine eK (W.cons_of (Rn:=[]) w10 w13 s13) ?_
    obtain ⟨w15,s15⟩:=w13.pp [] 2
    exact az hp ⟨rfl,w15,(s0.trans (s1.trans (s4.trans (s7.trans (s10.trans (s13.trans s15)))))),trivial⟩
def aj.Q (H0:Hp) (Ri R0:as2)  (r:atm) (v:AV) (H':Hp):Prop:=∃ o0a:ON,∃ o0n:Nat,∃ o0c:Cap,∃ o0k:List AV,v=(.tup [(.sl ⟨o0a,o0n,o0c⟩),(.i r.2)])/\o0n=(r.1).length/\Out H0 Ri H' (Rs.own ⟨o0a,o0n,o0c⟩ eI.z o0k::R0) λR=>CR eI H' R o0k (r.1)
def aj.S29 (H0:Hp) (Ri R0:as2)  (C:ato) (pC:atE):Prop:=∀ {qq Jo m_ dd Dp qr Jp gL na es qt Jq},∀ {H:Hp},m_=gL.length->Dp=qt.length->(Out H0 Ri H (Rs.blk dd [.sl ⟨qq,m_,qr⟩,.i na]::Rs.own ⟨Jo,Dp,Jp⟩ eI.z Jq::R0) λR=>ROs (ac eI (ac eI (ac eI (ac eI eI)))) H R ⟨qq,m_,qr⟩ gL/\CR eI H R Jq qt)->∀ {r:atm},pC gL na qt es=some r->Rt (C dd 0 ⟨Jo,Dp,Jp⟩ es H) (aj.Q H0 Ri R0  r)
def aj.S61 (H0:Hp) (Ri R0:as2)  (C:ato) (pC:atE):Prop:=∀ {Jr Js Dq kp Dr Jt Ju ly vR hG lz Jv},∀ {H:Hp},Dq=ly.length->Dr=lz.length->(Out H0 Ri H (Rs.blk kp [.sl ⟨Jr,Dq,Jt⟩,.i vR]::Rs.own ⟨Js,Dr,Ju⟩ eI.z Jv::R0) λR=>ROs (ac eI (ac eI (ac eI (ac eI eI)))) H R ⟨Jr,Dq,Jt⟩ ly/\CR eI H R Jv lz)->∀ {r:atm},pC ly vR lz hG=some r->Rt (C kp 0 ⟨Js,Dr,Ju⟩ hG H) (aj.Q H0 Ri R0  r)
def aj.S1963 (H0:Hp) (Ri R0:as2)  (C:atT) (pC:at9):Prop:=∀ {Jw Jx Ds mH Dt Jy Jz oG qu iZ fH fI gv jR JA},∀ {H:Hp},Ds=oG.length->Dt=jR.length->(Out H0 Ri H (Rs.blk mH [.sl ⟨Jw,Ds,Jy⟩,.i qu]::Rs.own ⟨Jx,Dt,Jz⟩ eI.z JA::R0) λR=>ROs (ac eI (ac eI (ac eI (ac eI eI)))) H R ⟨Jw,Ds,Jy⟩ oG/\CR eI H R JA jR)->∀ {r:atm},pC oG qu jR iZ fH fI gv=some r->Rt (C mH 0 ⟨Jx,Dt,Jz⟩ iZ fH fI gv H) (aj.Q H0 Ri R0  r)
def aj.pj12 (F:Nat) (Du:at9) (yd:ata) (Dv:Int) (ye:as5) (sO:Int) (sQ:Int) (sS:Int) (sT:Int):Option (List Int×Int):=Du yd Dv ye sO sQ sS (wrap .i64 (sT+1))
theorem aj.j12_P  {C1963_:atT} {Du:at9} (hC1963:aj.S1963 H0 Ri R0  C1963_ Du) {Wm Wn JB AT JC Wo Wp yd Dv sO sQ sS sT ye Wq} (ajL:JB=yd.length) (ajM:JC=ye.length) (h0:Out H0 Ri H (Rs.blk AT [.sl ⟨Wm,JB,Wo⟩,.i Dv]::Rs.own ⟨Wn,JC,Wp⟩ eI.z Wq::R0) λR=>ROs (ac eI (ac eI (ac eI (ac eI eI)))) H R ⟨Wm,JB,Wo⟩ yd/\CR eI H R Wq ye) {r:atm} (hp:aj.pj12 F Du yd Dv ye sO sQ sS sT=some r):Rt (aj.j12 F  C1963_ AT 0 ⟨Wn,JC,Wp⟩ sO sQ sS sT H) (aj.Q H0 Ri R0  r):=by
 obtain ⟨w0,s0,ajN,ajO⟩:=h0
 subst ajL
 subst ajM
 unfold aj.pj12 at hp
 unfold aj.j12
 exact hC1963 rfl rfl ⟨w0,s0,ajN,ajO⟩ hp
def aj.pj10 (F:Nat) (ar:atE) (yf:ata) (Dw:Int) (yg:as5) (sL:Int):Option (List Int×Int):=ar yf Dw yg (wrap .i64 (sL+1))
theorem aj.j10_P  {C61_:ato} {ar:atE} (hC61:aj.S61 H0 Ri R0  C61_ ar) {Wr Ws JD AR JE Wt Wu yf Dw sL yg Wv} (ajP:JD=yf.length) (ajQ:JE=yg.length) (h0:Out H0 Ri H (Rs.blk AR [.sl ⟨Wr,JD,Wt⟩,.i Dw]::Rs.own ⟨Ws,JE,Wu⟩ eI.z Wv::R0) λR=>ROs (ac eI (ac eI (ac eI (ac eI eI)))) H R ⟨Wr,JD,Wt⟩ yf/\CR eI H R Wv yg) {r:atm} (hp:aj.pj10 F ar yf Dw yg sL=some r):Rt (aj.j10 F  C61_ AR 0 ⟨Ws,JE,Wu⟩ sL H) (aj.Q H0 Ri R0  r):=by
 obtain ⟨w0,s0,ajR,ajS⟩:=h0
 subst ajP
 subst ajQ
 unfold aj.pj10 at hp
 unfold aj.j10
 exact hC61 rfl rfl ⟨w0,s0,ajR,ajS⟩ hp
def aj.pj11 (F:Nat) (ar:atE) (yh:ata) (Dx:Int) (yi:as5) (sM:Int):Option (List Int×Int):=aj.pj10 F ar yh Dx yi sM
theorem aj.j11_P  {C61_:ato} {ar:atE} (hC61:aj.S61 H0 Ri R0  C61_ ar) {Ww Wx JF AS JG Wy Wz yh Dx sM yi WA} (ajT:JF=yh.length) (ajU:JG=yi.length) (h0:Out H0 Ri H (Rs.blk AS [.sl ⟨Ww,JF,Wy⟩,.i Dx]::Rs.own ⟨Wx,JG,Wz⟩ eI.z WA::R0) λR=>ROs (ac eI (ac eI (ac eI (ac eI eI)))) H R ⟨Ww,JF,Wy⟩ yh/\CR eI H R WA yi) {r:atm} (hp:aj.pj11 F ar yh Dx yi sM=some r):Rt (aj.j11 F  C61_ AS 0 ⟨Wx,JG,Wz⟩ sM H) (aj.Q H0 Ri R0  r):=by
 obtain ⟨w0,s0,ajV,ajW⟩:=h0
 subst ajT
 subst ajU
 unfold aj.pj11 at hp
 unfold aj.j11
 exact aj.j10_P (@hC61) rfl rfl ⟨w0,s0,ajV,ajW⟩ hp
def aj.pl1963 (F:Nat) (ar:atE):Nat->List (Int×Int×Int×Int×Int)->Int->List Int->Int->Int->Int->Int->Option (List Int×Int)
 | 0,_,_,_,_,_,_,_=>none
 | k+1,oG,qu,jR,iZ,fH,fI,gv=>(bif (decide (gv<(jR.length:Int))) then ((ix jR gv).bind λn1=>(bif ((gt jR n1)==(if fI>fH then fI else fH)) then ((ix jR gv).bind λn2=>(some (jR.set n2 (if fI<fH then fI else fH))).bind λl3=>aj.pj12 F (aj.pl1963 F ar k) oG qu l3 iZ fH fI gv) else (aj.pj12 F (aj.pl1963 F ar k) oG qu jR iZ fH fI gv))) else (aj.pj11 F ar oG qu jR iZ))
theorem aj.l1963_P  {C61_:ato} {ar:atE} (hC61:aj.S61 H0 Ri R0  C61_ ar):∀ k,aj.S1963 H0 Ri R0  (aj.l1963 F  C61_ k) (aj.pl1963 F ar k):=by
 intro k
 induction k with
 | zero=>unfold aj.S1963;intros;rename_i hp;cases hp
 | succ k ih=>
  intro Jw Jx Ds mH Dt Jy Jz oG qu iZ fH fI gv jR JA H ajX ajY h0 r hp
  obtain ⟨w0,s0,JH,yj⟩:=h0
  subst ajX
  subst ajY
  unfold aj.pl1963 at hp
  unfold aj.l1963
  refine ay hp (λhp=>?_) λhp=>?_
  ·obtain ⟨n1,g1,hp⟩:=ag hp
   obtain ⟨p1,q1,i1,h1,j1⟩:=W.ixo (E:=eI) w0 (i:=1) rfl rfl yj g1
   refine ai i1 ?_
   have h1:_=[_]:=h1
   subst h1
   refine ai (aG (j1 0 _ rfl)) ?_
   refine ay hp (λhp=>?_) λhp=>?_
   ·obtain ⟨n2,g2,hp⟩:=ag hp
    obtain ⟨p2,q2,i2,h2,j2⟩:=W.ixo (E:=eI) w0 (i:=1) rfl rfl yj g2
    refine ai i2 ?_
    obtain ⟨l3,e3,hp⟩:=ag hp
    refine dC eI w0 (i:=1) (j:=0) (p:=p2) rfl rfl yj g2 i2 e3 rfl rfl (λ_ h=>by have h:_=[_]:=h;subst h;exact rfl) λH4 k4 w4 s4 c4=>?_
    exact aj.j12_P (@ih) rfl ((cz e3).symm) ⟨w4,(s0.trans s4),(JH.step s4),c4⟩ hp
   ·exact aj.j12_P (@ih) rfl rfl ⟨w0,s0,JH,yj⟩ hp
  ·exact aj.j11_P (@hC61) rfl rfl ⟨w0,s0,JH,yj⟩ hp
def aj.S509 (H0:Hp) (Ri R0:as2)  (C:atV) (pC:aua):Prop:=∀ {JI JJ JK Dy mG Dz DA JL JM JN JO qv gu fG jS jT JP JQ},∀ {H:Hp},Dy=JO.length->Dz=jS.length->DA=jT.length->(Out H0 Ri H (Rs.blk mG [.sl ⟨JI,Dy,JL⟩,.i qv]::Rs.own ⟨JJ,Dz,JM⟩ eI.z JP::Rs.own ⟨JK,DA,JN⟩ eI.z JQ::R0) λR=>ROs (ac eI (ac eI (ac eI (ac eI eI)))) H R ⟨JI,Dy,JL⟩ JO/\CR eI H R JP jS/\CR eI H R JQ jT)->∀ {r:atm},pC qv jS jT gu fG=some r->Rt (C mG 0 ⟨JJ,Dz,JM⟩ ⟨JK,DA,JN⟩ gu fG H) (aj.Q H0 Ri R0  r)
def aj.pj7 (F:Nat) (DB:aua) (DC:Int) (yk:as5) (yl:as5) (sI:Int) (sJ:Int):Option (List Int×Int):=DB DC yk yl sI (wrap .i64 (sJ+1))
theorem aj.j7_P  {C509_:atV} {DB:aua} (hC509:aj.S509 H0 Ri R0  C509_ DB) {WB WC WD JR AO JS JT WE WG WH WI DC sI sJ yk yl WJ WK} (ajZ:JR=WI.length) (aj0:JS=yk.length) (aj1:JT=yl.length) (h0:Out H0 Ri H (Rs.blk AO [.sl ⟨WB,JR,WE⟩,.i DC]::Rs.own ⟨WC,JS,WG⟩ eI.z WJ::Rs.own ⟨WD,JT,WH⟩ eI.z WK::R0) λR=>ROs (ac eI (ac eI (ac eI (ac eI eI)))) H R ⟨WB,JR,WE⟩ WI/\CR eI H R WJ yk/\CR eI H R WK yl) {r:atm} (hp:aj.pj7 F DB DC yk yl sI sJ=some r):Rt (aj.j7 F  C509_ AO 0 ⟨WC,JS,WG⟩ ⟨WD,JT,WH⟩ sI sJ H) (aj.Q H0 Ri R0  r):=by
 obtain ⟨w0,s0,aj2,aj3,aj4⟩:=h0
 subst ajZ
 subst aj0
 subst aj1
 unfold aj.pj7 at hp
 unfold aj.j7
 exact hC509 rfl rfl rfl ⟨w0,s0,aj2,aj3,aj4⟩ hp
def aj.pj6 (F:Nat)  (DE:Int) (ym:as5) (sH:Int):Option (List Int×Int):=some (ym,(wrap .i64 (sH+DE)))
theorem aj.j6_P   {WL WM JU AN JV WN WO WP DE sH ym WQ} (aj5:JU=WP.length) (aj6:JV=ym.length) (h0:Out H0 Ri H (Rs.blk AN [.sl ⟨WL,JU,WN⟩,.i DE]::Rs.own ⟨WM,JV,WO⟩ eI.z WQ::R0) λR=>ROs (ac eI (ac eI (ac eI (ac eI eI)))) H R ⟨WL,JU,WN⟩ WP/\CR eI H R WQ ym) {r:atm} (hp:aj.pj6 F  DE ym sH=some r):Rt (aj.j6 F   AN 0 ⟨WM,JV,WO⟩ sH H) (aj.Q H0 Ri R0  r):=by
 obtain ⟨w0,s0,aso,aj7⟩:=h0
 subst aj5
 subst aj6
 unfold aj.pj6 at hp
 unfold aj.j6
 refine lI w0 0 ?_
 obtain ⟨w1,s1⟩:=w0.pp [1] 2
 exact az hp ⟨_,_,_,_,rfl,rfl,w1,(s0.trans s1),(aj7.step s1)⟩
def aj.pl509 (F:Nat) :Nat->Int->List Int->List Int->Int->Int->Option (List Int×Int)
 | 0,_,_,_,_,_=>none
 | k+1,qv,jS,jT,gu,fG=>(bif (decide (fG<(jS.length:Int))) then ((ix jS fG).bind λn1=>(bif ((gt jS n1)==fG) then ((apn jT ([gu]:List Int)).bind λl3=>aj.pj7 F (aj.pl509 F k) qv jS l3 (wrap .i64 (gu+1)) fG) else ((ix jS fG).bind λn6=>(ix jT (gt jS n6)).bind λn7=>(apn jT ([(gt jT n7)]:List Int)).bind λl9=>aj.pj7 F (aj.pl509 F k) qv jS l9 gu fG))) else (aj.pj6 F qv jT gu))
theorem aj.l509_P  :∀ k,aj.S509 H0 Ri R0  (aj.l509 F   k) (aj.pl509 F  k):=by
 intro k
 induction k with
 | zero=>unfold aj.S509;intros;rename_i hp;cases hp
 | succ k ih=>
  intro JI JJ JK Dy mG Dz DA JL JM JN JO qv gu fG jS jT JP JQ H aj8 aj9 aj_ h0 r hp
  obtain ⟨w0,s0,JW,DF,DH⟩:=h0
  subst aj8
  subst aj9
  subst aj_
  unfold aj.pl509 at hp
  unfold aj.l509
  refine ay hp (λhp=>?_) λhp=>?_
  ·obtain ⟨n1,g1,hp⟩:=ag hp
   obtain ⟨p1,q1,i1,h1,j1⟩:=W.ixo (E:=eI) w0 (i:=1) rfl rfl DF g1
   refine ai i1 ?_
   have h1:_=[_]:=h1
   subst h1
   refine ai (aG (j1 0 _ rfl)) ?_
   refine ay hp (λhp=>?_) λhp=>?_
   ·refine cK eI w0 (n:=1) (l:=([gu]:List Int)) rfl (CR.cons1 rfl CR.empty) rfl λH2 w2 s2 c2=>?_
    refine ai (w2.rowo (i:=0) rfl) ?_
    obtain ⟨l3,e3,hp⟩:=ag hp
    refine fz eI w2 (i:=3) rfl rfl (DH.step s2) c2 (show 1=List.length ([gu]:List Int) from rfl) rfl e3 λa4 d4 H4 w4 s4 c4 x4=>?_
    obtain ⟨w5,s5⟩:=w4.pp [1,2,3] 4
    exact aj.j7_P (@ih) rfl rfl rfl ⟨w5,(s0.trans (s2.trans (s4.trans s5))),(JW.step (s2.trans (s4.trans s5))),(DF.step (s2.trans (s4.trans s5))),(c4.step s5)⟩ hp
   ·obtain ⟨n6,g6,hp⟩:=ag hp
    obtain ⟨p6,q6,i6,h6,j6⟩:=W.ixo (E:=eI) w0 (i:=1) rfl rfl DF g6
    refine ai i6 ?_
    have h6:_=[_]:=h6
    subst h6
    refine ai (aG (j6 0 _ rfl)) ?_
    obtain ⟨n7,g7,hp⟩:=ag hp
    obtain ⟨p7,q7,i7,h7,j7⟩:=W.ixo (E:=eI) w0 (i:=2) rfl rfl DH g7
    refine ai i7 ?_
    have h7:_=[_]:=h7
    subst h7
    refine ai (aG (j7 0 _ rfl)) ?_
    refine cK eI w0 (n:=1) (l:=([(gt jT n7)]:List Int)) rfl (CR.cons1 rfl CR.empty) rfl λH8 w8 s8 c8=>?_
    refine ai (w8.rowo (i:=0) rfl) ?_
    obtain ⟨l9,e9,hp⟩:=ag hp
    refine fz eI w8 (i:=3) rfl rfl (DH.step s8) c8 (show 1=List.length ([(gt jT n7)]:List Int) from rfl) rfl e9 λa10 d10 H10 w10 s10 c10 x10=>?_
    obtain ⟨w11,s11⟩:=w10.pp [1,2,3] 4
    exact aj.j7_P (@ih) rfl rfl rfl ⟨w11,(s0.trans (s8.trans (s10.trans s11))),(JW.step (s8.trans (s10.trans s11))),(DF.step (s8.trans (s10.trans s11))),(c10.step s11)⟩ hp
  ·obtain ⟨w12,s12⟩:=w0.pp [0,2] 3
   exact aj.j6_P rfl rfl ⟨w12,(s0.trans s12),(JW.step s12),(DH.step s12)⟩ hp
def aj.pj8 (F:Nat)  (DI:Int) (yn:as5):Option (List Int×Int):=aj.pl509 F F DI yn ([]:List Int) 0 0
theorem aj.j8_P   {WR WS JX AQ JY WT WU WV DI yn WW} (aka:JX=WV.length) (akb:JY=yn.length) (h0:Out H0 Ri H (Rs.blk AQ [.sl ⟨WR,JX,WT⟩,.i DI]::Rs.own ⟨WS,JY,WU⟩ eI.z WW::R0) λR=>ROs (ac eI (ac eI (ac eI (ac eI eI)))) H R ⟨WR,JX,WT⟩ WV/\CR eI H R WW yn) {r:atm} (hp:aj.pj8 F  DI yn=some r):Rt (aj.j8 F   AQ 0 ⟨WS,JY,WU⟩ H) (aj.Q H0 Ri R0  r):=by
 obtain ⟨w0,s0,akc,akd⟩:=h0
 subst aka
 subst akb
 unfold aj.pj8 at hp
 unfold aj.j8
 refine cK eI w0 (n:=0) (l:=([]:List Int)) rfl CR.empty rfl λH1 w1 s1 c1=>?_
 obtain ⟨w2,s2⟩:=w1.pp [1,2,0] 3
 exact aj.l509_P F rfl rfl (show 0=List.length ([]:List Int) from rfl) ⟨w2,(s0.trans (s1.trans s2)),(akc.step (s1.trans s2)),(akd.step (s1.trans s2)),(c1.step s2)⟩ hp
def aj.pl61 (F:Nat) :Nat->List (Int×Int×Int×Int×Int)->Int->List Int->Int->Option (List Int×Int)
 | 0,_,_,_,_=>none
 | k+1,ly,vR,lz,hG=>(bif (decide (hG<(ly.length:Int))) then ((ix ly hG).bind λn1=>(ix lz ((gt ly n1).2.1)).bind λn2=>(ix ly hG).bind λn3=>(ix lz ((gt ly n3).2.2.2.1)).bind λn4=>aj.pl1963 F (aj.pl61 F k) F ly vR lz hG (gt lz n2) (gt lz n4) 0) else (aj.pj8 F vR lz))
theorem aj.l61_P  :∀ k,aj.S61 H0 Ri R0  (aj.l61 F   k) (aj.pl61 F  k):=by
 intro k
 induction k with
 | zero=>unfold aj.S61;intros;rename_i hp;cases hp
 | succ k ih=>
  intro Jr Js Dq kp Dr Jt Ju ly vR hG lz Jv H ake akf h0 r hp
  obtain ⟨w0,s0,DJ,DK⟩:=h0
  subst ake
  subst akf
  unfold aj.pl61 at hp
  unfold aj.l61
  refine lSl w0 0 ?_
  refine ay hp (λhp=>?_) λhp=>?_
  ·refine lSl w0 0 ?_
   obtain ⟨n1,g1,hp⟩:=ag hp
   obtain ⟨p1,q1,i1,h1,j1⟩:=ROs.ixr DJ rfl g1
   refine ai i1 ?_
   obtain ⟨_,_,rfl,rfl,_,_,rfl,rfl,_,_,rfl,rfl,_,_,rfl,rfl,rfl⟩:=h1
   refine ai (aG (j1 1 _ rfl)) ?_
   obtain ⟨n2,g2,hp⟩:=ag hp
   obtain ⟨p2,q2,i2,h2,j2⟩:=W.ixo (E:=eI) w0 (i:=1) rfl rfl DK g2
   refine ai i2 ?_
   have h2:_=[_]:=h2
   subst h2
   refine ai (aG (j2 0 _ rfl)) ?_
   refine lSl w0 0 ?_
   obtain ⟨n3,g3,hp⟩:=ag hp
   obtain ⟨p3,q3,i3,h3,j3⟩:=ROs.ixr DJ rfl g3
   refine ai i3 ?_
   obtain ⟨_,_,rfl,rfl,_,_,rfl,rfl,_,_,rfl,rfl,_,_,rfl,rfl,rfl⟩:=h3
   refine ai (aG (j3 3 _ rfl)) ?_
   obtain ⟨n4,g4,hp⟩:=ag hp
   obtain ⟨p4,q4,i4,h4,j4⟩:=W.ixo (E:=eI) w0 (i:=1) rfl rfl DK g4
   refine ai i4 ?_
   have h4:_=[_]:=h4
   subst h4
   refine ai (aG (j4 0 _ rfl)) ?_
   exact aj.l1963_P (@ih) F rfl rfl ⟨w0,s0,DJ,DK⟩ hp
  ·exact aj.j8_P rfl rfl ⟨w0,s0,DJ,DK⟩ hp
def aj.pj13 (F:Nat)  (yo:ata) (DL:Int) (yp:as5):Option (List Int×Int):=aj.pl61 F F yo DL yp 0
theorem aj.j13_P   {WX WY JZ sy J_ WZ W_ yo DL yp Xa} (akg:JZ=yo.length) (akh:J_=yp.length) (h0:Out H0 Ri H (Rs.blk sy [.sl ⟨WX,JZ,WZ⟩,.i DL]::Rs.own ⟨WY,J_,W_⟩ eI.z Xa::R0) λR=>ROs (ac eI (ac eI (ac eI (ac eI eI)))) H R ⟨WX,JZ,WZ⟩ yo/\CR eI H R Xa yp) {r:atm} (hp:aj.pj13 F  yo DL yp=some r):Rt (aj.j13 F   sy 0 ⟨WY,J_,W_⟩ H) (aj.Q H0 Ri R0  r):=by
 obtain ⟨w0,s0,aki,akj⟩:=h0
 subst akg
 subst akh
 unfold aj.pj13 at hp
 unfold aj.j13
 exact aj.l61_P F rfl rfl ⟨w0,s0,aki,akj⟩ hp
def aj.pl29 (F:Nat) :Nat->List (Int×Int×Int×Int×Int)->Int->List Int->Int->Option (List Int×Int)
 | 0,_,_,_,_=>none
 | k+1,gL,na,qt,es=>(bif (decide (es<(wrap .i64 (2 * (gL.length:Int))))) then ((apn qt ([es]:List Int)).bind λl2=>aj.pl29 F k gL na l2 (wrap .i64 (es+1))) else (aj.pj13 F gL na qt))
theorem aj.l29_P  :∀ k,aj.S29 H0 Ri R0  (aj.l29 F   k) (aj.pl29 F  k):=by
 intro k
 induction k with
 | zero=>unfold aj.S29;intros;rename_i hp;cases hp
 | succ k ih=>
  intro qq Jo m_ dd Dp qr Jp gL na es qt Jq H Ji akk h0 r hp
  obtain ⟨w0,s0,yb,Xb⟩:=h0
  subst Ji
  subst akk
  unfold aj.pl29 at hp
  unfold aj.l29
  refine lSl w0 0 ?_
  refine ay hp (λhp=>?_) λhp=>?_
  ·refine cK eI w0 (n:=1) (l:=([es]:List Int)) rfl (CR.cons1 rfl CR.empty) rfl λH1 w1 s1 c1=>?_
   refine ai (w1.rowo (i:=0) rfl) ?_
   obtain ⟨l2,e2,hp⟩:=ag hp
   refine fz eI w1 (i:=2) rfl rfl (Xb.step s1) c1 (show 1=List.length ([es]:List Int) from rfl) rfl e2 λa3 d3 H3 w3 s3 c3 x3=>?_
   obtain ⟨w4,s4⟩:=w3.pp [1,2] 3
   exact ih rfl rfl ⟨w4,(s0.trans (s1.trans (s3.trans s4))),(yb.step (s1.trans (s3.trans s4))),(c3.step s4)⟩ hp
  ·exact aj.j13_P rfl rfl ⟨w0,s0,yb,Xb⟩ hp
def aj.p (F:Nat) (ah:ata) (af:Int):Option (List Int×Int):=aj.pl29 F F ah af ([]:List Int) 0
theorem aj.P {aB ak aC ah af} (ba:ak=ah.length) (h0:Inn H R0 λR=>ROs (ac eI (ac eI (ac eI (ac eI eI)))) H R ⟨aB,ak,aC⟩ ah) {r:atm} (hp:aj.p F ah af=some r):Rt (aj.tw F ⟨aB,ak,aC⟩ af H) (aj.Q H R0 R0  r):=by
 obtain ⟨w0,aO⟩:=h0
 subst ba
 unfold aj.p at hp
 unfold aj.tw aj.twX
 have s0:=w0.rf
 refine aS w0 λH1 w1 s1=>?_
 refine cK eI w1 (n:=0) (l:=([]:List Int)) rfl CR.empty rfl λH2 w2 s2 c2=>?_
 obtain ⟨w3,s3⟩:=w2.pp [1,0] 2
 exact aj.l29_P F rfl (show 0=List.length ([]:List Int) from rfl) ⟨w3,(s0.trans (s1.trans (s2.trans s3))),(aO.step (s1.trans (s2.trans s3))),(c2.step s3)⟩ hp
def bi.Q (H0:Hp) (Ri R0:as2)  (r:ate) (v:AV) (H':Hp):Prop:=∃ o0a:ON,∃ o0n:Nat,∃ o0c:Cap,∃ o0k:List AV,v=(.sl ⟨o0a,o0n,o0c⟩)/\o0n=(r).length/\Out H0 Ri H' (Rs.own ⟨o0a,o0n,o0c⟩ (eSl eI).z o0k::R0) λR=>CR (eSl eI) H' R o0k (r)
def bi.S61 (H0:Hp) (Ri R0:as2)  (C:atr) (pC:aub):Prop:=∀ {Ka qw Kb DM lN ng DN Kc qx Kd jE Xc hJ dk qy Ke cJ},∀ {H:Hp},DM=jE.length->ng=dk.length->DN=cJ.length->(Out H0 Ri H (Rs.blk lN [.sl ⟨Ka,DM,Kc⟩,.i Xc]::Rs.own ⟨qw,ng,qx⟩ (eSl eI).z qy::Rs.own ⟨Kb,DN,Kd⟩ eI.z Ke::R0) λR=>ROs (ac eI (ac eI (ac eI (ac eI eI)))) H R ⟨Ka,DM,Kc⟩ jE/\CR (eSl eI) H R qy dk/\CR eI H R Ke cJ)->∀ {r:ate},pC jE dk cJ hJ=some r->Rt (C lN 0 ⟨qw,ng,qx⟩ ⟨Kb,DN,Kd⟩ hJ H) (bi.Q H0 Ri R0  r)
def bi.pj2 (F:Nat) (ar:aub) (lr:ata) (lu:ate) (lw:as5) (gw:Int):Option (List (List Int)):=ar lr lu lw (wrap .i64 (gw+1))
theorem bi.j2_P  {C61_:atr} {ar:aub} (hC61:bi.S61 H0 Ri R0  C61_ ar) {xF xG xH qi fp qj qk xI xJ xK lr Ik gw lu xL xM lw} (Il:qi=lr.length) (Im:qj=lu.length) (In:qk=lw.length) (h0:Out H0 Ri H (Rs.blk fp [.sl ⟨xF,qi,xI⟩,.i Ik]::Rs.own ⟨xG,qj,xJ⟩ (eSl eI).z xL::Rs.own ⟨xH,qk,xK⟩ eI.z xM::R0) λR=>ROs (ac eI (ac eI (ac eI (ac eI eI)))) H R ⟨xF,qi,xI⟩ lr/\CR (eSl eI) H R xL lu/\CR eI H R xM lw) {r:ate} (hp:bi.pj2 F ar lr lu lw gw=some r):Rt (bi.j2 F (aj.tw F) C61_ fp 0 ⟨xG,qj,xJ⟩ ⟨xH,qk,xK⟩ gw H) (bi.Q H0 Ri R0  r):=by
 obtain ⟨w0,s0,Io,Ip,Iq⟩:=h0
 subst Il
 subst Im
 subst In
 unfold bi.pj2 at hp
 unfold bi.j2
 exact hC61 rfl rfl rfl ⟨w0,s0,Io,Ip,Iq⟩ hp
def bi.pl61 (F:Nat) :Nat->List (Int×Int×Int×Int×Int)->List (List Int)->List Int->Int->Option (List (List Int))
 | 0,_,_,_,_=>none
 | k+1,jE,dk,cJ,hJ=>(bif (decide (hJ<(jE.length:Int))) then ((ix jE hJ).bind λn1=>(ix cJ ((gt jE n1).1)).bind λn8=>(ix cJ ((gt jE n1).2.2.1)).bind λn9=>(ix cJ ((gt jE n1).2.1)).bind λn10=>(bif (((gt jE n1).2.2.2.2)==1) then ((apn dk ([([(wrap .i64 ((gt cJ n9)+1)),(wrap .i64 ((gt cJ n10)+1)),(wrap .i64 (0 - (wrap .i64 ((gt cJ n8)+1)))),(wrap .i64 (0 - (wrap .i64 ((gt cJ n10)+1))))]:List Int)]:List (List Int))).bind λl14=>bi.pj2 F (bi.pl61 F k) jE l14 cJ hJ) else ((apn dk ([([(wrap .i64 ((gt cJ n9)+1)),(wrap .i64 (0 - (wrap .i64 ((gt cJ n10)+1)))),(wrap .i64 (0 - (wrap .i64 ((gt cJ n8)+1)))),(wrap .i64 ((gt cJ n10)+1))]:List Int)]:List (List Int))).bind λl20=>bi.pj2 F (bi.pl61 F k) jE l20 cJ hJ))) else (some dk))
theorem bi.l61_P  :∀ k,bi.S61 H0 Ri R0  (bi.l61 F (aj.tw F)  k) (bi.pl61 F  k):=by
 intro k
 induction k with
 | zero=>unfold bi.S61;intros;rename_i hp;cases hp
 | succ k ih=>
  intro Ka qw Kb DM lN ng DN Kc qx Kd jE Xc hJ dk qy Ke cJ H akl Kf akm h0 r hp
  obtain ⟨w0,s0,Kg,oH,yq⟩:=h0
  subst akl
  subst Kf
  subst akm
  unfold bi.pl61 at hp
  unfold bi.l61
  refine lSl w0 0 ?_
  refine ay hp (λhp=>?_) λhp=>?_
  ·refine lSl w0 0 ?_
   obtain ⟨n1,g1,hp⟩:=ag hp
   obtain ⟨p1,q1,i1,h1,j1⟩:=ROs.ixr Kg rfl g1
   refine ai i1 ?_
   obtain ⟨_,_,rfl,rfl,_,_,rfl,rfl,_,_,rfl,rfl,_,_,rfl,rfl,rfl⟩:=h1
   refine ai (aG (j1 0 _ rfl)) ?_
   refine ai (aG (j1 1 _ rfl)) ?_
   refine ai (aG (j1 2 _ rfl)) ?_
   refine ai (aG (j1 3 _ rfl)) ?_
   refine ai (aG (j1 4 _ rfl)) ?_
   refine aS w0 λH2 w2 s2=>?_
   refine aq w2 0 λH3 w3 s3=>?_
   refine aq w3 0 λH4 w4 s4=>?_
   refine aq w4 0 λH5 w5 s5=>?_
   refine aq w5 0 λH6 w6 s6=>?_
   refine aq w6 0 λH7 w7 s7=>?_
   refine lI w7 0 ?_
   obtain ⟨n8,g8,hp⟩:=ag hp
   obtain ⟨p8,q8,i8,h8,j8⟩:=W.ixo (E:=eI) w7 (i:=3) rfl rfl (yq.step (s2.trans (s3.trans (s4.trans (s5.trans (s6.trans s7)))))) g8
   refine ai i8 ?_
   have h8:_=[_]:=h8
   subst h8
   refine ai (aG (j8 0 _ rfl)) ?_
   refine lI w7 0 ?_
   obtain ⟨n9,g9,hp⟩:=ag hp
   obtain ⟨p9,q9,i9,h9,j9⟩:=W.ixo (E:=eI) w7 (i:=3) rfl rfl (yq.step (s2.trans (s3.trans (s4.trans (s5.trans (s6.trans s7)))))) g9
   refine ai i9 ?_
   have h9:_=[_]:=h9
   subst h9
   refine ai (aG (j9 0 _ rfl)) ?_
   refine lI w7 0 ?_
   obtain ⟨n10,g10,hp⟩:=ag hp
   obtain ⟨p10,q10,i10,h10,j10⟩:=W.ixo (E:=eI) w7 (i:=3) rfl rfl (yq.step (s2.trans (s3.trans (s4.trans (s5.trans (s6.trans s7)))))) g10
   refine ai i10 ?_
   have h10:_=[_]:=h10
   subst h10
   refine ai (aG (j10 0 _ rfl)) ?_
   refine lI w7 0 ?_
   refine ay hp (λhp=>?_) λhp=>?_
   ·refine cK eI w7 (n:=4) (l:=([(wrap .i64 ((gt cJ n9)+1)),(wrap .i64 ((gt cJ n10)+1)),(wrap .i64 (0 - (wrap .i64 ((gt cJ n8)+1)))),(wrap .i64 (0 - (wrap .i64 ((gt cJ n10)+1))))]:List Int)) rfl (CR.cons1 rfl (CR.cons1 rfl (CR.cons1 rfl (CR.cons1 rfl CR.empty)))) rfl λH11 w11 s11 c11=>?_
    obtain ⟨w12,s12,f12⟩:=w11.frz (i:=0) eI rfl c11
    refine cK (eSl eI) w12 (n:=1) (l:=([([(wrap .i64 ((gt cJ n9)+1)),(wrap .i64 ((gt cJ n10)+1)),(wrap .i64 (0 - (wrap .i64 ((gt cJ n8)+1)))),(wrap .i64 (0 - (wrap .i64 ((gt cJ n10)+1))))]:List Int)]:List (List Int))) rfl (CR.cons1 ⟨_,rfl,f12⟩ CR.empty) rfl λH13 w13 s13 c13=>?_
    refine ai (w13.rowo (i:=0) rfl) ?_
    obtain ⟨l14,e14,hp⟩:=ag hp
    refine fz (eSl eI) w13 (i:=3) rfl rfl (oH.step (s2.trans (s3.trans (s4.trans (s5.trans (s6.trans (s7.trans (s11.trans (s12.trans s13))))))))) c13 (show 1=List.length ([([(wrap .i64 ((gt cJ n9)+1)),(wrap .i64 ((gt cJ n10)+1)),(wrap .i64 (0 - (wrap .i64 ((gt cJ n8)+1)))),(wrap .i64 (0 - (wrap .i64 ((gt cJ n10)+1))))]:List Int)]:List (List Int)) from rfl) rfl e14 λa15 d15 H15 w15 s15 c15 x15=>?_
    obtain ⟨w16,s16⟩:=w15.pp [2,3,4] 5
    exact bi.j2_P (@ih) rfl rfl rfl ⟨w16,(s0.trans (s2.trans (s3.trans (s4.trans (s5.trans (s6.trans (s7.trans (s11.trans (s12.trans (s13.trans (s15.trans s16))))))))))),(Kg.step (s2.trans (s3.trans (s4.trans (s5.trans (s6.trans (s7.trans (s11.trans (s12.trans (s13.trans (s15.trans s16))))))))))),(c15.step s16),(yq.step (s2.trans (s3.trans (s4.trans (s5.trans (s6.trans (s7.trans (s11.trans (s12.trans (s13.trans (s15.trans s16)))))))))))⟩ hp
   ·refine cK eI w7 (n:=4) (l:=([(wrap .i64 ((gt cJ n9)+1)),(wrap .i64 (0 - (wrap .i64 ((gt cJ n10)+1)))),(wrap .i64 (0 - (wrap .i64 ((gt cJ n8)+1)))),(wrap .i64 ((gt cJ n10)+1))]:List Int)) rfl (CR.cons1 rfl (CR.cons1 rfl (CR.cons1 rfl (CR.cons1 rfl CR.empty)))) rfl λH17 w17 s17 c17=>?_
    obtain ⟨w18,s18,f18⟩:=w17.frz (i:=0) eI rfl c17
    refine cK (eSl eI) w18 (n:=1) (l:=([([(wrap .i64 ((gt cJ n9)+1)),(wrap .i64 (0 - (wrap .i64 ((gt cJ n10)+1)))),(wrap .i64 (0 - (wrap .i64 ((gt cJ n8)+1)))),(wrap .i64 ((gt cJ n10)+1))]:List Int)]:List (List Int))) rfl (CR.cons1 ⟨_,rfl,f18⟩ CR.empty) rfl λH19 w19 s19 c19=>?_
    refine ai (w19.rowo (i:=0) rfl) ?_
    obtain ⟨l20,e20,hp⟩:=ag hp
    refine fz (eSl eI) w19 (i:=3) rfl rfl (oH.step (s2.trans (s3.trans (s4.trans (s5.trans (s6.trans (s7.trans (s17.trans (s18.trans s19))))))))) c19 (show 1=List.length ([([(wrap .i64 ((gt cJ n9)+1)),(wrap .i64 (0 - (wrap .i64 ((gt cJ n10)+1)))),(wrap .i64 (0 - (wrap .i64 ((gt cJ n8)+1)))),(wrap .i64 ((gt cJ n10)+1))]:List Int)]:List (List Int)) from rfl) rfl e20 λa21 d21 H21 w21 s21 c21 x21=>?_
    obtain ⟨w22,s22⟩:=w21.pp [2,3,4] 5
    exact bi.j2_P (@ih) rfl rfl rfl ⟨w22,(s0.trans (s2.trans (s3.trans (s4.trans (s5.trans (s6.trans (s7.trans (s17.trans (s18.trans (s19.trans (s21.trans s22))))))))))),(Kg.step (s2.trans (s3.trans (s4.trans (s5.trans (s6.trans (s7.trans (s17.trans (s18.trans (s19.trans (s21.trans s22))))))))))),(c21.step s22),(yq.step (s2.trans (s3.trans (s4.trans (s5.trans (s6.trans (s7.trans (s17.trans (s18.trans (s19.trans (s21.trans s22)))))))))))⟩ hp
  ·obtain ⟨w23,s23⟩:=w0.pp [1] 3
   exact az hp ⟨_,_,_,_,rfl,rfl,w23,(s0.trans s23),(oH.step s23)⟩
def bi.p (F:Nat) (ah:ata) (af:Int):Option (List (List Int)):=(aj.p F ah af).bind λr3=>bi.pl61 F F ah ([]:List (List Int)) r3.1 0
theorem bi.P {aB ak aC ah af} (ba:ak=ah.length) (h0:Inn H R0 λR=>ROs (ac eI (ac eI (ac eI (ac eI eI)))) H R ⟨aB,ak,aC⟩ ah) {r:ate} (hp:bi.p F ah af=some r):Rt (bi.tw F ⟨aB,ak,aC⟩ af H) (bi.Q H R0 R0  r):=by
 obtain ⟨w0,aO⟩:=h0
 subst ba
 unfold bi.p at hp
 unfold bi.tw bi.twX
 have s0:=w0.rf
 refine aS w0 λH1 w1 s1=>?_
 refine cK (eSl eI) w1 (n:=0) (l:=([]:List (List Int))) rfl CR.empty rfl λH2 w2 s2 c2=>?_
 refine lSl w2 1 ?_
 refine lI w2 1 ?_
 obtain ⟨r3,e3,hp⟩:=ag hp
 refine aE (aj.P rfl ⟨w2,(aO.step (s1.trans s2))⟩ e3) ?_
 rintro _ H4 ⟨o0a_4,o0n_4,o0c_4,o0k_4,rfl,rfl,w4,s4,f4_0⟩
 refine br (br (br (br (br ?_))))
 obtain ⟨w5,s5⟩:=w4.pp [2,1,0] 3
 exact bi.l61_P F rfl (show 0=List.length ([]:List (List Int)) from rfl) rfl ⟨w5,(s0.trans (s1.trans (s2.trans (s4.trans s5)))),(aO.step (s1.trans (s2.trans (s4.trans s5)))),(c2.step (s4.trans s5)),(f4_0.step s5)⟩ hp
def aR.Q (H0:Hp) (Ri R0:as2)  (r:as8) (v:AV) (H':Hp):Prop:=∃ o1a:ON,∃ o1n:Nat,∃ o1c:Cap,∃ o1k:List AV,v=(.agg [(.i r.1),(.sl ⟨o1a,o1n,o1c⟩)])/\o1n=(r.2).length/\Out H0 Ri H' (Rs.own ⟨o1a,o1n,o1c⟩ eI.z o1k::R0) λR=>CR eI H' R o1k (r.2)
def aR.S14 (H0:Hp) (Ri R0:as2)  (C:auk) (pC:auc):Prop:=∀ {ja Xd gz hK Kh Ki DO DP ez Kj Kk mb Kl Km},∀ {H:Hp},DO=mb.length->DP=Kl.length->(Out H0 Ri H (Rs.own ⟨Ki,DP,Kk⟩ eI.z Km::Rs.blk ez [.i Xd,.sl ⟨Ki,DP,Kk⟩]::R0) λR=>ROs eI H R ⟨Kh,DO,Kj⟩ mb/\CR eI H R Km Kl)->∀ {r:as8},pC ja mb gz hK=some r->Rt (C ja ⟨Kh,DO,Kj⟩ ez 0 gz hK H) (aR.Q H0 Ri R0  r)
def aR.S30 (H0:Hp) (Ri R0:as2)  (C:auk) (pC:auc):Prop:=∀ {i_ Xe fh gy Ko Kp DQ DR mI Kq Ks mc Kt Ku},∀ {H:Hp},DQ=mc.length->DR=Kt.length->(Out H0 Ri H (Rs.own ⟨Kp,DR,Ks⟩ eI.z Ku::Rs.blk mI [.i Xe,.sl ⟨Kp,DR,Ks⟩]::R0) λR=>ROs eI H R ⟨Ko,DQ,Kq⟩ mc/\CR eI H R Ku Kt)->∀ {r:as8},pC i_ mc fh gy=some r->Rt (C i_ ⟨Ko,DQ,Kq⟩ mI 0 fh gy H) (aR.Q H0 Ri R0  r)
def aR.pj1 (F:Nat)  (sW:Int) (yr:as5) (lO:Int) (nH:Int):Option (Int×List Int):=(bif (lO==nH) then (some (0,([]:List Int))) else ((cutf yr lO nH).bind λl6=>(apn ([]:List Int) l6).bind λl8=>some ((wrap .i64 (sW+lO)),l8)))
theorem aR.j1_P   {sW akn lO nH Xf Xg Kv Kw kq Xh Xi yr Xj Xk} (ako:Kv=yr.length) (akp:Kw=Xj.length) (h0:Out H0 Ri H (Rs.own ⟨Xg,Kw,Xi⟩ eI.z Xk::Rs.blk kq [.i akn,.sl ⟨Xg,Kw,Xi⟩]::R0) λR=>ROs eI H R ⟨Xf,Kv,Xh⟩ yr/\CR eI H R Xk Xj) {r:as8} (hp:aR.pj1 F  sW yr lO nH=some r):Rt (aR.j1 F   sW ⟨Xf,Kv,Xh⟩ kq 0 lO nH H) (aR.Q H0 Ri R0  r):=by
 obtain ⟨w0,s0,akq,asp⟩:=h0
 subst ako
 subst akp
 unfold aR.pj1 at hp
 unfold aR.j1
 refine ay hp (λhp=>?_) λhp=>?_
 ·refine aq w0 1 λH1 w1 s1=>?_
  refine aq w1 1 λH2 w2 s2=>?_
  refine lI w2 1 ?_
  refine lSl w2 1 ?_
  obtain ⟨w3,s3⟩:=w2.nilS eI.z (by decide)
  obtain ⟨w4,s4⟩:=w3.pp [0] 3
  exact az hp ⟨_,_,_,_,rfl,rfl,w4,(s0.trans (s1.trans (s2.trans (s3.trans s4)))),((CR.empty:CR eI _ _ [] []).step s4)⟩
 ·refine cK eI w0 (n:=0) (l:=([]:List Int)) rfl CR.empty rfl λH5 w5 s5 c5=>?_
  obtain ⟨l6,e6,hp⟩:=ag hp
  obtain ⟨a6,d6,h6,f6⟩:=ROs.cutf (akq.step s5) rfl e6
  refine ai h6 ?_
  obtain ⟨x7,h7,c7⟩:=f6.row rfl
  refine ai h7 ?_
  obtain ⟨l8,e8,hp⟩:=ag hp
  refine fz eI w5 (i:=0) rfl rfl c5 c7 rfl rfl e8 λa9 d9 H9 w9 s9 c9 x9=>?_
  refine aq w9 2 λH10 w10 s10=>?_
  refine aq w10 2 λH11 w11 s11=>?_
  refine lI w11 2 ?_
  refine lSl w11 2 ?_
  obtain ⟨w12,s12⟩:=w11.pp [0] 3
  exact az hp ⟨_,_,_,_,rfl,rfl,w12,(s0.trans (s5.trans (s9.trans (s10.trans (s11.trans s12))))),(c9.step (s10.trans (s11.trans s12)))⟩
def aR.pl30 (F:Nat) :Nat->Int->List Int->Int->Int->Option (Int×List Int)
 | 0,_,_,_,_=>none
 | k+1,i_,mc,fh,gy=>(bif (decide (fh<gy)) then ((ix mc (wrap .i64 (gy - 1))).bind λn1=>(bif ((gt mc n1)==0) then (aR.pl30 F k i_ mc fh (wrap .i64 (gy - 1))) else (aR.pj1 F i_ mc fh gy))) else (aR.pj1 F i_ mc fh gy))
theorem aR.l30_P  :∀ k,aR.S30 H0 Ri R0  (aR.l30 F   k) (aR.pl30 F  k):=by
 intro k
 induction k with
 | zero=>unfold aR.S30;intros;rename_i hp;cases hp
 | succ k ih=>
  intro i_ Xe fh gy Ko Kp DQ DR mI Kq Ks mc Kt Ku H akr aks h0 r hp
  obtain ⟨w0,s0,DS,Ky⟩:=h0
  subst akr
  subst aks
  unfold aR.pl30 at hp
  unfold aR.l30
  refine ay hp (λhp=>?_) λhp=>?_
  ·obtain ⟨n1,g1,hp⟩:=ag hp
   obtain ⟨p1,q1,i1,h1,j1⟩:=ROs.ixr DS rfl g1
   refine ai i1 ?_
   have h1:_=[_]:=h1
   subst h1
   refine ai (aG (j1 0 _ rfl)) ?_
   refine ay hp (λhp=>?_) λhp=>?_
   ·exact ih rfl rfl ⟨w0,s0,DS,Ky⟩ hp
   ·exact aR.j1_P rfl rfl ⟨w0,s0,DS,Ky⟩ hp
  ·exact aR.j1_P rfl rfl ⟨w0,s0,DS,Ky⟩ hp
def aR.pj2 (F:Nat)  (sY:Int) (yt:as5) (sZ:Int) (s_:Int):Option (Int×List Int):=aR.pl30 F F sY yt sZ s_
theorem aR.j2_P   {sY akt sZ s_ Xl Xm Kz KA AU Xn Xo yt Xp Xq} (aku:Kz=yt.length) (akv:KA=Xp.length) (h0:Out H0 Ri H (Rs.own ⟨Xm,KA,Xo⟩ eI.z Xq::Rs.blk AU [.i akt,.sl ⟨Xm,KA,Xo⟩]::R0) λR=>ROs eI H R ⟨Xl,Kz,Xn⟩ yt/\CR eI H R Xq Xp) {r:as8} (hp:aR.pj2 F  sY yt sZ s_=some r):Rt (aR.j2 F   sY ⟨Xl,Kz,Xn⟩ AU 0 sZ s_ H) (aR.Q H0 Ri R0  r):=by
 obtain ⟨w0,s0,akw,akx⟩:=h0
 subst aku
 subst akv
 unfold aR.pj2 at hp
 unfold aR.j2
 exact aR.l30_P F rfl rfl ⟨w0,s0,akw,akx⟩ hp
def aR.pl14 (F:Nat) :Nat->Int->List Int->Int->Int->Option (Int×List Int)
 | 0,_,_,_,_=>none
 | k+1,ja,mb,gz,hK=>(bif (decide (gz<hK)) then ((ix mb gz).bind λn1=>(bif ((gt mb n1)==0) then (aR.pl14 F k ja mb (wrap .i64 (gz+1)) hK) else (aR.pj2 F ja mb gz hK))) else (aR.pj2 F ja mb gz hK))
theorem aR.l14_P  :∀ k,aR.S14 H0 Ri R0  (aR.l14 F   k) (aR.pl14 F  k):=by
 intro k
 induction k with
 | zero=>unfold aR.S14;intros;rename_i hp;cases hp
 | succ k ih=>
  intro ja Xd gz hK Kh Ki DO DP ez Kj Kk mb Kl Km H aky akz h0 r hp
  obtain ⟨w0,s0,DT,KB⟩:=h0
  subst aky
  subst akz
  unfold aR.pl14 at hp
  unfold aR.l14
  refine ay hp (λhp=>?_) λhp=>?_
  ·obtain ⟨n1,g1,hp⟩:=ag hp
   obtain ⟨p1,q1,i1,h1,j1⟩:=ROs.ixr DT rfl g1
   refine ai i1 ?_
   have h1:_=[_]:=h1
   subst h1
   refine ai (aG (j1 0 _ rfl)) ?_
   refine ay hp (λhp=>?_) λhp=>?_
   ·exact ih rfl rfl ⟨w0,s0,DT,KB⟩ hp
   ·exact aR.j2_P rfl rfl ⟨w0,s0,DT,KB⟩ hp
  ·exact aR.j2_P rfl rfl ⟨w0,s0,DT,KB⟩ hp
def aR.p (F:Nat) (aa:Int) (jF:as5):Option (Int×List Int):=aR.pl14 F F aa jF 0 (jF.length:Int)
theorem aR.P {aa yu qz yv jF} (KC:qz=jF.length) (h0:Inn H R0 λR=>ROs eI H R ⟨yu,qz,yv⟩ jF) {r:as8} (hp:aR.p F aa jF=some r):Rt (aR.tw F aa ⟨yu,qz,yv⟩ H) (aR.Q H R0 R0  r):=by
 obtain ⟨w0,KD⟩:=h0
 subst KC
 unfold aR.p at hp
 unfold aR.tw aR.twX
 have s0:=w0.rf
 refine aS w0 λH1 w1 s1=>?_
 obtain ⟨w2,s2⟩:=w1.nilS eI.z (by decide)
 exact aR.l14_P F rfl rfl ⟨w2,(s0.trans (s1.trans s2)),(KD.step (s1.trans s2)),(CR.empty:CR eI _ _ [] [])⟩ hp
def aI.Q (H0:Hp) (Ri R0:as2)  (r:as8) (v:AV) (H':Hp):Prop:=∃ o1a:ON,∃ o1n:Nat,∃ o1c:Cap,∃ o1k:List AV,v=(.agg [(.i r.1),(.sl ⟨o1a,o1n,o1c⟩)])/\o1n=(r.2).length/\Out H0 Ri H' (Rs.own ⟨o1a,o1n,o1c⟩ eI.z o1k::R0) λR=>CR eI H' R o1k (r.2)
def aI.S509 (H0:Hp) (Ri R0:as2)  (C:Nat->Nat->Nat->Nat->Nat->Nat->Int->Sl->Int->Hp->OA) (pC:Int->List Int->Int->List Int->Int->List Int->Int->Option (Int×List Int)):Prop:=∀ {qA vS Xr hP gA KE KF KG KH DU lQ DV nK DW nL DX KI KJ KK KL nh qB KM md KN KO},∀ {H:Hp},DU=nh.length->DV=qB.length->DW=KM.length->DX=md.length->(Out H0 Ri H (Rs.blk lQ [.i qA,.sl ⟨KE,DU,KI⟩]::Rs.blk nK [.i vS,.sl ⟨KF,DV,KJ⟩]::Rs.own ⟨KG,DW,KK⟩ eI.z KN::Rs.blk nL [.i Xr,.sl ⟨KG,DW,KK⟩]::Rs.own ⟨KH,DX,KL⟩ eI.z KO::R0) λR=>ROs eI H R ⟨KE,DU,KI⟩ nh/\ROs eI H R ⟨KF,DV,KJ⟩ qB/\CR eI H R KN KM/\CR eI H R KO md)->∀ {r:as8},pC qA nh vS qB hP md gA=some r->Rt (C lQ 0 nK 0 nL 0 hP ⟨KH,DX,KL⟩ gA H) (aI.Q H0 Ri R0  r)
def aI.S1021 (H0:Hp) (Ri R0:as2)  (C:Nat->Nat->Nat->Nat->Int->Sl->Int->Hp->OA) (pC:Int->List Int->Int->List Int->Int->Option (Int×List Int)):Prop:=∀ {qC Xs hO cZ KP KQ KR DY lP DZ nJ D_ KS KT KU ni KV mf KW KX},∀ {H:Hp},DY=ni.length->DZ=KV.length->D_=mf.length->(Out H0 Ri H (Rs.blk lP [.i qC,.sl ⟨KP,DY,KS⟩]::Rs.own ⟨KQ,DZ,KT⟩ eI.z KW::Rs.blk nJ [.i Xs,.sl ⟨KQ,DZ,KT⟩]::Rs.own ⟨KR,D_,KU⟩ eI.z KX::R0) λR=>ROs eI H R ⟨KP,DY,KS⟩ ni/\CR eI H R KW KV/\CR eI H R KX mf)->∀ {r:as8},pC qC ni hO mf cZ=some r->Rt (C lP 0 nJ 0 hO ⟨KR,D_,KU⟩ cZ H) (aI.Q H0 Ri R0  r)
def aI.pj1 (F:Nat)  (jb:Int) (yw:as5):Option (Int×List Int):=(aR.p F jb yw).bind λr3=>some (r3.1,r3.2)
theorem aI.j1_P   {akA jb Xt Xu KY pB KZ Xv Xw Xx yw Xy Xz} (akB:KY=Xx.length) (akC:KZ=yw.length) (h0:Out H0 Ri H (Rs.own ⟨Xt,KY,Xv⟩ eI.z Xy::Rs.blk pB [.i akA,.sl ⟨Xt,KY,Xv⟩]::Rs.own ⟨Xu,KZ,Xw⟩ eI.z Xz::R0) λR=>CR eI H R Xy Xx/\CR eI H R Xz yw) {r:as8} (hp:aI.pj1 F  jb yw=some r):Rt (aI.j1 F (aR.tw F)  pB 0 jb ⟨Xu,KZ,Xw⟩ H) (aI.Q H0 Ri R0  r):=by
 obtain ⟨w0,s0,asq,akD⟩:=h0
 subst akB
 subst akC
 unfold aI.pj1 at hp
 unfold aI.j1
 obtain ⟨w1,s1⟩:=w0.pp [2,0,1] 3
 have f2:=W.borrow1 eI w1 (akD.step s1)
 obtain ⟨w2,s2⟩:=w1.right1
 obtain ⟨r3,e3,hp⟩:=ag hp
 refine aE (aR.P rfl ⟨w2,f2⟩ e3) ?_
 rintro _ H4 ⟨o1a_4,o1n_4,o1c_4,o1k_4,rfl,rfl,w4,s4,f4_0⟩
 obtain ⟨w5,s5⟩:=W.frame1 w1 w4 s4
 refine br (br (br (br (br ?_))))
 refine aq w5 3 λH6 w6 s6=>?_
 refine aq w6 3 λH7 w7 s7=>?_
 refine lI w7 3 ?_
 refine lSl w7 3 ?_
 obtain ⟨w8,s8⟩:=w7.pp [1] 4
 exact az hp ⟨_,_,_,_,rfl,rfl,w8,(s0.trans (s1.trans (s5.trans (s6.trans (s7.trans s8))))),((CR.flat (fA .i64) f4_0).step (s6.trans (s7.trans s8)))⟩
def aI.pl1021 (F:Nat) :Nat->Int->List Int->Int->List Int->Int->Option (Int×List Int)
 | 0,_,_,_,_,_=>none
 | k+1,qC,ni,hO,mf,cZ=>(bif (decide (cZ<(ni.length:Int))) then ((ix mf (wrap .i64 ((wrap .i64 (qC - hO))+cZ))).bind λn1=>(ix ni cZ).bind λn2=>(ix mf (wrap .i64 ((wrap .i64 (qC - hO))+cZ))).bind λn3=>(some (mf.set n3 (wrap .i64 ((gt mf n1)+(gt ni n2))))).bind λl4=>aI.pl1021 F k qC ni hO l4 (wrap .i64 (cZ+1))) else (aI.pj1 F hO mf))
theorem aI.l1021_P  :∀ k,aI.S1021 H0 Ri R0  (aI.l1021 F (aR.tw F)  k) (aI.pl1021 F  k):=by
 intro k
 induction k with
 | zero=>unfold aI.S1021;intros;rename_i hp;cases hp
 | succ k ih=>
  intro qC Xs hO cZ KP KQ KR DY lP DZ nJ D_ KS KT KU ni KV mf KW KX H akE akF akG h0 r hp
  obtain ⟨w0,s0,XA,XB,Ea⟩:=h0
  subst akE
  subst akF
  subst akG
  unfold aI.pl1021 at hp
  unfold aI.l1021
  refine lSl w0 0 ?_
  refine ay hp (λhp=>?_) λhp=>?_
  ·refine lI w0 0 ?_
   obtain ⟨n1,g1,hp⟩:=ag hp
   obtain ⟨p1,q1,i1,h1,j1⟩:=W.ixo (E:=eI) w0 (i:=3) rfl rfl Ea g1
   refine ai i1 ?_
   have h1:_=[_]:=h1
   subst h1
   refine ai (aG (j1 0 _ rfl)) ?_
   refine lSl w0 0 ?_
   obtain ⟨n2,g2,hp⟩:=ag hp
   obtain ⟨p2,q2,i2,h2,j2⟩:=ROs.ixr XA rfl g2
   refine ai i2 ?_
   have h2:_=[_]:=h2
   subst h2
   refine ai (aG (j2 0 _ rfl)) ?_
   obtain ⟨n3,g3,hp⟩:=ag hp
   obtain ⟨p3,q3,i3,h3,j3⟩:=W.ixo (E:=eI) w0 (i:=3) rfl rfl Ea g3
   refine ai i3 ?_
   obtain ⟨l4,e4,hp⟩:=ag hp
   refine dC eI w0 (i:=3) (j:=0) (p:=p3) rfl rfl Ea g3 i3 e4 rfl rfl (λ_ h=>by have h:_=[_]:=h;subst h;exact rfl) λH5 k5 w5 s5 c5=>?_
   exact ih rfl rfl ((cz e4).symm) ⟨w5,(s0.trans s5),(XA.step s5),(XB.step s5),c5⟩ hp
  ·obtain ⟨w6,s6⟩:=w0.pp [1,2,3] 4
   exact aI.j1_P rfl rfl ⟨w6,(s0.trans s6),(XB.step s6),(Ea.step s6)⟩ hp
def aI.pj2 (F:Nat)  (Eb:Int) (yx:as5) (te:Int) (yy:as5):Option (Int×List Int):=aI.pl1021 F F Eb yx te yy 0
theorem aI.j2_P   {Eb akH te XC XD XE K_ AZ La A_ Lb XF XG XH yx XI yy XJ XK} (akI:K_=yx.length) (akJ:La=XI.length) (akK:Lb=yy.length) (h0:Out H0 Ri H (Rs.blk AZ [.i Eb,.sl ⟨XC,K_,XF⟩]::Rs.own ⟨XD,La,XG⟩ eI.z XJ::Rs.blk A_ [.i akH,.sl ⟨XD,La,XG⟩]::Rs.own ⟨XE,Lb,XH⟩ eI.z XK::R0) λR=>ROs eI H R ⟨XC,K_,XF⟩ yx/\CR eI H R XJ XI/\CR eI H R XK yy) {r:as8} (hp:aI.pj2 F  Eb yx te yy=some r):Rt (aI.j2 F (aR.tw F)  AZ 0 A_ 0 te ⟨XE,Lb,XH⟩ H) (aI.Q H0 Ri R0  r):=by
 obtain ⟨w0,s0,akL,akM,akN⟩:=h0
 subst akI
 subst akJ
 subst akK
 unfold aI.pj2 at hp
 unfold aI.j2
 exact aI.l1021_P F rfl rfl rfl ⟨w0,s0,akL,akM,akN⟩ hp
def aI.pl509 (F:Nat) :Nat->Int->List Int->Int->List Int->Int->List Int->Int->Option (Int×List Int)
 | 0,_,_,_,_,_,_,_=>none
 | k+1,qA,nh,vS,qB,hP,md,gA=>(bif (decide (gA<(nh.length:Int))) then ((ix md (wrap .i64 ((wrap .i64 (qA - hP))+gA))).bind λn1=>(ix nh gA).bind λn2=>(ix md (wrap .i64 ((wrap .i64 (qA - hP))+gA))).bind λn3=>(some (md.set n3 (wrap .i64 ((gt md n1)+(gt nh n2))))).bind λl4=>aI.pl509 F k qA nh vS qB hP l4 (wrap .i64 (gA+1))) else (aI.pj2 F vS qB hP md))
theorem aI.l509_P  :∀ k,aI.S509 H0 Ri R0  (aI.l509 F (aR.tw F)  k) (aI.pl509 F  k):=by
 intro k
 induction k with
 | zero=>unfold aI.S509;intros;rename_i hp;cases hp
 | succ k ih=>
  intro qA vS Xr hP gA KE KF KG KH DU lQ DV nK DW nL DX KI KJ KK KL nh qB KM md KN KO H akO akP akQ akR h0 r hp
  obtain ⟨w0,s0,XL,XM,XN,Ec⟩:=h0
  subst akO
  subst akP
  subst akQ
  subst akR
  unfold aI.pl509 at hp
  unfold aI.l509
  refine lSl w0 0 ?_
  refine ay hp (λhp=>?_) λhp=>?_
  ·refine lI w0 0 ?_
   obtain ⟨n1,g1,hp⟩:=ag hp
   obtain ⟨p1,q1,i1,h1,j1⟩:=W.ixo (E:=eI) w0 (i:=4) rfl rfl Ec g1
   refine ai i1 ?_
   have h1:_=[_]:=h1
   subst h1
   refine ai (aG (j1 0 _ rfl)) ?_
   refine lSl w0 0 ?_
   obtain ⟨n2,g2,hp⟩:=ag hp
   obtain ⟨p2,q2,i2,h2,j2⟩:=ROs.ixr XL rfl g2
   refine ai i2 ?_
   have h2:_=[_]:=h2
   subst h2
   refine ai (aG (j2 0 _ rfl)) ?_
   obtain ⟨n3,g3,hp⟩:=ag hp
   obtain ⟨p3,q3,i3,h3,j3⟩:=W.ixo (E:=eI) w0 (i:=4) rfl rfl Ec g3
   refine ai i3 ?_
   obtain ⟨l4,e4,hp⟩:=ag hp
   refine dC eI w0 (i:=4) (j:=0) (p:=p3) rfl rfl Ec g3 i3 e4 rfl rfl (λ_ h=>by have h:_=[_]:=h;subst h;exact rfl) λH5 k5 w5 s5 c5=>?_
   exact ih rfl rfl rfl ((cz e4).symm) ⟨w5,(s0.trans s5),(XL.step s5),(XM.step s5),(XN.step s5),c5⟩ hp
  ·obtain ⟨w6,s6⟩:=w0.pp [1,2,3,4] 5
   exact aI.j2_P rfl rfl rfl ⟨w6,(s0.trans s6),(XM.step s6),(XN.step s6),(Ec.step s6)⟩ hp
def aI.p (F:Nat) (aa:Int) (aF:as5) (au:Int) (bz:as5):Option (Int×List Int):=(bif ((aF.length:Int)==0) then ((aR.p F au bz).bind λr4=>some (r4.1,r4.2)) else ((bif ((bz.length:Int)==0) then ((aR.p F aa aF).bind λr9=>some (r9.1,r9.2)) else ((mkn (wrap .i64 ((if (wrap .i64 (au+(bz.length:Int)))>(wrap .i64 (aa+(aF.length:Int))) then (wrap .i64 (au+(bz.length:Int))) else (wrap .i64 (aa+(aF.length:Int)))) - (if au<aa then au else aa))) (0:Int)).bind λl14=>aI.pl509 F F aa aF au bz (if au<aa then au else aa) l14 0))))
theorem aI.P {aa au cj eu bD dg ck ev aF bz} (du:bD=aF.length) (gM:dg=bz.length) (h0:Inn H R0 λR=>ROs eI H R ⟨cj,bD,ck⟩ aF/\ROs eI H R ⟨eu,dg,ev⟩ bz) {r:as8} (hp:aI.p F aa aF au bz=some r):Rt (aI.tw F aa ⟨cj,bD,ck⟩ au ⟨eu,dg,ev⟩ H) (aI.Q H R0 R0  r):=by
 obtain ⟨w0,cq,fc⟩:=h0
 subst du
 subst gM
 unfold aI.p at hp
 unfold aI.tw aI.twX
 have s0:=w0.rf
 refine aS w0 λH1 w1 s1=>?_
 refine aS w1 λH2 w2 s2=>?_
 refine aS w2 λH3 w3 s3=>?_
 refine lSl w3 2 ?_
 refine ay hp (λhp=>?_) λhp=>?_
 ·refine lI w3 1 ?_
  refine lSl w3 1 ?_
  obtain ⟨r4,e4,hp⟩:=ag hp
  refine aE (aR.P rfl ⟨w3,(fc.step (s1.trans (s2.trans s3)))⟩ e4) ?_
  rintro _ H5 ⟨o1a_5,o1n_5,o1c_5,o1k_5,rfl,rfl,w5,s5,f5_0⟩
  refine br (br (br (br (br ?_))))
  refine aq w5 1 λH6 w6 s6=>?_
  refine aq w6 1 λH7 w7 s7=>?_
  refine lI w7 1 ?_
  refine lSl w7 1 ?_
  obtain ⟨w8,s8⟩:=w7.pp [0] 4
  exact az hp ⟨_,_,_,_,rfl,rfl,w8,(s0.trans (s1.trans (s2.trans (s3.trans (s5.trans (s6.trans (s7.trans s8))))))),(f5_0.step (s6.trans (s7.trans s8)))⟩
 ·refine lSl w3 1 ?_
  refine ay hp (λhp=>?_) λhp=>?_
  ·refine lI w3 2 ?_
   refine lSl w3 2 ?_
   obtain ⟨r9,e9,hp⟩:=ag hp
   refine aE (aR.P rfl ⟨w3,(cq.step (s1.trans (s2.trans s3)))⟩ e9) ?_
   rintro _ H10 ⟨o1a_10,o1n_10,o1c_10,o1k_10,rfl,rfl,w10,s10,f10_0⟩
   refine br (br (br (br (br ?_))))
   refine aq w10 1 λH11 w11 s11=>?_
   refine aq w11 1 λH12 w12 s12=>?_
   refine lI w12 1 ?_
   refine lSl w12 1 ?_
   obtain ⟨w13,s13⟩:=w12.pp [0] 4
   exact az hp ⟨_,_,_,_,rfl,rfl,w13,(s0.trans (s1.trans (s2.trans (s3.trans (s10.trans (s11.trans (s12.trans s13))))))),(f10_0.step (s11.trans (s12.trans s13)))⟩
  ·refine lI w3 2 ?_
   refine lI w3 1 ?_
   refine lI w3 2 ?_
   refine lSl w3 2 ?_
   refine lI w3 1 ?_
   refine lSl w3 1 ?_
   obtain ⟨l14,e14,hp⟩:=ag hp
   refine ka eI (0:Int) w3 rfl rfl rfl e14 λH15 k15 w15 s15 c15=>?_
   obtain ⟨w16,s16⟩:=w15.nilS eI.z (by decide)
   obtain ⟨w17,s17⟩:=w16.pp [4,3,0,2,1] 5
   exact aI.l509_P F rfl rfl rfl rfl ⟨w17,(s0.trans (s1.trans (s2.trans (s3.trans (s15.trans (s16.trans s17)))))),(cq.step (s1.trans (s2.trans (s3.trans (s15.trans (s16.trans s17)))))),(fc.step (s1.trans (s2.trans (s3.trans (s15.trans (s16.trans s17)))))),((CR.empty:CR eI _ _ [] []).step s17),(c15.step (s16.trans s17))⟩ hp
def aT.Q (H0:Hp) (Ri R0:as2)  (r:as8) (v:AV) (H':Hp):Prop:=∃ o1a:ON,∃ o1n:Nat,∃ o1c:Cap,∃ o1k:List AV,v=(.agg [(.i r.1),(.sl ⟨o1a,o1n,o1c⟩)])/\o1n=(r.2).length/\Out H0 Ri H' (Rs.own ⟨o1a,o1n,o1c⟩ eI.z o1k::R0) λR=>CR eI H' R o1k (r.2)
def aT.S61 (H0:Hp) (Ri R0:as2)  (C:atG) (pC:atM):Prop:=∀ {Lc Ld Le Ed Ee jN Ef iM Lf Lg Lh mg Li oI ct XO qD jd hQ Lj Lk},∀ {H:Hp},Ed=mg.length->Ee=Li.length->Ef=oI.length->(Out H0 Ri H (Rs.own ⟨Ld,Ee,Lg⟩ eI.z Lj::Rs.blk jN [.i XO,.sl ⟨Ld,Ee,Lg⟩]::Rs.own ⟨Le,Ef,Lh⟩ eI.z Lk::Rs.blk iM [.i qD,.sl ⟨Le,Ef,Lh⟩]::R0) λR=>ROs eI H R ⟨Lc,Ed,Lf⟩ mg/\CR eI H R Lj Li/\CR eI H R Lk oI)->∀ {r:as8},pC mg ct qD oI jd hQ=some r->Rt (C ⟨Lc,Ed,Lf⟩ ct jN 0 iM 0 jd hQ H) (aT.Q H0 Ri R0  r)
def aT.pj4 (F:Nat) (ar:atM) (yz:as5) (th:Int) (Eg:Int) (yA:as5) (nN:Int) (jc:Int):Option (Int×List Int):=ar yz th Eg yA nN (wrap .i64 (jc+1))
theorem aT.j4_P  {C61_:atG} {ar:atM} (hC61:aT.S61 H0 Ri R0  C61_ ar) {XP XQ XR Ll Lm Bc Ln kn XS XT XU yz XV yA th akS Eg nN jc XW XX} (akT:Ll=yz.length) (akU:Lm=XV.length) (akV:Ln=yA.length) (h0:Out H0 Ri H (Rs.own ⟨XQ,Lm,XT⟩ eI.z XW::Rs.blk Bc [.i akS,.sl ⟨XQ,Lm,XT⟩]::Rs.own ⟨XR,Ln,XU⟩ eI.z XX::Rs.blk kn [.i Eg,.sl ⟨XR,Ln,XU⟩]::R0) λR=>ROs eI H R ⟨XP,Ll,XS⟩ yz/\CR eI H R XW XV/\CR eI H R XX yA) {r:as8} (hp:aT.pj4 F ar yz th Eg yA nN jc=some r):Rt (aT.j4 F (aI.tw F) C61_ ⟨XP,Ll,XS⟩ th Bc 0 kn 0 nN jc H) (aT.Q H0 Ri R0  r):=by
 obtain ⟨w0,s0,akW,akX,akY⟩:=h0
 subst akT
 subst akU
 subst akV
 unfold aT.pj4 at hp
 unfold aT.j4
 exact hC61 rfl rfl rfl ⟨w0,s0,akW,akX,akY⟩ hp
def aT.pj5 (F:Nat) (ar:atM) (oJ:as5) (gX:Int) (yB:Int) (vT:as5) (nO:Int) (lR:Int):Option (Int×List Int):=(ix oJ lR).bind λn1=>(bif (decide ((gt oJ n1)>0)) then (aT.pj4 F ar oJ gX yB vT (wrap .i64 (nO+1)) lR) else (aT.pj4 F ar oJ gX yB vT (wrap .i64 (nO - 1)) lR))
theorem aT.j5_P  {C61_:atG} {ar:atM} (hC61:aT.S61 H0 Ri R0  C61_ ar) {XY XZ X_ Lo Lp wZ Lq w_ Ya Yb Yc oJ Yd vT gX akZ yB nO lR Ye Yf} (ak0:Lo=oJ.length) (ak1:Lp=Yd.length) (ak2:Lq=vT.length) (h0:Out H0 Ri H (Rs.own ⟨XZ,Lp,Yb⟩ eI.z Ye::Rs.blk wZ [.i akZ,.sl ⟨XZ,Lp,Yb⟩]::Rs.own ⟨X_,Lq,Yc⟩ eI.z Yf::Rs.blk w_ [.i yB,.sl ⟨X_,Lq,Yc⟩]::R0) λR=>ROs eI H R ⟨XY,Lo,Ya⟩ oJ/\CR eI H R Ye Yd/\CR eI H R Yf vT) {r:as8} (hp:aT.pj5 F ar oJ gX yB vT nO lR=some r):Rt (aT.j5 F (aI.tw F) C61_ ⟨XY,Lo,Ya⟩ gX wZ 0 w_ 0 nO lR H) (aT.Q H0 Ri R0  r):=by
 obtain ⟨w0,s0,Lr,Yg,Yh⟩:=h0
 subst ak0
 subst ak1
 subst ak2
 unfold aT.pj5 at hp
 unfold aT.j5
 obtain ⟨n1,g1,hp⟩:=ag hp
 obtain ⟨p1,q1,i1,h1,j1⟩:=ROs.ixr Lr rfl g1
 refine ai i1 ?_
 have h1:_=[_]:=h1
 subst h1
 refine ai (aG (j1 0 _ rfl)) ?_
 refine ay hp (λhp=>?_) λhp=>?_
 ·exact aT.j4_P (@hC61) rfl rfl rfl ⟨w0,s0,Lr,Yg,Yh⟩ hp
 ·exact aT.j4_P (@hC61) rfl rfl rfl ⟨w0,s0,Lr,Yg,Yh⟩ hp
def aT.pj6 (F:Nat) (ar:atM) (oK:as5) (fp:Int) (yC:Int) (vU:as5) (gw:Int) (lT:Int):Option (Int×List Int):=(ix oK lT).bind λn1=>(bif ((gt oK n1)==(wrap .i64 (0 - fp))) then ((aI.p F yC vU (wrap .i64 (gw - 1)) ([(-1)]:List Int)).bind λr6=>aT.pj5 F ar oK fp r6.1 r6.2 gw lT) else (aT.pj5 F ar oK fp yC vU gw lT))
theorem aT.j6_P  {C61_:atG} {ar:atM} (hC61:aT.S61 H0 Ri R0  C61_ ar) {Yi Yj Yk Lt Lu xa Lv mJ Yl Ym Yn oK Yo vU fp ak3 yC gw lT Yp Yq} (ak4:Lt=oK.length) (ak5:Lu=Yo.length) (ak6:Lv=vU.length) (h0:Out H0 Ri H (Rs.own ⟨Yj,Lu,Ym⟩ eI.z Yp::Rs.blk xa [.i ak3,.sl ⟨Yj,Lu,Ym⟩]::Rs.own ⟨Yk,Lv,Yn⟩ eI.z Yq::Rs.blk mJ [.i yC,.sl ⟨Yk,Lv,Yn⟩]::R0) λR=>ROs eI H R ⟨Yi,Lt,Yl⟩ oK/\CR eI H R Yp Yo/\CR eI H R Yq vU) {r:as8} (hp:aT.pj6 F ar oK fp yC vU gw lT=some r):Rt (aT.j6 F (aI.tw F) C61_ ⟨Yi,Lt,Yl⟩ fp xa 0 mJ 0 gw lT H) (aT.Q H0 Ri R0  r):=by
 obtain ⟨w0,s0,Lw,Yr,Ys⟩:=h0
 subst ak4
 subst ak5
 subst ak6
 unfold aT.pj6 at hp
 unfold aT.j6
 obtain ⟨n1,g1,hp⟩:=ag hp
 obtain ⟨p1,q1,i1,h1,j1⟩:=ROs.ixr Lw rfl g1
 refine ai i1 ?_
 have h1:_=[_]:=h1
 subst h1
 refine ai (aG (j1 0 _ rfl)) ?_
 refine ay hp (λhp=>?_) λhp=>?_
 ·refine lI w0 3 ?_
  refine lSl w0 3 ?_
  refine cK eI w0 (n:=1) (l:=([(-1)]:List Int)) rfl (CR.cons1 rfl CR.empty) rfl λH2 w2 s2 c2=>?_
  obtain ⟨w3,s3⟩:=w2.pp [3,0,1,2,4] 5
  have f4:=W.borrow1 eI w3 (Ys.step (s2.trans s3))
  obtain ⟨w4,s4⟩:=w3.right1
  have f5:=W.borrow1 eI w4 ((c2.step s3).step s4)
  obtain ⟨w5,s5⟩:=w4.right1
  obtain ⟨r6,e6,hp⟩:=ag hp
  refine aE (aI.P rfl (show 1=List.length ([(-1)]:List Int) from rfl) ⟨w5,(f4.step s5),f5⟩ e6) ?_
  rintro _ H7 ⟨o1a_7,o1n_7,o1c_7,o1k_7,rfl,rfl,w7,s7,f7_0⟩
  obtain ⟨w8,s8⟩:=W.frame1 w4 w7 s7
  obtain ⟨w9,s9⟩:=W.frame1 w3 w8 s8
  refine br (br (br (br (br ?_))))
  refine aq w9 5 λH10 w10 s10=>?_
  refine aq w10 5 λH11 w11 s11=>?_
  obtain ⟨w12,s12⟩:=w11.pp [3,4,2,5] 6
  exact aT.j5_P (@hC61) rfl rfl rfl ⟨w12,(s0.trans (s2.trans (s3.trans (s9.trans (s10.trans (s11.trans s12)))))),(Lw.step (s2.trans (s3.trans (s9.trans (s10.trans (s11.trans s12)))))),(Yr.step (s2.trans (s3.trans (s9.trans (s10.trans (s11.trans s12)))))),((CR.flat (fA .i64) f7_0).step (s10.trans (s11.trans s12)))⟩ hp
 ·exact aT.j5_P (@hC61) rfl rfl rfl ⟨w0,s0,Lw,Yr,Ys⟩ hp
def aT.pl61 (F:Nat) :Nat->List Int->Int->Int->List Int->Int->Int->Option (Int×List Int)
 | 0,_,_,_,_,_,_=>none
 | k+1,mg,ct,qD,oI,jd,hQ=>(bif (decide (hQ<(mg.length:Int))) then ((ix mg hQ).bind λn1=>(bif ((gt mg n1)==ct) then ((aI.p F qD oI jd ([1]:List Int)).bind λr6=>aT.pj6 F (aT.pl61 F k) mg ct r6.1 r6.2 jd hQ) else (aT.pj6 F (aT.pl61 F k) mg ct qD oI jd hQ))) else (some (qD,oI)))
theorem aT.l61_P  :∀ k,aT.S61 H0 Ri R0  (aT.l61 F (aI.tw F)  k) (aT.pl61 F  k):=by
 intro k
 induction k with
 | zero=>unfold aT.S61;intros;rename_i hp;cases hp
 | succ k ih=>
  intro Lc Ld Le Ed Ee jN Ef iM Lf Lg Lh mg Li oI ct XO qD jd hQ Lj Lk H ak7 ak8 ak9 h0 r hp
  obtain ⟨w0,s0,Lx,Yt,Ly⟩:=h0
  subst ak7
  subst ak8
  subst ak9
  unfold aT.pl61 at hp
  unfold aT.l61
  refine ay hp (λhp=>?_) λhp=>?_
  ·obtain ⟨n1,g1,hp⟩:=ag hp
   obtain ⟨p1,q1,i1,h1,j1⟩:=ROs.ixr Lx rfl g1
   refine ai i1 ?_
   have h1:_=[_]:=h1
   subst h1
   refine ai (aG (j1 0 _ rfl)) ?_
   refine ay hp (λhp=>?_) λhp=>?_
   ·refine lI w0 3 ?_
    refine lSl w0 3 ?_
    refine cK eI w0 (n:=1) (l:=([1]:List Int)) rfl (CR.cons1 rfl CR.empty) rfl λH2 w2 s2 c2=>?_
    obtain ⟨w3,s3⟩:=w2.pp [3,0,1,2,4] 5
    have f4:=W.borrow1 eI w3 (Ly.step (s2.trans s3))
    obtain ⟨w4,s4⟩:=w3.right1
    have f5:=W.borrow1 eI w4 ((c2.step s3).step s4)
    obtain ⟨w5,s5⟩:=w4.right1
    obtain ⟨r6,e6,hp⟩:=ag hp
    refine aE (aI.P rfl (show 1=List.length ([1]:List Int) from rfl) ⟨w5,(f4.step s5),f5⟩ e6) ?_
    rintro _ H7 ⟨o1a_7,o1n_7,o1c_7,o1k_7,rfl,rfl,w7,s7,f7_0⟩
    obtain ⟨w8,s8⟩:=W.frame1 w4 w7 s7
    obtain ⟨w9,s9⟩:=W.frame1 w3 w8 s8
    refine br (br (br (br (br ?_))))
    refine aq w9 5 λH10 w10 s10=>?_
    refine aq w10 5 λH11 w11 s11=>?_
    obtain ⟨w12,s12⟩:=w11.pp [3,4,2,5] 6
    exact aT.j6_P (@ih) rfl rfl rfl ⟨w12,(s0.trans (s2.trans (s3.trans (s9.trans (s10.trans (s11.trans s12)))))),(Lx.step (s2.trans (s3.trans (s9.trans (s10.trans (s11.trans s12)))))),(Yt.step (s2.trans (s3.trans (s9.trans (s10.trans (s11.trans s12)))))),((CR.flat (fA .i64) f7_0).step (s10.trans (s11.trans s12)))⟩ hp
   ·exact aT.j6_P (@ih) rfl rfl rfl ⟨w0,s0,Lx,Yt,Ly⟩ hp
  ·refine lI w0 3 ?_
   refine lSl w0 3 ?_
   refine aq w0 1 λH13 w13 s13=>?_
   refine aq w13 1 λH14 w14 s14=>?_
   refine lI w14 1 ?_
   refine lSl w14 1 ?_
   obtain ⟨w15,s15⟩:=w14.pp [2] 4
   exact az hp ⟨_,_,_,_,rfl,rfl,w15,(s0.trans (s13.trans (s14.trans s15))),(Ly.step (s13.trans (s14.trans s15)))⟩
def aT.p (F:Nat) (ah:as5) (aA:Int):Option (Int×List Int):=aT.pl61 F F ah aA 0 ([]:List Int) 0 0
theorem aT.P {aB ak aC ah aA} (ba:ak=ah.length) (h0:Inn H R0 λR=>ROs eI H R ⟨aB,ak,aC⟩ ah) {r:as8} (hp:aT.p F ah aA=some r):Rt (aT.tw F ⟨aB,ak,aC⟩ aA H) (aT.Q H R0 R0  r):=by
 obtain ⟨w0,aO⟩:=h0
 subst ba
 unfold aT.p at hp
 unfold aT.tw aT.twX
 have s0:=w0.rf
 refine aS w0 λH1 w1 s1=>?_
 refine aS w1 λH2 w2 s2=>?_
 refine aq w2 0 λH3 w3 s3=>?_
 refine aq w3 0 λH4 w4 s4=>?_
 obtain ⟨w5,s5⟩:=w4.nilS eI.z (by decide)
 obtain ⟨w6,s6⟩:=w5.nilS eI.z (by decide)
 obtain ⟨w7,s7⟩:=w6.pp [1,3,0,2] 4
 exact aT.l61_P F rfl rfl rfl ⟨w7,(s0.trans (s1.trans (s2.trans (s3.trans (s4.trans (s5.trans (s6.trans s7))))))),(aO.step (s1.trans (s2.trans (s3.trans (s4.trans (s5.trans (s6.trans s7))))))),((CR.empty:CR eI _ _ [] []).step (s6.trans s7)),((CR.empty:CR eI _ _ [] []).step s7)⟩ hp
def a_.Q (H0:Hp) (Ri R0:as2)  (r:(List ((List (Int×List Int))))) (v:AV) (H':Hp):Prop:=∃ o0a:ON,∃ o0n:Nat,∃ o0c:Cap,∃ o0k:List AV,v=(.sl ⟨o0a,o0n,o0c⟩)/\o0n=(r).length/\Out H0 Ri H' (Rs.own ⟨o0a,o0n,o0c⟩ (eSl (ac eI (eSl eI))).z o0k::R0) λR=>CR (eSl (ac eI (eSl eI))) H' R o0k (r)
def a_.S125 (H0:Hp) (Ri R0:as2)  (C:ats) (pC:atN):Prop:=∀ {Lz LA Eh Ei LB LC qE LD LE mK kr qF},∀ {H:Hp},Eh=qE.length->Ei=qF.length->(Out H0 Ri H (Rs.own ⟨Lz,Eh,LB⟩ (eSl (ac eI (eSl eI))).z LD::Rs.own ⟨LA,Ei,LC⟩ (eSl eI).z LE::R0) λR=>CR (eSl (ac eI (eSl eI))) H R LD qE/\CR (eSl eI) H R LE qF)->∀ {r:(List ((List (Int×List Int))))},pC qE mK qF kr=some r->Rt (C ⟨Lz,Eh,LB⟩ mK ⟨LA,Ei,LC⟩ kr H) (a_.Q H0 Ri R0  r)
def a_.S8021 (H0:Hp) (Ri R0:as2)  (C:Sl->Int->Sl->Int->Sl->Int->Hp->OA) (pC:List ((List (Int×List Int)))->Int->List (List Int)->Int->List (Int×List Int)->Int->Option ((List ((List (Int×List Int)))))):Prop:=∀ {LF LG LI Ej Ek El LJ LL LM qG LN LP LQ je jf jg nj qH},∀ {H:Hp},Ej=qG.length->Ek=nj.length->El=qH.length->(Out H0 Ri H (Rs.own ⟨LF,Ej,LJ⟩ (eSl (ac eI (eSl eI))).z LN::Rs.own ⟨LG,Ek,LL⟩ (eSl eI).z LP::Rs.own ⟨LI,El,LM⟩ (ac eI (eSl eI)).z LQ::R0) λR=>CR (eSl (ac eI (eSl eI))) H R LN qG/\CR (eSl eI) H R LP nj/\CR (ac eI (eSl eI)) H R LQ qH)->∀ {r:(List ((List (Int×List Int))))},pC qG je nj jf qH jg=some r->Rt (C ⟨LF,Ej,LJ⟩ je ⟨LG,Ek,LL⟩ jf ⟨LI,El,LM⟩ jg H) (a_.Q H0 Ri R0  r)
def a_.pj3 (F:Nat) (bt:atN) (yD:atk) (nM:Int) (yE:ate) (jc:Int):Option ((List ((List (Int×List Int))))):=bt yD nM yE (wrap .i64 (jc+1))
theorem a_.j3_P  {C125_:ats} {bt:atN} (hC125:a_.S125 H0 Ri R0  C125_ bt) {Yu Yv LR LS Yw Yx yD Yy Yz nM jc yE} (ak_:LR=yD.length) (ala:LS=yE.length) (h0:Out H0 Ri H (Rs.own ⟨Yu,LR,Yw⟩ (eSl (ac eI (eSl eI))).z Yy::Rs.own ⟨Yv,LS,Yx⟩ (eSl eI).z Yz::R0) λR=>CR (eSl (ac eI (eSl eI))) H R Yy yD/\CR (eSl eI) H R Yz yE) {r:(List ((List (Int×List Int))))} (hp:a_.pj3 F bt yD nM yE jc=some r):Rt (a_.j3 F (aj.tw F) (bi.tw F) (aT.tw F) C125_ ⟨Yu,LR,Yw⟩ nM ⟨Yv,LS,Yx⟩ jc H) (a_.Q H0 Ri R0  r):=by
 obtain ⟨w0,s0,alb,alc⟩:=h0
 subst ak_
 subst ala
 unfold a_.pj3 at hp
 unfold a_.j3
 exact hC125 rfl rfl ⟨w0,s0,alb,alc⟩ hp
def a_.pj4 (F:Nat) (bt:atN) (yF:atk) (jb:Int) (yG:ate) (nI:Int) (qI:atl):Option ((List ((List (Int×List Int))))):=(apn yF ([qI]:List ((List (Int×List Int))))).bind λl3=>a_.pj3 F bt l3 jb yG nI
theorem a_.j4_P  {C125_:ats} {bt:atN} (hC125:a_.S125 H0 Ri R0  C125_ bt) {YA YB YC LT LU LV YD YE YF yF YG YH YI jb nI yG qI} (ald:LT=yF.length) (ale:LU=yG.length) (alf:LV=qI.length) (h0:Out H0 Ri H (Rs.own ⟨YA,LT,YD⟩ (eSl (ac eI (eSl eI))).z YG::Rs.own ⟨YB,LU,YE⟩ (eSl eI).z YH::Rs.own ⟨YC,LV,YF⟩ (ac eI (eSl eI)).z YI::R0) λR=>CR (eSl (ac eI (eSl eI))) H R YG yF/\CR (eSl eI) H R YH yG/\CR (ac eI (eSl eI)) H R YI qI) {r:(List ((List (Int×List Int))))} (hp:a_.pj4 F bt yF jb yG nI qI=some r):Rt (a_.j4 F (aj.tw F) (bi.tw F) (aT.tw F) C125_ ⟨YA,LT,YD⟩ jb ⟨YB,LU,YE⟩ nI ⟨YC,LV,YF⟩ H) (a_.Q H0 Ri R0  r):=by
 obtain ⟨w0,s0,alg,alh,ali⟩:=h0
 subst ald
 subst ale
 subst alf
 unfold a_.pj4 at hp
 unfold a_.j4
 obtain ⟨w1,s1,f1⟩:=w0.frz (i:=2) (ac eI (eSl eI)) rfl ali
 refine cK (eSl (ac eI (eSl eI))) w1 (n:=1) (l:=([qI]:List ((List (Int×List Int))))) rfl (CR.cons1 ⟨_,rfl,f1⟩ CR.empty) rfl λH2 w2 s2 c2=>?_
 refine ai (w2.rowo (i:=0) rfl) ?_
 obtain ⟨l3,e3,hp⟩:=ag hp
 refine fz (eSl (ac eI (eSl eI))) w2 (i:=1) rfl rfl (alg.step (s1.trans s2)) c2 (show 1=List.length ([qI]:List ((List (Int×List Int)))) from rfl) rfl e3 λa4 d4 H4 w4 s4 c4 x4=>?_
 obtain ⟨w5,s5⟩:=w4.pp [1,2] 3
 exact a_.j3_P (@hC125) rfl rfl ⟨w5,(s0.trans (s1.trans (s2.trans (s4.trans s5)))),(c4.step s5),(alh.step (s1.trans (s2.trans (s4.trans s5))))⟩ hp
def a_.pl8021 (F:Nat) (bt:atN):Nat->List ((List (Int×List Int)))->Int->List (List Int)->Int->List (Int×List Int)->Int->Option ((List ((List (Int×List Int)))))
 | 0,_,_,_,_,_,_=>none
 | k+1,qG,je,nj,jf,qH,jg=>(bif (decide (jg<=je)) then ((ix nj jf).bind λn1=>(aT.p F (gt nj n1) jg).bind λr2=>(apn qH ([(r2.1,r2.2)]:List (Int×List Int))).bind λl6=>a_.pl8021 F bt k qG je nj jf l6 (wrap .i64 (jg+1))) else (a_.pj4 F bt qG je nj jf qH))
theorem a_.l8021_P  {C125_:ats} {bt:atN} (hC125:a_.S125 H0 Ri R0  C125_ bt):∀ k,a_.S8021 H0 Ri R0  (a_.l8021 F (aj.tw F) (bi.tw F) (aT.tw F) C125_ k) (a_.pl8021 F bt k):=by
 intro k
 induction k with
 | zero=>unfold a_.S8021;intros;rename_i hp;cases hp
 | succ k ih=>
  intro LF LG LI Ej Ek El LJ LL LM qG LN LP LQ je jf jg nj qH H alj alk alm h0 r hp
  obtain ⟨w0,s0,YJ,LW,YK⟩:=h0
  subst alj
  subst alk
  subst alm
  unfold a_.pl8021 at hp
  unfold a_.l8021
  refine ay hp (λhp=>?_) λhp=>?_
  ·obtain ⟨n1,g1,hp⟩:=ag hp
   obtain ⟨p1,q1,i1,h1,j1⟩:=W.ixo (E:=(eSl eI)) w0 (i:=1) rfl rfl LW g1
   refine ai i1 ?_
   obtain ⟨⟨YL,m1_0,c1_0⟩,rfl,f1_0⟩:=h1
   obtain rfl:m1_0=_:=f1_0.n
   refine ai (iE (j1 0 _ rfl)) ?_
   obtain ⟨r2,e2,hp⟩:=ag hp
   refine aE (aT.P rfl ⟨w0,f1_0⟩ e2) ?_
   rintro _ H3 ⟨o1a_3,o1n_3,o1c_3,o1k_3,rfl,rfl,w3,s3,f3_0⟩
   refine br (br (br (br (br ?_))))
   obtain ⟨w4,s4,f4⟩:=w3.frz (i:=0) eI rfl f3_0
   refine cK (ac eI (eSl eI)) w4 (n:=1) (l:=([(r2.1,r2.2)]:List (Int×List Int))) rfl (CR.cons (c:=[_,_]) ⟨[_],_,rfl,rfl,⟨_,rfl,f4⟩⟩ CR.empty) rfl λH5 w5 s5 c5=>?_
   refine ai (w5.rowo (i:=0) rfl) ?_
   obtain ⟨l6,e6,hp⟩:=ag hp
   refine fz (ac eI (eSl eI)) w5 (i:=3) rfl rfl (YK.step (s3.trans (s4.trans s5))) c5 (show 1=List.length ([(r2.1,r2.2)]:List (Int×List Int)) from rfl) rfl e6 λa7 d7 H7 w7 s7 c7 x7=>?_
   obtain ⟨w8,s8⟩:=w7.pp [1,2,3] 4
   exact ih rfl rfl rfl ⟨w8,(s0.trans (s3.trans (s4.trans (s5.trans (s7.trans s8))))),(YJ.step (s3.trans (s4.trans (s5.trans (s7.trans s8))))),(LW.step (s3.trans (s4.trans (s5.trans (s7.trans s8))))),(c7.step s8)⟩ hp
  ·exact a_.j4_P (@hC125) rfl rfl rfl ⟨w0,s0,YJ,LW,YK⟩ hp
def a_.pl125 (F:Nat) :Nat->List ((List (Int×List Int)))->Int->List (List Int)->Int->Option ((List ((List (Int×List Int)))))
 | 0,_,_,_,_=>none
 | k+1,qE,mK,qF,kr=>(bif (decide (kr<(qF.length:Int))) then (a_.pl8021 F (a_.pl125 F k) F qE mK qF kr ([]:List (Int×List Int)) 1) else (some qE))
theorem a_.l125_P  :∀ k,a_.S125 H0 Ri R0  (a_.l125 F (aj.tw F) (bi.tw F) (aT.tw F)  k) (a_.pl125 F  k):=by
 intro k
 induction k with
 | zero=>unfold a_.S125;intros;rename_i hp;cases hp
 | succ k ih=>
  intro Lz LA Eh Ei LB LC qE LD LE mK kr qF H aln alo h0 r hp
  obtain ⟨w0,s0,YM,alp⟩:=h0
  subst aln
  subst alo
  unfold a_.pl125 at hp
  unfold a_.l125
  refine ay hp (λhp=>?_) λhp=>?_
  ·refine cK (ac eI (eSl eI)) w0 (n:=0) (l:=([]:List (Int×List Int))) rfl CR.empty rfl λH1 w1 s1 c1=>?_
   obtain ⟨w2,s2⟩:=w1.pp [1,2,0] 3
   exact a_.l8021_P (@ih) F rfl rfl (show 0=List.length ([]:List (Int×List Int)) from rfl) ⟨w2,(s0.trans (s1.trans s2)),(YM.step (s1.trans s2)),(alp.step (s1.trans s2)),(c1.step s2)⟩ hp
  ·obtain ⟨w3,s3⟩:=w0.pp [0] 2
   exact az hp ⟨_,_,_,_,rfl,rfl,w3,(s0.trans s3),(YM.step s3)⟩
def a_.p (F:Nat) (ah:ata) (af:Int):Option ((List ((List (Int×List Int))))):=(aj.p F ah af).bind λr3=>(bi.p F ah af).bind λr5=>a_.pl125 F F ([]:List ((List (Int×List Int)))) r3.2 r5 0
theorem a_.P {aB ak aC ah af} (ba:ak=ah.length) (h0:Inn H R0 λR=>ROs (ac eI (ac eI (ac eI (ac eI eI)))) H R ⟨aB,ak,aC⟩ ah) {r:(List ((List (Int×List Int))))} (hp:a_.p F ah af=some r):Rt (a_.tw F ⟨aB,ak,aC⟩ af H) (a_.Q H R0 R0  r):=by
 obtain ⟨w0,aO⟩:=h0
 subst ba
 unfold a_.p at hp
 unfold a_.tw a_.twX
 have s0:=w0.rf
 refine aS w0 λH1 w1 s1=>?_
 refine cK (eSl (ac eI (eSl eI))) w1 (n:=0) (l:=([]:List ((List (Int×List Int))))) rfl CR.empty rfl λH2 w2 s2 c2=>?_
 refine lSl w2 1 ?_
 refine lI w2 1 ?_
 obtain ⟨r3,e3,hp⟩:=ag hp
 refine aE (aj.P rfl ⟨w2,(aO.step (s1.trans s2))⟩ e3) ?_
 rintro _ H4 ⟨o0a_4,o0n_4,o0c_4,o0k_4,rfl,rfl,w4,s4,f4_0⟩
 refine br (br (br (br (br ?_))))
 refine lSl w4 2 ?_
 refine lI w4 2 ?_
 obtain ⟨r5,e5,hp⟩:=ag hp
 refine aE (bi.P rfl ⟨w4,(aO.step (s1.trans (s2.trans s4)))⟩ e5) ?_
 rintro _ H6 ⟨o0a_6,o0n_6,o0c_6,o0k_6,rfl,rfl,w6,s6,f6_0⟩
 refine br ?_
 obtain ⟨w7,s7⟩:=w6.pp [2,0] 4
 exact a_.l125_P F (show 0=List.length ([]:List ((List (Int×List Int)))) from rfl) rfl ⟨w7,(s0.trans (s1.trans (s2.trans (s4.trans (s6.trans s7))))),(c2.step (s4.trans (s6.trans s7))),(f6_0.step s7)⟩ hp
def aH.Q (H0:Hp) (Ri R0:as2)  (r:as8) (v:AV) (H':Hp):Prop:=∃ o1a:ON,∃ o1n:Nat,∃ o1c:Cap,∃ o1k:List AV,v=(.agg [(.i r.1),(.sl ⟨o1a,o1n,o1c⟩)])/\o1n=(r.2).length/\Out H0 Ri H' (Rs.own ⟨o1a,o1n,o1c⟩ eI.z o1k::R0) λR=>CR eI H' R o1k (r.2)
def aH.S61 (H0:Hp) (Ri R0:as2)  (C:atH) (pC:atO):Prop:=∀ {nk vV YN kt qJ LX LY LZ nl fa Em nR En nS Er qK L_ Ma Mb lA vW Mc qL Md Me},∀ {H:Hp},nl=lA.length->Em=vW.length->En=Mc.length->Er=qL.length->(Out H0 Ri H (Rs.blk fa [.i nk,.sl ⟨qJ,nl,qK⟩]::Rs.blk nR [.i vV,.sl ⟨LX,Em,L_⟩]::Rs.own ⟨LY,En,Ma⟩ eI.z Md::Rs.blk nS [.i YN,.sl ⟨LY,En,Ma⟩]::Rs.own ⟨LZ,Er,Mb⟩ eI.z Me::R0) λR=>ROs eI H R ⟨qJ,nl,qK⟩ lA/\ROs eI H R ⟨LX,Em,L_⟩ vW/\CR eI H R Md Mc/\CR eI H R Me qL)->∀ {r:as8},pC nk lA vV vW qL kt=some r->Rt (C fa 0 nR 0 nS 0 ⟨LZ,Er,Mb⟩ kt H) (aH.Q H0 Ri R0  r)
def aH.S981 (H0:Hp) (Ri R0:as2)  (C:atC) (pC:Int->List Int->Int->List Int->List Int->Int->Int->Option (Int×List Int)):Prop:=∀ {vX vY YO gB gC Mf Mg Mh Mi Es mL Et lU Eu nQ Ev Mj Ml Mm Mn nm mh Mo mi Mp Mq},∀ {H:Hp},Es=nm.length->Et=mh.length->Eu=Mo.length->Ev=mi.length->(Out H0 Ri H (Rs.blk mL [.i vX,.sl ⟨Mf,Es,Mj⟩]::Rs.blk lU [.i vY,.sl ⟨Mg,Et,Ml⟩]::Rs.own ⟨Mh,Eu,Mm⟩ eI.z Mp::Rs.blk nQ [.i YO,.sl ⟨Mh,Eu,Mm⟩]::Rs.own ⟨Mi,Ev,Mn⟩ eI.z Mq::R0) λR=>ROs eI H R ⟨Mf,Es,Mj⟩ nm/\ROs eI H R ⟨Mg,Et,Ml⟩ mh/\CR eI H R Mp Mo/\CR eI H R Mq mi)->∀ {r:as8},pC vX nm vY mh mi gB gC=some r->Rt (C mL 0 lU 0 nQ 0 ⟨Mi,Ev,Mn⟩ gB gC H) (aH.Q H0 Ri R0  r)
def aH.pj4 (F:Nat) (ar:atO) (Ew:Int) (yH:as5) (Ex:Int) (yI:as5) (yJ:as5) (tl:Int):Option (Int×List Int):=ar Ew yH Ex yI yJ (wrap .i64 (tl+1))
theorem aH.j4_P  {C61_:atH} {ar:atO} (hC61:aH.S61 H0 Ri R0  C61_ ar) {Ew Ex alq tl YP YQ YR YS Mr Bk Ms Bl Mt Bm Mu YT YU YV YW yH yI YX yJ YY YZ} (alr:Mr=yH.length) (als:Ms=yI.length) (alu:Mt=YX.length) (alv:Mu=yJ.length) (h0:Out H0 Ri H (Rs.blk Bk [.i Ew,.sl ⟨YP,Mr,YT⟩]::Rs.blk Bl [.i Ex,.sl ⟨YQ,Ms,YU⟩]::Rs.own ⟨YR,Mt,YV⟩ eI.z YY::Rs.blk Bm [.i alq,.sl ⟨YR,Mt,YV⟩]::Rs.own ⟨YS,Mu,YW⟩ eI.z YZ::R0) λR=>ROs eI H R ⟨YP,Mr,YT⟩ yH/\ROs eI H R ⟨YQ,Ms,YU⟩ yI/\CR eI H R YY YX/\CR eI H R YZ yJ) {r:as8} (hp:aH.pj4 F ar Ew yH Ex yI yJ tl=some r):Rt (aH.j4 F (aR.tw F) C61_ Bk 0 Bl 0 Bm 0 ⟨YS,Mu,YW⟩ tl H) (aH.Q H0 Ri R0  r):=by
 obtain ⟨w0,s0,alw,alx,aly,alz⟩:=h0
 subst alr
 subst als
 subst alu
 subst alv
 unfold aH.pj4 at hp
 unfold aH.j4
 exact hC61 rfl rfl rfl rfl ⟨w0,s0,alw,alx,aly,alz⟩ hp
def aH.pj5 (F:Nat) (ar:atO) (Ey:Int) (yK:as5) (Ez:Int) (yL:as5) (yM:as5) (tp:Int):Option (Int×List Int):=aH.pj4 F ar Ey yK Ez yL yM tp
theorem aH.j5_P  {C61_:atH} {ar:atO} (hC61:aH.S61 H0 Ri R0  C61_ ar) {Ey Ez Mv tp Y_ Za yN Zb Mw Bn Mx Bo qM jO My Zc Zd yO Ze yK yL yP yM yQ Zf} (alA:Mw=yK.length) (alB:Mx=yL.length) (Mz:qM=yP.length) (alC:My=yM.length) (h0:Out H0 Ri H (Rs.blk Bn [.i Ey,.sl ⟨Y_,Mw,Zc⟩]::Rs.blk Bo [.i Ez,.sl ⟨Za,Mx,Zd⟩]::Rs.own ⟨yN,qM,yO⟩ eI.z yQ::Rs.blk jO [.i Mv,.sl ⟨yN,qM,yO⟩]::Rs.own ⟨Zb,My,Ze⟩ eI.z Zf::R0) λR=>ROs eI H R ⟨Y_,Mw,Zc⟩ yK/\ROs eI H R ⟨Za,Mx,Zd⟩ yL/\CR eI H R yQ yP/\CR eI H R Zf yM) {r:as8} (hp:aH.pj5 F ar Ey yK Ez yL yM tp=some r):Rt (aH.j5 F (aR.tw F) C61_ Bn 0 Bo 0 jO 0 ⟨Zb,My,Ze⟩ tp H) (aH.Q H0 Ri R0  r):=by
 obtain ⟨w0,s0,alD,alE,Zg,alF⟩:=h0
 subst alA
 subst alB
 subst Mz
 subst alC
 unfold aH.pj5 at hp
 unfold aH.j5
 exact aH.j4_P (@hC61) rfl rfl rfl rfl ⟨w0,s0,alD,alE,Zg,alF⟩ hp
def aH.pl981 (F:Nat) (ar:atO):Nat->Int->List Int->Int->List Int->List Int->Int->Int->Option (Int×List Int)
 | 0,_,_,_,_,_,_,_=>none
 | k+1,vX,nm,vY,mh,mi,gB,gC=>(bif (decide (gC<(mh.length:Int))) then ((ix mi (wrap .i64 (gB+gC))).bind λn1=>(ix nm gB).bind λn2=>(ix mh gC).bind λn3=>(ix mi (wrap .i64 (gB+gC))).bind λn4=>(some (mi.set n4 (wrap .i64 ((gt mi n1)+(wrap .i64 ((gt nm n2) * (gt mh n3))))))).bind λl5=>aH.pl981 F ar k vX nm vY mh l5 gB (wrap .i64 (gC+1))) else (aH.pj5 F ar vX nm vY mh mi gB))
theorem aH.l981_P  {C61_:atH} {ar:atO} (hC61:aH.S61 H0 Ri R0  C61_ ar):∀ k,aH.S981 H0 Ri R0  (aH.l981 F (aR.tw F) C61_ k) (aH.pl981 F ar k):=by
 intro k
 induction k with
 | zero=>unfold aH.S981;intros;rename_i hp;cases hp
 | succ k ih=>
  intro vX vY YO gB gC Mf Mg Mh Mi Es mL Et lU Eu nQ Ev Mj Ml Mm Mn nm mh Mo mi Mp Mq H alG alH alI alJ h0 r hp
  obtain ⟨w0,s0,MA,MB,Zh,EA⟩:=h0
  subst alG
  subst alH
  subst alI
  subst alJ
  unfold aH.pl981 at hp
  unfold aH.l981
  refine lSl w0 1 ?_
  refine ay hp (λhp=>?_) λhp=>?_
  ·obtain ⟨n1,g1,hp⟩:=ag hp
   obtain ⟨p1,q1,i1,h1,j1⟩:=W.ixo (E:=eI) w0 (i:=4) rfl rfl EA g1
   refine ai i1 ?_
   have h1:_=[_]:=h1
   subst h1
   refine ai (aG (j1 0 _ rfl)) ?_
   refine lSl w0 0 ?_
   obtain ⟨n2,g2,hp⟩:=ag hp
   obtain ⟨p2,q2,i2,h2,j2⟩:=ROs.ixr MA rfl g2
   refine ai i2 ?_
   have h2:_=[_]:=h2
   subst h2
   refine ai (aG (j2 0 _ rfl)) ?_
   refine lSl w0 1 ?_
   obtain ⟨n3,g3,hp⟩:=ag hp
   obtain ⟨p3,q3,i3,h3,j3⟩:=ROs.ixr MB rfl g3
   refine ai i3 ?_
   have h3:_=[_]:=h3
   subst h3
   refine ai (aG (j3 0 _ rfl)) ?_
   obtain ⟨n4,g4,hp⟩:=ag hp
   obtain ⟨p4,q4,i4,h4,j4⟩:=W.ixo (E:=eI) w0 (i:=4) rfl rfl EA g4
   refine ai i4 ?_
   obtain ⟨l5,e5,hp⟩:=ag hp
   refine dC eI w0 (i:=4) (j:=0) (p:=p4) rfl rfl EA g4 i4 e5 rfl rfl (λ_ h=>by have h:_=[_]:=h;subst h;exact rfl) λH6 k6 w6 s6 c6=>?_
   exact ih rfl rfl rfl ((cz e5).symm) ⟨w6,(s0.trans s6),(MA.step s6),(MB.step s6),(Zh.step s6),c6⟩ hp
  ·exact aH.j5_P (@hC61) rfl rfl rfl rfl ⟨w0,s0,MA,MB,Zh,EA⟩ hp
def aH.pj3 (F:Nat)  (EB:Int) (EC:Int) (yR:as5):Option (Int×List Int):=(aR.p F (wrap .i64 (EB+EC)) yR).bind λr3=>some (r3.1,r3.2)
theorem aH.j3_P   {EB EC alK Zi Zj Zk Zl MC Bh MD Bi ME pD MF Zm Zn Zo Zp Zq Zr Zs yR Zt Zu} (alL:MC=Zq.length) (alM:MD=Zr.length) (alN:ME=Zs.length) (alO:MF=yR.length) (h0:Out H0 Ri H (Rs.blk Bh [.i EB,.sl ⟨Zi,MC,Zm⟩]::Rs.blk Bi [.i EC,.sl ⟨Zj,MD,Zn⟩]::Rs.own ⟨Zk,ME,Zo⟩ eI.z Zt::Rs.blk pD [.i alK,.sl ⟨Zk,ME,Zo⟩]::Rs.own ⟨Zl,MF,Zp⟩ eI.z Zu::R0) λR=>ROs eI H R ⟨Zi,MC,Zm⟩ Zq/\ROs eI H R ⟨Zj,MD,Zn⟩ Zr/\CR eI H R Zt Zs/\CR eI H R Zu yR) {r:as8} (hp:aH.pj3 F  EB EC yR=some r):Rt (aH.j3 F (aR.tw F)  Bh 0 Bi 0 pD 0 ⟨Zl,MF,Zp⟩ H) (aH.Q H0 Ri R0  r):=by
 obtain ⟨w0,s0,asr,ass,ast,alP⟩:=h0
 subst alL
 subst alM
 subst alN
 subst alO
 unfold aH.pj3 at hp
 unfold aH.j3
 refine lI w0 0 ?_
 refine lI w0 1 ?_
 obtain ⟨w1,s1⟩:=w0.pp [4,0,1,2,3] 5
 have f2:=W.borrow1 eI w1 (alP.step s1)
 obtain ⟨w2,s2⟩:=w1.right1
 obtain ⟨r3,e3,hp⟩:=ag hp
 refine aE (aR.P rfl ⟨w2,f2⟩ e3) ?_
 rintro _ H4 ⟨o1a_4,o1n_4,o1c_4,o1k_4,rfl,rfl,w4,s4,f4_0⟩
 obtain ⟨w5,s5⟩:=W.frame1 w1 w4 s4
 refine br (br (br (br (br ?_))))
 refine aq w5 5 λH6 w6 s6=>?_
 refine aq w6 5 λH7 w7 s7=>?_
 refine lI w7 5 ?_
 refine lSl w7 5 ?_
 obtain ⟨w8,s8⟩:=w7.pp [1] 6
 exact az hp ⟨_,_,_,_,rfl,rfl,w8,(s0.trans (s1.trans (s5.trans (s6.trans (s7.trans s8))))),((CR.flat (fA .i64) f4_0).step (s6.trans (s7.trans s8)))⟩
def aH.pl61 (F:Nat) :Nat->Int->List Int->Int->List Int->List Int->Int->Option (Int×List Int)
 | 0,_,_,_,_,_,_=>none
 | k+1,nk,lA,vV,vW,qL,kt=>(bif (decide (kt<(lA.length:Int))) then (aH.pl981 F (aH.pl61 F k) F nk lA vV vW qL kt 0) else (aH.pj3 F nk vV qL))
theorem aH.l61_P  :∀ k,aH.S61 H0 Ri R0  (aH.l61 F (aR.tw F)  k) (aH.pl61 F  k):=by
 intro k
 induction k with
 | zero=>unfold aH.S61;intros;rename_i hp;cases hp
 | succ k ih=>
  intro nk vV YN kt qJ LX LY LZ nl fa Em nR En nS Er qK L_ Ma Mb lA vW Mc qL Md Me H MG alQ alR alS h0 r hp
  obtain ⟨w0,s0,yS,Zv,Zw,Zx⟩:=h0
  subst MG
  subst alQ
  subst alR
  subst alS
  unfold aH.pl61 at hp
  unfold aH.l61
  refine lSl w0 0 ?_
  refine ay hp (λhp=>?_) λhp=>?_
  ·exact aH.l981_P (@ih) F rfl rfl rfl rfl ⟨w0,s0,yS,Zv,Zw,Zx⟩ hp
  ·exact aH.j3_P rfl rfl rfl rfl ⟨w0,s0,yS,Zv,Zw,Zx⟩ hp
def aH.p (F:Nat) (aa:Int) (aF:as5) (au:Int) (bz:as5):Option (Int×List Int):=(bif ((aF.length:Int)==0) then (some (0,([]:List Int))) else ((bif ((bz.length:Int)==0) then (some (0,([]:List Int))) else ((mkn (wrap .i64 ((wrap .i64 ((aF.length:Int)+(bz.length:Int))) - 1)) (0:Int)).bind λl12=>aH.pl61 F F aa aF au bz l12 0))))
theorem aH.P {aa au cj eu bD dg ck ev aF bz} (du:bD=aF.length) (gM:dg=bz.length) (h0:Inn H R0 λR=>ROs eI H R ⟨cj,bD,ck⟩ aF/\ROs eI H R ⟨eu,dg,ev⟩ bz) {r:as8} (hp:aH.p F aa aF au bz=some r):Rt (aH.tw F aa ⟨cj,bD,ck⟩ au ⟨eu,dg,ev⟩ H) (aH.Q H R0 R0  r):=by
 obtain ⟨w0,cq,fc⟩:=h0
 subst du
 subst gM
 unfold aH.p at hp
 unfold aH.tw aH.twX
 have s0:=w0.rf
 refine aS w0 λH1 w1 s1=>?_
 refine aS w1 λH2 w2 s2=>?_
 refine aS w2 λH3 w3 s3=>?_
 refine lSl w3 2 ?_
 refine ay hp (λhp=>?_) λhp=>?_
 ·refine aq w3 0 λH4 w4 s4=>?_
  refine aq w4 0 λH5 w5 s5=>?_
  refine lI w5 0 ?_
  refine lSl w5 0 ?_
  obtain ⟨w6,s6⟩:=w5.nilS eI.z (by decide)
  obtain ⟨w7,s7⟩:=w6.pp [0] 4
  exact az hp ⟨_,_,_,_,rfl,rfl,w7,(s0.trans (s1.trans (s2.trans (s3.trans (s4.trans (s5.trans (s6.trans s7))))))),((CR.empty:CR eI _ _ [] []).step s7)⟩
 ·refine lSl w3 1 ?_
  refine ay hp (λhp=>?_) λhp=>?_
  ·refine aq w3 0 λH8 w8 s8=>?_
   refine aq w8 0 λH9 w9 s9=>?_
   refine lI w9 0 ?_
   refine lSl w9 0 ?_
   obtain ⟨w10,s10⟩:=w9.nilS eI.z (by decide)
   obtain ⟨w11,s11⟩:=w10.pp [0] 4
   exact az hp ⟨_,_,_,_,rfl,rfl,w11,(s0.trans (s1.trans (s2.trans (s3.trans (s8.trans (s9.trans (s10.trans s11))))))),((CR.empty:CR eI _ _ [] []).step s11)⟩
  ·refine lSl w3 2 ?_
   refine lSl w3 1 ?_
   obtain ⟨l12,e12,hp⟩:=ag hp
   refine ka eI (0:Int) w3 rfl rfl rfl e12 λH13 k13 w13 s13 c13=>?_
   obtain ⟨w14,s14⟩:=w13.nilS eI.z (by decide)
   obtain ⟨w15,s15⟩:=w14.pp [4,3,0,2,1] 5
   exact aH.l61_P F rfl rfl rfl rfl ⟨w15,(s0.trans (s1.trans (s2.trans (s3.trans (s13.trans (s14.trans s15)))))),(cq.step (s1.trans (s2.trans (s3.trans (s13.trans (s14.trans s15)))))),(fc.step (s1.trans (s2.trans (s3.trans (s13.trans (s14.trans s15)))))),((CR.empty:CR eI _ _ [] []).step s15),(c13.step (s14.trans s15))⟩ hp
def av.Q (H0:Hp) (Ri R0:as2)  (r:as8) (v:AV) (H':Hp):Prop:=∃ o1a:ON,∃ o1n:Nat,∃ o1c:Cap,v=(.agg [(.i r.1),(.sl ⟨o1a,o1n,o1c⟩)])/\o1n=(r.2).length/\Out H0 Ri H' (R0) λR=>ROs eI H' R ⟨o1a,o1n,o1c⟩ (r.2)
def av.S61 (H0:Hp) (Ri R0:as2)  (C:atu) (pC:ath):Prop:=∀ {MH MI MJ ED EE dN EF MK ML MM vZ dZ Zy kv MN MO MP qN},∀ {H:Hp},ED=vZ.length->EE=MN.length->EF=qN.length->(Out H0 Ri H (Rs.own ⟨MI,EE,ML⟩ eI.z MO::Rs.blk dN [.i Zy,.sl ⟨MI,EE,ML⟩]::Rs.own ⟨MJ,EF,MM⟩ (ac eI (eSl eI)).z MP::R0) λR=>ROs (eSl (ac eI (eSl eI))) H R ⟨MH,ED,MK⟩ vZ/\CR eI H R MO MN/\CR (ac eI (eSl eI)) H R MP qN)->∀ {r:as8},pC vZ dZ qN kv=some r->Rt (C ⟨MH,ED,MK⟩ dZ dN 0 ⟨MJ,EF,MM⟩ kv H) (av.Q H0 Ri R0  r)
def av.S3925 (H0:Hp) (Ri R0:as2)  (C:Sl->Int->Nat->Nat->Sl->Int->Int->Int->Hp->OA) (pC:List ((List (Int×List Int)))->Int->List (Int×List Int)->Int->Int->Int->Option (Int×List Int)):Prop:=∀ {MQ MR MS EG EH nW EI MT MU MV qO jk Zz jl ku hZ MW MX MY qP},∀ {H:Hp},EG=qO.length->EH=MW.length->EI=qP.length->(Out H0 Ri H (Rs.own ⟨MR,EH,MU⟩ eI.z MX::Rs.blk nW [.i Zz,.sl ⟨MR,EH,MU⟩]::Rs.own ⟨MS,EI,MV⟩ (ac eI (eSl eI)).z MY::R0) λR=>ROs (eSl (ac eI (eSl eI))) H R ⟨MQ,EG,MT⟩ qO/\CR eI H R MX MW/\CR (ac eI (eSl eI)) H R MY qP)->∀ {r:as8},pC qO jk qP jl ku hZ=some r->Rt (C ⟨MQ,EG,MT⟩ jk nW 0 ⟨MS,EI,MV⟩ jl ku hZ H) (av.Q H0 Ri R0  r)
def av.S31421 (H0:Hp) (Ri R0:as2)  (C:atW) (pC:atY):Prop:=∀ {MZ M_ Na Nb EJ EK mM EL EM jj Nc Nd Nf Ng jU jh ZA gD ji qQ hY eT Nh oL Ni Nj Nk lC},∀ {H:Hp},EJ=jU.length->EK=Nh.length->EL=lC.length->EM=oL.length->(Out H0 Ri H (Rs.own ⟨M_,EK,Nd⟩ eI.z Ni::Rs.blk mM [.i ZA,.sl ⟨M_,EK,Nd⟩]::Rs.own ⟨Na,EL,Nf⟩ (ac eI (eSl eI)).z Nj::Rs.own ⟨Nb,EM,Ng⟩ eI.z Nk::Rs.blk jj [.i qQ,.sl ⟨Nb,EM,Ng⟩]::R0) λR=>ROs (eSl (ac eI (eSl eI))) H R ⟨MZ,EJ,Nc⟩ jU/\CR eI H R Ni Nh/\CR (ac eI (eSl eI)) H R Nj lC/\CR eI H R Nk oL)->∀ {r:as8},pC jU jh lC gD ji qQ oL hY eT=some r->Rt (C ⟨MZ,EJ,Nc⟩ jh mM 0 ⟨Na,EL,Nf⟩ gD ji jj 0 hY eT H) (av.Q H0 Ri R0  r)
def av.pj13 (F:Nat) (nn:atY) (yT:atk) (tB:Int) (yU:atl) (tC:Int) (tD:Int) (EN:Int) (yV:as5) (tE:Int) (tF:Int):Option (Int×List Int):=nn yT tB yU tC tD EN yV tE (wrap .i64 (tF - 1))
theorem av.j13_P  {C31421_:atW} {nn:atY} (hC31421:av.S31421 H0 Ri R0  C31421_ nn) {ZB ZC ZD ZE Nl Nm Bu Nn No Bv ZF ZG ZH ZI yT tB alT tC tD EN tE tF ZJ yV ZK ZL ZM yU} (alU:Nl=yT.length) (alV:Nm=ZJ.length) (alW:Nn=yU.length) (alX:No=yV.length) (h0:Out H0 Ri H (Rs.own ⟨ZC,Nm,ZG⟩ eI.z ZK::Rs.blk Bu [.i alT,.sl ⟨ZC,Nm,ZG⟩]::Rs.own ⟨ZD,Nn,ZH⟩ (ac eI (eSl eI)).z ZL::Rs.own ⟨ZE,No,ZI⟩ eI.z ZM::Rs.blk Bv [.i EN,.sl ⟨ZE,No,ZI⟩]::R0) λR=>ROs (eSl (ac eI (eSl eI))) H R ⟨ZB,Nl,ZF⟩ yT/\CR eI H R ZK ZJ/\CR (ac eI (eSl eI)) H R ZL yU/\CR eI H R ZM yV) {r:as8} (hp:av.pj13 F nn yT tB yU tC tD EN yV tE tF=some r):Rt (av.j13 F (aH.tw F) (aI.tw F) C31421_ ⟨ZB,Nl,ZF⟩ tB Bu 0 ⟨ZD,Nn,ZH⟩ tC tD Bv 0 tE tF H) (av.Q H0 Ri R0  r):=by
 obtain ⟨w0,s0,alY,alZ,al0,al1⟩:=h0
 subst alU
 subst alV
 subst alW
 subst alX
 unfold av.pj13 at hp
 unfold av.j13
 exact hC31421 rfl rfl rfl rfl ⟨w0,s0,alY,alZ,al0,al1⟩ hp
def av.pj14 (F:Nat) (nn:atY) (yW:atk) (tG:Int) (yX:atl) (tH:Int) (tI:Int) (EO:Int) (yY:as5) (tJ:Int) (tK:Int):Option (Int×List Int):=nn yW tG yX tH tI EO yY tJ (wrap .i64 (tK - 1))
theorem av.j14_P  {C31421_:atW} {nn:atY} (hC31421:av.S31421 H0 Ri R0  C31421_ nn) {ZN ZO ZP ZQ Np Nq Bw Nr Ns Bx ZR ZS ZT ZU yW tG al2 tH tI EO tJ tK ZV yY ZW ZX ZY yX} (al3:Np=yW.length) (al4:Nq=ZV.length) (al5:Nr=yX.length) (al6:Ns=yY.length) (h0:Out H0 Ri H (Rs.own ⟨ZO,Nq,ZS⟩ eI.z ZW::Rs.blk Bw [.i al2,.sl ⟨ZO,Nq,ZS⟩]::Rs.own ⟨ZP,Nr,ZT⟩ (ac eI (eSl eI)).z ZX::Rs.own ⟨ZQ,Ns,ZU⟩ eI.z ZY::Rs.blk Bx [.i EO,.sl ⟨ZQ,Ns,ZU⟩]::R0) λR=>ROs (eSl (ac eI (eSl eI))) H R ⟨ZN,Np,ZR⟩ yW/\CR eI H R ZW ZV/\CR (ac eI (eSl eI)) H R ZX yX/\CR eI H R ZY yY) {r:as8} (hp:av.pj14 F nn yW tG yX tH tI EO yY tJ tK=some r):Rt (av.j14 F (aH.tw F) (aI.tw F) C31421_ ⟨ZN,Np,ZR⟩ tG Bw 0 ⟨ZP,Nr,ZT⟩ tH tI Bx 0 tJ tK H) (av.Q H0 Ri R0  r):=by
 obtain ⟨w0,s0,al7,al8,al9,al_⟩:=h0
 subst al3
 subst al4
 subst al5
 subst al6
 unfold av.pj14 at hp
 unfold av.j14
 exact hC31421 rfl rfl rfl rfl ⟨w0,s0,al7,al8,al9,al_⟩ hp
def av.pj11 (F:Nat) (ar:ath) (yZ:atk) (tu:Int) (y_:atl) (tv:Int):Option (Int×List Int):=ar yZ tu y_ (wrap .i64 (tv+1))
theorem av.j11_P  {C61_:atu} {ar:ath} (hC61:av.S61 H0 Ri R0  C61_ ar) {ZZ Z_ aaa Nt Nu Bs Nv aab aac aad yZ tu ama tv aae aaf aag y_} (amb:Nt=yZ.length) (amc:Nu=aae.length) (amd:Nv=y_.length) (h0:Out H0 Ri H (Rs.own ⟨Z_,Nu,aac⟩ eI.z aaf::Rs.blk Bs [.i ama,.sl ⟨Z_,Nu,aac⟩]::Rs.own ⟨aaa,Nv,aad⟩ (ac eI (eSl eI)).z aag::R0) λR=>ROs (eSl (ac eI (eSl eI))) H R ⟨ZZ,Nt,aab⟩ yZ/\CR eI H R aaf aae/\CR (ac eI (eSl eI)) H R aag y_) {r:as8} (hp:av.pj11 F ar yZ tu y_ tv=some r):Rt (av.j11 F (aH.tw F) (aI.tw F) C61_ ⟨ZZ,Nt,aab⟩ tu Bs 0 ⟨aaa,Nv,aad⟩ tv H) (av.Q H0 Ri R0  r):=by
 obtain ⟨w0,s0,ame,amf,amg⟩:=h0
 subst amb
 subst amc
 subst amd
 unfold av.pj11 at hp
 unfold av.j11
 exact hC61 rfl rfl rfl ⟨w0,s0,ame,amf,amg⟩ hp
def av.pj12 (F:Nat) (ar:ath) (za:atk) (tz:Int) (qR:atl) (nU:Int) (EP:Int) (zb:as5):Option (Int×List Int):=(ix qR nU).bind λn1=>(some (qR.set n1 (EP,(gt qR n1).2))).bind λl2=>(some (l2.set n1 ((gt l2 n1).1,zb))).bind λl5=>av.pj11 F ar za tz l5 nU
theorem av.j12_P  {C61_:atu} {ar:ath} (hC61:av.S61 H0 Ri R0  C61_ ar) {aah aai aaj aak Nw Nx Bt Ny Nz xd aal aam aan aao za tz amh nU EP aap zb aaq aar aas qR} (ami:Nw=za.length) (amj:Nx=aap.length) (amk:Ny=qR.length) (aml:Nz=zb.length) (h0:Out H0 Ri H (Rs.own ⟨aai,Nx,aam⟩ eI.z aaq::Rs.blk Bt [.i amh,.sl ⟨aai,Nx,aam⟩]::Rs.own ⟨aaj,Ny,aan⟩ (ac eI (eSl eI)).z aar::Rs.own ⟨aak,Nz,aao⟩ eI.z aas::Rs.blk xd [.i EP,.sl ⟨aak,Nz,aao⟩]::R0) λR=>ROs (eSl (ac eI (eSl eI))) H R ⟨aah,Nw,aal⟩ za/\CR eI H R aaq aap/\CR (ac eI (eSl eI)) H R aar qR/\CR eI H R aas zb) {r:as8} (hp:av.pj12 F ar za tz qR nU EP zb=some r):Rt (av.j12 F (aH.tw F) (aI.tw F) C61_ ⟨aah,Nw,aal⟩ tz Bt 0 ⟨aaj,Ny,aan⟩ nU xd 0 H) (av.Q H0 Ri R0  r):=by
 obtain ⟨w0,s0,amm,amn,aat,amo⟩:=h0
 subst ami
 subst amj
 subst amk
 subst aml
 unfold av.pj12 at hp
 unfold av.j12
 refine lI w0 4 ?_
 refine lSl w0 4 ?_
 obtain ⟨n1,g1,hp⟩:=ag hp
 obtain ⟨p1,q1,i1,h1,j1⟩:=W.ixo (E:=(ac eI (eSl eI))) w0 (i:=2) rfl rfl aat g1
 refine ai i1 ?_
 obtain ⟨l2,e2,hp⟩:=ag hp
 refine dC (ac eI (eSl eI)) w0 (i:=2) (j:=0) (p:=p1) rfl rfl aat g1 i1 e2 rfl rfl (λ_ h=>by obtain ⟨_,_,rfl,rfl,⟨_,rfl,q1⟩⟩:=h;exact ⟨[_],_,rfl,rfl,⟨_,rfl,q1⟩⟩) λH3 k3 w3 s3 c3=>?_
 obtain ⟨w4,s4,f4⟩:=w3.frz (i:=3) eI rfl (amo.step s3)
 obtain ⟨l5,e5,hp⟩:=ag hp
 refine dC (ac eI (eSl eI)) w4 (i:=2) (j:=1) (p:=p1) rfl rfl (c3.step s4) (mv g1 (cz e2)) i1 e5 rfl rfl (λ_ h=>by obtain ⟨_,_,rfl,rfl,⟨_,rfl,q1⟩⟩:=h;exact ⟨[_],_,rfl,rfl,⟨_,rfl,f4⟩⟩) λH6 k6 w6 s6 c6=>?_
 obtain ⟨w7,s7⟩:=w6.pp [0,1,2] 4
 exact av.j11_P (@hC61) rfl rfl ((cz e2).symm.trans (cz e5).symm) ⟨w7,(s0.trans (s3.trans (s4.trans (s6.trans s7)))),(amm.step (s3.trans (s4.trans (s6.trans s7)))),(amn.step (s3.trans (s4.trans (s6.trans s7)))),(c6.step s7)⟩ hp
def av.pl31421 (F:Nat) (ar:ath):Nat->List ((List (Int×List Int)))->Int->List (Int×List Int)->Int->Int->Int->List Int->Int->Int->Option (Int×List Int)
 | 0,_,_,_,_,_,_,_,_,_=>none
 | k+1,jU,jh,lC,gD,ji,qQ,oL,hY,eT=>(bif (decide (eT>=0)) then ((if (IntKind.u64.wrap eT)<0 then none else ((bif ((Go.bits .and .i64 (Int.fdiv gD (2 ^ (min ((IntKind.u64.wrap eT):Int).toNat (IntKind.i64).bits))) 1)==0) then (av.pj13 F (av.pl31421 F ar k) jU jh lC gD ji qQ oL hY eT) else ((ix jU ji).bind λn2=>(ix (gt jU n2) eT).bind λn3=>(if (IntKind.u64.wrap eT)<0 then none else ((ix lC (wrap .i64 (gD - (wrap .i64 (1 * 2 ^ (min ((IntKind.u64.wrap eT):Int).toNat (IntKind.i64).bits)))))).bind λn5=>(aH.p F ((gt (gt jU n2) n3).1) ((gt (gt jU n2) n3).2) ((gt lC n5).1) ((gt lC n5).2)).bind λr6=>(aH.p F r6.1 r6.2 0 ([hY]:List Int)).bind λr16=>(aI.p F qQ oL r16.1 r16.2).bind λr24=>av.pj14 F (av.pl31421 F ar k) jU jh lC gD ji r24.1 r24.2 (wrap .i64 (0 - hY)) eT))))))) else (av.pj12 F ar jU jh lC gD qQ oL))
theorem av.l31421_P  {C61_:atu} {ar:ath} (hC61:av.S61 H0 Ri R0  C61_ ar):∀ k,av.S31421 H0 Ri R0  (av.l31421 F (aH.tw F) (aI.tw F) C61_ k) (av.pl31421 F ar k):=by
 intro k
 induction k with
 | zero=>unfold av.S31421;intros;rename_i hp;cases hp
 | succ k ih=>
  intro MZ M_ Na Nb EJ EK mM EL EM jj Nc Nd Nf Ng jU jh ZA gD ji qQ hY eT Nh oL Ni Nj Nk lC H amp amq amr ams h0 r hp
  obtain ⟨w0,s0,EQ,NA,ER,NB⟩:=h0
  subst amp
  subst amq
  subst amr
  subst ams
  unfold av.pl31421 at hp
  unfold av.l31421
  refine ay hp (λhp=>?_) λhp=>?_
  ·obtain ⟨g1,hp⟩:=kb hp
   refine kc g1 ?_
   refine ay hp (λhp=>?_) λhp=>?_
   ·exact av.j13_P (@ih) rfl rfl rfl rfl ⟨w0,s0,EQ,NA,ER,NB⟩ hp
   ·obtain ⟨n2,g2,hp⟩:=ag hp
    obtain ⟨p2,q2,i2,h2,j2⟩:=ROs.ixr EQ rfl g2
    refine ai i2 ?_
    obtain ⟨⟨amt,m2_0,c2_0⟩,rfl,f2_0⟩:=h2
    obtain rfl:m2_0=_:=f2_0.n
    refine ai (iE (j2 0 _ rfl)) ?_
    obtain ⟨n3,g3,hp⟩:=ag hp
    obtain ⟨p3,q3,i3,h3,j3⟩:=ROs.ixr f2_0 rfl g3
    refine ai i3 ?_
    obtain ⟨_,_,rfl,rfl,⟨⟨amu,m3_1,c3_1⟩,rfl,f3_1⟩⟩:=h3
    obtain rfl:m3_1=_:=f3_1.n
    refine ai (aG (j3 0 _ rfl)) ?_
    refine ai (iE (j3 1 _ rfl)) ?_
    obtain ⟨g4,hp⟩:=kb hp
    refine kc g4 ?_
    obtain ⟨n5,g5,hp⟩:=ag hp
    obtain ⟨p5,q5,i5,h5,j5⟩:=W.ixo (E:=(ac eI (eSl eI))) w0 (i:=2) rfl rfl ER g5
    refine ai i5 ?_
    obtain ⟨_,_,rfl,rfl,⟨⟨amv,m5_1,c5_1⟩,rfl,f5_1⟩⟩:=h5
    obtain rfl:m5_1=_:=f5_1.n
    refine ai (aG (j5 0 _ rfl)) ?_
    refine ai (iE (j5 1 _ rfl)) ?_
    obtain ⟨r6,e6,hp⟩:=ag hp
    refine aE (aH.P rfl rfl ⟨w0,f3_1,f5_1⟩ e6) ?_
    rintro _ H7 ⟨o1a_7,o1n_7,o1c_7,o1k_7,rfl,rfl,w7,s7,f7_0⟩
    refine br (br (br (br (br ?_))))
    refine eK (W.cons_of (Rn:=[_]) w0 w7 s7) ?_
    refine aS w7 λH9 w9 s9=>?_
    refine aq w9 0 λH10 w10 s10=>?_
    refine aq w10 0 λH11 w11 s11=>?_
    refine lI w11 6 ?_
    refine lSl w11 6 ?_
    refine lI w11 0 ?_
    refine lSl w11 0 ?_
    refine cK eI w11 (n:=1) (l:=([hY]:List Int)) rfl (CR.cons1 rfl CR.empty) rfl λH12 w12 s12 c12=>?_
    obtain ⟨w13,s13⟩:=w12.pp [2,0,1,3,4,5,6,7] 8
    have f14:=W.borrow1 eI w13 (f7_0.step (s9.trans (s10.trans (s11.trans (s12.trans s13)))))
    obtain ⟨w14,s14⟩:=w13.right1
    have f15:=W.borrow1 eI w14 ((c12.step s13).step s14)
    obtain ⟨w15,s15⟩:=w14.right1
    obtain ⟨r16,e16,hp⟩:=ag hp
    refine aE (aH.P rfl (show 1=List.length ([hY]:List Int) from rfl) ⟨w15,(f14.step s15),f15⟩ e16) ?_
    rintro _ H17 ⟨o1a_17,o1n_17,o1c_17,o1k_17,rfl,rfl,w17,s17,f17_0⟩
    obtain ⟨w18,s18⟩:=W.frame1 w14 w17 s17
    obtain ⟨w19,s19⟩:=W.frame1 w13 w18 s18
    refine br (br (br (br (br ?_))))
    refine eK (aZ.tr (aZ.refl _) s13 (W.cons_of (Rn:=[_]) w15 w17 s17)) ?_
    obtain ⟨w21,s21⟩:=w19.pp [7,2,0,1,3,4,5,6,8] 9
    have f22:=W.borrow1 eI w21 (NB.step (s7.trans (s9.trans (s10.trans (s11.trans (s12.trans (s13.trans (s19.trans s21))))))))
    obtain ⟨w22,s22⟩:=w21.right1
    have f23:=W.borrow1 eI w22 (((CR.flat (fA .i64) f17_0).step s21).step s22)
    obtain ⟨w23,s23⟩:=w22.right1
    obtain ⟨r24,e24,hp⟩:=ag hp
    refine aE (aI.P rfl rfl ⟨w23,(f22.step s23),f23⟩ e24) ?_
    rintro _ H25 ⟨o1a_25,o1n_25,o1c_25,o1k_25,rfl,rfl,w25,s25,f25_0⟩
    obtain ⟨w26,s26⟩:=W.frame1 w22 w25 s25
    obtain ⟨w27,s27⟩:=W.frame1 w21 w26 s26
    refine br (br (br (br (br ?_))))
    refine aq w27 9 λH28 w28 s28=>?_
    refine aq w28 9 λH29 w29 s29=>?_
    obtain ⟨w30,s30⟩:=w29.pp [6,7,8,2,9] 10
    exact av.j14_P (@ih) rfl rfl rfl rfl ⟨w30,(s0.trans (s7.trans (s9.trans (s10.trans (s11.trans (s12.trans (s13.trans (s19.trans (s21.trans (s27.trans (s28.trans (s29.trans s30)))))))))))),(EQ.step (s7.trans (s9.trans (s10.trans (s11.trans (s12.trans (s13.trans (s19.trans (s21.trans (s27.trans (s28.trans (s29.trans s30)))))))))))),(NA.step (s7.trans (s9.trans (s10.trans (s11.trans (s12.trans (s13.trans (s19.trans (s21.trans (s27.trans (s28.trans (s29.trans s30)))))))))))),(ER.step (s7.trans (s9.trans (s10.trans (s11.trans (s12.trans (s13.trans (s19.trans (s21.trans (s27.trans (s28.trans (s29.trans s30)))))))))))),((CR.flat (fA .i64) f25_0).step (s28.trans (s29.trans s30)))⟩ hp
  ·exact av.j12_P (@hC61) rfl rfl rfl rfl ⟨w0,s0,EQ,NA,ER,NB⟩ hp
def av.pj15 (F:Nat) (ar:ath) (zd:atk) (nV:Int) (ze:atl) (tO:Int) (tP:Int):Option (Int×List Int):=av.pl31421 F ar F zd nV ze tO tP 0 ([]:List Int) 1 (wrap .i64 (nV - 1))
theorem av.j15_P  {C61_:atu} {ar:ath} (hC61:av.S61 H0 Ri R0  C61_ ar) {aau aav aaw NC NE By NF aax aay aaz zd nV amw tO tP aaA aaB aaC ze} (amx:NC=zd.length) (amy:NE=aaA.length) (amz:NF=ze.length) (h0:Out H0 Ri H (Rs.own ⟨aav,NE,aay⟩ eI.z aaB::Rs.blk By [.i amw,.sl ⟨aav,NE,aay⟩]::Rs.own ⟨aaw,NF,aaz⟩ (ac eI (eSl eI)).z aaC::R0) λR=>ROs (eSl (ac eI (eSl eI))) H R ⟨aau,NC,aax⟩ zd/\CR eI H R aaB aaA/\CR (ac eI (eSl eI)) H R aaC ze) {r:as8} (hp:av.pj15 F ar zd nV ze tO tP=some r):Rt (av.j15 F (aH.tw F) (aI.tw F) C61_ ⟨aau,NC,aax⟩ nV By 0 ⟨aaw,NF,aaz⟩ tO tP H) (av.Q H0 Ri R0  r):=by
 obtain ⟨w0,s0,amA,amB,amC⟩:=h0
 subst amx
 subst amy
 subst amz
 unfold av.pj15 at hp
 unfold av.j15
 refine aS w0 λH1 w1 s1=>?_
 refine aq w1 0 λH2 w2 s2=>?_
 refine aq w2 0 λH3 w3 s3=>?_
 obtain ⟨w4,s4⟩:=w3.nilS eI.z (by decide)
 obtain ⟨w5,s5⟩:=w4.pp [2,3,4,0,1] 5
 exact av.l31421_P (@hC61) F rfl rfl rfl rfl ⟨w5,(s0.trans (s1.trans (s2.trans (s3.trans (s4.trans s5))))),(amA.step (s1.trans (s2.trans (s3.trans (s4.trans s5))))),(amB.step (s1.trans (s2.trans (s3.trans (s4.trans s5))))),(amC.step (s1.trans (s2.trans (s3.trans (s4.trans s5))))),((CR.empty:CR eI _ _ [] []).step s5)⟩ hp
def av.pl3925 (F:Nat) (ar:ath):Nat->List ((List (Int×List Int)))->Int->List (Int×List Int)->Int->Int->Int->Option (Int×List Int)
 | 0,_,_,_,_,_,_=>none
 | k+1,qO,jk,qP,jl,ku,hZ=>(bif (decide (hZ<jk)) then ((if (IntKind.u64.wrap hZ)<0 then none else (av.pl3925 F ar k qO jk qP jl (wrap .i64 (ku+(Go.bits .and .i64 (Int.fdiv jl (2 ^ (min ((IntKind.u64.wrap hZ):Int).toNat (IntKind.i64).bits))) 1))) (wrap .i64 (hZ+1))))) else (av.pj15 F ar qO jk qP jl ku))
theorem av.l3925_P  {C61_:atu} {ar:ath} (hC61:av.S61 H0 Ri R0  C61_ ar):∀ k,av.S3925 H0 Ri R0  (av.l3925 F (aH.tw F) (aI.tw F) C61_ k) (av.pl3925 F ar k):=by
 intro k
 induction k with
 | zero=>unfold av.S3925;intros;rename_i hp;cases hp
 | succ k ih=>
  intro MQ MR MS EG EH nW EI MT MU MV qO jk Zz jl ku hZ MW MX MY qP H amD amE amF h0 r hp
  obtain ⟨w0,s0,aaD,aaE,aaF⟩:=h0
  subst amD
  subst amE
  subst amF
  unfold av.pl3925 at hp
  unfold av.l3925
  refine ay hp (λhp=>?_) λhp=>?_
  ·obtain ⟨g1,hp⟩:=kb hp
   refine kc g1 ?_
   exact ih rfl rfl rfl ⟨w0,s0,aaD,aaE,aaF⟩ hp
  ·exact av.j15_P (@hC61) rfl rfl rfl ⟨w0,s0,aaD,aaE,aaF⟩ hp
def av.pj8 (F:Nat)  (nT:Int) (qS:atl):Option (Int×List Int):=(if (IntKind.u64.wrap nT)<0 then none else ((ix qS (wrap .i64 ((wrap .i64 (1 * 2 ^ (min ((IntKind.u64.wrap nT):Int).toNat (IntKind.i64).bits))) - 1))).bind λn2=>some (((gt qS n2).1),(gt qS n2).2)))
theorem av.j8_P   {nT amG aaG aaH NG pE NH aaI aaJ aaK aaL aaM qS} (amH:NG=aaK.length) (amI:NH=qS.length) (h0:Out H0 Ri H (Rs.own ⟨aaG,NG,aaI⟩ eI.z aaL::Rs.blk pE [.i amG,.sl ⟨aaG,NG,aaI⟩]::Rs.own ⟨aaH,NH,aaJ⟩ (ac eI (eSl eI)).z aaM::R0) λR=>CR eI H R aaL aaK/\CR (ac eI (eSl eI)) H R aaM qS) {r:as8} (hp:av.pj8 F  nT qS=some r):Rt (av.j8 F (aH.tw F) (aI.tw F)  nT pE 0 ⟨aaH,NH,aaJ⟩ H) (av.Q H0 Ri R0  r):=by
 obtain ⟨w0,s0,asu,amJ⟩:=h0
 subst amH
 subst amI
 unfold av.pj8 at hp
 unfold av.j8
 obtain ⟨g1,hp⟩:=kb hp
 refine kc g1 ?_
 obtain ⟨n2,g2,hp⟩:=ag hp
 obtain ⟨p2,q2,i2,h2,j2⟩:=W.ixo (E:=(ac eI (eSl eI))) w0 (i:=2) rfl rfl amJ g2
 refine ai i2 ?_
 obtain ⟨_,_,rfl,rfl,⟨⟨amK,m2_1,c2_1⟩,rfl,f2_1⟩⟩:=h2
 obtain rfl:m2_1=_:=f2_1.n
 refine ai (aG (j2 0 _ rfl)) ?_
 refine ai (iE (j2 1 _ rfl)) ?_
 refine aq w0 1 λH3 w3 s3=>?_
 refine aq w3 1 λH4 w4 s4=>?_
 refine lI w4 1 ?_
 refine lSl w4 1 ?_
 obtain ⟨w5,s5⟩:=w4.pp [] 3
 exact az hp ⟨_,_,_,rfl,rfl,w5,(s0.trans (s3.trans (s4.trans s5))),(f2_1.step (s3.trans (s4.trans s5)))⟩
def av.pl61 (F:Nat) :Nat->List ((List (Int×List Int)))->Int->List (Int×List Int)->Int->Option (Int×List Int)
 | 0,_,_,_,_=>none
 | k+1,vZ,dZ,qN,kv=>(if (IntKind.u64.wrap dZ)<0 then none else ((bif (decide (kv<(wrap .i64 (1 * 2 ^ (min ((IntKind.u64.wrap dZ):Int).toNat (IntKind.i64).bits))))) then (av.pl3925 F (av.pl61 F k) F vZ dZ qN kv (-1) 0) else (av.pj8 F dZ qN))))
theorem av.l61_P  :∀ k,av.S61 H0 Ri R0  (av.l61 F (aH.tw F) (aI.tw F)  k) (av.pl61 F  k):=by
 intro k
 induction k with
 | zero=>unfold av.S61;intros;rename_i hp;cases hp
 | succ k ih=>
  intro MH MI MJ ED EE dN EF MK ML MM vZ dZ Zy kv MN MO MP qN H amL amM amN h0 r hp
  obtain ⟨w0,s0,amO,aaN,aaO⟩:=h0
  subst amL
  subst amM
  subst amN
  unfold av.pl61 at hp
  unfold av.l61
  obtain ⟨g1,hp⟩:=kb hp
  refine kc g1 ?_
  refine ay hp (λhp=>?_) λhp=>?_
  ·exact av.l3925_P (@ih) F rfl rfl rfl ⟨w0,s0,amO,aaN,aaO⟩ hp
  ·exact av.j8_P rfl rfl ⟨w0,s0,aaN,aaO⟩ hp
def av.p (F:Nat) (ah:atk) (aA:Int):Option (Int×List Int):=(if (IntKind.u64.wrap aA)<0 then none else ((mkn (wrap .i64 (1 * 2 ^ (min ((IntKind.u64.wrap aA):Int).toNat (IntKind.i64).bits))) ((0:Int),([]:List Int))).bind λl3=>(ix l3 0).bind λn6=>(some (l3.set n6 (0,(gt l3 n6).2))).bind λl7=>(some (l7.set n6 ((gt l7 n6).1,([1]:List Int)))).bind λl10=>av.pl61 F F ah aA l10 1))
theorem av.P {aB ak aC ah aA} (ba:ak=ah.length) (h0:Inn H R0 λR=>ROs (eSl (ac eI (eSl eI))) H R ⟨aB,ak,aC⟩ ah) {r:as8} (hp:av.p F ah aA=some r):Rt (av.tw F ⟨aB,ak,aC⟩ aA H) (av.Q H R0 R0  r):=by
 obtain ⟨w0,aO⟩:=h0
 subst ba
 unfold av.p at hp
 unfold av.tw av.twX
 have s0:=w0.rf
 refine aS w0 λH1 w1 s1=>?_
 obtain ⟨g2,hp⟩:=kb hp
 refine kc g2 ?_
 obtain ⟨l3,e3,hp⟩:=ag hp
 refine ka (ac eI (eSl eI)) ((0:Int),([]:List Int)) w1 ⟨[_],_,rfl,rfl,⟨_,rfl,ROs.nil⟩⟩ rfl rfl e3 λH4 k4 w4 s4 c4=>?_
 refine cK eI w4 (n:=1) (l:=([1]:List Int)) rfl (CR.cons1 rfl CR.empty) rfl λH5 w5 s5 c5=>?_
 obtain ⟨n6,g6,hp⟩:=ag hp
 obtain ⟨p6,q6,i6,h6,j6⟩:=W.ixo (E:=(ac eI (eSl eI))) w5 (i:=1) rfl rfl (c4.step s5) g6
 refine ai i6 ?_
 obtain ⟨l7,e7,hp⟩:=ag hp
 refine dC (ac eI (eSl eI)) w5 (i:=1) (j:=0) (p:=p6) rfl rfl (c4.step s5) g6 i6 e7 rfl rfl (λ_ h=>by obtain ⟨_,_,rfl,rfl,⟨_,rfl,q1⟩⟩:=h;exact ⟨[_],_,rfl,rfl,⟨_,rfl,q1⟩⟩) λH8 k8 w8 s8 c8=>?_
 obtain ⟨w9,s9,f9⟩:=w8.frz (i:=0) eI rfl (c5.step s8)
 obtain ⟨l10,e10,hp⟩:=ag hp
 refine dC (ac eI (eSl eI)) w9 (i:=0) (j:=1) (p:=p6) rfl rfl (c8.step s9) (mv g6 (cz e7)) i6 e10 rfl rfl (λ_ h=>by obtain ⟨_,_,rfl,rfl,⟨_,rfl,q1⟩⟩:=h;exact ⟨[_],_,rfl,rfl,⟨_,rfl,f9⟩⟩) λH11 k11 w11 s11 c11=>?_
 obtain ⟨w12,s12⟩:=w11.nilS eI.z (by decide)
 obtain ⟨w13,s13⟩:=w12.pp [0,2,1] 3
 exact av.l61_P F rfl rfl ((cz e7).symm.trans (cz e10).symm) ⟨w13,(s0.trans (s1.trans (s4.trans (s5.trans (s8.trans (s9.trans (s11.trans (s12.trans s13)))))))),(aO.step (s1.trans (s4.trans (s5.trans (s8.trans (s9.trans (s11.trans (s12.trans s13)))))))),((CR.empty:CR eI _ _ [] []).step s13),(c11.step (s12.trans s13))⟩ hp
def bF.Q (H0:Hp) (Ri R0:as2)  (r:Bool) (v:AV) (H':Hp):Prop:=v=(.bool r)/\Out H0 Ri H' (R0) λR=>True
def bF.S125 (H0:Hp) (Ri R0:as2)  (C:Nat->Nat->Int->Hp->OA) (pC:List Int->Int->Option (Bool)):Prop:=∀ {aaP fJ NI ES mO NJ np},∀ {H:Hp},ES=np.length->(Out H0 Ri H (Rs.blk mO [.i aaP,.sl ⟨NI,ES,NJ⟩]::R0) λR=>ROs eI H R ⟨NI,ES,NJ⟩ np)->∀ {r:Bool},pC np fJ=some r->Rt (C mO 0 fJ H) (bF.Q H0 Ri R0  r)
def bF.pl125 (F:Nat) :Nat->List Int->Int->Option (Bool)
 | 0,_,_=>none
 | k+1,np,fJ=>(bif (decide (fJ<(np.length:Int))) then ((ix np fJ).bind λn1=>(cR.p F (gt np n1) (-1000000000000) 1000000000000).bind λr2=>(bif (!r2) then (some false) else (bF.pl125 F k np (wrap .i64 (fJ+1))))) else (some true))
theorem bF.l125_P  :∀ k,bF.S125 H0 Ri R0  (bF.l125 F (cR.tw F)  k) (bF.pl125 F  k):=by
 intro k
 induction k with
 | zero=>unfold bF.S125;intros;rename_i hp;cases hp
 | succ k ih=>
  intro aaP fJ NI ES mO NJ np H amP h0 r hp
  obtain ⟨w0,s0,aaQ⟩:=h0
  subst amP
  unfold bF.pl125 at hp
  unfold bF.l125
  refine lSl w0 0 ?_
  refine ay hp (λhp=>?_) λhp=>?_
  ·refine lSl w0 0 ?_
   obtain ⟨n1,g1,hp⟩:=ag hp
   obtain ⟨p1,q1,i1,h1,j1⟩:=ROs.ixr aaQ rfl g1
   refine ai i1 ?_
   have h1:_=[_]:=h1
   subst h1
   refine ai (aG (j1 0 _ rfl)) ?_
   obtain ⟨r2,e2,hp⟩:=ag hp
   refine aE (cR.P ⟨w0,trivial⟩ e2) ?_
   rintro _ H3 ⟨rfl,w3,s3,_⟩
   refine br ?_
   refine ay hp (λhp=>?_) λhp=>?_
   ·obtain ⟨w4,s4⟩:=w3.pp [] 1
    exact az hp ⟨rfl,w4,(s0.trans (s3.trans s4)),trivial⟩
   ·exact ih rfl ⟨w3,(s0.trans s3),(aaQ.step s3)⟩ hp
  ·obtain ⟨w5,s5⟩:=w0.pp [] 1
   exact az hp ⟨rfl,w5,(s0.trans s5),trivial⟩
def bF.p (F:Nat) (aa:Int) (aF:as5):Option (Bool):=(bif ((aF.length:Int)==0) then (some (aa==0)) else ((bif (decide ((aF.length:Int)>160)) then (some false) else ((cR.p F aa (-240) 240).bind λr4=>(bif (!r4) then (some false) else ((bif (decide ((wrap .i64 ((wrap .i64 (aa+(aF.length:Int))) - 1))>240)) then (some false) else ((ix aF 0).bind λn8=>(bif ((gt aF n8)==0) then (some false) else ((ix aF (wrap .i64 ((aF.length:Int) - 1))).bind λn10=>(bif ((gt aF n10)==0) then (some false) else (bF.pl125 F F aF 0))))))))))))
theorem bF.P {aa cj bD ck aF} (du:bD=aF.length) (h0:Inn H R0 λR=>ROs eI H R ⟨cj,bD,ck⟩ aF) {r:Bool} (hp:bF.p F aa aF=some r):Rt (bF.tw F aa ⟨cj,bD,ck⟩ H) (bF.Q H R0 R0  r):=by
 obtain ⟨w0,cq⟩:=h0
 subst du
 unfold bF.p at hp
 unfold bF.tw bF.twX
 have s0:=w0.rf
 refine aS w0 λH1 w1 s1=>?_
 refine lSl w1 0 ?_
 refine ay hp (λhp=>?_) λhp=>?_
 ·refine lI w1 0 ?_
  obtain ⟨w2,s2⟩:=w1.pp [] 1
  exact az hp ⟨rfl,w2,(s0.trans (s1.trans s2)),trivial⟩
 ·refine ay hp (λhp=>?_) λhp=>?_
  ·obtain ⟨w3,s3⟩:=w1.pp [] 1
   exact az hp ⟨rfl,w3,(s0.trans (s1.trans s3)),trivial⟩
  ·refine lI w1 0 ?_
   obtain ⟨r4,e4,hp⟩:=ag hp
   refine aE (cR.P ⟨w1,trivial⟩ e4) ?_
   rintro _ H5 ⟨rfl,w5,s5,_⟩
   refine br ?_
   refine ay hp (λhp=>?_) λhp=>?_
   ·obtain ⟨w6,s6⟩:=w5.pp [] 1
    exact az hp ⟨rfl,w6,(s0.trans (s1.trans (s5.trans s6))),trivial⟩
   ·refine lI w5 0 ?_
    refine ay hp (λhp=>?_) λhp=>?_
    ·obtain ⟨w7,s7⟩:=w5.pp [] 1
     exact az hp ⟨rfl,w7,(s0.trans (s1.trans (s5.trans s7))),trivial⟩
    ·refine lSl w5 0 ?_
     obtain ⟨n8,g8,hp⟩:=ag hp
     obtain ⟨p8,q8,i8,h8,j8⟩:=ROs.ixr (cq.step (s1.trans s5)) rfl g8
     refine ai i8 ?_
     have h8:_=[_]:=h8
     subst h8
     refine ai (aG (j8 0 _ rfl)) ?_
     refine ay hp (λhp=>?_) λhp=>?_
     ·obtain ⟨w9,s9⟩:=w5.pp [] 1
      exact az hp ⟨rfl,w9,(s0.trans (s1.trans (s5.trans s9))),trivial⟩
     ·refine lSl w5 0 ?_
      obtain ⟨n10,g10,hp⟩:=ag hp
      obtain ⟨p10,q10,i10,h10,j10⟩:=ROs.ixr (cq.step (s1.trans s5)) rfl g10
      refine ai i10 ?_
      have h10:_=[_]:=h10
      subst h10
      refine ai (aG (j10 0 _ rfl)) ?_
      refine ay hp (λhp=>?_) λhp=>?_
      ·obtain ⟨w11,s11⟩:=w5.pp [] 1
       exact az hp ⟨rfl,w11,(s0.trans (s1.trans (s5.trans s11))),trivial⟩
      ·exact bF.l125_P F rfl ⟨w5,(s0.trans (s1.trans s5)),(cq.step (s1.trans s5))⟩ hp
def bm.Q (H0:Hp) (Ri R0:as2)  (r:as8) (v:AV) (H':Hp):Prop:=∃ o1a:ON,∃ o1n:Nat,∃ o1c:Cap,∃ o1k:List AV,v=(.agg [(.i r.1),(.sl ⟨o1a,o1n,o1c⟩)])/\o1n=(r.2).length/\Out H0 Ri H' (Rs.own ⟨o1a,o1n,o1c⟩ eI.z o1k::R0) λR=>CR eI H' R o1k (r.2)
def bm.S61 (H0:Hp) (Ri R0:as2)  (C:at0) (pC:aud):Prop:=∀ {aaR nk qT fq NK qJ NL ET kw nl fa EU hU NM qK NN jG lA oM NO NP},∀ {H:Hp},ET=jG.length->nl=lA.length->EU=oM.length->(Out H0 Ri H (Rs.blk kw [.i aaR,.sl ⟨NK,ET,NM⟩]::Rs.own ⟨qJ,nl,qK⟩ eI.z NO::Rs.blk fa [.i nk,.sl ⟨qJ,nl,qK⟩]::Rs.own ⟨NL,EU,NN⟩ eI.z NP::Rs.blk hU [.i qT,.sl ⟨NL,EU,NN⟩]::R0) λR=>ROs eI H R ⟨NK,ET,NM⟩ jG/\CR eI H R NO lA/\CR eI H R NP oM)->∀ {r:as8},pC jG qT oM fq=some r->Rt (C kw 0 fa 0 hU 0 fq H) (bm.Q H0 Ri R0  r)
def bm.pj2 (F:Nat) (ar:aud) (zf:as5) (EV:Int) (zg:as5) (tR:Int) (nX:Int):Option (Int×List Int):=(apn zg ([nX]:List Int)).bind λl2=>ar zf EV l2 (wrap .i64 (tR+1))
theorem bm.j2_P  {C61_:at0} {ar:aud} (hC61:bm.S61 H0 Ri R0  C61_ ar) {amQ amR EV tR nX aaS aaT aaU NQ BD NR BE NS tQ aaV aaW aaX zf aaY zg aaZ aa0} (amS:NQ=zf.length) (amT:NR=aaY.length) (amU:NS=zg.length) (h0:Out H0 Ri H (Rs.blk BD [.i amQ,.sl ⟨aaS,NQ,aaV⟩]::Rs.own ⟨aaT,NR,aaW⟩ eI.z aaZ::Rs.blk BE [.i amR,.sl ⟨aaT,NR,aaW⟩]::Rs.own ⟨aaU,NS,aaX⟩ eI.z aa0::Rs.blk tQ [.i EV,.sl ⟨aaU,NS,aaX⟩]::R0) λR=>ROs eI H R ⟨aaS,NQ,aaV⟩ zf/\CR eI H R aaZ aaY/\CR eI H R aa0 zg) {r:as8} (hp:bm.pj2 F ar zf EV zg tR nX=some r):Rt (bm.j2 F (bF.tw F) C61_ BD 0 BE 0 tQ 0 tR nX H) (bm.Q H0 Ri R0  r):=by
 obtain ⟨w0,s0,amV,amW,amX⟩:=h0
 subst amS
 subst amT
 subst amU
 unfold bm.pj2 at hp
 unfold bm.j2
 refine lSl w0 4 ?_
 refine cK eI w0 (n:=1) (l:=([nX]:List Int)) rfl (CR.cons1 rfl CR.empty) rfl λH1 w1 s1 c1=>?_
 refine ai (w1.rowo (i:=0) rfl) ?_
 obtain ⟨l2,e2,hp⟩:=ag hp
 refine fz eI w1 (i:=4) rfl rfl (amX.step s1) c1 (show 1=List.length ([nX]:List Int) from rfl) rfl e2 λa3 d3 H3 w3 s3 c3 x3=>?_
 refine aq w3 5 λH4 w4 s4=>?_
 obtain ⟨w5,s5⟩:=w4.pp [1,2,3,4,5] 6
 exact hC61 rfl rfl rfl ⟨w5,(s0.trans (s1.trans (s3.trans (s4.trans s5)))),(amV.step (s1.trans (s3.trans (s4.trans s5)))),(amW.step (s1.trans (s3.trans (s4.trans s5)))),(c3.step (s4.trans s5))⟩ hp
def bm.pl61 (F:Nat) :Nat->List Int->Int->List Int->Int->Option (Int×List Int)
 | 0,_,_,_,_=>none
 | k+1,jG,qT,oM,fq=>(bif (decide (fq<(jG.length:Int))) then ((ix jG fq).bind λn1=>(ix jG 0).bind λn2=>(bif (decide ((gt jG n2)<0)) then (bm.pj2 F (bm.pl61 F k) jG qT oM fq (wrap .i64 (0 - (gt jG n1)))) else (bm.pj2 F (bm.pl61 F k) jG qT oM fq (gt jG n1)))) else (some (qT,oM)))
theorem bm.l61_P  :∀ k,bm.S61 H0 Ri R0  (bm.l61 F (bF.tw F)  k) (bm.pl61 F  k):=by
 intro k
 induction k with
 | zero=>unfold bm.S61;intros;rename_i hp;cases hp
 | succ k ih=>
  intro aaR nk qT fq NK qJ NL ET kw nl fa EU hU NM qK NN jG lA oM NO NP H amY MG amZ h0 r hp
  obtain ⟨w0,s0,EW,yS,NT⟩:=h0
  subst amY
  subst MG
  subst amZ
  unfold bm.pl61 at hp
  unfold bm.l61
  refine lSl w0 0 ?_
  refine ay hp (λhp=>?_) λhp=>?_
  ·refine lSl w0 0 ?_
   obtain ⟨n1,g1,hp⟩:=ag hp
   obtain ⟨p1,q1,i1,h1,j1⟩:=ROs.ixr EW rfl g1
   refine ai i1 ?_
   have h1:_=[_]:=h1
   subst h1
   refine ai (aG (j1 0 _ rfl)) ?_
   refine lSl w0 0 ?_
   obtain ⟨n2,g2,hp⟩:=ag hp
   obtain ⟨p2,q2,i2,h2,j2⟩:=ROs.ixr EW rfl g2
   refine ai i2 ?_
   have h2:_=[_]:=h2
   subst h2
   refine ai (aG (j2 0 _ rfl)) ?_
   refine ay hp (λhp=>?_) λhp=>?_
   ·exact bm.j2_P (@ih) rfl rfl rfl ⟨w0,s0,EW,yS,NT⟩ hp
   ·exact bm.j2_P (@ih) rfl rfl rfl ⟨w0,s0,EW,yS,NT⟩ hp
  ·refine lI w0 4 ?_
   refine lSl w0 4 ?_
   refine aq w0 2 λH3 w3 s3=>?_
   refine aq w3 2 λH4 w4 s4=>?_
   refine lI w4 2 ?_
   refine lSl w4 2 ?_
   obtain ⟨w5,s5⟩:=w4.pp [3] 5
   exact az hp ⟨_,_,_,_,rfl,rfl,w5,(s0.trans (s3.trans (s4.trans s5))),(NT.step (s3.trans (s4.trans s5)))⟩
def bm.p (F:Nat) (aa:Int) (aF:as5):Option (Int×List Int):=(bF.p F aa aF).bind λr3=>(bif (!r3) then (some (0,([]:List Int))) else ((bif ((aF.length:Int)==0) then (some (0,([]:List Int))) else (bm.pl61 F F aF 0 ([]:List Int) 0))))
theorem bm.P {aa cj bD ck aF} (du:bD=aF.length) (h0:Inn H R0 λR=>ROs eI H R ⟨cj,bD,ck⟩ aF) {r:as8} (hp:bm.p F aa aF=some r):Rt (bm.tw F aa ⟨cj,bD,ck⟩ H) (bm.Q H R0 R0  r):=by
 obtain ⟨w0,cq⟩:=h0
 subst du
 unfold bm.p at hp
 unfold bm.tw bm.twX
 have s0:=w0.rf
 refine aS w0 λH1 w1 s1=>?_
 refine aS w1 λH2 w2 s2=>?_
 refine lI w2 1 ?_
 refine lSl w2 1 ?_
 obtain ⟨r3,e3,hp⟩:=ag hp
 refine aE (bF.P rfl ⟨w2,(cq.step (s1.trans s2))⟩ e3) ?_
 rintro _ H4 ⟨rfl,w4,s4,_⟩
 refine br ?_
 refine ay hp (λhp=>?_) λhp=>?_
 ·refine aq w4 0 λH5 w5 s5=>?_
  refine aq w5 0 λH6 w6 s6=>?_
  refine lI w6 0 ?_
  refine lSl w6 0 ?_
  obtain ⟨w7,s7⟩:=w6.nilS eI.z (by decide)
  obtain ⟨w8,s8⟩:=w7.pp [0] 3
  exact az hp ⟨_,_,_,_,rfl,rfl,w8,(s0.trans (s1.trans (s2.trans (s4.trans (s5.trans (s6.trans (s7.trans s8))))))),((CR.empty:CR eI _ _ [] []).step s8)⟩
 ·refine lSl w4 1 ?_
  refine ay hp (λhp=>?_) λhp=>?_
  ·refine aq w4 0 λH9 w9 s9=>?_
   refine aq w9 0 λH10 w10 s10=>?_
   refine lI w10 0 ?_
   refine lSl w10 0 ?_
   obtain ⟨w11,s11⟩:=w10.nilS eI.z (by decide)
   obtain ⟨w12,s12⟩:=w11.pp [0] 3
   exact az hp ⟨_,_,_,_,rfl,rfl,w12,(s0.trans (s1.trans (s2.trans (s4.trans (s9.trans (s10.trans (s11.trans s12))))))),((CR.empty:CR eI _ _ [] []).step s12)⟩
  ·refine aS w4 λH13 w13 s13=>?_
   refine aq w13 0 λH14 w14 s14=>?_
   refine aq w14 0 λH15 w15 s15=>?_
   obtain ⟨w16,s16⟩:=w15.nilS eI.z (by decide)
   obtain ⟨w17,s17⟩:=w16.nilS eI.z (by decide)
   obtain ⟨w18,s18⟩:=w17.pp [4,1,3,0,2] 5
   exact bm.l61_P F rfl rfl rfl ⟨w18,(s0.trans (s1.trans (s2.trans (s4.trans (s13.trans (s14.trans (s15.trans (s16.trans (s17.trans s18))))))))),(cq.step (s1.trans (s2.trans (s4.trans (s13.trans (s14.trans (s15.trans (s16.trans (s17.trans s18))))))))),((CR.empty:CR eI _ _ [] []).step (s17.trans s18)),((CR.empty:CR eI _ _ [] []).step s18)⟩ hp
def d_.Q (H0:Hp) (Ri R0:as2)  (r:as8) (v:AV) (H':Hp):Prop:=∃ o1a:ON,∃ o1n:Nat,∃ o1c:Cap,∃ o1k:List AV,v=(.agg [(.i r.1),(.sl ⟨o1a,o1n,o1c⟩)])/\o1n=(r.2).length/\Out H0 Ri H' (Rs.own ⟨o1a,o1n,o1c⟩ eI.z o1k::R0) λR=>CR eI H' R o1k (r.2)
def d_.p (F:Nat) (ah:ata) (af:Int):Option (Int×List Int):=(aj.p F ah af).bind λr3=>(bif ((ah.length:Int) != r3.2) then ((bif ((ah.length:Int) != (wrap .i64 (r3.2 - 1))) then (some (0,([]:List Int))) else ((a_.p F ah af).bind λr9=>(av.p F r9 (wrap .i64 (r3.2 - 1))).bind λr12=>(bm.p F r12.1 r12.2).bind λr14=>some (r14.1,r14.2)))) else ((a_.p F ah af).bind λr19=>(av.p F r19 (wrap .i64 (r3.2 - 1))).bind λr22=>(bm.p F r22.1 r22.2).bind λr24=>some (r24.1,r24.2)))
theorem d_.P {aB ak aC ah af} (ba:ak=ah.length) (h0:Inn H R0 λR=>ROs (ac eI (ac eI (ac eI (ac eI eI)))) H R ⟨aB,ak,aC⟩ ah) {r:as8} (hp:d_.p F ah af=some r):Rt (d_.tw F ⟨aB,ak,aC⟩ af H) (d_.Q H R0 R0  r):=by
 obtain ⟨w0,aO⟩:=h0
 subst ba
 unfold d_.p at hp
 unfold d_.tw d_.twX
 have s0:=w0.rf
 refine aS w0 λH1 w1 s1=>?_
 refine aS w1 λH2 w2 s2=>?_
 refine lSl w2 1 ?_
 refine lI w2 1 ?_
 obtain ⟨r3,e3,hp⟩:=ag hp
 refine aE (aj.P rfl ⟨w2,(aO.step (s1.trans s2))⟩ e3) ?_
 rintro _ H4 ⟨o0a_4,o0n_4,o0c_4,o0k_4,rfl,rfl,w4,s4,f4_0⟩
 refine br (br (br (br (br ?_))))
 refine lSl w4 2 ?_
 refine ay hp (λhp=>?_) λhp=>?_
 ·refine ay hp (λhp=>?_) λhp=>?_
  ·refine aq w4 1 λH5 w5 s5=>?_
   refine aq w5 1 λH6 w6 s6=>?_
   refine lI w6 1 ?_
   refine lSl w6 1 ?_
   obtain ⟨w7,s7⟩:=w6.nilS eI.z (by decide)
   obtain ⟨w8,s8⟩:=w7.pp [0] 4
   exact az hp ⟨_,_,_,_,rfl,rfl,w8,(s0.trans (s1.trans (s2.trans (s4.trans (s5.trans (s6.trans (s7.trans s8))))))),((CR.empty:CR eI _ _ [] []).step s8)⟩
  ·refine lSl w4 2 ?_
   refine lI w4 2 ?_
   obtain ⟨r9,e9,hp⟩:=ag hp
   refine aE (a_.P rfl ⟨w4,(aO.step (s1.trans (s2.trans s4)))⟩ e9) ?_
   rintro _ H10 ⟨o0a_10,o0n_10,o0c_10,o0k_10,rfl,rfl,w10,s10,f10_0⟩
   refine br ?_
   obtain ⟨w11,s11,f11⟩:=w10.frz (i:=0) (eSl (ac eI (eSl eI))) rfl f10_0
   obtain ⟨r12,e12,hp⟩:=ag hp
   refine aE (av.P rfl ⟨w11,f11⟩ e12) ?_
   rintro _ H13 ⟨o1a_13,o1n_13,o1c_13,rfl,rfl,w13,s13,f13_0⟩
   refine br (br (br (br (br ?_))))
   obtain ⟨r14,e14,hp⟩:=ag hp
   refine aE (bm.P rfl ⟨w13,f13_0⟩ e14) ?_
   rintro _ H15 ⟨o1a_15,o1n_15,o1c_15,o1k_15,rfl,rfl,w15,s15,f15_0⟩
   refine br (br (br (br (br ?_))))
   refine aq w15 2 λH16 w16 s16=>?_
   refine aq w16 2 λH17 w17 s17=>?_
   refine lI w17 2 ?_
   refine lSl w17 2 ?_
   obtain ⟨w18,s18⟩:=w17.pp [0] 4
   exact az hp ⟨_,_,_,_,rfl,rfl,w18,(s0.trans (s1.trans (s2.trans (s4.trans (s10.trans (s11.trans (s13.trans (s15.trans (s16.trans (s17.trans s18)))))))))),(f15_0.step (s16.trans (s17.trans s18)))⟩
 ·refine lSl w4 2 ?_
  refine lI w4 2 ?_
  obtain ⟨r19,e19,hp⟩:=ag hp
  refine aE (a_.P rfl ⟨w4,(aO.step (s1.trans (s2.trans s4)))⟩ e19) ?_
  rintro _ H20 ⟨o0a_20,o0n_20,o0c_20,o0k_20,rfl,rfl,w20,s20,f20_0⟩
  refine br ?_
  obtain ⟨w21,s21,f21⟩:=w20.frz (i:=0) (eSl (ac eI (eSl eI))) rfl f20_0
  obtain ⟨r22,e22,hp⟩:=ag hp
  refine aE (av.P rfl ⟨w21,f21⟩ e22) ?_
  rintro _ H23 ⟨o1a_23,o1n_23,o1c_23,rfl,rfl,w23,s23,f23_0⟩
  refine br (br (br (br (br ?_))))
  obtain ⟨r24,e24,hp⟩:=ag hp
  refine aE (bm.P rfl ⟨w23,f23_0⟩ e24) ?_
  rintro _ H25 ⟨o1a_25,o1n_25,o1c_25,o1k_25,rfl,rfl,w25,s25,f25_0⟩
  refine br (br (br (br (br ?_))))
  refine aq w25 2 λH26 w26 s26=>?_
  refine aq w26 2 λH27 w27 s27=>?_
  refine lI w27 2 ?_
  refine lSl w27 2 ?_
  obtain ⟨w28,s28⟩:=w27.pp [0] 4
  exact az hp ⟨_,_,_,_,rfl,rfl,w28,(s0.trans (s1.trans (s2.trans (s4.trans (s20.trans (s21.trans (s23.trans (s25.trans (s26.trans (s27.trans s28)))))))))),(f25_0.step (s26.trans (s27.trans s28)))⟩
def eB.Q (H0:Hp) (Ri R0:as2)  (r:atj) (v:AV) (H':Hp):Prop:=∃ o1a:ON,∃ o1n:Nat,∃ o1c:Cap,∃ o1k:List AV,v=(.tup [(.agg [(.i r.1),(.sl ⟨o1a,o1n,o1c⟩)]),(.i r.2.2)])/\o1n=(r.2.1).length/\Out H0 Ri H' (Rs.own ⟨o1a,o1n,o1c⟩ eI.z o1k::R0) λR=>CR eI H' R o1k (r.2.1)
def eB.p (F:Nat) (ah:ata) (af:Int):Option (Int×List Int×Int):=(dE.p F ah af).bind λr3=>(bif (!r3) then (some (0,([]:List Int),1)) else ((bif ((ah.length:Int)==0) then ((bif (af==0) then (some (0,([]:List Int),5)) else ((d_.p F ah af).bind λr13=>some (r13.1,r13.2,0)))) else ((d_.p F ah af).bind λr18=>some (r18.1,r18.2,0)))))
theorem eB.P {aB ak aC ah af} (ba:ak=ah.length) (h0:Inn H R0 λR=>ROs (ac eI (ac eI (ac eI (ac eI eI)))) H R ⟨aB,ak,aC⟩ ah) {r:atj} (hp:eB.p F ah af=some r):Rt (eB.tw F ⟨aB,ak,aC⟩ af H) (eB.Q H R0 R0  r):=by
 obtain ⟨w0,aO⟩:=h0
 subst ba
 unfold eB.p at hp
 unfold eB.tw eB.twX
 have s0:=w0.rf
 refine aS w0 λH1 w1 s1=>?_
 refine aS w1 λH2 w2 s2=>?_
 refine lSl w2 1 ?_
 refine lI w2 1 ?_
 obtain ⟨r3,e3,hp⟩:=ag hp
 refine aE (dE.P rfl ⟨w2,(aO.step (s1.trans s2))⟩ e3) ?_
 rintro _ H4 ⟨rfl,w4,s4,_⟩
 refine br ?_
 refine ay hp (λhp=>?_) λhp=>?_
 ·refine aq w4 0 λH5 w5 s5=>?_
  refine aq w5 0 λH6 w6 s6=>?_
  refine lI w6 0 ?_
  refine lSl w6 0 ?_
  obtain ⟨w7,s7⟩:=w6.nilS eI.z (by decide)
  obtain ⟨w8,s8⟩:=w7.pp [0] 3
  exact az hp ⟨_,_,_,_,rfl,rfl,w8,(s0.trans (s1.trans (s2.trans (s4.trans (s5.trans (s6.trans (s7.trans s8))))))),((CR.empty:CR eI _ _ [] []).step s8)⟩
 ·refine lSl w4 1 ?_
  refine ay hp (λhp=>?_) λhp=>?_
  ·refine lI w4 1 ?_
   refine ay hp (λhp=>?_) λhp=>?_
   ·refine aq w4 0 λH9 w9 s9=>?_
    refine aq w9 0 λH10 w10 s10=>?_
    refine lI w10 0 ?_
    refine lSl w10 0 ?_
    obtain ⟨w11,s11⟩:=w10.nilS eI.z (by decide)
    obtain ⟨w12,s12⟩:=w11.pp [0] 3
    exact az hp ⟨_,_,_,_,rfl,rfl,w12,(s0.trans (s1.trans (s2.trans (s4.trans (s9.trans (s10.trans (s11.trans s12))))))),((CR.empty:CR eI _ _ [] []).step s12)⟩
   ·refine lSl w4 1 ?_
    refine lI w4 1 ?_
    obtain ⟨r13,e13,hp⟩:=ag hp
    refine aE (d_.P rfl ⟨w4,(aO.step (s1.trans (s2.trans s4)))⟩ e13) ?_
    rintro _ H14 ⟨o1a_14,o1n_14,o1c_14,o1k_14,rfl,rfl,w14,s14,f14_0⟩
    refine br (br (br (br (br ?_))))
    refine aq w14 1 λH15 w15 s15=>?_
    refine aq w15 1 λH16 w16 s16=>?_
    refine lI w16 1 ?_
    refine lSl w16 1 ?_
    obtain ⟨w17,s17⟩:=w16.pp [0] 3
    exact az hp ⟨_,_,_,_,rfl,rfl,w17,(s0.trans (s1.trans (s2.trans (s4.trans (s14.trans (s15.trans (s16.trans s17))))))),(f14_0.step (s15.trans (s16.trans s17)))⟩
  ·refine lSl w4 1 ?_
   refine lI w4 1 ?_
   obtain ⟨r18,e18,hp⟩:=ag hp
   refine aE (d_.P rfl ⟨w4,(aO.step (s1.trans (s2.trans s4)))⟩ e18) ?_
   rintro _ H19 ⟨o1a_19,o1n_19,o1c_19,o1k_19,rfl,rfl,w19,s19,f19_0⟩
   refine br (br (br (br (br ?_))))
   refine aq w19 1 λH20 w20 s20=>?_
   refine aq w20 1 λH21 w21 s21=>?_
   refine lI w21 1 ?_
   refine lSl w21 1 ?_
   obtain ⟨w22,s22⟩:=w21.pp [0] 3
   exact az hp ⟨_,_,_,_,rfl,rfl,w22,(s0.trans (s1.trans (s2.trans (s4.trans (s19.trans (s20.trans (s21.trans s22))))))),(f19_0.step (s20.trans (s21.trans s22)))⟩
def bk.Q (H0:Hp) (Ri R0:as2)  (r:atw) (v:AV) (H':Hp):Prop:=v=(.tup [(.i r.1),(.bool r.2)])/\Out H0 Ri H' (R0) λR=>True
def bk.S61 (H0:Hp) (Ri R0:as2)  (C:at1) (pC:aue):Prop:=∀ {h_ oN ia eU NU EY iO NV iA},∀ {H:Hp},EY=iA.length->(Out H0 Ri H (Rs.blk iO [.i oN,.sl ⟨NU,EY,NV⟩]::R0) λR=>ROs eI H R ⟨NU,EY,NV⟩ iA)->∀ {r:atw},pC h_ oN iA ia eU=some r->Rt (C h_ iO 0 ia eU H) (bk.Q H0 Ri R0  r)
def bk.pj2 (F:Nat) (ar:aue) (tU:Int) (EZ:Int) (zh:as5) (tV:Int) (tW:Int):Option (Int×Bool):=ar tU EZ zh tV (wrap .i64 (tW+1))
theorem bk.j2_P  {C61_:at1} {ar:aue} (hC61:bk.S61 H0 Ri R0  C61_ ar) {tU EZ tV tW aa1 NW BF aa2 zh} (am0:NW=zh.length) (h0:Out H0 Ri H (Rs.blk BF [.i EZ,.sl ⟨aa1,NW,aa2⟩]::R0) λR=>ROs eI H R ⟨aa1,NW,aa2⟩ zh) {r:atw} (hp:bk.pj2 F ar tU EZ zh tV tW=some r):Rt (bk.j2 F (bF.tw F) C61_ tU BF 0 tV tW H) (bk.Q H0 Ri R0  r):=by
 obtain ⟨w0,s0,am1⟩:=h0
 subst am0
 unfold bk.pj2 at hp
 unfold bk.j2
 exact hC61 rfl ⟨w0,s0,am1⟩ hp
def bk.pl61 (F:Nat) :Nat->Int->Int->List Int->Int->Int->Option (Int×Bool)
 | 0,_,_,_,_,_=>none
 | k+1,h_,oN,iA,ia,eU=>(bif (decide (eU<(iA.length:Int))) then ((bif (decide (h_<0)) then ((bif ((Int.tmod (wrap .i64 (oN+eU)) 2) != 0) then ((ix iA eU).bind λn1=>bk.pj2 F (bk.pl61 F k) h_ oN iA (wrap .i64 (ia - (gt iA n1))) eU) else ((ix iA eU).bind λn2=>bk.pj2 F (bk.pl61 F k) h_ oN iA (wrap .i64 (ia+(gt iA n2))) eU))) else ((ix iA eU).bind λn3=>bk.pl61 F k h_ oN iA (wrap .i64 (ia+(gt iA n3))) (wrap .i64 (eU+1))))) else (some (ia,true)))
theorem bk.l61_P  :∀ k,bk.S61 H0 Ri R0  (bk.l61 F (bF.tw F)  k) (bk.pl61 F  k):=by
 intro k
 induction k with
 | zero=>unfold bk.S61;intros;rename_i hp;cases hp
 | succ k ih=>
  intro h_ oN ia eU NU EY iO NV iA H am2 h0 r hp
  obtain ⟨w0,s0,v_⟩:=h0
  subst am2
  unfold bk.pl61 at hp
  unfold bk.l61
  refine lSl w0 0 ?_
  refine ay hp (λhp=>?_) λhp=>?_
  ·refine ay hp (λhp=>?_) λhp=>?_
   ·refine lI w0 0 ?_
    refine ay hp (λhp=>?_) λhp=>?_
    ·refine lSl w0 0 ?_
     obtain ⟨n1,g1,hp⟩:=ag hp
     obtain ⟨p1,q1,i1,h1,j1⟩:=ROs.ixr v_ rfl g1
     refine ai i1 ?_
     have h1:_=[_]:=h1
     subst h1
     refine ai (aG (j1 0 _ rfl)) ?_
     exact bk.j2_P (@ih) rfl ⟨w0,s0,v_⟩ hp
    ·refine lSl w0 0 ?_
     obtain ⟨n2,g2,hp⟩:=ag hp
     obtain ⟨p2,q2,i2,h2,j2⟩:=ROs.ixr v_ rfl g2
     refine ai i2 ?_
     have h2:_=[_]:=h2
     subst h2
     refine ai (aG (j2 0 _ rfl)) ?_
     exact bk.j2_P (@ih) rfl ⟨w0,s0,v_⟩ hp
   ·refine lSl w0 0 ?_
    obtain ⟨n3,g3,hp⟩:=ag hp
    obtain ⟨p3,q3,i3,h3,j3⟩:=ROs.ixr v_ rfl g3
    refine ai i3 ?_
    have h3:_=[_]:=h3
    subst h3
    refine ai (aG (j3 0 _ rfl)) ?_
    exact ih rfl ⟨w0,s0,v_⟩ hp
  ·obtain ⟨w4,s4⟩:=w0.pp [] 1
   exact az hp ⟨rfl,w4,(s0.trans s4),trivial⟩
def bk.p (F:Nat) (aa:Int) (aF:as5) (au:Int):Option (Int×Bool):=(bF.p F aa aF).bind λr2=>(bif (!r2) then (some (0,false)) else ((bif (au != 1) then ((bif (au != (-1)) then (some (0,false)) else (bk.pl61 F F au aa aF 0 0))) else (bk.pl61 F F au aa aF 0 0))))
theorem bk.P {aa au cj bD ck aF} (du:bD=aF.length) (h0:Inn H R0 λR=>ROs eI H R ⟨cj,bD,ck⟩ aF) {r:atw} (hp:bk.p F aa aF au=some r):Rt (bk.tw F aa ⟨cj,bD,ck⟩ au H) (bk.Q H R0 R0  r):=by
 obtain ⟨w0,cq⟩:=h0
 subst du
 unfold bk.p at hp
 unfold bk.tw bk.twX
 have s0:=w0.rf
 refine aS w0 λH1 w1 s1=>?_
 refine lI w1 0 ?_
 refine lSl w1 0 ?_
 obtain ⟨r2,e2,hp⟩:=ag hp
 refine aE (bF.P rfl ⟨w1,(cq.step s1)⟩ e2) ?_
 rintro _ H3 ⟨rfl,w3,s3,_⟩
 refine br ?_
 refine ay hp (λhp=>?_) λhp=>?_
 ·obtain ⟨w4,s4⟩:=w3.pp [] 1
  exact az hp ⟨rfl,w4,(s0.trans (s1.trans (s3.trans s4))),trivial⟩
 ·refine ay hp (λhp=>?_) λhp=>?_
  ·refine ay hp (λhp=>?_) λhp=>?_
   ·obtain ⟨w5,s5⟩:=w3.pp [] 1
    exact az hp ⟨rfl,w5,(s0.trans (s1.trans (s3.trans s5))),trivial⟩
   ·exact bk.l61_P F rfl ⟨w3,(s0.trans (s1.trans s3)),(cq.step (s1.trans s3))⟩ hp
  ·exact bk.l61_P F rfl ⟨w3,(s0.trans (s1.trans s3)),(cq.step (s1.trans s3))⟩ hp
def fM.Q (H0:Hp) (Ri R0:as2)  (r:Int) (v:AV) (H':Hp):Prop:=v=(.i r)/\Out H0 Ri H' (R0) λR=>True
def fM.p (F:Nat) (aa:Int):Option (Int):=some (if (wrap .i64 (0 - aa))>aa then (wrap .i64 (0 - aa)) else aa)
theorem fM.P {aa}  (h0:Inn H R0 λR=>True) {r:Int} (hp:fM.p F aa=some r):Rt (fM.tw F aa H) (fM.Q H R0 R0  r):=by
 obtain ⟨w0,_⟩:=h0
 unfold fM.p at hp
 unfold fM.tw fM.twX
 have s0:=w0.rf
 exact az hp ⟨rfl,w0,s0,trivial⟩
def eC.Q (H0:Hp) (Ri R0:as2)  (r:atp) (v:AV) (H':Hp):Prop:=v=(.tup [(.i r.1),(.i r.2)])/\Out H0 Ri H' (R0) λR=>True
def eC.p (F:Nat) (ah:ata) (af:Int):Option (Int×Int):=(eB.p F ah af).bind λr2=>(bif (r2.2.2 != 0) then (some (0,r2.2.2)) else ((bk.p F r2.1 r2.2.1 (-1)).bind λr10=>(fM.p F r10.1).bind λr13=>some (r13,0)))
theorem eC.P {aB ak aC ah af} (ba:ak=ah.length) (h0:Inn H R0 λR=>ROs (ac eI (ac eI (ac eI (ac eI eI)))) H R ⟨aB,ak,aC⟩ ah) {r:atp} (hp:eC.p F ah af=some r):Rt (eC.tw F ⟨aB,ak,aC⟩ af H) (eC.Q H R0 R0  r):=by
 obtain ⟨w0,aO⟩:=h0
 subst ba
 unfold eC.p at hp
 unfold eC.tw eC.twX
 have s0:=w0.rf
 refine aS w0 λH1 w1 s1=>?_
 refine lSl w1 0 ?_
 refine lI w1 0 ?_
 obtain ⟨r2,e2,hp⟩:=ag hp
 refine aE (eB.P rfl ⟨w1,(aO.step s1)⟩ e2) ?_
 rintro _ H3 ⟨o1a_3,o1n_3,o1c_3,o1k_3,rfl,rfl,w3,s3,f3_0⟩
 refine br (br (br (br (br (br (br (br (br ?_))))))))
 refine aS w3 λH4 w4 s4=>?_
 refine aq w4 0 λH5 w5 s5=>?_
 refine aq w5 0 λH6 w6 s6=>?_
 refine ay hp (λhp=>?_) λhp=>?_
 ·obtain ⟨w7,s7⟩:=w6.pp [] 3
  exact az hp ⟨rfl,w7,(s0.trans (s1.trans (s3.trans (s4.trans (s5.trans (s6.trans s7)))))),trivial⟩
 ·refine lI w6 0 ?_
  refine lSl w6 0 ?_
  obtain ⟨w8,s8⟩:=w6.pp [1,0,2] 3
  have f9:=W.borrow1 eI w8 (f3_0.step (s4.trans (s5.trans (s6.trans s8))))
  obtain ⟨w9,s9⟩:=w8.right1
  obtain ⟨r10,e10,hp⟩:=ag hp
  refine aE (bk.P rfl ⟨w9,f9⟩ e10) ?_
  rintro _ H11 ⟨rfl,w11,s11,_⟩
  obtain ⟨w12,s12⟩:=W.frame1 w8 w11 s11
  refine br (br (br (br (br ?_))))
  obtain ⟨r13,e13,hp⟩:=ag hp
  refine aE (fM.P ⟨w12,trivial⟩ e13) ?_
  rintro _ H14 ⟨rfl,w14,s14,_⟩
  refine br ?_
  obtain ⟨w15,s15⟩:=w14.pp [] 3
  exact az hp ⟨rfl,w15,(s0.trans (s1.trans (s3.trans (s4.trans (s5.trans (s6.trans (s8.trans (s12.trans (s14.trans s15))))))))),trivial⟩
def cM.Q (H0:Hp) (Ri R0:as2)  (r:Int) (v:AV) (H':Hp):Prop:=v=(.i r)/\Out H0 Ri H' (R0) λR=>True
def cM.p (F:Nat) (ah:ata):Option (Int):=some (ah.length:Int)
theorem cM.P {aB ak aC ah} (ba:ak=ah.length) (h0:Inn H R0 λR=>ROs (ac eI (ac eI (ac eI (ac eI eI)))) H R ⟨aB,ak,aC⟩ ah) {r:Int} (hp:cM.p F ah=some r):Rt (cM.tw F ⟨aB,ak,aC⟩ H) (cM.Q H R0 R0  r):=by
 obtain ⟨w0,aO⟩:=h0
 subst ba
 unfold cM.p at hp
 unfold cM.tw cM.twX
 have s0:=w0.rf
 exact az hp ⟨rfl,w0,s0,trivial⟩
def dw.Q (H0:Hp) (Ri R0:as2)  (r:Bool) (v:AV) (H':Hp):Prop:=v=(.bool r)/\Out H0 Ri H' (R0) λR=>True
def dw.p (F:Nat) (aa:Int) (aA:Int) (cL:Int):Option (Bool):=(bif (decide (aA<=aa)) then (some (decide (aa<=cL))) else (some false))
theorem dw.P {aa aA cL}  (h0:Inn H R0 λR=>True) {r:Bool} (hp:dw.p F aa aA cL=some r):Rt (dw.tw F aa aA cL H) (dw.Q H R0 R0  r):=by
 obtain ⟨w0,_⟩:=h0
 unfold dw.p at hp
 unfold dw.tw dw.twX
 have s0:=w0.rf
 refine ay hp (λhp=>?_) λhp=>?_
 ·exact az hp ⟨rfl,w0,s0,trivial⟩
 ·exact az hp ⟨rfl,w0,s0,trivial⟩
def fi.Q (H0:Hp) (Ri R0:as2)  (r:Bool) (v:AV) (H':Hp):Prop:=v=(.bool r)/\Out H0 Ri H' (R0) λR=>True
def fi.p (F:Nat) (bQ:Int):Option (Bool):=(bif (bQ != 1) then (some (bQ != (-1))) else (some false))
theorem fi.P {aa af bV bW bQ}  (h0:Inn H R0 λR=>True) {r:Bool} (hp:fi.p F bQ=some r):Rt (fi.tw F aa af bV bW bQ H) (fi.Q H R0 R0  r):=by
 obtain ⟨w0,_⟩:=h0
 unfold fi.p at hp
 unfold fi.tw fi.twX
 have s0:=w0.rf
 refine aS w0 λH1 w1 s1=>?_
 refine lI w1 0 ?_
 refine ay hp (λhp=>?_) λhp=>?_
 ·refine lI w1 0 ?_
  obtain ⟨w2,s2⟩:=w1.pp [] 1
  exact az hp ⟨rfl,w2,(s0.trans (s1.trans s2)),trivial⟩
 ·obtain ⟨w3,s3⟩:=w1.pp [] 1
  exact az hp ⟨rfl,w3,(s0.trans (s1.trans s3)),trivial⟩
def bY.Q (H0:Hp) (Ri R0:as2)  (r:Int) (v:AV) (H':Hp):Prop:=v=(.i r)/\Out H0 Ri H' (R0) λR=>True
def bY.S13 (H0:Hp) (Ri R0:as2)  (C:atd) (pC:List (Int×Int×Int×Int×Int)->Int->Int->Option (Int)):Prop:=∀ {lD iT lE er de cv},∀ {H:Hp},iT=er.length->(Out H0 Ri H R0 λR=>ROs (ac eI (ac eI (ac eI (ac eI eI)))) H R ⟨lD,iT,lE⟩ er)->∀ {r:Int},pC er de cv=some r->Rt (C ⟨lD,iT,lE⟩ de cv H) (bY.Q H0 Ri R0  r)
def bY.pl13 (F:Nat) :Nat->List (Int×Int×Int×Int×Int)->Int->Int->Option (Int)
 | 0,_,_,_=>none
 | k+1,er,de,cv=>(bif (decide (cv<de)) then ((ix er cv).bind λn1=>(fi.p F ((gt er n1).2.2.2.2)).bind λr2=>(bif r2 then (some cv) else (bY.pl13 F k er de (wrap .i64 (cv+1))))) else (some (-1)))
theorem bY.l13_P  :∀ k,bY.S13 H0 Ri R0  (bY.l13 F (fi.tw F)  k) (bY.pl13 F  k):=by
 intro k
 induction k with
 | zero=>unfold bY.S13;intros;rename_i hp;cases hp
 | succ k ih=>
  intro lD iT lE er de cv H zi h0 r hp
  obtain ⟨w0,s0,oO⟩:=h0
  subst zi
  unfold bY.pl13 at hp
  unfold bY.l13
  refine ay hp (λhp=>?_) λhp=>?_
  ·obtain ⟨n1,g1,hp⟩:=ag hp
   obtain ⟨p1,q1,i1,h1,j1⟩:=ROs.ixr oO rfl g1
   refine ai i1 ?_
   obtain ⟨_,_,rfl,rfl,_,_,rfl,rfl,_,_,rfl,rfl,_,_,rfl,rfl,rfl⟩:=h1
   refine ai (aG (j1 0 _ rfl)) ?_
   refine ai (aG (j1 1 _ rfl)) ?_
   refine ai (aG (j1 2 _ rfl)) ?_
   refine ai (aG (j1 3 _ rfl)) ?_
   refine ai (aG (j1 4 _ rfl)) ?_
   obtain ⟨r2,e2,hp⟩:=ag hp
   refine aE (fi.P ⟨w0,trivial⟩ e2) ?_
   rintro _ H3 ⟨rfl,w3,s3,_⟩
   refine br ?_
   refine ay hp (λhp=>?_) λhp=>?_
   ·exact az hp ⟨rfl,w3,(s0.trans s3),trivial⟩
   ·exact ih rfl ⟨w3,(s0.trans s3),(oO.step s3)⟩ hp
  ·exact az hp ⟨rfl,w0,s0,trivial⟩
def bY.p (F:Nat) (ah:ata):Option (Int):=bY.pl13 F F ah (ah.length:Int) 0
theorem bY.P {aB ak aC ah} (ba:ak=ah.length) (h0:Inn H R0 λR=>ROs (ac eI (ac eI (ac eI (ac eI eI)))) H R ⟨aB,ak,aC⟩ ah) {r:Int} (hp:bY.p F ah=some r):Rt (bY.tw F ⟨aB,ak,aC⟩ H) (bY.Q H R0 R0  r):=by
 obtain ⟨w0,aO⟩:=h0
 subst ba
 unfold bY.p at hp
 unfold bY.tw bY.twX
 have s0:=w0.rf
 exact bY.l13_P F rfl ⟨w0,s0,aO⟩ hp
def eD.Q (H0:Hp) (Ri R0:as2)  (r:Bool) (v:AV) (H':Hp):Prop:=v=(.bool r)/\Out H0 Ri H' (R0) λR=>True
def eD.p (F:Nat) (ah:ata):Option (Bool):=(bY.p F ah).bind λr1=>some (decide (r1>=0))
theorem eD.P {aB ak aC ah} (ba:ak=ah.length) (h0:Inn H R0 λR=>ROs (ac eI (ac eI (ac eI (ac eI eI)))) H R ⟨aB,ak,aC⟩ ah) {r:Bool} (hp:eD.p F ah=some r):Rt (eD.tw F ⟨aB,ak,aC⟩ H) (eD.Q H R0 R0  r):=by
 obtain ⟨w0,aO⟩:=h0
 subst ba
 unfold eD.p at hp
 unfold eD.tw eD.twX
 have s0:=w0.rf
 obtain ⟨r1,e1,hp⟩:=ag hp
 refine aE (bY.P rfl ⟨w0,aO⟩ e1) ?_
 rintro _ H2 ⟨rfl,w2,s2,_⟩
 refine br ?_
 exact az hp ⟨rfl,w2,(s0.trans s2),trivial⟩
def bits_Mul64.Q (H0:Hp) (Ri R0:as2)  (r:atp) (v:AV) (H':Hp):Prop:=v=(.tup [(.int .u64 r.1),(.int .u64 r.2)])/\Out H0 Ri H' (R0) λR=>True
def bits_Mul64.p (F:Nat) (aa:Int) (aA:Int):Option (Int×Int):=some ((IntKind.u64.wrap ((IntKind.u64.wrap ((IntKind.u64.wrap ((Int.fdiv aa (2 ^ (min (32:Int).toNat (IntKind.u64).bits))) * (Int.fdiv aA (2 ^ (min (32:Int).toNat (IntKind.u64).bits)))))+(Int.fdiv (IntKind.u64.wrap ((IntKind.u64.wrap ((Int.fdiv aa (2 ^ (min (32:Int).toNat (IntKind.u64).bits))) * (Go.bits .and .u64 aA 4294967295)))+(Int.fdiv (IntKind.u64.wrap ((Go.bits .and .u64 aa 4294967295) * (Go.bits .and .u64 aA 4294967295))) (2 ^ (min (32:Int).toNat (IntKind.u64).bits))))) (2 ^ (min (32:Int).toNat (IntKind.u64).bits)))))+(Int.fdiv (IntKind.u64.wrap ((Go.bits .and .u64 (IntKind.u64.wrap ((IntKind.u64.wrap ((Int.fdiv aa (2 ^ (min (32:Int).toNat (IntKind.u64).bits))) * (Go.bits .and .u64 aA 4294967295)))+(Int.fdiv (IntKind.u64.wrap ((Go.bits .and .u64 aa 4294967295) * (Go.bits .and .u64 aA 4294967295))) (2 ^ (min (32:Int).toNat (IntKind.u64).bits))))) 4294967295)+(IntKind.u64.wrap ((Go.bits .and .u64 aa 4294967295) * (Int.fdiv aA (2 ^ (min (32:Int).toNat (IntKind.u64).bits))))))) (2 ^ (min (32:Int).toNat (IntKind.u64).bits))))),(IntKind.u64.wrap (aa * aA)))
theorem bits_Mul64.P {aa aA}  (h0:Inn H R0 λR=>True) {r:atp} (hp:bits_Mul64.p F aa aA=some r):Rt (bits_Mul64.tw F aa aA H) (bits_Mul64.Q H R0 R0  r):=by
 obtain ⟨w0,_⟩:=h0
 unfold bits_Mul64.p at hp
 unfold bits_Mul64.tw bits_Mul64.twX
 have s0:=w0.rf
 exact az hp ⟨rfl,w0,s0,trivial⟩
def bits_Mul.Q (H0:Hp) (Ri R0:as2)  (r:atp) (v:AV) (H':Hp):Prop:=v=(.tup [(.int .u64 r.1),(.int .u64 r.2)])/\Out H0 Ri H' (R0) λR=>True
def bits_Mul.p (F:Nat) (aa:Int) (aA:Int):Option (Int×Int):=(bits_Mul64.p F aa aA).bind λr1=>some (r1.1,r1.2)
theorem bits_Mul.P {aa aA}  (h0:Inn H R0 λR=>True) {r:atp} (hp:bits_Mul.p F aa aA=some r):Rt (bits_Mul.tw F aa aA H) (bits_Mul.Q H R0 R0  r):=by
 obtain ⟨w0,_⟩:=h0
 unfold bits_Mul.p at hp
 unfold bits_Mul.tw bits_Mul.twX
 have s0:=w0.rf
 obtain ⟨r1,e1,hp⟩:=ag hp
 refine aE (bits_Mul64.P ⟨w0,trivial⟩ e1) ?_
 rintro _ H2 ⟨rfl,w2,s2,_⟩
 refine br (br (br (br (br ?_))))
 exact az hp ⟨rfl,w2,(s0.trans s2),trivial⟩
def bv.Q (H0:Hp) (Ri R0:as2)  (r:(List (Int×Int))) (v:AV) (H':Hp):Prop:=∃ o0a:ON,∃ o0n:Nat,∃ o0k:List AV,v=(.sl ⟨o0a,o0n,.ex o0n⟩)/\o0n=(r).length/\Out H0 Ri H' (Rs.own ⟨o0a,o0n,.ex o0n⟩ (ac eI eI).z o0k::R0) λR=>CR (ac eI eI) H' R o0k (r)
def bv.pj1 (F:Nat)  (wb:atn) (pK:Int):Option ((List (Int×Int))):=(mkn (wrap .i64 pK) ((0:Int),(0:Int))).bind λl1=>(some (cpl l1 wb)).bind λl3=>(wF F l3 ((min wb.length l1.length:Nat):Int)).bind λl5=>some l5
theorem bv.j1_P   {aa3 NX aa4 wb pK} (am3:NX=wb.length) (h0:Out H0 Ri H R0 λR=>ROs (ac eI eI) H R ⟨aa3,NX,aa4⟩ wb) {r:(List (Int×Int))} (hp:bv.pj1 F  wb pK=some r):Rt (bv.j1 F (bits_Mul.tw F)  ⟨aa3,NX,aa4⟩ pK H) (bv.Q H0 Ri R0  r):=by
 obtain ⟨w0,s0,am4⟩:=h0
 subst am3
 unfold bv.pj1 at hp
 unfold bv.j1
 obtain ⟨l1,e1,hp⟩:=ag hp
 refine ka (ac eI eI) ((0:Int),(0:Int)) w0 ⟨[_],_,rfl,rfl,rfl⟩ rfl rfl e1 λH2 k2 w2 s2 c2=>?_
 obtain ⟨x3,h3,c3⟩:=(am4.step s2).row (z:=(ac eI eI).z) rfl
 obtain ⟨l3,e3,hp⟩:=ag hp
 refine ark (ac eI eI) w2 (i:=0) rfl rfl c2 h3 c3 rfl rfl e3 λk4 H4 w4 s4 c4=>?_
 obtain ⟨l5,e5,hp⟩:=ag hp
 refine arl (ac eI eI) rfl (L:=bv.l254 F (bits_Mul.tw F)) (λ_ _ _ _=>rfl) w4 (i:=0) rfl c4 e5 λH6 k6 w6 s6 c6=>?_
 dsimp only [List.set] at w6 s6 c6
 exact az hp ⟨_,_,_,rfl,((arm e3).symm.trans (arn e5).symm),w6,(s0.trans (s2.trans (s4.trans s6))),c6⟩
def bv.pj2 (F:Nat)  (wd:atn) (ub:Int):Option ((List (Int×Int))):=(bits_Mul.p F (IntKind.u64.wrap (wd.length:Int)) (IntKind.u64.wrap ub)).bind λr1=>(bif (decide (r1.1>0)) then (none) else ((bif (decide (r1.2>9223372036854775807)) then (none) else (bv.pj1 F wd r1.2))))
theorem bv.j2_P   {aa5 NY aa6 wd ub} (am5:NY=wd.length) (h0:Out H0 Ri H R0 λR=>ROs (ac eI eI) H R ⟨aa5,NY,aa6⟩ wd) {r:(List (Int×Int))} (hp:bv.pj2 F  wd ub=some r):Rt (bv.j2 F (bits_Mul.tw F)  ⟨aa5,NY,aa6⟩ ub H) (bv.Q H0 Ri R0  r):=by
 obtain ⟨w0,s0,am6⟩:=h0
 subst am5
 unfold bv.pj2 at hp
 unfold bv.j2
 obtain ⟨r1,e1,hp⟩:=ag hp
 refine aE (bits_Mul.P ⟨w0,trivial⟩ e1) ?_
 rintro _ H2 ⟨rfl,w2,s2,_⟩
 refine br (br (br (br (br ?_))))
 refine ay hp (λhp=>?_) λhp=>?_
 ·cases hp
 ·refine ay hp (λhp=>?_) λhp=>?_
  ·cases hp
  ·exact bv.j1_P rfl ⟨w2,(s0.trans s2),(am6.step s2)⟩ hp
def bv.p (F:Nat) (ah:atn) (aA:Int):Option ((List (Int×Int))):=(bif (decide (aA<0)) then (none) else (bv.pj2 F ah aA))
theorem bv.P {aB ak aC ah aA} (ba:ak=ah.length) (h0:Inn H R0 λR=>ROs (ac eI eI) H R ⟨aB,ak,aC⟩ ah) {r:(List (Int×Int))} (hp:bv.p F ah aA=some r):Rt (bv.tw F ⟨aB,ak,aC⟩ aA H) (bv.Q H R0 R0  r):=by
 obtain ⟨w0,aO⟩:=h0
 subst ba
 unfold bv.p at hp
 unfold bv.tw bv.twX
 have s0:=w0.rf
 refine ay hp (λhp=>?_) λhp=>?_
 ·cases hp
 ·exact bv.j2_P rfl ⟨w0,s0,aO⟩ hp
def dS.Q (H0:Hp) (Ri R0:as2)  (r:Int×Int×Int×Int) (v:AV) (H':Hp):Prop:=v=(.agg [(.i r.1),(.i r.2.1),(.i r.2.2.1),(.i r.2.2.2)])/\Out H0 Ri H' (R0) λR=>True
def dS.p (F:Nat) (aa:Int) (af:Int) (bV:Int) (bW:Int):Option (Int×Int×Int×Int):=some (aa,af,bV,bW)
theorem dS.P {aa af bV bW bQ}  (h0:Inn H R0 λR=>True) {r:Int×Int×Int×Int} (hp:dS.p F aa af bV bW=some r):Rt (dS.tw F aa af bV bW bQ H) (dS.Q H R0 R0  r):=by
 obtain ⟨w0,_⟩:=h0
 unfold dS.p at hp
 unfold dS.tw dS.twX
 have s0:=w0.rf
 refine aS w0 λH1 w1 s1=>?_
 refine aS w1 λH2 w2 s2=>?_
 refine lI w2 1 ?_
 refine lI w2 1 ?_
 refine lI w2 1 ?_
 refine lI w2 1 ?_
 refine aq w2 0 λH3 w3 s3=>?_
 refine aq w3 0 λH4 w4 s4=>?_
 refine aq w4 0 λH5 w5 s5=>?_
 refine aq w5 0 λH6 w6 s6=>?_
 refine lI w6 0 ?_
 refine lI w6 0 ?_
 refine lI w6 0 ?_
 refine lI w6 0 ?_
 obtain ⟨w7,s7⟩:=w6.pp [] 2
 exact az hp ⟨rfl,w7,(s0.trans (s1.trans (s2.trans (s3.trans (s4.trans (s5.trans (s6.trans s7))))))),trivial⟩
def dU.Q (H0:Hp) (Ri R0:as2)  (r:Bool) (v:AV) (H':Hp):Prop:=v=(.bool r)/\Out H0 Ri H' (R0) λR=>True
def dU.p (F:Nat) (bQ:Int) (cD:Int):Option (Bool):=(bif (cD==0) then (some true) else (some (cD==(wrap .i64 (2+bQ)))))
theorem dU.P {aa af bV bW bQ cD}  (h0:Inn H R0 λR=>True) {r:Bool} (hp:dU.p F bQ cD=some r):Rt (dU.tw F aa af bV bW bQ cD H) (dU.Q H R0 R0  r):=by
 obtain ⟨w0,_⟩:=h0
 unfold dU.p at hp
 unfold dU.tw dU.twX
 have s0:=w0.rf
 refine aS w0 λH1 w1 s1=>?_
 refine ay hp (λhp=>?_) λhp=>?_
 ·obtain ⟨w2,s2⟩:=w1.pp [] 1
  exact az hp ⟨rfl,w2,(s0.trans (s1.trans s2)),trivial⟩
 ·refine lI w1 0 ?_
  obtain ⟨w3,s3⟩:=w1.pp [] 1
  exact az hp ⟨rfl,w3,(s0.trans (s1.trans s3)),trivial⟩
def fN.Q (H0:Hp) (Ri R0:as2)  (r:Int) (v:AV) (H':Hp):Prop:=v=(.i r)/\Out H0 Ri H' (R0) λR=>True
def fN.p (F:Nat) (ah:atn):Option (Int):=some (ah.length:Int)
theorem fN.P {aB ak aC ah} (ba:ak=ah.length) (h0:Inn H R0 λR=>ROs (ac eI eI) H R ⟨aB,ak,aC⟩ ah) {r:Int} (hp:fN.p F ah=some r):Rt (fN.tw F ⟨aB,ak,aC⟩ H) (fN.Q H R0 R0  r):=by
 obtain ⟨w0,aO⟩:=h0
 subst ba
 unfold fN.p at hp
 unfold fN.tw fN.twX
 have s0:=w0.rf
 exact az hp ⟨rfl,w0,s0,trivial⟩
def dI.Q (H0:Hp) (Ri R0:as2)  (r:Bool) (v:AV) (H':Hp):Prop:=v=(.bool r)/\Out H0 Ri H' (R0) λR=>True
def dI.p (F:Nat) (ah:atn) (aA:Int):Option (Bool):=(fN.p F ah).bind λr1=>(dw.p F aA 0 (wrap .i64 (r1 - 1))).bind λr3=>some r3
theorem dI.P {aB ak aC ah aA} (ba:ak=ah.length) (h0:Inn H R0 λR=>ROs (ac eI eI) H R ⟨aB,ak,aC⟩ ah) {r:Bool} (hp:dI.p F ah aA=some r):Rt (dI.tw F ⟨aB,ak,aC⟩ aA H) (dI.Q H R0 R0  r):=by
 obtain ⟨w0,aO⟩:=h0
 subst ba
 unfold dI.p at hp
 unfold dI.tw dI.twX
 have s0:=w0.rf
 obtain ⟨r1,e1,hp⟩:=ag hp
 refine aE (fN.P rfl ⟨w0,aO⟩ e1) ?_
 rintro _ H2 ⟨rfl,w2,s2,_⟩
 refine br ?_
 obtain ⟨r3,e3,hp⟩:=ag hp
 refine aE (dw.P ⟨w2,trivial⟩ e3) ?_
 rintro _ H4 ⟨rfl,w4,s4,_⟩
 refine br ?_
 exact az hp ⟨rfl,w4,(s0.trans (s2.trans s4)),trivial⟩
def bf.Q (H0:Hp) (Ri R0:as2)  (r:(List (Int×Int))×(List (Int×Int))×Bool) (v:AV) (H':Hp):Prop:=∃ o0a:ON,∃ o0n:Nat,∃ o0c:Cap,∃ o0k:List AV,∃ o1a:ON,∃ o1n:Nat,∃ o1c:Cap,∃ o1k:List AV,v=(.tup [(.agg [(.sl ⟨o0a,o0n,o0c⟩),(.sl ⟨o1a,o1n,o1c⟩)]),(.bool r.2.2)])/\o0n=(r.1).length/\o1n=(r.2.1).length/\Out H0 Ri H' (Rs.own ⟨o0a,o0n,o0c⟩ (ac eI eI).z o0k::Rs.own ⟨o1a,o1n,o1c⟩ (ac eI eI).z o1k::R0) λR=>CR (ac eI eI) H' R o0k (r.1)/\CR (ac eI eI) H' R o1k (r.2.1)
def bf.S61 (H0:Hp) (Ri R0:as2)  (C:at2) (pC:auf):Prop:=∀ {NZ qU N_ Oa Ob E_ nq eV Fa Fb mQ Fc Oc qV Od Oe Of Og qW qX qY Oh qZ Oi Oj jV kx ii},∀ {H:Hp},E_=Og.length->nq=qW.length->Fa=qX.length->Fb=qY.length->Fc=jV.length->(Out H0 Ri H (Rs.own ⟨NZ,E_,Oc⟩ (ac eI eI).z Oh::Rs.own ⟨qU,nq,qV⟩ (ac eI eI).z qZ::Rs.blk eV [.sl ⟨NZ,E_,Oc⟩,.sl ⟨qU,nq,qV⟩]::Rs.own ⟨N_,Fa,Od⟩ (ac eI eI).z Oi::Rs.own ⟨Oa,Fb,Oe⟩ (ac eI eI).z Oj::Rs.blk mQ [.sl ⟨N_,Fa,Od⟩,.sl ⟨Oa,Fb,Oe⟩]::R0) λR=>CR (ac eI eI) H R Oh Og/\CR (ac eI eI) H R qZ qW/\CR (ac eI eI) H R Oi qX/\CR (ac eI eI) H R Oj qY/\ROs (ac eI (ac eI (ac eI (ac eI eI)))) H R ⟨Ob,Fc,Of⟩ jV)->∀ {r:(List (Int×Int))×(List (Int×Int))×Bool},pC qX qY jV kx ii=some r->Rt (C eV 0 mQ 0 ⟨Ob,Fc,Of⟩ kx ii H) (bf.Q H0 Ri R0  r)
def bf.S3931 (H0:Hp) (Ri R0:as2)  (C:Nat->Nat->Nat->Nat->Sl->Int->Int->Nat->Nat->Int->Int->Int->Int->Int->Int->Hp->OA) (pC:List (Int×Int)->List (Int×Int)->List (Int×Int×Int×Int×Int)->Int->Int->Int->Int->Int->Int->Int->Int->Int->Option ((List (Int×Int))×(List (Int×Int))×Bool)):Prop:=∀ {Ol Om On Oo Oq Fd Fe eE Ff Fg fO Fh jo Ot Ou Ov Ow Ox Oy Oz gN gO OB OC OD OE oP jm jn aa7 aa8 aa9 aa_ q_ ic fu fv fx fy dz},∀ {H:Hp},Fd=Oy.length->Fe=Oz.length->Ff=gN.length->Fg=gO.length->Fh=oP.length->(Out H0 Ri H (Rs.own ⟨Ol,Fd,Ot⟩ (ac eI eI).z OB::Rs.own ⟨Om,Fe,Ou⟩ (ac eI eI).z OC::Rs.blk eE [.sl ⟨Ol,Fd,Ot⟩,.sl ⟨Om,Fe,Ou⟩]::Rs.own ⟨On,Ff,Ov⟩ (ac eI eI).z OD::Rs.own ⟨Oo,Fg,Ow⟩ (ac eI eI).z OE::Rs.blk fO [.sl ⟨On,Ff,Ov⟩,.sl ⟨Oo,Fg,Ow⟩]::Rs.blk jo [.i aa7,.i aa8,.i aa9,.i aa_,.i q_]::R0) λR=>CR (ac eI eI) H R OB Oy/\CR (ac eI eI) H R OC Oz/\CR (ac eI eI) H R OD gN/\CR (ac eI eI) H R OE gO/\ROs (ac eI (ac eI (ac eI (ac eI eI)))) H R ⟨Oq,Fh,Ox⟩ oP)->∀ {r:(List (Int×Int))×(List (Int×Int))×Bool},pC gN gO oP jm jn q_ ic fu fv fx fy dz=some r->Rt (C eE 0 fO 0 ⟨Oq,Fh,Ox⟩ jm jn jo 0 ic fu fv fx fy dz H) (bf.Q H0 Ri R0  r)
def bf.pl3931 (F:Nat) (ar:auf):Nat->List (Int×Int)->List (Int×Int)->List (Int×Int×Int×Int×Int)->Int->Int->Int->Int->Int->Int->Int->Int->Int->Option ((List (Int×Int))×(List (Int×Int))×Bool)
 | 0,_,_,_,_,_,_,_,_,_,_,_,_=>none
 | k+1,gN,gO,oP,jm,jn,q_,ic,fu,fv,fx,fy,dz=>(bif (decide (dz<4)) then ((if 0<=dz/\dz<(4:Int) then ((dU.p F q_ dz).bind λr2=>(bif r2 then ((dI.p F gO (gt ([fu,fv,fx,fy]:List Int) (dz:Int).toNat)).bind λr6=>(bif (!r6) then (some (gN,gO,false)) else ((ix gO (gt ([fu,fv,fx,fy]:List Int) (dz:Int).toNat)).bind λn12=>(bif (decide (((gt gO n12).1)>=0)) then (some (gN,gO,false)) else ((ix gO (gt ([fu,fv,fx,fy]:List Int) (dz:Int).toNat)).bind λn16=>(some (gO.set n16 (ic,(gt gO n16).2))).bind λl17=>(some (l17.set n16 ((gt l17 n16).1,dz))).bind λl19=>bf.pl3931 F ar k gN l19 oP jm jn q_ ic fu fv fx fy (wrap .i64 (dz+1))))))) else ((dI.p F gN (gt ([fu,fv,fx,fy]:List Int) (dz:Int).toNat)).bind λr24=>(bif (!r24) then (some (gN,gO,false)) else ((ix gN (gt ([fu,fv,fx,fy]:List Int) (dz:Int).toNat)).bind λn30=>(bif (decide (((gt gN n30).1)>=0)) then (some (gN,gO,false)) else ((ix gN (gt ([fu,fv,fx,fy]:List Int) (dz:Int).toNat)).bind λn34=>(some (gN.set n34 (ic,(gt gN n34).2))).bind λl35=>(some (l35.set n34 ((gt l35 n34).1,dz))).bind λl37=>bf.pl3931 F ar k l37 gO oP jm jn q_ ic fu fv fx fy (wrap .i64 (dz+1))))))))) else none)) else (ar gN gO oP jm (wrap .i64 (jn+1))))
theorem bf.l3931_P  {C61_:at2} {ar:auf} (hC61:bf.S61 H0 Ri R0  C61_ ar):∀ k,bf.S3931 H0 Ri R0  (bf.l3931 F (bv.tw F) (dS.tw F) (dU.tw F) (dI.tw F) C61_ k) (bf.pl3931 F ar k):=by
 intro k
 induction k with
 | zero=>unfold bf.S3931;intros;rename_i hp;cases hp
 | succ k ih=>
  intro Ol Om On Oo Oq Fd Fe eE Ff Fg fO Fh jo Ot Ou Ov Ow Ox Oy Oz gN gO OB OC OD OE oP jm jn aa7 aa8 aa9 aa_ q_ ic fu fv fx fy dz H am7 am8 am9 am_ ana h0 r hp
  obtain ⟨w0,s0,OF,OG,mj,ml,OH⟩:=h0
  subst am7
  subst am8
  subst am9
  subst am_
  subst ana
  unfold bf.pl3931 at hp
  unfold bf.l3931
  refine ay hp (λhp=>?_) λhp=>?_
  ·obtain ⟨g1,hp⟩:=fW hp
   refine eK g1 ?_
   refine ai (a:=AV.int .i64 (gt ([fu,fv,fx,fy]:List Int) (dz:Int).toNat)) (by rw [Nat.mul_one];exact afI (k:=.i64) (l:=[fu,fv,fx,fy]) rfl (by have:=g1;simp only [List.length_cons,List.length_nil];omega)) ?_
   refine br ?_
   refine lSl w0 5 ?_
   refine lI w0 6 ?_
   refine lI w0 6 ?_
   refine lI w0 6 ?_
   refine lI w0 6 ?_
   refine lI w0 6 ?_
   obtain ⟨r2,e2,hp⟩:=ag hp
   refine aE (dU.P ⟨w0,trivial⟩ e2) ?_
   rintro _ H3 ⟨rfl,w3,s3,_⟩
   refine br ?_
   refine ay hp (λhp=>?_) λhp=>?_
   ·refine lSl w3 5 ?_
    obtain ⟨w4,s4⟩:=w3.pp [4,0,1,2,3,5,6] 7
    have f5:=W.borrow1 (ac eI eI) w4 (ml.step (s3.trans s4))
    obtain ⟨w5,s5⟩:=w4.right1
    obtain ⟨r6,e6,hp⟩:=ag hp
    refine aE (dI.P rfl ⟨w5,f5⟩ e6) ?_
    rintro _ H7 ⟨rfl,w7,s7,_⟩
    obtain ⟨w8,s8⟩:=W.frame1 w4 w7 s7
    refine br ?_
    refine ay hp (λhp=>?_) λhp=>?_
    ·refine lSl w8 5 ?_
     refine lSl w8 5 ?_
     refine aq w8 3 λH9 w9 s9=>?_
     refine aq w9 3 λH10 w10 s10=>?_
     refine lSl w10 3 ?_
     refine lSl w10 3 ?_
     obtain ⟨w11,s11⟩:=w10.pp [4,0] 7
     exact az hp ⟨_,_,_,_,_,_,_,_,rfl,rfl,rfl,w11,(s0.trans (s3.trans (s4.trans (s8.trans (s9.trans (s10.trans s11)))))),(mj.step (s3.trans (s4.trans (s8.trans (s9.trans (s10.trans s11)))))),(ml.step (s3.trans (s4.trans (s8.trans (s9.trans (s10.trans s11))))))⟩
    ·obtain ⟨n12,g12,hp⟩:=ag hp
     obtain ⟨p12,q12,i12,h12,j12⟩:=W.ixo (E:=(ac eI eI)) w8 (i:=0) rfl rfl (ml.step (s3.trans (s4.trans s8))) g12
     refine ai i12 ?_
     obtain ⟨_,_,rfl,rfl,rfl⟩:=h12
     refine ai (aG (j12 0 _ rfl)) ?_
     refine ay hp (λhp=>?_) λhp=>?_
     ·refine lSl w8 5 ?_
      refine lSl w8 5 ?_
      refine aq w8 3 λH13 w13 s13=>?_
      refine aq w13 3 λH14 w14 s14=>?_
      refine lSl w14 3 ?_
      refine lSl w14 3 ?_
      obtain ⟨w15,s15⟩:=w14.pp [4,0] 7
      exact az hp ⟨_,_,_,_,_,_,_,_,rfl,rfl,rfl,w15,(s0.trans (s3.trans (s4.trans (s8.trans (s13.trans (s14.trans s15)))))),(mj.step (s3.trans (s4.trans (s8.trans (s13.trans (s14.trans s15)))))),(ml.step (s3.trans (s4.trans (s8.trans (s13.trans (s14.trans s15))))))⟩
     ·obtain ⟨n16,g16,hp⟩:=ag hp
      obtain ⟨p16,q16,i16,h16,j16⟩:=W.ixo (E:=(ac eI eI)) w8 (i:=0) rfl rfl (ml.step (s3.trans (s4.trans s8))) g16
      refine ai i16 ?_
      obtain ⟨l17,e17,hp⟩:=ag hp
      refine dC (ac eI eI) w8 (i:=0) (j:=0) (p:=p16) rfl rfl (ml.step (s3.trans (s4.trans s8))) g16 i16 e17 rfl rfl (λ_ h=>by obtain ⟨_,_,rfl,rfl,rfl⟩:=h;exact ⟨[_],_,rfl,rfl,rfl⟩) λH18 k18 w18 s18 c18=>?_
      obtain ⟨l19,e19,hp⟩:=ag hp
      refine dC (ac eI eI) w18 (i:=0) (j:=1) (p:=p16) rfl rfl c18 (mv g16 (cz e17)) i16 e19 rfl rfl (λ_ h=>by obtain ⟨_,_,rfl,rfl,rfl⟩:=h;exact ⟨[_],_,rfl,rfl,rfl⟩) λH20 k20 w20 s20 c20=>?_
      obtain ⟨w21,s21⟩:=w20.pp [1,2,3,4,0,5,6] 7
      exact ih rfl rfl rfl ((cz e17).symm.trans (cz e19).symm) rfl ⟨w21,(s0.trans (s3.trans (s4.trans (s8.trans (s18.trans (s20.trans s21)))))),(OF.step (s3.trans (s4.trans (s8.trans (s18.trans (s20.trans s21)))))),(OG.step (s3.trans (s4.trans (s8.trans (s18.trans (s20.trans s21)))))),(mj.step (s3.trans (s4.trans (s8.trans (s18.trans (s20.trans s21)))))),(c20.step s21),(OH.step (s3.trans (s4.trans (s8.trans (s18.trans (s20.trans s21))))))⟩ hp
   ·obtain ⟨w22,s22⟩:=w3.pp [3,0,1,2,4,5,6] 7
    have f23:=W.borrow1 (ac eI eI) w22 (mj.step (s3.trans s22))
    obtain ⟨w23,s23⟩:=w22.right1
    obtain ⟨r24,e24,hp⟩:=ag hp
    refine aE (dI.P rfl ⟨w23,f23⟩ e24) ?_
    rintro _ H25 ⟨rfl,w25,s25,_⟩
    obtain ⟨w26,s26⟩:=W.frame1 w22 w25 s25
    refine br ?_
    refine ay hp (λhp=>?_) λhp=>?_
    ·refine lSl w26 5 ?_
     refine lSl w26 5 ?_
     refine aq w26 3 λH27 w27 s27=>?_
     refine aq w27 3 λH28 w28 s28=>?_
     refine lSl w28 3 ?_
     refine lSl w28 3 ?_
     obtain ⟨w29,s29⟩:=w28.pp [0,4] 7
     exact az hp ⟨_,_,_,_,_,_,_,_,rfl,rfl,rfl,w29,(s0.trans (s3.trans (s22.trans (s26.trans (s27.trans (s28.trans s29)))))),(mj.step (s3.trans (s22.trans (s26.trans (s27.trans (s28.trans s29)))))),(ml.step (s3.trans (s22.trans (s26.trans (s27.trans (s28.trans s29))))))⟩
    ·obtain ⟨n30,g30,hp⟩:=ag hp
     obtain ⟨p30,q30,i30,h30,j30⟩:=W.ixo (E:=(ac eI eI)) w26 (i:=0) rfl rfl (mj.step (s3.trans (s22.trans s26))) g30
     refine ai i30 ?_
     obtain ⟨_,_,rfl,rfl,rfl⟩:=h30
     refine ai (aG (j30 0 _ rfl)) ?_
     refine ay hp (λhp=>?_) λhp=>?_
     ·refine lSl w26 5 ?_
      refine lSl w26 5 ?_
      refine aq w26 3 λH31 w31 s31=>?_
      refine aq w31 3 λH32 w32 s32=>?_
      refine lSl w32 3 ?_
      refine lSl w32 3 ?_
      obtain ⟨w33,s33⟩:=w32.pp [0,4] 7
      exact az hp ⟨_,_,_,_,_,_,_,_,rfl,rfl,rfl,w33,(s0.trans (s3.trans (s22.trans (s26.trans (s31.trans (s32.trans s33)))))),(mj.step (s3.trans (s22.trans (s26.trans (s31.trans (s32.trans s33)))))),(ml.step (s3.trans (s22.trans (s26.trans (s31.trans (s32.trans s33))))))⟩
     ·obtain ⟨n34,g34,hp⟩:=ag hp
      obtain ⟨p34,q34,i34,h34,j34⟩:=W.ixo (E:=(ac eI eI)) w26 (i:=0) rfl rfl (mj.step (s3.trans (s22.trans s26))) g34
      refine ai i34 ?_
      obtain ⟨l35,e35,hp⟩:=ag hp
      refine dC (ac eI eI) w26 (i:=0) (j:=0) (p:=p34) rfl rfl (mj.step (s3.trans (s22.trans s26))) g34 i34 e35 rfl rfl (λ_ h=>by obtain ⟨_,_,rfl,rfl,rfl⟩:=h;exact ⟨[_],_,rfl,rfl,rfl⟩) λH36 k36 w36 s36 c36=>?_
      obtain ⟨l37,e37,hp⟩:=ag hp
      refine dC (ac eI eI) w36 (i:=0) (j:=1) (p:=p34) rfl rfl c36 (mv g34 (cz e35)) i34 e37 rfl rfl (λ_ h=>by obtain ⟨_,_,rfl,rfl,rfl⟩:=h;exact ⟨[_],_,rfl,rfl,rfl⟩) λH38 k38 w38 s38 c38=>?_
      obtain ⟨w39,s39⟩:=w38.pp [1,2,3,0,4,5,6] 7
      exact ih rfl rfl ((cz e35).symm.trans (cz e37).symm) rfl rfl ⟨w39,(s0.trans (s3.trans (s22.trans (s26.trans (s36.trans (s38.trans s39)))))),(OF.step (s3.trans (s22.trans (s26.trans (s36.trans (s38.trans s39)))))),(OG.step (s3.trans (s22.trans (s26.trans (s36.trans (s38.trans s39)))))),(c38.step s39),(ml.step (s3.trans (s22.trans (s26.trans (s36.trans (s38.trans s39)))))),(OH.step (s3.trans (s22.trans (s26.trans (s36.trans (s38.trans s39))))))⟩ hp
  ·obtain ⟨w40,s40⟩:=w0.pp [0,1,2,3,4,5] 7
   exact hC61 rfl rfl rfl rfl rfl ⟨w40,(s0.trans s40),(OF.step s40),(OG.step s40),(mj.step s40),(ml.step s40),(OH.step s40)⟩ hp
def bf.pl61 (F:Nat) :Nat->List (Int×Int)->List (Int×Int)->List (Int×Int×Int×Int×Int)->Int->Int->Option ((List (Int×Int))×(List (Int×Int))×Bool)
 | 0,_,_,_,_,_=>none
 | k+1,qX,qY,jV,kx,ii=>(bif (decide (ii<kx)) then ((ix jV ii).bind λn1=>(dS.p F ((gt jV n1).1) ((gt jV n1).2.1) ((gt jV n1).2.2.1) ((gt jV n1).2.2.2.1)).bind λr8=>bf.pl3931 F (bf.pl61 F k) F qX qY jV kx ii ((gt jV n1).2.2.2.2) ii r8.1 r8.2.1 r8.2.2.1 r8.2.2.2 0) else (some (qX,qY,true)))
theorem bf.l61_P  :∀ k,bf.S61 H0 Ri R0  (bf.l61 F (bv.tw F) (dS.tw F) (dU.tw F) (dI.tw F)  k) (bf.pl61 F  k):=by
 intro k
 induction k with
 | zero=>unfold bf.S61;intros;rename_i hp;cases hp
 | succ k ih=>
  intro NZ qU N_ Oa Ob E_ nq eV Fa Fb mQ Fc Oc qV Od Oe Of Og qW qX qY Oh qZ Oi Oj jV kx ii H anb OI anc ane anf h0 r hp
  obtain ⟨w0,s0,ang,OJ,aba,abb,abc⟩:=h0
  subst anb
  subst OI
  subst anc
  subst ane
  subst anf
  unfold bf.pl61 at hp
  unfold bf.l61
  refine ay hp (λhp=>?_) λhp=>?_
  ·obtain ⟨n1,g1,hp⟩:=ag hp
   obtain ⟨p1,q1,i1,h1,j1⟩:=ROs.ixr abc rfl g1
   refine ai i1 ?_
   obtain ⟨_,_,rfl,rfl,_,_,rfl,rfl,_,_,rfl,rfl,_,_,rfl,rfl,rfl⟩:=h1
   refine ai (aG (j1 0 _ rfl)) ?_
   refine ai (aG (j1 1 _ rfl)) ?_
   refine ai (aG (j1 2 _ rfl)) ?_
   refine ai (aG (j1 3 _ rfl)) ?_
   refine ai (aG (j1 4 _ rfl)) ?_
   refine aS w0 λH2 w2 s2=>?_
   refine aq w2 0 λH3 w3 s3=>?_
   refine aq w3 0 λH4 w4 s4=>?_
   refine aq w4 0 λH5 w5 s5=>?_
   refine aq w5 0 λH6 w6 s6=>?_
   refine aq w6 0 λH7 w7 s7=>?_
   refine lI w7 0 ?_
   refine lI w7 0 ?_
   refine lI w7 0 ?_
   refine lI w7 0 ?_
   refine lI w7 0 ?_
   obtain ⟨r8,e8,hp⟩:=ag hp
   refine aE (dS.P ⟨w7,trivial⟩ e8) ?_
   rintro _ H9 ⟨rfl,w9,s9,_⟩
   refine br (br (br (br (br (br (br (br (br ?_))))))))
   obtain ⟨w10,s10⟩:=w9.pp [1,2,3,4,5,6,0] 7
   exact bf.l3931_P (@ih) F rfl rfl rfl rfl rfl ⟨w10,(s0.trans (s2.trans (s3.trans (s4.trans (s5.trans (s6.trans (s7.trans (s9.trans s10)))))))),(ang.step (s2.trans (s3.trans (s4.trans (s5.trans (s6.trans (s7.trans (s9.trans s10)))))))),(OJ.step (s2.trans (s3.trans (s4.trans (s5.trans (s6.trans (s7.trans (s9.trans s10)))))))),(aba.step (s2.trans (s3.trans (s4.trans (s5.trans (s6.trans (s7.trans (s9.trans s10)))))))),(abb.step (s2.trans (s3.trans (s4.trans (s5.trans (s6.trans (s7.trans (s9.trans s10)))))))),(abc.step (s2.trans (s3.trans (s4.trans (s5.trans (s6.trans (s7.trans (s9.trans s10))))))))⟩ hp
  ·refine lSl w0 5 ?_
   refine lSl w0 5 ?_
   refine aq w0 2 λH11 w11 s11=>?_
   refine aq w11 2 λH12 w12 s12=>?_
   refine lSl w12 2 ?_
   refine lSl w12 2 ?_
   obtain ⟨w13,s13⟩:=w12.pp [3,4] 6
   exact az hp ⟨_,_,_,_,_,_,_,_,rfl,rfl,rfl,w13,(s0.trans (s11.trans (s12.trans s13))),(aba.step (s11.trans (s12.trans s13))),(abb.step (s11.trans (s12.trans s13)))⟩
def bf.p (F:Nat) (ah:ata):Option ((List (Int×Int))×(List (Int×Int))×Bool):=(bv.p F ([((-1),0)]:List (Int×Int)) (wrap .i64 (2 * (ah.length:Int)))).bind λr5=>(bv.p F ([((-1),0)]:List (Int×Int)) (wrap .i64 (2 * (ah.length:Int)))).bind λr10=>bf.pl61 F F r5 r10 ah (ah.length:Int) 0
theorem bf.P {aB ak aC ah af} (ba:ak=ah.length) (h0:Inn H R0 λR=>ROs (ac eI (ac eI (ac eI (ac eI eI)))) H R ⟨aB,ak,aC⟩ ah) {r:(List (Int×Int))×(List (Int×Int))×Bool} (hp:bf.p F ah=some r):Rt (bf.tw F ⟨aB,ak,aC⟩ af H) (bf.Q H R0 R0  r):=by
 obtain ⟨w0,aO⟩:=h0
 subst ba
 unfold bf.p at hp
 unfold bf.tw bf.twX
 have s0:=w0.rf
 refine aS w0 λH1 w1 s1=>?_
 refine aS w1 λH2 w2 s2=>?_
 refine lSl w2 1 ?_
 refine cK (ac eI eI) w2 (n:=1) (l:=([((-1),0)]:List (Int×Int))) rfl (CR.cons (c:=[_,_]) ⟨[_],_,rfl,rfl,rfl⟩ CR.empty) rfl λH3 w3 s3 c3=>?_
 have f4:=W.borrow1 (ac eI eI) w3 c3
 obtain ⟨w4,s4⟩:=w3.right1
 obtain ⟨r5,e5,hp⟩:=ag hp
 refine aE (bv.P (show 1=List.length ([((-1),0)]:List (Int×Int)) from rfl) ⟨w4,f4⟩ e5) ?_
 rintro _ H6 ⟨o0a_6,o0n_6,o0k_6,rfl,rfl,w6,s6,f6_0⟩
 obtain ⟨w7,s7⟩:=W.frame1 w3 w6 s6
 refine br ?_
 refine cK (ac eI eI) w7 (n:=1) (l:=([((-1),0)]:List (Int×Int))) rfl (CR.cons (c:=[_,_]) ⟨[_],_,rfl,rfl,rfl⟩ CR.empty) rfl λH8 w8 s8 c8=>?_
 have f9:=W.borrow1 (ac eI eI) w8 c8
 obtain ⟨w9,s9⟩:=w8.right1
 obtain ⟨r10,e10,hp⟩:=ag hp
 refine aE (bv.P (show 1=List.length ([((-1),0)]:List (Int×Int)) from rfl) ⟨w9,f9⟩ e10) ?_
 rintro _ H11 ⟨o0a_11,o0n_11,o0k_11,rfl,rfl,w11,s11,f11_0⟩
 obtain ⟨w12,s12⟩:=W.frame1 w8 w11 s11
 refine br ?_
 refine aS w12 λH13 w13 s13=>?_
 refine aq w13 0 λH14 w14 s14=>?_
 refine aq w14 0 λH15 w15 s15=>?_
 refine lSl w15 6 ?_
 obtain ⟨w16,s16⟩:=w15.nilS (ac eI eI).z (by decide)
 obtain ⟨w17,s17⟩:=w16.nilS (ac eI eI).z (by decide)
 obtain ⟨w18,s18⟩:=w17.pp [1,0,7,6,4,2] 9
 exact bf.l61_P F rfl rfl rfl rfl rfl ⟨w18,(s0.trans (s1.trans (s2.trans (s3.trans (s7.trans (s8.trans (s12.trans (s13.trans (s14.trans (s15.trans (s16.trans (s17.trans s18)))))))))))),((CR.empty:CR (ac eI eI) _ _ [] []).step (s17.trans s18)),((CR.empty:CR (ac eI eI) _ _ [] []).step s18),((CR.flat (afJ (fA .i64) (fA .i64)) f6_0).step (s8.trans (s12.trans (s13.trans (s14.trans (s15.trans (s16.trans (s17.trans s18)))))))),((CR.flat (afJ (fA .i64) (fA .i64)) f11_0).step (s13.trans (s14.trans (s15.trans (s16.trans (s17.trans s18)))))),(aO.step (s1.trans (s2.trans (s3.trans (s7.trans (s8.trans (s12.trans (s13.trans (s14.trans (s15.trans (s16.trans (s17.trans s18))))))))))))⟩ hp
def dj.Q (H0:Hp) (Ri R0:as2)  (r:atp) (v:AV) (H':Hp):Prop:=v=(.agg [(.i r.1),(.i r.2)])/\Out H0 Ri H' (R0) λR=>True
def dj.p (F:Nat) (ah:ata) (ew:atn) (bz:atn) (iS:Int) (fP:Int):Option (Int×Int):=(ix ah iS).bind λn5=>(dS.p F ((gt ah n5).1) ((gt ah n5).2.1) ((gt ah n5).2.2.1) ((gt ah n5).2.2.2.1)).bind λr12=>(if 0<=fP/\fP<(4:Int) then ((dU.p F ((gt ah n5).2.2.2.2) fP).bind λr16=>(bif r16 then ((ix ew (gt ([r12.1,r12.2.1,r12.2.2.1,r12.2.2.2]:List Int) (fP:Int).toNat)).bind λn18=>some (((gt ew n18).1),((gt ew n18).2))) else ((ix bz (gt ([r12.1,r12.2.1,r12.2.2.1,r12.2.2.2]:List Int) (fP:Int).toNat)).bind λn22=>some (((gt bz n22).1),((gt bz n22).2))))) else none)
theorem dj.P {aB lF eu ak iB dg aC lG ev ah af iS fP ew bz} (ba:ak=ah.length) (ra:iB=ew.length) (gM:dg=bz.length) (h0:Inn H R0 λR=>ROs (ac eI (ac eI (ac eI (ac eI eI)))) H R ⟨aB,ak,aC⟩ ah/\ROs (ac eI eI) H R ⟨lF,iB,lG⟩ ew/\ROs (ac eI eI) H R ⟨eu,dg,ev⟩ bz) {r:atp} (hp:dj.p F ah ew bz iS fP=some r):Rt (dj.tw F ⟨aB,ak,aC⟩ af ⟨lF,iB,lG⟩ ⟨eu,dg,ev⟩ iS fP H) (dj.Q H R0 R0  r):=by
 obtain ⟨w0,aO,rb,fc⟩:=h0
 subst ba
 subst ra
 subst gM
 unfold dj.p at hp
 unfold dj.tw dj.twX
 have s0:=w0.rf
 refine aS w0 λH1 w1 s1=>?_
 refine aS w1 λH2 w2 s2=>?_
 refine aS w2 λH3 w3 s3=>?_
 refine aS w3 λH4 w4 s4=>?_
 refine lSl w4 3 ?_
 refine lI w4 1 ?_
 obtain ⟨n5,g5,hp⟩:=ag hp
 obtain ⟨p5,q5,i5,h5,j5⟩:=ROs.ixr (aO.step (s1.trans (s2.trans (s3.trans s4)))) rfl g5
 refine ai i5 ?_
 obtain ⟨_,_,rfl,rfl,_,_,rfl,rfl,_,_,rfl,rfl,_,_,rfl,rfl,rfl⟩:=h5
 refine ai (aG (j5 0 _ rfl)) ?_
 refine ai (aG (j5 1 _ rfl)) ?_
 refine ai (aG (j5 2 _ rfl)) ?_
 refine ai (aG (j5 3 _ rfl)) ?_
 refine ai (aG (j5 4 _ rfl)) ?_
 refine aS w4 λH6 w6 s6=>?_
 refine aq w6 0 λH7 w7 s7=>?_
 refine aq w7 0 λH8 w8 s8=>?_
 refine aq w8 0 λH9 w9 s9=>?_
 refine aq w9 0 λH10 w10 s10=>?_
 refine aq w10 0 λH11 w11 s11=>?_
 refine lI w11 0 ?_
 refine lI w11 0 ?_
 refine lI w11 0 ?_
 refine lI w11 0 ?_
 refine lI w11 0 ?_
 obtain ⟨r12,e12,hp⟩:=ag hp
 refine aE (dS.P ⟨w11,trivial⟩ e12) ?_
 rintro _ H13 ⟨rfl,w13,s13,_⟩
 refine br (br (br (br (br (br (br (br (br ?_))))))))
 refine eK (W.cons_of (Rn:=[]) w11 w13 s13) ?_
 refine lI w13 2 ?_
 obtain ⟨g15,hp⟩:=fW hp
 refine eK g15 ?_
 refine ai (a:=AV.int .i64 (gt ([r12.1,r12.2.1,r12.2.2.1,r12.2.2.2]:List Int) (fP:Int).toNat)) (by rw [Nat.mul_one];exact afI (k:=.i64) (l:=[r12.1,r12.2.1,r12.2.2.1,r12.2.2.2]) rfl (by have:=g15;simp only [List.length_cons,List.length_nil];omega)) ?_
 refine br ?_
 refine lI w13 0 ?_
 refine lI w13 0 ?_
 refine lI w13 0 ?_
 refine lI w13 0 ?_
 refine lI w13 0 ?_
 refine lI w13 2 ?_
 obtain ⟨r16,e16,hp⟩:=ag hp
 refine aE (dU.P ⟨w13,trivial⟩ e16) ?_
 rintro _ H17 ⟨rfl,w17,s17,_⟩
 refine br ?_
 refine ay hp (λhp=>?_) λhp=>?_
 ·refine lSl w17 3 ?_
  obtain ⟨n18,g18,hp⟩:=ag hp
  obtain ⟨p18,q18,i18,h18,j18⟩:=ROs.ixr (rb.step (s1.trans (s2.trans (s3.trans (s4.trans (s6.trans (s7.trans (s8.trans (s9.trans (s10.trans (s11.trans (s13.trans s17)))))))))))) rfl g18
  refine ai i18 ?_
  obtain ⟨_,_,rfl,rfl,rfl⟩:=h18
  refine ai (aG (j18 0 _ rfl)) ?_
  refine ai (aG (j18 1 _ rfl)) ?_
  refine aq w17 1 λH19 w19 s19=>?_
  refine aq w19 1 λH20 w20 s20=>?_
  refine lI w20 1 ?_
  refine lI w20 1 ?_
  obtain ⟨w21,s21⟩:=w20.pp [] 5
  exact az hp ⟨rfl,w21,(s0.trans (s1.trans (s2.trans (s3.trans (s4.trans (s6.trans (s7.trans (s8.trans (s9.trans (s10.trans (s11.trans (s13.trans (s17.trans (s19.trans (s20.trans s21))))))))))))))),trivial⟩
 ·refine lSl w17 3 ?_
  obtain ⟨n22,g22,hp⟩:=ag hp
  obtain ⟨p22,q22,i22,h22,j22⟩:=ROs.ixr (fc.step (s1.trans (s2.trans (s3.trans (s4.trans (s6.trans (s7.trans (s8.trans (s9.trans (s10.trans (s11.trans (s13.trans s17)))))))))))) rfl g22
  refine ai i22 ?_
  obtain ⟨_,_,rfl,rfl,rfl⟩:=h22
  refine ai (aG (j22 0 _ rfl)) ?_
  refine ai (aG (j22 1 _ rfl)) ?_
  refine aq w17 1 λH23 w23 s23=>?_
  refine aq w23 1 λH24 w24 s24=>?_
  refine lI w24 1 ?_
  refine lI w24 1 ?_
  obtain ⟨w25,s25⟩:=w24.pp [] 5
  exact az hp ⟨rfl,w25,(s0.trans (s1.trans (s2.trans (s3.trans (s4.trans (s6.trans (s7.trans (s8.trans (s9.trans (s10.trans (s11.trans (s13.trans (s17.trans (s23.trans (s24.trans s25))))))))))))))),trivial⟩
def aL.Q (H0:Hp) (Ri R0:as2)  (r:ate) (v:AV) (H':Hp):Prop:=∃ o0a:ON,∃ o0n:Nat,∃ o0c:Cap,∃ o0k:List AV,v=(.sl ⟨o0a,o0n,o0c⟩)/\o0n=(r).length/\Out H0 Ri H' (Rs.own ⟨o0a,o0n,o0c⟩ (eSl eI).z o0k::R0) λR=>CR (eSl eI) H' R o0k (r)
def aL.S61 (H0:Hp) (Ri R0:as2)  (C:atx) (pC:atA):Prop:=∀ {OK OL OM OO OP Fi dR Fj Fk pL Fl Fm OQ OR OS OU OW wg abd gR eF wh wi rc OX OY wj},∀ {H:Hp},Fi=wg.length->Fj=wh.length->Fk=wi.length->Fl=rc.length->Fm=wj.length->(Out H0 Ri H (Rs.blk dR [.sl ⟨OK,Fi,OQ⟩,.i abd]::Rs.blk pL [.sl ⟨OL,Fj,OR⟩,.sl ⟨OM,Fk,OS⟩]::Rs.own ⟨OO,Fl,OU⟩ (eSl eI).z OX::Rs.own ⟨OP,Fm,OW⟩ cC.z OY::R0) λR=>ROs (ac eI (ac eI (ac eI (ac eI eI)))) H R ⟨OK,Fi,OQ⟩ wg/\ROs (ac eI eI) H R ⟨OL,Fj,OR⟩ wh/\ROs (ac eI eI) H R ⟨OM,Fk,OS⟩ wi/\CR (eSl eI) H R OX rc/\CR cC H R OY wj)->∀ {r:ate},pC wg wh wi rc wj gR eF=some r->Rt (C dR 0 pL 0 ⟨OO,Fl,OU⟩ ⟨OP,Fm,OW⟩ gR eF H) (aL.Q H0 Ri R0  r)
def aL.S15725 (H0:Hp) (Ri R0:as2)  (C:Nat->Nat->Nat->Nat->Sl->Sl->Int->Int->Sl->Int->Hp->OA) (pC:List (Int×Int×Int×Int×Int)->List (Int×Int)->List (Int×Int)->List (List Int)->List Bool->Int->Int->List Int->Int->Option (List (List Int))):Prop:=∀ {OZ O_ Pa Pb Pc Pd Fn lV Fo Fp lW Fq Fs Ft Pe Pf Pg Ph Pi Pj oQ abe ky kz fQ oR oS rd Pm Pn Pp mm rh},∀ {H:Hp},Fn=oQ.length->Fo=oR.length->Fp=oS.length->Fq=rd.length->Fs=mm.length->Ft=rh.length->(Out H0 Ri H (Rs.blk lV [.sl ⟨OZ,Fn,Pe⟩,.i abe]::Rs.blk lW [.sl ⟨O_,Fo,Pf⟩,.sl ⟨Pa,Fp,Pg⟩]::Rs.own ⟨Pb,Fq,Ph⟩ (eSl eI).z Pm::Rs.own ⟨Pc,Fs,Pi⟩ cC.z Pn::Rs.own ⟨Pd,Ft,Pj⟩ eI.z Pp::R0) λR=>ROs (ac eI (ac eI (ac eI (ac eI eI)))) H R ⟨OZ,Fn,Pe⟩ oQ/\ROs (ac eI eI) H R ⟨O_,Fo,Pf⟩ oR/\ROs (ac eI eI) H R ⟨Pa,Fp,Pg⟩ oS/\CR (eSl eI) H R Pm rd/\CR cC H R Pn mm/\CR eI H R Pp rh)->∀ {r:ate},pC oQ oR oS rd mm ky kz rh fQ=some r->Rt (C lV 0 lW 0 ⟨Pb,Fq,Ph⟩ ⟨Pc,Fs,Pi⟩ ky kz ⟨Pd,Ft,Pj⟩ fQ H) (aL.Q H0 Ri R0  r)
def aL.pj4 (F:Nat) (ar:atA) (zj:ata) (zk:atn) (zm:atn) (zn:ate) (zo:atU) (ud:Int) (ue:Int):Option (List (List Int)):=ar zj zk zm zn zo ud (wrap .i64 (ue+1))
theorem aL.j4_P  {C61_:atx} {ar:atA} (hC61:aL.S61 H0 Ri R0  C61_ ar) {abf abg abh abi abj Pq BH Pr Ps BI Pt Pu abk abl abm abn abo zj anh ud ue zk zm zn abp abq zo} (ani:Pq=zj.length) (anj:Pr=zk.length) (ank:Ps=zm.length) (anl:Pt=zn.length) (anm:Pu=zo.length) (h0:Out H0 Ri H (Rs.blk BH [.sl ⟨abf,Pq,abk⟩,.i anh]::Rs.blk BI [.sl ⟨abg,Pr,abl⟩,.sl ⟨abh,Ps,abm⟩]::Rs.own ⟨abi,Pt,abn⟩ (eSl eI).z abp::Rs.own ⟨abj,Pu,abo⟩ cC.z abq::R0) λR=>ROs (ac eI (ac eI (ac eI (ac eI eI)))) H R ⟨abf,Pq,abk⟩ zj/\ROs (ac eI eI) H R ⟨abg,Pr,abl⟩ zk/\ROs (ac eI eI) H R ⟨abh,Ps,abm⟩ zm/\CR (eSl eI) H R abp zn/\CR cC H R abq zo) {r:ate} (hp:aL.pj4 F ar zj zk zm zn zo ud ue=some r):Rt (aL.j4 F (dj.tw F) C61_ BH 0 BI 0 ⟨abi,Pt,abn⟩ ⟨abj,Pu,abo⟩ ud ue H) (aL.Q H0 Ri R0  r):=by
 obtain ⟨w0,s0,ann,ano,anp,anq,anr⟩:=h0
 subst ani
 subst anj
 subst ank
 subst anl
 subst anm
 unfold aL.pj4 at hp
 unfold aL.j4
 exact hC61 rfl rfl rfl rfl rfl ⟨w0,s0,ann,ano,anp,anq,anr⟩ hp
def aL.pj5 (F:Nat) (ar:atA) (zp:ata) (zq:atn) (zr:atn) (zt:ate) (zu:atU) (ug:Int) (uh:Int):Option (List (List Int)):=aL.pj4 F ar zp zq zr zt zu ug uh
theorem aL.j5_P  {C61_:atx} {ar:atA} (hC61:aL.S61 H0 Ri R0  C61_ ar) {abr abt abu abv abw Pv BJ Pw Px sk Py Pz abx aby abz abA abB zp ans ug uh zq zr zt abC abD zu} (ant:Pv=zp.length) (anu:Pw=zq.length) (anv:Px=zr.length) (anw:Py=zt.length) (anx:Pz=zu.length) (h0:Out H0 Ri H (Rs.blk BJ [.sl ⟨abr,Pv,abx⟩,.i ans]::Rs.blk sk [.sl ⟨abt,Pw,aby⟩,.sl ⟨abu,Px,abz⟩]::Rs.own ⟨abv,Py,abA⟩ (eSl eI).z abC::Rs.own ⟨abw,Pz,abB⟩ cC.z abD::R0) λR=>ROs (ac eI (ac eI (ac eI (ac eI eI)))) H R ⟨abr,Pv,abx⟩ zp/\ROs (ac eI eI) H R ⟨abt,Pw,aby⟩ zq/\ROs (ac eI eI) H R ⟨abu,Px,abz⟩ zr/\CR (eSl eI) H R abC zt/\CR cC H R abD zu) {r:ate} (hp:aL.pj5 F ar zp zq zr zt zu ug uh=some r):Rt (aL.j5 F (dj.tw F) C61_ BJ 0 sk 0 ⟨abv,Py,abA⟩ ⟨abw,Pz,abB⟩ ug uh H) (aL.Q H0 Ri R0  r):=by
 obtain ⟨w0,s0,anz,anA,anB,anC,anD⟩:=h0
 subst ant
 subst anu
 subst anv
 subst anw
 subst anx
 unfold aL.pj5 at hp
 unfold aL.j5
 exact aL.j4_P (@hC61) rfl rfl rfl rfl rfl ⟨w0,s0,anz,anA,anB,anC,anD⟩ hp
def aL.pj6 (F:Nat) (ar:atA) (wk:ata) (wo:atn) (wq:atn) (wu:ate) (wv:atU) (oT:as5) (nZ:Int) (n_:Int):Option (List (List Int)):=(bif (decide ((oT.length:Int)>0)) then ((apn wu ([oT]:List (List Int))).bind λl3=>aL.pj5 F ar wk wo wq l3 wv nZ n_) else (aL.pj5 F ar wk wo wq wu wv nZ n_))
theorem aL.j6_P  {C61_:atx} {ar:atA} (hC61:aL.S61 H0 Ri R0  C61_ ar) {abE abF abG abH abI abJ PA xh PB PC xi PD PE PF abK abL abM abN abO abP wk anE nZ n_ wo wq wu abQ abR abS wv oT} (anF:PA=wk.length) (anG:PB=wo.length) (anH:PC=wq.length) (anI:PD=wu.length) (anJ:PE=wv.length) (anK:PF=oT.length) (h0:Out H0 Ri H (Rs.blk xh [.sl ⟨abE,PA,abK⟩,.i anE]::Rs.blk xi [.sl ⟨abF,PB,abL⟩,.sl ⟨abG,PC,abM⟩]::Rs.own ⟨abH,PD,abN⟩ (eSl eI).z abQ::Rs.own ⟨abI,PE,abO⟩ cC.z abR::Rs.own ⟨abJ,PF,abP⟩ eI.z abS::R0) λR=>ROs (ac eI (ac eI (ac eI (ac eI eI)))) H R ⟨abE,PA,abK⟩ wk/\ROs (ac eI eI) H R ⟨abF,PB,abL⟩ wo/\ROs (ac eI eI) H R ⟨abG,PC,abM⟩ wq/\CR (eSl eI) H R abQ wu/\CR cC H R abR wv/\CR eI H R abS oT) {r:ate} (hp:aL.pj6 F ar wk wo wq wu wv oT nZ n_=some r):Rt (aL.j6 F (dj.tw F) C61_ xh 0 xi 0 ⟨abH,PD,abN⟩ ⟨abI,PE,abO⟩ ⟨abJ,PF,abP⟩ nZ n_ H) (aL.Q H0 Ri R0  r):=by
 obtain ⟨w0,s0,abT,abU,abV,abW,abX,anL⟩:=h0
 subst anF
 subst anG
 subst anH
 subst anI
 subst anJ
 subst anK
 unfold aL.pj6 at hp
 unfold aL.j6
 refine ay hp (λhp=>?_) λhp=>?_
 ·obtain ⟨w1,s1,f1⟩:=w0.frz (i:=4) eI rfl anL
  refine cK (eSl eI) w1 (n:=1) (l:=([oT]:List (List Int))) rfl (CR.cons1 ⟨_,rfl,f1⟩ CR.empty) rfl λH2 w2 s2 c2=>?_
  refine ai (w2.rowo (i:=0) rfl) ?_
  obtain ⟨l3,e3,hp⟩:=ag hp
  refine fz (eSl eI) w2 (i:=3) rfl rfl (abW.step (s1.trans s2)) c2 (show 1=List.length ([oT]:List (List Int)) from rfl) rfl e3 λa4 d4 H4 w4 s4 c4 x4=>?_
  obtain ⟨w5,s5⟩:=w4.pp [1,2,3,4] 5
  exact aL.j5_P (@hC61) rfl rfl rfl rfl rfl ⟨w5,(s0.trans (s1.trans (s2.trans (s4.trans s5)))),(abT.step (s1.trans (s2.trans (s4.trans s5)))),(abU.step (s1.trans (s2.trans (s4.trans s5)))),(abV.step (s1.trans (s2.trans (s4.trans s5)))),(c4.step s5),(abX.step (s1.trans (s2.trans (s4.trans s5))))⟩ hp
 ·obtain ⟨w6,s6⟩:=w0.pp [0,1,2,3] 5
  exact aL.j5_P (@hC61) rfl rfl rfl rfl rfl ⟨w6,(s0.trans s6),(abT.step s6),(abU.step s6),(abV.step s6),(abW.step s6),(abX.step s6)⟩ hp
def aL.pl15725 (F:Nat) (ar:atA):Nat->List (Int×Int×Int×Int×Int)->List (Int×Int)->List (Int×Int)->List (List Int)->List Bool->Int->Int->List Int->Int->Option (List (List Int))
 | 0,_,_,_,_,_,_,_,_,_=>none
 | k+1,oQ,oR,oS,rd,mm,ky,kz,rh,fQ=>(ix mm fQ).bind λn1=>(bif (!(gt mm n1)) then ((ix mm fQ).bind λn2=>(some (mm.set n2 true)).bind λl3=>(apn rh ([fQ]:List Int)).bind λl6=>(dj.p F oQ oR oS (wrap .i64 (Int.tdiv fQ 4)) (Int.tmod (wrap .i64 (fQ+1)) 4)).bind λr8=>aL.pl15725 F ar k oQ oR oS rd l3 ky kz l6 (wrap .i64 ((wrap .i64 (4 * r8.1))+r8.2))) else (aL.pj6 F ar oQ oR oS rd mm rh ky kz))
theorem aL.l15725_P  {C61_:atx} {ar:atA} (hC61:aL.S61 H0 Ri R0  C61_ ar):∀ k,aL.S15725 H0 Ri R0  (aL.l15725 F (dj.tw F) C61_ k) (aL.pl15725 F ar k):=by
 intro k
 induction k with
 | zero=>unfold aL.S15725;intros;rename_i hp;cases hp
 | succ k ih=>
  intro OZ O_ Pa Pb Pc Pd Fn lV Fo Fp lW Fq Fs Ft Pe Pf Pg Ph Pi Pj oQ abe ky kz fQ oR oS rd Pm Pn Pp mm rh H anM anN anO anP anQ anR h0 r hp
  obtain ⟨w0,s0,PG,PH,PI,abY,Fu,abZ⟩:=h0
  subst anM
  subst anN
  subst anO
  subst anP
  subst anQ
  subst anR
  unfold aL.pl15725 at hp
  unfold aL.l15725
  obtain ⟨n1,g1,hp⟩:=ag hp
  obtain ⟨p1,q1,i1,h1,j1⟩:=W.ixo (E:=cC) w0 (i:=3) rfl rfl Fu g1
  refine ai i1 ?_
  have h1:_=[_]:=h1
  subst h1
  refine ai (wE (j1 0 _ rfl)) ?_
  refine ay hp (λhp=>?_) λhp=>?_
  ·obtain ⟨n2,g2,hp⟩:=ag hp
   obtain ⟨p2,q2,i2,h2,j2⟩:=W.ixo (E:=cC) w0 (i:=3) rfl rfl Fu g2
   refine ai i2 ?_
   obtain ⟨l3,e3,hp⟩:=ag hp
   refine dC cC w0 (i:=3) (j:=0) (p:=p2) rfl rfl Fu g2 i2 e3 rfl rfl (λ_ h=>by have h:_=[_]:=h;subst h;exact rfl) λH4 k4 w4 s4 c4=>?_
   refine cK eI w4 (n:=1) (l:=([fQ]:List Int)) rfl (CR.cons1 rfl CR.empty) rfl λH5 w5 s5 c5=>?_
   refine ai (w5.rowo (i:=0) rfl) ?_
   obtain ⟨l6,e6,hp⟩:=ag hp
   refine fz eI w5 (i:=5) rfl rfl (abZ.step (s4.trans s5)) c5 (show 1=List.length ([fQ]:List Int) from rfl) rfl e6 λa7 d7 H7 w7 s7 c7 x7=>?_
   refine lSl w7 1 ?_
   refine lI w7 1 ?_
   refine lSl w7 2 ?_
   refine lSl w7 2 ?_
   obtain ⟨r8,e8,hp⟩:=ag hp
   refine aE (dj.P rfl rfl rfl ⟨w7,(PG.step (s4.trans (s5.trans s7))),(PH.step (s4.trans (s5.trans s7))),(PI.step (s4.trans (s5.trans s7)))⟩ e8) ?_
   rintro _ H9 ⟨rfl,w9,s9,_⟩
   refine br (br (br (br (br ?_))))
   refine aS w9 λH10 w10 s10=>?_
   refine aq w10 0 λH11 w11 s11=>?_
   refine aq w11 0 λH12 w12 s12=>?_
   refine lI w12 0 ?_
   refine lI w12 0 ?_
   obtain ⟨w13,s13⟩:=w12.pp [2,3,4,5,6] 7
   exact ih rfl rfl rfl rfl ((cz e3).symm) rfl ⟨w13,(s0.trans (s4.trans (s5.trans (s7.trans (s9.trans (s10.trans (s11.trans (s12.trans s13)))))))),(PG.step (s4.trans (s5.trans (s7.trans (s9.trans (s10.trans (s11.trans (s12.trans s13)))))))),(PH.step (s4.trans (s5.trans (s7.trans (s9.trans (s10.trans (s11.trans (s12.trans s13)))))))),(PI.step (s4.trans (s5.trans (s7.trans (s9.trans (s10.trans (s11.trans (s12.trans s13)))))))),(abY.step (s4.trans (s5.trans (s7.trans (s9.trans (s10.trans (s11.trans (s12.trans s13)))))))),(c4.step (s5.trans (s7.trans (s9.trans (s10.trans (s11.trans (s12.trans s13))))))),(c7.step (s9.trans (s10.trans (s11.trans (s12.trans s13)))))⟩ hp
  ·exact aL.j6_P (@hC61) rfl rfl rfl rfl rfl rfl ⟨w0,s0,PG,PH,PI,abY,Fu,abZ⟩ hp
def aL.pl61 (F:Nat) :Nat->List (Int×Int×Int×Int×Int)->List (Int×Int)->List (Int×Int)->List (List Int)->List Bool->Int->Int->Option (List (List Int))
 | 0,_,_,_,_,_,_,_=>none
 | k+1,wg,wh,wi,rc,wj,gR,eF=>(bif (decide (eF<gR)) then (aL.pl15725 F (aL.pl61 F k) F wg wh wi rc wj gR eF ([]:List Int) eF) else (some rc))
theorem aL.l61_P  :∀ k,aL.S61 H0 Ri R0  (aL.l61 F (dj.tw F)  k) (aL.pl61 F  k):=by
 intro k
 induction k with
 | zero=>unfold aL.S61;intros;rename_i hp;cases hp
 | succ k ih=>
  intro OK OL OM OO OP Fi dR Fj Fk pL Fl Fm OQ OR OS OU OW wg abd gR eF wh wi rc OX OY wj H anS anT anU anV anW h0 r hp
  obtain ⟨w0,s0,anX,anY,anZ,ab0,an0⟩:=h0
  subst anS
  subst anT
  subst anU
  subst anV
  subst anW
  unfold aL.pl61 at hp
  unfold aL.l61
  refine ay hp (λhp=>?_) λhp=>?_
  ·obtain ⟨w1,s1⟩:=w0.nilS eI.z (by decide)
   obtain ⟨w2,s2⟩:=w1.pp [1,2,3,4,0] 5
   exact aL.l15725_P (@ih) F rfl rfl rfl rfl rfl rfl ⟨w2,(s0.trans (s1.trans s2)),(anX.step (s1.trans s2)),(anY.step (s1.trans s2)),(anZ.step (s1.trans s2)),(ab0.step (s1.trans s2)),(an0.step (s1.trans s2)),((CR.empty:CR eI _ _ [] []).step s2)⟩ hp
  ·obtain ⟨w3,s3⟩:=w0.pp [2] 4
   exact az hp ⟨_,_,_,_,rfl,rfl,w3,(s0.trans s3),(ab0.step s3)⟩
def aL.p (F:Nat) (ah:ata) (ew:atn) (bz:atn):Option (List (List Int)):=(mkn (wrap .i64 (4 * (ah.length:Int))) false).bind λl3=>aL.pl61 F F ah ew bz ([]:List (List Int)) l3 (l3.length:Int) 0
theorem aL.P {aB lF eu ak iB dg aC lG ev ah af ew bz} (ba:ak=ah.length) (ra:iB=ew.length) (gM:dg=bz.length) (h0:Inn H R0 λR=>ROs (ac eI (ac eI (ac eI (ac eI eI)))) H R ⟨aB,ak,aC⟩ ah/\ROs (ac eI eI) H R ⟨lF,iB,lG⟩ ew/\ROs (ac eI eI) H R ⟨eu,dg,ev⟩ bz) {r:ate} (hp:aL.p F ah ew bz=some r):Rt (aL.tw F ⟨aB,ak,aC⟩ af ⟨lF,iB,lG⟩ ⟨eu,dg,ev⟩ H) (aL.Q H R0 R0  r):=by
 obtain ⟨w0,aO,rb,fc⟩:=h0
 subst ba
 subst ra
 subst gM
 unfold aL.p at hp
 unfold aL.tw aL.twX
 have s0:=w0.rf
 refine aS w0 λH1 w1 s1=>?_
 refine aS w1 λH2 w2 s2=>?_
 refine lSl w2 1 ?_
 obtain ⟨l3,e3,hp⟩:=ag hp
 refine ka cC false w2 rfl rfl rfl e3 λH4 k4 w4 s4 c4=>?_
 obtain ⟨w5,s5⟩:=w4.nilS (eSl eI).z (by decide)
 obtain ⟨w6,s6⟩:=w5.pp [3,2,0,1] 4
 exact aL.l61_P F rfl rfl rfl rfl rfl ⟨w6,(s0.trans (s1.trans (s2.trans (s4.trans (s5.trans s6))))),(aO.step (s1.trans (s2.trans (s4.trans (s5.trans s6))))),(rb.step (s1.trans (s2.trans (s4.trans (s5.trans s6))))),(fc.step (s1.trans (s2.trans (s4.trans (s5.trans s6))))),((CR.empty:CR (eSl eI) _ _ [] []).step s6),(c4.step (s5.trans s6))⟩ hp
def fR.Q (H0:Hp) (Ri R0:as2)  (r:Int) (v:AV) (H':Hp):Prop:=v=(.i r)/\Out H0 Ri H' (R0) λR=>True
def fR.p (F:Nat) (ah:ate):Option (Int):=some (ah.length:Int)
theorem fR.P {aB ak aC ah} (ba:ak=ah.length) (h0:Inn H R0 λR=>ROs (eSl eI) H R ⟨aB,ak,aC⟩ ah) {r:Int} (hp:fR.p F ah=some r):Rt (fR.tw F ⟨aB,ak,aC⟩ H) (fR.Q H R0 R0  r):=by
 obtain ⟨w0,aO⟩:=h0
 subst ba
 unfold fR.p at hp
 unfold fR.tw fR.twX
 have s0:=w0.rf
 exact az hp ⟨rfl,w0,s0,trivial⟩
def bT.Q (H0:Hp) (Ri R0:as2)  (r:as5) (v:AV) (H':Hp):Prop:=∃ o0a:ON,∃ o0n:Nat,∃ o0c:Cap,∃ o0k:List AV,v=(.sl ⟨o0a,o0n,o0c⟩)/\o0n=(r).length/\Out H0 Ri H' (Rs.own ⟨o0a,o0n,o0c⟩ eI.z o0k::R0) λR=>CR eI H' R o0k (r)
def bT.S29 (H0:Hp) (Ri R0:as2)  (C:atd) (pC:List Int->Int->Int->Option (List Int)):Prop:=∀ {PJ Fv PK ri PL kA ij},∀ {H:Hp},Fv=ri.length->(Out H0 Ri H (Rs.own ⟨PJ,Fv,PK⟩ eI.z PL::R0) λR=>CR eI H R PL ri)->∀ {r:as5},pC ri kA ij=some r->Rt (C ⟨PJ,Fv,PK⟩ kA ij H) (bT.Q H0 Ri R0  r)
def bT.pl29 (F:Nat) :Nat->List Int->Int->Int->Option (List Int)
 | 0,_,_,_=>none
 | k+1,ri,kA,ij=>(bif (decide (ij<kA)) then ((apn ri ([ij]:List Int)).bind λl2=>bT.pl29 F k l2 kA (wrap .i64 (ij+1))) else (some ri))
theorem bT.l29_P  :∀ k,bT.S29 H0 Ri R0  (bT.l29 F   k) (bT.pl29 F  k):=by
 intro k
 induction k with
 | zero=>unfold bT.S29;intros;rename_i hp;cases hp
 | succ k ih=>
  intro PJ Fv PK ri PL kA ij H an1 h0 r hp
  obtain ⟨w0,s0,ab1⟩:=h0
  subst an1
  unfold bT.pl29 at hp
  unfold bT.l29
  refine ay hp (λhp=>?_) λhp=>?_
  ·refine cK eI w0 (n:=1) (l:=([ij]:List Int)) rfl (CR.cons1 rfl CR.empty) rfl λH1 w1 s1 c1=>?_
   refine ai (w1.rowo (i:=0) rfl) ?_
   obtain ⟨l2,e2,hp⟩:=ag hp
   refine fz eI w1 (i:=1) rfl rfl (ab1.step s1) c1 (show 1=List.length ([ij]:List Int) from rfl) rfl e2 λa3 d3 H3 w3 s3 c3 x3=>?_
   obtain ⟨w4,s4⟩:=w3.pp [1] 2
   exact ih rfl ⟨w4,(s0.trans (s1.trans (s3.trans s4))),(c3.step s4)⟩ hp
  ·exact az hp ⟨_,_,_,_,rfl,rfl,w0,s0,ab1⟩
def bT.p (F:Nat) (aa:Int):Option (List Int):=bT.pl29 F F ([]:List Int) aa 0
theorem bT.P {aa}  (h0:Inn H R0 λR=>True) {r:as5} (hp:bT.p F aa=some r):Rt (bT.tw F aa H) (bT.Q H R0 R0  r):=by
 obtain ⟨w0,_⟩:=h0
 unfold bT.p at hp
 unfold bT.tw bT.twX
 have s0:=w0.rf
 obtain ⟨w1,s1⟩:=w0.nilS eI.z (by decide)
 exact bT.l29_P F rfl ⟨w1,(s0.trans s1),(CR.empty:CR eI _ _ [] [])⟩ hp
def bj.Q (H0:Hp) (Ri R0:as2) (aB:ON) (ak:Nat) (aC:Cap) (zw:Bool) (zx zy:atf) (r:as5) (v:AV) (H':Hp):Prop:=∃ ab2:List AV,v=(.tup [])/\ak=(r).length/\Out H0 Ri H' (Rs.ow zw ⟨aB,ak,aC⟩ eI.z zx ab2 zy::R0) λR=>CR eI H' R ab2 (r)
def bj.S7 (H0:Hp) (Ri R0:as2) (jW:ON) (iU:Nat) (jX:Cap) (oU:Bool) (oV oW:atf) (C:at3) (pC:aug):Prop:=∀ {fd PM dA jp jq gE},∀ {H:Hp},iU=fd.length->(Out H0 Ri H (Rs.ow oU ⟨jW,iU,jX⟩ eI.z oV PM oW::R0) λR=>CR eI H R PM fd)->∀ {r:as5},pC fd dA jp jq gE=some r->Rt (C ⟨jW,iU,jX⟩ dA jp ⟨jW,iU,jX⟩ jq gE H) (bj.Q H0 Ri R0 jW iU jX oU oV oW r)
def bj.pj2 (F:Nat) (Fw:aug) (zA:as5) (ul:Int) (um:Int) (un:Int) (uo:Int):Option (List Int):=Fw zA ul um un (wrap .i64 (uo+1))
theorem bj.j2_P {jW iU jX oU oV oW} {C7_:at3} {Fw:aug} (hC7:bj.S7 H0 Ri R0 jW iU jX oU oV oW C7_ Fw) {zA ab3 ul um un uo} (an2:iU=zA.length) (h0:Out H0 Ri H (Rs.ow oU ⟨jW,iU,jX⟩ eI.z oV ab3 oW::R0) λR=>CR eI H R ab3 zA) {r:as5} (hp:bj.pj2 F Fw zA ul um un uo=some r):Rt (bj.j2 F  C7_ ⟨jW,iU,jX⟩ ul um ⟨jW,iU,jX⟩ un uo H) (bj.Q H0 Ri R0 jW iU jX oU oV oW r):=by
 obtain ⟨w0,s0,an3⟩:=h0
 subst an2
 unfold bj.pj2 at hp
 unfold bj.j2
 exact hC7 rfl ⟨w0,s0,an3⟩ hp
def bj.pl7 (F:Nat) :Nat->List Int->Int->Int->Int->Int->Option (List Int)
 | 0,_,_,_,_,_=>none
 | k+1,fd,dA,jp,jq,gE=>(bif (decide (gE<jq)) then ((ix fd gE).bind λn1=>(bif ((gt fd n1)==dA) then ((ix fd gE).bind λn2=>(some (fd.set n2 jp)).bind λl3=>bj.pj2 F (bj.pl7 F k) l3 dA jp jq gE) else (bj.pj2 F (bj.pl7 F k) fd dA jp jq gE))) else (some fd))
theorem bj.l7_P {jW iU jX oU oV oW} :∀ k,bj.S7 H0 Ri R0 jW iU jX oU oV oW (bj.l7 F   k) (bj.pl7 F  k):=by
 intro k
 induction k with
 | zero=>unfold bj.S7;intros;rename_i hp;cases hp
 | succ k ih=>
  intro fd PM dA jp jq gE H PO h0 r hp
  obtain ⟨w0,s0,oX⟩:=h0
  subst PO
  unfold bj.pl7 at hp
  unfold bj.l7
  refine ay hp (λhp=>?_) λhp=>?_
  ·obtain ⟨n1,g1,hp⟩:=ag hp
   obtain ⟨p1,q1,i1,h1,j1⟩:=W.ixo (E:=eI) w0 (i:=0) rfl rfl oX g1
   refine ai i1 ?_
   have h1:_=[_]:=h1
   subst h1
   refine ai (aG (j1 0 _ rfl)) ?_
   refine ay hp (λhp=>?_) λhp=>?_
   ·obtain ⟨n2,g2,hp⟩:=ag hp
    obtain ⟨p2,q2,i2,h2,j2⟩:=W.ixo (E:=eI) w0 (i:=0) rfl rfl oX g2
    refine ai i2 ?_
    obtain ⟨l3,e3,hp⟩:=ag hp
    refine dC eI w0 (i:=0) (j:=0) (p:=p2) rfl rfl oX g2 i2 e3 rfl rfl (λ_ h=>by have h:_=[_]:=h;subst h;exact rfl) λH4 k4 w4 s4 c4=>?_
    exact bj.j2_P (@ih) ((cz e3).symm) ⟨w4,(s0.trans s4),c4⟩ hp
   ·exact bj.j2_P (@ih) rfl ⟨w0,s0,oX⟩ hp
  ·exact az hp ⟨_,rfl,rfl,w0,s0,oX⟩
def bj.p (F:Nat) (ah:as5) (aA:Int) (cL:Int):Option (List Int):=(ix ah cL).bind λn1=>(ix ah aA).bind λn2=>bj.pl7 F F ah (gt ah n1) (gt ah n2) (ah.length:Int) 0
theorem bj.P {aB ak aC ah zw zx zy PP aA cL} (ba:ak=ah.length) (h0:Inn H (Rs.ow zw ⟨aB,ak,aC⟩ eI.z zx PP zy::R0) λR=>CR eI H R PP ah) {r:as5} (hp:bj.p F ah aA cL=some r):Rt (bj.tw F ⟨aB,ak,aC⟩ aA cL H) (bj.Q H (Rs.ow zw ⟨aB,ak,aC⟩ eI.z zx PP zy::R0) R0 aB ak aC zw zx zy r):=by
 obtain ⟨w0,aO⟩:=h0
 subst ba
 unfold bj.p at hp
 unfold bj.tw bj.twX
 have s0:=w0.rf
 obtain ⟨n1,g1,hp⟩:=ag hp
 obtain ⟨p1,q1,i1,h1,j1⟩:=W.ixo (E:=eI) w0 (i:=0) rfl rfl aO g1
 refine ai i1 ?_
 have h1:_=[_]:=h1
 subst h1
 refine ai (aG (j1 0 _ rfl)) ?_
 obtain ⟨n2,g2,hp⟩:=ag hp
 obtain ⟨p2,q2,i2,h2,j2⟩:=W.ixo (E:=eI) w0 (i:=0) rfl rfl aO g2
 refine ai i2 ?_
 have h2:_=[_]:=h2
 subst h2
 refine ai (aG (j2 0 _ rfl)) ?_
 exact bj.l7_P F rfl ⟨w0,s0,aO⟩ hp
def cS.Q (H0:Hp) (Ri R0:as2)  (r:as5) (v:AV) (H':Hp):Prop:=∃ o0a:ON,∃ o0n:Nat,∃ o0c:Cap,∃ o0k:List AV,v=(.sl ⟨o0a,o0n,o0c⟩)/\o0n=(r).length/\Out H0 Ri H' (Rs.own ⟨o0a,o0n,o0c⟩ eI.z o0k::R0) λR=>CR eI H' R o0k (r)
def cS.p (F:Nat) (ah:as5):Option (List Int):=(if ah.length<=4294967296/\wfs ah=true then some (kd ah) else none)
theorem cS.P {aB ak aC ah} (ba:ak=ah.length) (h0:Inn H R0 λR=>ROs eI H R ⟨aB,ak,aC⟩ ah) {r:as5} (hp:cS.p F ah=some r):Rt (cS.tw F ⟨aB,ak,aC⟩ H) (cS.Q H R0 R0  r):=by
 obtain ⟨w0,f0⟩:=h0
 subst ba
 unfold cS.p at hp
 unfold cS.tw Ar
 have s0:=w0.rf
 obtain ⟨hc,hp⟩:=fW hp
 have hp:=Option.some.inj hp
 obtain ⟨xs,hx,cx⟩:=f0.row rfl
 refine ai hx ?_
 obtain rfl:=cx.ints_eq
 refine ai (afK _) ?_
 refine eK hc ?_
 by_cases hz:ah.length=0
 ·rw [if_pos hz]
  obtain ⟨w1,s1⟩:=w0.nilS eI.z (by decide)
  obtain rfl:r=[]:=List.length_eq_zero_iff.1 (by rw [<- hp,Um,hz])
  exact ⟨_,_,rfl,none,0,.ex 0,[],rfl,rfl,w1,s0.trans s1,CR.empty⟩
 ·rw [if_neg hz]
  obtain ⟨H2,e2,w2,s2⟩:=w0.newF ((kd ah).map (AV.int .i64)) ah.length eI.z (by rw [List.length_map,Um];exact (Nat.mul_one _).symm) (by decide)
  subst e2
  subst hp
  exact ⟨_,_,rfl,some (_,0),_,.full 1,_,rfl,(Um _).symm,w2,s0.trans s2,CR.ints _ _ _ _⟩
def bP.Q (H0:Hp) (Ri R0:as2)  (r:as5) (v:AV) (H':Hp):Prop:=∃ o0a:ON,∃ o0n:Nat,∃ o0c:Cap,∃ o0k:List AV,v=(.sl ⟨o0a,o0n,o0c⟩)/\o0n=(r).length/\Out H0 Ri H' (Rs.own ⟨o0a,o0n,o0c⟩ eI.z o0k::R0) λR=>CR eI H' R o0k (r)
def bP.S29 (H0:Hp) (Ri R0:as2)  (C:atV) (pC:List (Int×Int)->List (Int×Int)->List Int->Int->Int->Option (List Int)):Prop:=∀ {Fx PQ rj zB Fy oa nr Fz PR rm oY oZ iC rn kC ik},∀ {H:Hp},zB=oY.length->Fy=oZ.length->nr=iC.length->(Out H0 Ri H (Rs.blk oa [.sl ⟨Fx,zB,Fz⟩,.sl ⟨PQ,Fy,PR⟩]::Rs.own ⟨rj,nr,rm⟩ eI.z rn::R0) λR=>ROs (ac eI eI) H R ⟨Fx,zB,Fz⟩ oY/\ROs (ac eI eI) H R ⟨PQ,Fy,PR⟩ oZ/\CR eI H R rn iC)->∀ {r:as5},pC oY oZ iC kC ik=some r->Rt (C oa 0 ⟨rj,nr,rm⟩ ⟨Fx,zB,Fz⟩ kC ik H) (bP.Q H0 Ri R0  r)
def bP.pl29 (F:Nat) :Nat->List (Int×Int)->List (Int×Int)->List Int->Int->Int->Option (List Int)
 | 0,_,_,_,_,_=>none
 | k+1,oY,oZ,iC,kC,ik=>(bif (decide (ik<kC)) then ((ix oY ik).bind λn1=>(ix oZ ik).bind λn5=>(bj.p F iC ((gt oY n1).1) ((gt oZ n5).1)).bind λr7=>bP.pl29 F k oY oZ r7 kC (wrap .i64 (ik+1))) else ((cS.p F iC).bind λr12=>some r12))
theorem bP.l29_P  :∀ k,bP.S29 H0 Ri R0  (bP.l29 F (cM.tw F) (bT.tw F) (bj.tw F) (cS.tw F)  k) (bP.pl29 F  k):=by
 intro k
 induction k with
 | zero=>unfold bP.S29;intros;rename_i hp;cases hp
 | succ k ih=>
  intro Fx PQ rj zB Fy oa nr Fz PR rm oY oZ iC rn kC ik H an4 an5 PU h0 r hp
  obtain ⟨w0,s0,ab4,ab5,zC⟩:=h0
  subst an4
  subst an5
  subst PU
  unfold bP.pl29 at hp
  unfold bP.l29
  refine ay hp (λhp=>?_) λhp=>?_
  ·obtain ⟨n1,g1,hp⟩:=ag hp
   obtain ⟨p1,q1,i1,h1,j1⟩:=ROs.ixr ab4 rfl g1
   refine ai i1 ?_
   obtain ⟨_,_,rfl,rfl,rfl⟩:=h1
   refine ai (aG (j1 0 _ rfl)) ?_
   refine ai (aG (j1 1 _ rfl)) ?_
   refine aS w0 λH2 w2 s2=>?_
   refine aq w2 0 λH3 w3 s3=>?_
   refine aq w3 0 λH4 w4 s4=>?_
   refine lI w4 0 ?_
   refine lSl w4 1 ?_
   obtain ⟨n5,g5,hp⟩:=ag hp
   obtain ⟨p5,q5,i5,h5,j5⟩:=ROs.ixr (ab5.step (s2.trans (s3.trans s4))) rfl g5
   refine ai i5 ?_
   obtain ⟨_,_,rfl,rfl,rfl⟩:=h5
   refine ai (aG (j5 0 _ rfl)) ?_
   obtain ⟨w6,s6⟩:=w4.pp [2,0,1] 3
   obtain ⟨r7,e7,hp⟩:=ag hp
   refine aE (bj.P rfl ⟨w6,(zC.step (s2.trans (s3.trans (s4.trans s6))))⟩ e7) ?_
   rintro _ H8 ⟨asv,rfl,hl8_0,w8,s8,f8_0⟩
   obtain ⟨w9,s9⟩:=w8.pp [2,0] 3
   exact ih rfl rfl hl8_0 ⟨w9,(s0.trans (s2.trans (s3.trans (s4.trans (s6.trans (s8.trans s9)))))),(ab4.step (s2.trans (s3.trans (s4.trans (s6.trans (s8.trans s9)))))),(ab5.step (s2.trans (s3.trans (s4.trans (s6.trans (s8.trans s9)))))),(f8_0.step s9)⟩ hp
  ·obtain ⟨w10,s10⟩:=w0.pp [1,0] 2
   have f11:=W.borrow1 eI w10 (zC.step s10)
   obtain ⟨w11,s11⟩:=w10.right1
   obtain ⟨r12,e12,hp⟩:=ag hp
   refine aE (cS.P rfl ⟨w11,f11⟩ e12) ?_
   rintro _ H13 ⟨o0a_13,o0n_13,o0c_13,o0k_13,rfl,rfl,w13,s13,f13_0⟩
   obtain ⟨w14,s14⟩:=W.frame1 w10 w13 s13
   refine br ?_
   obtain ⟨w15,s15⟩:=w14.pp [1] 3
   exact az hp ⟨_,_,_,_,rfl,rfl,w15,(s0.trans (s10.trans (s14.trans s15))),((CR.flat (fA .i64) f13_0).step s15)⟩
def bP.p (F:Nat) (ah:ata) (ew:atn) (bz:atn):Option (List Int):=(cM.p F ah).bind λr3=>(bT.p F r3).bind λr5=>bP.pl29 F F ew bz r5 (ew.length:Int) 0
theorem bP.P {aB lF eu ak iB dg aC lG ev ah af ew bz} (ba:ak=ah.length) (ra:iB=ew.length) (gM:dg=bz.length) (h0:Inn H R0 λR=>ROs (ac eI (ac eI (ac eI (ac eI eI)))) H R ⟨aB,ak,aC⟩ ah/\ROs (ac eI eI) H R ⟨lF,iB,lG⟩ ew/\ROs (ac eI eI) H R ⟨eu,dg,ev⟩ bz) {r:as5} (hp:bP.p F ah ew bz=some r):Rt (bP.tw F ⟨aB,ak,aC⟩ af ⟨lF,iB,lG⟩ ⟨eu,dg,ev⟩ H) (bP.Q H R0 R0  r):=by
 obtain ⟨w0,aO,rb,fc⟩:=h0
 subst ba
 subst ra
 subst gM
 unfold bP.p at hp
 unfold bP.tw bP.twX
 have s0:=w0.rf
 refine aS w0 λH1 w1 s1=>?_
 refine aS w1 λH2 w2 s2=>?_
 refine lSl w2 1 ?_
 obtain ⟨r3,e3,hp⟩:=ag hp
 refine aE (cM.P rfl ⟨w2,(aO.step (s1.trans s2))⟩ e3) ?_
 rintro _ H4 ⟨rfl,w4,s4,_⟩
 refine br ?_
 obtain ⟨r5,e5,hp⟩:=ag hp
 refine aE (bT.P ⟨w4,trivial⟩ e5) ?_
 rintro _ H6 ⟨o0a_6,o0n_6,o0c_6,o0k_6,rfl,rfl,w6,s6,f6_0⟩
 refine br ?_
 refine lSl w6 1 ?_
 obtain ⟨w7,s7⟩:=w6.pp [1,0] 3
 exact bP.l29_P F rfl rfl rfl ⟨w7,(s0.trans (s1.trans (s2.trans (s4.trans (s6.trans s7))))),(rb.step (s1.trans (s2.trans (s4.trans (s6.trans s7))))),(fc.step (s1.trans (s2.trans (s4.trans (s6.trans s7))))),(f6_0.step s7)⟩ hp
def bN.Q (H0:Hp) (Ri R0:as2)  (r:Int) (v:AV) (H':Hp):Prop:=v=(.i r)/\Out H0 Ri H' (R0) λR=>True
def bN.S61 (H0:Hp) (Ri R0:as2)  (C:atd) (pC:aul):Prop:=∀ {PW FA PX fd ga gb},∀ {H:Hp},FA=fd.length->(Out H0 Ri H R0 λR=>ROs eI H R ⟨PW,FA,PX⟩ fd)->∀ {r:Int},pC fd ga gb=some r->Rt (C ⟨PW,FA,PX⟩ ga gb H) (bN.Q H0 Ri R0  r)
def bN.pl61 (F:Nat) :Nat->List Int->Int->Int->Option (Int)
 | 0,_,_,_=>none
 | k+1,fd,ga,gb=>(bif (decide (gb<(fd.length:Int))) then ((ix fd gb).bind λn1=>bN.pl61 F k fd (if (gt fd n1)>ga then (gt fd n1) else ga) (wrap .i64 (gb+1))) else (some ga))
theorem bN.l61_P  :∀ k,bN.S61 H0 Ri R0  (bN.l61 F   k) (bN.pl61 F  k):=by
 intro k
 induction k with
 | zero=>unfold bN.S61;intros;rename_i hp;cases hp
 | succ k ih=>
  intro PW FA PX fd ga gb H PO h0 r hp
  obtain ⟨w0,s0,oX⟩:=h0
  subst PO
  unfold bN.pl61 at hp
  unfold bN.l61
  refine ay hp (λhp=>?_) λhp=>?_
  ·obtain ⟨n1,g1,hp⟩:=ag hp
   obtain ⟨p1,q1,i1,h1,j1⟩:=ROs.ixr oX rfl g1
   refine ai i1 ?_
   have h1:_=[_]:=h1
   subst h1
   refine ai (aG (j1 0 _ rfl)) ?_
   exact ih rfl ⟨w0,s0,oX⟩ hp
  ·exact az hp ⟨rfl,w0,s0,trivial⟩
def bN.pj1 (F:Nat)  (rp:as5):Option (Int):=(ix rp 0).bind λn1=>bN.pl61 F F rp (gt rp n1) 1
theorem bN.j1_P   {ab6 PY ab7 rp} (an6:PY=rp.length) (h0:Out H0 Ri H R0 λR=>ROs eI H R ⟨ab6,PY,ab7⟩ rp) {r:Int} (hp:bN.pj1 F  rp=some r):Rt (bN.j1 F   ⟨ab6,PY,ab7⟩ H) (bN.Q H0 Ri R0  r):=by
 obtain ⟨w0,s0,ab8⟩:=h0
 subst an6
 unfold bN.pj1 at hp
 unfold bN.j1
 obtain ⟨n1,g1,hp⟩:=ag hp
 obtain ⟨p1,q1,i1,h1,j1⟩:=ROs.ixr ab8 rfl g1
 refine ai i1 ?_
 have h1:_=[_]:=h1
 subst h1
 refine ai (aG (j1 0 _ rfl)) ?_
 exact bN.l61_P F rfl ⟨w0,s0,ab8⟩ hp
def bN.p (F:Nat) (ah:as5):Option (Int):=(bif (decide ((ah.length:Int)<1)) then (none) else (bN.pj1 F ah))
theorem bN.P {aB ak aC ah} (ba:ak=ah.length) (h0:Inn H R0 λR=>ROs eI H R ⟨aB,ak,aC⟩ ah) {r:Int} (hp:bN.p F ah=some r):Rt (bN.tw F ⟨aB,ak,aC⟩ H) (bN.Q H R0 R0  r):=by
 obtain ⟨w0,aO⟩:=h0
 subst ba
 unfold bN.p at hp
 unfold bN.tw bN.twX
 have s0:=w0.rf
 refine ay hp (λhp=>?_) λhp=>?_
 ·cases hp
 ·exact bN.j1_P rfl ⟨w0,s0,aO⟩ hp
def dq.Q (H0:Hp) (Ri R0:as2)  (r:Int) (v:AV) (H':Hp):Prop:=v=(.i r)/\Out H0 Ri H' (R0) λR=>True
def dq.p (F:Nat) (ah:as5):Option (Int):=(bif ((ah.length:Int)==0) then (some 0) else ((bN.p F ah).bind λr1=>some (wrap .i64 (r1+1))))
theorem dq.P {aB ak aC ah} (ba:ak=ah.length) (h0:Inn H R0 λR=>ROs eI H R ⟨aB,ak,aC⟩ ah) {r:Int} (hp:dq.p F ah=some r):Rt (dq.tw F ⟨aB,ak,aC⟩ H) (dq.Q H R0 R0  r):=by
 obtain ⟨w0,aO⟩:=h0
 subst ba
 unfold dq.p at hp
 unfold dq.tw dq.twX
 have s0:=w0.rf
 refine ay hp (λhp=>?_) λhp=>?_
 ·exact az hp ⟨rfl,w0,s0,trivial⟩
 ·obtain ⟨r1,e1,hp⟩:=ag hp
  refine aE (bN.P rfl ⟨w0,aO⟩ e1) ?_
  rintro _ H2 ⟨rfl,w2,s2,_⟩
  refine br ?_
  exact az hp ⟨rfl,w2,(s0.trans s2),trivial⟩
def db.Q (H0:Hp) (Ri R0:as2)  (r:(List (Int×Int))×(List (Int×Int))×Bool) (v:AV) (H':Hp):Prop:=∃ o0a:ON,∃ o0n:Nat,∃ o0c:Cap,∃ o1a:ON,∃ o1n:Nat,∃ o1c:Cap,v=(.tup [(.agg [(.sl ⟨o0a,o0n,o0c⟩),(.sl ⟨o1a,o1n,o1c⟩)]),(.bool r.2.2)])/\o0n=(r.1).length/\o1n=(r.2.1).length/\Out H0 Ri H' (R0) λR=>ROs (ac eI eI) H' R ⟨o0a,o0n,o0c⟩ (r.1)/\ROs (ac eI eI) H' R ⟨o1a,o1n,o1c⟩ (r.2.1)
def db.p (F:Nat) (ah:ata) (af:Int):Option ((List (Int×Int))×(List (Int×Int))×Bool):=(cM.p F ah).bind λr3=>(bif (decide (r3>10)) then (some (([]:List (Int×Int)),([]:List (Int×Int)),false)) else ((dw.p F af 0 8).bind λr12=>(bif (!r12) then (some (([]:List (Int×Int)),([]:List (Int×Int)),false)) else ((eD.p F ah).bind λr21=>(bif r21 then (some (([]:List (Int×Int)),([]:List (Int×Int)),false)) else ((bf.p F ah).bind λr30=>(bif (!r30.2.2) then (some (([]:List (Int×Int)),([]:List (Int×Int)),false)) else ((aL.p F ah r30.1 r30.2.1).bind λr44=>(fR.p F r44).bind λr48=>(bP.p F ah r30.1 r30.2.1).bind λr52=>(dq.p F r52).bind λr55=>(bif (r48 != (wrap .i64 (r3+(wrap .i64 (2 * r55))))) then (some (([]:List (Int×Int)),([]:List (Int×Int)),false)) else (some (r30.1,r30.2.1,true)))))))))))
theorem db.P {aB ak aC ah af} (ba:ak=ah.length) (h0:Inn H R0 λR=>ROs (ac eI (ac eI (ac eI (ac eI eI)))) H R ⟨aB,ak,aC⟩ ah) {r:(List (Int×Int))×(List (Int×Int))×Bool} (hp:db.p F ah af=some r):Rt (db.tw F ⟨aB,ak,aC⟩ af H) (db.Q H R0 R0  r):=by
 obtain ⟨w0,aO⟩:=h0
 subst ba
 unfold db.p at hp
 unfold db.tw db.twX
 have s0:=w0.rf
 refine aS w0 λH1 w1 s1=>?_
 refine aS w1 λH2 w2 s2=>?_
 refine lSl w2 1 ?_
 obtain ⟨r3,e3,hp⟩:=ag hp
 refine aE (cM.P rfl ⟨w2,(aO.step (s1.trans s2))⟩ e3) ?_
 rintro _ H4 ⟨rfl,w4,s4,_⟩
 refine br ?_
 refine ay hp (λhp=>?_) λhp=>?_
 ·refine aq w4 0 λH5 w5 s5=>?_
  refine aq w5 0 λH6 w6 s6=>?_
  refine lSl w6 0 ?_
  refine lSl w6 0 ?_
  obtain ⟨w7,s7⟩:=w6.nilS (ac eI eI).z (by decide)
  obtain ⟨w8,s8⟩:=w7.nilS (ac eI eI).z (by decide)
  obtain ⟨w9,s9,f9⟩:=w8.frz (i:=1) (ac eI eI) rfl ((CR.empty:CR (ac eI eI) _ _ [] []).step s8)
  obtain ⟨w10,s10,f10⟩:=w9.frz (i:=0) (ac eI eI) rfl ((CR.empty:CR (ac eI eI) _ _ [] []).step s9)
  obtain ⟨w11,s11⟩:=w10.pp [] 2
  exact az hp ⟨_,_,_,_,_,_,rfl,rfl,rfl,w11,(s0.trans (s1.trans (s2.trans (s4.trans (s5.trans (s6.trans (s7.trans (s8.trans (s9.trans (s10.trans s11)))))))))),(f9.step (s10.trans s11)),(f10.step s11)⟩
 ·refine lI w4 1 ?_
  obtain ⟨r12,e12,hp⟩:=ag hp
  refine aE (dw.P ⟨w4,trivial⟩ e12) ?_
  rintro _ H13 ⟨rfl,w13,s13,_⟩
  refine br ?_
  refine ay hp (λhp=>?_) λhp=>?_
  ·refine aq w13 0 λH14 w14 s14=>?_
   refine aq w14 0 λH15 w15 s15=>?_
   refine lSl w15 0 ?_
   refine lSl w15 0 ?_
   obtain ⟨w16,s16⟩:=w15.nilS (ac eI eI).z (by decide)
   obtain ⟨w17,s17⟩:=w16.nilS (ac eI eI).z (by decide)
   obtain ⟨w18,s18,f18⟩:=w17.frz (i:=1) (ac eI eI) rfl ((CR.empty:CR (ac eI eI) _ _ [] []).step s17)
   obtain ⟨w19,s19,f19⟩:=w18.frz (i:=0) (ac eI eI) rfl ((CR.empty:CR (ac eI eI) _ _ [] []).step s18)
   obtain ⟨w20,s20⟩:=w19.pp [] 2
   exact az hp ⟨_,_,_,_,_,_,rfl,rfl,rfl,w20,(s0.trans (s1.trans (s2.trans (s4.trans (s13.trans (s14.trans (s15.trans (s16.trans (s17.trans (s18.trans (s19.trans s20))))))))))),(f18.step (s19.trans s20)),(f19.step s20)⟩
  ·refine lSl w13 1 ?_
   obtain ⟨r21,e21,hp⟩:=ag hp
   refine aE (eD.P rfl ⟨w13,(aO.step (s1.trans (s2.trans (s4.trans s13))))⟩ e21) ?_
   rintro _ H22 ⟨rfl,w22,s22,_⟩
   refine br ?_
   refine ay hp (λhp=>?_) λhp=>?_
   ·refine aq w22 0 λH23 w23 s23=>?_
    refine aq w23 0 λH24 w24 s24=>?_
    refine lSl w24 0 ?_
    refine lSl w24 0 ?_
    obtain ⟨w25,s25⟩:=w24.nilS (ac eI eI).z (by decide)
    obtain ⟨w26,s26⟩:=w25.nilS (ac eI eI).z (by decide)
    obtain ⟨w27,s27,f27⟩:=w26.frz (i:=1) (ac eI eI) rfl ((CR.empty:CR (ac eI eI) _ _ [] []).step s26)
    obtain ⟨w28,s28,f28⟩:=w27.frz (i:=0) (ac eI eI) rfl ((CR.empty:CR (ac eI eI) _ _ [] []).step s27)
    obtain ⟨w29,s29⟩:=w28.pp [] 2
    exact az hp ⟨_,_,_,_,_,_,rfl,rfl,rfl,w29,(s0.trans (s1.trans (s2.trans (s4.trans (s13.trans (s22.trans (s23.trans (s24.trans (s25.trans (s26.trans (s27.trans (s28.trans s29)))))))))))),(f27.step (s28.trans s29)),(f28.step s29)⟩
   ·refine lSl w22 1 ?_
    refine lI w22 1 ?_
    obtain ⟨r30,e30,hp⟩:=ag hp
    refine aE (bf.P rfl ⟨w22,(aO.step (s1.trans (s2.trans (s4.trans (s13.trans s22)))))⟩ e30) ?_
    rintro _ H31 ⟨o0a_31,o0n_31,o0c_31,o0k_31,o1a_31,o1n_31,o1c_31,o1k_31,rfl,rfl,rfl,w31,s31,f31_0,f31_1⟩
    refine br (br (br (br (br (br (br (br (br ?_))))))))
    refine aS w31 λH32 w32 s32=>?_
    refine aq w32 0 λH33 w33 s33=>?_
    refine aq w33 0 λH34 w34 s34=>?_
    refine ay hp (λhp=>?_) λhp=>?_
    ·refine aq w34 3 λH35 w35 s35=>?_
     refine aq w35 3 λH36 w36 s36=>?_
     refine lSl w36 3 ?_
     refine lSl w36 3 ?_
     obtain ⟨w37,s37⟩:=w36.nilS (ac eI eI).z (by decide)
     obtain ⟨w38,s38⟩:=w37.nilS (ac eI eI).z (by decide)
     obtain ⟨w39,s39,f39⟩:=w38.frz (i:=1) (ac eI eI) rfl ((CR.empty:CR (ac eI eI) _ _ [] []).step s38)
     obtain ⟨w40,s40,f40⟩:=w39.frz (i:=0) (ac eI eI) rfl ((CR.empty:CR (ac eI eI) _ _ [] []).step s39)
     obtain ⟨w41,s41⟩:=w40.pp [] 5
     exact az hp ⟨_,_,_,_,_,_,rfl,rfl,rfl,w41,(s0.trans (s1.trans (s2.trans (s4.trans (s13.trans (s22.trans (s31.trans (s32.trans (s33.trans (s34.trans (s35.trans (s36.trans (s37.trans (s38.trans (s39.trans (s40.trans s41)))))))))))))))),(f39.step (s40.trans s41)),(f40.step s41)⟩
    ·refine lSl w34 4 ?_
     refine lI w34 4 ?_
     refine lSl w34 0 ?_
     refine lSl w34 0 ?_
     obtain ⟨w42,s42,f42⟩:=w34.frz (i:=1) (ac eI eI) rfl (f31_0.step (s32.trans (s33.trans s34)))
     obtain ⟨w43,s43,f43⟩:=w42.frz (i:=1) (ac eI eI) rfl (f31_1.step (s32.trans (s33.trans (s34.trans s42))))
     obtain ⟨r44,e44,hp⟩:=ag hp
     refine aE (aL.P rfl rfl rfl ⟨w43,(aO.step (s1.trans (s2.trans (s4.trans (s13.trans (s22.trans (s31.trans (s32.trans (s33.trans (s34.trans (s42.trans s43))))))))))),(f42.step s43),f43⟩ e44) ?_
     rintro _ H45 ⟨o0a_45,o0n_45,o0c_45,o0k_45,rfl,rfl,w45,s45,f45_0⟩
     refine br ?_
     refine eK (aZ.tr (aZ.refl _) s42 (aZ.tr (aZ.refl _) s43 (W.cons_of (Rn:=[_]) w43 w45 s45))) ?_
     have f47:=W.borrow1 (eSl eI) w45 f45_0
     obtain ⟨w47,s47⟩:=w45.right1
     obtain ⟨r48,e48,hp⟩:=ag hp
     refine aE (fR.P rfl ⟨w47,f47⟩ e48) ?_
     rintro _ H49 ⟨rfl,w49,s49,_⟩
     obtain ⟨w50,s50⟩:=W.frame1 w45 w49 s49
     refine br ?_
     refine eK (W.cons_of (Rn:=[]) w47 w49 s49) ?_
     refine lSl w50 3 ?_
     refine lI w50 3 ?_
     refine lSl w50 1 ?_
     refine lSl w50 1 ?_
     obtain ⟨r52,e52,hp⟩:=ag hp
     refine aE (bP.P rfl rfl rfl ⟨w50,(aO.step (s1.trans (s2.trans (s4.trans (s13.trans (s22.trans (s31.trans (s32.trans (s33.trans (s34.trans (s42.trans (s43.trans (s45.trans s50))))))))))))),(f42.step (s43.trans (s45.trans s50))),(f43.step (s45.trans s50))⟩ e52) ?_
     rintro _ H53 ⟨o0a_53,o0n_53,o0c_53,o0k_53,rfl,rfl,w53,s53,f53_0⟩
     refine br ?_
     have f54:=W.borrow1 eI w53 f53_0
     obtain ⟨w54,s54⟩:=w53.right1
     obtain ⟨r55,e55,hp⟩:=ag hp
     refine aE (dq.P rfl ⟨w54,f54⟩ e55) ?_
     rintro _ H56 ⟨rfl,w56,s56,_⟩
     obtain ⟨w57,s57⟩:=W.frame1 w53 w56 s56
     refine br ?_
     refine ay hp (λhp=>?_) λhp=>?_
     ·refine aq w57 3 λH58 w58 s58=>?_
      refine aq w58 3 λH59 w59 s59=>?_
      refine lSl w59 3 ?_
      refine lSl w59 3 ?_
      obtain ⟨w60,s60⟩:=w59.nilS (ac eI eI).z (by decide)
      obtain ⟨w61,s61⟩:=w60.nilS (ac eI eI).z (by decide)
      obtain ⟨w62,s62,f62⟩:=w61.frz (i:=1) (ac eI eI) rfl ((CR.empty:CR (ac eI eI) _ _ [] []).step s61)
      obtain ⟨w63,s63,f63⟩:=w62.frz (i:=0) (ac eI eI) rfl ((CR.empty:CR (ac eI eI) _ _ [] []).step s62)
      obtain ⟨w64,s64⟩:=w63.pp [] 5
      dsimp only [pk,pks,nth,List.drop,List.set,List.eraseIdx] at w64 s33 s34 s42 f42 s43 f43 s58 s59 s60 s61 s62 f62 s63 f63 s64
      exact az hp ⟨_,_,_,_,_,_,rfl,rfl,rfl,w64,(s0.trans (s1.trans (s2.trans (s4.trans (s13.trans (s22.trans (s31.trans (s32.trans (s33.trans (s34.trans (s42.trans (s43.trans (s45.trans (s50.trans (s53.trans (s57.trans (s58.trans (s59.trans (s60.trans (s61.trans (s62.trans (s63.trans s64)))))))))))))))))))))),(f62.step (s63.trans s64)),(f63.step s64)⟩
     ·refine lSl w57 2 ?_
      refine lSl w57 2 ?_
      refine aq w57 3 λH65 w65 s65=>?_
      refine aq w65 3 λH66 w66 s66=>?_
      refine lSl w66 3 ?_
      refine lSl w66 3 ?_
      obtain ⟨w67,s67⟩:=w66.pp [] 5
      exact az hp ⟨_,_,_,_,_,_,rfl,rfl,rfl,w67,(s0.trans (s1.trans (s2.trans (s4.trans (s13.trans (s22.trans (s31.trans (s32.trans (s33.trans (s34.trans (s42.trans (s43.trans (s45.trans (s50.trans (s53.trans (s57.trans (s65.trans (s66.trans s67)))))))))))))))))),(f42.step (s43.trans (s45.trans (s50.trans (s53.trans (s57.trans (s65.trans (s66.trans s67)))))))),(f43.step (s45.trans (s50.trans (s53.trans (s57.trans (s65.trans (s66.trans s67)))))))⟩
def ed.Q (H0:Hp) (Ri R0:as2)  (r:Bool) (v:AV) (H':Hp):Prop:=v=(.bool r)/\Out H0 Ri H' (R0) λR=>True
def ed.p (F:Nat) (ah:ata) (af:Int):Option (Bool):=(db.p F ah af).bind λr2=>some r2.2.2
theorem ed.P {aB ak aC ah af} (ba:ak=ah.length) (h0:Inn H R0 λR=>ROs (ac eI (ac eI (ac eI (ac eI eI)))) H R ⟨aB,ak,aC⟩ ah) {r:Bool} (hp:ed.p F ah af=some r):Rt (ed.tw F ⟨aB,ak,aC⟩ af H) (ed.Q H R0 R0  r):=by
 obtain ⟨w0,aO⟩:=h0
 subst ba
 unfold ed.p at hp
 unfold ed.tw ed.twX
 have s0:=w0.rf
 refine aS w0 λH1 w1 s1=>?_
 refine lSl w1 0 ?_
 refine lI w1 0 ?_
 obtain ⟨r2,e2,hp⟩:=ag hp
 refine aE (db.P rfl ⟨w1,(aO.step s1)⟩ e2) ?_
 rintro _ H3 ⟨o0a_3,o0n_3,o0c_3,o1a_3,o1n_3,o1c_3,rfl,rfl,rfl,w3,s3,f3_0,f3_1⟩
 refine br (br (br (br (br (br (br (br (br ?_))))))))
 refine aS w3 λH4 w4 s4=>?_
 refine aq w4 0 λH5 w5 s5=>?_
 refine aq w5 0 λH6 w6 s6=>?_
 obtain ⟨w7,s7⟩:=w6.pp [] 2
 exact az hp ⟨rfl,w7,(s0.trans (s1.trans (s3.trans (s4.trans (s5.trans (s6.trans s7)))))),trivial⟩
def fS.Q (H0:Hp) (Ri R0:as2)  (r:Bool) (v:AV) (H':Hp):Prop:=v=(.bool r)/\Out H0 Ri H' (R0) λR=>True
def fS.p (F:Nat) (ah:ata) (af:Int):Option (Bool):=(bif ((ah.length:Int)==0) then (some (af==0)) else (some false))
theorem fS.P {aB ak aC ah af} (ba:ak=ah.length) (h0:Inn H R0 λR=>ROs (ac eI (ac eI (ac eI (ac eI eI)))) H R ⟨aB,ak,aC⟩ ah) {r:Bool} (hp:fS.p F ah af=some r):Rt (fS.tw F ⟨aB,ak,aC⟩ af H) (fS.Q H R0 R0  r):=by
 obtain ⟨w0,aO⟩:=h0
 subst ba
 unfold fS.p at hp
 unfold fS.tw fS.twX
 have s0:=w0.rf
 refine aS w0 λH1 w1 s1=>?_
 refine lSl w1 0 ?_
 refine ay hp (λhp=>?_) λhp=>?_
 ·refine lI w1 0 ?_
  obtain ⟨w2,s2⟩:=w1.pp [] 1
  exact az hp ⟨rfl,w2,(s0.trans (s1.trans s2)),trivial⟩
 ·obtain ⟨w3,s3⟩:=w1.pp [] 1
  exact az hp ⟨rfl,w3,(s0.trans (s1.trans s3)),trivial⟩
def eL.Q (H0:Hp) (Ri R0:as2)  (r:Int) (v:AV) (H':Hp):Prop:=v=(.i r)/\Out H0 Ri H' (R0) λR=>True
def eL.p (F:Nat) (ah:ata) (af:Int):Option (Int):=(ed.p F ah af).bind λr2=>(bif (!r2) then (some 1) else ((fS.p F ah af).bind λr5=>(bif r5 then (some 5) else (some 0))))
theorem eL.P {aB ak aC ah af} (ba:ak=ah.length) (h0:Inn H R0 λR=>ROs (ac eI (ac eI (ac eI (ac eI eI)))) H R ⟨aB,ak,aC⟩ ah) {r:Int} (hp:eL.p F ah af=some r):Rt (eL.tw F ⟨aB,ak,aC⟩ af H) (eL.Q H R0 R0  r):=by
 obtain ⟨w0,aO⟩:=h0
 subst ba
 unfold eL.p at hp
 unfold eL.tw eL.twX
 have s0:=w0.rf
 refine aS w0 λH1 w1 s1=>?_
 refine lSl w1 0 ?_
 refine lI w1 0 ?_
 obtain ⟨r2,e2,hp⟩:=ag hp
 refine aE (ed.P rfl ⟨w1,(aO.step s1)⟩ e2) ?_
 rintro _ H3 ⟨rfl,w3,s3,_⟩
 refine br ?_
 refine ay hp (λhp=>?_) λhp=>?_
 ·obtain ⟨w4,s4⟩:=w3.pp [] 1
  exact az hp ⟨rfl,w4,(s0.trans (s1.trans (s3.trans s4))),trivial⟩
 ·refine lSl w3 0 ?_
  refine lI w3 0 ?_
  obtain ⟨r5,e5,hp⟩:=ag hp
  refine aE (fS.P rfl ⟨w3,(aO.step (s1.trans s3))⟩ e5) ?_
  rintro _ H6 ⟨rfl,w6,s6,_⟩
  refine br ?_
  refine ay hp (λhp=>?_) λhp=>?_
  ·obtain ⟨w7,s7⟩:=w6.pp [] 1
   exact az hp ⟨rfl,w7,(s0.trans (s1.trans (s3.trans (s6.trans s7)))),trivial⟩
  ·obtain ⟨w8,s8⟩:=w6.pp [] 1
   exact az hp ⟨rfl,w8,(s0.trans (s1.trans (s3.trans (s6.trans s8)))),trivial⟩
def bg.Q (H0:Hp) (Ri R0:as2)  (r:atm) (v:AV) (H':Hp):Prop:=∃ o0a:ON,∃ o0n:Nat,∃ o0c:Cap,∃ o0k:List AV,v=(.tup [(.sl ⟨o0a,o0n,o0c⟩),(.i r.2)])/\o0n=(r.1).length/\Out H0 Ri H' (Rs.own ⟨o0a,o0n,o0c⟩ eI.z o0k::R0) λR=>CR eI H' R o0k (r.1)
def bg.S29 (H0:Hp) (Ri R0:as2)  (C:atV) (pC:List (Int×Int×Int×Int×Int)->Int->List Int->Int->Int->Option (List Int×Int)):Prop:=∀ {FB PZ zD fb FC FD P_ ns ww kD jr rq Qa},∀ {H:Hp},zD=ns.length->FC=rq.length->(Out H0 Ri H (Rs.blk fb [.sl ⟨FB,zD,FD⟩,.i ww]::Rs.own ⟨PZ,FC,P_⟩ eI.z Qa::R0) λR=>ROs (ac eI (ac eI (ac eI (ac eI eI)))) H R ⟨FB,zD,FD⟩ ns/\CR eI H R Qa rq)->∀ {r:atm},pC ns ww rq kD jr=some r->Rt (C fb 0 ⟨PZ,FC,P_⟩ ⟨FB,zD,FD⟩ kD jr H) (bg.Q H0 Ri R0  r)
def bg.pj1 (F:Nat)  (FE:Int) (zE:as5):Option (List Int×Int):=(cS.p F zE).bind λr3=>(dq.p F r3).bind λr8=>some (r3,(wrap .i64 (r8+FE)))
theorem bg.j1_P   {ab9 ab_ Qb BP Qc aca acb acd FE zE ace} (an7:Qb=acd.length) (an8:Qc=zE.length) (h0:Out H0 Ri H (Rs.blk BP [.sl ⟨ab9,Qb,aca⟩,.i FE]::Rs.own ⟨ab_,Qc,acb⟩ eI.z ace::R0) λR=>ROs (ac eI (ac eI (ac eI (ac eI eI)))) H R ⟨ab9,Qb,aca⟩ acd/\CR eI H R ace zE) {r:atm} (hp:bg.pj1 F  FE zE=some r):Rt (bg.j1 F (cM.tw F) (bT.tw F) (bj.tw F) (cS.tw F) (dq.tw F)  BP 0 ⟨ab_,Qc,acb⟩ H) (bg.Q H0 Ri R0  r):=by
 obtain ⟨w0,s0,asw,an9⟩:=h0
 subst an7
 subst an8
 unfold bg.pj1 at hp
 unfold bg.j1
 obtain ⟨w1,s1⟩:=w0.pp [1,0] 2
 have f2:=W.borrow1 eI w1 (an9.step s1)
 obtain ⟨w2,s2⟩:=w1.right1
 obtain ⟨r3,e3,hp⟩:=ag hp
 refine aE (cS.P rfl ⟨w2,f2⟩ e3) ?_
 rintro _ H4 ⟨o0a_4,o0n_4,o0c_4,o0k_4,rfl,rfl,w4,s4,f4_0⟩
 obtain ⟨w5,s5⟩:=W.frame1 w1 w4 s4
 refine br ?_
 obtain ⟨w6,s6⟩:=w5.pp [1,0,2] 3
 have f7:=W.borrow1 eI w6 ((CR.flat (fA .i64) f4_0).step s6)
 obtain ⟨w7,s7⟩:=w6.right1
 obtain ⟨r8,e8,hp⟩:=ag hp
 refine aE (dq.P rfl ⟨w7,f7⟩ e8) ?_
 rintro _ H9 ⟨rfl,w9,s9,_⟩
 obtain ⟨w10,s10⟩:=W.frame1 w6 w9 s9
 refine br ?_
 refine eK (aZ.tr (aZ.refl _) s6 (W.cons_of (Rn:=[]) w7 w9 s9)) ?_
 refine lI w10 2 ?_
 obtain ⟨w12,s12⟩:=w10.pp [0] 3
 exact az hp ⟨_,_,_,_,rfl,rfl,w12,(s0.trans (s1.trans (s5.trans (s6.trans (s10.trans s12))))),((CR.flat (fA .i64) f4_0).step (s6.trans (s10.trans s12)))⟩
def bg.pl29 (F:Nat) :Nat->List (Int×Int×Int×Int×Int)->Int->List Int->Int->Int->Option (List Int×Int)
 | 0,_,_,_,_,_=>none
 | k+1,ns,ww,rq,kD,jr=>(bif (decide (jr<kD)) then ((ix ns jr).bind λn1=>(bj.p F rq ((gt ns n1).2.1) ((gt ns n1).2.2.2.1)).bind λr9=>bg.pl29 F k ns ww r9 kD (wrap .i64 (jr+1))) else (bg.pj1 F ww rq))
theorem bg.l29_P  :∀ k,bg.S29 H0 Ri R0  (bg.l29 F (cM.tw F) (bT.tw F) (bj.tw F) (cS.tw F) (dq.tw F)  k) (bg.pl29 F  k):=by
 intro k
 induction k with
 | zero=>unfold bg.S29;intros;rename_i hp;cases hp
 | succ k ih=>
  intro FB PZ zD fb FC FD P_ ns ww kD jr rq Qa H an_ aoa h0 r hp
  obtain ⟨w0,s0,Qd,acf⟩:=h0
  subst an_
  subst aoa
  unfold bg.pl29 at hp
  unfold bg.l29
  refine ay hp (λhp=>?_) λhp=>?_
  ·obtain ⟨n1,g1,hp⟩:=ag hp
   obtain ⟨p1,q1,i1,h1,j1⟩:=ROs.ixr Qd rfl g1
   refine ai i1 ?_
   obtain ⟨_,_,rfl,rfl,_,_,rfl,rfl,_,_,rfl,rfl,_,_,rfl,rfl,rfl⟩:=h1
   refine ai (aG (j1 0 _ rfl)) ?_
   refine ai (aG (j1 1 _ rfl)) ?_
   refine ai (aG (j1 2 _ rfl)) ?_
   refine ai (aG (j1 3 _ rfl)) ?_
   refine ai (aG (j1 4 _ rfl)) ?_
   refine aS w0 λH2 w2 s2=>?_
   refine aq w2 0 λH3 w3 s3=>?_
   refine aq w3 0 λH4 w4 s4=>?_
   refine aq w4 0 λH5 w5 s5=>?_
   refine aq w5 0 λH6 w6 s6=>?_
   refine aq w6 0 λH7 w7 s7=>?_
   refine lI w7 0 ?_
   refine lI w7 0 ?_
   obtain ⟨w8,s8⟩:=w7.pp [2,0,1] 3
   obtain ⟨r9,e9,hp⟩:=ag hp
   refine aE (bj.P rfl ⟨w8,(acf.step (s2.trans (s3.trans (s4.trans (s5.trans (s6.trans (s7.trans s8)))))))⟩ e9) ?_
   rintro _ H10 ⟨asx,rfl,hl10_0,w10,s10,f10_0⟩
   obtain ⟨w11,s11⟩:=w10.pp [2,0] 3
   exact ih rfl hl10_0 ⟨w11,(s0.trans (s2.trans (s3.trans (s4.trans (s5.trans (s6.trans (s7.trans (s8.trans (s10.trans s11))))))))),(Qd.step (s2.trans (s3.trans (s4.trans (s5.trans (s6.trans (s7.trans (s8.trans (s10.trans s11))))))))),(f10_0.step s11)⟩ hp
  ·exact bg.j1_P rfl rfl ⟨w0,s0,Qd,acf⟩ hp
def bg.p (F:Nat) (ah:ata) (af:Int):Option (List Int×Int):=(cM.p F ah).bind λr2=>(bT.p F (wrap .i64 (2 * r2))).bind λr4=>bg.pl29 F F ah af r4 (ah.length:Int) 0
theorem bg.P {aB ak aC ah af} (ba:ak=ah.length) (h0:Inn H R0 λR=>ROs (ac eI (ac eI (ac eI (ac eI eI)))) H R ⟨aB,ak,aC⟩ ah) {r:atm} (hp:bg.p F ah af=some r):Rt (bg.tw F ⟨aB,ak,aC⟩ af H) (bg.Q H R0 R0  r):=by
 obtain ⟨w0,aO⟩:=h0
 subst ba
 unfold bg.p at hp
 unfold bg.tw bg.twX
 have s0:=w0.rf
 refine aS w0 λH1 w1 s1=>?_
 refine lSl w1 0 ?_
 obtain ⟨r2,e2,hp⟩:=ag hp
 refine aE (cM.P rfl ⟨w1,(aO.step s1)⟩ e2) ?_
 rintro _ H3 ⟨rfl,w3,s3,_⟩
 refine br ?_
 obtain ⟨r4,e4,hp⟩:=ag hp
 refine aE (bT.P ⟨w3,trivial⟩ e4) ?_
 rintro _ H5 ⟨o0a_5,o0n_5,o0c_5,o0k_5,rfl,rfl,w5,s5,f5_0⟩
 refine br ?_
 refine lSl w5 1 ?_
 obtain ⟨w6,s6⟩:=w5.pp [1,0] 2
 exact bg.l29_P F rfl rfl ⟨w6,(s0.trans (s1.trans (s3.trans (s5.trans s6)))),(aO.step (s1.trans (s3.trans (s5.trans s6)))),(f5_0.step s6)⟩ hp
def bO.Q (H0:Hp) (Ri R0:as2)  (r:ate) (v:AV) (H':Hp):Prop:=∃ o0a:ON,∃ o0n:Nat,∃ o0c:Cap,∃ o0k:List AV,v=(.sl ⟨o0a,o0n,o0c⟩)/\o0n=(r).length/\Out H0 Ri H' (Rs.own ⟨o0a,o0n,o0c⟩ (eSl eI).z o0k::R0) λR=>CR (eSl eI) H' R o0k (r)
def bO.S61 (H0:Hp) (Ri R0:as2)  (C:Sl->Sl->Sl->Int->Int->Hp->OA) (pC:List Int->List (List Int)->List (Int×Int×Int×Int×Int)->Int->Int->Option (List (List Int))):Prop:=∀ {qw Qe Qf ng FG FH qx Qg Qh dk qy Qi rr gk eF js},∀ {H:Hp},ng=dk.length->FG=rr.length->FH=gk.length->(Out H0 Ri H (Rs.own ⟨qw,ng,qx⟩ eI.z qy::Rs.own ⟨Qe,FG,Qg⟩ (eSl eI).z Qi::R0) λR=>CR eI H R qy dk/\CR (eSl eI) H R Qi rr/\ROs (ac eI (ac eI (ac eI (ac eI eI)))) H R ⟨Qf,FH,Qh⟩ gk)->∀ {r:ate},pC dk rr gk eF js=some r->Rt (C ⟨qw,ng,qx⟩ ⟨Qe,FG,Qg⟩ ⟨Qf,FH,Qh⟩ eF js H) (bO.Q H0 Ri R0  r)
def bO.pl61 (F:Nat) :Nat->List Int->List (List Int)->List (Int×Int×Int×Int×Int)->Int->Int->Option (List (List Int))
 | 0,_,_,_,_,_=>none
 | k+1,dk,rr,gk,eF,js=>(bif (decide (js<eF)) then ((ix gk js).bind λn1=>(ix dk ((gt gk n1).1)).bind λn8=>(ix dk ((gt gk n1).2.2.1)).bind λn9=>(ix dk ((gt gk n1).2.1)).bind λn10=>(apn rr ([([(wrap .i64 ((gt dk n9)+1)),(wrap .i64 (((gt gk n1).2.2.2.2) * (wrap .i64 ((gt dk n10)+1)))),(wrap .i64 (0 - (wrap .i64 ((gt dk n8)+1)))),(wrap .i64 ((wrap .i64 (0 - ((gt gk n1).2.2.2.2))) * (wrap .i64 ((gt dk n10)+1))))]:List Int)]:List (List Int))).bind λl14=>bO.pl61 F k dk l14 gk eF (wrap .i64 (js+1))) else (some rr))
theorem bO.l61_P  :∀ k,bO.S61 H0 Ri R0  (bO.l61 F (bg.tw F)  k) (bO.pl61 F  k):=by
 intro k
 induction k with
 | zero=>unfold bO.S61;intros;rename_i hp;cases hp
 | succ k ih=>
  intro qw Qe Qf ng FG FH qx Qg Qh dk qy Qi rr gk eF js H Kf aob aoc h0 r hp
  obtain ⟨w0,s0,oH,acg,ach⟩:=h0
  subst Kf
  subst aob
  subst aoc
  unfold bO.pl61 at hp
  unfold bO.l61
  refine ay hp (λhp=>?_) λhp=>?_
  ·obtain ⟨n1,g1,hp⟩:=ag hp
   obtain ⟨p1,q1,i1,h1,j1⟩:=ROs.ixr ach rfl g1
   refine ai i1 ?_
   obtain ⟨_,_,rfl,rfl,_,_,rfl,rfl,_,_,rfl,rfl,_,_,rfl,rfl,rfl⟩:=h1
   refine ai (aG (j1 0 _ rfl)) ?_
   refine ai (aG (j1 1 _ rfl)) ?_
   refine ai (aG (j1 2 _ rfl)) ?_
   refine ai (aG (j1 3 _ rfl)) ?_
   refine ai (aG (j1 4 _ rfl)) ?_
   refine aS w0 λH2 w2 s2=>?_
   refine aq w2 0 λH3 w3 s3=>?_
   refine aq w3 0 λH4 w4 s4=>?_
   refine aq w4 0 λH5 w5 s5=>?_
   refine aq w5 0 λH6 w6 s6=>?_
   refine aq w6 0 λH7 w7 s7=>?_
   refine lI w7 0 ?_
   obtain ⟨n8,g8,hp⟩:=ag hp
   obtain ⟨p8,q8,i8,h8,j8⟩:=W.ixo (E:=eI) w7 (i:=1) rfl rfl (oH.step (s2.trans (s3.trans (s4.trans (s5.trans (s6.trans s7)))))) g8
   refine ai i8 ?_
   have h8:_=[_]:=h8
   subst h8
   refine ai (aG (j8 0 _ rfl)) ?_
   refine lI w7 0 ?_
   obtain ⟨n9,g9,hp⟩:=ag hp
   obtain ⟨p9,q9,i9,h9,j9⟩:=W.ixo (E:=eI) w7 (i:=1) rfl rfl (oH.step (s2.trans (s3.trans (s4.trans (s5.trans (s6.trans s7)))))) g9
   refine ai i9 ?_
   have h9:_=[_]:=h9
   subst h9
   refine ai (aG (j9 0 _ rfl)) ?_
   refine lI w7 0 ?_
   obtain ⟨n10,g10,hp⟩:=ag hp
   obtain ⟨p10,q10,i10,h10,j10⟩:=W.ixo (E:=eI) w7 (i:=1) rfl rfl (oH.step (s2.trans (s3.trans (s4.trans (s5.trans (s6.trans s7)))))) g10
   refine ai i10 ?_
   have h10:_=[_]:=h10
   subst h10
   refine ai (aG (j10 0 _ rfl)) ?_
   refine lI w7 0 ?_
   refine lI w7 0 ?_
   refine cK eI w7 (n:=4) (l:=([(wrap .i64 ((gt dk n9)+1)),(wrap .i64 (((gt gk n1).2.2.2.2) * (wrap .i64 ((gt dk n10)+1)))),(wrap .i64 (0 - (wrap .i64 ((gt dk n8)+1)))),(wrap .i64 ((wrap .i64 (0 - ((gt gk n1).2.2.2.2))) * (wrap .i64 ((gt dk n10)+1))))]:List Int)) rfl (CR.cons1 rfl (CR.cons1 rfl (CR.cons1 rfl (CR.cons1 rfl CR.empty)))) rfl λH11 w11 s11 c11=>?_
   obtain ⟨w12,s12,f12⟩:=w11.frz (i:=0) eI rfl c11
   refine cK (eSl eI) w12 (n:=1) (l:=([([(wrap .i64 ((gt dk n9)+1)),(wrap .i64 (((gt gk n1).2.2.2.2) * (wrap .i64 ((gt dk n10)+1)))),(wrap .i64 (0 - (wrap .i64 ((gt dk n8)+1)))),(wrap .i64 ((wrap .i64 (0 - ((gt gk n1).2.2.2.2))) * (wrap .i64 ((gt dk n10)+1))))]:List Int)]:List (List Int))) rfl (CR.cons1 ⟨_,rfl,f12⟩ CR.empty) rfl λH13 w13 s13 c13=>?_
   refine ai (w13.rowo (i:=0) rfl) ?_
   obtain ⟨l14,e14,hp⟩:=ag hp
   refine fz (eSl eI) w13 (i:=3) rfl rfl (acg.step (s2.trans (s3.trans (s4.trans (s5.trans (s6.trans (s7.trans (s11.trans (s12.trans s13))))))))) c13 (show 1=List.length ([([(wrap .i64 ((gt dk n9)+1)),(wrap .i64 (((gt gk n1).2.2.2.2) * (wrap .i64 ((gt dk n10)+1)))),(wrap .i64 (0 - (wrap .i64 ((gt dk n8)+1)))),(wrap .i64 ((wrap .i64 (0 - ((gt gk n1).2.2.2.2))) * (wrap .i64 ((gt dk n10)+1))))]:List Int)]:List (List Int)) from rfl) rfl e14 λa15 d15 H15 w15 s15 c15 x15=>?_
   obtain ⟨w16,s16⟩:=w15.pp [2,3] 4
   exact ih rfl rfl rfl ⟨w16,(s0.trans (s2.trans (s3.trans (s4.trans (s5.trans (s6.trans (s7.trans (s11.trans (s12.trans (s13.trans (s15.trans s16))))))))))),(oH.step (s2.trans (s3.trans (s4.trans (s5.trans (s6.trans (s7.trans (s11.trans (s12.trans (s13.trans (s15.trans s16))))))))))),(c15.step s16),(ach.step (s2.trans (s3.trans (s4.trans (s5.trans (s6.trans (s7.trans (s11.trans (s12.trans (s13.trans (s15.trans s16)))))))))))⟩ hp
  ·obtain ⟨w17,s17⟩:=w0.pp [1] 2
   exact az hp ⟨_,_,_,_,rfl,rfl,w17,(s0.trans s17),(acg.step s17)⟩
def bO.p (F:Nat) (ah:ata) (af:Int):Option (List (List Int)):=(bg.p F ah af).bind λr2=>bO.pl61 F F r2.1 ([]:List (List Int)) ah (ah.length:Int) 0
theorem bO.P {aB ak aC ah af} (ba:ak=ah.length) (h0:Inn H R0 λR=>ROs (ac eI (ac eI (ac eI (ac eI eI)))) H R ⟨aB,ak,aC⟩ ah) {r:ate} (hp:bO.p F ah af=some r):Rt (bO.tw F ⟨aB,ak,aC⟩ af H) (bO.Q H R0 R0  r):=by
 obtain ⟨w0,aO⟩:=h0
 subst ba
 unfold bO.p at hp
 unfold bO.tw bO.twX
 have s0:=w0.rf
 refine aS w0 λH1 w1 s1=>?_
 refine lSl w1 0 ?_
 refine lI w1 0 ?_
 obtain ⟨r2,e2,hp⟩:=ag hp
 refine aE (bg.P rfl ⟨w1,(aO.step s1)⟩ e2) ?_
 rintro _ H3 ⟨o0a_3,o0n_3,o0c_3,o0k_3,rfl,rfl,w3,s3,f3_0⟩
 refine br (br (br (br (br ?_))))
 refine lSl w3 1 ?_
 obtain ⟨w4,s4⟩:=w3.nilS (eSl eI).z (by decide)
 obtain ⟨w5,s5⟩:=w4.pp [1,0] 3
 exact bO.l61_P F rfl rfl rfl ⟨w5,(s0.trans (s1.trans (s3.trans (s4.trans s5)))),(f3_0.step (s4.trans s5)),((CR.empty:CR (eSl eI) _ _ [] []).step s5),(aO.step (s1.trans (s3.trans (s4.trans s5))))⟩ hp
def dx.Q (H0:Hp) (Ri R0:as2)  (r:as5) (v:AV) (H':Hp):Prop:=∃ o0a:ON,∃ o0n:Nat,∃ o0c:Cap,∃ o0k:List AV,v=(.sl ⟨o0a,o0n,o0c⟩)/\o0n=(r).length/\Out H0 Ri H' (Rs.own ⟨o0a,o0n,o0c⟩ eI.z o0k::R0) λR=>CR eI H' R o0k (r)
def dx.p (F:Nat) (ah:as5):Option (List Int):=apn ([]:List Int) ah
theorem dx.P {aB ak aC ah} (ba:ak=ah.length) (h0:Inn H R0 λR=>ROs eI H R ⟨aB,ak,aC⟩ ah) {r:as5} (hp:dx.p F ah=some r):Rt (dx.tw F ⟨aB,ak,aC⟩ H) (dx.Q H R0 R0  r):=by
 obtain ⟨w0,f0⟩:=h0
 subst ba
 unfold dx.p at hp
 unfold dx.tw dx.twX
 have s0:=w0.rf
 refine aro (λhb=>?_) (λhb=>?_)
 ·obtain ⟨w1,s1⟩:=w0.nilS eI.z (by decide)
  obtain rfl:=ROs.none_nil f0 (Option.isNone_iff_eq_none.1 hb)
  obtain rfl:r=[]:=(afL hp).2
  exact ⟨_,_,rfl,none,0,.ex 0,[],rfl,rfl,w1,s0.trans s1,CR.empty⟩
 ·refine cK eI w0 (n:=0) (l:=[]) rfl CR.empty rfl λH2 w2 s2 c2=>?_
  obtain ⟨xs,hx,cx⟩:=(f0.step s2).row rfl
  refine ai hx ?_
  refine fz eI w2 (i:=0) rfl rfl c2 cx rfl rfl hp λa d H3 w3 s3 c3 _=>?_
  dsimp only [List.set] at w3 s3 c3
  exact ⟨_,_,rfl,_,_,_,_,rfl,rfl,w3,s0.trans (s2.trans s3),c3⟩
def aV.Q (H0:Hp) (Ri R0:as2)  (r:as8) (v:AV) (H':Hp):Prop:=∃ o1a:ON,∃ o1n:Nat,∃ o1c:Cap,∃ o1k:List AV,v=(.agg [(.i r.1),(.sl ⟨o1a,o1n,o1c⟩)])/\o1n=(r.2).length/\Out H0 Ri H' (Rs.own ⟨o1a,o1n,o1c⟩ eI.z o1k::R0) λR=>CR eI H' R o1k (r.2)
def aV.S6 (H0:Hp) (Ri R0:as2)  (C:aum) (pC:aun):Prop:=∀ {ru aci Qj Qk FI dd FJ fD Ql Qm jY Qn Qo},∀ {H:Hp},FI=jY.length->FJ=Qn.length->(Out H0 Ri H (Rs.blk dd [.i ru,.sl ⟨Qj,FI,Ql⟩]::Rs.own ⟨Qk,FJ,Qm⟩ eI.z Qo::Rs.blk fD [.i aci,.sl ⟨Qk,FJ,Qm⟩]::R0) λR=>ROs eI H R ⟨Qj,FI,Ql⟩ jY/\CR eI H R Qo Qn)->∀ {r:as8},pC ru jY=some r->Rt (C dd 0 fD 0 H) (aV.Q H0 Ri R0  r)
def aV.S14 (H0:Hp) (Ri R0:as2)  (C:aum) (pC:aun):Prop:=∀ {rv acj Qp Qq FK eS FL mR Qr Qs jH Qt Qu},∀ {H:Hp},FK=jH.length->FL=Qt.length->(Out H0 Ri H (Rs.blk eS [.i rv,.sl ⟨Qp,FK,Qr⟩]::Rs.own ⟨Qq,FL,Qs⟩ eI.z Qu::Rs.blk mR [.i acj,.sl ⟨Qq,FL,Qs⟩]::R0) λR=>ROs eI H R ⟨Qp,FK,Qr⟩ jH/\CR eI H R Qu Qt)->∀ {r:as8},pC rv jH=some r->Rt (C eS 0 mR 0 H) (aV.Q H0 Ri R0  r)
def aV.pj1 (F:Nat)  (FM:Int) (wx:as5):Option (Int×List Int):=(bif ((wx.length:Int)==0) then (some (0,([]:List Int))) else ((dx.p F wx).bind λr5=>some (FM,r5)))
theorem aV.j1_P   {FM aod ack acl Qv uA Qw kE acm acn wx aco acp} (aoe:Qv=wx.length) (aof:Qw=aco.length) (h0:Out H0 Ri H (Rs.blk uA [.i FM,.sl ⟨ack,Qv,acm⟩]::Rs.own ⟨acl,Qw,acn⟩ eI.z acp::Rs.blk kE [.i aod,.sl ⟨acl,Qw,acn⟩]::R0) λR=>ROs eI H R ⟨ack,Qv,acm⟩ wx/\CR eI H R acp aco) {r:as8} (hp:aV.pj1 F  FM wx=some r):Rt (aV.j1 F (dx.tw F)  uA 0 kE 0 H) (aV.Q H0 Ri R0  r):=by
 obtain ⟨w0,s0,aog,asy⟩:=h0
 subst aoe
 subst aof
 unfold aV.pj1 at hp
 unfold aV.j1
 refine lSl w0 0 ?_
 refine ay hp (λhp=>?_) λhp=>?_
 ·refine aq w0 2 λH1 w1 s1=>?_
  refine aq w1 2 λH2 w2 s2=>?_
  refine lI w2 2 ?_
  refine lSl w2 2 ?_
  obtain ⟨w3,s3⟩:=w2.nilS eI.z (by decide)
  obtain ⟨w4,s4⟩:=w3.pp [0] 4
  exact az hp ⟨_,_,_,_,rfl,rfl,w4,(s0.trans (s1.trans (s2.trans (s3.trans s4)))),((CR.empty:CR eI _ _ [] []).step s4)⟩
 ·refine lI w0 0 ?_
  refine lSl w0 0 ?_
  obtain ⟨r5,e5,hp⟩:=ag hp
  refine aE (dx.P rfl ⟨w0,aog⟩ e5) ?_
  rintro _ H6 ⟨o0a_6,o0n_6,o0c_6,o0k_6,rfl,rfl,w6,s6,f6_0⟩
  refine br ?_
  refine eK (W.cons_of (Rn:=[_]) w0 w6 s6) ?_
  refine aq w6 3 λH8 w8 s8=>?_
  refine aq w8 3 λH9 w9 s9=>?_
  refine lI w9 3 ?_
  refine lSl w9 3 ?_
  obtain ⟨w10,s10⟩:=w9.pp [0] 4
  exact az hp ⟨_,_,_,_,rfl,rfl,w10,(s0.trans (s6.trans (s8.trans (s9.trans s10)))),(f6_0.step (s8.trans (s9.trans s10)))⟩
def aV.pl14 (F:Nat) :Nat->Int->List Int->Option (Int×List Int)
 | 0,_,_=>none
 | k+1,rv,jH=>(bif (decide ((jH.length:Int)>0)) then ((ix jH (wrap .i64 ((jH.length:Int) - 1))).bind λn1=>(bif ((gt jH n1)==0) then ((cutf jH 0 (wrap .i64 ((jH.length:Int) - 1))).bind λl2=>aV.pl14 F k rv l2) else (aV.pj1 F rv jH))) else (aV.pj1 F rv jH))
theorem aV.l14_P  :∀ k,aV.S14 H0 Ri R0  (aV.l14 F (dx.tw F)  k) (aV.pl14 F  k):=by
 intro k
 induction k with
 | zero=>unfold aV.S14;intros;rename_i hp;cases hp
 | succ k ih=>
  intro rv acj Qp Qq FK eS FL mR Qr Qs jH Qt Qu H aoh aoi h0 r hp
  obtain ⟨w0,s0,FN,Qx⟩:=h0
  subst aoh
  subst aoi
  unfold aV.pl14 at hp
  unfold aV.l14
  refine lSl w0 0 ?_
  refine ay hp (λhp=>?_) λhp=>?_
  ·refine lSl w0 0 ?_
   refine lSl w0 0 ?_
   obtain ⟨n1,g1,hp⟩:=ag hp
   obtain ⟨p1,q1,i1,h1,j1⟩:=ROs.ixr FN rfl g1
   refine ai i1 ?_
   have h1:_=[_]:=h1
   subst h1
   refine ai (aG (j1 0 _ rfl)) ?_
   refine ay hp (λhp=>?_) λhp=>?_
   ·refine lSl w0 0 ?_
    refine lSl w0 0 ?_
    obtain ⟨l2,e2,hp⟩:=ag hp
    obtain ⟨a2,d2,h2,f2⟩:=ROs.cutf FN rfl e2
    refine ai h2 ?_
    refine aq w0 0 λH3 w3 s3=>?_
    exact ih rfl rfl ⟨w3,(s0.trans s3),(f2.step s3),(Qx.step s3)⟩ hp
   ·exact aV.j1_P rfl rfl ⟨w0,s0,FN,Qx⟩ hp
  ·exact aV.j1_P rfl rfl ⟨w0,s0,FN,Qx⟩ hp
def aV.pj2 (F:Nat)  (FO:Int) (zF:as5):Option (Int×List Int):=aV.pl14 F F FO zF
theorem aV.j2_P   {FO aoj acq acr Qy BT Qz lY acs act zF acu acv} (aol:Qy=zF.length) (aom:Qz=acu.length) (h0:Out H0 Ri H (Rs.blk BT [.i FO,.sl ⟨acq,Qy,acs⟩]::Rs.own ⟨acr,Qz,act⟩ eI.z acv::Rs.blk lY [.i aoj,.sl ⟨acr,Qz,act⟩]::R0) λR=>ROs eI H R ⟨acq,Qy,acs⟩ zF/\CR eI H R acv acu) {r:as8} (hp:aV.pj2 F  FO zF=some r):Rt (aV.j2 F (dx.tw F)  BT 0 lY 0 H) (aV.Q H0 Ri R0  r):=by
 obtain ⟨w0,s0,aon,aoo⟩:=h0
 subst aol
 subst aom
 unfold aV.pj2 at hp
 unfold aV.j2
 exact aV.l14_P F rfl rfl ⟨w0,s0,aon,aoo⟩ hp
def aV.pl6 (F:Nat) :Nat->Int->List Int->Option (Int×List Int)
 | 0,_,_=>none
 | k+1,ru,jY=>(bif (decide ((jY.length:Int)>0)) then ((ix jY 0).bind λn1=>(bif ((gt jY n1)==0) then ((cutf jY 1 (jY.length:Int)).bind λl3=>aV.pl6 F k (wrap .i64 (ru+1)) l3) else (aV.pj2 F ru jY))) else (aV.pj2 F ru jY))
theorem aV.l6_P  :∀ k,aV.S6 H0 Ri R0  (aV.l6 F (dx.tw F)  k) (aV.pl6 F  k):=by
 intro k
 induction k with
 | zero=>unfold aV.S6;intros;rename_i hp;cases hp
 | succ k ih=>
  intro ru aci Qj Qk FI dd FJ fD Ql Qm jY Qn Qo H aoq aor h0 r hp
  obtain ⟨w0,s0,FP,QA⟩:=h0
  subst aoq
  subst aor
  unfold aV.pl6 at hp
  unfold aV.l6
  refine lSl w0 0 ?_
  refine ay hp (λhp=>?_) λhp=>?_
  ·refine lSl w0 0 ?_
   obtain ⟨n1,g1,hp⟩:=ag hp
   obtain ⟨p1,q1,i1,h1,j1⟩:=ROs.ixr FP rfl g1
   refine ai i1 ?_
   have h1:_=[_]:=h1
   subst h1
   refine ai (aG (j1 0 _ rfl)) ?_
   refine ay hp (λhp=>?_) λhp=>?_
   ·refine lI w0 0 ?_
    refine aq w0 0 λH2 w2 s2=>?_
    refine lSl w2 0 ?_
    obtain ⟨l3,e3,hp⟩:=ag hp
    obtain ⟨a3,d3,h3,f3⟩:=ROs.cutf (FP.step s2) rfl e3
    refine ai h3 ?_
    refine aq w2 0 λH4 w4 s4=>?_
    exact ih rfl rfl ⟨w4,(s0.trans (s2.trans s4)),(f3.step s4),(QA.step (s2.trans s4))⟩ hp
   ·exact aV.j2_P rfl rfl ⟨w0,s0,FP,QA⟩ hp
  ·exact aV.j2_P rfl rfl ⟨w0,s0,FP,QA⟩ hp
def aV.p (F:Nat) (aa:Int) (aF:as5):Option (Int×List Int):=aV.pl6 F F aa aF
theorem aV.P {aa cj bD ck aF} (du:bD=aF.length) (h0:Inn H R0 λR=>ROs eI H R ⟨cj,bD,ck⟩ aF) {r:as8} (hp:aV.p F aa aF=some r):Rt (aV.tw F aa ⟨cj,bD,ck⟩ H) (aV.Q H R0 R0  r):=by
 obtain ⟨w0,cq⟩:=h0
 subst du
 unfold aV.p at hp
 unfold aV.tw aV.twX
 have s0:=w0.rf
 refine aS w0 λH1 w1 s1=>?_
 refine aS w1 λH2 w2 s2=>?_
 obtain ⟨w3,s3⟩:=w2.nilS eI.z (by decide)
 obtain ⟨w4,s4⟩:=w3.pp [2,0,1] 3
 exact aV.l6_P F rfl rfl ⟨w4,(s0.trans (s1.trans (s2.trans (s3.trans s4)))),(cq.step (s1.trans (s2.trans (s3.trans s4)))),((CR.empty:CR eI _ _ [] []).step s4)⟩ hp
def cl.Q (H0:Hp) (Ri R0:as2)  (r:as8) (v:AV) (H':Hp):Prop:=∃ o1a:ON,∃ o1n:Nat,∃ o1c:Cap,∃ o1k:List AV,v=(.agg [(.i r.1),(.sl ⟨o1a,o1n,o1c⟩)])/\o1n=(r.2).length/\Out H0 Ri H' (Rs.own ⟨o1a,o1n,o1c⟩ eI.z o1k::R0) λR=>CR eI H' R o1k (r.2)
def cl.p (F:Nat) (aa:Int) (aA:Int):Option (Int×List Int):=(aV.p F aA ([aa]:List Int)).bind λr4=>some (r4.1,r4.2)
theorem cl.P {aa aA}  (h0:Inn H R0 λR=>True) {r:as8} (hp:cl.p F aa aA=some r):Rt (cl.tw F aa aA H) (cl.Q H R0 R0  r):=by
 obtain ⟨w0,_⟩:=h0
 unfold cl.p at hp
 unfold cl.tw cl.twX
 have s0:=w0.rf
 refine aS w0 λH1 w1 s1=>?_
 refine cK eI w1 (n:=1) (l:=([aa]:List Int)) rfl (CR.cons1 rfl CR.empty) rfl λH2 w2 s2 c2=>?_
 have f3:=W.borrow1 eI w2 c2
 obtain ⟨w3,s3⟩:=w2.right1
 obtain ⟨r4,e4,hp⟩:=ag hp
 refine aE (aV.P (show 1=List.length ([aa]:List Int) from rfl) ⟨w3,f3⟩ e4) ?_
 rintro _ H5 ⟨o1a_5,o1n_5,o1c_5,o1k_5,rfl,rfl,w5,s5,f5_0⟩
 obtain ⟨w6,s6⟩:=W.frame1 w2 w5 s5
 refine br (br (br (br (br ?_))))
 refine aq w6 2 λH7 w7 s7=>?_
 refine aq w7 2 λH8 w8 s8=>?_
 refine lI w8 2 ?_
 refine lSl w8 2 ?_
 obtain ⟨w9,s9⟩:=w8.pp [1] 3
 exact az hp ⟨_,_,_,_,rfl,rfl,w9,(s0.trans (s1.trans (s2.trans (s6.trans (s7.trans (s8.trans s9)))))),((CR.flat (fA .i64) f5_0).step (s7.trans (s8.trans s9)))⟩
def fU.Q (H0:Hp) (Ri R0:as2)  (r:Int) (v:AV) (H':Hp):Prop:=v=(.i r)/\Out H0 Ri H' (R0) λR=>True
def fU.p (F:Nat) (ah:as5):Option (Int):=some (ah.length:Int)
theorem fU.P {aB ak aC ah} (ba:ak=ah.length) (h0:Inn H R0 λR=>ROs eI H R ⟨aB,ak,aC⟩ ah) {r:Int} (hp:fU.p F ah=some r):Rt (fU.tw F ⟨aB,ak,aC⟩ H) (fU.Q H R0 R0  r):=by
 obtain ⟨w0,aO⟩:=h0
 subst ba
 unfold fU.p at hp
 unfold fU.tw fU.twX
 have s0:=w0.rf
 exact az hp ⟨rfl,w0,s0,trivial⟩
def cN.Q (H0:Hp) (Ri R0:as2)  (r:Int) (v:AV) (H':Hp):Prop:=v=(.i r)/\Out H0 Ri H' (R0) λR=>True
def cN.p (F:Nat) (aa:Int) (aF:as5):Option (Int):=(fU.p F aF).bind λr2=>some (wrap .i64 ((wrap .i64 (aa+r2)) - 1))
theorem cN.P {aa cj bD ck aF} (du:bD=aF.length) (h0:Inn H R0 λR=>ROs eI H R ⟨cj,bD,ck⟩ aF) {r:Int} (hp:cN.p F aa aF=some r):Rt (cN.tw F aa ⟨cj,bD,ck⟩ H) (cN.Q H R0 R0  r):=by
 obtain ⟨w0,cq⟩:=h0
 subst du
 unfold cN.p at hp
 unfold cN.tw cN.twX
 have s0:=w0.rf
 refine aS w0 λH1 w1 s1=>?_
 refine lI w1 0 ?_
 refine lSl w1 0 ?_
 obtain ⟨r2,e2,hp⟩:=ag hp
 refine aE (fU.P rfl ⟨w1,(cq.step s1)⟩ e2) ?_
 rintro _ H3 ⟨rfl,w3,s3,_⟩
 refine br ?_
 refine eK (W.cons_of (Rn:=[]) w1 w3 s3) ?_
 obtain ⟨w5,s5⟩:=w3.pp [] 1
 exact az hp ⟨rfl,w5,(s0.trans (s1.trans (s3.trans s5))),trivial⟩
def et.Q (H0:Hp) (Ri R0:as2)  (r:Bool) (v:AV) (H':Hp):Prop:=v=(.bool r)/\Out H0 Ri H' (R0) λR=>True
def et.p (F:Nat) (aa:Int):Option (Bool):=(dw.p F aa (-1000000000000) 1000000000000).bind λr1=>some (!r1)
theorem et.P {aa}  (h0:Inn H R0 λR=>True) {r:Bool} (hp:et.p F aa=some r):Rt (et.tw F aa H) (et.Q H R0 R0  r):=by
 obtain ⟨w0,_⟩:=h0
 unfold et.p at hp
 unfold et.tw et.twX
 have s0:=w0.rf
 obtain ⟨r1,e1,hp⟩:=ag hp
 refine aE (dw.P ⟨w0,trivial⟩ e1) ?_
 rintro _ H2 ⟨rfl,w2,s2,_⟩
 refine br ?_
 exact az hp ⟨rfl,w2,(s0.trans s2),trivial⟩
def cg.Q (H0:Hp) (Ri R0:as2)  (r:Int) (v:AV) (H':Hp):Prop:=v=(.i r)/\Out H0 Ri H' (R0) λR=>True
def cg.S13 (H0:Hp) (Ri R0:as2)  (C:atd) (pC:aul):Prop:=∀ {lD iT lE er de cv},∀ {H:Hp},iT=er.length->(Out H0 Ri H R0 λR=>ROs eI H R ⟨lD,iT,lE⟩ er)->∀ {r:Int},pC er de cv=some r->Rt (C ⟨lD,iT,lE⟩ de cv H) (cg.Q H0 Ri R0  r)
def cg.pl13 (F:Nat) :Nat->List Int->Int->Int->Option (Int)
 | 0,_,_,_=>none
 | k+1,er,de,cv=>(bif (decide (cv<de)) then ((ix er cv).bind λn1=>(et.p F (gt er n1)).bind λr2=>(bif r2 then (some cv) else (cg.pl13 F k er de (wrap .i64 (cv+1))))) else (some (-1)))
theorem cg.l13_P  :∀ k,cg.S13 H0 Ri R0  (cg.l13 F (et.tw F)  k) (cg.pl13 F  k):=by
 intro k
 induction k with
 | zero=>unfold cg.S13;intros;rename_i hp;cases hp
 | succ k ih=>
  intro lD iT lE er de cv H zi h0 r hp
  obtain ⟨w0,s0,oO⟩:=h0
  subst zi
  unfold cg.pl13 at hp
  unfold cg.l13
  refine ay hp (λhp=>?_) λhp=>?_
  ·obtain ⟨n1,g1,hp⟩:=ag hp
   obtain ⟨p1,q1,i1,h1,j1⟩:=ROs.ixr oO rfl g1
   refine ai i1 ?_
   have h1:_=[_]:=h1
   subst h1
   refine ai (aG (j1 0 _ rfl)) ?_
   obtain ⟨r2,e2,hp⟩:=ag hp
   refine aE (et.P ⟨w0,trivial⟩ e2) ?_
   rintro _ H3 ⟨rfl,w3,s3,_⟩
   refine br ?_
   refine ay hp (λhp=>?_) λhp=>?_
   ·exact az hp ⟨rfl,w3,(s0.trans s3),trivial⟩
   ·exact ih rfl ⟨w3,(s0.trans s3),(oO.step s3)⟩ hp
  ·exact az hp ⟨rfl,w0,s0,trivial⟩
def cg.p (F:Nat) (ah:as5):Option (Int):=cg.pl13 F F ah (ah.length:Int) 0
theorem cg.P {aB ak aC ah} (ba:ak=ah.length) (h0:Inn H R0 λR=>ROs eI H R ⟨aB,ak,aC⟩ ah) {r:Int} (hp:cg.p F ah=some r):Rt (cg.tw F ⟨aB,ak,aC⟩ H) (cg.Q H R0 R0  r):=by
 obtain ⟨w0,aO⟩:=h0
 subst ba
 unfold cg.p at hp
 unfold cg.tw cg.twX
 have s0:=w0.rf
 exact cg.l13_P F rfl ⟨w0,s0,aO⟩ hp
def eM.Q (H0:Hp) (Ri R0:as2)  (r:Bool) (v:AV) (H':Hp):Prop:=v=(.bool r)/\Out H0 Ri H' (R0) λR=>True
def eM.p (F:Nat) (ah:as5):Option (Bool):=(cg.p F ah).bind λr1=>some (decide (r1>=0))
theorem eM.P {aB ak aC ah} (ba:ak=ah.length) (h0:Inn H R0 λR=>ROs eI H R ⟨aB,ak,aC⟩ ah) {r:Bool} (hp:eM.p F ah=some r):Rt (eM.tw F ⟨aB,ak,aC⟩ H) (eM.Q H R0 R0  r):=by
 obtain ⟨w0,aO⟩:=h0
 subst ba
 unfold eM.p at hp
 unfold eM.tw eM.twX
 have s0:=w0.rf
 obtain ⟨r1,e1,hp⟩:=ag hp
 refine aE (cg.P rfl ⟨w0,aO⟩ e1) ?_
 rintro _ H2 ⟨rfl,w2,s2,_⟩
 refine br ?_
 exact az hp ⟨rfl,w2,(s0.trans s2),trivial⟩
def cO.Q (H0:Hp) (Ri R0:as2)  (r:Bool) (v:AV) (H':Hp):Prop:=v=(.bool r)/\Out H0 Ri H' (R0) λR=>True
def cO.p (F:Nat) (aa:Int) (aF:as5):Option (Bool):=(bif ((aF.length:Int)==0) then (some (aa==0)) else ((bif (decide ((aF.length:Int)<=160)) then ((ix aF 0).bind λn3=>(bif ((gt aF n3) != 0) then ((ix aF (wrap .i64 ((aF.length:Int) - 1))).bind λn4=>(bif ((gt aF n4) != 0) then ((bif (decide (aa>=(-240))) then ((cN.p F aa aF).bind λr5=>(bif (decide (r5<=240)) then ((bif (decide (aa<=240)) then ((eM.p F aF).bind λr7=>some (!r7)) else (some false))) else (some false))) else (some false))) else (some false))) else (some false))) else (some false))))
theorem cO.P {aa cj bD ck aF} (du:bD=aF.length) (h0:Inn H R0 λR=>ROs eI H R ⟨cj,bD,ck⟩ aF) {r:Bool} (hp:cO.p F aa aF=some r):Rt (cO.tw F aa ⟨cj,bD,ck⟩ H) (cO.Q H R0 R0  r):=by
 obtain ⟨w0,cq⟩:=h0
 subst du
 unfold cO.p at hp
 unfold cO.tw cO.twX
 have s0:=w0.rf
 refine aS w0 λH1 w1 s1=>?_
 refine lSl w1 0 ?_
 refine ay hp (λhp=>?_) λhp=>?_
 ·refine lI w1 0 ?_
  obtain ⟨w2,s2⟩:=w1.pp [] 1
  exact az hp ⟨rfl,w2,(s0.trans (s1.trans s2)),trivial⟩
 ·refine ay hp (λhp=>?_) λhp=>?_
  ·refine lSl w1 0 ?_
   obtain ⟨n3,g3,hp⟩:=ag hp
   obtain ⟨p3,q3,i3,h3,j3⟩:=ROs.ixr (cq.step s1) rfl g3
   refine ai i3 ?_
   have h3:_=[_]:=h3
   subst h3
   refine ai (aG (j3 0 _ rfl)) ?_
   refine ay hp (λhp=>?_) λhp=>?_
   ·refine lSl w1 0 ?_
    obtain ⟨n4,g4,hp⟩:=ag hp
    obtain ⟨p4,q4,i4,h4,j4⟩:=ROs.ixr (cq.step s1) rfl g4
    refine ai i4 ?_
    have h4:_=[_]:=h4
    subst h4
    refine ai (aG (j4 0 _ rfl)) ?_
    refine ay hp (λhp=>?_) λhp=>?_
    ·refine lI w1 0 ?_
     refine ay hp (λhp=>?_) λhp=>?_
     ·refine lI w1 0 ?_
      refine lSl w1 0 ?_
      obtain ⟨r5,e5,hp⟩:=ag hp
      refine aE (cN.P rfl ⟨w1,(cq.step s1)⟩ e5) ?_
      rintro _ H6 ⟨rfl,w6,s6,_⟩
      refine br ?_
      refine ay hp (λhp=>?_) λhp=>?_
      ·refine lI w6 0 ?_
       refine ay hp (λhp=>?_) λhp=>?_
       ·refine lSl w6 0 ?_
        obtain ⟨r7,e7,hp⟩:=ag hp
        refine aE (eM.P rfl ⟨w6,(cq.step (s1.trans s6))⟩ e7) ?_
        rintro _ H8 ⟨rfl,w8,s8,_⟩
        refine br ?_
        obtain ⟨w9,s9⟩:=w8.pp [] 1
        exact az hp ⟨rfl,w9,(s0.trans (s1.trans (s6.trans (s8.trans s9)))),trivial⟩
       ·obtain ⟨w10,s10⟩:=w6.pp [] 1
        exact az hp ⟨rfl,w10,(s0.trans (s1.trans (s6.trans s10))),trivial⟩
      ·obtain ⟨w11,s11⟩:=w6.pp [] 1
       exact az hp ⟨rfl,w11,(s0.trans (s1.trans (s6.trans s11))),trivial⟩
     ·obtain ⟨w12,s12⟩:=w1.pp [] 1
      exact az hp ⟨rfl,w12,(s0.trans (s1.trans s12)),trivial⟩
    ·obtain ⟨w13,s13⟩:=w1.pp [] 1
     exact az hp ⟨rfl,w13,(s0.trans (s1.trans s13)),trivial⟩
   ·obtain ⟨w14,s14⟩:=w1.pp [] 1
    exact az hp ⟨rfl,w14,(s0.trans (s1.trans s14)),trivial⟩
  ·obtain ⟨w15,s15⟩:=w1.pp [] 1
   exact az hp ⟨rfl,w15,(s0.trans (s1.trans s15)),trivial⟩
def ef.Q (H0:Hp) (Ri R0:as2)  (r:Bool) (v:AV) (H':Hp):Prop:=v=(.bool r)/\Out H0 Ri H' (R0) λR=>True
def ef.p (F:Nat) (aa:Int) (aF:as5):Option (Bool):=(cO.p F aa aF).bind λr2=>some (!r2)
theorem ef.P {aa cj bD ck aF} (du:bD=aF.length) (h0:Inn H R0 λR=>ROs eI H R ⟨cj,bD,ck⟩ aF) {r:Bool} (hp:ef.p F aa aF=some r):Rt (ef.tw F aa ⟨cj,bD,ck⟩ H) (ef.Q H R0 R0  r):=by
 obtain ⟨w0,cq⟩:=h0
 subst du
 unfold ef.p at hp
 unfold ef.tw ef.twX
 have s0:=w0.rf
 refine aS w0 λH1 w1 s1=>?_
 refine lI w1 0 ?_
 refine lSl w1 0 ?_
 obtain ⟨r2,e2,hp⟩:=ag hp
 refine aE (cO.P rfl ⟨w1,(cq.step s1)⟩ e2) ?_
 rintro _ H3 ⟨rfl,w3,s3,_⟩
 refine br ?_
 obtain ⟨w4,s4⟩:=w3.pp [] 1
 exact az hp ⟨rfl,w4,(s0.trans (s1.trans (s3.trans s4))),trivial⟩
def bZ.Q (H0:Hp) (Ri R0:as2)  (r:Int) (v:AV) (H':Hp):Prop:=v=(.i r)/\Out H0 Ri H' (R0) λR=>True
def bZ.S13 (H0:Hp) (Ri R0:as2)  (C:atd) (pC:List (Int×List Int)->Int->Int->Option (Int)):Prop:=∀ {lD iT lE er de cv},∀ {H:Hp},iT=er.length->(Out H0 Ri H R0 λR=>ROs (ac eI (eSl eI)) H R ⟨lD,iT,lE⟩ er)->∀ {r:Int},pC er de cv=some r->Rt (C ⟨lD,iT,lE⟩ de cv H) (bZ.Q H0 Ri R0  r)
def bZ.pl13 (F:Nat) :Nat->List (Int×List Int)->Int->Int->Option (Int)
 | 0,_,_,_=>none
 | k+1,er,de,cv=>(bif (decide (cv<de)) then ((ix er cv).bind λn1=>(ef.p F ((gt er n1).1) ((gt er n1).2)).bind λr2=>(bif r2 then (some cv) else (bZ.pl13 F k er de (wrap .i64 (cv+1))))) else (some (-1)))
theorem bZ.l13_P  :∀ k,bZ.S13 H0 Ri R0  (bZ.l13 F (ef.tw F)  k) (bZ.pl13 F  k):=by
 intro k
 induction k with
 | zero=>unfold bZ.S13;intros;rename_i hp;cases hp
 | succ k ih=>
  intro lD iT lE er de cv H zi h0 r hp
  obtain ⟨w0,s0,oO⟩:=h0
  subst zi
  unfold bZ.pl13 at hp
  unfold bZ.l13
  refine ay hp (λhp=>?_) λhp=>?_
  ·obtain ⟨n1,g1,hp⟩:=ag hp
   obtain ⟨p1,q1,i1,h1,j1⟩:=ROs.ixr oO rfl g1
   refine ai i1 ?_
   obtain ⟨_,_,rfl,rfl,⟨⟨aos,m1_1,c1_1⟩,rfl,f1_1⟩⟩:=h1
   obtain rfl:m1_1=_:=f1_1.n
   refine ai (aG (j1 0 _ rfl)) ?_
   refine ai (iE (j1 1 _ rfl)) ?_
   obtain ⟨r2,e2,hp⟩:=ag hp
   refine aE (ef.P rfl ⟨w0,f1_1⟩ e2) ?_
   rintro _ H3 ⟨rfl,w3,s3,_⟩
   refine br ?_
   refine ay hp (λhp=>?_) λhp=>?_
   ·exact az hp ⟨rfl,w3,(s0.trans s3),trivial⟩
   ·exact ih rfl ⟨w3,(s0.trans s3),(oO.step s3)⟩ hp
  ·exact az hp ⟨rfl,w0,s0,trivial⟩
def bZ.p (F:Nat) (ah:atl):Option (Int):=bZ.pl13 F F ah (ah.length:Int) 0
theorem bZ.P {aB ak aC ah} (ba:ak=ah.length) (h0:Inn H R0 λR=>ROs (ac eI (eSl eI)) H R ⟨aB,ak,aC⟩ ah) {r:Int} (hp:bZ.p F ah=some r):Rt (bZ.tw F ⟨aB,ak,aC⟩ H) (bZ.Q H R0 R0  r):=by
 obtain ⟨w0,aO⟩:=h0
 subst ba
 unfold bZ.p at hp
 unfold bZ.tw bZ.twX
 have s0:=w0.rf
 exact bZ.l13_P F rfl ⟨w0,s0,aO⟩ hp
def eN.Q (H0:Hp) (Ri R0:as2)  (r:Bool) (v:AV) (H':Hp):Prop:=v=(.bool r)/\Out H0 Ri H' (R0) λR=>True
def eN.p (F:Nat) (ah:atl):Option (Bool):=(bZ.p F ah).bind λr1=>some (decide (r1>=0))
theorem eN.P {aB ak aC ah} (ba:ak=ah.length) (h0:Inn H R0 λR=>ROs (ac eI (eSl eI)) H R ⟨aB,ak,aC⟩ ah) {r:Bool} (hp:eN.p F ah=some r):Rt (eN.tw F ⟨aB,ak,aC⟩ H) (eN.Q H R0 R0  r):=by
 obtain ⟨w0,aO⟩:=h0
 subst ba
 unfold eN.p at hp
 unfold eN.tw eN.twX
 have s0:=w0.rf
 obtain ⟨r1,e1,hp⟩:=ag hp
 refine aE (bZ.P rfl ⟨w0,aO⟩ e1) ?_
 rintro _ H2 ⟨rfl,w2,s2,_⟩
 refine br ?_
 exact az hp ⟨rfl,w2,(s0.trans s2),trivial⟩
def cH.Q (H0:Hp) (Ri R0:as2)  (r:Bool) (v:AV) (H':Hp):Prop:=v=(.bool r)/\Out H0 Ri H' (R0) λR=>True
def cH.p (F:Nat) (ah:atl):Option (Bool):=(eN.p F ah).bind λr1=>some (!r1)
theorem cH.P {aB ak aC ah} (ba:ak=ah.length) (h0:Inn H R0 λR=>ROs (ac eI (eSl eI)) H R ⟨aB,ak,aC⟩ ah) {r:Bool} (hp:cH.p F ah=some r):Rt (cH.tw F ⟨aB,ak,aC⟩ H) (cH.Q H R0 R0  r):=by
 obtain ⟨w0,aO⟩:=h0
 subst ba
 unfold cH.p at hp
 unfold cH.tw cH.twX
 have s0:=w0.rf
 obtain ⟨r1,e1,hp⟩:=ag hp
 refine aE (eN.P rfl ⟨w0,aO⟩ e1) ?_
 rintro _ H2 ⟨rfl,w2,s2,_⟩
 refine br ?_
 exact az hp ⟨rfl,w2,(s0.trans s2),trivial⟩
def cI.Q (H0:Hp) (Ri R0:as2)  (r:atj) (v:AV) (H':Hp):Prop:=∃ o1a:ON,∃ o1n:Nat,∃ o1c:Cap,∃ o1k:List AV,v=(.tup [(.agg [(.i r.1),(.sl ⟨o1a,o1n,o1c⟩)]),(.i r.2.2)])/\o1n=(r.2.1).length/\Out H0 Ri H' (Rs.own ⟨o1a,o1n,o1c⟩ eI.z o1k::R0) λR=>CR eI H' R o1k (r.2.1)
def cI.p (F:Nat) (aa:Int) (aF:as5):Option (Int×List Int×Int):=(aV.p F aa aF).bind λr3=>(cO.p F r3.1 r3.2).bind λr8=>(bif (!r8) then (some (0,([]:List Int),3)) else (some (r3.1,r3.2,0)))
theorem cI.P {aa cj bD ck aF} (du:bD=aF.length) (h0:Inn H R0 λR=>ROs eI H R ⟨cj,bD,ck⟩ aF) {r:atj} (hp:cI.p F aa aF=some r):Rt (cI.tw F aa ⟨cj,bD,ck⟩ H) (cI.Q H R0 R0  r):=by
 obtain ⟨w0,cq⟩:=h0
 subst du
 unfold cI.p at hp
 unfold cI.tw cI.twX
 have s0:=w0.rf
 refine aS w0 λH1 w1 s1=>?_
 refine aS w1 λH2 w2 s2=>?_
 refine lI w2 1 ?_
 refine lSl w2 1 ?_
 obtain ⟨r3,e3,hp⟩:=ag hp
 refine aE (aV.P rfl ⟨w2,(cq.step (s1.trans s2))⟩ e3) ?_
 rintro _ H4 ⟨o1a_4,o1n_4,o1c_4,o1k_4,rfl,rfl,w4,s4,f4_0⟩
 refine br (br (br (br (br ?_))))
 refine aq w4 2 λH5 w5 s5=>?_
 refine aq w5 2 λH6 w6 s6=>?_
 refine lI w6 2 ?_
 refine lSl w6 2 ?_
 have f7:=W.borrow1 eI w6 (f4_0.step (s5.trans s6))
 obtain ⟨w7,s7⟩:=w6.right1
 obtain ⟨r8,e8,hp⟩:=ag hp
 refine aE (cO.P rfl ⟨w7,f7⟩ e8) ?_
 rintro _ H9 ⟨rfl,w9,s9,_⟩
 obtain ⟨w10,s10⟩:=W.frame1 w6 w9 s9
 refine br ?_
 refine ay hp (λhp=>?_) λhp=>?_
 ·refine aq w10 1 λH11 w11 s11=>?_
  refine aq w11 1 λH12 w12 s12=>?_
  refine lI w12 1 ?_
  refine lSl w12 1 ?_
  obtain ⟨w13,s13⟩:=w12.nilS eI.z (by decide)
  obtain ⟨w14,s14⟩:=w13.pp [0] 4
  exact az hp ⟨_,_,_,_,rfl,rfl,w14,(s0.trans (s1.trans (s2.trans (s4.trans (s5.trans (s6.trans (s10.trans (s11.trans (s12.trans (s13.trans s14)))))))))),((CR.empty:CR eI _ _ [] []).step s14)⟩
 ·refine lI w10 2 ?_
  refine lSl w10 2 ?_
  refine aq w10 1 λH15 w15 s15=>?_
  refine aq w15 1 λH16 w16 s16=>?_
  refine lI w16 1 ?_
  refine lSl w16 1 ?_
  obtain ⟨w17,s17⟩:=w16.pp [0] 3
  exact az hp ⟨_,_,_,_,rfl,rfl,w17,(s0.trans (s1.trans (s2.trans (s4.trans (s5.trans (s6.trans (s10.trans (s15.trans (s16.trans s17))))))))),(f4_0.step (s5.trans (s6.trans (s10.trans (s15.trans (s16.trans s17))))))⟩
def aN.Q (H0:Hp) (Ri R0:as2)  (r:atj) (v:AV) (H':Hp):Prop:=∃ o1a:ON,∃ o1n:Nat,∃ o1c:Cap,∃ o1k:List AV,v=(.tup [(.agg [(.i r.1),(.sl ⟨o1a,o1n,o1c⟩)]),(.i r.2.2)])/\o1n=(r.2.1).length/\Out H0 Ri H' (Rs.own ⟨o1a,o1n,o1c⟩ eI.z o1k::R0) λR=>CR eI H' R o1k (r.2.1)
def aN.S125 (H0:Hp) (Ri R0:as2)  (C:atI) (pC:atP):Prop:=∀ {acw mT wy kJ ju QB QC QD FQ oe FR og FS QE QF QG QH rx QI QJ QK mn},∀ {H:Hp},FQ=QH.length->FR=rx.length->FS=mn.length->(Out H0 Ri H (Rs.own ⟨QB,FQ,QE⟩ eI.z QI::Rs.blk oe [.i acw,.sl ⟨QB,FQ,QE⟩]::Rs.own ⟨QC,FR,QF⟩ eI.z QJ::Rs.blk og [.i wy,.sl ⟨QC,FR,QF⟩]::Rs.own ⟨QD,FS,QG⟩ (ac eI (eSl eI)).z QK::R0) λR=>CR eI H R QI QH/\CR eI H R QJ rx/\CR (ac eI (eSl eI)) H R QK mn)->∀ {r:atj},pC mT wy rx mn kJ ju=some r->Rt (C oe 0 mT og 0 ⟨QD,FS,QG⟩ kJ ju H) (aN.Q H0 Ri R0  r)
def aN.S8027 (H0:Hp) (Ri R0:as2)  (C:Nat->Nat->Int->Nat->Nat->Sl->Int->Int->Nat->Nat->Sl->Int->Int->Hp->OA) (pC:Int->Int->List Int->List (Int×List Int)->Int->Int->Int->List Int->Int->Int->Option (Int×List Int×Int)):Prop:=∀ {acx il wz kG kH ry kI gF QL QM QN FT FU oc FV mS FW zG od QO QP QQ FX QR mo o_ QT QU QV rz},∀ {H:Hp},FU=QR.length->FV=mo.length->FW=rz.length->zG=o_.length->(Out H0 Ri H (Rs.own ⟨QL,FU,QO⟩ eI.z QT::Rs.blk oc [.i acx,.sl ⟨QL,FU,QO⟩]::Rs.own ⟨QM,FV,QP⟩ eI.z QU::Rs.blk mS [.i wz,.sl ⟨QM,FV,QP⟩]::Rs.own ⟨QN,FW,QQ⟩ (ac eI (eSl eI)).z QV::Rs.blk od [.i ry,.sl ⟨FT,zG,FX⟩]::R0) λR=>CR eI H R QT QR/\CR eI H R QU mo/\CR (ac eI (eSl eI)) H R QV rz/\ROs eI H R ⟨FT,zG,FX⟩ o_)->∀ {r:atj},pC il wz mo rz kG kH ry o_ kI gF=some r->Rt (C oc 0 il mS 0 ⟨QN,FW,QQ⟩ kG kH od 0 ⟨FT,zG,FX⟩ kI gF H) (aN.Q H0 Ri R0  r)
def aN.pj4 (F:Nat) (bt:atP) (lZ:Int) (FY:Int) (zH:as5) (zI:atl) (uG:Int) (uH:Int):Option (Int×List Int×Int):=bt lZ FY zH zI uG (wrap .i64 (uH+1))
theorem aN.j4_P  {C125_:atI} {bt:atP} (hC125:aN.S125 H0 Ri R0  C125_ bt) {aot lZ FY uG uH acy acz acA QW BV QX BW QY acB acC acD acE zH acF acG acH zI} (aou:QW=acE.length) (aov:QX=zH.length) (aow:QY=zI.length) (h0:Out H0 Ri H (Rs.own ⟨acy,QW,acB⟩ eI.z acF::Rs.blk BV [.i aot,.sl ⟨acy,QW,acB⟩]::Rs.own ⟨acz,QX,acC⟩ eI.z acG::Rs.blk BW [.i FY,.sl ⟨acz,QX,acC⟩]::Rs.own ⟨acA,QY,acD⟩ (ac eI (eSl eI)).z acH::R0) λR=>CR eI H R acF acE/\CR eI H R acG zH/\CR (ac eI (eSl eI)) H R acH zI) {r:atj} (hp:aN.pj4 F bt lZ FY zH zI uG uH=some r):Rt (aN.j4 F (cH.tw F) (cN.tw F) (cI.tw F) C125_ BV 0 lZ BW 0 ⟨acA,QY,acD⟩ uG uH H) (aN.Q H0 Ri R0  r):=by
 obtain ⟨w0,s0,aox,aoy,aoz⟩:=h0
 subst aou
 subst aov
 subst aow
 unfold aN.pj4 at hp
 unfold aN.j4
 exact hC125 rfl rfl rfl ⟨w0,s0,aox,aoy,aoz⟩ hp
def aN.pj5 (F:Nat) (bt:atP) (uI:Int) (FZ:Int) (zJ:as5) (zK:atl) (uJ:Int) (uK:Int):Option (Int×List Int×Int):=aN.pj4 F bt uI FZ zJ zK uJ uK
theorem aN.j5_P  {C125_:atI} {bt:atP} (hC125:aN.S125 H0 Ri R0  C125_ bt) {aoA uI FZ uJ uK acI acJ acK QZ BX Q_ BY Ra acL acM acN acO zJ acP acQ acR zK} (aoB:QZ=acO.length) (aoC:Q_=zJ.length) (aoD:Ra=zK.length) (h0:Out H0 Ri H (Rs.own ⟨acI,QZ,acL⟩ eI.z acP::Rs.blk BX [.i aoA,.sl ⟨acI,QZ,acL⟩]::Rs.own ⟨acJ,Q_,acM⟩ eI.z acQ::Rs.blk BY [.i FZ,.sl ⟨acJ,Q_,acM⟩]::Rs.own ⟨acK,Ra,acN⟩ (ac eI (eSl eI)).z acR::R0) λR=>CR eI H R acP acO/\CR eI H R acQ zJ/\CR (ac eI (eSl eI)) H R acR zK) {r:atj} (hp:aN.pj5 F bt uI FZ zJ zK uJ uK=some r):Rt (aN.j5 F (cH.tw F) (cN.tw F) (cI.tw F) C125_ BX 0 uI BY 0 ⟨acK,Ra,acN⟩ uJ uK H) (aN.Q H0 Ri R0  r):=by
 obtain ⟨w0,s0,aoE,aoF,aoG⟩:=h0
 subst aoB
 subst aoC
 subst aoD
 unfold aN.pj5 at hp
 unfold aN.j5
 exact aN.j4_P (@hC125) rfl rfl rfl ⟨w0,s0,aoE,aoF,aoG⟩ hp
def aN.pl8027 (F:Nat) (bt:atP):Nat->Int->Int->List Int->List (Int×List Int)->Int->Int->Int->List Int->Int->Int->Option (Int×List Int×Int)
 | 0,_,_,_,_,_,_,_,_,_,_=>none
 | k+1,il,wz,mo,rz,kG,kH,ry,o_,kI,gF=>(bif (decide (gF<kI)) then ((ix o_ gF).bind λn1=>(ix mo (wrap .i64 ((wrap .i64 (ry - il))+gF))).bind λn2=>(ix mo (wrap .i64 ((wrap .i64 (ry - il))+gF))).bind λn3=>(some (mo.set n3 (wrap .i64 ((gt mo n2)+(gt o_ n1))))).bind λl4=>aN.pl8027 F bt k il wz l4 rz kG kH ry o_ kI (wrap .i64 (gF+1))) else (aN.pj5 F bt il wz mo rz kG kH))
theorem aN.l8027_P  {C125_:atI} {bt:atP} (hC125:aN.S125 H0 Ri R0  C125_ bt):∀ k,aN.S8027 H0 Ri R0  (aN.l8027 F (cH.tw F) (cN.tw F) (cI.tw F) C125_ k) (aN.pl8027 F bt k):=by
 intro k
 induction k with
 | zero=>unfold aN.S8027;intros;rename_i hp;cases hp
 | succ k ih=>
  intro acx il wz kG kH ry kI gF QL QM QN FT FU oc FV mS FW zG od QO QP QQ FX QR mo o_ QT QU QV rz H aoH aoI aoJ aoK h0 r hp
  obtain ⟨w0,s0,acS,F_,acT,acU⟩:=h0
  subst aoH
  subst aoI
  subst aoJ
  subst aoK
  unfold aN.pl8027 at hp
  unfold aN.l8027
  refine ay hp (λhp=>?_) λhp=>?_
  ·obtain ⟨n1,g1,hp⟩:=ag hp
   obtain ⟨p1,q1,i1,h1,j1⟩:=ROs.ixr acU rfl g1
   refine ai i1 ?_
   have h1:_=[_]:=h1
   subst h1
   refine ai (aG (j1 0 _ rfl)) ?_
   refine lSl w0 3 ?_
   refine lI w0 5 ?_
   obtain ⟨n2,g2,hp⟩:=ag hp
   obtain ⟨p2,q2,i2,h2,j2⟩:=W.ixo (E:=eI) w0 (i:=2) rfl rfl F_ g2
   refine ai i2 ?_
   have h2:_=[_]:=h2
   subst h2
   refine ai (aG (j2 0 _ rfl)) ?_
   obtain ⟨n3,g3,hp⟩:=ag hp
   obtain ⟨p3,q3,i3,h3,j3⟩:=W.ixo (E:=eI) w0 (i:=2) rfl rfl F_ g3
   refine ai i3 ?_
   obtain ⟨l4,e4,hp⟩:=ag hp
   refine dC eI w0 (i:=2) (j:=0) (p:=p3) rfl rfl F_ g3 i3 e4 rfl rfl (λ_ h=>by have h:_=[_]:=h;subst h;exact rfl) λH5 k5 w5 s5 c5=>?_
   exact ih rfl ((cz e4).symm) rfl rfl ⟨w5,(s0.trans s5),(acS.step s5),c5,(acT.step s5),(acU.step s5)⟩ hp
  ·obtain ⟨w6,s6⟩:=w0.pp [0,1,2,3,4] 6
   exact aN.j5_P (@hC125) rfl rfl rfl ⟨w6,(s0.trans s6),(acS.step s6),(F_.step s6),(acT.step s6)⟩ hp
def aN.pj3 (F:Nat)  (Ga:Int) (zL:as5):Option (Int×List Int×Int):=(cI.p F Ga zL).bind λr3=>some (r3.1,r3.2.1,r3.2.2)
theorem aN.j3_P   {aoL Ga acV acW Rc pM Rd xn acX acY acZ zL ac0 ac1} (aoM:Rc=acZ.length) (aoN:Rd=zL.length) (h0:Out H0 Ri H (Rs.own ⟨acV,Rc,acX⟩ eI.z ac0::Rs.blk pM [.i aoL,.sl ⟨acV,Rc,acX⟩]::Rs.own ⟨acW,Rd,acY⟩ eI.z ac1::Rs.blk xn [.i Ga,.sl ⟨acW,Rd,acY⟩]::R0) λR=>CR eI H R ac0 acZ/\CR eI H R ac1 zL) {r:atj} (hp:aN.pj3 F  Ga zL=some r):Rt (aN.j3 F (cH.tw F) (cN.tw F) (cI.tw F)  pM 0 xn 0 H) (aN.Q H0 Ri R0  r):=by
 obtain ⟨w0,s0,asz,aoO⟩:=h0
 subst aoM
 subst aoN
 unfold aN.pj3 at hp
 unfold aN.j3
 refine lI w0 3 ?_
 refine lSl w0 3 ?_
 obtain ⟨w1,s1⟩:=w0.pp [2,0,1,3] 4
 have f2:=W.borrow1 eI w1 (aoO.step s1)
 obtain ⟨w2,s2⟩:=w1.right1
 obtain ⟨r3,e3,hp⟩:=ag hp
 refine aE (cI.P rfl ⟨w2,f2⟩ e3) ?_
 rintro _ H4 ⟨o1a_4,o1n_4,o1c_4,o1k_4,rfl,rfl,w4,s4,f4_0⟩
 obtain ⟨w5,s5⟩:=W.frame1 w1 w4 s4
 refine br (br (br (br (br (br (br (br (br ?_))))))))
 refine aq w5 3 λH6 w6 s6=>?_
 refine aq w6 3 λH7 w7 s7=>?_
 refine lI w7 3 ?_
 refine lSl w7 3 ?_
 obtain ⟨w8,s8⟩:=w7.pp [1] 5
 exact az hp ⟨_,_,_,_,rfl,rfl,w8,(s0.trans (s1.trans (s5.trans (s6.trans (s7.trans s8))))),((CR.flat (fA .i64) f4_0).step (s6.trans (s7.trans s8)))⟩
def aN.pl125 (F:Nat) :Nat->Int->Int->List Int->List (Int×List Int)->Int->Int->Option (Int×List Int×Int)
 | 0,_,_,_,_,_,_=>none
 | k+1,mT,wy,rx,mn,kJ,ju=>(bif (decide (ju<kJ)) then ((ix mn ju).bind λn1=>aN.pl8027 F (aN.pl125 F k) F mT wy rx mn kJ ju ((gt mn n1).1) ((gt mn n1).2) ((((gt mn n1).2).length):Int) 0) else (aN.pj3 F wy rx))
theorem aN.l125_P  :∀ k,aN.S125 H0 Ri R0  (aN.l125 F (cH.tw F) (cN.tw F) (cI.tw F)  k) (aN.pl125 F  k):=by
 intro k
 induction k with
 | zero=>unfold aN.S125;intros;rename_i hp;cases hp
 | succ k ih=>
  intro acw mT wy kJ ju QB QC QD FQ oe FR og FS QE QF QG QH rx QI QJ QK mn H aoP aoQ aoR h0 r hp
  obtain ⟨w0,s0,ac2,ac3,ac4⟩:=h0
  subst aoP
  subst aoQ
  subst aoR
  unfold aN.pl125 at hp
  unfold aN.l125
  refine ay hp (λhp=>?_) λhp=>?_
  ·obtain ⟨n1,g1,hp⟩:=ag hp
   obtain ⟨p1,q1,i1,h1,j1⟩:=W.ixo (E:=(ac eI (eSl eI))) w0 (i:=4) rfl rfl ac4 g1
   refine ai i1 ?_
   obtain ⟨_,_,rfl,rfl,⟨⟨aos,m1_1,c1_1⟩,rfl,f1_1⟩⟩:=h1
   obtain rfl:m1_1=_:=f1_1.n
   refine ai (aG (j1 0 _ rfl)) ?_
   refine ai (iE (j1 1 _ rfl)) ?_
   refine aS w0 λH2 w2 s2=>?_
   refine aq w2 0 λH3 w3 s3=>?_
   refine aq w3 0 λH4 w4 s4=>?_
   refine lSl w4 0 ?_
   obtain ⟨w5,s5⟩:=w4.pp [1,2,3,4,5,0] 6
   exact aN.l8027_P (@ih) F rfl rfl rfl rfl ⟨w5,(s0.trans (s2.trans (s3.trans (s4.trans s5)))),(ac2.step (s2.trans (s3.trans (s4.trans s5)))),(ac3.step (s2.trans (s3.trans (s4.trans s5)))),(ac4.step (s2.trans (s3.trans (s4.trans s5)))),(f1_1.step (s2.trans (s3.trans (s4.trans s5))))⟩ hp
  ·obtain ⟨w6,s6⟩:=w0.pp [0,1,2,3] 5
   exact aN.j3_P rfl rfl ⟨w6,(s0.trans s6),(ac2.step s6),(ac3.step s6)⟩ hp
def aN.p (F:Nat) (aa:Int) (aF:as5) (au:Int) (bz:as5):Option (Int×List Int×Int):=(cH.p F ([(aa,aF),(au,bz)]:List (Int×List Int))).bind λr6=>(bif (!r6) then (some (0,([]:List Int),1)) else ((cN.p F aa aF).bind λr13=>(cN.p F au bz).bind λr16=>(mkn (wrap .i64 ((wrap .i64 ((if (if au<aa then au else aa)>(if r16>r13 then r16 else r13) then (if au<aa then au else aa) else (if r16>r13 then r16 else r13)) - (if au<aa then au else aa)))+1)) (0:Int)).bind λl19=>aN.pl125 F F (if au<aa then au else aa) (if au<aa then au else aa) l19 ([(aa,aF),(au,bz)]:List (Int×List Int)) (2:Int) 0))
theorem aN.P {aa au cj eu bD dg ck ev aF bz} (du:bD=aF.length) (gM:dg=bz.length) (h0:Inn H R0 λR=>ROs eI H R ⟨cj,bD,ck⟩ aF/\ROs eI H R ⟨eu,dg,ev⟩ bz) {r:atj} (hp:aN.p F aa aF au bz=some r):Rt (aN.tw F aa ⟨cj,bD,ck⟩ au ⟨eu,dg,ev⟩ H) (aN.Q H R0 R0  r):=by
 obtain ⟨w0,cq,fc⟩:=h0
 subst du
 subst gM
 unfold aN.p at hp
 unfold aN.tw aN.twX
 have s0:=w0.rf
 refine aS w0 λH1 w1 s1=>?_
 refine aS w1 λH2 w2 s2=>?_
 refine aS w2 λH3 w3 s3=>?_
 refine lI w3 2 ?_
 refine lSl w3 2 ?_
 refine lI w3 1 ?_
 refine lSl w3 1 ?_
 refine cK (ac eI (eSl eI)) w3 (n:=2) (l:=([(aa,aF),(au,bz)]:List (Int×List Int))) rfl (CR.cons (c:=[_,_]) ⟨[_],_,rfl,rfl,⟨_,rfl,(cq.step (s1.trans (s2.trans s3)))⟩⟩ (CR.cons (c:=[_,_]) ⟨[_],_,rfl,rfl,⟨_,rfl,(fc.step (s1.trans (s2.trans s3)))⟩⟩ CR.empty)) rfl λH4 w4 s4 c4=>?_
 have f5:=W.borrow1 (ac eI (eSl eI)) w4 c4
 obtain ⟨w5,s5⟩:=w4.right1
 obtain ⟨r6,e6,hp⟩:=ag hp
 refine aE (cH.P (show 2=List.length ([(aa,aF),(au,bz)]:List (Int×List Int)) from rfl) ⟨w5,f5⟩ e6) ?_
 rintro _ H7 ⟨rfl,w7,s7,_⟩
 obtain ⟨w8,s8⟩:=W.frame1 w4 w7 s7
 refine br ?_
 refine ay hp (λhp=>?_) λhp=>?_
 ·refine aq w8 1 λH9 w9 s9=>?_
  refine aq w9 1 λH10 w10 s10=>?_
  refine lI w10 1 ?_
  refine lSl w10 1 ?_
  obtain ⟨w11,s11⟩:=w10.nilS eI.z (by decide)
  obtain ⟨w12,s12⟩:=w11.pp [0] 5
  exact az hp ⟨_,_,_,_,rfl,rfl,w12,(s0.trans (s1.trans (s2.trans (s3.trans (s4.trans (s8.trans (s9.trans (s10.trans (s11.trans s12))))))))),((CR.empty:CR eI _ _ [] []).step s12)⟩
 ·refine lI w8 3 ?_
  refine lI w8 2 ?_
  refine lI w8 3 ?_
  refine lSl w8 3 ?_
  obtain ⟨r13,e13,hp⟩:=ag hp
  refine aE (cN.P rfl ⟨w8,(cq.step (s1.trans (s2.trans (s3.trans (s4.trans s8)))))⟩ e13) ?_
  rintro _ H14 ⟨rfl,w14,s14,_⟩
  refine br ?_
  refine eK (W.cons_of (Rn:=[]) w8 w14 s14) ?_
  refine lI w14 2 ?_
  refine lSl w14 2 ?_
  obtain ⟨r16,e16,hp⟩:=ag hp
  refine aE (cN.P rfl ⟨w14,(fc.step (s1.trans (s2.trans (s3.trans (s4.trans (s8.trans s14))))))⟩ e16) ?_
  rintro _ H17 ⟨rfl,w17,s17,_⟩
  refine br ?_
  refine eK (W.cons_of (Rn:=[]) w14 w17 s17) ?_
  obtain ⟨l19,e19,hp⟩:=ag hp
  refine ka eI (0:Int) w17 rfl rfl rfl e19 λH20 k20 w20 s20 c20=>?_
  refine aS w20 λH21 w21 s21=>?_
  refine aq w21 0 λH22 w22 s22=>?_
  refine aq w22 0 λH23 w23 s23=>?_
  refine lI w23 5 ?_
  refine lSl w23 5 ?_
  refine lI w23 4 ?_
  refine lSl w23 4 ?_
  refine cK (ac eI (eSl eI)) w23 (n:=2) (l:=([(aa,aF),(au,bz)]:List (Int×List Int))) rfl (CR.cons (c:=[_,_]) ⟨[_],_,rfl,rfl,⟨_,rfl,(cq.step (s1.trans (s2.trans (s3.trans (s4.trans (s8.trans (s14.trans (s17.trans (s20.trans (s21.trans (s22.trans s23)))))))))))⟩⟩ (CR.cons (c:=[_,_]) ⟨[_],_,rfl,rfl,⟨_,rfl,(fc.step (s1.trans (s2.trans (s3.trans (s4.trans (s8.trans (s14.trans (s17.trans (s20.trans (s21.trans (s22.trans s23)))))))))))⟩⟩ CR.empty)) rfl λH24 w24 s24 c24=>?_
  obtain ⟨w25,s25⟩:=w24.nilS eI.z (by decide)
  obtain ⟨w26,s26⟩:=w25.pp [0,5,3,2,1] 8
  exact aN.l125_P F rfl rfl (show 2=List.length ([(aa,aF),(au,bz)]:List (Int×List Int)) from rfl) ⟨w26,(s0.trans (s1.trans (s2.trans (s3.trans (s4.trans (s8.trans (s14.trans (s17.trans (s20.trans (s21.trans (s22.trans (s23.trans (s24.trans (s25.trans s26)))))))))))))),((CR.empty:CR eI _ _ [] []).step s26),(c20.step (s21.trans (s22.trans (s23.trans (s24.trans (s25.trans s26)))))),(c24.step (s25.trans s26))⟩ hp
def cp.Q (H0:Hp) (Ri R0:as2)  (r:as8) (v:AV) (H':Hp):Prop:=∃ o1a:ON,∃ o1n:Nat,∃ o1c:Cap,∃ o1k:List AV,v=(.agg [(.i r.1),(.sl ⟨o1a,o1n,o1c⟩)])/\o1n=(r.2).length/\Out H0 Ri H' (Rs.own ⟨o1a,o1n,o1c⟩ eI.z o1k::R0) λR=>CR eI H' R o1k (r.2)
def cp.p (F:Nat) (aa:Int) (aF:as5) (au:Int) (bz:as5):Option (Int×List Int):=(aN.p F aa aF au bz).bind λr4=>some (r4.1,r4.2.1)
theorem cp.P {aa au cj eu bD dg ck ev aF bz} (du:bD=aF.length) (gM:dg=bz.length) (h0:Inn H R0 λR=>ROs eI H R ⟨cj,bD,ck⟩ aF/\ROs eI H R ⟨eu,dg,ev⟩ bz) {r:as8} (hp:cp.p F aa aF au bz=some r):Rt (cp.tw F aa ⟨cj,bD,ck⟩ au ⟨eu,dg,ev⟩ H) (cp.Q H R0 R0  r):=by
 obtain ⟨w0,cq,fc⟩:=h0
 subst du
 subst gM
 unfold cp.p at hp
 unfold cp.tw cp.twX
 have s0:=w0.rf
 refine aS w0 λH1 w1 s1=>?_
 refine aS w1 λH2 w2 s2=>?_
 refine aS w2 λH3 w3 s3=>?_
 refine lI w3 2 ?_
 refine lSl w3 2 ?_
 refine lI w3 1 ?_
 refine lSl w3 1 ?_
 obtain ⟨r4,e4,hp⟩:=ag hp
 refine aE (aN.P rfl rfl ⟨w3,(cq.step (s1.trans (s2.trans s3))),(fc.step (s1.trans (s2.trans s3)))⟩ e4) ?_
 rintro _ H5 ⟨o1a_5,o1n_5,o1c_5,o1k_5,rfl,rfl,w5,s5,f5_0⟩
 refine br (br (br (br (br (br (br (br (br ?_))))))))
 refine aS w5 λH6 w6 s6=>?_
 refine aq w6 0 λH7 w7 s7=>?_
 refine aq w7 0 λH8 w8 s8=>?_
 refine lI w8 0 ?_
 refine lSl w8 0 ?_
 refine aq w8 2 λH9 w9 s9=>?_
 refine aq w9 2 λH10 w10 s10=>?_
 refine lI w10 2 ?_
 refine lSl w10 2 ?_
 obtain ⟨w11,s11⟩:=w10.pp [1] 5
 exact az hp ⟨_,_,_,_,rfl,rfl,w11,(s0.trans (s1.trans (s2.trans (s3.trans (s5.trans (s6.trans (s7.trans (s8.trans (s9.trans (s10.trans s11)))))))))),(f5_0.step (s6.trans (s7.trans (s8.trans (s9.trans (s10.trans s11))))))⟩
def eg.Q (H0:Hp) (Ri R0:as2)  (r:Int) (v:AV) (H':Hp):Prop:=v=(.i r)/\Out H0 Ri H' (R0) λR=>True
def eg.p (F:Nat) (aa:Int):Option (Int):=(bif (decide (aa<0)) then (some (-1)) else (some 1))
theorem eg.P {aa}  (h0:Inn H R0 λR=>True) {r:Int} (hp:eg.p F aa=some r):Rt (eg.tw F aa H) (eg.Q H R0 R0  r):=by
 obtain ⟨w0,_⟩:=h0
 unfold eg.p at hp
 unfold eg.tw eg.twX
 have s0:=w0.rf
 refine ay hp (λhp=>?_) λhp=>?_
 ·exact az hp ⟨rfl,w0,s0,trivial⟩
 ·exact az hp ⟨rfl,w0,s0,trivial⟩
end
end Go.Proofs.Ytppbogklbhfboaa.AE
