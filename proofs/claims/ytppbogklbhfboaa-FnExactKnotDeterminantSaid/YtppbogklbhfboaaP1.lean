import Derived.Test.YtppbogklbhfboaaT1
import Derived.Test.YtppbogklbhfboaaE2
set_option linter.unusedVariables false
set_option linter.unusedSimpArgs false
namespace Go.Proofs.Ytppbogklbhfboaa.AE
open Go Go.AE Go.Proofs IntKind
set_option linter.unusedVariables false
variable {F:Nat} {H H0:Hp} {Ri R0:as3}
set_option maxHeartbeats 4000000
set_option maxRecDepth 100000
noncomputable section
def fo.Q (H0:Hp) (Ri R0:as3)  (r:Int) (v:AV) (H':Hp):Prop:=v=(.i r)/\Out H0 Ri H' (R0) λR=>True
def fo.p (F:Nat) (ah:atb) (aA:Int):Option (Int):=(bif (decide ((wrap .i64 (aA - (ah.length:Int)))<0)) then (some (-1)) else (some (wrap .i64 (aA - (ah.length:Int)))))
theorem fo.P {aB ak aC ah aA} (ba:ak=ah.length) (h0:Inn H R0 λR=>ROs (ac eI (ac eI (ac eI (ac eI eI)))) H R ⟨aB,ak,aC⟩ ah) {r:Int} (hp:fo.p F ah aA=some r):Rt (fo.tw F ⟨aB,ak,aC⟩ aA H) (fo.Q H R0 R0  r):=by
 obtain ⟨w0,aO⟩:=h0
 subst ba
 unfold fo.p at hp
 unfold fo.tw fo.twX
 have s0:=w0.rf
 refine ay hp (λhp=>?_) λhp=>?_
 ·exact az hp ⟨rfl,w0,s0,trivial⟩
 ·exact az hp ⟨rfl,w0,s0,trivial⟩
def dZ.Q (H0:Hp) (Ri R0:as3)  (r:Int) (v:AV) (H':Hp):Prop:=v=(.i r)/\Out H0 Ri H' (R0) λR=>True
def dZ.p (F:Nat) (ah:atb) (au:Int):Option (Int):=(fo.p F ah au).bind λr2=>(bif (decide (r2<0)) then (some (-1)) else (some r2))
theorem dZ.P {aB ak aC ah af au} (ba:ak=ah.length) (h0:Inn H R0 λR=>ROs (ac eI (ac eI (ac eI (ac eI eI)))) H R ⟨aB,ak,aC⟩ ah) {r:Int} (hp:dZ.p F ah au=some r):Rt (dZ.tw F ⟨aB,ak,aC⟩ af au H) (dZ.Q H R0 R0  r):=by
 obtain ⟨w0,aO⟩:=h0
 subst ba
 unfold dZ.p at hp
 unfold dZ.tw dZ.twX
 have s0:=w0.rf
 refine aS w0 λH1 w1 s1=>?_
 refine lSl w1 0 ?_
 obtain ⟨r2,e2,hp⟩:=ag hp
 refine aE (fo.P rfl ⟨w1,(aO.step s1)⟩ e2) ?_
 rintro _ H3 ⟨rfl,w3,s3,_⟩
 refine br ?_
 refine ay hp (λhp=>?_) λhp=>?_
 ·obtain ⟨w4,s4⟩:=w3.pp [] 1
  exact az hp ⟨rfl,w4,(s0.trans (s1.trans (s3.trans s4))),trivial⟩
 ·obtain ⟨w5,s5⟩:=w3.pp [] 1
  exact az hp ⟨rfl,w5,(s0.trans (s1.trans (s3.trans s5))),trivial⟩
def fg.Q (H0:Hp) (Ri R0:as3)  (r:auk) (v:AV) (H':Hp):Prop:=v=(.agg [(.i r.1),(.i r.2.1),(.i r.2.2.1),(.i r.2.2.2.1),(.i r.2.2.2.2)])/\Out H0 Ri H' (R0) λR=>True
def fg.p (F:Nat) (aa:Int) (af:Int) (bV:Int) (bW:Int) (bQ:Int):Option (Int×Int×Int×Int×Int):=some (aa,af,bV,bW,bQ)
theorem fg.P {aa af bV bW bQ}  (h0:Inn H R0 λR=>True) {r:auk} (hp:fg.p F aa af bV bW bQ=some r):Rt (fg.tw F aa af bV bW bQ H) (fg.Q H R0 R0  r):=by
 obtain ⟨w0,_⟩:=h0
 unfold fg.p at hp
 unfold fg.tw fg.twX
 have s0:=w0.rf
 refine aS w0 λH1 w1 s1=>?_
 refine aS w1 λH2 w2 s2=>?_
 refine aS w2 λH3 w3 s3=>?_
 refine lI w3 2 ?_
 refine aq w3 0 λH4 w4 s4=>?_
 refine lI w4 2 ?_
 refine aq w4 0 λH5 w5 s5=>?_
 refine lI w5 2 ?_
 refine aq w5 0 λH6 w6 s6=>?_
 refine lI w6 2 ?_
 refine aq w6 0 λH7 w7 s7=>?_
 refine lI w7 2 ?_
 refine aq w7 0 λH8 w8 s8=>?_
 refine lI w8 0 ?_
 refine lI w8 0 ?_
 refine lI w8 0 ?_
 refine lI w8 0 ?_
 refine lI w8 0 ?_
 refine aq w8 1 λH9 w9 s9=>?_
 refine aq w9 1 λH10 w10 s10=>?_
 refine aq w10 1 λH11 w11 s11=>?_
 refine aq w11 1 λH12 w12 s12=>?_
 dsimp only [pk,pks,nth,List.drop,List.set,List.eraseIdx] at w12 s4 s5 s6 s7 s8 s9 s10 s11 s12
 refine aq w12 1 λH13 w13 s13=>?_
 refine lI w13 1 ?_
 refine lI w13 1 ?_
 refine lI w13 1 ?_
 refine lI w13 1 ?_
 refine lI w13 1 ?_
 obtain ⟨w14,s14⟩:=w13.pp [] 3
 exact az hp ⟨rfl,w14,(s0.trans (s1.trans (s2.trans (s3.trans (s4.trans (s5.trans (s6.trans (s7.trans (s8.trans (s9.trans (s10.trans (s11.trans (s12.trans (s13.trans s14)))))))))))))),trivial⟩
def b_.Q (H0:Hp) (Ri R0:as3)  (r:(List (Int×Int×Int×Int×Int))) (v:AV) (H':Hp):Prop:=∃ o0a:ON,∃ o0n:Nat,∃ o0c:Cap,∃ o0k:List AV,v=(.sl ⟨o0a,o0n,o0c⟩)/\o0n=(r).length/\Out H0 Ri H' (Rs.own ⟨o0a,o0n,o0c⟩ (ac eI (ac eI (ac eI (ac eI eI)))).z o0k::R0) λR=>CR (ac eI (ac eI (ac eI (ac eI eI)))) H' R o0k (r)
def b_.S29 (H0:Hp) (Ri R0:as3)  (C:Sl->Sl->Int->Hp->OA) (pC:List (Int×Int×Int×Int×Int)->List (Int×Int×Int×Int×Int)->Int->Option ((List (Int×Int×Int×Int×Int)))):Prop:=∀ {pR HJ mX CW pT HK er jP HL ez},∀ {H:Hp},mX=er.length->CW=jP.length->(Out H0 Ri H (Rs.own ⟨HJ,CW,HK⟩ (ac eI (ac eI (ac eI (ac eI eI)))).z HL::R0) λR=>ROs (ac eI (ac eI (ac eI (ac eI eI)))) H R ⟨pR,mX,pT⟩ er/\CR (ac eI (ac eI (ac eI (ac eI eI)))) H R HL jP)->∀ {r:(List (Int×Int×Int×Int×Int))},pC er jP ez=some r->Rt (C ⟨pR,mX,pT⟩ ⟨HJ,CW,HK⟩ ez H) (b_.Q H0 Ri R0  r)
def b_.pl29 (F:Nat) :Nat->List (Int×Int×Int×Int×Int)->List (Int×Int×Int×Int×Int)->Int->Option ((List (Int×Int×Int×Int×Int)))
 | 0,_,_,_=>none
 | k+1,er,jP,ez=>(bif (decide (ez<(er.length:Int))) then ((ix er ez).bind λn1=>(fg.p F ((gt er n1).1) ((gt er n1).2.1) ((gt er n1).2.2.1) ((gt er n1).2.2.2.1) ((gt er n1).2.2.2.2)).bind λr2=>(ix jP ez).bind λn4=>(some (jP.set n4 (r2.1,(gt jP n4).2.1,(gt jP n4).2.2.1,(gt jP n4).2.2.2.1,(gt jP n4).2.2.2.2))).bind λl5=>(some (l5.set n4 ((gt l5 n4).1,r2.2.1,(gt l5 n4).2.2.1,(gt l5 n4).2.2.2.1,(gt l5 n4).2.2.2.2))).bind λl7=>(some (l7.set n4 ((gt l7 n4).1,(gt l7 n4).2.1,r2.2.2.1,(gt l7 n4).2.2.2.1,(gt l7 n4).2.2.2.2))).bind λl9=>(some (l9.set n4 ((gt l9 n4).1,(gt l9 n4).2.1,(gt l9 n4).2.2.1,r2.2.2.2.1,(gt l9 n4).2.2.2.2))).bind λl11=>(some (l11.set n4 ((gt l11 n4).1,(gt l11 n4).2.1,(gt l11 n4).2.2.1,(gt l11 n4).2.2.2.1,r2.2.2.2.2))).bind λl13=>b_.pl29 F k er l13 (wrap .i64 (ez+1))) else (some jP))
theorem b_.l29_P  :∀ k,b_.S29 H0 Ri R0  (b_.l29 F (fg.tw F)  k) (b_.pl29 F  k):=by
 intro k
 induction k with
 | zero=>unfold b_.S29;intros;rename_i hp;cases hp
 | succ k ih=>
  intro pR HJ mX CW pT HK er jP HL ez H HM aiN h0 r hp
  obtain ⟨w0,s0,xy,HN⟩:=h0
  subst HM
  subst aiN
  unfold b_.pl29 at hp
  unfold b_.l29
  refine ay hp (λhp=>?_) λhp=>?_
  ·obtain ⟨n1,g1,hp⟩:=ag hp
   obtain ⟨p1,q1,i1,h1,j1⟩:=ROs.ixr xy rfl g1
   refine ai i1 ?_
   obtain ⟨_,_,rfl,rfl,_,_,rfl,rfl,_,_,rfl,rfl,_,_,rfl,rfl,rfl⟩:=h1
   refine ai (aG (j1 0 _ rfl)) ?_
   refine ai (aG (j1 1 _ rfl)) ?_
   refine ai (aG (j1 2 _ rfl)) ?_
   refine ai (aG (j1 3 _ rfl)) ?_
   refine ai (aG (j1 4 _ rfl)) ?_
   obtain ⟨r2,e2,hp⟩:=ag hp
   refine aE (fg.P ⟨w0,trivial⟩ e2) ?_
   rintro _ H3 ⟨rfl,w3,s3,_⟩
   refine br (br (br (br (br (br (br (br (br (br (br ?_))))))))))
   obtain ⟨n4,g4,hp⟩:=ag hp
   obtain ⟨p4,q4,i4,h4,j4⟩:=W.ixo (E:=(ac eI (ac eI (ac eI (ac eI eI))))) w3 (i:=0) rfl rfl (HN.step s3) g4
   refine ai i4 ?_
   obtain ⟨l5,e5,hp⟩:=ag hp
   refine dC (ac eI (ac eI (ac eI (ac eI eI)))) w3 (i:=0) (j:=0) (p:=p4) rfl rfl (HN.step s3) g4 i4 e5 rfl rfl (λ_ h=>by obtain ⟨_,_,rfl,rfl,_,_,rfl,rfl,_,_,rfl,rfl,_,_,rfl,rfl,rfl⟩:=h;exact ⟨[_],_,rfl,rfl,[_],_,rfl,rfl,[_],_,rfl,rfl,[_],_,rfl,rfl,rfl⟩) λH6 k6 w6 s6 c6=>?_
   obtain ⟨l7,e7,hp⟩:=ag hp
   refine dC (ac eI (ac eI (ac eI (ac eI eI)))) w6 (i:=0) (j:=1) (p:=p4) rfl rfl c6 (mu g4 (cz e5)) i4 e7 rfl rfl (λ_ h=>by obtain ⟨_,_,rfl,rfl,_,_,rfl,rfl,_,_,rfl,rfl,_,_,rfl,rfl,rfl⟩:=h;exact ⟨[_],_,rfl,rfl,[_],_,rfl,rfl,[_],_,rfl,rfl,[_],_,rfl,rfl,rfl⟩) λH8 k8 w8 s8 c8=>?_
   obtain ⟨l9,e9,hp⟩:=ag hp
   refine dC (ac eI (ac eI (ac eI (ac eI eI)))) w8 (i:=0) (j:=2) (p:=p4) rfl rfl c8 (mu g4 ((cz e7).trans (cz e5))) i4 e9 rfl rfl (λ_ h=>by obtain ⟨_,_,rfl,rfl,_,_,rfl,rfl,_,_,rfl,rfl,_,_,rfl,rfl,rfl⟩:=h;exact ⟨[_],_,rfl,rfl,[_],_,rfl,rfl,[_],_,rfl,rfl,[_],_,rfl,rfl,rfl⟩) λH10 k10 w10 s10 c10=>?_
   obtain ⟨l11,e11,hp⟩:=ag hp
   refine dC (ac eI (ac eI (ac eI (ac eI eI)))) w10 (i:=0) (j:=3) (p:=p4) rfl rfl c10 (mu g4 (((cz e9).trans (cz e7)).trans (cz e5))) i4 e11 rfl rfl (λ_ h=>by obtain ⟨_,_,rfl,rfl,_,_,rfl,rfl,_,_,rfl,rfl,_,_,rfl,rfl,rfl⟩:=h;exact ⟨[_],_,rfl,rfl,[_],_,rfl,rfl,[_],_,rfl,rfl,[_],_,rfl,rfl,rfl⟩) λH12 k12 w12 s12 c12=>?_
   obtain ⟨l13,e13,hp⟩:=ag hp
   refine dC (ac eI (ac eI (ac eI (ac eI eI)))) w12 (i:=0) (j:=4) (p:=p4) rfl rfl c12 (mu g4 ((((cz e11).trans (cz e9)).trans (cz e7)).trans (cz e5))) i4 e13 rfl rfl (λ_ h=>by obtain ⟨_,_,rfl,rfl,_,_,rfl,rfl,_,_,rfl,rfl,_,_,rfl,rfl,rfl⟩:=h;exact ⟨[_],_,rfl,rfl,[_],_,rfl,rfl,[_],_,rfl,rfl,[_],_,rfl,rfl,rfl⟩) λH14 k14 w14 s14 c14=>?_
   exact ih rfl (((((cz e5).symm.trans (cz e7).symm).trans (cz e9).symm).trans (cz e11).symm).trans (cz e13).symm) ⟨w14,(s0.trans (s3.trans (s6.trans (s8.trans (s10.trans (s12.trans s14)))))),(xy.step (s3.trans (s6.trans (s8.trans (s10.trans (s12.trans s14)))))),c14⟩ hp
  ·exact az hp ⟨_,_,_,_,rfl,rfl,w0,s0,HN⟩
def b_.p (F:Nat) (ah:atb):Option ((List (Int×Int×Int×Int×Int))):=(mkn (ah.length:Int) ((0:Int),(0:Int),(0:Int),(0:Int),(0:Int))).bind λl1=>b_.pl29 F F ah l1 0
theorem b_.P {aB ak aC ah} (ba:ak=ah.length) (h0:Inn H R0 λR=>ROs (ac eI (ac eI (ac eI (ac eI eI)))) H R ⟨aB,ak,aC⟩ ah) {r:(List (Int×Int×Int×Int×Int))} (hp:b_.p F ah=some r):Rt (b_.tw F ⟨aB,ak,aC⟩ H) (b_.Q H R0 R0  r):=by
 obtain ⟨w0,aO⟩:=h0
 subst ba
 unfold b_.p at hp
 unfold b_.tw b_.twX
 have s0:=w0.rf
 obtain ⟨l1,e1,hp⟩:=ag hp
 refine ka (ac eI (ac eI (ac eI (ac eI eI)))) ((0:Int),(0:Int),(0:Int),(0:Int),(0:Int)) w0 ⟨[_],_,rfl,rfl,⟨[_],_,rfl,rfl,⟨[_],_,rfl,rfl,⟨[_],_,rfl,rfl,rfl⟩⟩⟩⟩ rfl rfl e1 λH2 k2 w2 s2 c2=>?_
 exact b_.l29_P F rfl rfl ⟨w2,(s0.trans s2),(aO.step s2),c2⟩ hp
def dM.Q (H0:Hp) (Ri R0:as3)  (r:(List (Int×Int×Int×Int×Int))×Int) (v:AV) (H':Hp):Prop:=∃ o0a:ON,∃ o0n:Nat,∃ o0c:Cap,∃ o0k:List AV,v=(.agg [(.sl ⟨o0a,o0n,o0c⟩),(.i r.2)])/\o0n=(r.1).length/\Out H0 Ri H' (Rs.own ⟨o0a,o0n,o0c⟩ (ac eI (ac eI (ac eI (ac eI eI)))).z o0k::R0) λR=>CR (ac eI (ac eI (ac eI (ac eI eI)))) H' R o0k (r.1)
def dM.p (F:Nat) (ah:atb) (af:Int):Option ((List (Int×Int×Int×Int×Int))×Int):=(b_.p F ah).bind λr4=>some (r4,af)
theorem dM.P {aB ak aC ah af} (ba:ak=ah.length) (h0:Inn H R0 λR=>ROs (ac eI (ac eI (ac eI (ac eI eI)))) H R ⟨aB,ak,aC⟩ ah) {r:(List (Int×Int×Int×Int×Int))×Int} (hp:dM.p F ah af=some r):Rt (dM.tw F ⟨aB,ak,aC⟩ af H) (dM.Q H R0 R0  r):=by
 obtain ⟨w0,aO⟩:=h0
 subst ba
 unfold dM.p at hp
 unfold dM.tw dM.twX
 have s0:=w0.rf
 refine aS w0 λH1 w1 s1=>?_
 refine aS w1 λH2 w2 s2=>?_
 refine aS w2 λH3 w3 s3=>?_
 refine lSl w3 2 ?_
 obtain ⟨r4,e4,hp⟩:=ag hp
 refine aE (b_.P rfl ⟨w3,(aO.step (s1.trans (s2.trans s3)))⟩ e4) ?_
 rintro _ H5 ⟨o0a_5,o0n_5,o0c_5,o0k_5,rfl,rfl,w5,s5,f5_0⟩
 refine br ?_
 refine aq w5 1 λH6 w6 s6=>?_
 refine lI w6 3 ?_
 refine aq w6 1 λH7 w7 s7=>?_
 refine lSl w7 1 ?_
 refine lI w7 1 ?_
 refine aq w7 2 λH8 w8 s8=>?_
 refine aq w8 2 λH9 w9 s9=>?_
 refine lSl w9 2 ?_
 refine lI w9 2 ?_
 obtain ⟨w10,s10⟩:=w9.pp [0] 4
 exact az hp ⟨_,_,_,_,rfl,rfl,w10,(s0.trans (s1.trans (s2.trans (s3.trans (s5.trans (s6.trans (s7.trans (s8.trans (s9.trans s10))))))))),(f5_0.step (s6.trans (s7.trans (s8.trans (s9.trans s10)))))⟩
def cR.Q (H0:Hp) (Ri R0:as3)  (r:Bool) (v:AV) (H':Hp):Prop:=v=(.bool r)/\Out H0 Ri H' (R0) λR=>True
def cR.p (F:Nat) (aa:Int) (aA:Int) (cL:Int):Option (Bool):=(bif (decide (aa>=aA)) then (some (decide (aa<=cL))) else (some false))
theorem cR.P {aa aA cL}  (h0:Inn H R0 λR=>True) {r:Bool} (hp:cR.p F aa aA cL=some r):Rt (cR.tw F aa aA cL H) (cR.Q H R0 R0  r):=by
 obtain ⟨w0,_⟩:=h0
 unfold cR.p at hp
 unfold cR.tw cR.twX
 have s0:=w0.rf
 refine ay hp (λhp=>?_) λhp=>?_
 ·exact az hp ⟨rfl,w0,s0,trivial⟩
 ·exact az hp ⟨rfl,w0,s0,trivial⟩
def cW.Q (H0:Hp) (Ri R0:as3)  (r:Int) (v:AV) (H':Hp):Prop:=v=(.i r)/\Out H0 Ri H' (R0) λR=>True
def cW.p (F:Nat) (aa:Int) (af:Int) (bV:Int) (bW:Int) (cD:Int):Option (Int):=(ix ([aa,af,bV,bW]:List Int) cD).bind λn3=>some (gt ([aa,af,bV,bW]:List Int) n3)
theorem cW.P {aa af bV bW bQ cD}  (h0:Inn H R0 λR=>True) {r:Int} (hp:cW.p F aa af bV bW cD=some r):Rt (cW.tw F aa af bV bW bQ cD H) (cW.Q H R0 R0  r):=by
 obtain ⟨w0,_⟩:=h0
 unfold cW.p at hp
 unfold cW.tw cW.twX
 have s0:=w0.rf
 refine aS w0 λH1 w1 s1=>?_
 refine lI w1 0 ?_
 refine lI w1 0 ?_
 refine lI w1 0 ?_
 refine lI w1 0 ?_
 refine cK eI w1 (n:=4) (l:=([aa,af,bV,bW]:List Int)) rfl (CR.cons1 rfl (CR.cons1 rfl (CR.cons1 rfl (CR.cons1 rfl CR.empty)))) rfl λH2 w2 s2 c2=>?_
 obtain ⟨n3,g3,hp⟩:=ag hp
 obtain ⟨p3,q3,i3,h3,j3⟩:=W.ixo (E:=eI) w2 (i:=0) rfl rfl c2 g3
 refine ai i3 ?_
 have h3:_=[_]:=h3
 subst h3
 refine ai (aG (j3 0 _ rfl)) ?_
 obtain ⟨w4,s4⟩:=w2.pp [] 2
 exact az hp ⟨rfl,w4,(s0.trans (s1.trans (s2.trans s4))),trivial⟩
def cX.Q (H0:Hp) (Ri R0:as3)  (r:Bool) (v:AV) (H':Hp):Prop:=v=(.bool r)/\Out H0 Ri H' (R0) λR=>True
def cX.p (F:Nat) (bQ:Int) (cD:Int):Option (Bool):=(bif (cD==0) then (some true) else ((bif (cD==3) then ((bif (bQ==1) then (some true) else ((bif (cD==1) then (some (bQ==(-1))) else (some false))))) else ((bif (cD==1) then (some (bQ==(-1))) else (some false))))))
theorem cX.P {aa af bV bW bQ cD}  (h0:Inn H R0 λR=>True) {r:Bool} (hp:cX.p F bQ cD=some r):Rt (cX.tw F aa af bV bW bQ cD H) (cX.Q H R0 R0  r):=by
 obtain ⟨w0,_⟩:=h0
 unfold cX.p at hp
 unfold cX.tw cX.twX
 have s0:=w0.rf
 refine aS w0 λH1 w1 s1=>?_
 refine ay hp (λhp=>?_) λhp=>?_
 ·obtain ⟨w2,s2⟩:=w1.pp [] 1
  exact az hp ⟨rfl,w2,(s0.trans (s1.trans s2)),trivial⟩
 ·refine ay hp (λhp=>?_) λhp=>?_
  ·refine lI w1 0 ?_
   refine ay hp (λhp=>?_) λhp=>?_
   ·obtain ⟨w3,s3⟩:=w1.pp [] 1
    exact az hp ⟨rfl,w3,(s0.trans (s1.trans s3)),trivial⟩
   ·refine ay hp (λhp=>?_) λhp=>?_
    ·refine lI w1 0 ?_
     obtain ⟨w4,s4⟩:=w1.pp [] 1
     exact az hp ⟨rfl,w4,(s0.trans (s1.trans s4)),trivial⟩
    ·obtain ⟨w5,s5⟩:=w1.pp [] 1
     exact az hp ⟨rfl,w5,(s0.trans (s1.trans s5)),trivial⟩
  ·refine ay hp (λhp=>?_) λhp=>?_
   ·refine lI w1 0 ?_
    obtain ⟨w6,s6⟩:=w1.pp [] 1
    exact az hp ⟨rfl,w6,(s0.trans (s1.trans s6)),trivial⟩
   ·obtain ⟨w7,s7⟩:=w1.pp [] 1
    exact az hp ⟨rfl,w7,(s0.trans (s1.trans s7)),trivial⟩
def bc.Q (H0:Hp) (Ri R0:as3)  (r:Bool) (v:AV) (H':Hp):Prop:=v=(.bool r)/\Out H0 Ri H' (R0) λR=>True
def bc.S61 (H0:Hp) (Ri R0:as3)  (C:at0) (pC:at7):Prop:=∀ {pU pV HO mY fB mZ CX pW pX HP dP xz gn gW gj pY pZ HQ},∀ {H:Hp},mY=dP.length->mZ=gj.length->CX=pY.length->(Out H0 Ri H (Rs.blk fB [.sl ⟨pU,mY,pW⟩,.i xz]::Rs.own ⟨pV,mZ,pX⟩ cC.z pZ::Rs.own ⟨HO,CX,HP⟩ cC.z HQ::R0) λR=>ROs (ac eI (ac eI (ac eI (ac eI eI)))) H R ⟨pU,mY,pW⟩ dP/\CR cC H R pZ gj/\CR cC H R HQ pY)->∀ {r:Bool},pC dP gn gj pY gW=some r->Rt (C fB 0 gn ⟨pV,mZ,pX⟩ ⟨HO,CX,HP⟩ gW H) (bc.Q H0 Ri R0  r)
def bc.S3927 (H0:Hp) (Ri R0:as3)  (C:Nat->Nat->Int->Sl->Sl->Int->Nat->Nat->Int->Hp->OA) (pC:List (Int×Int×Int×Int×Int)->Int->List Bool->List Bool->Int->Int->Int->Int->Int->Int->Int->Option (Bool)):Prop:=∀ {HR HS HT CY mD CZ C_ f_ HU HV HW oC Vk gV fZ p_ qd qe qf qg gm lm lq HX HY},∀ {H:Hp},CY=oC.length->CZ=lm.length->C_=lq.length->(Out H0 Ri H (Rs.blk mD [.sl ⟨HR,CY,HU⟩,.i Vk]::Rs.own ⟨HS,CZ,HV⟩ cC.z HX::Rs.own ⟨HT,C_,HW⟩ cC.z HY::Rs.blk f_ [.i p_,.i qd,.i qe,.i qf,.i qg]::R0) λR=>ROs (ac eI (ac eI (ac eI (ac eI eI)))) H R ⟨HR,CY,HU⟩ oC/\CR cC H R HX lm/\CR cC H R HY lq)->∀ {r:Bool},pC oC gV lm lq fZ p_ qd qe qf qg gm=some r->Rt (C mD 0 gV ⟨HS,CZ,HV⟩ ⟨HT,C_,HW⟩ fZ f_ 0 gm H) (bc.Q H0 Ri R0  r)
def bc.pl3927 (F:Nat) (ar:at7):Nat->List (Int×Int×Int×Int×Int)->Int->List Bool->List Bool->Int->Int->Int->Int->Int->Int->Int->Option (Bool)
 | 0,_,_,_,_,_,_,_,_,_,_,_=>none
 | k+1,oC,gV,lm,lq,fZ,p_,qd,qe,qf,qg,gm=>(bif (decide (gm<4)) then ((cW.p F p_ qd qe qf gm).bind λr1=>(cR.p F r1 0 (wrap .i64 (gV - 1))).bind λr3=>(bif (!r3) then (some false) else ((cX.p F qg gm).bind λr6=>(bif r6 then ((ix lm r1).bind λn8=>(bif (gt lm n8) then (some false) else ((ix lm r1).bind λn10=>(some (lm.set n10 true)).bind λl11=>bc.pl3927 F ar k oC gV l11 lq fZ p_ qd qe qf qg (wrap .i64 (gm+1))))) else ((ix lq r1).bind λn13=>(bif (gt lq n13) then (some false) else ((ix lq r1).bind λn15=>(some (lq.set n15 true)).bind λl16=>bc.pl3927 F ar k oC gV lm l16 fZ p_ qd qe qf qg (wrap .i64 (gm+1))))))))) else (ar oC gV lm lq (wrap .i64 (fZ+1))))
theorem bc.l3927_P  {C61_:at0} {ar:at7} (hC61:bc.S61 H0 Ri R0  C61_ ar):∀ k,bc.S3927 H0 Ri R0  (bc.l3927 F (cW.tw F) (cR.tw F) (cX.tw F) C61_ k) (bc.pl3927 F ar k):=by
 intro k
 induction k with
 | zero=>unfold bc.S3927;intros;rename_i hp;cases hp
 | succ k ih=>
  intro HR HS HT CY mD CZ C_ f_ HU HV HW oC Vk gV fZ p_ qd qe qf qg gm lm lq HX HY H aiO aiP aiQ h0 r hp
  obtain ⟨w0,s0,HZ,xA,xB⟩:=h0
  subst aiO
  subst aiP
  subst aiQ
  unfold bc.pl3927 at hp
  unfold bc.l3927
  refine ay hp (λhp=>?_) λhp=>?_
  ·refine lI w0 3 ?_
   refine lI w0 3 ?_
   refine lI w0 3 ?_
   refine lI w0 3 ?_
   refine lI w0 3 ?_
   obtain ⟨r1,e1,hp⟩:=ag hp
   refine aE (cW.P ⟨w0,trivial⟩ e1) ?_
   rintro _ H2 ⟨rfl,w2,s2,_⟩
   refine br ?_
   obtain ⟨r3,e3,hp⟩:=ag hp
   refine aE (cR.P ⟨w2,trivial⟩ e3) ?_
   rintro _ H4 ⟨rfl,w4,s4,_⟩
   refine br ?_
   refine ay hp (λhp=>?_) λhp=>?_
   ·obtain ⟨w5,s5⟩:=w4.pp [] 4
    exact az hp ⟨rfl,w5,(s0.trans (s2.trans (s4.trans s5))),trivial⟩
   ·refine lI w4 3 ?_
    refine lI w4 3 ?_
    refine lI w4 3 ?_
    refine lI w4 3 ?_
    refine lI w4 3 ?_
    obtain ⟨r6,e6,hp⟩:=ag hp
    refine aE (cX.P ⟨w4,trivial⟩ e6) ?_
    rintro _ H7 ⟨rfl,w7,s7,_⟩
    refine br ?_
    refine ay hp (λhp=>?_) λhp=>?_
    ·obtain ⟨n8,g8,hp⟩:=ag hp
     obtain ⟨p8,q8,i8,h8,j8⟩:=W.ixo (E:=cC) w7 (i:=1) rfl rfl (xA.step (s2.trans (s4.trans s7))) g8
     refine ai i8 ?_
     have h8:_=[_]:=h8
     subst h8
     refine ai (wE (j8 0 _ rfl)) ?_
     refine ay hp (λhp=>?_) λhp=>?_
     ·obtain ⟨w9,s9⟩:=w7.pp [] 4
      exact az hp ⟨rfl,w9,(s0.trans (s2.trans (s4.trans (s7.trans s9)))),trivial⟩
     ·obtain ⟨n10,g10,hp⟩:=ag hp
      obtain ⟨p10,q10,i10,h10,j10⟩:=W.ixo (E:=cC) w7 (i:=1) rfl rfl (xA.step (s2.trans (s4.trans s7))) g10
      refine ai i10 ?_
      obtain ⟨l11,e11,hp⟩:=ag hp
      refine dC cC w7 (i:=1) (j:=0) (p:=p10) rfl rfl (xA.step (s2.trans (s4.trans s7))) g10 i10 e11 rfl rfl (λ_ h=>by have h:_=[_]:=h;subst h;exact rfl) λH12 k12 w12 s12 c12=>?_
      exact ih rfl ((cz e11).symm) rfl ⟨w12,(s0.trans (s2.trans (s4.trans (s7.trans s12)))),(HZ.step (s2.trans (s4.trans (s7.trans s12)))),c12,(xB.step (s2.trans (s4.trans (s7.trans s12))))⟩ hp
    ·obtain ⟨n13,g13,hp⟩:=ag hp
     obtain ⟨p13,q13,i13,h13,j13⟩:=W.ixo (E:=cC) w7 (i:=2) rfl rfl (xB.step (s2.trans (s4.trans s7))) g13
     refine ai i13 ?_
     have h13:_=[_]:=h13
     subst h13
     refine ai (wE (j13 0 _ rfl)) ?_
     refine ay hp (λhp=>?_) λhp=>?_
     ·obtain ⟨w14,s14⟩:=w7.pp [] 4
      exact az hp ⟨rfl,w14,(s0.trans (s2.trans (s4.trans (s7.trans s14)))),trivial⟩
     ·obtain ⟨n15,g15,hp⟩:=ag hp
      obtain ⟨p15,q15,i15,h15,j15⟩:=W.ixo (E:=cC) w7 (i:=2) rfl rfl (xB.step (s2.trans (s4.trans s7))) g15
      refine ai i15 ?_
      obtain ⟨l16,e16,hp⟩:=ag hp
      refine dC cC w7 (i:=2) (j:=0) (p:=p15) rfl rfl (xB.step (s2.trans (s4.trans s7))) g15 i15 e16 rfl rfl (λ_ h=>by have h:_=[_]:=h;subst h;exact rfl) λH17 k17 w17 s17 c17=>?_
      exact ih rfl rfl ((cz e16).symm) ⟨w17,(s0.trans (s2.trans (s4.trans (s7.trans s17)))),(HZ.step (s2.trans (s4.trans (s7.trans s17)))),(xA.step (s2.trans (s4.trans (s7.trans s17)))),c17⟩ hp
  ·obtain ⟨w18,s18⟩:=w0.pp [0,1,2] 4
   exact hC61 rfl rfl rfl ⟨w18,(s0.trans s18),(HZ.step s18),(xA.step s18),(xB.step s18)⟩ hp
def bc.pl61 (F:Nat) :Nat->List (Int×Int×Int×Int×Int)->Int->List Bool->List Bool->Int->Option (Bool)
 | 0,_,_,_,_,_=>none
 | k+1,dP,gn,gj,pY,gW=>(bif (decide (gW<(dP.length:Int))) then ((ix dP gW).bind λn1=>(bif (((gt dP n1).2.2.2.2) != 1) then ((bif (((gt dP n1).2.2.2.2) != (-1)) then (some false) else (bc.pl3927 F (bc.pl61 F k) F dP gn gj pY gW ((gt dP n1).1) ((gt dP n1).2.1) ((gt dP n1).2.2.1) ((gt dP n1).2.2.2.1) ((gt dP n1).2.2.2.2) 0))) else (bc.pl3927 F (bc.pl61 F k) F dP gn gj pY gW ((gt dP n1).1) ((gt dP n1).2.1) ((gt dP n1).2.2.1) ((gt dP n1).2.2.2.1) ((gt dP n1).2.2.2.2) 0))) else (some true))
theorem bc.l61_P  :∀ k,bc.S61 H0 Ri R0  (bc.l61 F (cW.tw F) (cR.tw F) (cX.tw F)  k) (bc.pl61 F  k):=by
 intro k
 induction k with
 | zero=>unfold bc.S61;intros;rename_i hp;cases hp
 | succ k ih=>
  intro pU pV HO mY fB mZ CX pW pX HP dP xz gn gW gj pY pZ HQ H H_ Ia aiR h0 r hp
  obtain ⟨w0,s0,vP,vQ,Vl⟩:=h0
  subst H_
  subst Ia
  subst aiR
  unfold bc.pl61 at hp
  unfold bc.l61
  refine lSl w0 0 ?_
  refine ay hp (λhp=>?_) λhp=>?_
  ·refine lSl w0 0 ?_
   obtain ⟨n1,g1,hp⟩:=ag hp
   obtain ⟨p1,q1,i1,h1,j1⟩:=ROs.ixr vP rfl g1
   refine ai i1 ?_
   obtain ⟨_,_,rfl,rfl,_,_,rfl,rfl,_,_,rfl,rfl,_,_,rfl,rfl,rfl⟩:=h1
   refine ai (aG (j1 0 _ rfl)) ?_
   refine ai (aG (j1 1 _ rfl)) ?_
   refine ai (aG (j1 2 _ rfl)) ?_
   refine ai (aG (j1 3 _ rfl)) ?_
   refine ai (aG (j1 4 _ rfl)) ?_
   refine aS w0 λH2 w2 s2=>?_
   refine aq w2 0 λH3 w3 s3=>?_
   refine aq w3 0 λH4 w4 s4=>?_
   refine aq w4 0 λH5 w5 s5=>?_
   refine aq w5 0 λH6 w6 s6=>?_
   refine aq w6 0 λH7 w7 s7=>?_
   refine lI w7 0 ?_
   refine ay hp (λhp=>?_) λhp=>?_
   ·refine lI w7 0 ?_
    refine ay hp (λhp=>?_) λhp=>?_
    ·obtain ⟨w8,s8⟩:=w7.pp [] 4
     exact az hp ⟨rfl,w8,(s0.trans (s2.trans (s3.trans (s4.trans (s5.trans (s6.trans (s7.trans s8))))))),trivial⟩
    ·obtain ⟨w9,s9⟩:=w7.pp [1,2,3,0] 4
     exact bc.l3927_P (@ih) F rfl rfl rfl ⟨w9,(s0.trans (s2.trans (s3.trans (s4.trans (s5.trans (s6.trans (s7.trans s9))))))),(vP.step (s2.trans (s3.trans (s4.trans (s5.trans (s6.trans (s7.trans s9))))))),(vQ.step (s2.trans (s3.trans (s4.trans (s5.trans (s6.trans (s7.trans s9))))))),(Vl.step (s2.trans (s3.trans (s4.trans (s5.trans (s6.trans (s7.trans s9)))))))⟩ hp
   ·obtain ⟨w10,s10⟩:=w7.pp [1,2,3,0] 4
    exact bc.l3927_P (@ih) F rfl rfl rfl ⟨w10,(s0.trans (s2.trans (s3.trans (s4.trans (s5.trans (s6.trans (s7.trans s10))))))),(vP.step (s2.trans (s3.trans (s4.trans (s5.trans (s6.trans (s7.trans s10))))))),(vQ.step (s2.trans (s3.trans (s4.trans (s5.trans (s6.trans (s7.trans s10))))))),(Vl.step (s2.trans (s3.trans (s4.trans (s5.trans (s6.trans (s7.trans s10)))))))⟩ hp
  ·obtain ⟨w11,s11⟩:=w0.pp [] 3
   exact az hp ⟨rfl,w11,(s0.trans s11),trivial⟩
def bc.p (F:Nat) (ah:atb):Option (Bool):=(mkn (wrap .i64 (2 * (ah.length:Int))) false).bind λl2=>(mkn (wrap .i64 (2 * (ah.length:Int))) false).bind λl4=>bc.pl61 F F ah (wrap .i64 (2 * (ah.length:Int))) l2 l4 0
theorem bc.P {aB ak aC ah af} (ba:ak=ah.length) (h0:Inn H R0 λR=>ROs (ac eI (ac eI (ac eI (ac eI eI)))) H R ⟨aB,ak,aC⟩ ah) {r:Bool} (hp:bc.p F ah=some r):Rt (bc.tw F ⟨aB,ak,aC⟩ af H) (bc.Q H R0 R0  r):=by
 obtain ⟨w0,aO⟩:=h0
 subst ba
 unfold bc.p at hp
 unfold bc.tw bc.twX
 have s0:=w0.rf
 refine aS w0 λH1 w1 s1=>?_
 refine lSl w1 0 ?_
 obtain ⟨l2,e2,hp⟩:=ag hp
 refine ka cC false w1 rfl rfl rfl e2 λH3 k3 w3 s3 c3=>?_
 obtain ⟨l4,e4,hp⟩:=ag hp
 refine ka cC false w3 rfl rfl rfl e4 λH5 k5 w5 s5 c5=>?_
 obtain ⟨w6,s6⟩:=w5.pp [2,1,0] 3
 exact bc.l61_P F rfl rfl rfl ⟨w6,(s0.trans (s1.trans (s3.trans (s5.trans s6)))),(aO.step (s1.trans (s3.trans (s5.trans s6)))),(c3.step (s5.trans s6)),(c5.step s6)⟩ hp
def aK.Q (H0:Hp) (Ri R0:as3)  (r:atq) (v:AV) (H':Hp):Prop:=v=(.tup [(.i r.1),(.i r.2)])/\Out H0 Ri H' (R0) λR=>True
def aK.S13 (H0:Hp) (Ri R0:as3)  (C:atG) (pC:atM):Prop:=∀ {ct Vm kl fD Ib Da eA Ic qh},∀ {H:Hp},Da=qh.length->(Out H0 Ri H (Rs.blk eA [.sl ⟨Ib,Da,Ic⟩,.i Vm]::R0) λR=>ROs (ac eI (ac eI (ac eI (ac eI eI)))) H R ⟨Ib,Da,Ic⟩ qh)->∀ {r:atq},pC ct fD qh kl=some r->Rt (C ct fD eA 0 kl H) (aK.Q H0 Ri R0  r)
def aK.S213 (H0:Hp) (Ri R0:as3)  (C:Int->Bool->Nat->Nat->Int->Int->Hp->OA) (pC:Int->Bool->List (Int×Int×Int×Int×Int)->Int->Int->Option (Int×Int)):Prop:=∀ {gY Vn fC cZ gZ Id Db kj Ie iz},∀ {H:Hp},Db=iz.length->(Out H0 Ri H (Rs.blk kj [.sl ⟨Id,Db,Ie⟩,.i Vn]::R0) λR=>ROs (ac eI (ac eI (ac eI (ac eI eI)))) H R ⟨Id,Db,Ie⟩ iz)->∀ {r:atq},pC gY gZ iz fC cZ=some r->Rt (C gY gZ kj 0 fC cZ H) (aK.Q H0 Ri R0  r)
def aK.pj3 (F:Nat) (gS:atM) (nB:Int) (rX:Bool) (xC:atb) (rZ:Int):Option (Int×Int):=gS nB rX xC (wrap .i64 (rZ+1))
theorem aK.j3_P  {C13_:atG} {gS:atM} (hC13:aK.S13 H0 Ri R0  C13_ gS) {nB aiS rZ rX Vo If rY Vp xC} (aiT:If=xC.length) (h0:Out H0 Ri H (Rs.blk rY [.sl ⟨Vo,If,Vp⟩,.i aiS]::R0) λR=>ROs (ac eI (ac eI (ac eI (ac eI eI)))) H R ⟨Vo,If,Vp⟩ xC) {r:atq} (hp:aK.pj3 F gS nB rX xC rZ=some r):Rt (aK.j3 F (cW.tw F) (cX.tw F) C13_ nB rX rY 0 rZ H) (aK.Q H0 Ri R0  r):=by
 obtain ⟨w0,s0,aiU⟩:=h0
 subst aiT
 unfold aK.pj3 at hp
 unfold aK.j3
 exact hC13 rfl ⟨w0,s0,aiU⟩ hp
def aK.pj4 (F:Nat) (gS:atM) (gX:Int) (r_:Bool) (xD:atb) (sb:Int):Option (Int×Int):=aK.pj3 F gS gX r_ xD sb
theorem aK.j4_P  {C13_:atG} {gS:atM} (hC13:aK.S13 H0 Ri R0  C13_ gS) {gX aiV sb r_ Vq Ig AF Vr xD} (aiW:Ig=xD.length) (h0:Out H0 Ri H (Rs.blk AF [.sl ⟨Vq,Ig,Vr⟩,.i aiV]::R0) λR=>ROs (ac eI (ac eI (ac eI (ac eI eI)))) H R ⟨Vq,Ig,Vr⟩ xD) {r:atq} (hp:aK.pj4 F gS gX r_ xD sb=some r):Rt (aK.j4 F (cW.tw F) (cX.tw F) C13_ gX r_ AF 0 sb H) (aK.Q H0 Ri R0  r):=by
 obtain ⟨w0,s0,aiX⟩:=h0
 subst aiW
 unfold aK.pj4 at hp
 unfold aK.j4
 exact aK.j3_P (@hC13) rfl ⟨w0,s0,aiX⟩ hp
def aK.pl213 (F:Nat) (gS:atM):Nat->Int->Bool->List (Int×Int×Int×Int×Int)->Int->Int->Option (Int×Int)
 | 0,_,_,_,_,_=>none
 | k+1,gY,gZ,iz,fC,cZ=>(bif (decide (cZ<4)) then ((ix iz fC).bind λn1=>(cW.p F ((gt iz n1).1) ((gt iz n1).2.1) ((gt iz n1).2.2.1) ((gt iz n1).2.2.2.1) cZ).bind λr2=>(bif (r2==gY) then ((ix iz fC).bind λn4=>(cX.p F ((gt iz n4).2.2.2.2) cZ).bind λr5=>(bif (r5==gZ) then (some (fC,cZ)) else (aK.pl213 F gS k gY gZ iz fC (wrap .i64 (cZ+1))))) else (aK.pl213 F gS k gY gZ iz fC (wrap .i64 (cZ+1))))) else (aK.pj4 F gS gY gZ iz fC))
theorem aK.l213_P  {C13_:atG} {gS:atM} (hC13:aK.S13 H0 Ri R0  C13_ gS):∀ k,aK.S213 H0 Ri R0  (aK.l213 F (cW.tw F) (cX.tw F) C13_ k) (aK.pl213 F gS k):=by
 intro k
 induction k with
 | zero=>unfold aK.S213;intros;rename_i hp;cases hp
 | succ k ih=>
  intro gY Vn fC cZ gZ Id Db kj Ie iz H aiY h0 r hp
  obtain ⟨w0,s0,xE⟩:=h0
  subst aiY
  unfold aK.pl213 at hp
  unfold aK.l213
  refine ay hp (λhp=>?_) λhp=>?_
  ·refine lSl w0 0 ?_
   obtain ⟨n1,g1,hp⟩:=ag hp
   obtain ⟨p1,q1,i1,h1,j1⟩:=ROs.ixr xE rfl g1
   refine ai i1 ?_
   obtain ⟨_,_,rfl,rfl,_,_,rfl,rfl,_,_,rfl,rfl,_,_,rfl,rfl,rfl⟩:=h1
   refine ai (aG (j1 0 _ rfl)) ?_
   refine ai (aG (j1 1 _ rfl)) ?_
   refine ai (aG (j1 2 _ rfl)) ?_
   refine ai (aG (j1 3 _ rfl)) ?_
   refine ai (aG (j1 4 _ rfl)) ?_
   obtain ⟨r2,e2,hp⟩:=ag hp
   refine aE (cW.P ⟨w0,trivial⟩ e2) ?_
   rintro _ H3 ⟨rfl,w3,s3,_⟩
   refine br ?_
   refine ay hp (λhp=>?_) λhp=>?_
   ·refine lSl w3 0 ?_
    obtain ⟨n4,g4,hp⟩:=ag hp
    obtain ⟨p4,q4,i4,h4,j4⟩:=ROs.ixr (xE.step s3) rfl g4
    refine ai i4 ?_
    obtain ⟨_,_,rfl,rfl,_,_,rfl,rfl,_,_,rfl,rfl,_,_,rfl,rfl,rfl⟩:=h4
    refine ai (aG (j4 0 _ rfl)) ?_
    refine ai (aG (j4 1 _ rfl)) ?_
    refine ai (aG (j4 2 _ rfl)) ?_
    refine ai (aG (j4 3 _ rfl)) ?_
    refine ai (aG (j4 4 _ rfl)) ?_
    obtain ⟨r5,e5,hp⟩:=ag hp
    refine aE (cX.P ⟨w3,trivial⟩ e5) ?_
    rintro _ H6 ⟨rfl,w6,s6,_⟩
    refine br ?_
    refine ay hp (λhp=>?_) λhp=>?_
    ·obtain ⟨w7,s7⟩:=w6.pp [] 1
     exact az hp ⟨rfl,w7,(s0.trans (s3.trans (s6.trans s7))),trivial⟩
    ·exact ih rfl ⟨w6,(s0.trans (s3.trans s6)),(xE.step (s3.trans s6))⟩ hp
   ·exact ih rfl ⟨w3,(s0.trans s3),(xE.step s3)⟩ hp
  ·exact aK.j4_P (@hC13) rfl ⟨w0,s0,xE⟩ hp
def aK.pl13 (F:Nat) :Nat->Int->Bool->List (Int×Int×Int×Int×Int)->Int->Option (Int×Int)
 | 0,_,_,_,_=>none
 | k+1,ct,fD,qh,kl=>(bif (decide (kl<(qh.length:Int))) then (aK.pl213 F (aK.pl13 F k) F ct fD qh kl 0) else (some ((-1),(-1))))
theorem aK.l13_P  :∀ k,aK.S13 H0 Ri R0  (aK.l13 F (cW.tw F) (cX.tw F)  k) (aK.pl13 F  k):=by
 intro k
 induction k with
 | zero=>unfold aK.S13;intros;rename_i hp;cases hp
 | succ k ih=>
  intro ct Vm kl fD Ib Da eA Ic qh H aiZ h0 r hp
  obtain ⟨w0,s0,ai0⟩:=h0
  subst aiZ
  unfold aK.pl13 at hp
  unfold aK.l13
  refine lSl w0 0 ?_
  refine ay hp (λhp=>?_) λhp=>?_
  ·exact aK.l213_P (@ih) F rfl ⟨w0,s0,ai0⟩ hp
  ·obtain ⟨w1,s1⟩:=w0.pp [] 1
   exact az hp ⟨rfl,w1,(s0.trans s1),trivial⟩
def aK.p (F:Nat) (ah:atb) (au:Int) (iL:Bool):Option (Int×Int):=aK.pl13 F F au iL ah 0
theorem aK.P {aB ak aC ah af au iL} (ba:ak=ah.length) (h0:Inn H R0 λR=>ROs (ac eI (ac eI (ac eI (ac eI eI)))) H R ⟨aB,ak,aC⟩ ah) {r:atq} (hp:aK.p F ah au iL=some r):Rt (aK.tw F ⟨aB,ak,aC⟩ af au iL H) (aK.Q H R0 R0  r):=by
 obtain ⟨w0,aO⟩:=h0
 subst ba
 unfold aK.p at hp
 unfold aK.tw aK.twX
 have s0:=w0.rf
 refine aS w0 λH1 w1 s1=>?_
 exact aK.l13_P F rfl ⟨w1,(s0.trans s1),(aO.step s1)⟩ hp
def dc.Q (H0:Hp) (Ri R0:as3)  (r:Int) (v:AV) (H':Hp):Prop:=v=(.i r)/\Out H0 Ri H' (R0) λR=>True
def dc.p (F:Nat) (ah:atb) (au:Int):Option (Int):=(ix ah (wrap .i64 (Int.tdiv au 4))).bind λn2=>(cW.p F ((gt ah n2).1) ((gt ah n2).2.1) ((gt ah n2).2.2.1) ((gt ah n2).2.2.2.1) (Int.tmod (wrap .i64 ((Int.tmod au 4)+1)) 4)).bind λr9=>(cX.p F ((gt ah n2).2.2.2.2) (Int.tmod (wrap .i64 ((Int.tmod au 4)+1)) 4)).bind λr12=>(aK.p F ah r9 (!r12)).bind λr15=>some (wrap .i64 ((wrap .i64 (4 * r15.1))+r15.2))
theorem dc.P {aB ak aC ah af au} (ba:ak=ah.length) (h0:Inn H R0 λR=>ROs (ac eI (ac eI (ac eI (ac eI eI)))) H R ⟨aB,ak,aC⟩ ah) {r:Int} (hp:dc.p F ah au=some r):Rt (dc.tw F ⟨aB,ak,aC⟩ af au H) (dc.Q H R0 R0  r):=by
 obtain ⟨w0,aO⟩:=h0
 subst ba
 unfold dc.p at hp
 unfold dc.tw dc.twX
 have s0:=w0.rf
 refine aS w0 λH1 w1 s1=>?_
 refine lSl w1 0 ?_
 obtain ⟨n2,g2,hp⟩:=ag hp
 obtain ⟨p2,q2,i2,h2,j2⟩:=ROs.ixr (aO.step s1) rfl g2
 refine ai i2 ?_
 obtain ⟨_,_,rfl,rfl,_,_,rfl,rfl,_,_,rfl,rfl,_,_,rfl,rfl,rfl⟩:=h2
 refine ai (aG (j2 0 _ rfl)) ?_
 refine ai (aG (j2 1 _ rfl)) ?_
 refine ai (aG (j2 2 _ rfl)) ?_
 refine ai (aG (j2 3 _ rfl)) ?_
 refine ai (aG (j2 4 _ rfl)) ?_
 refine aS w1 λH3 w3 s3=>?_
 refine aq w3 0 λH4 w4 s4=>?_
 refine aq w4 0 λH5 w5 s5=>?_
 refine aq w5 0 λH6 w6 s6=>?_
 refine aq w6 0 λH7 w7 s7=>?_
 refine aq w7 0 λH8 w8 s8=>?_
 refine lSl w8 1 ?_
 refine lI w8 1 ?_
 refine lI w8 0 ?_
 refine lI w8 0 ?_
 refine lI w8 0 ?_
 refine lI w8 0 ?_
 refine lI w8 0 ?_
 obtain ⟨r9,e9,hp⟩:=ag hp
 refine aE (cW.P ⟨w8,trivial⟩ e9) ?_
 rintro _ H10 ⟨rfl,w10,s10,_⟩
 refine br ?_
 refine eK (W.cons_of (Rn:=[]) w8 w10 s10) ?_
 refine lI w10 0 ?_
 refine lI w10 0 ?_
 refine lI w10 0 ?_
 refine lI w10 0 ?_
 refine lI w10 0 ?_
 obtain ⟨r12,e12,hp⟩:=ag hp
 refine aE (cX.P ⟨w10,trivial⟩ e12) ?_
 rintro _ H13 ⟨rfl,w13,s13,_⟩
 refine br ?_
 refine eK (W.cons_of (Rn:=[]) w10 w13 s13) ?_
 obtain ⟨r15,e15,hp⟩:=ag hp
 refine aE (aK.P rfl ⟨w13,(aO.step (s1.trans (s3.trans (s4.trans (s5.trans (s6.trans (s7.trans (s8.trans (s10.trans s13)))))))))⟩ e15) ?_
 rintro _ H16 ⟨rfl,w16,s16,_⟩
 refine br (br (br (br (br ?_))))
 obtain ⟨w17,s17⟩:=w16.pp [] 2
 exact az hp ⟨rfl,w17,(s0.trans (s1.trans (s3.trans (s4.trans (s5.trans (s6.trans (s7.trans (s8.trans (s10.trans (s13.trans (s16.trans s17))))))))))),trivial⟩
def aP.Q (H0:Hp) (Ri R0:as3)  (r:atf) (v:AV) (H':Hp):Prop:=∃ o0a:ON,∃ o0n:Nat,∃ o0c:Cap,∃ o0k:List AV,v=(.sl ⟨o0a,o0n,o0c⟩)/\o0n=(r).length/\Out H0 Ri H' (Rs.own ⟨o0a,o0n,o0c⟩ (eSl eI).z o0k::R0) λR=>CR (eSl eI) H' R o0k (r)
def aP.S61 (H0:Hp) (Ri R0:as3)  (C:ats) (pC:atA):Prop:=∀ {pU Ih pV mY fB Dc mZ pW Ii pX dP xz eZ oD Ij pZ gj},∀ {H:Hp},mY=dP.length->Dc=oD.length->mZ=gj.length->(Out H0 Ri H (Rs.blk fB [.sl ⟨pU,mY,pW⟩,.i xz]::Rs.own ⟨Ih,Dc,Ii⟩ (eSl eI).z Ij::Rs.own ⟨pV,mZ,pX⟩ cC.z pZ::R0) λR=>ROs (ac eI (ac eI (ac eI (ac eI eI)))) H R ⟨pU,mY,pW⟩ dP/\CR (eSl eI) H R Ij oD/\CR cC H R pZ gj)->∀ {r:atf},pC dP oD gj eZ=some r->Rt (C fB 0 ⟨Ih,Dc,Ii⟩ ⟨pV,mZ,pX⟩ eZ H) (aP.Q H0 Ri R0  r)
def aP.pj4 (F:Nat) (ar:atA) (lr:atb) (lu:atf) (lw:atV) (sd:Int):Option (List (List Int)):=ar lr lu lw (wrap .i64 (sd+1))
theorem aP.j4_P  {C61_:ats} {ar:atA} (hC61:aP.S61 H0 Ri R0  C61_ ar) {xF xG xH qi fp qj qk xI xJ xK lr Ik sd lu xL xM lw} (Il:qi=lr.length) (Im:qj=lu.length) (In:qk=lw.length) (h0:Out H0 Ri H (Rs.blk fp [.sl ⟨xF,qi,xI⟩,.i Ik]::Rs.own ⟨xG,qj,xJ⟩ (eSl eI).z xL::Rs.own ⟨xH,qk,xK⟩ cC.z xM::R0) λR=>ROs (ac eI (ac eI (ac eI (ac eI eI)))) H R ⟨xF,qi,xI⟩ lr/\CR (eSl eI) H R xL lu/\CR cC H R xM lw) {r:atf} (hp:aP.pj4 F ar lr lu lw sd=some r):Rt (aP.j4 F (dc.tw F) C61_ fp 0 ⟨xG,qj,xJ⟩ ⟨xH,qk,xK⟩ sd H) (aP.Q H0 Ri R0  r):=by
 obtain ⟨w0,s0,Io,Ip,Iq⟩:=h0
 subst Il
 subst Im
 subst In
 unfold aP.pj4 at hp
 unfold aP.j4
 exact hC61 rfl rfl rfl ⟨w0,s0,Io,Ip,Iq⟩ hp
def aP.S7853 (H0:Hp) (Ri R0:as3)  (C:Nat->Nat->Sl->Sl->Int->Sl->Int->Hp->OA) (pC:List (Int×Int×Int×Int×Int)->List (List Int)->List Bool->Int->List Int->Int->Option (List (List Int))):Prop:=∀ {Ir Is It Iu Dd lL De Df Dg Iv Iw Ix Iy oE Vs ko gp qn Iz IA IB lZ qo},∀ {H:Hp},Dd=oE.length->De=qn.length->Df=lZ.length->Dg=qo.length->(Out H0 Ri H (Rs.blk lL [.sl ⟨Ir,Dd,Iv⟩,.i Vs]::Rs.own ⟨Is,De,Iw⟩ (eSl eI).z Iz::Rs.own ⟨It,Df,Ix⟩ cC.z IA::Rs.own ⟨Iu,Dg,Iy⟩ eI.z IB::R0) λR=>ROs (ac eI (ac eI (ac eI (ac eI eI)))) H R ⟨Ir,Dd,Iv⟩ oE/\CR (eSl eI) H R Iz qn/\CR cC H R IA lZ/\CR eI H R IB qo)->∀ {r:atf},pC oE qn lZ ko qo gp=some r->Rt (C lL 0 ⟨Is,De,Iw⟩ ⟨It,Df,Ix⟩ ko ⟨Iu,Dg,Iy⟩ gp H) (aP.Q H0 Ri R0  r)
def aP.pj5 (F:Nat) (ar:atA) (xN:atb) (xO:atf) (xP:atV) (se:Int):Option (List (List Int)):=ar xN xO xP (wrap .i64 (se+1))
theorem aP.j5_P  {C61_:ats} {ar:atA} (hC61:aP.S61 H0 Ri R0  C61_ ar) {Vt Vu Vv IC AG ID IE Vw Vx Vy xN ai1 se xO Vz VA xP} (ai2:IC=xN.length) (ai3:ID=xO.length) (ai4:IE=xP.length) (h0:Out H0 Ri H (Rs.blk AG [.sl ⟨Vt,IC,Vw⟩,.i ai1]::Rs.own ⟨Vu,ID,Vx⟩ (eSl eI).z Vz::Rs.own ⟨Vv,IE,Vy⟩ cC.z VA::R0) λR=>ROs (ac eI (ac eI (ac eI (ac eI eI)))) H R ⟨Vt,IC,Vw⟩ xN/\CR (eSl eI) H R Vz xO/\CR cC H R VA xP) {r:atf} (hp:aP.pj5 F ar xN xO xP se=some r):Rt (aP.j5 F (dc.tw F) C61_ AG 0 ⟨Vu,ID,Vx⟩ ⟨Vv,IE,Vy⟩ se H) (aP.Q H0 Ri R0  r):=by
 obtain ⟨w0,s0,ai5,ai6,ai7⟩:=h0
 subst ai2
 subst ai3
 subst ai4
 unfold aP.pj5 at hp
 unfold aP.j5
 exact hC61 rfl rfl rfl ⟨w0,s0,ai5,ai6,ai7⟩ hp
def aP.pj6 (F:Nat) (ar:atA) (xQ:atb) (xR:atf) (xS:atV) (kn:Int) (qp:as6):Option (List (List Int)):=(apn xR ([qp]:List (List Int))).bind λl3=>aP.pj5 F ar xQ l3 xS kn
theorem aP.j6_P  {C61_:ats} {ar:atA} (hC61:aP.S61 H0 Ri R0  C61_ ar) {VB VC VD VE IF AH IG IH II VF VG VH VI xQ ai8 kn xR VJ VK VL xS qp} (ai9:IF=xQ.length) (ai_:IG=xR.length) (aja:IH=xS.length) (ajb:II=qp.length) (h0:Out H0 Ri H (Rs.blk AH [.sl ⟨VB,IF,VF⟩,.i ai8]::Rs.own ⟨VC,IG,VG⟩ (eSl eI).z VJ::Rs.own ⟨VD,IH,VH⟩ cC.z VK::Rs.own ⟨VE,II,VI⟩ eI.z VL::R0) λR=>ROs (ac eI (ac eI (ac eI (ac eI eI)))) H R ⟨VB,IF,VF⟩ xQ/\CR (eSl eI) H R VJ xR/\CR cC H R VK xS/\CR eI H R VL qp) {r:atf} (hp:aP.pj6 F ar xQ xR xS kn qp=some r):Rt (aP.j6 F (dc.tw F) C61_ AH 0 ⟨VC,IG,VG⟩ ⟨VD,IH,VH⟩ kn ⟨VE,II,VI⟩ H) (aP.Q H0 Ri R0  r):=by
 obtain ⟨w0,s0,ajc,ajd,aje,ajf⟩:=h0
 subst ai9
 subst ai_
 subst aja
 subst ajb
 unfold aP.pj6 at hp
 unfold aP.j6
 obtain ⟨w1,s1,f1⟩:=w0.frz (i:=3) eI rfl ajf
 refine cK (eSl eI) w1 (n:=1) (l:=([qp]:List (List Int))) rfl (CR.cons1 ⟨_,rfl,f1⟩ CR.empty) rfl λH2 w2 s2 c2=>?_
 refine ai (w2.rowo (i:=0) rfl) ?_
 obtain ⟨l3,e3,hp⟩:=ag hp
 refine fz (eSl eI) w2 (i:=2) rfl rfl (ajd.step (s1.trans s2)) c2 (show 1=List.length ([qp]:List (List Int)) from rfl) rfl e3 λa4 d4 H4 w4 s4 c4 x4=>?_
 obtain ⟨w5,s5⟩:=w4.pp [1,2,3] 4
 exact aP.j5_P (@hC61) rfl rfl rfl ⟨w5,(s0.trans (s1.trans (s2.trans (s4.trans s5)))),(ajc.step (s1.trans (s2.trans (s4.trans s5)))),(c4.step s5),(aje.step (s1.trans (s2.trans (s4.trans s5))))⟩ hp
def aP.pl7853 (F:Nat) (ar:atA):Nat->List (Int×Int×Int×Int×Int)->List (List Int)->List Bool->Int->List Int->Int->Option (List (List Int))
 | 0,_,_,_,_,_,_=>none
 | k+1,oE,qn,lZ,ko,qo,gp=>(ix lZ gp).bind λn1=>(bif (!(gt lZ n1)) then ((ix lZ gp).bind λn2=>(some (lZ.set n2 true)).bind λl3=>(apn qo ([gp]:List Int)).bind λl6=>(dc.p F oE gp).bind λr8=>aP.pl7853 F ar k oE qn l3 ko l6 r8) else (aP.pj6 F ar oE qn lZ ko qo))
theorem aP.l7853_P  {C61_:ats} {ar:atA} (hC61:aP.S61 H0 Ri R0  C61_ ar):∀ k,aP.S7853 H0 Ri R0  (aP.l7853 F (dc.tw F) C61_ k) (aP.pl7853 F ar k):=by
 intro k
 induction k with
 | zero=>unfold aP.S7853;intros;rename_i hp;cases hp
 | succ k ih=>
  intro Ir Is It Iu Dd lL De Df Dg Iv Iw Ix Iy oE Vs ko gp qn Iz IA IB lZ qo H ajg ajh aji ajj h0 r hp
  obtain ⟨w0,s0,IJ,VM,Dh,VN⟩:=h0
  subst ajg
  subst ajh
  subst aji
  subst ajj
  unfold aP.pl7853 at hp
  unfold aP.l7853
  obtain ⟨n1,g1,hp⟩:=ag hp
  obtain ⟨p1,q1,i1,h1,j1⟩:=W.ixo (E:=cC) w0 (i:=2) rfl rfl Dh g1
  refine ai i1 ?_
  have h1:_=[_]:=h1
  subst h1
  refine ai (wE (j1 0 _ rfl)) ?_
  refine ay hp (λhp=>?_) λhp=>?_
  ·obtain ⟨n2,g2,hp⟩:=ag hp
   obtain ⟨p2,q2,i2,h2,j2⟩:=W.ixo (E:=cC) w0 (i:=2) rfl rfl Dh g2
   refine ai i2 ?_
   obtain ⟨l3,e3,hp⟩:=ag hp
   refine dC cC w0 (i:=2) (j:=0) (p:=p2) rfl rfl Dh g2 i2 e3 rfl rfl (λ_ h=>by have h:_=[_]:=h;subst h;exact rfl) λH4 k4 w4 s4 c4=>?_
   refine cK eI w4 (n:=1) (l:=([gp]:List Int)) rfl (CR.cons1 rfl CR.empty) rfl λH5 w5 s5 c5=>?_
   refine ai (w5.rowo (i:=0) rfl) ?_
   obtain ⟨l6,e6,hp⟩:=ag hp
   refine fz eI w5 (i:=4) rfl rfl (VN.step (s4.trans s5)) c5 (show 1=List.length ([gp]:List Int) from rfl) rfl e6 λa7 d7 H7 w7 s7 c7 x7=>?_
   refine lSl w7 1 ?_
   refine lI w7 1 ?_
   obtain ⟨r8,e8,hp⟩:=ag hp
   refine aE (dc.P rfl ⟨w7,(IJ.step (s4.trans (s5.trans s7)))⟩ e8) ?_
   rintro _ H9 ⟨rfl,w9,s9,_⟩
   refine br ?_
   obtain ⟨w10,s10⟩:=w9.pp [1,2,3,4] 5
   exact ih rfl rfl ((cz e3).symm) rfl ⟨w10,(s0.trans (s4.trans (s5.trans (s7.trans (s9.trans s10))))),(IJ.step (s4.trans (s5.trans (s7.trans (s9.trans s10))))),(VM.step (s4.trans (s5.trans (s7.trans (s9.trans s10))))),(c4.step (s5.trans (s7.trans (s9.trans s10)))),(c7.step (s9.trans s10))⟩ hp
  ·exact aP.j6_P (@hC61) rfl rfl rfl rfl ⟨w0,s0,IJ,VM,Dh,VN⟩ hp
def aP.pl61 (F:Nat) :Nat->List (Int×Int×Int×Int×Int)->List (List Int)->List Bool->Int->Option (List (List Int))
 | 0,_,_,_,_=>none
 | k+1,dP,oD,gj,eZ=>(bif (decide (eZ<(gj.length:Int))) then ((ix gj eZ).bind λn1=>(bif (gt gj n1) then (aP.pj4 F (aP.pl61 F k) dP oD gj eZ) else (aP.pl7853 F (aP.pl61 F k) F dP oD gj eZ ([]:List Int) eZ))) else (some oD))
theorem aP.l61_P  :∀ k,aP.S61 H0 Ri R0  (aP.l61 F (dc.tw F)  k) (aP.pl61 F  k):=by
 intro k
 induction k with
 | zero=>unfold aP.S61;intros;rename_i hp;cases hp
 | succ k ih=>
  intro pU Ih pV mY fB Dc mZ pW Ii pX dP xz eZ oD Ij pZ gj H H_ ajk Ia h0 r hp
  obtain ⟨w0,s0,vP,IK,vQ⟩:=h0
  subst H_
  subst ajk
  subst Ia
  unfold aP.pl61 at hp
  unfold aP.l61
  refine ay hp (λhp=>?_) λhp=>?_
  ·obtain ⟨n1,g1,hp⟩:=ag hp
   obtain ⟨p1,q1,i1,h1,j1⟩:=W.ixo (E:=cC) w0 (i:=2) rfl rfl vQ g1
   refine ai i1 ?_
   have h1:_=[_]:=h1
   subst h1
   refine ai (wE (j1 0 _ rfl)) ?_
   refine ay hp (λhp=>?_) λhp=>?_
   ·exact aP.j4_P (@ih) rfl rfl rfl ⟨w0,s0,vP,IK,vQ⟩ hp
   ·refine cK eI w0 (n:=0) (l:=([]:List Int)) rfl CR.empty rfl λH2 w2 s2 c2=>?_
    obtain ⟨w3,s3⟩:=w2.pp [1,2,3,0] 4
    exact aP.l7853_P (@ih) F rfl rfl rfl (show 0=List.length ([]:List Int) from rfl) ⟨w3,(s0.trans (s2.trans s3)),(vP.step (s2.trans s3)),(IK.step (s2.trans s3)),(vQ.step (s2.trans s3)),(c2.step s3)⟩ hp
  ·obtain ⟨w4,s4⟩:=w0.pp [1] 3
   exact az hp ⟨_,_,_,_,rfl,rfl,w4,(s0.trans s4),(IK.step s4)⟩
def aP.p (F:Nat) (ah:atb):Option (List (List Int)):=(mkn (wrap .i64 (4 * (ah.length:Int))) false).bind λl3=>aP.pl61 F F ah ([]:List (List Int)) l3 0
theorem aP.P {aB ak aC ah af} (ba:ak=ah.length) (h0:Inn H R0 λR=>ROs (ac eI (ac eI (ac eI (ac eI eI)))) H R ⟨aB,ak,aC⟩ ah) {r:atf} (hp:aP.p F ah=some r):Rt (aP.tw F ⟨aB,ak,aC⟩ af H) (aP.Q H R0 R0  r):=by
 obtain ⟨w0,aO⟩:=h0
 subst ba
 unfold aP.p at hp
 unfold aP.tw aP.twX
 have s0:=w0.rf
 refine aS w0 λH1 w1 s1=>?_
 refine cK (eSl eI) w1 (n:=0) (l:=([]:List (List Int))) rfl CR.empty rfl λH2 w2 s2 c2=>?_
 refine lSl w2 1 ?_
 obtain ⟨l3,e3,hp⟩:=ag hp
 refine ka cC false w2 rfl rfl rfl e3 λH4 k4 w4 s4 c4=>?_
 obtain ⟨w5,s5⟩:=w4.pp [2,1,0] 3
 exact aP.l61_P F rfl (show 0=List.length ([]:List (List Int)) from rfl) rfl ⟨w5,(s0.trans (s1.trans (s2.trans (s4.trans s5)))),(aO.step (s1.trans (s2.trans (s4.trans s5)))),(c2.step (s4.trans s5)),(c4.step s5)⟩ hp
def aD.Q (H0:Hp) (Ri R0:as3)  (r:as6) (v:AV) (H':Hp):Prop:=∃ o0a:ON,∃ o0n:Nat,∃ o0c:Cap,∃ o0k:List AV,v=(.sl ⟨o0a,o0n,o0c⟩)/\o0n=(r).length/\Out H0 Ri H' (Rs.own ⟨o0a,o0n,o0c⟩ eI.z o0k::R0) λR=>CR eI H' R o0k (r)
def aD.S29 (H0:Hp) (Ri R0:as3)  (C:atp) (pC:atE):Prop:=∀ {qq IL m_ dd Di qr IM gL na dN qs IN},∀ {H:Hp},m_=gL.length->Di=qs.length->(Out H0 Ri H (Rs.blk dd [.sl ⟨qq,m_,qr⟩,.i na]::Rs.own ⟨IL,Di,IM⟩ eI.z IN::R0) λR=>ROs (ac eI (ac eI (ac eI (ac eI eI)))) H R ⟨qq,m_,qr⟩ gL/\CR eI H R IN qs)->∀ {r:as6},pC gL qs dN=some r->Rt (C dd 0 ⟨IL,Di,IM⟩ dN H) (aD.Q H0 Ri R0  r)
def aD.S61 (H0:Hp) (Ri R0:as3)  (C:atp) (pC:atE):Prop:=∀ {IP IQ Dj jL Dk IR IS nb VO g_ lx IT},∀ {H:Hp},Dj=nb.length->Dk=lx.length->(Out H0 Ri H (Rs.blk jL [.sl ⟨IP,Dj,IR⟩,.i VO]::Rs.own ⟨IQ,Dk,IS⟩ eI.z IT::R0) λR=>ROs (ac eI (ac eI (ac eI (ac eI eI)))) H R ⟨IP,Dj,IR⟩ nb/\CR eI H R IT lx)->∀ {r:as6},pC nb lx g_=some r->Rt (C jL 0 ⟨IQ,Dk,IS⟩ g_ H) (aD.Q H0 Ri R0  r)
def aD.S7855 (H0:Hp) (Ri R0:as3)  (C:atU) (pC:at8):Prop:=∀ {IU IV Dl mF Dm IW IX oF VP iX fE fF gq jQ IY},∀ {H:Hp},Dl=oF.length->Dm=jQ.length->(Out H0 Ri H (Rs.blk mF [.sl ⟨IU,Dl,IW⟩,.i VP]::Rs.own ⟨IV,Dm,IX⟩ eI.z IY::R0) λR=>ROs (ac eI (ac eI (ac eI (ac eI eI)))) H R ⟨IU,Dl,IW⟩ oF/\CR eI H R IY jQ)->∀ {r:as6},pC oF jQ iX fE fF gq=some r->Rt (C mF 0 ⟨IV,Dm,IX⟩ iX fE fF gq H) (aD.Q H0 Ri R0  r)
def aD.pj8 (F:Nat) (Dn:at8) (xT:atb) (xU:as6) (sq:Int) (su:Int) (sv:Int) (sw:Int):Option (List Int):=Dn xT xU sq su sv (wrap .i64 (sw+1))
theorem aD.j8_P  {C7855_:atU} {Dn:at8} (hC7855:aD.S7855 H0 Ri R0  C7855_ Dn) {VQ VR IZ AL I_ VS VT xT ajl sq su sv sw xU VU} (ajm:IZ=xT.length) (ajn:I_=xU.length) (h0:Out H0 Ri H (Rs.blk AL [.sl ⟨VQ,IZ,VS⟩,.i ajl]::Rs.own ⟨VR,I_,VT⟩ eI.z VU::R0) λR=>ROs (ac eI (ac eI (ac eI (ac eI eI)))) H R ⟨VQ,IZ,VS⟩ xT/\CR eI H R VU xU) {r:as6} (hp:aD.pj8 F Dn xT xU sq su sv sw=some r):Rt (aD.j8 F (aK.tw F) C7855_ AL 0 ⟨VR,I_,VT⟩ sq su sv sw H) (aD.Q H0 Ri R0  r):=by
 obtain ⟨w0,s0,ajo,ajp⟩:=h0
 subst ajm
 subst ajn
 unfold aD.pj8 at hp
 unfold aD.j8
 exact hC7855 rfl rfl ⟨w0,s0,ajo,ajp⟩ hp
def aD.pj6 (F:Nat) (ar:atE) (xV:atb) (xW:as6) (sj:Int):Option (List Int):=ar xV xW (wrap .i64 (sj+1))
theorem aD.j6_P  {C61_:atp} {ar:atE} (hC61:aD.S61 H0 Ri R0  C61_ ar) {VV VW Ja AJ Jb VX VY xV ajq sj xW VZ} (ajr:Ja=xV.length) (ajs:Jb=xW.length) (h0:Out H0 Ri H (Rs.blk AJ [.sl ⟨VV,Ja,VX⟩,.i ajq]::Rs.own ⟨VW,Jb,VY⟩ eI.z VZ::R0) λR=>ROs (ac eI (ac eI (ac eI (ac eI eI)))) H R ⟨VV,Ja,VX⟩ xV/\CR eI H R VZ xW) {r:as6} (hp:aD.pj6 F ar xV xW sj=some r):Rt (aD.j6 F (aK.tw F) C61_ AJ 0 ⟨VW,Jb,VY⟩ sj H) (aD.Q H0 Ri R0  r):=by
 obtain ⟨w0,s0,ajt,aju⟩:=h0
 subst ajr
 subst ajs
 unfold aD.pj6 at hp
 unfold aD.j6
 exact hC61 rfl rfl ⟨w0,s0,ajt,aju⟩ hp
def aD.pj7 (F:Nat) (ar:atE) (xX:atb) (xY:as6) (nC:Int):Option (List Int):=aD.pj6 F ar xX xY nC
theorem aD.j7_P  {C61_:atp} {ar:atE} (hC61:aD.S61 H0 Ri R0  C61_ ar) {V_ Wa Jc AK Jd Wb Wc xX ajv nC xY Wd} (ajw:Jc=xX.length) (ajx:Jd=xY.length) (h0:Out H0 Ri H (Rs.blk AK [.sl ⟨V_,Jc,Wb⟩,.i ajv]::Rs.own ⟨Wa,Jd,Wc⟩ eI.z Wd::R0) λR=>ROs (ac eI (ac eI (ac eI (ac eI eI)))) H R ⟨V_,Jc,Wb⟩ xX/\CR eI H R Wd xY) {r:as6} (hp:aD.pj7 F ar xX xY nC=some r):Rt (aD.j7 F (aK.tw F) C61_ AK 0 ⟨Wa,Jd,Wc⟩ nC H) (aD.Q H0 Ri R0  r):=by
 obtain ⟨w0,s0,ajy,ajz⟩:=h0
 subst ajw
 subst ajx
 unfold aD.pj7 at hp
 unfold aD.j7
 exact aD.j6_P (@hC61) rfl rfl ⟨w0,s0,ajy,ajz⟩ hp
def aD.pl7855 (F:Nat) (ar:atE):Nat->List (Int×Int×Int×Int×Int)->List Int->Int->Int->Int->Int->Option (List Int)
 | 0,_,_,_,_,_,_=>none
 | k+1,oF,jQ,iX,fE,fF,gq=>(bif (decide (gq<(jQ.length:Int))) then ((ix jQ gq).bind λn1=>(bif ((gt jQ n1)==(if fF>fE then fF else fE)) then ((ix jQ gq).bind λn2=>(some (jQ.set n2 (if fF<fE then fF else fE))).bind λl3=>aD.pj8 F (aD.pl7855 F ar k) oF l3 iX fE fF gq) else (aD.pj8 F (aD.pl7855 F ar k) oF jQ iX fE fF gq))) else (aD.pj7 F ar oF jQ iX))
theorem aD.l7855_P  {C61_:atp} {ar:atE} (hC61:aD.S61 H0 Ri R0  C61_ ar):∀ k,aD.S7855 H0 Ri R0  (aD.l7855 F (aK.tw F) C61_ k) (aD.pl7855 F ar k):=by
 intro k
 induction k with
 | zero=>unfold aD.S7855;intros;rename_i hp;cases hp
 | succ k ih=>
  intro IU IV Dl mF Dm IW IX oF VP iX fE fF gq jQ IY H ajA ajB h0 r hp
  obtain ⟨w0,s0,Je,xZ⟩:=h0
  subst ajA
  subst ajB
  unfold aD.pl7855 at hp
  unfold aD.l7855
  refine ay hp (λhp=>?_) λhp=>?_
  ·obtain ⟨n1,g1,hp⟩:=ag hp
   obtain ⟨p1,q1,i1,h1,j1⟩:=W.ixo (E:=eI) w0 (i:=1) rfl rfl xZ g1
   refine ai i1 ?_
   have h1:_=[_]:=h1
   subst h1
   refine ai (aG (j1 0 _ rfl)) ?_
   refine ay hp (λhp=>?_) λhp=>?_
   ·obtain ⟨n2,g2,hp⟩:=ag hp
    obtain ⟨p2,q2,i2,h2,j2⟩:=W.ixo (E:=eI) w0 (i:=1) rfl rfl xZ g2
    refine ai i2 ?_
    obtain ⟨l3,e3,hp⟩:=ag hp
    refine dC eI w0 (i:=1) (j:=0) (p:=p2) rfl rfl xZ g2 i2 e3 rfl rfl (λ_ h=>by have h:_=[_]:=h;subst h;exact rfl) λH4 k4 w4 s4 c4=>?_
    exact aD.j8_P (@ih) rfl ((cz e3).symm) ⟨w4,(s0.trans s4),(Je.step s4),c4⟩ hp
   ·exact aD.j8_P (@ih) rfl rfl ⟨w0,s0,Je,xZ⟩ hp
  ·exact aD.j7_P (@hC61) rfl rfl ⟨w0,s0,Je,xZ⟩ hp
def aD.pl61 (F:Nat) :Nat->List (Int×Int×Int×Int×Int)->List Int->Int->Option (List Int)
 | 0,_,_,_=>none
 | k+1,nb,lx,g_=>(bif (decide (g_<(wrap .i64 (2 * (nb.length:Int))))) then ((aK.p F nb g_ true).bind λr1=>(aK.p F nb g_ false).bind λr3=>(ix lx r1.1).bind λn5=>(ix lx r3.1).bind λn6=>aD.pl7855 F (aD.pl61 F k) F nb lx g_ (gt lx n5) (gt lx n6) 0) else (some lx))
theorem aD.l61_P  :∀ k,aD.S61 H0 Ri R0  (aD.l61 F (aK.tw F)  k) (aD.pl61 F  k):=by
 intro k
 induction k with
 | zero=>unfold aD.S61;intros;rename_i hp;cases hp
 | succ k ih=>
  intro IP IQ Dj jL Dk IR IS nb VO g_ lx IT H ajC ajD h0 r hp
  obtain ⟨w0,s0,Jf,Do⟩:=h0
  subst ajC
  subst ajD
  unfold aD.pl61 at hp
  unfold aD.l61
  refine lSl w0 0 ?_
  refine ay hp (λhp=>?_) λhp=>?_
  ·refine lSl w0 0 ?_
   refine lI w0 0 ?_
   obtain ⟨r1,e1,hp⟩:=ag hp
   refine aE (aK.P rfl ⟨w0,Jf⟩ e1) ?_
   rintro _ H2 ⟨rfl,w2,s2,_⟩
   refine br (br (br (br (br ?_))))
   refine lSl w2 0 ?_
   refine lI w2 0 ?_
   obtain ⟨r3,e3,hp⟩:=ag hp
   refine aE (aK.P rfl ⟨w2,(Jf.step s2)⟩ e3) ?_
   rintro _ H4 ⟨rfl,w4,s4,_⟩
   refine br (br (br (br (br ?_))))
   obtain ⟨n5,g5,hp⟩:=ag hp
   obtain ⟨p5,q5,i5,h5,j5⟩:=W.ixo (E:=eI) w4 (i:=1) rfl rfl (Do.step (s2.trans s4)) g5
   refine ai i5 ?_
   have h5:_=[_]:=h5
   subst h5
   refine ai (aG (j5 0 _ rfl)) ?_
   obtain ⟨n6,g6,hp⟩:=ag hp
   obtain ⟨p6,q6,i6,h6,j6⟩:=W.ixo (E:=eI) w4 (i:=1) rfl rfl (Do.step (s2.trans s4)) g6
   refine ai i6 ?_
   have h6:_=[_]:=h6
   subst h6
   refine ai (aG (j6 0 _ rfl)) ?_
   exact aD.l7855_P (@ih) F rfl rfl ⟨w4,(s0.trans (s2.trans s4)),(Jf.step (s2.trans s4)),(Do.step (s2.trans s4))⟩ hp
  ·obtain ⟨w7,s7⟩:=w0.pp [1] 2
   exact az hp ⟨_,_,_,_,rfl,rfl,w7,(s0.trans s7),(Do.step s7)⟩
def aD.pj9 (F:Nat)  (x_:atb) (ya:as6):Option (List Int):=aD.pl61 F F x_ ya 0
theorem aD.j9_P   {We Wf Jg AN Jh Wg Wh x_ ajE ya Wi} (ajF:Jg=x_.length) (ajG:Jh=ya.length) (h0:Out H0 Ri H (Rs.blk AN [.sl ⟨We,Jg,Wg⟩,.i ajE]::Rs.own ⟨Wf,Jh,Wh⟩ eI.z Wi::R0) λR=>ROs (ac eI (ac eI (ac eI (ac eI eI)))) H R ⟨We,Jg,Wg⟩ x_/\CR eI H R Wi ya) {r:as6} (hp:aD.pj9 F  x_ ya=some r):Rt (aD.j9 F (aK.tw F)  AN 0 ⟨Wf,Jh,Wh⟩ H) (aD.Q H0 Ri R0  r):=by
 obtain ⟨w0,s0,ajH,ajI⟩:=h0
 subst ajF
 subst ajG
 unfold aD.pj9 at hp
 unfold aD.j9
 exact aD.l61_P F rfl rfl ⟨w0,s0,ajH,ajI⟩ hp
def aD.pl29 (F:Nat) :Nat->List (Int×Int×Int×Int×Int)->List Int->Int->Option (List Int)
 | 0,_,_,_=>none
 | k+1,gL,qs,dN=>(bif (decide (dN<(gL.length:Int))) then ((apn qs ([dN]:List Int)).bind λl2=>aD.pl29 F k gL l2 (wrap .i64 (dN+1))) else (aD.pj9 F gL qs))
theorem aD.l29_P  :∀ k,aD.S29 H0 Ri R0  (aD.l29 F (aK.tw F)  k) (aD.pl29 F  k):=by
 intro k
 induction k with
 | zero=>unfold aD.S29;intros;rename_i hp;cases hp
 | succ k ih=>
  intro qq IL m_ dd Di qr IM gL na dN qs IN H Ji ajJ h0 r hp
  obtain ⟨w0,s0,yb,Wj⟩:=h0
  subst Ji
  subst ajJ
  unfold aD.pl29 at hp
  unfold aD.l29
  refine lSl w0 0 ?_
  refine ay hp (λhp=>?_) λhp=>?_
  ·refine cK eI w0 (n:=1) (l:=([dN]:List Int)) rfl (CR.cons1 rfl CR.empty) rfl λH1 w1 s1 c1=>?_
   refine ai (w1.rowo (i:=0) rfl) ?_
   obtain ⟨l2,e2,hp⟩:=ag hp
   refine fz eI w1 (i:=2) rfl rfl (Wj.step s1) c1 (show 1=List.length ([dN]:List Int) from rfl) rfl e2 λa3 d3 H3 w3 s3 c3 x3=>?_
   obtain ⟨w4,s4⟩:=w3.pp [1,2] 3
   exact ih rfl rfl ⟨w4,(s0.trans (s1.trans (s3.trans s4))),(yb.step (s1.trans (s3.trans s4))),(c3.step s4)⟩ hp
  ·exact aD.j9_P rfl rfl ⟨w0,s0,yb,Wj⟩ hp
def aD.p (F:Nat) (ah:atb):Option (List Int):=aD.pl29 F F ah ([]:List Int) 0
theorem aD.P {aB ak aC ah af} (ba:ak=ah.length) (h0:Inn H R0 λR=>ROs (ac eI (ac eI (ac eI (ac eI eI)))) H R ⟨aB,ak,aC⟩ ah) {r:as6} (hp:aD.p F ah=some r):Rt (aD.tw F ⟨aB,ak,aC⟩ af H) (aD.Q H R0 R0  r):=by
 obtain ⟨w0,aO⟩:=h0
 subst ba
 unfold aD.p at hp
 unfold aD.tw aD.twX
 have s0:=w0.rf
 refine aS w0 λH1 w1 s1=>?_
 refine cK eI w1 (n:=0) (l:=([]:List Int)) rfl CR.empty rfl λH2 w2 s2 c2=>?_
 obtain ⟨w3,s3⟩:=w2.pp [1,0] 2
 exact aD.l29_P F rfl (show 0=List.length ([]:List Int) from rfl) ⟨w3,(s0.trans (s1.trans (s2.trans s3))),(aO.step (s1.trans (s2.trans s3))),(c2.step s3)⟩ hp
def bw.Q (H0:Hp) (Ri R0:as3)  (r:Int) (v:AV) (H':Hp):Prop:=v=(.i r)/\Out H0 Ri H' (R0) λR=>True
def bw.S61 (H0:Hp) (Ri R0:as3)  (C:atu) (pC:at9):Prop:=∀ {iY gr Jj Dp Jk l_ Jl},∀ {H:Hp},Dp=l_.length->(Out H0 Ri H (Rs.own ⟨Jj,Dp,Jk⟩ eI.z Jl::R0) λR=>CR eI H R Jl l_)->∀ {r:Int},pC iY l_ gr=some r->Rt (C iY ⟨Jj,Dp,Jk⟩ gr H) (bw.Q H0 Ri R0  r)
def bw.pj2 (F:Nat) (ar:at9) (sB:Int) (yc:as6) (sC:Int):Option (Int):=ar sB yc (wrap .i64 (sC+1))
theorem bw.j2_P  {C61_:atu} {ar:at9} (hC61:bw.S61 H0 Ri R0  C61_ ar) {sB sC Wk Jm Wl yc Wm} (ajK:Jm=yc.length) (h0:Out H0 Ri H (Rs.own ⟨Wk,Jm,Wl⟩ eI.z Wm::R0) λR=>CR eI H R Wm yc) {r:Int} (hp:bw.pj2 F ar sB yc sC=some r):Rt (bw.j2 F (aD.tw F) C61_ sB ⟨Wk,Jm,Wl⟩ sC H) (bw.Q H0 Ri R0  r):=by
 obtain ⟨w0,s0,ajL⟩:=h0
 subst ajK
 unfold bw.pj2 at hp
 unfold bw.j2
 exact hC61 rfl ⟨w0,s0,ajL⟩ hp
def bw.pl61 (F:Nat) :Nat->Int->List Int->Int->Option (Int)
 | 0,_,_,_=>none
 | k+1,iY,l_,gr=>(bif (decide (gr<(l_.length:Int))) then ((ix l_ gr).bind λn1=>(bif ((gt l_ n1)==gr) then (bw.pj2 F (bw.pl61 F k) (wrap .i64 (iY+1)) l_ gr) else (bw.pj2 F (bw.pl61 F k) iY l_ gr))) else (some iY))
theorem bw.l61_P  :∀ k,bw.S61 H0 Ri R0  (bw.l61 F (aD.tw F)  k) (bw.pl61 F  k):=by
 intro k
 induction k with
 | zero=>unfold bw.S61;intros;rename_i hp;cases hp
 | succ k ih=>
  intro iY gr Jj Dp Jk l_ Jl H ajM h0 r hp
  obtain ⟨w0,s0,Jn⟩:=h0
  subst ajM
  unfold bw.pl61 at hp
  unfold bw.l61
  refine ay hp (λhp=>?_) λhp=>?_
  ·obtain ⟨n1,g1,hp⟩:=ag hp
   obtain ⟨p1,q1,i1,h1,j1⟩:=W.ixo (E:=eI) w0 (i:=0) rfl rfl Jn g1
   refine ai i1 ?_
   have h1:_=[_]:=h1
   subst h1
   refine ai (aG (j1 0 _ rfl)) ?_
   refine ay hp (λhp=>?_) λhp=>?_
   ·exact bw.j2_P (@ih) rfl ⟨w0,s0,Jn⟩ hp
   ·exact bw.j2_P (@ih) rfl ⟨w0,s0,Jn⟩ hp
  ·obtain ⟨w2,s2⟩:=w0.pp [] 1
   exact az hp ⟨rfl,w2,(s0.trans s2),trivial⟩
def bw.p (F:Nat) (ah:atb):Option (Int):=(aD.p F ah).bind λr2=>bw.pl61 F F 0 r2 0
theorem bw.P {aB ak aC ah af} (ba:ak=ah.length) (h0:Inn H R0 λR=>ROs (ac eI (ac eI (ac eI (ac eI eI)))) H R ⟨aB,ak,aC⟩ ah) {r:Int} (hp:bw.p F ah=some r):Rt (bw.tw F ⟨aB,ak,aC⟩ af H) (bw.Q H R0 R0  r):=by
 obtain ⟨w0,aO⟩:=h0
 subst ba
 unfold bw.p at hp
 unfold bw.tw bw.twX
 have s0:=w0.rf
 refine aS w0 λH1 w1 s1=>?_
 refine lSl w1 0 ?_
 refine lI w1 0 ?_
 obtain ⟨r2,e2,hp⟩:=ag hp
 refine aE (aD.P rfl ⟨w1,(aO.step s1)⟩ e2) ?_
 rintro _ H3 ⟨o0a_3,o0n_3,o0c_3,o0k_3,rfl,rfl,w3,s3,f3_0⟩
 refine br ?_
 obtain ⟨w4,s4⟩:=w3.pp [0] 2
 exact bw.l61_P F rfl ⟨w4,(s0.trans (s1.trans (s3.trans s4))),(f3_0.step s4)⟩ hp
def dE.Q (H0:Hp) (Ri R0:as3)  (r:Bool) (v:AV) (H':Hp):Prop:=v=(.bool r)/\Out H0 Ri H' (R0) λR=>True
def dE.p (F:Nat) (ah:atb) (af:Int):Option (Bool):=(bif (decide ((ah.length:Int)>10)) then (some false) else ((cR.p F af 0 8).bind λr3=>(bif (!r3) then (some false) else ((bc.p F ah).bind λr6=>(bif (!r6) then (some false) else ((aP.p F ah).bind λr9=>(bw.p F ah).bind λr12=>some ((r9.length:Int)==(wrap .i64 ((ah.length:Int)+(wrap .i64 (2 * r12)))))))))))
theorem dE.P {aB ak aC ah af} (ba:ak=ah.length) (h0:Inn H R0 λR=>ROs (ac eI (ac eI (ac eI (ac eI eI)))) H R ⟨aB,ak,aC⟩ ah) {r:Bool} (hp:dE.p F ah af=some r):Rt (dE.tw F ⟨aB,ak,aC⟩ af H) (dE.Q H R0 R0  r):=by
 obtain ⟨w0,aO⟩:=h0
 subst ba
 unfold dE.p at hp
 unfold dE.tw dE.twX
 have s0:=w0.rf
 refine aS w0 λH1 w1 s1=>?_
 refine lSl w1 0 ?_
 refine ay hp (λhp=>?_) λhp=>?_
 ·obtain ⟨w2,s2⟩:=w1.pp [] 1
  exact az hp ⟨rfl,w2,(s0.trans (s1.trans s2)),trivial⟩
 ·refine lI w1 0 ?_
  obtain ⟨r3,e3,hp⟩:=ag hp
  refine aE (cR.P ⟨w1,trivial⟩ e3) ?_
  rintro _ H4 ⟨rfl,w4,s4,_⟩
  refine br ?_
  refine ay hp (λhp=>?_) λhp=>?_
  ·obtain ⟨w5,s5⟩:=w4.pp [] 1
   exact az hp ⟨rfl,w5,(s0.trans (s1.trans (s4.trans s5))),trivial⟩
  ·refine lSl w4 0 ?_
   refine lI w4 0 ?_
   obtain ⟨r6,e6,hp⟩:=ag hp
   refine aE (bc.P rfl ⟨w4,(aO.step (s1.trans s4))⟩ e6) ?_
   rintro _ H7 ⟨rfl,w7,s7,_⟩
   refine br ?_
   refine ay hp (λhp=>?_) λhp=>?_
   ·obtain ⟨w8,s8⟩:=w7.pp [] 1
    exact az hp ⟨rfl,w8,(s0.trans (s1.trans (s4.trans (s7.trans s8)))),trivial⟩
   ·refine lSl w7 0 ?_
    refine lI w7 0 ?_
    obtain ⟨r9,e9,hp⟩:=ag hp
    refine aE (aP.P rfl ⟨w7,(aO.step (s1.trans (s4.trans s7)))⟩ e9) ?_
    rintro _ H10 ⟨o0a_10,o0n_10,o0c_10,o0k_10,rfl,rfl,w10,s10,f10_0⟩
    refine br ?_
    refine eK (W.cons_of (Rn:=[_]) w7 w10 s10) ?_
    refine lSl w10 1 ?_
    refine lSl w10 1 ?_
    refine lI w10 1 ?_
    obtain ⟨r12,e12,hp⟩:=ag hp
    refine aE (bw.P rfl ⟨w10,(aO.step (s1.trans (s4.trans (s7.trans s10))))⟩ e12) ?_
    rintro _ H13 ⟨rfl,w13,s13,_⟩
    refine br ?_
    refine eK (W.cons_of (Rn:=[]) w10 w13 s13) ?_
    obtain ⟨w15,s15⟩:=w13.pp [] 2
    exact az hp ⟨rfl,w15,(s0.trans (s1.trans (s4.trans (s7.trans (s10.trans (s13.trans s15)))))),trivial⟩
def aj.Q (H0:Hp) (Ri R0:as3)  (r:atn) (v:AV) (H':Hp):Prop:=∃ o0a:ON,∃ o0n:Nat,∃ o0c:Cap,∃ o0k:List AV,v=(.tup [(.sl ⟨o0a,o0n,o0c⟩),(.i r.2)])/\o0n=(r.1).length/\Out H0 Ri H' (Rs.own ⟨o0a,o0n,o0c⟩ eI.z o0k::R0) λR=>CR eI H' R o0k (r.1)
def aj.S29 (H0:Hp) (Ri R0:as3)  (C:atp) (pC:atF):Prop:=∀ {qq Jo m_ dd Dq qr Jp gL na et qt Jq},∀ {H:Hp},m_=gL.length->Dq=qt.length->(Out H0 Ri H (Rs.blk dd [.sl ⟨qq,m_,qr⟩,.i na]::Rs.own ⟨Jo,Dq,Jp⟩ eI.z Jq::R0) λR=>ROs (ac eI (ac eI (ac eI (ac eI eI)))) H R ⟨qq,m_,qr⟩ gL/\CR eI H R Jq qt)->∀ {r:atn},pC gL na qt et=some r->Rt (C dd 0 ⟨Jo,Dq,Jp⟩ et H) (aj.Q H0 Ri R0  r)
def aj.S61 (H0:Hp) (Ri R0:as3)  (C:atp) (pC:atF):Prop:=∀ {Jr Js Dr kp Ds Jt Ju ly vR hG lz Jv},∀ {H:Hp},Dr=ly.length->Ds=lz.length->(Out H0 Ri H (Rs.blk kp [.sl ⟨Jr,Dr,Jt⟩,.i vR]::Rs.own ⟨Js,Ds,Ju⟩ eI.z Jv::R0) λR=>ROs (ac eI (ac eI (ac eI (ac eI eI)))) H R ⟨Jr,Dr,Jt⟩ ly/\CR eI H R Jv lz)->∀ {r:atn},pC ly vR lz hG=some r->Rt (C kp 0 ⟨Js,Ds,Ju⟩ hG H) (aj.Q H0 Ri R0  r)
def aj.S1963 (H0:Hp) (Ri R0:as3)  (C:atU) (pC:aua):Prop:=∀ {Jw Jx Dt mH Du Jy Jz oG qu iZ fH fI gv jR JA},∀ {H:Hp},Dt=oG.length->Du=jR.length->(Out H0 Ri H (Rs.blk mH [.sl ⟨Jw,Dt,Jy⟩,.i qu]::Rs.own ⟨Jx,Du,Jz⟩ eI.z JA::R0) λR=>ROs (ac eI (ac eI (ac eI (ac eI eI)))) H R ⟨Jw,Dt,Jy⟩ oG/\CR eI H R JA jR)->∀ {r:atn},pC oG qu jR iZ fH fI gv=some r->Rt (C mH 0 ⟨Jx,Du,Jz⟩ iZ fH fI gv H) (aj.Q H0 Ri R0  r)
def aj.pj12 (F:Nat) (Dv:aua) (yd:atb) (Dw:Int) (ye:as6) (sO:Int) (sQ:Int) (sS:Int) (sT:Int):Option (List Int×Int):=Dv yd Dw ye sO sQ sS (wrap .i64 (sT+1))
theorem aj.j12_P  {C1963_:atU} {Dv:aua} (hC1963:aj.S1963 H0 Ri R0  C1963_ Dv) {Wn Wo JB AU JC Wp Wq yd Dw sO sQ sS sT ye Wr} (ajN:JB=yd.length) (ajO:JC=ye.length) (h0:Out H0 Ri H (Rs.blk AU [.sl ⟨Wn,JB,Wp⟩,.i Dw]::Rs.own ⟨Wo,JC,Wq⟩ eI.z Wr::R0) λR=>ROs (ac eI (ac eI (ac eI (ac eI eI)))) H R ⟨Wn,JB,Wp⟩ yd/\CR eI H R Wr ye) {r:atn} (hp:aj.pj12 F Dv yd Dw ye sO sQ sS sT=some r):Rt (aj.j12 F  C1963_ AU 0 ⟨Wo,JC,Wq⟩ sO sQ sS sT H) (aj.Q H0 Ri R0  r):=by
 obtain ⟨w0,s0,ajP,ajQ⟩:=h0
 subst ajN
 subst ajO
 unfold aj.pj12 at hp
 unfold aj.j12
 exact hC1963 rfl rfl ⟨w0,s0,ajP,ajQ⟩ hp
def aj.pj10 (F:Nat) (ar:atF) (yf:atb) (Dx:Int) (yg:as6) (sL:Int):Option (List Int×Int):=ar yf Dx yg (wrap .i64 (sL+1))
theorem aj.j10_P  {C61_:atp} {ar:atF} (hC61:aj.S61 H0 Ri R0  C61_ ar) {Ws Wt JD AS JE Wu Wv yf Dx sL yg Ww} (ajR:JD=yf.length) (ajS:JE=yg.length) (h0:Out H0 Ri H (Rs.blk AS [.sl ⟨Ws,JD,Wu⟩,.i Dx]::Rs.own ⟨Wt,JE,Wv⟩ eI.z Ww::R0) λR=>ROs (ac eI (ac eI (ac eI (ac eI eI)))) H R ⟨Ws,JD,Wu⟩ yf/\CR eI H R Ww yg) {r:atn} (hp:aj.pj10 F ar yf Dx yg sL=some r):Rt (aj.j10 F  C61_ AS 0 ⟨Wt,JE,Wv⟩ sL H) (aj.Q H0 Ri R0  r):=by
 obtain ⟨w0,s0,ajT,ajU⟩:=h0
 subst ajR
 subst ajS
 unfold aj.pj10 at hp
 unfold aj.j10
 exact hC61 rfl rfl ⟨w0,s0,ajT,ajU⟩ hp
def aj.pj11 (F:Nat) (ar:atF) (yh:atb) (Dy:Int) (yi:as6) (sM:Int):Option (List Int×Int):=aj.pj10 F ar yh Dy yi sM
theorem aj.j11_P  {C61_:atp} {ar:atF} (hC61:aj.S61 H0 Ri R0  C61_ ar) {Wx Wy JF AT JG Wz WA yh Dy sM yi WB} (ajV:JF=yh.length) (ajW:JG=yi.length) (h0:Out H0 Ri H (Rs.blk AT [.sl ⟨Wx,JF,Wz⟩,.i Dy]::Rs.own ⟨Wy,JG,WA⟩ eI.z WB::R0) λR=>ROs (ac eI (ac eI (ac eI (ac eI eI)))) H R ⟨Wx,JF,Wz⟩ yh/\CR eI H R WB yi) {r:atn} (hp:aj.pj11 F ar yh Dy yi sM=some r):Rt (aj.j11 F  C61_ AT 0 ⟨Wy,JG,WA⟩ sM H) (aj.Q H0 Ri R0  r):=by
 obtain ⟨w0,s0,ajX,ajY⟩:=h0
 subst ajV
 subst ajW
 unfold aj.pj11 at hp
 unfold aj.j11
 exact aj.j10_P (@hC61) rfl rfl ⟨w0,s0,ajX,ajY⟩ hp
def aj.pl1963 (F:Nat) (ar:atF):Nat->List (Int×Int×Int×Int×Int)->Int->List Int->Int->Int->Int->Int->Option (List Int×Int)
 | 0,_,_,_,_,_,_,_=>none
 | k+1,oG,qu,jR,iZ,fH,fI,gv=>(bif (decide (gv<(jR.length:Int))) then ((ix jR gv).bind λn1=>(bif ((gt jR n1)==(if fI>fH then fI else fH)) then ((ix jR gv).bind λn2=>(some (jR.set n2 (if fI<fH then fI else fH))).bind λl3=>aj.pj12 F (aj.pl1963 F ar k) oG qu l3 iZ fH fI gv) else (aj.pj12 F (aj.pl1963 F ar k) oG qu jR iZ fH fI gv))) else (aj.pj11 F ar oG qu jR iZ))
theorem aj.l1963_P  {C61_:atp} {ar:atF} (hC61:aj.S61 H0 Ri R0  C61_ ar):∀ k,aj.S1963 H0 Ri R0  (aj.l1963 F  C61_ k) (aj.pl1963 F ar k):=by
 intro k
 induction k with
 | zero=>unfold aj.S1963;intros;rename_i hp;cases hp
 | succ k ih=>
  intro Jw Jx Dt mH Du Jy Jz oG qu iZ fH fI gv jR JA H ajZ aj0 h0 r hp
  obtain ⟨w0,s0,JH,yj⟩:=h0
  subst ajZ
  subst aj0
  unfold aj.pl1963 at hp
  unfold aj.l1963
  refine ay hp (λhp=>?_) λhp=>?_
  ·obtain ⟨n1,g1,hp⟩:=ag hp
   obtain ⟨p1,q1,i1,h1,j1⟩:=W.ixo (E:=eI) w0 (i:=1) rfl rfl yj g1
   refine ai i1 ?_
   have h1:_=[_]:=h1
   subst h1
   refine ai (aG (j1 0 _ rfl)) ?_
   refine ay hp (λhp=>?_) λhp=>?_
   ·obtain ⟨n2,g2,hp⟩:=ag hp
    obtain ⟨p2,q2,i2,h2,j2⟩:=W.ixo (E:=eI) w0 (i:=1) rfl rfl yj g2
    refine ai i2 ?_
    obtain ⟨l3,e3,hp⟩:=ag hp
    refine dC eI w0 (i:=1) (j:=0) (p:=p2) rfl rfl yj g2 i2 e3 rfl rfl (λ_ h=>by have h:_=[_]:=h;subst h;exact rfl) λH4 k4 w4 s4 c4=>?_
    exact aj.j12_P (@ih) rfl ((cz e3).symm) ⟨w4,(s0.trans s4),(JH.step s4),c4⟩ hp
   ·exact aj.j12_P (@ih) rfl rfl ⟨w0,s0,JH,yj⟩ hp
  ·exact aj.j11_P (@hC61) rfl rfl ⟨w0,s0,JH,yj⟩ hp
def aj.S509 (H0:Hp) (Ri R0:as3)  (C:atW) (pC:aub):Prop:=∀ {JI JJ JK Dz mG DA DB JL JM JN JO qv gu fG jS jT JP JQ},∀ {H:Hp},Dz=JO.length->DA=jS.length->DB=jT.length->(Out H0 Ri H (Rs.blk mG [.sl ⟨JI,Dz,JL⟩,.i qv]::Rs.own ⟨JJ,DA,JM⟩ eI.z JP::Rs.own ⟨JK,DB,JN⟩ eI.z JQ::R0) λR=>ROs (ac eI (ac eI (ac eI (ac eI eI)))) H R ⟨JI,Dz,JL⟩ JO/\CR eI H R JP jS/\CR eI H R JQ jT)->∀ {r:atn},pC qv jS jT gu fG=some r->Rt (C mG 0 ⟨JJ,DA,JM⟩ ⟨JK,DB,JN⟩ gu fG H) (aj.Q H0 Ri R0  r)
def aj.pj7 (F:Nat) (DC:aub) (DE:Int) (yk:as6) (yl:as6) (sI:Int) (sJ:Int):Option (List Int×Int):=DC DE yk yl sI (wrap .i64 (sJ+1))
theorem aj.j7_P  {C509_:atW} {DC:aub} (hC509:aj.S509 H0 Ri R0  C509_ DC) {WC WD WE JR AP JS JT WG WH WI WJ DE sI sJ yk yl WK WL} (aj1:JR=WJ.length) (aj2:JS=yk.length) (aj3:JT=yl.length) (h0:Out H0 Ri H (Rs.blk AP [.sl ⟨WC,JR,WG⟩,.i DE]::Rs.own ⟨WD,JS,WH⟩ eI.z WK::Rs.own ⟨WE,JT,WI⟩ eI.z WL::R0) λR=>ROs (ac eI (ac eI (ac eI (ac eI eI)))) H R ⟨WC,JR,WG⟩ WJ/\CR eI H R WK yk/\CR eI H R WL yl) {r:atn} (hp:aj.pj7 F DC DE yk yl sI sJ=some r):Rt (aj.j7 F  C509_ AP 0 ⟨WD,JS,WH⟩ ⟨WE,JT,WI⟩ sI sJ H) (aj.Q H0 Ri R0  r):=by
 obtain ⟨w0,s0,aj4,aj5,aj6⟩:=h0
 subst aj1
 subst aj2
 subst aj3
 unfold aj.pj7 at hp
 unfold aj.j7
 exact hC509 rfl rfl rfl ⟨w0,s0,aj4,aj5,aj6⟩ hp
def aj.pj6 (F:Nat)  (DF:Int) (ym:as6) (sH:Int):Option (List Int×Int):=some (ym,(wrap .i64 (sH+DF)))
theorem aj.j6_P   {WM WN JU AO JV WO WP WQ DF sH ym WR} (aj7:JU=WQ.length) (aj8:JV=ym.length) (h0:Out H0 Ri H (Rs.blk AO [.sl ⟨WM,JU,WO⟩,.i DF]::Rs.own ⟨WN,JV,WP⟩ eI.z WR::R0) λR=>ROs (ac eI (ac eI (ac eI (ac eI eI)))) H R ⟨WM,JU,WO⟩ WQ/\CR eI H R WR ym) {r:atn} (hp:aj.pj6 F  DF ym sH=some r):Rt (aj.j6 F   AO 0 ⟨WN,JV,WP⟩ sH H) (aj.Q H0 Ri R0  r):=by
 obtain ⟨w0,s0,asp,aj9⟩:=h0
 subst aj7
 subst aj8
 unfold aj.pj6 at hp
 unfold aj.j6
 refine lI w0 0 ?_
 obtain ⟨w1,s1⟩:=w0.pp [1] 2
 exact az hp ⟨_,_,_,_,rfl,rfl,w1,(s0.trans s1),(aj9.step s1)⟩
def aj.pl509 (F:Nat) :Nat->Int->List Int->List Int->Int->Int->Option (List Int×Int)
 | 0,_,_,_,_,_=>none
 | k+1,qv,jS,jT,gu,fG=>(bif (decide (fG<(jS.length:Int))) then ((ix jS fG).bind λn1=>(bif ((gt jS n1)==fG) then ((apn jT ([gu]:List Int)).bind λl3=>aj.pj7 F (aj.pl509 F k) qv jS l3 (wrap .i64 (gu+1)) fG) else ((ix jS fG).bind λn6=>(ix jT (gt jS n6)).bind λn7=>(apn jT ([(gt jT n7)]:List Int)).bind λl9=>aj.pj7 F (aj.pl509 F k) qv jS l9 gu fG))) else (aj.pj6 F qv jT gu))
theorem aj.l509_P  :∀ k,aj.S509 H0 Ri R0  (aj.l509 F   k) (aj.pl509 F  k):=by
 intro k
 induction k with
 | zero=>unfold aj.S509;intros;rename_i hp;cases hp
 | succ k ih=>
  intro JI JJ JK Dz mG DA DB JL JM JN JO qv gu fG jS jT JP JQ H aj_ aka akb h0 r hp
  obtain ⟨w0,s0,JW,DH,DI⟩:=h0
  subst aj_
  subst aka
  subst akb
  unfold aj.pl509 at hp
  unfold aj.l509
  refine ay hp (λhp=>?_) λhp=>?_
  ·obtain ⟨n1,g1,hp⟩:=ag hp
   obtain ⟨p1,q1,i1,h1,j1⟩:=W.ixo (E:=eI) w0 (i:=1) rfl rfl DH g1
   refine ai i1 ?_
   have h1:_=[_]:=h1
   subst h1
   refine ai (aG (j1 0 _ rfl)) ?_
   refine ay hp (λhp=>?_) λhp=>?_
   ·refine cK eI w0 (n:=1) (l:=([gu]:List Int)) rfl (CR.cons1 rfl CR.empty) rfl λH2 w2 s2 c2=>?_
    refine ai (w2.rowo (i:=0) rfl) ?_
    obtain ⟨l3,e3,hp⟩:=ag hp
    refine fz eI w2 (i:=3) rfl rfl (DI.step s2) c2 (show 1=List.length ([gu]:List Int) from rfl) rfl e3 λa4 d4 H4 w4 s4 c4 x4=>?_
    obtain ⟨w5,s5⟩:=w4.pp [1,2,3] 4
    exact aj.j7_P (@ih) rfl rfl rfl ⟨w5,(s0.trans (s2.trans (s4.trans s5))),(JW.step (s2.trans (s4.trans s5))),(DH.step (s2.trans (s4.trans s5))),(c4.step s5)⟩ hp
   ·obtain ⟨n6,g6,hp⟩:=ag hp
    obtain ⟨p6,q6,i6,h6,j6⟩:=W.ixo (E:=eI) w0 (i:=1) rfl rfl DH g6
    refine ai i6 ?_
    have h6:_=[_]:=h6
    subst h6
    refine ai (aG (j6 0 _ rfl)) ?_
    obtain ⟨n7,g7,hp⟩:=ag hp
    obtain ⟨p7,q7,i7,h7,j7⟩:=W.ixo (E:=eI) w0 (i:=2) rfl rfl DI g7
    refine ai i7 ?_
    have h7:_=[_]:=h7
    subst h7
    refine ai (aG (j7 0 _ rfl)) ?_
    refine cK eI w0 (n:=1) (l:=([(gt jT n7)]:List Int)) rfl (CR.cons1 rfl CR.empty) rfl λH8 w8 s8 c8=>?_
    refine ai (w8.rowo (i:=0) rfl) ?_
    obtain ⟨l9,e9,hp⟩:=ag hp
    refine fz eI w8 (i:=3) rfl rfl (DI.step s8) c8 (show 1=List.length ([(gt jT n7)]:List Int) from rfl) rfl e9 λa10 d10 H10 w10 s10 c10 x10=>?_
    obtain ⟨w11,s11⟩:=w10.pp [1,2,3] 4
    exact aj.j7_P (@ih) rfl rfl rfl ⟨w11,(s0.trans (s8.trans (s10.trans s11))),(JW.step (s8.trans (s10.trans s11))),(DH.step (s8.trans (s10.trans s11))),(c10.step s11)⟩ hp
  ·obtain ⟨w12,s12⟩:=w0.pp [0,2] 3
   exact aj.j6_P rfl rfl ⟨w12,(s0.trans s12),(JW.step s12),(DI.step s12)⟩ hp
def aj.pj8 (F:Nat)  (DJ:Int) (yn:as6):Option (List Int×Int):=aj.pl509 F F DJ yn ([]:List Int) 0 0
theorem aj.j8_P   {WS WT JX AR JY WU WV WW DJ yn WX} (akc:JX=WW.length) (akd:JY=yn.length) (h0:Out H0 Ri H (Rs.blk AR [.sl ⟨WS,JX,WU⟩,.i DJ]::Rs.own ⟨WT,JY,WV⟩ eI.z WX::R0) λR=>ROs (ac eI (ac eI (ac eI (ac eI eI)))) H R ⟨WS,JX,WU⟩ WW/\CR eI H R WX yn) {r:atn} (hp:aj.pj8 F  DJ yn=some r):Rt (aj.j8 F   AR 0 ⟨WT,JY,WV⟩ H) (aj.Q H0 Ri R0  r):=by
 obtain ⟨w0,s0,ake,akf⟩:=h0
 subst akc
 subst akd
 unfold aj.pj8 at hp
 unfold aj.j8
 refine cK eI w0 (n:=0) (l:=([]:List Int)) rfl CR.empty rfl λH1 w1 s1 c1=>?_
 obtain ⟨w2,s2⟩:=w1.pp [1,2,0] 3
 exact aj.l509_P F rfl rfl (show 0=List.length ([]:List Int) from rfl) ⟨w2,(s0.trans (s1.trans s2)),(ake.step (s1.trans s2)),(akf.step (s1.trans s2)),(c1.step s2)⟩ hp
def aj.pl61 (F:Nat) :Nat->List (Int×Int×Int×Int×Int)->Int->List Int->Int->Option (List Int×Int)
 | 0,_,_,_,_=>none
 | k+1,ly,vR,lz,hG=>(bif (decide (hG<(ly.length:Int))) then ((ix ly hG).bind λn1=>(ix lz ((gt ly n1).2.1)).bind λn2=>(ix ly hG).bind λn3=>(ix lz ((gt ly n3).2.2.2.1)).bind λn4=>aj.pl1963 F (aj.pl61 F k) F ly vR lz hG (gt lz n2) (gt lz n4) 0) else (aj.pj8 F vR lz))
theorem aj.l61_P  :∀ k,aj.S61 H0 Ri R0  (aj.l61 F   k) (aj.pl61 F  k):=by
 intro k
 induction k with
 | zero=>unfold aj.S61;intros;rename_i hp;cases hp
 | succ k ih=>
  intro Jr Js Dr kp Ds Jt Ju ly vR hG lz Jv H akg akh h0 r hp
  obtain ⟨w0,s0,DK,DL⟩:=h0
  subst akg
  subst akh
  unfold aj.pl61 at hp
  unfold aj.l61
  refine lSl w0 0 ?_
  refine ay hp (λhp=>?_) λhp=>?_
  ·refine lSl w0 0 ?_
   obtain ⟨n1,g1,hp⟩:=ag hp
   obtain ⟨p1,q1,i1,h1,j1⟩:=ROs.ixr DK rfl g1
   refine ai i1 ?_
   obtain ⟨_,_,rfl,rfl,_,_,rfl,rfl,_,_,rfl,rfl,_,_,rfl,rfl,rfl⟩:=h1
   refine ai (aG (j1 1 _ rfl)) ?_
   obtain ⟨n2,g2,hp⟩:=ag hp
   obtain ⟨p2,q2,i2,h2,j2⟩:=W.ixo (E:=eI) w0 (i:=1) rfl rfl DL g2
   refine ai i2 ?_
   have h2:_=[_]:=h2
   subst h2
   refine ai (aG (j2 0 _ rfl)) ?_
   refine lSl w0 0 ?_
   obtain ⟨n3,g3,hp⟩:=ag hp
   obtain ⟨p3,q3,i3,h3,j3⟩:=ROs.ixr DK rfl g3
   refine ai i3 ?_
   obtain ⟨_,_,rfl,rfl,_,_,rfl,rfl,_,_,rfl,rfl,_,_,rfl,rfl,rfl⟩:=h3
   refine ai (aG (j3 3 _ rfl)) ?_
   obtain ⟨n4,g4,hp⟩:=ag hp
   obtain ⟨p4,q4,i4,h4,j4⟩:=W.ixo (E:=eI) w0 (i:=1) rfl rfl DL g4
   refine ai i4 ?_
   have h4:_=[_]:=h4
   subst h4
   refine ai (aG (j4 0 _ rfl)) ?_
   exact aj.l1963_P (@ih) F rfl rfl ⟨w0,s0,DK,DL⟩ hp
  ·exact aj.j8_P rfl rfl ⟨w0,s0,DK,DL⟩ hp
def aj.pj13 (F:Nat)  (yo:atb) (DM:Int) (yp:as6):Option (List Int×Int):=aj.pl61 F F yo DM yp 0
theorem aj.j13_P   {WY WZ JZ sy J_ W_ Xa yo DM yp Xb} (aki:JZ=yo.length) (akj:J_=yp.length) (h0:Out H0 Ri H (Rs.blk sy [.sl ⟨WY,JZ,W_⟩,.i DM]::Rs.own ⟨WZ,J_,Xa⟩ eI.z Xb::R0) λR=>ROs (ac eI (ac eI (ac eI (ac eI eI)))) H R ⟨WY,JZ,W_⟩ yo/\CR eI H R Xb yp) {r:atn} (hp:aj.pj13 F  yo DM yp=some r):Rt (aj.j13 F   sy 0 ⟨WZ,J_,Xa⟩ H) (aj.Q H0 Ri R0  r):=by
 obtain ⟨w0,s0,akk,akl⟩:=h0
 subst aki
 subst akj
 unfold aj.pj13 at hp
 unfold aj.j13
 exact aj.l61_P F rfl rfl ⟨w0,s0,akk,akl⟩ hp
def aj.pl29 (F:Nat) :Nat->List (Int×Int×Int×Int×Int)->Int->List Int->Int->Option (List Int×Int)
 | 0,_,_,_,_=>none
 | k+1,gL,na,qt,et=>(bif (decide (et<(wrap .i64 (2 * (gL.length:Int))))) then ((apn qt ([et]:List Int)).bind λl2=>aj.pl29 F k gL na l2 (wrap .i64 (et+1))) else (aj.pj13 F gL na qt))
theorem aj.l29_P  :∀ k,aj.S29 H0 Ri R0  (aj.l29 F   k) (aj.pl29 F  k):=by
 intro k
 induction k with
 | zero=>unfold aj.S29;intros;rename_i hp;cases hp
 | succ k ih=>
  intro qq Jo m_ dd Dq qr Jp gL na et qt Jq H Ji akm h0 r hp
  obtain ⟨w0,s0,yb,Xc⟩:=h0
  subst Ji
  subst akm
  unfold aj.pl29 at hp
  unfold aj.l29
  refine lSl w0 0 ?_
  refine ay hp (λhp=>?_) λhp=>?_
  ·refine cK eI w0 (n:=1) (l:=([et]:List Int)) rfl (CR.cons1 rfl CR.empty) rfl λH1 w1 s1 c1=>?_
   refine ai (w1.rowo (i:=0) rfl) ?_
   obtain ⟨l2,e2,hp⟩:=ag hp
   refine fz eI w1 (i:=2) rfl rfl (Xc.step s1) c1 (show 1=List.length ([et]:List Int) from rfl) rfl e2 λa3 d3 H3 w3 s3 c3 x3=>?_
   obtain ⟨w4,s4⟩:=w3.pp [1,2] 3
   exact ih rfl rfl ⟨w4,(s0.trans (s1.trans (s3.trans s4))),(yb.step (s1.trans (s3.trans s4))),(c3.step s4)⟩ hp
  ·exact aj.j13_P rfl rfl ⟨w0,s0,yb,Xc⟩ hp
def aj.p (F:Nat) (ah:atb) (af:Int):Option (List Int×Int):=aj.pl29 F F ah af ([]:List Int) 0
theorem aj.P {aB ak aC ah af} (ba:ak=ah.length) (h0:Inn H R0 λR=>ROs (ac eI (ac eI (ac eI (ac eI eI)))) H R ⟨aB,ak,aC⟩ ah) {r:atn} (hp:aj.p F ah af=some r):Rt (aj.tw F ⟨aB,ak,aC⟩ af H) (aj.Q H R0 R0  r):=by
 obtain ⟨w0,aO⟩:=h0
 subst ba
 unfold aj.p at hp
 unfold aj.tw aj.twX
 have s0:=w0.rf
 refine aS w0 λH1 w1 s1=>?_
 refine cK eI w1 (n:=0) (l:=([]:List Int)) rfl CR.empty rfl λH2 w2 s2 c2=>?_
 obtain ⟨w3,s3⟩:=w2.pp [1,0] 2
 exact aj.l29_P F rfl (show 0=List.length ([]:List Int) from rfl) ⟨w3,(s0.trans (s1.trans (s2.trans s3))),(aO.step (s1.trans (s2.trans s3))),(c2.step s3)⟩ hp
def bi.Q (H0:Hp) (Ri R0:as3)  (r:atf) (v:AV) (H':Hp):Prop:=∃ o0a:ON,∃ o0n:Nat,∃ o0c:Cap,∃ o0k:List AV,v=(.sl ⟨o0a,o0n,o0c⟩)/\o0n=(r).length/\Out H0 Ri H' (Rs.own ⟨o0a,o0n,o0c⟩ (eSl eI).z o0k::R0) λR=>CR (eSl eI) H' R o0k (r)
def bi.S61 (H0:Hp) (Ri R0:as3)  (C:ats) (pC:auc):Prop:=∀ {Ka qw Kb DN lM ng DO Kc qx Kd jE Xd hJ dk qy Ke cJ},∀ {H:Hp},DN=jE.length->ng=dk.length->DO=cJ.length->(Out H0 Ri H (Rs.blk lM [.sl ⟨Ka,DN,Kc⟩,.i Xd]::Rs.own ⟨qw,ng,qx⟩ (eSl eI).z qy::Rs.own ⟨Kb,DO,Kd⟩ eI.z Ke::R0) λR=>ROs (ac eI (ac eI (ac eI (ac eI eI)))) H R ⟨Ka,DN,Kc⟩ jE/\CR (eSl eI) H R qy dk/\CR eI H R Ke cJ)->∀ {r:atf},pC jE dk cJ hJ=some r->Rt (C lM 0 ⟨qw,ng,qx⟩ ⟨Kb,DO,Kd⟩ hJ H) (bi.Q H0 Ri R0  r)
def bi.pj2 (F:Nat) (ar:auc) (lr:atb) (lu:atf) (lw:as6) (gw:Int):Option (List (List Int)):=ar lr lu lw (wrap .i64 (gw+1))
theorem bi.j2_P  {C61_:ats} {ar:auc} (hC61:bi.S61 H0 Ri R0  C61_ ar) {xF xG xH qi fp qj qk xI xJ xK lr Ik gw lu xL xM lw} (Il:qi=lr.length) (Im:qj=lu.length) (In:qk=lw.length) (h0:Out H0 Ri H (Rs.blk fp [.sl ⟨xF,qi,xI⟩,.i Ik]::Rs.own ⟨xG,qj,xJ⟩ (eSl eI).z xL::Rs.own ⟨xH,qk,xK⟩ eI.z xM::R0) λR=>ROs (ac eI (ac eI (ac eI (ac eI eI)))) H R ⟨xF,qi,xI⟩ lr/\CR (eSl eI) H R xL lu/\CR eI H R xM lw) {r:atf} (hp:bi.pj2 F ar lr lu lw gw=some r):Rt (bi.j2 F (aj.tw F) C61_ fp 0 ⟨xG,qj,xJ⟩ ⟨xH,qk,xK⟩ gw H) (bi.Q H0 Ri R0  r):=by
 obtain ⟨w0,s0,Io,Ip,Iq⟩:=h0
 subst Il
 subst Im
 subst In
 unfold bi.pj2 at hp
 unfold bi.j2
 exact hC61 rfl rfl rfl ⟨w0,s0,Io,Ip,Iq⟩ hp
def bi.pl61 (F:Nat) :Nat->List (Int×Int×Int×Int×Int)->List (List Int)->List Int->Int->Option (List (List Int))
 | 0,_,_,_,_=>none
 | k+1,jE,dk,cJ,hJ=>(bif (decide (hJ<(jE.length:Int))) then ((ix jE hJ).bind λn1=>(ix cJ ((gt jE n1).1)).bind λn8=>(ix cJ ((gt jE n1).2.2.1)).bind λn9=>(ix cJ ((gt jE n1).2.1)).bind λn10=>(bif (((gt jE n1).2.2.2.2)==1) then ((apn dk ([([(wrap .i64 ((gt cJ n9)+1)),(wrap .i64 ((gt cJ n10)+1)),(wrap .i64 (0 - (wrap .i64 ((gt cJ n8)+1)))),(wrap .i64 (0 - (wrap .i64 ((gt cJ n10)+1))))]:List Int)]:List (List Int))).bind λl14=>bi.pj2 F (bi.pl61 F k) jE l14 cJ hJ) else ((apn dk ([([(wrap .i64 ((gt cJ n9)+1)),(wrap .i64 (0 - (wrap .i64 ((gt cJ n10)+1)))),(wrap .i64 (0 - (wrap .i64 ((gt cJ n8)+1)))),(wrap .i64 ((gt cJ n10)+1))]:List Int)]:List (List Int))).bind λl20=>bi.pj2 F (bi.pl61 F k) jE l20 cJ hJ))) else (some dk))
theorem bi.l61_P  :∀ k,bi.S61 H0 Ri R0  (bi.l61 F (aj.tw F)  k) (bi.pl61 F  k):=by
 intro k
 induction k with
 | zero=>unfold bi.S61;intros;rename_i hp;cases hp
 | succ k ih=>
  intro Ka qw Kb DN lM ng DO Kc qx Kd jE Xd hJ dk qy Ke cJ H akn Kf ako h0 r hp
  obtain ⟨w0,s0,Kg,oH,yq⟩:=h0
  subst akn
  subst Kf
  subst ako
  unfold bi.pl61 at hp
  unfold bi.l61
  refine lSl w0 0 ?_
  refine ay hp (λhp=>?_) λhp=>?_
  ·refine lSl w0 0 ?_
   obtain ⟨n1,g1,hp⟩:=ag hp
   obtain ⟨p1,q1,i1,h1,j1⟩:=ROs.ixr Kg rfl g1
   refine ai i1 ?_
   obtain ⟨_,_,rfl,rfl,_,_,rfl,rfl,_,_,rfl,rfl,_,_,rfl,rfl,rfl⟩:=h1
   refine ai (aG (j1 0 _ rfl)) ?_
   refine ai (aG (j1 1 _ rfl)) ?_
   refine ai (aG (j1 2 _ rfl)) ?_
   refine ai (aG (j1 3 _ rfl)) ?_
   refine ai (aG (j1 4 _ rfl)) ?_
   refine aS w0 λH2 w2 s2=>?_
   refine aq w2 0 λH3 w3 s3=>?_
   refine aq w3 0 λH4 w4 s4=>?_
   refine aq w4 0 λH5 w5 s5=>?_
   refine aq w5 0 λH6 w6 s6=>?_
   refine aq w6 0 λH7 w7 s7=>?_
   refine lI w7 0 ?_
   obtain ⟨n8,g8,hp⟩:=ag hp
   obtain ⟨p8,q8,i8,h8,j8⟩:=W.ixo (E:=eI) w7 (i:=3) rfl rfl (yq.step (s2.trans (s3.trans (s4.trans (s5.trans (s6.trans s7)))))) g8
   refine ai i8 ?_
   have h8:_=[_]:=h8
   subst h8
   refine ai (aG (j8 0 _ rfl)) ?_
   refine lI w7 0 ?_
   obtain ⟨n9,g9,hp⟩:=ag hp
   obtain ⟨p9,q9,i9,h9,j9⟩:=W.ixo (E:=eI) w7 (i:=3) rfl rfl (yq.step (s2.trans (s3.trans (s4.trans (s5.trans (s6.trans s7)))))) g9
   refine ai i9 ?_
   have h9:_=[_]:=h9
   subst h9
   refine ai (aG (j9 0 _ rfl)) ?_
   refine lI w7 0 ?_
   obtain ⟨n10,g10,hp⟩:=ag hp
   obtain ⟨p10,q10,i10,h10,j10⟩:=W.ixo (E:=eI) w7 (i:=3) rfl rfl (yq.step (s2.trans (s3.trans (s4.trans (s5.trans (s6.trans s7)))))) g10
   refine ai i10 ?_
   have h10:_=[_]:=h10
   subst h10
   refine ai (aG (j10 0 _ rfl)) ?_
   refine lI w7 0 ?_
   refine ay hp (λhp=>?_) λhp=>?_
   ·refine cK eI w7 (n:=4) (l:=([(wrap .i64 ((gt cJ n9)+1)),(wrap .i64 ((gt cJ n10)+1)),(wrap .i64 (0 - (wrap .i64 ((gt cJ n8)+1)))),(wrap .i64 (0 - (wrap .i64 ((gt cJ n10)+1))))]:List Int)) rfl (CR.cons1 rfl (CR.cons1 rfl (CR.cons1 rfl (CR.cons1 rfl CR.empty)))) rfl λH11 w11 s11 c11=>?_
    obtain ⟨w12,s12,f12⟩:=w11.frz (i:=0) eI rfl c11
    refine cK (eSl eI) w12 (n:=1) (l:=([([(wrap .i64 ((gt cJ n9)+1)),(wrap .i64 ((gt cJ n10)+1)),(wrap .i64 (0 - (wrap .i64 ((gt cJ n8)+1)))),(wrap .i64 (0 - (wrap .i64 ((gt cJ n10)+1))))]:List Int)]:List (List Int))) rfl (CR.cons1 ⟨_,rfl,f12⟩ CR.empty) rfl λH13 w13 s13 c13=>?_
    refine ai (w13.rowo (i:=0) rfl) ?_
    obtain ⟨l14,e14,hp⟩:=ag hp
    refine fz (eSl eI) w13 (i:=3) rfl rfl (oH.step (s2.trans (s3.trans (s4.trans (s5.trans (s6.trans (s7.trans (s11.trans (s12.trans s13))))))))) c13 (show 1=List.length ([([(wrap .i64 ((gt cJ n9)+1)),(wrap .i64 ((gt cJ n10)+1)),(wrap .i64 (0 - (wrap .i64 ((gt cJ n8)+1)))),(wrap .i64 (0 - (wrap .i64 ((gt cJ n10)+1))))]:List Int)]:List (List Int)) from rfl) rfl e14 λa15 d15 H15 w15 s15 c15 x15=>?_
    obtain ⟨w16,s16⟩:=w15.pp [2,3,4] 5
    exact bi.j2_P (@ih) rfl rfl rfl ⟨w16,(s0.trans (s2.trans (s3.trans (s4.trans (s5.trans (s6.trans (s7.trans (s11.trans (s12.trans (s13.trans (s15.trans s16))))))))))),(Kg.step (s2.trans (s3.trans (s4.trans (s5.trans (s6.trans (s7.trans (s11.trans (s12.trans (s13.trans (s15.trans s16))))))))))),(c15.step s16),(yq.step (s2.trans (s3.trans (s4.trans (s5.trans (s6.trans (s7.trans (s11.trans (s12.trans (s13.trans (s15.trans s16)))))))))))⟩ hp
   ·refine cK eI w7 (n:=4) (l:=([(wrap .i64 ((gt cJ n9)+1)),(wrap .i64 (0 - (wrap .i64 ((gt cJ n10)+1)))),(wrap .i64 (0 - (wrap .i64 ((gt cJ n8)+1)))),(wrap .i64 ((gt cJ n10)+1))]:List Int)) rfl (CR.cons1 rfl (CR.cons1 rfl (CR.cons1 rfl (CR.cons1 rfl CR.empty)))) rfl λH17 w17 s17 c17=>?_
    obtain ⟨w18,s18,f18⟩:=w17.frz (i:=0) eI rfl c17
    refine cK (eSl eI) w18 (n:=1) (l:=([([(wrap .i64 ((gt cJ n9)+1)),(wrap .i64 (0 - (wrap .i64 ((gt cJ n10)+1)))),(wrap .i64 (0 - (wrap .i64 ((gt cJ n8)+1)))),(wrap .i64 ((gt cJ n10)+1))]:List Int)]:List (List Int))) rfl (CR.cons1 ⟨_,rfl,f18⟩ CR.empty) rfl λH19 w19 s19 c19=>?_
    refine ai (w19.rowo (i:=0) rfl) ?_
    obtain ⟨l20,e20,hp⟩:=ag hp
    refine fz (eSl eI) w19 (i:=3) rfl rfl (oH.step (s2.trans (s3.trans (s4.trans (s5.trans (s6.trans (s7.trans (s17.trans (s18.trans s19))))))))) c19 (show 1=List.length ([([(wrap .i64 ((gt cJ n9)+1)),(wrap .i64 (0 - (wrap .i64 ((gt cJ n10)+1)))),(wrap .i64 (0 - (wrap .i64 ((gt cJ n8)+1)))),(wrap .i64 ((gt cJ n10)+1))]:List Int)]:List (List Int)) from rfl) rfl e20 λa21 d21 H21 w21 s21 c21 x21=>?_
    obtain ⟨w22,s22⟩:=w21.pp [2,3,4] 5
    exact bi.j2_P (@ih) rfl rfl rfl ⟨w22,(s0.trans (s2.trans (s3.trans (s4.trans (s5.trans (s6.trans (s7.trans (s17.trans (s18.trans (s19.trans (s21.trans s22))))))))))),(Kg.step (s2.trans (s3.trans (s4.trans (s5.trans (s6.trans (s7.trans (s17.trans (s18.trans (s19.trans (s21.trans s22))))))))))),(c21.step s22),(yq.step (s2.trans (s3.trans (s4.trans (s5.trans (s6.trans (s7.trans (s17.trans (s18.trans (s19.trans (s21.trans s22)))))))))))⟩ hp
  ·obtain ⟨w23,s23⟩:=w0.pp [1] 3
   exact az hp ⟨_,_,_,_,rfl,rfl,w23,(s0.trans s23),(oH.step s23)⟩
def bi.p (F:Nat) (ah:atb) (af:Int):Option (List (List Int)):=(aj.p F ah af).bind λr3=>bi.pl61 F F ah ([]:List (List Int)) r3.1 0
theorem bi.P {aB ak aC ah af} (ba:ak=ah.length) (h0:Inn H R0 λR=>ROs (ac eI (ac eI (ac eI (ac eI eI)))) H R ⟨aB,ak,aC⟩ ah) {r:atf} (hp:bi.p F ah af=some r):Rt (bi.tw F ⟨aB,ak,aC⟩ af H) (bi.Q H R0 R0  r):=by
 obtain ⟨w0,aO⟩:=h0
 subst ba
 unfold bi.p at hp
 unfold bi.tw bi.twX
 have s0:=w0.rf
 refine aS w0 λH1 w1 s1=>?_
 refine cK (eSl eI) w1 (n:=0) (l:=([]:List (List Int))) rfl CR.empty rfl λH2 w2 s2 c2=>?_
 refine lSl w2 1 ?_
 refine lI w2 1 ?_
 obtain ⟨r3,e3,hp⟩:=ag hp
 refine aE (aj.P rfl ⟨w2,(aO.step (s1.trans s2))⟩ e3) ?_
 rintro _ H4 ⟨o0a_4,o0n_4,o0c_4,o0k_4,rfl,rfl,w4,s4,f4_0⟩
 refine br (br (br (br (br ?_))))
 obtain ⟨w5,s5⟩:=w4.pp [2,1,0] 3
 exact bi.l61_P F rfl (show 0=List.length ([]:List (List Int)) from rfl) rfl ⟨w5,(s0.trans (s1.trans (s2.trans (s4.trans s5)))),(aO.step (s1.trans (s2.trans (s4.trans s5)))),(c2.step (s4.trans s5)),(f4_0.step s5)⟩ hp
def aR.Q (H0:Hp) (Ri R0:as3)  (r:as9) (v:AV) (H':Hp):Prop:=∃ o1a:ON,∃ o1n:Nat,∃ o1c:Cap,∃ o1k:List AV,v=(.agg [(.i r.1),(.sl ⟨o1a,o1n,o1c⟩)])/\o1n=(r.2).length/\Out H0 Ri H' (Rs.own ⟨o1a,o1n,o1c⟩ eI.z o1k::R0) λR=>CR eI H' R o1k (r.2)
def aR.S14 (H0:Hp) (Ri R0:as3)  (C:aul) (pC:aud):Prop:=∀ {ja Xe gz hK Kh Ki DP DQ ez Kj Kk ma Kl Km},∀ {H:Hp},DP=ma.length->DQ=Kl.length->(Out H0 Ri H (Rs.own ⟨Ki,DQ,Kk⟩ eI.z Km::Rs.blk ez [.i Xe,.sl ⟨Ki,DQ,Kk⟩]::R0) λR=>ROs eI H R ⟨Kh,DP,Kj⟩ ma/\CR eI H R Km Kl)->∀ {r:as9},pC ja ma gz hK=some r->Rt (C ja ⟨Kh,DP,Kj⟩ ez 0 gz hK H) (aR.Q H0 Ri R0  r)
def aR.S30 (H0:Hp) (Ri R0:as3)  (C:aul) (pC:aud):Prop:=∀ {i_ Xf fh gy Ko Kp DR DS mI Kq Ks mb Kt Ku},∀ {H:Hp},DR=mb.length->DS=Kt.length->(Out H0 Ri H (Rs.own ⟨Kp,DS,Ks⟩ eI.z Ku::Rs.blk mI [.i Xf,.sl ⟨Kp,DS,Ks⟩]::R0) λR=>ROs eI H R ⟨Ko,DR,Kq⟩ mb/\CR eI H R Ku Kt)->∀ {r:as9},pC i_ mb fh gy=some r->Rt (C i_ ⟨Ko,DR,Kq⟩ mI 0 fh gy H) (aR.Q H0 Ri R0  r)
def aR.pj1 (F:Nat)  (sW:Int) (yr:as6) (lN:Int) (nH:Int):Option (Int×List Int):=(bif (lN==nH) then (some (0,([]:List Int))) else ((cutf yr lN nH).bind λl6=>(apn ([]:List Int) l6).bind λl8=>some ((wrap .i64 (sW+lN)),l8)))
theorem aR.j1_P   {sW akp lN nH Xg Xh Kv Kw kq Xi Xj yr Xk Xl} (akq:Kv=yr.length) (akr:Kw=Xk.length) (h0:Out H0 Ri H (Rs.own ⟨Xh,Kw,Xj⟩ eI.z Xl::Rs.blk kq [.i akp,.sl ⟨Xh,Kw,Xj⟩]::R0) λR=>ROs eI H R ⟨Xg,Kv,Xi⟩ yr/\CR eI H R Xl Xk) {r:as9} (hp:aR.pj1 F  sW yr lN nH=some r):Rt (aR.j1 F   sW ⟨Xg,Kv,Xi⟩ kq 0 lN nH H) (aR.Q H0 Ri R0  r):=by
 obtain ⟨w0,s0,aks,asq⟩:=h0
 subst akq
 subst akr
 unfold aR.pj1 at hp
 unfold aR.j1
 refine ay hp (λhp=>?_) λhp=>?_
 ·refine aq w0 1 λH1 w1 s1=>?_
  refine aq w1 1 λH2 w2 s2=>?_
  refine lI w2 1 ?_
  refine lSl w2 1 ?_
  obtain ⟨w3,s3⟩:=w2.nilS eI.z (by decide)
  obtain ⟨w4,s4⟩:=w3.pp [0] 3
  exact az hp ⟨_,_,_,_,rfl,rfl,w4,(s0.trans (s1.trans (s2.trans (s3.trans s4)))),((CR.empty:CR eI _ _ [] []).step s4)⟩
 ·refine cK eI w0 (n:=0) (l:=([]:List Int)) rfl CR.empty rfl λH5 w5 s5 c5=>?_
  obtain ⟨l6,e6,hp⟩:=ag hp
  obtain ⟨a6,d6,h6,f6⟩:=ROs.cutf (aks.step s5) rfl e6
  refine ai h6 ?_
  obtain ⟨x7,h7,c7⟩:=f6.row rfl
  refine ai h7 ?_
  obtain ⟨l8,e8,hp⟩:=ag hp
  refine fz eI w5 (i:=0) rfl rfl c5 c7 rfl rfl e8 λa9 d9 H9 w9 s9 c9 x9=>?_
  refine aq w9 2 λH10 w10 s10=>?_
  refine aq w10 2 λH11 w11 s11=>?_
  refine lI w11 2 ?_
  refine lSl w11 2 ?_
  obtain ⟨w12,s12⟩:=w11.pp [0] 3
  exact az hp ⟨_,_,_,_,rfl,rfl,w12,(s0.trans (s5.trans (s9.trans (s10.trans (s11.trans s12))))),(c9.step (s10.trans (s11.trans s12)))⟩
def aR.pl30 (F:Nat) :Nat->Int->List Int->Int->Int->Option (Int×List Int)
 | 0,_,_,_,_=>none
 | k+1,i_,mb,fh,gy=>(bif (decide (fh<gy)) then ((ix mb (wrap .i64 (gy - 1))).bind λn1=>(bif ((gt mb n1)==0) then (aR.pl30 F k i_ mb fh (wrap .i64 (gy - 1))) else (aR.pj1 F i_ mb fh gy))) else (aR.pj1 F i_ mb fh gy))
theorem aR.l30_P  :∀ k,aR.S30 H0 Ri R0  (aR.l30 F   k) (aR.pl30 F  k):=by
 intro k
 induction k with
 | zero=>unfold aR.S30;intros;rename_i hp;cases hp
 | succ k ih=>
  intro i_ Xf fh gy Ko Kp DR DS mI Kq Ks mb Kt Ku H akt aku h0 r hp
  obtain ⟨w0,s0,DT,Ky⟩:=h0
  subst akt
  subst aku
  unfold aR.pl30 at hp
  unfold aR.l30
  refine ay hp (λhp=>?_) λhp=>?_
  ·obtain ⟨n1,g1,hp⟩:=ag hp
   obtain ⟨p1,q1,i1,h1,j1⟩:=ROs.ixr DT rfl g1
   refine ai i1 ?_
   have h1:_=[_]:=h1
   subst h1
   refine ai (aG (j1 0 _ rfl)) ?_
   refine ay hp (λhp=>?_) λhp=>?_
   ·exact ih rfl rfl ⟨w0,s0,DT,Ky⟩ hp
   ·exact aR.j1_P rfl rfl ⟨w0,s0,DT,Ky⟩ hp
  ·exact aR.j1_P rfl rfl ⟨w0,s0,DT,Ky⟩ hp
def aR.pj2 (F:Nat)  (sY:Int) (yt:as6) (sZ:Int) (s_:Int):Option (Int×List Int):=aR.pl30 F F sY yt sZ s_
theorem aR.j2_P   {sY akv sZ s_ Xm Xn Kz KA AW Xo Xp yt Xq Xr} (akw:Kz=yt.length) (akx:KA=Xq.length) (h0:Out H0 Ri H (Rs.own ⟨Xn,KA,Xp⟩ eI.z Xr::Rs.blk AW [.i akv,.sl ⟨Xn,KA,Xp⟩]::R0) λR=>ROs eI H R ⟨Xm,Kz,Xo⟩ yt/\CR eI H R Xr Xq) {r:as9} (hp:aR.pj2 F  sY yt sZ s_=some r):Rt (aR.j2 F   sY ⟨Xm,Kz,Xo⟩ AW 0 sZ s_ H) (aR.Q H0 Ri R0  r):=by
 obtain ⟨w0,s0,aky,akz⟩:=h0
 subst akw
 subst akx
 unfold aR.pj2 at hp
 unfold aR.j2
 exact aR.l30_P F rfl rfl ⟨w0,s0,aky,akz⟩ hp
def aR.pl14 (F:Nat) :Nat->Int->List Int->Int->Int->Option (Int×List Int)
 | 0,_,_,_,_=>none
 | k+1,ja,ma,gz,hK=>(bif (decide (gz<hK)) then ((ix ma gz).bind λn1=>(bif ((gt ma n1)==0) then (aR.pl14 F k ja ma (wrap .i64 (gz+1)) hK) else (aR.pj2 F ja ma gz hK))) else (aR.pj2 F ja ma gz hK))
theorem aR.l14_P  :∀ k,aR.S14 H0 Ri R0  (aR.l14 F   k) (aR.pl14 F  k):=by
 intro k
 induction k with
 | zero=>unfold aR.S14;intros;rename_i hp;cases hp
 | succ k ih=>
  intro ja Xe gz hK Kh Ki DP DQ ez Kj Kk ma Kl Km H akA akB h0 r hp
  obtain ⟨w0,s0,DU,KB⟩:=h0
  subst akA
  subst akB
  unfold aR.pl14 at hp
  unfold aR.l14
  refine ay hp (λhp=>?_) λhp=>?_
  ·obtain ⟨n1,g1,hp⟩:=ag hp
   obtain ⟨p1,q1,i1,h1,j1⟩:=ROs.ixr DU rfl g1
   refine ai i1 ?_
   have h1:_=[_]:=h1
   subst h1
   refine ai (aG (j1 0 _ rfl)) ?_
   refine ay hp (λhp=>?_) λhp=>?_
   ·exact ih rfl rfl ⟨w0,s0,DU,KB⟩ hp
   ·exact aR.j2_P rfl rfl ⟨w0,s0,DU,KB⟩ hp
  ·exact aR.j2_P rfl rfl ⟨w0,s0,DU,KB⟩ hp
def aR.p (F:Nat) (aa:Int) (jF:as6):Option (Int×List Int):=aR.pl14 F F aa jF 0 (jF.length:Int)
theorem aR.P {aa yu qz yv jF} (KC:qz=jF.length) (h0:Inn H R0 λR=>ROs eI H R ⟨yu,qz,yv⟩ jF) {r:as9} (hp:aR.p F aa jF=some r):Rt (aR.tw F aa ⟨yu,qz,yv⟩ H) (aR.Q H R0 R0  r):=by
 obtain ⟨w0,KD⟩:=h0
 subst KC
 unfold aR.p at hp
 unfold aR.tw aR.twX
 have s0:=w0.rf
 refine aS w0 λH1 w1 s1=>?_
 obtain ⟨w2,s2⟩:=w1.nilS eI.z (by decide)
 exact aR.l14_P F rfl rfl ⟨w2,(s0.trans (s1.trans s2)),(KD.step (s1.trans s2)),(CR.empty:CR eI _ _ [] [])⟩ hp
def aI.Q (H0:Hp) (Ri R0:as3)  (r:as9) (v:AV) (H':Hp):Prop:=∃ o1a:ON,∃ o1n:Nat,∃ o1c:Cap,∃ o1k:List AV,v=(.agg [(.i r.1),(.sl ⟨o1a,o1n,o1c⟩)])/\o1n=(r.2).length/\Out H0 Ri H' (Rs.own ⟨o1a,o1n,o1c⟩ eI.z o1k::R0) λR=>CR eI H' R o1k (r.2)
def aI.S509 (H0:Hp) (Ri R0:as3)  (C:Nat->Nat->Nat->Nat->Nat->Nat->Int->Sl->Int->Hp->OA) (pC:Int->List Int->Int->List Int->Int->List Int->Int->Option (Int×List Int)):Prop:=∀ {qA vS Xs hP gA KE KF KG KH DV lP DW nK DX nL DY KI KJ KK KL nh qB KM mc KN KO},∀ {H:Hp},DV=nh.length->DW=qB.length->DX=KM.length->DY=mc.length->(Out H0 Ri H (Rs.blk lP [.i qA,.sl ⟨KE,DV,KI⟩]::Rs.blk nK [.i vS,.sl ⟨KF,DW,KJ⟩]::Rs.own ⟨KG,DX,KK⟩ eI.z KN::Rs.blk nL [.i Xs,.sl ⟨KG,DX,KK⟩]::Rs.own ⟨KH,DY,KL⟩ eI.z KO::R0) λR=>ROs eI H R ⟨KE,DV,KI⟩ nh/\ROs eI H R ⟨KF,DW,KJ⟩ qB/\CR eI H R KN KM/\CR eI H R KO mc)->∀ {r:as9},pC qA nh vS qB hP mc gA=some r->Rt (C lP 0 nK 0 nL 0 hP ⟨KH,DY,KL⟩ gA H) (aI.Q H0 Ri R0  r)
def aI.S1021 (H0:Hp) (Ri R0:as3)  (C:Nat->Nat->Nat->Nat->Int->Sl->Int->Hp->OA) (pC:Int->List Int->Int->List Int->Int->Option (Int×List Int)):Prop:=∀ {qC Xt hO cZ KP KQ KR DZ lO D_ nJ Ea KS KT KU ni KV md KW KX},∀ {H:Hp},DZ=ni.length->D_=KV.length->Ea=md.length->(Out H0 Ri H (Rs.blk lO [.i qC,.sl ⟨KP,DZ,KS⟩]::Rs.own ⟨KQ,D_,KT⟩ eI.z KW::Rs.blk nJ [.i Xt,.sl ⟨KQ,D_,KT⟩]::Rs.own ⟨KR,Ea,KU⟩ eI.z KX::R0) λR=>ROs eI H R ⟨KP,DZ,KS⟩ ni/\CR eI H R KW KV/\CR eI H R KX md)->∀ {r:as9},pC qC ni hO md cZ=some r->Rt (C lO 0 nJ 0 hO ⟨KR,Ea,KU⟩ cZ H) (aI.Q H0 Ri R0  r)
def aI.pj1 (F:Nat)  (jb:Int) (yw:as6):Option (Int×List Int):=(aR.p F jb yw).bind λr3=>some (r3.1,r3.2)
theorem aI.j1_P   {akC jb Xu Xv KY pB KZ Xw Xx Xy yw Xz XA} (akD:KY=Xy.length) (akE:KZ=yw.length) (h0:Out H0 Ri H (Rs.own ⟨Xu,KY,Xw⟩ eI.z Xz::Rs.blk pB [.i akC,.sl ⟨Xu,KY,Xw⟩]::Rs.own ⟨Xv,KZ,Xx⟩ eI.z XA::R0) λR=>CR eI H R Xz Xy/\CR eI H R XA yw) {r:as9} (hp:aI.pj1 F  jb yw=some r):Rt (aI.j1 F (aR.tw F)  pB 0 jb ⟨Xv,KZ,Xx⟩ H) (aI.Q H0 Ri R0  r):=by
 obtain ⟨w0,s0,asr,akF⟩:=h0
 subst akD
 subst akE
 unfold aI.pj1 at hp
 unfold aI.j1
 obtain ⟨w1,s1⟩:=w0.pp [2,0,1] 3
 have f2:=W.borrow1 eI w1 (akF.step s1)
 obtain ⟨w2,s2⟩:=w1.right1
 obtain ⟨r3,e3,hp⟩:=ag hp
 refine aE (aR.P rfl ⟨w2,f2⟩ e3) ?_
 rintro _ H4 ⟨o1a_4,o1n_4,o1c_4,o1k_4,rfl,rfl,w4,s4,f4_0⟩
 obtain ⟨w5,s5⟩:=W.frame1 w1 w4 s4
 refine br (br (br (br (br ?_))))
 refine aq w5 3 λH6 w6 s6=>?_
 refine aq w6 3 λH7 w7 s7=>?_
 refine lI w7 3 ?_
 refine lSl w7 3 ?_
 obtain ⟨w8,s8⟩:=w7.pp [1] 4
 exact az hp ⟨_,_,_,_,rfl,rfl,w8,(s0.trans (s1.trans (s5.trans (s6.trans (s7.trans s8))))),((CR.flat (fA .i64) f4_0).step (s6.trans (s7.trans s8)))⟩
def aI.pl1021 (F:Nat) :Nat->Int->List Int->Int->List Int->Int->Option (Int×List Int)
 | 0,_,_,_,_,_=>none
 | k+1,qC,ni,hO,md,cZ=>(bif (decide (cZ<(ni.length:Int))) then ((ix md (wrap .i64 ((wrap .i64 (qC - hO))+cZ))).bind λn1=>(ix ni cZ).bind λn2=>(ix md (wrap .i64 ((wrap .i64 (qC - hO))+cZ))).bind λn3=>(some (md.set n3 (wrap .i64 ((gt md n1)+(gt ni n2))))).bind λl4=>aI.pl1021 F k qC ni hO l4 (wrap .i64 (cZ+1))) else (aI.pj1 F hO md))
theorem aI.l1021_P  :∀ k,aI.S1021 H0 Ri R0  (aI.l1021 F (aR.tw F)  k) (aI.pl1021 F  k):=by
 intro k
 induction k with
 | zero=>unfold aI.S1021;intros;rename_i hp;cases hp
 | succ k ih=>
  intro qC Xt hO cZ KP KQ KR DZ lO D_ nJ Ea KS KT KU ni KV md KW KX H akG akH akI h0 r hp
  obtain ⟨w0,s0,XB,XC,Eb⟩:=h0
  subst akG
  subst akH
  subst akI
  unfold aI.pl1021 at hp
  unfold aI.l1021
  refine lSl w0 0 ?_
  refine ay hp (λhp=>?_) λhp=>?_
  ·refine lI w0 0 ?_
   obtain ⟨n1,g1,hp⟩:=ag hp
   obtain ⟨p1,q1,i1,h1,j1⟩:=W.ixo (E:=eI) w0 (i:=3) rfl rfl Eb g1
   refine ai i1 ?_
   have h1:_=[_]:=h1
   subst h1
   refine ai (aG (j1 0 _ rfl)) ?_
   refine lSl w0 0 ?_
   obtain ⟨n2,g2,hp⟩:=ag hp
   obtain ⟨p2,q2,i2,h2,j2⟩:=ROs.ixr XB rfl g2
   refine ai i2 ?_
   have h2:_=[_]:=h2
   subst h2
   refine ai (aG (j2 0 _ rfl)) ?_
   obtain ⟨n3,g3,hp⟩:=ag hp
   obtain ⟨p3,q3,i3,h3,j3⟩:=W.ixo (E:=eI) w0 (i:=3) rfl rfl Eb g3
   refine ai i3 ?_
   obtain ⟨l4,e4,hp⟩:=ag hp
   refine dC eI w0 (i:=3) (j:=0) (p:=p3) rfl rfl Eb g3 i3 e4 rfl rfl (λ_ h=>by have h:_=[_]:=h;subst h;exact rfl) λH5 k5 w5 s5 c5=>?_
   exact ih rfl rfl ((cz e4).symm) ⟨w5,(s0.trans s5),(XB.step s5),(XC.step s5),c5⟩ hp
  ·obtain ⟨w6,s6⟩:=w0.pp [1,2,3] 4
   exact aI.j1_P rfl rfl ⟨w6,(s0.trans s6),(XC.step s6),(Eb.step s6)⟩ hp
def aI.pj2 (F:Nat)  (Ec:Int) (yx:as6) (te:Int) (yy:as6):Option (Int×List Int):=aI.pl1021 F F Ec yx te yy 0
theorem aI.j2_P   {Ec akJ te XD XE XF K_ A_ La Ba Lb XG XH XI yx XJ yy XK XL} (akK:K_=yx.length) (akL:La=XJ.length) (akM:Lb=yy.length) (h0:Out H0 Ri H (Rs.blk A_ [.i Ec,.sl ⟨XD,K_,XG⟩]::Rs.own ⟨XE,La,XH⟩ eI.z XK::Rs.blk Ba [.i akJ,.sl ⟨XE,La,XH⟩]::Rs.own ⟨XF,Lb,XI⟩ eI.z XL::R0) λR=>ROs eI H R ⟨XD,K_,XG⟩ yx/\CR eI H R XK XJ/\CR eI H R XL yy) {r:as9} (hp:aI.pj2 F  Ec yx te yy=some r):Rt (aI.j2 F (aR.tw F)  A_ 0 Ba 0 te ⟨XF,Lb,XI⟩ H) (aI.Q H0 Ri R0  r):=by
 obtain ⟨w0,s0,akN,akO,akP⟩:=h0
 subst akK
 subst akL
 subst akM
 unfold aI.pj2 at hp
 unfold aI.j2
 exact aI.l1021_P F rfl rfl rfl ⟨w0,s0,akN,akO,akP⟩ hp
def aI.pl509 (F:Nat) :Nat->Int->List Int->Int->List Int->Int->List Int->Int->Option (Int×List Int)
 | 0,_,_,_,_,_,_,_=>none
 | k+1,qA,nh,vS,qB,hP,mc,gA=>(bif (decide (gA<(nh.length:Int))) then ((ix mc (wrap .i64 ((wrap .i64 (qA - hP))+gA))).bind λn1=>(ix nh gA).bind λn2=>(ix mc (wrap .i64 ((wrap .i64 (qA - hP))+gA))).bind λn3=>(some (mc.set n3 (wrap .i64 ((gt mc n1)+(gt nh n2))))).bind λl4=>aI.pl509 F k qA nh vS qB hP l4 (wrap .i64 (gA+1))) else (aI.pj2 F vS qB hP mc))
theorem aI.l509_P  :∀ k,aI.S509 H0 Ri R0  (aI.l509 F (aR.tw F)  k) (aI.pl509 F  k):=by
 intro k
 induction k with
 | zero=>unfold aI.S509;intros;rename_i hp;cases hp
 | succ k ih=>
  intro qA vS Xs hP gA KE KF KG KH DV lP DW nK DX nL DY KI KJ KK KL nh qB KM mc KN KO H akQ akR akS akT h0 r hp
  obtain ⟨w0,s0,XM,XN,XO,Ed⟩:=h0
  subst akQ
  subst akR
  subst akS
  subst akT
  unfold aI.pl509 at hp
  unfold aI.l509
  refine lSl w0 0 ?_
  refine ay hp (λhp=>?_) λhp=>?_
  ·refine lI w0 0 ?_
   obtain ⟨n1,g1,hp⟩:=ag hp
   obtain ⟨p1,q1,i1,h1,j1⟩:=W.ixo (E:=eI) w0 (i:=4) rfl rfl Ed g1
   refine ai i1 ?_
   have h1:_=[_]:=h1
   subst h1
   refine ai (aG (j1 0 _ rfl)) ?_
   refine lSl w0 0 ?_
   obtain ⟨n2,g2,hp⟩:=ag hp
   obtain ⟨p2,q2,i2,h2,j2⟩:=ROs.ixr XM rfl g2
   refine ai i2 ?_
   have h2:_=[_]:=h2
   subst h2
   refine ai (aG (j2 0 _ rfl)) ?_
   obtain ⟨n3,g3,hp⟩:=ag hp
   obtain ⟨p3,q3,i3,h3,j3⟩:=W.ixo (E:=eI) w0 (i:=4) rfl rfl Ed g3
   refine ai i3 ?_
   obtain ⟨l4,e4,hp⟩:=ag hp
   refine dC eI w0 (i:=4) (j:=0) (p:=p3) rfl rfl Ed g3 i3 e4 rfl rfl (λ_ h=>by have h:_=[_]:=h;subst h;exact rfl) λH5 k5 w5 s5 c5=>?_
   exact ih rfl rfl rfl ((cz e4).symm) ⟨w5,(s0.trans s5),(XM.step s5),(XN.step s5),(XO.step s5),c5⟩ hp
  ·obtain ⟨w6,s6⟩:=w0.pp [1,2,3,4] 5
   exact aI.j2_P rfl rfl rfl ⟨w6,(s0.trans s6),(XN.step s6),(XO.step s6),(Ed.step s6)⟩ hp
def aI.p (F:Nat) (aa:Int) (aF:as6) (au:Int) (bz:as6):Option (Int×List Int):=(bif ((aF.length:Int)==0) then ((aR.p F au bz).bind λr4=>some (r4.1,r4.2)) else ((bif ((bz.length:Int)==0) then ((aR.p F aa aF).bind λr9=>some (r9.1,r9.2)) else ((mkn (wrap .i64 ((if (wrap .i64 (au+(bz.length:Int)))>(wrap .i64 (aa+(aF.length:Int))) then (wrap .i64 (au+(bz.length:Int))) else (wrap .i64 (aa+(aF.length:Int)))) - (if au<aa then au else aa))) (0:Int)).bind λl14=>aI.pl509 F F aa aF au bz (if au<aa then au else aa) l14 0))))
theorem aI.P {aa au cj ev bD dg ck ew aF bz} (du:bD=aF.length) (gM:dg=bz.length) (h0:Inn H R0 λR=>ROs eI H R ⟨cj,bD,ck⟩ aF/\ROs eI H R ⟨ev,dg,ew⟩ bz) {r:as9} (hp:aI.p F aa aF au bz=some r):Rt (aI.tw F aa ⟨cj,bD,ck⟩ au ⟨ev,dg,ew⟩ H) (aI.Q H R0 R0  r):=by
 obtain ⟨w0,cq,fc⟩:=h0
 subst du
 subst gM
 unfold aI.p at hp
 unfold aI.tw aI.twX
 have s0:=w0.rf
 refine aS w0 λH1 w1 s1=>?_
 refine aS w1 λH2 w2 s2=>?_
 refine aS w2 λH3 w3 s3=>?_
 refine lSl w3 2 ?_
 refine ay hp (λhp=>?_) λhp=>?_
 ·refine lI w3 1 ?_
  refine lSl w3 1 ?_
  obtain ⟨r4,e4,hp⟩:=ag hp
  refine aE (aR.P rfl ⟨w3,(fc.step (s1.trans (s2.trans s3)))⟩ e4) ?_
  rintro _ H5 ⟨o1a_5,o1n_5,o1c_5,o1k_5,rfl,rfl,w5,s5,f5_0⟩
  refine br (br (br (br (br ?_))))
  refine aq w5 1 λH6 w6 s6=>?_
  refine aq w6 1 λH7 w7 s7=>?_
  refine lI w7 1 ?_
  refine lSl w7 1 ?_
  obtain ⟨w8,s8⟩:=w7.pp [0] 4
  exact az hp ⟨_,_,_,_,rfl,rfl,w8,(s0.trans (s1.trans (s2.trans (s3.trans (s5.trans (s6.trans (s7.trans s8))))))),(f5_0.step (s6.trans (s7.trans s8)))⟩
 ·refine lSl w3 1 ?_
  refine ay hp (λhp=>?_) λhp=>?_
  ·refine lI w3 2 ?_
   refine lSl w3 2 ?_
   obtain ⟨r9,e9,hp⟩:=ag hp
   refine aE (aR.P rfl ⟨w3,(cq.step (s1.trans (s2.trans s3)))⟩ e9) ?_
   rintro _ H10 ⟨o1a_10,o1n_10,o1c_10,o1k_10,rfl,rfl,w10,s10,f10_0⟩
   refine br (br (br (br (br ?_))))
   refine aq w10 1 λH11 w11 s11=>?_
   refine aq w11 1 λH12 w12 s12=>?_
   refine lI w12 1 ?_
   refine lSl w12 1 ?_
   obtain ⟨w13,s13⟩:=w12.pp [0] 4
   exact az hp ⟨_,_,_,_,rfl,rfl,w13,(s0.trans (s1.trans (s2.trans (s3.trans (s10.trans (s11.trans (s12.trans s13))))))),(f10_0.step (s11.trans (s12.trans s13)))⟩
  ·refine lI w3 2 ?_
   refine lI w3 1 ?_
   refine lI w3 2 ?_
   refine lSl w3 2 ?_
   refine lI w3 1 ?_
   refine lSl w3 1 ?_
   obtain ⟨l14,e14,hp⟩:=ag hp
   refine ka eI (0:Int) w3 rfl rfl rfl e14 λH15 k15 w15 s15 c15=>?_
   obtain ⟨w16,s16⟩:=w15.nilS eI.z (by decide)
   obtain ⟨w17,s17⟩:=w16.pp [4,3,0,2,1] 5
   exact aI.l509_P F rfl rfl rfl rfl ⟨w17,(s0.trans (s1.trans (s2.trans (s3.trans (s15.trans (s16.trans s17)))))),(cq.step (s1.trans (s2.trans (s3.trans (s15.trans (s16.trans s17)))))),(fc.step (s1.trans (s2.trans (s3.trans (s15.trans (s16.trans s17)))))),((CR.empty:CR eI _ _ [] []).step s17),(c15.step (s16.trans s17))⟩ hp
def aT.Q (H0:Hp) (Ri R0:as3)  (r:as9) (v:AV) (H':Hp):Prop:=∃ o1a:ON,∃ o1n:Nat,∃ o1c:Cap,∃ o1k:List AV,v=(.agg [(.i r.1),(.sl ⟨o1a,o1n,o1c⟩)])/\o1n=(r.2).length/\Out H0 Ri H' (Rs.own ⟨o1a,o1n,o1c⟩ eI.z o1k::R0) λR=>CR eI H' R o1k (r.2)
def aT.S61 (H0:Hp) (Ri R0:as3)  (C:atH) (pC:atN):Prop:=∀ {Lc Ld Le Ee Ef jN Eg iM Lf Lg Lh mf Li oI ct XP qD jd hQ Lj Lk},∀ {H:Hp},Ee=mf.length->Ef=Li.length->Eg=oI.length->(Out H0 Ri H (Rs.own ⟨Ld,Ef,Lg⟩ eI.z Lj::Rs.blk jN [.i XP,.sl ⟨Ld,Ef,Lg⟩]::Rs.own ⟨Le,Eg,Lh⟩ eI.z Lk::Rs.blk iM [.i qD,.sl ⟨Le,Eg,Lh⟩]::R0) λR=>ROs eI H R ⟨Lc,Ee,Lf⟩ mf/\CR eI H R Lj Li/\CR eI H R Lk oI)->∀ {r:as9},pC mf ct qD oI jd hQ=some r->Rt (C ⟨Lc,Ee,Lf⟩ ct jN 0 iM 0 jd hQ H) (aT.Q H0 Ri R0  r)
def aT.pj4 (F:Nat) (ar:atN) (yz:as6) (th:Int) (Eh:Int) (yA:as6) (nN:Int) (jc:Int):Option (Int×List Int):=ar yz th Eh yA nN (wrap .i64 (jc+1))
theorem aT.j4_P  {C61_:atH} {ar:atN} (hC61:aT.S61 H0 Ri R0  C61_ ar) {XQ XR XS Ll Lm Bd Ln kn XT XU XV yz XW yA th akU Eh nN jc XX XY} (akV:Ll=yz.length) (akW:Lm=XW.length) (akX:Ln=yA.length) (h0:Out H0 Ri H (Rs.own ⟨XR,Lm,XU⟩ eI.z XX::Rs.blk Bd [.i akU,.sl ⟨XR,Lm,XU⟩]::Rs.own ⟨XS,Ln,XV⟩ eI.z XY::Rs.blk kn [.i Eh,.sl ⟨XS,Ln,XV⟩]::R0) λR=>ROs eI H R ⟨XQ,Ll,XT⟩ yz/\CR eI H R XX XW/\CR eI H R XY yA) {r:as9} (hp:aT.pj4 F ar yz th Eh yA nN jc=some r):Rt (aT.j4 F (aI.tw F) C61_ ⟨XQ,Ll,XT⟩ th Bd 0 kn 0 nN jc H) (aT.Q H0 Ri R0  r):=by
 obtain ⟨w0,s0,akY,akZ,ak0⟩:=h0
 subst akV
 subst akW
 subst akX
 unfold aT.pj4 at hp
 unfold aT.j4
 exact hC61 rfl rfl rfl ⟨w0,s0,akY,akZ,ak0⟩ hp
def aT.pj5 (F:Nat) (ar:atN) (oJ:as6) (gX:Int) (yB:Int) (vT:as6) (nO:Int) (lQ:Int):Option (Int×List Int):=(ix oJ lQ).bind λn1=>(bif (decide ((gt oJ n1)>0)) then (aT.pj4 F ar oJ gX yB vT (wrap .i64 (nO+1)) lQ) else (aT.pj4 F ar oJ gX yB vT (wrap .i64 (nO - 1)) lQ))
theorem aT.j5_P  {C61_:atH} {ar:atN} (hC61:aT.S61 H0 Ri R0  C61_ ar) {XZ X_ Ya Lo Lp wZ Lq w_ Yb Yc Yd oJ Ye vT gX ak1 yB nO lQ Yf Yg} (ak2:Lo=oJ.length) (ak3:Lp=Ye.length) (ak4:Lq=vT.length) (h0:Out H0 Ri H (Rs.own ⟨X_,Lp,Yc⟩ eI.z Yf::Rs.blk wZ [.i ak1,.sl ⟨X_,Lp,Yc⟩]::Rs.own ⟨Ya,Lq,Yd⟩ eI.z Yg::Rs.blk w_ [.i yB,.sl ⟨Ya,Lq,Yd⟩]::R0) λR=>ROs eI H R ⟨XZ,Lo,Yb⟩ oJ/\CR eI H R Yf Ye/\CR eI H R Yg vT) {r:as9} (hp:aT.pj5 F ar oJ gX yB vT nO lQ=some r):Rt (aT.j5 F (aI.tw F) C61_ ⟨XZ,Lo,Yb⟩ gX wZ 0 w_ 0 nO lQ H) (aT.Q H0 Ri R0  r):=by
 obtain ⟨w0,s0,Lr,Yh,Yi⟩:=h0
 subst ak2
 subst ak3
 subst ak4
 unfold aT.pj5 at hp
 unfold aT.j5
 obtain ⟨n1,g1,hp⟩:=ag hp
 obtain ⟨p1,q1,i1,h1,j1⟩:=ROs.ixr Lr rfl g1
 refine ai i1 ?_
 have h1:_=[_]:=h1
 subst h1
 refine ai (aG (j1 0 _ rfl)) ?_
 refine ay hp (λhp=>?_) λhp=>?_
 ·exact aT.j4_P (@hC61) rfl rfl rfl ⟨w0,s0,Lr,Yh,Yi⟩ hp
 ·exact aT.j4_P (@hC61) rfl rfl rfl ⟨w0,s0,Lr,Yh,Yi⟩ hp
def aT.pj6 (F:Nat) (ar:atN) (oK:as6) (fp:Int) (yC:Int) (vU:as6) (gw:Int) (lR:Int):Option (Int×List Int):=(ix oK lR).bind λn1=>(bif ((gt oK n1)==(wrap .i64 (0 - fp))) then ((aI.p F yC vU (wrap .i64 (gw - 1)) ([(-1)]:List Int)).bind λr6=>aT.pj5 F ar oK fp r6.1 r6.2 gw lR) else (aT.pj5 F ar oK fp yC vU gw lR))
theorem aT.j6_P  {C61_:atH} {ar:atN} (hC61:aT.S61 H0 Ri R0  C61_ ar) {Yj Yk Yl Lt Lu xa Lv mJ Ym Yn Yo oK Yp vU fp ak5 yC gw lR Yq Yr} (ak6:Lt=oK.length) (ak7:Lu=Yp.length) (ak8:Lv=vU.length) (h0:Out H0 Ri H (Rs.own ⟨Yk,Lu,Yn⟩ eI.z Yq::Rs.blk xa [.i ak5,.sl ⟨Yk,Lu,Yn⟩]::Rs.own ⟨Yl,Lv,Yo⟩ eI.z Yr::Rs.blk mJ [.i yC,.sl ⟨Yl,Lv,Yo⟩]::R0) λR=>ROs eI H R ⟨Yj,Lt,Ym⟩ oK/\CR eI H R Yq Yp/\CR eI H R Yr vU) {r:as9} (hp:aT.pj6 F ar oK fp yC vU gw lR=some r):Rt (aT.j6 F (aI.tw F) C61_ ⟨Yj,Lt,Ym⟩ fp xa 0 mJ 0 gw lR H) (aT.Q H0 Ri R0  r):=by
 obtain ⟨w0,s0,Lw,Ys,Yt⟩:=h0
 subst ak6
 subst ak7
 subst ak8
 unfold aT.pj6 at hp
 unfold aT.j6
 obtain ⟨n1,g1,hp⟩:=ag hp
 obtain ⟨p1,q1,i1,h1,j1⟩:=ROs.ixr Lw rfl g1
 refine ai i1 ?_
 have h1:_=[_]:=h1
 subst h1
 refine ai (aG (j1 0 _ rfl)) ?_
 refine ay hp (λhp=>?_) λhp=>?_
 ·refine lI w0 3 ?_
  refine lSl w0 3 ?_
  refine cK eI w0 (n:=1) (l:=([(-1)]:List Int)) rfl (CR.cons1 rfl CR.empty) rfl λH2 w2 s2 c2=>?_
  obtain ⟨w3,s3⟩:=w2.pp [3,0,1,2,4] 5
  have f4:=W.borrow1 eI w3 (Yt.step (s2.trans s3))
  obtain ⟨w4,s4⟩:=w3.right1
  have f5:=W.borrow1 eI w4 ((c2.step s3).step s4)
  obtain ⟨w5,s5⟩:=w4.right1
  obtain ⟨r6,e6,hp⟩:=ag hp
  refine aE (aI.P rfl (show 1=List.length ([(-1)]:List Int) from rfl) ⟨w5,(f4.step s5),f5⟩ e6) ?_
  rintro _ H7 ⟨o1a_7,o1n_7,o1c_7,o1k_7,rfl,rfl,w7,s7,f7_0⟩
  obtain ⟨w8,s8⟩:=W.frame1 w4 w7 s7
  obtain ⟨w9,s9⟩:=W.frame1 w3 w8 s8
  refine br (br (br (br (br ?_))))
  refine aq w9 5 λH10 w10 s10=>?_
  refine aq w10 5 λH11 w11 s11=>?_
  obtain ⟨w12,s12⟩:=w11.pp [3,4,2,5] 6
  exact aT.j5_P (@hC61) rfl rfl rfl ⟨w12,(s0.trans (s2.trans (s3.trans (s9.trans (s10.trans (s11.trans s12)))))),(Lw.step (s2.trans (s3.trans (s9.trans (s10.trans (s11.trans s12)))))),(Ys.step (s2.trans (s3.trans (s9.trans (s10.trans (s11.trans s12)))))),((CR.flat (fA .i64) f7_0).step (s10.trans (s11.trans s12)))⟩ hp
 ·exact aT.j5_P (@hC61) rfl rfl rfl ⟨w0,s0,Lw,Ys,Yt⟩ hp
def aT.pl61 (F:Nat) :Nat->List Int->Int->Int->List Int->Int->Int->Option (Int×List Int)
 | 0,_,_,_,_,_,_=>none
 | k+1,mf,ct,qD,oI,jd,hQ=>(bif (decide (hQ<(mf.length:Int))) then ((ix mf hQ).bind λn1=>(bif ((gt mf n1)==ct) then ((aI.p F qD oI jd ([1]:List Int)).bind λr6=>aT.pj6 F (aT.pl61 F k) mf ct r6.1 r6.2 jd hQ) else (aT.pj6 F (aT.pl61 F k) mf ct qD oI jd hQ))) else (some (qD,oI)))
theorem aT.l61_P  :∀ k,aT.S61 H0 Ri R0  (aT.l61 F (aI.tw F)  k) (aT.pl61 F  k):=by
 intro k
 induction k with
 | zero=>unfold aT.S61;intros;rename_i hp;cases hp
 | succ k ih=>
  intro Lc Ld Le Ee Ef jN Eg iM Lf Lg Lh mf Li oI ct XP qD jd hQ Lj Lk H ak9 ak_ ala h0 r hp
  obtain ⟨w0,s0,Lx,Yu,Ly⟩:=h0
  subst ak9
  subst ak_
  subst ala
  unfold aT.pl61 at hp
  unfold aT.l61
  refine ay hp (λhp=>?_) λhp=>?_
  ·obtain ⟨n1,g1,hp⟩:=ag hp
   obtain ⟨p1,q1,i1,h1,j1⟩:=ROs.ixr Lx rfl g1
   refine ai i1 ?_
   have h1:_=[_]:=h1
   subst h1
   refine ai (aG (j1 0 _ rfl)) ?_
   refine ay hp (λhp=>?_) λhp=>?_
   ·refine lI w0 3 ?_
    refine lSl w0 3 ?_
    refine cK eI w0 (n:=1) (l:=([1]:List Int)) rfl (CR.cons1 rfl CR.empty) rfl λH2 w2 s2 c2=>?_
    obtain ⟨w3,s3⟩:=w2.pp [3,0,1,2,4] 5
    have f4:=W.borrow1 eI w3 (Ly.step (s2.trans s3))
    obtain ⟨w4,s4⟩:=w3.right1
    have f5:=W.borrow1 eI w4 ((c2.step s3).step s4)
    obtain ⟨w5,s5⟩:=w4.right1
    obtain ⟨r6,e6,hp⟩:=ag hp
    refine aE (aI.P rfl (show 1=List.length ([1]:List Int) from rfl) ⟨w5,(f4.step s5),f5⟩ e6) ?_
    rintro _ H7 ⟨o1a_7,o1n_7,o1c_7,o1k_7,rfl,rfl,w7,s7,f7_0⟩
    obtain ⟨w8,s8⟩:=W.frame1 w4 w7 s7
    obtain ⟨w9,s9⟩:=W.frame1 w3 w8 s8
    refine br (br (br (br (br ?_))))
    refine aq w9 5 λH10 w10 s10=>?_
    refine aq w10 5 λH11 w11 s11=>?_
    obtain ⟨w12,s12⟩:=w11.pp [3,4,2,5] 6
    exact aT.j6_P (@ih) rfl rfl rfl ⟨w12,(s0.trans (s2.trans (s3.trans (s9.trans (s10.trans (s11.trans s12)))))),(Lx.step (s2.trans (s3.trans (s9.trans (s10.trans (s11.trans s12)))))),(Yu.step (s2.trans (s3.trans (s9.trans (s10.trans (s11.trans s12)))))),((CR.flat (fA .i64) f7_0).step (s10.trans (s11.trans s12)))⟩ hp
   ·exact aT.j6_P (@ih) rfl rfl rfl ⟨w0,s0,Lx,Yu,Ly⟩ hp
  ·refine lI w0 3 ?_
   refine lSl w0 3 ?_
   refine aq w0 1 λH13 w13 s13=>?_
   refine aq w13 1 λH14 w14 s14=>?_
   refine lI w14 1 ?_
   refine lSl w14 1 ?_
   obtain ⟨w15,s15⟩:=w14.pp [2] 4
   exact az hp ⟨_,_,_,_,rfl,rfl,w15,(s0.trans (s13.trans (s14.trans s15))),(Ly.step (s13.trans (s14.trans s15)))⟩
def aT.p (F:Nat) (ah:as6) (aA:Int):Option (Int×List Int):=aT.pl61 F F ah aA 0 ([]:List Int) 0 0
theorem aT.P {aB ak aC ah aA} (ba:ak=ah.length) (h0:Inn H R0 λR=>ROs eI H R ⟨aB,ak,aC⟩ ah) {r:as9} (hp:aT.p F ah aA=some r):Rt (aT.tw F ⟨aB,ak,aC⟩ aA H) (aT.Q H R0 R0  r):=by
 obtain ⟨w0,aO⟩:=h0
 subst ba
 unfold aT.p at hp
 unfold aT.tw aT.twX
 have s0:=w0.rf
 refine aS w0 λH1 w1 s1=>?_
 refine aS w1 λH2 w2 s2=>?_
 refine aq w2 0 λH3 w3 s3=>?_
 refine aq w3 0 λH4 w4 s4=>?_
 obtain ⟨w5,s5⟩:=w4.nilS eI.z (by decide)
 obtain ⟨w6,s6⟩:=w5.nilS eI.z (by decide)
 obtain ⟨w7,s7⟩:=w6.pp [1,3,0,2] 4
 exact aT.l61_P F rfl rfl rfl ⟨w7,(s0.trans (s1.trans (s2.trans (s3.trans (s4.trans (s5.trans (s6.trans s7))))))),(aO.step (s1.trans (s2.trans (s3.trans (s4.trans (s5.trans (s6.trans s7))))))),((CR.empty:CR eI _ _ [] []).step (s6.trans s7)),((CR.empty:CR eI _ _ [] []).step s7)⟩ hp
def a_.Q (H0:Hp) (Ri R0:as3)  (r:(List ((List (Int×List Int))))) (v:AV) (H':Hp):Prop:=∃ o0a:ON,∃ o0n:Nat,∃ o0c:Cap,∃ o0k:List AV,v=(.sl ⟨o0a,o0n,o0c⟩)/\o0n=(r).length/\Out H0 Ri H' (Rs.own ⟨o0a,o0n,o0c⟩ (eSl (ac eI (eSl eI))).z o0k::R0) λR=>CR (eSl (ac eI (eSl eI))) H' R o0k (r)
def a_.S125 (H0:Hp) (Ri R0:as3)  (C:att) (pC:atO):Prop:=∀ {Lz LA Ei Ej LB LC qE LD LE mK kr qF},∀ {H:Hp},Ei=qE.length->Ej=qF.length->(Out H0 Ri H (Rs.own ⟨Lz,Ei,LB⟩ (eSl (ac eI (eSl eI))).z LD::Rs.own ⟨LA,Ej,LC⟩ (eSl eI).z LE::R0) λR=>CR (eSl (ac eI (eSl eI))) H R LD qE/\CR (eSl eI) H R LE qF)->∀ {r:(List ((List (Int×List Int))))},pC qE mK qF kr=some r->Rt (C ⟨Lz,Ei,LB⟩ mK ⟨LA,Ej,LC⟩ kr H) (a_.Q H0 Ri R0  r)
def a_.S8021 (H0:Hp) (Ri R0:as3)  (C:Sl->Int->Sl->Int->Sl->Int->Hp->OA) (pC:List ((List (Int×List Int)))->Int->List (List Int)->Int->List (Int×List Int)->Int->Option ((List ((List (Int×List Int)))))):Prop:=∀ {LF LG LI Ek El Em LJ LL LM qG LN LP LQ je jf jg nj qH},∀ {H:Hp},Ek=qG.length->El=nj.length->Em=qH.length->(Out H0 Ri H (Rs.own ⟨LF,Ek,LJ⟩ (eSl (ac eI (eSl eI))).z LN::Rs.own ⟨LG,El,LL⟩ (eSl eI).z LP::Rs.own ⟨LI,Em,LM⟩ (ac eI (eSl eI)).z LQ::R0) λR=>CR (eSl (ac eI (eSl eI))) H R LN qG/\CR (eSl eI) H R LP nj/\CR (ac eI (eSl eI)) H R LQ qH)->∀ {r:(List ((List (Int×List Int))))},pC qG je nj jf qH jg=some r->Rt (C ⟨LF,Ek,LJ⟩ je ⟨LG,El,LL⟩ jf ⟨LI,Em,LM⟩ jg H) (a_.Q H0 Ri R0  r)
def a_.pj3 (F:Nat) (bt:atO) (yD:atl) (nM:Int) (yE:atf) (jc:Int):Option ((List ((List (Int×List Int))))):=bt yD nM yE (wrap .i64 (jc+1))
theorem a_.j3_P  {C125_:att} {bt:atO} (hC125:a_.S125 H0 Ri R0  C125_ bt) {Yv Yw LR LS Yx Yy yD Yz YA nM jc yE} (alb:LR=yD.length) (alc:LS=yE.length) (h0:Out H0 Ri H (Rs.own ⟨Yv,LR,Yx⟩ (eSl (ac eI (eSl eI))).z Yz::Rs.own ⟨Yw,LS,Yy⟩ (eSl eI).z YA::R0) λR=>CR (eSl (ac eI (eSl eI))) H R Yz yD/\CR (eSl eI) H R YA yE) {r:(List ((List (Int×List Int))))} (hp:a_.pj3 F bt yD nM yE jc=some r):Rt (a_.j3 F (aj.tw F) (bi.tw F) (aT.tw F) C125_ ⟨Yv,LR,Yx⟩ nM ⟨Yw,LS,Yy⟩ jc H) (a_.Q H0 Ri R0  r):=by
 obtain ⟨w0,s0,ald,ale⟩:=h0
 subst alb
 subst alc
 unfold a_.pj3 at hp
 unfold a_.j3
 exact hC125 rfl rfl ⟨w0,s0,ald,ale⟩ hp
def a_.pj4 (F:Nat) (bt:atO) (yF:atl) (jb:Int) (yG:atf) (nI:Int) (qI:atm):Option ((List ((List (Int×List Int))))):=(apn yF ([qI]:List ((List (Int×List Int))))).bind λl3=>a_.pj3 F bt l3 jb yG nI
theorem a_.j4_P  {C125_:att} {bt:atO} (hC125:a_.S125 H0 Ri R0  C125_ bt) {YB YC YD LT LU LV YE YF YG yF YH YI YJ jb nI yG qI} (alf:LT=yF.length) (alg:LU=yG.length) (alh:LV=qI.length) (h0:Out H0 Ri H (Rs.own ⟨YB,LT,YE⟩ (eSl (ac eI (eSl eI))).z YH::Rs.own ⟨YC,LU,YF⟩ (eSl eI).z YI::Rs.own ⟨YD,LV,YG⟩ (ac eI (eSl eI)).z YJ::R0) λR=>CR (eSl (ac eI (eSl eI))) H R YH yF/\CR (eSl eI) H R YI yG/\CR (ac eI (eSl eI)) H R YJ qI) {r:(List ((List (Int×List Int))))} (hp:a_.pj4 F bt yF jb yG nI qI=some r):Rt (a_.j4 F (aj.tw F) (bi.tw F) (aT.tw F) C125_ ⟨YB,LT,YE⟩ jb ⟨YC,LU,YF⟩ nI ⟨YD,LV,YG⟩ H) (a_.Q H0 Ri R0  r):=by
 obtain ⟨w0,s0,ali,alj,alk⟩:=h0
 subst alf
 subst alg
 subst alh
 unfold a_.pj4 at hp
 unfold a_.j4
 obtain ⟨w1,s1,f1⟩:=w0.frz (i:=2) (ac eI (eSl eI)) rfl alk
 refine cK (eSl (ac eI (eSl eI))) w1 (n:=1) (l:=([qI]:List ((List (Int×List Int))))) rfl (CR.cons1 ⟨_,rfl,f1⟩ CR.empty) rfl λH2 w2 s2 c2=>?_
 refine ai (w2.rowo (i:=0) rfl) ?_
 obtain ⟨l3,e3,hp⟩:=ag hp
 refine fz (eSl (ac eI (eSl eI))) w2 (i:=1) rfl rfl (ali.step (s1.trans s2)) c2 (show 1=List.length ([qI]:List ((List (Int×List Int)))) from rfl) rfl e3 λa4 d4 H4 w4 s4 c4 x4=>?_
 obtain ⟨w5,s5⟩:=w4.pp [1,2] 3
 exact a_.j3_P (@hC125) rfl rfl ⟨w5,(s0.trans (s1.trans (s2.trans (s4.trans s5)))),(c4.step s5),(alj.step (s1.trans (s2.trans (s4.trans s5))))⟩ hp
def a_.pl8021 (F:Nat) (bt:atO):Nat->List ((List (Int×List Int)))->Int->List (List Int)->Int->List (Int×List Int)->Int->Option ((List ((List (Int×List Int)))))
 | 0,_,_,_,_,_,_=>none
 | k+1,qG,je,nj,jf,qH,jg=>(bif (decide (jg<=je)) then ((ix nj jf).bind λn1=>(aT.p F (gt nj n1) jg).bind λr2=>(apn qH ([(r2.1,r2.2)]:List (Int×List Int))).bind λl6=>a_.pl8021 F bt k qG je nj jf l6 (wrap .i64 (jg+1))) else (a_.pj4 F bt qG je nj jf qH))
theorem a_.l8021_P  {C125_:att} {bt:atO} (hC125:a_.S125 H0 Ri R0  C125_ bt):∀ k,a_.S8021 H0 Ri R0  (a_.l8021 F (aj.tw F) (bi.tw F) (aT.tw F) C125_ k) (a_.pl8021 F bt k):=by
 intro k
 induction k with
 | zero=>unfold a_.S8021;intros;rename_i hp;cases hp
 | succ k ih=>
  intro LF LG LI Ek El Em LJ LL LM qG LN LP LQ je jf jg nj qH H alm aln alo h0 r hp
  obtain ⟨w0,s0,YK,LW,YL⟩:=h0
  subst alm
  subst aln
  subst alo
  unfold a_.pl8021 at hp
  unfold a_.l8021
  refine ay hp (λhp=>?_) λhp=>?_
  ·obtain ⟨n1,g1,hp⟩:=ag hp
   obtain ⟨p1,q1,i1,h1,j1⟩:=W.ixo (E:=(eSl eI)) w0 (i:=1) rfl rfl LW g1
   refine ai i1 ?_
   obtain ⟨⟨YM,m1_0,c1_0⟩,rfl,f1_0⟩:=h1
   obtain rfl:m1_0=_:=f1_0.n
   refine ai (iE (j1 0 _ rfl)) ?_
   obtain ⟨r2,e2,hp⟩:=ag hp
   refine aE (aT.P rfl ⟨w0,f1_0⟩ e2) ?_
   rintro _ H3 ⟨o1a_3,o1n_3,o1c_3,o1k_3,rfl,rfl,w3,s3,f3_0⟩
   refine br (br (br (br (br ?_))))
   obtain ⟨w4,s4,f4⟩:=w3.frz (i:=0) eI rfl f3_0
   refine cK (ac eI (eSl eI)) w4 (n:=1) (l:=([(r2.1,r2.2)]:List (Int×List Int))) rfl (CR.cons (c:=[_,_]) ⟨[_],_,rfl,rfl,⟨_,rfl,f4⟩⟩ CR.empty) rfl λH5 w5 s5 c5=>?_
   refine ai (w5.rowo (i:=0) rfl) ?_
   obtain ⟨l6,e6,hp⟩:=ag hp
   refine fz (ac eI (eSl eI)) w5 (i:=3) rfl rfl (YL.step (s3.trans (s4.trans s5))) c5 (show 1=List.length ([(r2.1,r2.2)]:List (Int×List Int)) from rfl) rfl e6 λa7 d7 H7 w7 s7 c7 x7=>?_
   obtain ⟨w8,s8⟩:=w7.pp [1,2,3] 4
   exact ih rfl rfl rfl ⟨w8,(s0.trans (s3.trans (s4.trans (s5.trans (s7.trans s8))))),(YK.step (s3.trans (s4.trans (s5.trans (s7.trans s8))))),(LW.step (s3.trans (s4.trans (s5.trans (s7.trans s8))))),(c7.step s8)⟩ hp
  ·exact a_.j4_P (@hC125) rfl rfl rfl ⟨w0,s0,YK,LW,YL⟩ hp
def a_.pl125 (F:Nat) :Nat->List ((List (Int×List Int)))->Int->List (List Int)->Int->Option ((List ((List (Int×List Int)))))
 | 0,_,_,_,_=>none
 | k+1,qE,mK,qF,kr=>(bif (decide (kr<(qF.length:Int))) then (a_.pl8021 F (a_.pl125 F k) F qE mK qF kr ([]:List (Int×List Int)) 1) else (some qE))
theorem a_.l125_P  :∀ k,a_.S125 H0 Ri R0  (a_.l125 F (aj.tw F) (bi.tw F) (aT.tw F)  k) (a_.pl125 F  k):=by
 intro k
 induction k with
 | zero=>unfold a_.S125;intros;rename_i hp;cases hp
 | succ k ih=>
  intro Lz LA Ei Ej LB LC qE LD LE mK kr qF H alp alq h0 r hp
  obtain ⟨w0,s0,YN,alr⟩:=h0
  subst alp
  subst alq
  unfold a_.pl125 at hp
  unfold a_.l125
  refine ay hp (λhp=>?_) λhp=>?_
  ·refine cK (ac eI (eSl eI)) w0 (n:=0) (l:=([]:List (Int×List Int))) rfl CR.empty rfl λH1 w1 s1 c1=>?_
   obtain ⟨w2,s2⟩:=w1.pp [1,2,0] 3
   exact a_.l8021_P (@ih) F rfl rfl (show 0=List.length ([]:List (Int×List Int)) from rfl) ⟨w2,(s0.trans (s1.trans s2)),(YN.step (s1.trans s2)),(alr.step (s1.trans s2)),(c1.step s2)⟩ hp
  ·obtain ⟨w3,s3⟩:=w0.pp [0] 2
   exact az hp ⟨_,_,_,_,rfl,rfl,w3,(s0.trans s3),(YN.step s3)⟩
def a_.p (F:Nat) (ah:atb) (af:Int):Option ((List ((List (Int×List Int))))):=(aj.p F ah af).bind λr3=>(bi.p F ah af).bind λr5=>a_.pl125 F F ([]:List ((List (Int×List Int)))) r3.2 r5 0
theorem a_.P {aB ak aC ah af} (ba:ak=ah.length) (h0:Inn H R0 λR=>ROs (ac eI (ac eI (ac eI (ac eI eI)))) H R ⟨aB,ak,aC⟩ ah) {r:(List ((List (Int×List Int))))} (hp:a_.p F ah af=some r):Rt (a_.tw F ⟨aB,ak,aC⟩ af H) (a_.Q H R0 R0  r):=by
 obtain ⟨w0,aO⟩:=h0
 subst ba
 unfold a_.p at hp
 unfold a_.tw a_.twX
 have s0:=w0.rf
 refine aS w0 λH1 w1 s1=>?_
 refine cK (eSl (ac eI (eSl eI))) w1 (n:=0) (l:=([]:List ((List (Int×List Int))))) rfl CR.empty rfl λH2 w2 s2 c2=>?_
 refine lSl w2 1 ?_
 refine lI w2 1 ?_
 obtain ⟨r3,e3,hp⟩:=ag hp
 refine aE (aj.P rfl ⟨w2,(aO.step (s1.trans s2))⟩ e3) ?_
 rintro _ H4 ⟨o0a_4,o0n_4,o0c_4,o0k_4,rfl,rfl,w4,s4,f4_0⟩
 refine br (br (br (br (br ?_))))
 refine lSl w4 2 ?_
 refine lI w4 2 ?_
 obtain ⟨r5,e5,hp⟩:=ag hp
 refine aE (bi.P rfl ⟨w4,(aO.step (s1.trans (s2.trans s4)))⟩ e5) ?_
 rintro _ H6 ⟨o0a_6,o0n_6,o0c_6,o0k_6,rfl,rfl,w6,s6,f6_0⟩
 refine br ?_
 obtain ⟨w7,s7⟩:=w6.pp [2,0] 4
 exact a_.l125_P F (show 0=List.length ([]:List ((List (Int×List Int)))) from rfl) rfl ⟨w7,(s0.trans (s1.trans (s2.trans (s4.trans (s6.trans s7))))),(c2.step (s4.trans (s6.trans s7))),(f6_0.step s7)⟩ hp
def aH.Q (H0:Hp) (Ri R0:as3)  (r:as9) (v:AV) (H':Hp):Prop:=∃ o1a:ON,∃ o1n:Nat,∃ o1c:Cap,∃ o1k:List AV,v=(.agg [(.i r.1),(.sl ⟨o1a,o1n,o1c⟩)])/\o1n=(r.2).length/\Out H0 Ri H' (Rs.own ⟨o1a,o1n,o1c⟩ eI.z o1k::R0) λR=>CR eI H' R o1k (r.2)
def aH.S61 (H0:Hp) (Ri R0:as3)  (C:atI) (pC:atP):Prop:=∀ {nk vV YO kt qJ LX LY LZ nl fa En nR Er nS Es qK L_ Ma Mb lA vW Mc qL Md Me},∀ {H:Hp},nl=lA.length->En=vW.length->Er=Mc.length->Es=qL.length->(Out H0 Ri H (Rs.blk fa [.i nk,.sl ⟨qJ,nl,qK⟩]::Rs.blk nR [.i vV,.sl ⟨LX,En,L_⟩]::Rs.own ⟨LY,Er,Ma⟩ eI.z Md::Rs.blk nS [.i YO,.sl ⟨LY,Er,Ma⟩]::Rs.own ⟨LZ,Es,Mb⟩ eI.z Me::R0) λR=>ROs eI H R ⟨qJ,nl,qK⟩ lA/\ROs eI H R ⟨LX,En,L_⟩ vW/\CR eI H R Md Mc/\CR eI H R Me qL)->∀ {r:as9},pC nk lA vV vW qL kt=some r->Rt (C fa 0 nR 0 nS 0 ⟨LZ,Es,Mb⟩ kt H) (aH.Q H0 Ri R0  r)
def aH.S981 (H0:Hp) (Ri R0:as3)  (C:atD) (pC:Int->List Int->Int->List Int->List Int->Int->Int->Option (Int×List Int)):Prop:=∀ {vX vY YP gB gC Mf Mg Mh Mi Et mL Eu lT Ev nQ Ew Mj Ml Mm Mn nm mg Mo mh Mp Mq},∀ {H:Hp},Et=nm.length->Eu=mg.length->Ev=Mo.length->Ew=mh.length->(Out H0 Ri H (Rs.blk mL [.i vX,.sl ⟨Mf,Et,Mj⟩]::Rs.blk lT [.i vY,.sl ⟨Mg,Eu,Ml⟩]::Rs.own ⟨Mh,Ev,Mm⟩ eI.z Mp::Rs.blk nQ [.i YP,.sl ⟨Mh,Ev,Mm⟩]::Rs.own ⟨Mi,Ew,Mn⟩ eI.z Mq::R0) λR=>ROs eI H R ⟨Mf,Et,Mj⟩ nm/\ROs eI H R ⟨Mg,Eu,Ml⟩ mg/\CR eI H R Mp Mo/\CR eI H R Mq mh)->∀ {r:as9},pC vX nm vY mg mh gB gC=some r->Rt (C mL 0 lT 0 nQ 0 ⟨Mi,Ew,Mn⟩ gB gC H) (aH.Q H0 Ri R0  r)
def aH.pj4 (F:Nat) (ar:atP) (Ex:Int) (yH:as6) (Ey:Int) (yI:as6) (yJ:as6) (tl:Int):Option (Int×List Int):=ar Ex yH Ey yI yJ (wrap .i64 (tl+1))
theorem aH.j4_P  {C61_:atI} {ar:atP} (hC61:aH.S61 H0 Ri R0  C61_ ar) {Ex Ey als tl YQ YR YS YT Mr Bl Ms Bm Mt Bn Mu YU YV YW YX yH yI YY yJ YZ Y_} (alu:Mr=yH.length) (alv:Ms=yI.length) (alw:Mt=YY.length) (alx:Mu=yJ.length) (h0:Out H0 Ri H (Rs.blk Bl [.i Ex,.sl ⟨YQ,Mr,YU⟩]::Rs.blk Bm [.i Ey,.sl ⟨YR,Ms,YV⟩]::Rs.own ⟨YS,Mt,YW⟩ eI.z YZ::Rs.blk Bn [.i als,.sl ⟨YS,Mt,YW⟩]::Rs.own ⟨YT,Mu,YX⟩ eI.z Y_::R0) λR=>ROs eI H R ⟨YQ,Mr,YU⟩ yH/\ROs eI H R ⟨YR,Ms,YV⟩ yI/\CR eI H R YZ YY/\CR eI H R Y_ yJ) {r:as9} (hp:aH.pj4 F ar Ex yH Ey yI yJ tl=some r):Rt (aH.j4 F (aR.tw F) C61_ Bl 0 Bm 0 Bn 0 ⟨YT,Mu,YX⟩ tl H) (aH.Q H0 Ri R0  r):=by
 obtain ⟨w0,s0,aly,alz,alA,alB⟩:=h0
 subst alu
 subst alv
 subst alw
 subst alx
 unfold aH.pj4 at hp
 unfold aH.j4
 exact hC61 rfl rfl rfl rfl ⟨w0,s0,aly,alz,alA,alB⟩ hp
def aH.pj5 (F:Nat) (ar:atP) (Ez:Int) (yK:as6) (EA:Int) (yL:as6) (yM:as6) (tp:Int):Option (Int×List Int):=aH.pj4 F ar Ez yK EA yL yM tp
theorem aH.j5_P  {C61_:atI} {ar:atP} (hC61:aH.S61 H0 Ri R0  C61_ ar) {Ez EA Mv tp Za Zb yN Zc Mw Bo Mx Bp qM jO My Zd Ze yO Zf yK yL yP yM yQ Zg} (alC:Mw=yK.length) (alD:Mx=yL.length) (Mz:qM=yP.length) (alE:My=yM.length) (h0:Out H0 Ri H (Rs.blk Bo [.i Ez,.sl ⟨Za,Mw,Zd⟩]::Rs.blk Bp [.i EA,.sl ⟨Zb,Mx,Ze⟩]::Rs.own ⟨yN,qM,yO⟩ eI.z yQ::Rs.blk jO [.i Mv,.sl ⟨yN,qM,yO⟩]::Rs.own ⟨Zc,My,Zf⟩ eI.z Zg::R0) λR=>ROs eI H R ⟨Za,Mw,Zd⟩ yK/\ROs eI H R ⟨Zb,Mx,Ze⟩ yL/\CR eI H R yQ yP/\CR eI H R Zg yM) {r:as9} (hp:aH.pj5 F ar Ez yK EA yL yM tp=some r):Rt (aH.j5 F (aR.tw F) C61_ Bo 0 Bp 0 jO 0 ⟨Zc,My,Zf⟩ tp H) (aH.Q H0 Ri R0  r):=by
 obtain ⟨w0,s0,alF,alG,Zh,alH⟩:=h0
 subst alC
 subst alD
 subst Mz
 subst alE
 unfold aH.pj5 at hp
 unfold aH.j5
 exact aH.j4_P (@hC61) rfl rfl rfl rfl ⟨w0,s0,alF,alG,Zh,alH⟩ hp
def aH.pl981 (F:Nat) (ar:atP):Nat->Int->List Int->Int->List Int->List Int->Int->Int->Option (Int×List Int)
 | 0,_,_,_,_,_,_,_=>none
 | k+1,vX,nm,vY,mg,mh,gB,gC=>(bif (decide (gC<(mg.length:Int))) then ((ix mh (wrap .i64 (gB+gC))).bind λn1=>(ix nm gB).bind λn2=>(ix mg gC).bind λn3=>(ix mh (wrap .i64 (gB+gC))).bind λn4=>(some (mh.set n4 (wrap .i64 ((gt mh n1)+(wrap .i64 ((gt nm n2) * (gt mg n3))))))).bind λl5=>aH.pl981 F ar k vX nm vY mg l5 gB (wrap .i64 (gC+1))) else (aH.pj5 F ar vX nm vY mg mh gB))
theorem aH.l981_P  {C61_:atI} {ar:atP} (hC61:aH.S61 H0 Ri R0  C61_ ar):∀ k,aH.S981 H0 Ri R0  (aH.l981 F (aR.tw F) C61_ k) (aH.pl981 F ar k):=by
 intro k
 induction k with
 | zero=>unfold aH.S981;intros;rename_i hp;cases hp
 | succ k ih=>
  intro vX vY YP gB gC Mf Mg Mh Mi Et mL Eu lT Ev nQ Ew Mj Ml Mm Mn nm mg Mo mh Mp Mq H alI alJ alK alL h0 r hp
  obtain ⟨w0,s0,MA,MB,Zi,EB⟩:=h0
  subst alI
  subst alJ
  subst alK
  subst alL
  unfold aH.pl981 at hp
  unfold aH.l981
  refine lSl w0 1 ?_
  refine ay hp (λhp=>?_) λhp=>?_
  ·obtain ⟨n1,g1,hp⟩:=ag hp
   obtain ⟨p1,q1,i1,h1,j1⟩:=W.ixo (E:=eI) w0 (i:=4) rfl rfl EB g1
   refine ai i1 ?_
   have h1:_=[_]:=h1
   subst h1
   refine ai (aG (j1 0 _ rfl)) ?_
   refine lSl w0 0 ?_
   obtain ⟨n2,g2,hp⟩:=ag hp
   obtain ⟨p2,q2,i2,h2,j2⟩:=ROs.ixr MA rfl g2
   refine ai i2 ?_
   have h2:_=[_]:=h2
   subst h2
   refine ai (aG (j2 0 _ rfl)) ?_
   refine lSl w0 1 ?_
   obtain ⟨n3,g3,hp⟩:=ag hp
   obtain ⟨p3,q3,i3,h3,j3⟩:=ROs.ixr MB rfl g3
   refine ai i3 ?_
   have h3:_=[_]:=h3
   subst h3
   refine ai (aG (j3 0 _ rfl)) ?_
   obtain ⟨n4,g4,hp⟩:=ag hp
   obtain ⟨p4,q4,i4,h4,j4⟩:=W.ixo (E:=eI) w0 (i:=4) rfl rfl EB g4
   refine ai i4 ?_
   obtain ⟨l5,e5,hp⟩:=ag hp
   refine dC eI w0 (i:=4) (j:=0) (p:=p4) rfl rfl EB g4 i4 e5 rfl rfl (λ_ h=>by have h:_=[_]:=h;subst h;exact rfl) λH6 k6 w6 s6 c6=>?_
   exact ih rfl rfl rfl ((cz e5).symm) ⟨w6,(s0.trans s6),(MA.step s6),(MB.step s6),(Zi.step s6),c6⟩ hp
  ·exact aH.j5_P (@hC61) rfl rfl rfl rfl ⟨w0,s0,MA,MB,Zi,EB⟩ hp
def aH.pj3 (F:Nat)  (EC:Int) (ED:Int) (yR:as6):Option (Int×List Int):=(aR.p F (wrap .i64 (EC+ED)) yR).bind λr3=>some (r3.1,r3.2)
theorem aH.j3_P   {EC ED alM Zj Zk Zl Zm MC Bi MD Bj ME pD MF Zn Zo Zp Zq Zr Zs Zt yR Zu Zv} (alN:MC=Zr.length) (alO:MD=Zs.length) (alP:ME=Zt.length) (alQ:MF=yR.length) (h0:Out H0 Ri H (Rs.blk Bi [.i EC,.sl ⟨Zj,MC,Zn⟩]::Rs.blk Bj [.i ED,.sl ⟨Zk,MD,Zo⟩]::Rs.own ⟨Zl,ME,Zp⟩ eI.z Zu::Rs.blk pD [.i alM,.sl ⟨Zl,ME,Zp⟩]::Rs.own ⟨Zm,MF,Zq⟩ eI.z Zv::R0) λR=>ROs eI H R ⟨Zj,MC,Zn⟩ Zr/\ROs eI H R ⟨Zk,MD,Zo⟩ Zs/\CR eI H R Zu Zt/\CR eI H R Zv yR) {r:as9} (hp:aH.pj3 F  EC ED yR=some r):Rt (aH.j3 F (aR.tw F)  Bi 0 Bj 0 pD 0 ⟨Zm,MF,Zq⟩ H) (aH.Q H0 Ri R0  r):=by
 obtain ⟨w0,s0,ass,ast,asu,alR⟩:=h0
 subst alN
 subst alO
 subst alP
 subst alQ
 unfold aH.pj3 at hp
 unfold aH.j3
 refine lI w0 0 ?_
 refine lI w0 1 ?_
 obtain ⟨w1,s1⟩:=w0.pp [4,0,1,2,3] 5
 have f2:=W.borrow1 eI w1 (alR.step s1)
 obtain ⟨w2,s2⟩:=w1.right1
 obtain ⟨r3,e3,hp⟩:=ag hp
 refine aE (aR.P rfl ⟨w2,f2⟩ e3) ?_
 rintro _ H4 ⟨o1a_4,o1n_4,o1c_4,o1k_4,rfl,rfl,w4,s4,f4_0⟩
 obtain ⟨w5,s5⟩:=W.frame1 w1 w4 s4
 refine br (br (br (br (br ?_))))
 refine aq w5 5 λH6 w6 s6=>?_
 refine aq w6 5 λH7 w7 s7=>?_
 refine lI w7 5 ?_
 refine lSl w7 5 ?_
 obtain ⟨w8,s8⟩:=w7.pp [1] 6
 exact az hp ⟨_,_,_,_,rfl,rfl,w8,(s0.trans (s1.trans (s5.trans (s6.trans (s7.trans s8))))),((CR.flat (fA .i64) f4_0).step (s6.trans (s7.trans s8)))⟩
def aH.pl61 (F:Nat) :Nat->Int->List Int->Int->List Int->List Int->Int->Option (Int×List Int)
 | 0,_,_,_,_,_,_=>none
 | k+1,nk,lA,vV,vW,qL,kt=>(bif (decide (kt<(lA.length:Int))) then (aH.pl981 F (aH.pl61 F k) F nk lA vV vW qL kt 0) else (aH.pj3 F nk vV qL))
theorem aH.l61_P  :∀ k,aH.S61 H0 Ri R0  (aH.l61 F (aR.tw F)  k) (aH.pl61 F  k):=by
 intro k
 induction k with
 | zero=>unfold aH.S61;intros;rename_i hp;cases hp
 | succ k ih=>
  intro nk vV YO kt qJ LX LY LZ nl fa En nR Er nS Es qK L_ Ma Mb lA vW Mc qL Md Me H MG alS alT alU h0 r hp
  obtain ⟨w0,s0,yS,Zw,Zx,Zy⟩:=h0
  subst MG
  subst alS
  subst alT
  subst alU
  unfold aH.pl61 at hp
  unfold aH.l61
  refine lSl w0 0 ?_
  refine ay hp (λhp=>?_) λhp=>?_
  ·exact aH.l981_P (@ih) F rfl rfl rfl rfl ⟨w0,s0,yS,Zw,Zx,Zy⟩ hp
  ·exact aH.j3_P rfl rfl rfl rfl ⟨w0,s0,yS,Zw,Zx,Zy⟩ hp
def aH.p (F:Nat) (aa:Int) (aF:as6) (au:Int) (bz:as6):Option (Int×List Int):=(bif ((aF.length:Int)==0) then (some (0,([]:List Int))) else ((bif ((bz.length:Int)==0) then (some (0,([]:List Int))) else ((mkn (wrap .i64 ((wrap .i64 ((aF.length:Int)+(bz.length:Int))) - 1)) (0:Int)).bind λl12=>aH.pl61 F F aa aF au bz l12 0))))
theorem aH.P {aa au cj ev bD dg ck ew aF bz} (du:bD=aF.length) (gM:dg=bz.length) (h0:Inn H R0 λR=>ROs eI H R ⟨cj,bD,ck⟩ aF/\ROs eI H R ⟨ev,dg,ew⟩ bz) {r:as9} (hp:aH.p F aa aF au bz=some r):Rt (aH.tw F aa ⟨cj,bD,ck⟩ au ⟨ev,dg,ew⟩ H) (aH.Q H R0 R0  r):=by
 obtain ⟨w0,cq,fc⟩:=h0
 subst du
 subst gM
 unfold aH.p at hp
 unfold aH.tw aH.twX
 have s0:=w0.rf
 refine aS w0 λH1 w1 s1=>?_
 refine aS w1 λH2 w2 s2=>?_
 refine aS w2 λH3 w3 s3=>?_
 refine lSl w3 2 ?_
 refine ay hp (λhp=>?_) λhp=>?_
 ·refine aq w3 0 λH4 w4 s4=>?_
  refine aq w4 0 λH5 w5 s5=>?_
  refine lI w5 0 ?_
  refine lSl w5 0 ?_
  obtain ⟨w6,s6⟩:=w5.nilS eI.z (by decide)
  obtain ⟨w7,s7⟩:=w6.pp [0] 4
  exact az hp ⟨_,_,_,_,rfl,rfl,w7,(s0.trans (s1.trans (s2.trans (s3.trans (s4.trans (s5.trans (s6.trans s7))))))),((CR.empty:CR eI _ _ [] []).step s7)⟩
 ·refine lSl w3 1 ?_
  refine ay hp (λhp=>?_) λhp=>?_
  ·refine aq w3 0 λH8 w8 s8=>?_
   refine aq w8 0 λH9 w9 s9=>?_
   refine lI w9 0 ?_
   refine lSl w9 0 ?_
   obtain ⟨w10,s10⟩:=w9.nilS eI.z (by decide)
   obtain ⟨w11,s11⟩:=w10.pp [0] 4
   exact az hp ⟨_,_,_,_,rfl,rfl,w11,(s0.trans (s1.trans (s2.trans (s3.trans (s8.trans (s9.trans (s10.trans s11))))))),((CR.empty:CR eI _ _ [] []).step s11)⟩
  ·refine lSl w3 2 ?_
   refine lSl w3 1 ?_
   obtain ⟨l12,e12,hp⟩:=ag hp
   refine ka eI (0:Int) w3 rfl rfl rfl e12 λH13 k13 w13 s13 c13=>?_
   obtain ⟨w14,s14⟩:=w13.nilS eI.z (by decide)
   obtain ⟨w15,s15⟩:=w14.pp [4,3,0,2,1] 5
   exact aH.l61_P F rfl rfl rfl rfl ⟨w15,(s0.trans (s1.trans (s2.trans (s3.trans (s13.trans (s14.trans s15)))))),(cq.step (s1.trans (s2.trans (s3.trans (s13.trans (s14.trans s15)))))),(fc.step (s1.trans (s2.trans (s3.trans (s13.trans (s14.trans s15)))))),((CR.empty:CR eI _ _ [] []).step s15),(c13.step (s14.trans s15))⟩ hp
def av.Q (H0:Hp) (Ri R0:as3)  (r:as9) (v:AV) (H':Hp):Prop:=∃ o1a:ON,∃ o1n:Nat,∃ o1c:Cap,v=(.agg [(.i r.1),(.sl ⟨o1a,o1n,o1c⟩)])/\o1n=(r.2).length/\Out H0 Ri H' (R0) λR=>ROs eI H' R ⟨o1a,o1n,o1c⟩ (r.2)
def av.S61 (H0:Hp) (Ri R0:as3)  (C:atv) (pC:ati):Prop:=∀ {MH MI MJ EE EF dN EG MK ML MM vZ d_ Zz kv MN MO MP qN},∀ {H:Hp},EE=vZ.length->EF=MN.length->EG=qN.length->(Out H0 Ri H (Rs.own ⟨MI,EF,ML⟩ eI.z MO::Rs.blk dN [.i Zz,.sl ⟨MI,EF,ML⟩]::Rs.own ⟨MJ,EG,MM⟩ (ac eI (eSl eI)).z MP::R0) λR=>ROs (eSl (ac eI (eSl eI))) H R ⟨MH,EE,MK⟩ vZ/\CR eI H R MO MN/\CR (ac eI (eSl eI)) H R MP qN)->∀ {r:as9},pC vZ d_ qN kv=some r->Rt (C ⟨MH,EE,MK⟩ d_ dN 0 ⟨MJ,EG,MM⟩ kv H) (av.Q H0 Ri R0  r)
def av.S3925 (H0:Hp) (Ri R0:as3)  (C:Sl->Int->Nat->Nat->Sl->Int->Int->Int->Hp->OA) (pC:List ((List (Int×List Int)))->Int->List (Int×List Int)->Int->Int->Int->Option (Int×List Int)):Prop:=∀ {MQ MR MS EH EI nW EJ MT MU MV qO jk ZA jl ku hZ MW MX MY qP},∀ {H:Hp},EH=qO.length->EI=MW.length->EJ=qP.length->(Out H0 Ri H (Rs.own ⟨MR,EI,MU⟩ eI.z MX::Rs.blk nW [.i ZA,.sl ⟨MR,EI,MU⟩]::Rs.own ⟨MS,EJ,MV⟩ (ac eI (eSl eI)).z MY::R0) λR=>ROs (eSl (ac eI (eSl eI))) H R ⟨MQ,EH,MT⟩ qO/\CR eI H R MX MW/\CR (ac eI (eSl eI)) H R MY qP)->∀ {r:as9},pC qO jk qP jl ku hZ=some r->Rt (C ⟨MQ,EH,MT⟩ jk nW 0 ⟨MS,EJ,MV⟩ jl ku hZ H) (av.Q H0 Ri R0  r)
def av.S31421 (H0:Hp) (Ri R0:as3)  (C:atX) (pC:atZ):Prop:=∀ {MZ M_ Na Nb EK EL mM EM EN jj Nc Nd Nf Ng jU jh ZB gD ji qQ hY eT Nh oL Ni Nj Nk lC},∀ {H:Hp},EK=jU.length->EL=Nh.length->EM=lC.length->EN=oL.length->(Out H0 Ri H (Rs.own ⟨M_,EL,Nd⟩ eI.z Ni::Rs.blk mM [.i ZB,.sl ⟨M_,EL,Nd⟩]::Rs.own ⟨Na,EM,Nf⟩ (ac eI (eSl eI)).z Nj::Rs.own ⟨Nb,EN,Ng⟩ eI.z Nk::Rs.blk jj [.i qQ,.sl ⟨Nb,EN,Ng⟩]::R0) λR=>ROs (eSl (ac eI (eSl eI))) H R ⟨MZ,EK,Nc⟩ jU/\CR eI H R Ni Nh/\CR (ac eI (eSl eI)) H R Nj lC/\CR eI H R Nk oL)->∀ {r:as9},pC jU jh lC gD ji qQ oL hY eT=some r->Rt (C ⟨MZ,EK,Nc⟩ jh mM 0 ⟨Na,EM,Nf⟩ gD ji jj 0 hY eT H) (av.Q H0 Ri R0  r)
def av.pj13 (F:Nat) (nn:atZ) (yT:atl) (tB:Int) (yU:atm) (tC:Int) (tD:Int) (EO:Int) (yV:as6) (tE:Int) (tF:Int):Option (Int×List Int):=nn yT tB yU tC tD EO yV tE (wrap .i64 (tF - 1))
theorem av.j13_P  {C31421_:atX} {nn:atZ} (hC31421:av.S31421 H0 Ri R0  C31421_ nn) {ZC ZD ZE ZF Nl Nm Bv Nn No Bw ZG ZH ZI ZJ yT tB alV tC tD EO tE tF ZK yV ZL ZM ZN yU} (alW:Nl=yT.length) (alX:Nm=ZK.length) (alY:Nn=yU.length) (alZ:No=yV.length) (h0:Out H0 Ri H (Rs.own ⟨ZD,Nm,ZH⟩ eI.z ZL::Rs.blk Bv [.i alV,.sl ⟨ZD,Nm,ZH⟩]::Rs.own ⟨ZE,Nn,ZI⟩ (ac eI (eSl eI)).z ZM::Rs.own ⟨ZF,No,ZJ⟩ eI.z ZN::Rs.blk Bw [.i EO,.sl ⟨ZF,No,ZJ⟩]::R0) λR=>ROs (eSl (ac eI (eSl eI))) H R ⟨ZC,Nl,ZG⟩ yT/\CR eI H R ZL ZK/\CR (ac eI (eSl eI)) H R ZM yU/\CR eI H R ZN yV) {r:as9} (hp:av.pj13 F nn yT tB yU tC tD EO yV tE tF=some r):Rt (av.j13 F (aH.tw F) (aI.tw F) C31421_ ⟨ZC,Nl,ZG⟩ tB Bv 0 ⟨ZE,Nn,ZI⟩ tC tD Bw 0 tE tF H) (av.Q H0 Ri R0  r):=by
 obtain ⟨w0,s0,al0,al1,al2,al3⟩:=h0
 subst alW
 subst alX
 subst alY
 subst alZ
 unfold av.pj13 at hp
 unfold av.j13
 exact hC31421 rfl rfl rfl rfl ⟨w0,s0,al0,al1,al2,al3⟩ hp
def av.pj14 (F:Nat) (nn:atZ) (yW:atl) (tG:Int) (yX:atm) (tH:Int) (tI:Int) (EP:Int) (yY:as6) (tJ:Int) (tK:Int):Option (Int×List Int):=nn yW tG yX tH tI EP yY tJ (wrap .i64 (tK - 1))
theorem av.j14_P  {C31421_:atX} {nn:atZ} (hC31421:av.S31421 H0 Ri R0  C31421_ nn) {ZO ZP ZQ ZR Np Nq Bx Nr Ns By ZS ZT ZU ZV yW tG al4 tH tI EP tJ tK ZW yY ZX ZY ZZ yX} (al5:Np=yW.length) (al6:Nq=ZW.length) (al7:Nr=yX.length) (al8:Ns=yY.length) (h0:Out H0 Ri H (Rs.own ⟨ZP,Nq,ZT⟩ eI.z ZX::Rs.blk Bx [.i al4,.sl ⟨ZP,Nq,ZT⟩]::Rs.own ⟨ZQ,Nr,ZU⟩ (ac eI (eSl eI)).z ZY::Rs.own ⟨ZR,Ns,ZV⟩ eI.z ZZ::Rs.blk By [.i EP,.sl ⟨ZR,Ns,ZV⟩]::R0) λR=>ROs (eSl (ac eI (eSl eI))) H R ⟨ZO,Np,ZS⟩ yW/\CR eI H R ZX ZW/\CR (ac eI (eSl eI)) H R ZY yX/\CR eI H R ZZ yY) {r:as9} (hp:av.pj14 F nn yW tG yX tH tI EP yY tJ tK=some r):Rt (av.j14 F (aH.tw F) (aI.tw F) C31421_ ⟨ZO,Np,ZS⟩ tG Bx 0 ⟨ZQ,Nr,ZU⟩ tH tI By 0 tJ tK H) (av.Q H0 Ri R0  r):=by
 obtain ⟨w0,s0,al9,al_,ama,amb⟩:=h0
 subst al5
 subst al6
 subst al7
 subst al8
 unfold av.pj14 at hp
 unfold av.j14
 exact hC31421 rfl rfl rfl rfl ⟨w0,s0,al9,al_,ama,amb⟩ hp
def av.pj11 (F:Nat) (ar:ati) (yZ:atl) (tu:Int) (y_:atm) (tv:Int):Option (Int×List Int):=ar yZ tu y_ (wrap .i64 (tv+1))
theorem av.j11_P  {C61_:atv} {ar:ati} (hC61:av.S61 H0 Ri R0  C61_ ar) {Z_ aaa aab Nt Nu Bt Nv aac aad aae yZ tu amc tv aaf aag aah y_} (amd:Nt=yZ.length) (ame:Nu=aaf.length) (amf:Nv=y_.length) (h0:Out H0 Ri H (Rs.own ⟨aaa,Nu,aad⟩ eI.z aag::Rs.blk Bt [.i amc,.sl ⟨aaa,Nu,aad⟩]::Rs.own ⟨aab,Nv,aae⟩ (ac eI (eSl eI)).z aah::R0) λR=>ROs (eSl (ac eI (eSl eI))) H R ⟨Z_,Nt,aac⟩ yZ/\CR eI H R aag aaf/\CR (ac eI (eSl eI)) H R aah y_) {r:as9} (hp:av.pj11 F ar yZ tu y_ tv=some r):Rt (av.j11 F (aH.tw F) (aI.tw F) C61_ ⟨Z_,Nt,aac⟩ tu Bt 0 ⟨aab,Nv,aae⟩ tv H) (av.Q H0 Ri R0  r):=by
 obtain ⟨w0,s0,amg,amh,ami⟩:=h0
 subst amd
 subst ame
 subst amf
 unfold av.pj11 at hp
 unfold av.j11
 exact hC61 rfl rfl rfl ⟨w0,s0,amg,amh,ami⟩ hp
def av.pj12 (F:Nat) (ar:ati) (za:atl) (tz:Int) (qR:atm) (nU:Int) (EQ:Int) (zb:as6):Option (Int×List Int):=(ix qR nU).bind λn1=>(some (qR.set n1 (EQ,(gt qR n1).2))).bind λl2=>(some (l2.set n1 ((gt l2 n1).1,zb))).bind λl5=>av.pj11 F ar za tz l5 nU
theorem av.j12_P  {C61_:atv} {ar:ati} (hC61:av.S61 H0 Ri R0  C61_ ar) {aai aaj aak aal Nw Nx Bu Ny Nz xd aam aan aao aap za tz amj nU EQ aaq zb aar aas aat qR} (amk:Nw=za.length) (aml:Nx=aaq.length) (amm:Ny=qR.length) (amn:Nz=zb.length) (h0:Out H0 Ri H (Rs.own ⟨aaj,Nx,aan⟩ eI.z aar::Rs.blk Bu [.i amj,.sl ⟨aaj,Nx,aan⟩]::Rs.own ⟨aak,Ny,aao⟩ (ac eI (eSl eI)).z aas::Rs.own ⟨aal,Nz,aap⟩ eI.z aat::Rs.blk xd [.i EQ,.sl ⟨aal,Nz,aap⟩]::R0) λR=>ROs (eSl (ac eI (eSl eI))) H R ⟨aai,Nw,aam⟩ za/\CR eI H R aar aaq/\CR (ac eI (eSl eI)) H R aas qR/\CR eI H R aat zb) {r:as9} (hp:av.pj12 F ar za tz qR nU EQ zb=some r):Rt (av.j12 F (aH.tw F) (aI.tw F) C61_ ⟨aai,Nw,aam⟩ tz Bu 0 ⟨aak,Ny,aao⟩ nU xd 0 H) (av.Q H0 Ri R0  r):=by
 obtain ⟨w0,s0,amo,amp,aau,amq⟩:=h0
 subst amk
 subst aml
 subst amm
 subst amn
 unfold av.pj12 at hp
 unfold av.j12
 refine lI w0 4 ?_
 refine lSl w0 4 ?_
 obtain ⟨n1,g1,hp⟩:=ag hp
 obtain ⟨p1,q1,i1,h1,j1⟩:=W.ixo (E:=(ac eI (eSl eI))) w0 (i:=2) rfl rfl aau g1
 refine ai i1 ?_
 obtain ⟨l2,e2,hp⟩:=ag hp
 refine dC (ac eI (eSl eI)) w0 (i:=2) (j:=0) (p:=p1) rfl rfl aau g1 i1 e2 rfl rfl (λ_ h=>by obtain ⟨_,_,rfl,rfl,⟨_,rfl,q1⟩⟩:=h;exact ⟨[_],_,rfl,rfl,⟨_,rfl,q1⟩⟩) λH3 k3 w3 s3 c3=>?_
 obtain ⟨w4,s4,f4⟩:=w3.frz (i:=3) eI rfl (amq.step s3)
 obtain ⟨l5,e5,hp⟩:=ag hp
 refine dC (ac eI (eSl eI)) w4 (i:=2) (j:=1) (p:=p1) rfl rfl (c3.step s4) (mu g1 (cz e2)) i1 e5 rfl rfl (λ_ h=>by obtain ⟨_,_,rfl,rfl,⟨_,rfl,q1⟩⟩:=h;exact ⟨[_],_,rfl,rfl,⟨_,rfl,f4⟩⟩) λH6 k6 w6 s6 c6=>?_
 obtain ⟨w7,s7⟩:=w6.pp [0,1,2] 4
 exact av.j11_P (@hC61) rfl rfl ((cz e2).symm.trans (cz e5).symm) ⟨w7,(s0.trans (s3.trans (s4.trans (s6.trans s7)))),(amo.step (s3.trans (s4.trans (s6.trans s7)))),(amp.step (s3.trans (s4.trans (s6.trans s7)))),(c6.step s7)⟩ hp
def av.pl31421 (F:Nat) (ar:ati):Nat->List ((List (Int×List Int)))->Int->List (Int×List Int)->Int->Int->Int->List Int->Int->Int->Option (Int×List Int)
 | 0,_,_,_,_,_,_,_,_,_=>none
 | k+1,jU,jh,lC,gD,ji,qQ,oL,hY,eT=>(bif (decide (eT>=0)) then ((if (IntKind.u64.wrap eT)<0 then none else ((bif ((Go.bits .and .i64 (Int.fdiv gD (2 ^ (min ((IntKind.u64.wrap eT):Int).toNat (IntKind.i64).bits))) 1)==0) then (av.pj13 F (av.pl31421 F ar k) jU jh lC gD ji qQ oL hY eT) else ((ix jU ji).bind λn2=>(ix (gt jU n2) eT).bind λn3=>(if (IntKind.u64.wrap eT)<0 then none else ((ix lC (wrap .i64 (gD - (wrap .i64 (1 * 2 ^ (min ((IntKind.u64.wrap eT):Int).toNat (IntKind.i64).bits)))))).bind λn5=>(aH.p F ((gt (gt jU n2) n3).1) ((gt (gt jU n2) n3).2) ((gt lC n5).1) ((gt lC n5).2)).bind λr6=>(aH.p F r6.1 r6.2 0 ([hY]:List Int)).bind λr16=>(aI.p F qQ oL r16.1 r16.2).bind λr24=>av.pj14 F (av.pl31421 F ar k) jU jh lC gD ji r24.1 r24.2 (wrap .i64 (0 - hY)) eT))))))) else (av.pj12 F ar jU jh lC gD qQ oL))
theorem av.l31421_P  {C61_:atv} {ar:ati} (hC61:av.S61 H0 Ri R0  C61_ ar):∀ k,av.S31421 H0 Ri R0  (av.l31421 F (aH.tw F) (aI.tw F) C61_ k) (av.pl31421 F ar k):=by
 intro k
 induction k with
 | zero=>unfold av.S31421;intros;rename_i hp;cases hp
 | succ k ih=>
  intro MZ M_ Na Nb EK EL mM EM EN jj Nc Nd Nf Ng jU jh ZB gD ji qQ hY eT Nh oL Ni Nj Nk lC H amr ams amt amu h0 r hp
  obtain ⟨w0,s0,ER,NA,ES,NB⟩:=h0
  subst amr
  subst ams
  subst amt
  subst amu
  unfold av.pl31421 at hp
  unfold av.l31421
  refine ay hp (λhp=>?_) λhp=>?_
  ·obtain ⟨g1,hp⟩:=kb hp
   refine kc g1 ?_
   refine ay hp (λhp=>?_) λhp=>?_
   ·exact av.j13_P (@ih) rfl rfl rfl rfl ⟨w0,s0,ER,NA,ES,NB⟩ hp
   ·obtain ⟨n2,g2,hp⟩:=ag hp
    obtain ⟨p2,q2,i2,h2,j2⟩:=ROs.ixr ER rfl g2
    refine ai i2 ?_
    obtain ⟨⟨amv,m2_0,c2_0⟩,rfl,f2_0⟩:=h2
    obtain rfl:m2_0=_:=f2_0.n
    refine ai (iE (j2 0 _ rfl)) ?_
    obtain ⟨n3,g3,hp⟩:=ag hp
    obtain ⟨p3,q3,i3,h3,j3⟩:=ROs.ixr f2_0 rfl g3
    refine ai i3 ?_
    obtain ⟨_,_,rfl,rfl,⟨⟨amw,m3_1,c3_1⟩,rfl,f3_1⟩⟩:=h3
    obtain rfl:m3_1=_:=f3_1.n
    refine ai (aG (j3 0 _ rfl)) ?_
    refine ai (iE (j3 1 _ rfl)) ?_
    obtain ⟨g4,hp⟩:=kb hp
    refine kc g4 ?_
    obtain ⟨n5,g5,hp⟩:=ag hp
    obtain ⟨p5,q5,i5,h5,j5⟩:=W.ixo (E:=(ac eI (eSl eI))) w0 (i:=2) rfl rfl ES g5
    refine ai i5 ?_
    obtain ⟨_,_,rfl,rfl,⟨⟨amx,m5_1,c5_1⟩,rfl,f5_1⟩⟩:=h5
    obtain rfl:m5_1=_:=f5_1.n
    refine ai (aG (j5 0 _ rfl)) ?_
    refine ai (iE (j5 1 _ rfl)) ?_
    obtain ⟨r6,e6,hp⟩:=ag hp
    refine aE (aH.P rfl rfl ⟨w0,f3_1,f5_1⟩ e6) ?_
    rintro _ H7 ⟨o1a_7,o1n_7,o1c_7,o1k_7,rfl,rfl,w7,s7,f7_0⟩
    refine br (br (br (br (br ?_))))
    refine eK (W.cons_of (Rn:=[_]) w0 w7 s7) ?_
    refine aS w7 λH9 w9 s9=>?_
    refine aq w9 0 λH10 w10 s10=>?_
    refine aq w10 0 λH11 w11 s11=>?_
    refine lI w11 6 ?_
    refine lSl w11 6 ?_
    refine lI w11 0 ?_
    refine lSl w11 0 ?_
    refine cK eI w11 (n:=1) (l:=([hY]:List Int)) rfl (CR.cons1 rfl CR.empty) rfl λH12 w12 s12 c12=>?_
    obtain ⟨w13,s13⟩:=w12.pp [2,0,1,3,4,5,6,7] 8
    have f14:=W.borrow1 eI w13 (f7_0.step (s9.trans (s10.trans (s11.trans (s12.trans s13)))))
    obtain ⟨w14,s14⟩:=w13.right1
    have f15:=W.borrow1 eI w14 ((c12.step s13).step s14)
    obtain ⟨w15,s15⟩:=w14.right1
    obtain ⟨r16,e16,hp⟩:=ag hp
    refine aE (aH.P rfl (show 1=List.length ([hY]:List Int) from rfl) ⟨w15,(f14.step s15),f15⟩ e16) ?_
    rintro _ H17 ⟨o1a_17,o1n_17,o1c_17,o1k_17,rfl,rfl,w17,s17,f17_0⟩
    obtain ⟨w18,s18⟩:=W.frame1 w14 w17 s17
    obtain ⟨w19,s19⟩:=W.frame1 w13 w18 s18
    refine br (br (br (br (br ?_))))
    refine eK (aZ.tr (aZ.refl _) s13 (W.cons_of (Rn:=[_]) w15 w17 s17)) ?_
    obtain ⟨w21,s21⟩:=w19.pp [7,2,0,1,3,4,5,6,8] 9
    have f22:=W.borrow1 eI w21 (NB.step (s7.trans (s9.trans (s10.trans (s11.trans (s12.trans (s13.trans (s19.trans s21))))))))
    obtain ⟨w22,s22⟩:=w21.right1
    have f23:=W.borrow1 eI w22 (((CR.flat (fA .i64) f17_0).step s21).step s22)
    obtain ⟨w23,s23⟩:=w22.right1
    obtain ⟨r24,e24,hp⟩:=ag hp
    refine aE (aI.P rfl rfl ⟨w23,(f22.step s23),f23⟩ e24) ?_
    rintro _ H25 ⟨o1a_25,o1n_25,o1c_25,o1k_25,rfl,rfl,w25,s25,f25_0⟩
    obtain ⟨w26,s26⟩:=W.frame1 w22 w25 s25
    obtain ⟨w27,s27⟩:=W.frame1 w21 w26 s26
    refine br (br (br (br (br ?_))))
    refine aq w27 9 λH28 w28 s28=>?_
    refine aq w28 9 λH29 w29 s29=>?_
    obtain ⟨w30,s30⟩:=w29.pp [6,7,8,2,9] 10
    exact av.j14_P (@ih) rfl rfl rfl rfl ⟨w30,(s0.trans (s7.trans (s9.trans (s10.trans (s11.trans (s12.trans (s13.trans (s19.trans (s21.trans (s27.trans (s28.trans (s29.trans s30)))))))))))),(ER.step (s7.trans (s9.trans (s10.trans (s11.trans (s12.trans (s13.trans (s19.trans (s21.trans (s27.trans (s28.trans (s29.trans s30)))))))))))),(NA.step (s7.trans (s9.trans (s10.trans (s11.trans (s12.trans (s13.trans (s19.trans (s21.trans (s27.trans (s28.trans (s29.trans s30)))))))))))),(ES.step (s7.trans (s9.trans (s10.trans (s11.trans (s12.trans (s13.trans (s19.trans (s21.trans (s27.trans (s28.trans (s29.trans s30)))))))))))),((CR.flat (fA .i64) f25_0).step (s28.trans (s29.trans s30)))⟩ hp
  ·exact av.j12_P (@hC61) rfl rfl rfl rfl ⟨w0,s0,ER,NA,ES,NB⟩ hp
def av.pj15 (F:Nat) (ar:ati) (zd:atl) (nV:Int) (ze:atm) (tO:Int) (tP:Int):Option (Int×List Int):=av.pl31421 F ar F zd nV ze tO tP 0 ([]:List Int) 1 (wrap .i64 (nV - 1))
theorem av.j15_P  {C61_:atv} {ar:ati} (hC61:av.S61 H0 Ri R0  C61_ ar) {aav aaw aax NC NE Bz NF aay aaz aaA zd nV amy tO tP aaB aaC aaD ze} (amz:NC=zd.length) (amA:NE=aaB.length) (amB:NF=ze.length) (h0:Out H0 Ri H (Rs.own ⟨aaw,NE,aaz⟩ eI.z aaC::Rs.blk Bz [.i amy,.sl ⟨aaw,NE,aaz⟩]::Rs.own ⟨aax,NF,aaA⟩ (ac eI (eSl eI)).z aaD::R0) λR=>ROs (eSl (ac eI (eSl eI))) H R ⟨aav,NC,aay⟩ zd/\CR eI H R aaC aaB/\CR (ac eI (eSl eI)) H R aaD ze) {r:as9} (hp:av.pj15 F ar zd nV ze tO tP=some r):Rt (av.j15 F (aH.tw F) (aI.tw F) C61_ ⟨aav,NC,aay⟩ nV Bz 0 ⟨aax,NF,aaA⟩ tO tP H) (av.Q H0 Ri R0  r):=by
 obtain ⟨w0,s0,amC,amD,amE⟩:=h0
 subst amz
 subst amA
 subst amB
 unfold av.pj15 at hp
 unfold av.j15
 refine aS w0 λH1 w1 s1=>?_
 refine aq w1 0 λH2 w2 s2=>?_
 refine aq w2 0 λH3 w3 s3=>?_
 obtain ⟨w4,s4⟩:=w3.nilS eI.z (by decide)
 obtain ⟨w5,s5⟩:=w4.pp [2,3,4,0,1] 5
 exact av.l31421_P (@hC61) F rfl rfl rfl rfl ⟨w5,(s0.trans (s1.trans (s2.trans (s3.trans (s4.trans s5))))),(amC.step (s1.trans (s2.trans (s3.trans (s4.trans s5))))),(amD.step (s1.trans (s2.trans (s3.trans (s4.trans s5))))),(amE.step (s1.trans (s2.trans (s3.trans (s4.trans s5))))),((CR.empty:CR eI _ _ [] []).step s5)⟩ hp
def av.pl3925 (F:Nat) (ar:ati):Nat->List ((List (Int×List Int)))->Int->List (Int×List Int)->Int->Int->Int->Option (Int×List Int)
 | 0,_,_,_,_,_,_=>none
 | k+1,qO,jk,qP,jl,ku,hZ=>(bif (decide (hZ<jk)) then ((if (IntKind.u64.wrap hZ)<0 then none else (av.pl3925 F ar k qO jk qP jl (wrap .i64 (ku+(Go.bits .and .i64 (Int.fdiv jl (2 ^ (min ((IntKind.u64.wrap hZ):Int).toNat (IntKind.i64).bits))) 1))) (wrap .i64 (hZ+1))))) else (av.pj15 F ar qO jk qP jl ku))
theorem av.l3925_P  {C61_:atv} {ar:ati} (hC61:av.S61 H0 Ri R0  C61_ ar):∀ k,av.S3925 H0 Ri R0  (av.l3925 F (aH.tw F) (aI.tw F) C61_ k) (av.pl3925 F ar k):=by
 intro k
 induction k with
 | zero=>unfold av.S3925;intros;rename_i hp;cases hp
 | succ k ih=>
  intro MQ MR MS EH EI nW EJ MT MU MV qO jk ZA jl ku hZ MW MX MY qP H amF amG amH h0 r hp
  obtain ⟨w0,s0,aaE,aaF,aaG⟩:=h0
  subst amF
  subst amG
  subst amH
  unfold av.pl3925 at hp
  unfold av.l3925
  refine ay hp (λhp=>?_) λhp=>?_
  ·obtain ⟨g1,hp⟩:=kb hp
   refine kc g1 ?_
   exact ih rfl rfl rfl ⟨w0,s0,aaE,aaF,aaG⟩ hp
  ·exact av.j15_P (@hC61) rfl rfl rfl ⟨w0,s0,aaE,aaF,aaG⟩ hp
def av.pj8 (F:Nat)  (nT:Int) (qS:atm):Option (Int×List Int):=(if (IntKind.u64.wrap nT)<0 then none else ((ix qS (wrap .i64 ((wrap .i64 (1 * 2 ^ (min ((IntKind.u64.wrap nT):Int).toNat (IntKind.i64).bits))) - 1))).bind λn2=>some (((gt qS n2).1),(gt qS n2).2)))
theorem av.j8_P   {nT amI aaH aaI NG pE NH aaJ aaK aaL aaM aaN qS} (amJ:NG=aaL.length) (amK:NH=qS.length) (h0:Out H0 Ri H (Rs.own ⟨aaH,NG,aaJ⟩ eI.z aaM::Rs.blk pE [.i amI,.sl ⟨aaH,NG,aaJ⟩]::Rs.own ⟨aaI,NH,aaK⟩ (ac eI (eSl eI)).z aaN::R0) λR=>CR eI H R aaM aaL/\CR (ac eI (eSl eI)) H R aaN qS) {r:as9} (hp:av.pj8 F  nT qS=some r):Rt (av.j8 F (aH.tw F) (aI.tw F)  nT pE 0 ⟨aaI,NH,aaK⟩ H) (av.Q H0 Ri R0  r):=by
 obtain ⟨w0,s0,asv,amL⟩:=h0
 subst amJ
 subst amK
 unfold av.pj8 at hp
 unfold av.j8
 obtain ⟨g1,hp⟩:=kb hp
 refine kc g1 ?_
 obtain ⟨n2,g2,hp⟩:=ag hp
 obtain ⟨p2,q2,i2,h2,j2⟩:=W.ixo (E:=(ac eI (eSl eI))) w0 (i:=2) rfl rfl amL g2
 refine ai i2 ?_
 obtain ⟨_,_,rfl,rfl,⟨⟨amM,m2_1,c2_1⟩,rfl,f2_1⟩⟩:=h2
 obtain rfl:m2_1=_:=f2_1.n
 refine ai (aG (j2 0 _ rfl)) ?_
 refine ai (iE (j2 1 _ rfl)) ?_
 refine aq w0 1 λH3 w3 s3=>?_
 refine aq w3 1 λH4 w4 s4=>?_
 refine lI w4 1 ?_
 refine lSl w4 1 ?_
 obtain ⟨w5,s5⟩:=w4.pp [] 3
 exact az hp ⟨_,_,_,rfl,rfl,w5,(s0.trans (s3.trans (s4.trans s5))),(f2_1.step (s3.trans (s4.trans s5)))⟩
def av.pl61 (F:Nat) :Nat->List ((List (Int×List Int)))->Int->List (Int×List Int)->Int->Option (Int×List Int)
 | 0,_,_,_,_=>none
 | k+1,vZ,d_,qN,kv=>(if (IntKind.u64.wrap d_)<0 then none else ((bif (decide (kv<(wrap .i64 (1 * 2 ^ (min ((IntKind.u64.wrap d_):Int).toNat (IntKind.i64).bits))))) then (av.pl3925 F (av.pl61 F k) F vZ d_ qN kv (-1) 0) else (av.pj8 F d_ qN))))
theorem av.l61_P  :∀ k,av.S61 H0 Ri R0  (av.l61 F (aH.tw F) (aI.tw F)  k) (av.pl61 F  k):=by
 intro k
 induction k with
 | zero=>unfold av.S61;intros;rename_i hp;cases hp
 | succ k ih=>
  intro MH MI MJ EE EF dN EG MK ML MM vZ d_ Zz kv MN MO MP qN H amN amO amP h0 r hp
  obtain ⟨w0,s0,amQ,aaO,aaP⟩:=h0
  subst amN
  subst amO
  subst amP
  unfold av.pl61 at hp
  unfold av.l61
  obtain ⟨g1,hp⟩:=kb hp
  refine kc g1 ?_
  refine ay hp (λhp=>?_) λhp=>?_
  ·exact av.l3925_P (@ih) F rfl rfl rfl ⟨w0,s0,amQ,aaO,aaP⟩ hp
  ·exact av.j8_P rfl rfl ⟨w0,s0,aaO,aaP⟩ hp
def av.p (F:Nat) (ah:atl) (aA:Int):Option (Int×List Int):=(if (IntKind.u64.wrap aA)<0 then none else ((mkn (wrap .i64 (1 * 2 ^ (min ((IntKind.u64.wrap aA):Int).toNat (IntKind.i64).bits))) ((0:Int),([]:List Int))).bind λl3=>(ix l3 0).bind λn6=>(some (l3.set n6 (0,(gt l3 n6).2))).bind λl7=>(some (l7.set n6 ((gt l7 n6).1,([1]:List Int)))).bind λl10=>av.pl61 F F ah aA l10 1))
theorem av.P {aB ak aC ah aA} (ba:ak=ah.length) (h0:Inn H R0 λR=>ROs (eSl (ac eI (eSl eI))) H R ⟨aB,ak,aC⟩ ah) {r:as9} (hp:av.p F ah aA=some r):Rt (av.tw F ⟨aB,ak,aC⟩ aA H) (av.Q H R0 R0  r):=by
 obtain ⟨w0,aO⟩:=h0
 subst ba
 unfold av.p at hp
 unfold av.tw av.twX
 have s0:=w0.rf
 refine aS w0 λH1 w1 s1=>?_
 obtain ⟨g2,hp⟩:=kb hp
 refine kc g2 ?_
 obtain ⟨l3,e3,hp⟩:=ag hp
 refine ka (ac eI (eSl eI)) ((0:Int),([]:List Int)) w1 ⟨[_],_,rfl,rfl,⟨_,rfl,ROs.nil⟩⟩ rfl rfl e3 λH4 k4 w4 s4 c4=>?_
 refine cK eI w4 (n:=1) (l:=([1]:List Int)) rfl (CR.cons1 rfl CR.empty) rfl λH5 w5 s5 c5=>?_
 obtain ⟨n6,g6,hp⟩:=ag hp
 obtain ⟨p6,q6,i6,h6,j6⟩:=W.ixo (E:=(ac eI (eSl eI))) w5 (i:=1) rfl rfl (c4.step s5) g6
 refine ai i6 ?_
 obtain ⟨l7,e7,hp⟩:=ag hp
 refine dC (ac eI (eSl eI)) w5 (i:=1) (j:=0) (p:=p6) rfl rfl (c4.step s5) g6 i6 e7 rfl rfl (λ_ h=>by obtain ⟨_,_,rfl,rfl,⟨_,rfl,q1⟩⟩:=h;exact ⟨[_],_,rfl,rfl,⟨_,rfl,q1⟩⟩) λH8 k8 w8 s8 c8=>?_
 obtain ⟨w9,s9,f9⟩:=w8.frz (i:=0) eI rfl (c5.step s8)
 obtain ⟨l10,e10,hp⟩:=ag hp
 refine dC (ac eI (eSl eI)) w9 (i:=0) (j:=1) (p:=p6) rfl rfl (c8.step s9) (mu g6 (cz e7)) i6 e10 rfl rfl (λ_ h=>by obtain ⟨_,_,rfl,rfl,⟨_,rfl,q1⟩⟩:=h;exact ⟨[_],_,rfl,rfl,⟨_,rfl,f9⟩⟩) λH11 k11 w11 s11 c11=>?_
 obtain ⟨w12,s12⟩:=w11.nilS eI.z (by decide)
 obtain ⟨w13,s13⟩:=w12.pp [0,2,1] 3
 exact av.l61_P F rfl rfl ((cz e7).symm.trans (cz e10).symm) ⟨w13,(s0.trans (s1.trans (s4.trans (s5.trans (s8.trans (s9.trans (s11.trans (s12.trans s13)))))))),(aO.step (s1.trans (s4.trans (s5.trans (s8.trans (s9.trans (s11.trans (s12.trans s13)))))))),((CR.empty:CR eI _ _ [] []).step s13),(c11.step (s12.trans s13))⟩ hp
def bF.Q (H0:Hp) (Ri R0:as3)  (r:Bool) (v:AV) (H':Hp):Prop:=v=(.bool r)/\Out H0 Ri H' (R0) λR=>True
def bF.S125 (H0:Hp) (Ri R0:as3)  (C:Nat->Nat->Int->Hp->OA) (pC:List Int->Int->Option (Bool)):Prop:=∀ {aaQ fJ NI ET mO NJ np},∀ {H:Hp},ET=np.length->(Out H0 Ri H (Rs.blk mO [.i aaQ,.sl ⟨NI,ET,NJ⟩]::R0) λR=>ROs eI H R ⟨NI,ET,NJ⟩ np)->∀ {r:Bool},pC np fJ=some r->Rt (C mO 0 fJ H) (bF.Q H0 Ri R0  r)
def bF.pl125 (F:Nat) :Nat->List Int->Int->Option (Bool)
 | 0,_,_=>none
 | k+1,np,fJ=>(bif (decide (fJ<(np.length:Int))) then ((ix np fJ).bind λn1=>(cR.p F (gt np n1) (-1000000000000) 1000000000000).bind λr2=>(bif (!r2) then (some false) else (bF.pl125 F k np (wrap .i64 (fJ+1))))) else (some true))
theorem bF.l125_P  :∀ k,bF.S125 H0 Ri R0  (bF.l125 F (cR.tw F)  k) (bF.pl125 F  k):=by
 intro k
 induction k with
 | zero=>unfold bF.S125;intros;rename_i hp;cases hp
 | succ k ih=>
  intro aaQ fJ NI ET mO NJ np H amR h0 r hp
  obtain ⟨w0,s0,aaR⟩:=h0
  subst amR
  unfold bF.pl125 at hp
  unfold bF.l125
  refine lSl w0 0 ?_
  refine ay hp (λhp=>?_) λhp=>?_
  ·refine lSl w0 0 ?_
   obtain ⟨n1,g1,hp⟩:=ag hp
   obtain ⟨p1,q1,i1,h1,j1⟩:=ROs.ixr aaR rfl g1
   refine ai i1 ?_
   have h1:_=[_]:=h1
   subst h1
   refine ai (aG (j1 0 _ rfl)) ?_
   obtain ⟨r2,e2,hp⟩:=ag hp
   refine aE (cR.P ⟨w0,trivial⟩ e2) ?_
   rintro _ H3 ⟨rfl,w3,s3,_⟩
   refine br ?_
   refine ay hp (λhp=>?_) λhp=>?_
   ·obtain ⟨w4,s4⟩:=w3.pp [] 1
    exact az hp ⟨rfl,w4,(s0.trans (s3.trans s4)),trivial⟩
   ·exact ih rfl ⟨w3,(s0.trans s3),(aaR.step s3)⟩ hp
  ·obtain ⟨w5,s5⟩:=w0.pp [] 1
   exact az hp ⟨rfl,w5,(s0.trans s5),trivial⟩
def bF.p (F:Nat) (aa:Int) (aF:as6):Option (Bool):=(bif ((aF.length:Int)==0) then (some (aa==0)) else ((bif (decide ((aF.length:Int)>160)) then (some false) else ((cR.p F aa (-240) 240).bind λr4=>(bif (!r4) then (some false) else ((bif (decide ((wrap .i64 ((wrap .i64 (aa+(aF.length:Int))) - 1))>240)) then (some false) else ((ix aF 0).bind λn8=>(bif ((gt aF n8)==0) then (some false) else ((ix aF (wrap .i64 ((aF.length:Int) - 1))).bind λn10=>(bif ((gt aF n10)==0) then (some false) else (bF.pl125 F F aF 0))))))))))))
theorem bF.P {aa cj bD ck aF} (du:bD=aF.length) (h0:Inn H R0 λR=>ROs eI H R ⟨cj,bD,ck⟩ aF) {r:Bool} (hp:bF.p F aa aF=some r):Rt (bF.tw F aa ⟨cj,bD,ck⟩ H) (bF.Q H R0 R0  r):=by
 obtain ⟨w0,cq⟩:=h0
 subst du
 unfold bF.p at hp
 unfold bF.tw bF.twX
 have s0:=w0.rf
 refine aS w0 λH1 w1 s1=>?_
 refine lSl w1 0 ?_
 refine ay hp (λhp=>?_) λhp=>?_
 ·refine lI w1 0 ?_
  obtain ⟨w2,s2⟩:=w1.pp [] 1
  exact az hp ⟨rfl,w2,(s0.trans (s1.trans s2)),trivial⟩
 ·refine ay hp (λhp=>?_) λhp=>?_
  ·obtain ⟨w3,s3⟩:=w1.pp [] 1
   exact az hp ⟨rfl,w3,(s0.trans (s1.trans s3)),trivial⟩
  ·refine lI w1 0 ?_
   obtain ⟨r4,e4,hp⟩:=ag hp
   refine aE (cR.P ⟨w1,trivial⟩ e4) ?_
   rintro _ H5 ⟨rfl,w5,s5,_⟩
   refine br ?_
   refine ay hp (λhp=>?_) λhp=>?_
   ·obtain ⟨w6,s6⟩:=w5.pp [] 1
    exact az hp ⟨rfl,w6,(s0.trans (s1.trans (s5.trans s6))),trivial⟩
   ·refine lI w5 0 ?_
    refine ay hp (λhp=>?_) λhp=>?_
    ·obtain ⟨w7,s7⟩:=w5.pp [] 1
     exact az hp ⟨rfl,w7,(s0.trans (s1.trans (s5.trans s7))),trivial⟩
    ·refine lSl w5 0 ?_
     obtain ⟨n8,g8,hp⟩:=ag hp
     obtain ⟨p8,q8,i8,h8,j8⟩:=ROs.ixr (cq.step (s1.trans s5)) rfl g8
     refine ai i8 ?_
     have h8:_=[_]:=h8
     subst h8
     refine ai (aG (j8 0 _ rfl)) ?_
     refine ay hp (λhp=>?_) λhp=>?_
     ·obtain ⟨w9,s9⟩:=w5.pp [] 1
      exact az hp ⟨rfl,w9,(s0.trans (s1.trans (s5.trans s9))),trivial⟩
     ·refine lSl w5 0 ?_
      obtain ⟨n10,g10,hp⟩:=ag hp
      obtain ⟨p10,q10,i10,h10,j10⟩:=ROs.ixr (cq.step (s1.trans s5)) rfl g10
      refine ai i10 ?_
      have h10:_=[_]:=h10
      subst h10
      refine ai (aG (j10 0 _ rfl)) ?_
      refine ay hp (λhp=>?_) λhp=>?_
      ·obtain ⟨w11,s11⟩:=w5.pp [] 1
       exact az hp ⟨rfl,w11,(s0.trans (s1.trans (s5.trans s11))),trivial⟩
      ·exact bF.l125_P F rfl ⟨w5,(s0.trans (s1.trans s5)),(cq.step (s1.trans s5))⟩ hp
def bm.Q (H0:Hp) (Ri R0:as3)  (r:as9) (v:AV) (H':Hp):Prop:=∃ o1a:ON,∃ o1n:Nat,∃ o1c:Cap,∃ o1k:List AV,v=(.agg [(.i r.1),(.sl ⟨o1a,o1n,o1c⟩)])/\o1n=(r.2).length/\Out H0 Ri H' (Rs.own ⟨o1a,o1n,o1c⟩ eI.z o1k::R0) λR=>CR eI H' R o1k (r.2)
def bm.S61 (H0:Hp) (Ri R0:as3)  (C:at1) (pC:aue):Prop:=∀ {aaS nk qT fq NK qJ NL EU kw nl fa EV hU NM qK NN jG lA oM NO NP},∀ {H:Hp},EU=jG.length->nl=lA.length->EV=oM.length->(Out H0 Ri H (Rs.blk kw [.i aaS,.sl ⟨NK,EU,NM⟩]::Rs.own ⟨qJ,nl,qK⟩ eI.z NO::Rs.blk fa [.i nk,.sl ⟨qJ,nl,qK⟩]::Rs.own ⟨NL,EV,NN⟩ eI.z NP::Rs.blk hU [.i qT,.sl ⟨NL,EV,NN⟩]::R0) λR=>ROs eI H R ⟨NK,EU,NM⟩ jG/\CR eI H R NO lA/\CR eI H R NP oM)->∀ {r:as9},pC jG qT oM fq=some r->Rt (C kw 0 fa 0 hU 0 fq H) (bm.Q H0 Ri R0  r)
def bm.pj2 (F:Nat) (ar:aue) (zf:as6) (EW:Int) (zg:as6) (tR:Int) (nX:Int):Option (Int×List Int):=(apn zg ([nX]:List Int)).bind λl2=>ar zf EW l2 (wrap .i64 (tR+1))
theorem bm.j2_P  {C61_:at1} {ar:aue} (hC61:bm.S61 H0 Ri R0  C61_ ar) {amS amT EW tR nX aaT aaU aaV NQ BE NR BF NS tQ aaW aaX aaY zf aaZ zg aa0 aa1} (amU:NQ=zf.length) (amV:NR=aaZ.length) (amW:NS=zg.length) (h0:Out H0 Ri H (Rs.blk BE [.i amS,.sl ⟨aaT,NQ,aaW⟩]::Rs.own ⟨aaU,NR,aaX⟩ eI.z aa0::Rs.blk BF [.i amT,.sl ⟨aaU,NR,aaX⟩]::Rs.own ⟨aaV,NS,aaY⟩ eI.z aa1::Rs.blk tQ [.i EW,.sl ⟨aaV,NS,aaY⟩]::R0) λR=>ROs eI H R ⟨aaT,NQ,aaW⟩ zf/\CR eI H R aa0 aaZ/\CR eI H R aa1 zg) {r:as9} (hp:bm.pj2 F ar zf EW zg tR nX=some r):Rt (bm.j2 F (bF.tw F) C61_ BE 0 BF 0 tQ 0 tR nX H) (bm.Q H0 Ri R0  r):=by
 obtain ⟨w0,s0,amX,amY,amZ⟩:=h0
 subst amU
 subst amV
 subst amW
 unfold bm.pj2 at hp
 unfold bm.j2
 refine lSl w0 4 ?_
 refine cK eI w0 (n:=1) (l:=([nX]:List Int)) rfl (CR.cons1 rfl CR.empty) rfl λH1 w1 s1 c1=>?_
 refine ai (w1.rowo (i:=0) rfl) ?_
 obtain ⟨l2,e2,hp⟩:=ag hp
 refine fz eI w1 (i:=4) rfl rfl (amZ.step s1) c1 (show 1=List.length ([nX]:List Int) from rfl) rfl e2 λa3 d3 H3 w3 s3 c3 x3=>?_
 refine aq w3 5 λH4 w4 s4=>?_
 obtain ⟨w5,s5⟩:=w4.pp [1,2,3,4,5] 6
 exact hC61 rfl rfl rfl ⟨w5,(s0.trans (s1.trans (s3.trans (s4.trans s5)))),(amX.step (s1.trans (s3.trans (s4.trans s5)))),(amY.step (s1.trans (s3.trans (s4.trans s5)))),(c3.step (s4.trans s5))⟩ hp
def bm.pl61 (F:Nat) :Nat->List Int->Int->List Int->Int->Option (Int×List Int)
 | 0,_,_,_,_=>none
 | k+1,jG,qT,oM,fq=>(bif (decide (fq<(jG.length:Int))) then ((ix jG fq).bind λn1=>(ix jG 0).bind λn2=>(bif (decide ((gt jG n2)<0)) then (bm.pj2 F (bm.pl61 F k) jG qT oM fq (wrap .i64 (0 - (gt jG n1)))) else (bm.pj2 F (bm.pl61 F k) jG qT oM fq (gt jG n1)))) else (some (qT,oM)))
theorem bm.l61_P  :∀ k,bm.S61 H0 Ri R0  (bm.l61 F (bF.tw F)  k) (bm.pl61 F  k):=by
 intro k
 induction k with
 | zero=>unfold bm.S61;intros;rename_i hp;cases hp
 | succ k ih=>
  intro aaS nk qT fq NK qJ NL EU kw nl fa EV hU NM qK NN jG lA oM NO NP H am0 MG am1 h0 r hp
  obtain ⟨w0,s0,EY,yS,NT⟩:=h0
  subst am0
  subst MG
  subst am1
  unfold bm.pl61 at hp
  unfold bm.l61
  refine lSl w0 0 ?_
  refine ay hp (λhp=>?_) λhp=>?_
  ·refine lSl w0 0 ?_
   obtain ⟨n1,g1,hp⟩:=ag hp
   obtain ⟨p1,q1,i1,h1,j1⟩:=ROs.ixr EY rfl g1
   refine ai i1 ?_
   have h1:_=[_]:=h1
   subst h1
   refine ai (aG (j1 0 _ rfl)) ?_
   refine lSl w0 0 ?_
   obtain ⟨n2,g2,hp⟩:=ag hp
   obtain ⟨p2,q2,i2,h2,j2⟩:=ROs.ixr EY rfl g2
   refine ai i2 ?_
   have h2:_=[_]:=h2
   subst h2
   refine ai (aG (j2 0 _ rfl)) ?_
   refine ay hp (λhp=>?_) λhp=>?_
   ·exact bm.j2_P (@ih) rfl rfl rfl ⟨w0,s0,EY,yS,NT⟩ hp
   ·exact bm.j2_P (@ih) rfl rfl rfl ⟨w0,s0,EY,yS,NT⟩ hp
  ·refine lI w0 4 ?_
   refine lSl w0 4 ?_
   refine aq w0 2 λH3 w3 s3=>?_
   refine aq w3 2 λH4 w4 s4=>?_
   refine lI w4 2 ?_
   refine lSl w4 2 ?_
   obtain ⟨w5,s5⟩:=w4.pp [3] 5
   exact az hp ⟨_,_,_,_,rfl,rfl,w5,(s0.trans (s3.trans (s4.trans s5))),(NT.step (s3.trans (s4.trans s5)))⟩
def bm.p (F:Nat) (aa:Int) (aF:as6):Option (Int×List Int):=(bF.p F aa aF).bind λr3=>(bif (!r3) then (some (0,([]:List Int))) else ((bif ((aF.length:Int)==0) then (some (0,([]:List Int))) else (bm.pl61 F F aF 0 ([]:List Int) 0))))
theorem bm.P {aa cj bD ck aF} (du:bD=aF.length) (h0:Inn H R0 λR=>ROs eI H R ⟨cj,bD,ck⟩ aF) {r:as9} (hp:bm.p F aa aF=some r):Rt (bm.tw F aa ⟨cj,bD,ck⟩ H) (bm.Q H R0 R0  r):=by
 obtain ⟨w0,cq⟩:=h0
 subst du
 unfold bm.p at hp
 unfold bm.tw bm.twX
 have s0:=w0.rf
 refine aS w0 λH1 w1 s1=>?_
 refine aS w1 λH2 w2 s2=>?_
 refine lI w2 1 ?_
 refine lSl w2 1 ?_
 obtain ⟨r3,e3,hp⟩:=ag hp
 refine aE (bF.P rfl ⟨w2,(cq.step (s1.trans s2))⟩ e3) ?_
 rintro _ H4 ⟨rfl,w4,s4,_⟩
 refine br ?_
 refine ay hp (λhp=>?_) λhp=>?_
 ·refine aq w4 0 λH5 w5 s5=>?_
  refine aq w5 0 λH6 w6 s6=>?_
  refine lI w6 0 ?_
  refine lSl w6 0 ?_
  obtain ⟨w7,s7⟩:=w6.nilS eI.z (by decide)
  obtain ⟨w8,s8⟩:=w7.pp [0] 3
  exact az hp ⟨_,_,_,_,rfl,rfl,w8,(s0.trans (s1.trans (s2.trans (s4.trans (s5.trans (s6.trans (s7.trans s8))))))),((CR.empty:CR eI _ _ [] []).step s8)⟩
 ·refine lSl w4 1 ?_
  refine ay hp (λhp=>?_) λhp=>?_
  ·refine aq w4 0 λH9 w9 s9=>?_
   refine aq w9 0 λH10 w10 s10=>?_
   refine lI w10 0 ?_
   refine lSl w10 0 ?_
   obtain ⟨w11,s11⟩:=w10.nilS eI.z (by decide)
   obtain ⟨w12,s12⟩:=w11.pp [0] 3
   exact az hp ⟨_,_,_,_,rfl,rfl,w12,(s0.trans (s1.trans (s2.trans (s4.trans (s9.trans (s10.trans (s11.trans s12))))))),((CR.empty:CR eI _ _ [] []).step s12)⟩
  ·refine aS w4 λH13 w13 s13=>?_
   refine aq w13 0 λH14 w14 s14=>?_
   refine aq w14 0 λH15 w15 s15=>?_
   obtain ⟨w16,s16⟩:=w15.nilS eI.z (by decide)
   obtain ⟨w17,s17⟩:=w16.nilS eI.z (by decide)
   obtain ⟨w18,s18⟩:=w17.pp [4,1,3,0,2] 5
   exact bm.l61_P F rfl rfl rfl ⟨w18,(s0.trans (s1.trans (s2.trans (s4.trans (s13.trans (s14.trans (s15.trans (s16.trans (s17.trans s18))))))))),(cq.step (s1.trans (s2.trans (s4.trans (s13.trans (s14.trans (s15.trans (s16.trans (s17.trans s18))))))))),((CR.empty:CR eI _ _ [] []).step (s17.trans s18)),((CR.empty:CR eI _ _ [] []).step s18)⟩ hp
def eb.Q (H0:Hp) (Ri R0:as3)  (r:as9) (v:AV) (H':Hp):Prop:=∃ o1a:ON,∃ o1n:Nat,∃ o1c:Cap,∃ o1k:List AV,v=(.agg [(.i r.1),(.sl ⟨o1a,o1n,o1c⟩)])/\o1n=(r.2).length/\Out H0 Ri H' (Rs.own ⟨o1a,o1n,o1c⟩ eI.z o1k::R0) λR=>CR eI H' R o1k (r.2)
def eb.p (F:Nat) (ah:atb) (af:Int):Option (Int×List Int):=(aj.p F ah af).bind λr3=>(bif ((ah.length:Int) != r3.2) then ((bif ((ah.length:Int) != (wrap .i64 (r3.2 - 1))) then (some (0,([]:List Int))) else ((a_.p F ah af).bind λr9=>(av.p F r9 (wrap .i64 (r3.2 - 1))).bind λr12=>(bm.p F r12.1 r12.2).bind λr14=>some (r14.1,r14.2)))) else ((a_.p F ah af).bind λr19=>(av.p F r19 (wrap .i64 (r3.2 - 1))).bind λr22=>(bm.p F r22.1 r22.2).bind λr24=>some (r24.1,r24.2)))
theorem eb.P {aB ak aC ah af} (ba:ak=ah.length) (h0:Inn H R0 λR=>ROs (ac eI (ac eI (ac eI (ac eI eI)))) H R ⟨aB,ak,aC⟩ ah) {r:as9} (hp:eb.p F ah af=some r):Rt (eb.tw F ⟨aB,ak,aC⟩ af H) (eb.Q H R0 R0  r):=by
 obtain ⟨w0,aO⟩:=h0
 subst ba
 unfold eb.p at hp
 unfold eb.tw eb.twX
 have s0:=w0.rf
 refine aS w0 λH1 w1 s1=>?_
 refine aS w1 λH2 w2 s2=>?_
 refine lSl w2 1 ?_
 refine lI w2 1 ?_
 obtain ⟨r3,e3,hp⟩:=ag hp
 refine aE (aj.P rfl ⟨w2,(aO.step (s1.trans s2))⟩ e3) ?_
 rintro _ H4 ⟨o0a_4,o0n_4,o0c_4,o0k_4,rfl,rfl,w4,s4,f4_0⟩
 refine br (br (br (br (br ?_))))
 refine lSl w4 2 ?_
 refine ay hp (λhp=>?_) λhp=>?_
 ·refine ay hp (λhp=>?_) λhp=>?_
  ·refine aq w4 1 λH5 w5 s5=>?_
   refine aq w5 1 λH6 w6 s6=>?_
   refine lI w6 1 ?_
   refine lSl w6 1 ?_
   obtain ⟨w7,s7⟩:=w6.nilS eI.z (by decide)
   obtain ⟨w8,s8⟩:=w7.pp [0] 4
   exact az hp ⟨_,_,_,_,rfl,rfl,w8,(s0.trans (s1.trans (s2.trans (s4.trans (s5.trans (s6.trans (s7.trans s8))))))),((CR.empty:CR eI _ _ [] []).step s8)⟩
  ·refine lSl w4 2 ?_
   refine lI w4 2 ?_
   obtain ⟨r9,e9,hp⟩:=ag hp
   refine aE (a_.P rfl ⟨w4,(aO.step (s1.trans (s2.trans s4)))⟩ e9) ?_
   rintro _ H10 ⟨o0a_10,o0n_10,o0c_10,o0k_10,rfl,rfl,w10,s10,f10_0⟩
   refine br ?_
   obtain ⟨w11,s11,f11⟩:=w10.frz (i:=0) (eSl (ac eI (eSl eI))) rfl f10_0
   obtain ⟨r12,e12,hp⟩:=ag hp
   refine aE (av.P rfl ⟨w11,f11⟩ e12) ?_
   rintro _ H13 ⟨o1a_13,o1n_13,o1c_13,rfl,rfl,w13,s13,f13_0⟩
   refine br (br (br (br (br ?_))))
   obtain ⟨r14,e14,hp⟩:=ag hp
   refine aE (bm.P rfl ⟨w13,f13_0⟩ e14) ?_
   rintro _ H15 ⟨o1a_15,o1n_15,o1c_15,o1k_15,rfl,rfl,w15,s15,f15_0⟩
   refine br (br (br (br (br ?_))))
   refine aq w15 2 λH16 w16 s16=>?_
   refine aq w16 2 λH17 w17 s17=>?_
   refine lI w17 2 ?_
   refine lSl w17 2 ?_
   obtain ⟨w18,s18⟩:=w17.pp [0] 4
   exact az hp ⟨_,_,_,_,rfl,rfl,w18,(s0.trans (s1.trans (s2.trans (s4.trans (s10.trans (s11.trans (s13.trans (s15.trans (s16.trans (s17.trans s18)))))))))),(f15_0.step (s16.trans (s17.trans s18)))⟩
 ·refine lSl w4 2 ?_
  refine lI w4 2 ?_
  obtain ⟨r19,e19,hp⟩:=ag hp
  refine aE (a_.P rfl ⟨w4,(aO.step (s1.trans (s2.trans s4)))⟩ e19) ?_
  rintro _ H20 ⟨o0a_20,o0n_20,o0c_20,o0k_20,rfl,rfl,w20,s20,f20_0⟩
  refine br ?_
  obtain ⟨w21,s21,f21⟩:=w20.frz (i:=0) (eSl (ac eI (eSl eI))) rfl f20_0
  obtain ⟨r22,e22,hp⟩:=ag hp
  refine aE (av.P rfl ⟨w21,f21⟩ e22) ?_
  rintro _ H23 ⟨o1a_23,o1n_23,o1c_23,rfl,rfl,w23,s23,f23_0⟩
  refine br (br (br (br (br ?_))))
  obtain ⟨r24,e24,hp⟩:=ag hp
  refine aE (bm.P rfl ⟨w23,f23_0⟩ e24) ?_
  rintro _ H25 ⟨o1a_25,o1n_25,o1c_25,o1k_25,rfl,rfl,w25,s25,f25_0⟩
  refine br (br (br (br (br ?_))))
  refine aq w25 2 λH26 w26 s26=>?_
  refine aq w26 2 λH27 w27 s27=>?_
  refine lI w27 2 ?_
  refine lSl w27 2 ?_
  obtain ⟨w28,s28⟩:=w27.pp [0] 4
  exact az hp ⟨_,_,_,_,rfl,rfl,w28,(s0.trans (s1.trans (s2.trans (s4.trans (s20.trans (s21.trans (s23.trans (s25.trans (s26.trans (s27.trans s28)))))))))),(f25_0.step (s26.trans (s27.trans s28)))⟩
def eB.Q (H0:Hp) (Ri R0:as3)  (r:atk) (v:AV) (H':Hp):Prop:=∃ o1a:ON,∃ o1n:Nat,∃ o1c:Cap,∃ o1k:List AV,v=(.tup [(.agg [(.i r.1),(.sl ⟨o1a,o1n,o1c⟩)]),(.i r.2.2)])/\o1n=(r.2.1).length/\Out H0 Ri H' (Rs.own ⟨o1a,o1n,o1c⟩ eI.z o1k::R0) λR=>CR eI H' R o1k (r.2.1)
def eB.p (F:Nat) (ah:atb) (af:Int):Option (Int×List Int×Int):=(dE.p F ah af).bind λr3=>(bif (!r3) then (some (0,([]:List Int),1)) else ((bif ((ah.length:Int)==0) then ((bif (af==0) then (some (0,([]:List Int),5)) else ((eb.p F ah af).bind λr13=>some (r13.1,r13.2,0)))) else ((eb.p F ah af).bind λr18=>some (r18.1,r18.2,0)))))
theorem eB.P {aB ak aC ah af} (ba:ak=ah.length) (h0:Inn H R0 λR=>ROs (ac eI (ac eI (ac eI (ac eI eI)))) H R ⟨aB,ak,aC⟩ ah) {r:atk} (hp:eB.p F ah af=some r):Rt (eB.tw F ⟨aB,ak,aC⟩ af H) (eB.Q H R0 R0  r):=by
 obtain ⟨w0,aO⟩:=h0
 subst ba
 unfold eB.p at hp
 unfold eB.tw eB.twX
 have s0:=w0.rf
 refine aS w0 λH1 w1 s1=>?_
 refine aS w1 λH2 w2 s2=>?_
 refine lSl w2 1 ?_
 refine lI w2 1 ?_
 obtain ⟨r3,e3,hp⟩:=ag hp
 refine aE (dE.P rfl ⟨w2,(aO.step (s1.trans s2))⟩ e3) ?_
 rintro _ H4 ⟨rfl,w4,s4,_⟩
 refine br ?_
 refine ay hp (λhp=>?_) λhp=>?_
 ·refine aq w4 0 λH5 w5 s5=>?_
  refine aq w5 0 λH6 w6 s6=>?_
  refine lI w6 0 ?_
  refine lSl w6 0 ?_
  obtain ⟨w7,s7⟩:=w6.nilS eI.z (by decide)
  obtain ⟨w8,s8⟩:=w7.pp [0] 3
  exact az hp ⟨_,_,_,_,rfl,rfl,w8,(s0.trans (s1.trans (s2.trans (s4.trans (s5.trans (s6.trans (s7.trans s8))))))),((CR.empty:CR eI _ _ [] []).step s8)⟩
 ·refine lSl w4 1 ?_
  refine ay hp (λhp=>?_) λhp=>?_
  ·refine lI w4 1 ?_
   refine ay hp (λhp=>?_) λhp=>?_
   ·refine aq w4 0 λH9 w9 s9=>?_
    refine aq w9 0 λH10 w10 s10=>?_
    refine lI w10 0 ?_
    refine lSl w10 0 ?_
    obtain ⟨w11,s11⟩:=w10.nilS eI.z (by decide)
    obtain ⟨w12,s12⟩:=w11.pp [0] 3
    exact az hp ⟨_,_,_,_,rfl,rfl,w12,(s0.trans (s1.trans (s2.trans (s4.trans (s9.trans (s10.trans (s11.trans s12))))))),((CR.empty:CR eI _ _ [] []).step s12)⟩
   ·refine lSl w4 1 ?_
    refine lI w4 1 ?_
    obtain ⟨r13,e13,hp⟩:=ag hp
    refine aE (eb.P rfl ⟨w4,(aO.step (s1.trans (s2.trans s4)))⟩ e13) ?_
    rintro _ H14 ⟨o1a_14,o1n_14,o1c_14,o1k_14,rfl,rfl,w14,s14,f14_0⟩
    refine br (br (br (br (br ?_))))
    refine aq w14 1 λH15 w15 s15=>?_
    refine aq w15 1 λH16 w16 s16=>?_
    refine lI w16 1 ?_
    refine lSl w16 1 ?_
    obtain ⟨w17,s17⟩:=w16.pp [0] 3
    exact az hp ⟨_,_,_,_,rfl,rfl,w17,(s0.trans (s1.trans (s2.trans (s4.trans (s14.trans (s15.trans (s16.trans s17))))))),(f14_0.step (s15.trans (s16.trans s17)))⟩
  ·refine lSl w4 1 ?_
   refine lI w4 1 ?_
   obtain ⟨r18,e18,hp⟩:=ag hp
   refine aE (eb.P rfl ⟨w4,(aO.step (s1.trans (s2.trans s4)))⟩ e18) ?_
   rintro _ H19 ⟨o1a_19,o1n_19,o1c_19,o1k_19,rfl,rfl,w19,s19,f19_0⟩
   refine br (br (br (br (br ?_))))
   refine aq w19 1 λH20 w20 s20=>?_
   refine aq w20 1 λH21 w21 s21=>?_
   refine lI w21 1 ?_
   refine lSl w21 1 ?_
   obtain ⟨w22,s22⟩:=w21.pp [0] 3
   exact az hp ⟨_,_,_,_,rfl,rfl,w22,(s0.trans (s1.trans (s2.trans (s4.trans (s19.trans (s20.trans (s21.trans s22))))))),(f19_0.step (s20.trans (s21.trans s22)))⟩
def bk.Q (H0:Hp) (Ri R0:as3)  (r:atx) (v:AV) (H':Hp):Prop:=v=(.tup [(.i r.1),(.bool r.2)])/\Out H0 Ri H' (R0) λR=>True
def bk.S61 (H0:Hp) (Ri R0:as3)  (C:at2) (pC:auf):Prop:=∀ {h_ oN ia eU NU EZ iO NV iA},∀ {H:Hp},EZ=iA.length->(Out H0 Ri H (Rs.blk iO [.i oN,.sl ⟨NU,EZ,NV⟩]::R0) λR=>ROs eI H R ⟨NU,EZ,NV⟩ iA)->∀ {r:atx},pC h_ oN iA ia eU=some r->Rt (C h_ iO 0 ia eU H) (bk.Q H0 Ri R0  r)
def bk.pj2 (F:Nat) (ar:auf) (tU:Int) (E_:Int) (zh:as6) (tV:Int) (tW:Int):Option (Int×Bool):=ar tU E_ zh tV (wrap .i64 (tW+1))
theorem bk.j2_P  {C61_:at2} {ar:auf} (hC61:bk.S61 H0 Ri R0  C61_ ar) {tU E_ tV tW aa2 NW BG aa3 zh} (am2:NW=zh.length) (h0:Out H0 Ri H (Rs.blk BG [.i E_,.sl ⟨aa2,NW,aa3⟩]::R0) λR=>ROs eI H R ⟨aa2,NW,aa3⟩ zh) {r:atx} (hp:bk.pj2 F ar tU E_ zh tV tW=some r):Rt (bk.j2 F (bF.tw F) C61_ tU BG 0 tV tW H) (bk.Q H0 Ri R0  r):=by
 obtain ⟨w0,s0,am3⟩:=h0
 subst am2
 unfold bk.pj2 at hp
 unfold bk.j2
 exact hC61 rfl ⟨w0,s0,am3⟩ hp
def bk.pl61 (F:Nat) :Nat->Int->Int->List Int->Int->Int->Option (Int×Bool)
 | 0,_,_,_,_,_=>none
 | k+1,h_,oN,iA,ia,eU=>(bif (decide (eU<(iA.length:Int))) then ((bif (decide (h_<0)) then ((bif ((Int.tmod (wrap .i64 (oN+eU)) 2) != 0) then ((ix iA eU).bind λn1=>bk.pj2 F (bk.pl61 F k) h_ oN iA (wrap .i64 (ia - (gt iA n1))) eU) else ((ix iA eU).bind λn2=>bk.pj2 F (bk.pl61 F k) h_ oN iA (wrap .i64 (ia+(gt iA n2))) eU))) else ((ix iA eU).bind λn3=>bk.pl61 F k h_ oN iA (wrap .i64 (ia+(gt iA n3))) (wrap .i64 (eU+1))))) else (some (ia,true)))
theorem bk.l61_P  :∀ k,bk.S61 H0 Ri R0  (bk.l61 F (bF.tw F)  k) (bk.pl61 F  k):=by
 intro k
 induction k with
 | zero=>unfold bk.S61;intros;rename_i hp;cases hp
 | succ k ih=>
  intro h_ oN ia eU NU EZ iO NV iA H am4 h0 r hp
  obtain ⟨w0,s0,v_⟩:=h0
  subst am4
  unfold bk.pl61 at hp
  unfold bk.l61
  refine lSl w0 0 ?_
  refine ay hp (λhp=>?_) λhp=>?_
  ·refine ay hp (λhp=>?_) λhp=>?_
   ·refine lI w0 0 ?_
    refine ay hp (λhp=>?_) λhp=>?_
    ·refine lSl w0 0 ?_
     obtain ⟨n1,g1,hp⟩:=ag hp
     obtain ⟨p1,q1,i1,h1,j1⟩:=ROs.ixr v_ rfl g1
     refine ai i1 ?_
     have h1:_=[_]:=h1
     subst h1
     refine ai (aG (j1 0 _ rfl)) ?_
     exact bk.j2_P (@ih) rfl ⟨w0,s0,v_⟩ hp
    ·refine lSl w0 0 ?_
     obtain ⟨n2,g2,hp⟩:=ag hp
     obtain ⟨p2,q2,i2,h2,j2⟩:=ROs.ixr v_ rfl g2
     refine ai i2 ?_
     have h2:_=[_]:=h2
     subst h2
     refine ai (aG (j2 0 _ rfl)) ?_
     exact bk.j2_P (@ih) rfl ⟨w0,s0,v_⟩ hp
   ·refine lSl w0 0 ?_
    obtain ⟨n3,g3,hp⟩:=ag hp
    obtain ⟨p3,q3,i3,h3,j3⟩:=ROs.ixr v_ rfl g3
    refine ai i3 ?_
    have h3:_=[_]:=h3
    subst h3
    refine ai (aG (j3 0 _ rfl)) ?_
    exact ih rfl ⟨w0,s0,v_⟩ hp
  ·obtain ⟨w4,s4⟩:=w0.pp [] 1
   exact az hp ⟨rfl,w4,(s0.trans s4),trivial⟩
def bk.p (F:Nat) (aa:Int) (aF:as6) (au:Int):Option (Int×Bool):=(bF.p F aa aF).bind λr2=>(bif (!r2) then (some (0,false)) else ((bif (au != 1) then ((bif (au != (-1)) then (some (0,false)) else (bk.pl61 F F au aa aF 0 0))) else (bk.pl61 F F au aa aF 0 0))))
theorem bk.P {aa au cj bD ck aF} (du:bD=aF.length) (h0:Inn H R0 λR=>ROs eI H R ⟨cj,bD,ck⟩ aF) {r:atx} (hp:bk.p F aa aF au=some r):Rt (bk.tw F aa ⟨cj,bD,ck⟩ au H) (bk.Q H R0 R0  r):=by
 obtain ⟨w0,cq⟩:=h0
 subst du
 unfold bk.p at hp
 unfold bk.tw bk.twX
 have s0:=w0.rf
 refine aS w0 λH1 w1 s1=>?_
 refine lI w1 0 ?_
 refine lSl w1 0 ?_
 obtain ⟨r2,e2,hp⟩:=ag hp
 refine aE (bF.P rfl ⟨w1,(cq.step s1)⟩ e2) ?_
 rintro _ H3 ⟨rfl,w3,s3,_⟩
 refine br ?_
 refine ay hp (λhp=>?_) λhp=>?_
 ·obtain ⟨w4,s4⟩:=w3.pp [] 1
  exact az hp ⟨rfl,w4,(s0.trans (s1.trans (s3.trans s4))),trivial⟩
 ·refine ay hp (λhp=>?_) λhp=>?_
  ·refine ay hp (λhp=>?_) λhp=>?_
   ·obtain ⟨w5,s5⟩:=w3.pp [] 1
    exact az hp ⟨rfl,w5,(s0.trans (s1.trans (s3.trans s5))),trivial⟩
   ·exact bk.l61_P F rfl ⟨w3,(s0.trans (s1.trans s3)),(cq.step (s1.trans s3))⟩ hp
  ·exact bk.l61_P F rfl ⟨w3,(s0.trans (s1.trans s3)),(cq.step (s1.trans s3))⟩ hp
def fM.Q (H0:Hp) (Ri R0:as3)  (r:Int) (v:AV) (H':Hp):Prop:=v=(.i r)/\Out H0 Ri H' (R0) λR=>True
def fM.p (F:Nat) (aa:Int):Option (Int):=some (if (wrap .i64 (0 - aa))>aa then (wrap .i64 (0 - aa)) else aa)
theorem fM.P {aa}  (h0:Inn H R0 λR=>True) {r:Int} (hp:fM.p F aa=some r):Rt (fM.tw F aa H) (fM.Q H R0 R0  r):=by
 obtain ⟨w0,_⟩:=h0
 unfold fM.p at hp
 unfold fM.tw fM.twX
 have s0:=w0.rf
 exact az hp ⟨rfl,w0,s0,trivial⟩
def eC.Q (H0:Hp) (Ri R0:as3)  (r:atq) (v:AV) (H':Hp):Prop:=v=(.tup [(.i r.1),(.i r.2)])/\Out H0 Ri H' (R0) λR=>True
def eC.p (F:Nat) (ah:atb) (af:Int):Option (Int×Int):=(eB.p F ah af).bind λr2=>(bif (r2.2.2 != 0) then (some (0,r2.2.2)) else ((bk.p F r2.1 r2.2.1 (-1)).bind λr10=>(fM.p F r10.1).bind λr13=>some (r13,0)))
theorem eC.P {aB ak aC ah af} (ba:ak=ah.length) (h0:Inn H R0 λR=>ROs (ac eI (ac eI (ac eI (ac eI eI)))) H R ⟨aB,ak,aC⟩ ah) {r:atq} (hp:eC.p F ah af=some r):Rt (eC.tw F ⟨aB,ak,aC⟩ af H) (eC.Q H R0 R0  r):=by
 obtain ⟨w0,aO⟩:=h0
 subst ba
 unfold eC.p at hp
 unfold eC.tw eC.twX
 have s0:=w0.rf
 refine aS w0 λH1 w1 s1=>?_
 refine lSl w1 0 ?_
 refine lI w1 0 ?_
 obtain ⟨r2,e2,hp⟩:=ag hp
 refine aE (eB.P rfl ⟨w1,(aO.step s1)⟩ e2) ?_
 rintro _ H3 ⟨o1a_3,o1n_3,o1c_3,o1k_3,rfl,rfl,w3,s3,f3_0⟩
 refine br (br (br (br (br (br (br (br (br ?_))))))))
 refine aS w3 λH4 w4 s4=>?_
 refine aq w4 0 λH5 w5 s5=>?_
 refine aq w5 0 λH6 w6 s6=>?_
 refine ay hp (λhp=>?_) λhp=>?_
 ·obtain ⟨w7,s7⟩:=w6.pp [] 3
  exact az hp ⟨rfl,w7,(s0.trans (s1.trans (s3.trans (s4.trans (s5.trans (s6.trans s7)))))),trivial⟩
 ·refine lI w6 0 ?_
  refine lSl w6 0 ?_
  obtain ⟨w8,s8⟩:=w6.pp [1,0,2] 3
  have f9:=W.borrow1 eI w8 (f3_0.step (s4.trans (s5.trans (s6.trans s8))))
  obtain ⟨w9,s9⟩:=w8.right1
  obtain ⟨r10,e10,hp⟩:=ag hp
  refine aE (bk.P rfl ⟨w9,f9⟩ e10) ?_
  rintro _ H11 ⟨rfl,w11,s11,_⟩
  obtain ⟨w12,s12⟩:=W.frame1 w8 w11 s11
  refine br (br (br (br (br ?_))))
  obtain ⟨r13,e13,hp⟩:=ag hp
  refine aE (fM.P ⟨w12,trivial⟩ e13) ?_
  rintro _ H14 ⟨rfl,w14,s14,_⟩
  refine br ?_
  obtain ⟨w15,s15⟩:=w14.pp [] 3
  exact az hp ⟨rfl,w15,(s0.trans (s1.trans (s3.trans (s4.trans (s5.trans (s6.trans (s8.trans (s12.trans (s14.trans s15))))))))),trivial⟩
def cM.Q (H0:Hp) (Ri R0:as3)  (r:Int) (v:AV) (H':Hp):Prop:=v=(.i r)/\Out H0 Ri H' (R0) λR=>True
def cM.p (F:Nat) (ah:atb):Option (Int):=some (ah.length:Int)
theorem cM.P {aB ak aC ah} (ba:ak=ah.length) (h0:Inn H R0 λR=>ROs (ac eI (ac eI (ac eI (ac eI eI)))) H R ⟨aB,ak,aC⟩ ah) {r:Int} (hp:cM.p F ah=some r):Rt (cM.tw F ⟨aB,ak,aC⟩ H) (cM.Q H R0 R0  r):=by
 obtain ⟨w0,aO⟩:=h0
 subst ba
 unfold cM.p at hp
 unfold cM.tw cM.twX
 have s0:=w0.rf
 exact az hp ⟨rfl,w0,s0,trivial⟩
def dw.Q (H0:Hp) (Ri R0:as3)  (r:Bool) (v:AV) (H':Hp):Prop:=v=(.bool r)/\Out H0 Ri H' (R0) λR=>True
def dw.p (F:Nat) (aa:Int) (aA:Int) (cL:Int):Option (Bool):=(bif (decide (aA<=aa)) then (some (decide (aa<=cL))) else (some false))
theorem dw.P {aa aA cL}  (h0:Inn H R0 λR=>True) {r:Bool} (hp:dw.p F aa aA cL=some r):Rt (dw.tw F aa aA cL H) (dw.Q H R0 R0  r):=by
 obtain ⟨w0,_⟩:=h0
 unfold dw.p at hp
 unfold dw.tw dw.twX
 have s0:=w0.rf
 refine ay hp (λhp=>?_) λhp=>?_
 ·exact az hp ⟨rfl,w0,s0,trivial⟩
 ·exact az hp ⟨rfl,w0,s0,trivial⟩
def fi.Q (H0:Hp) (Ri R0:as3)  (r:Bool) (v:AV) (H':Hp):Prop:=v=(.bool r)/\Out H0 Ri H' (R0) λR=>True
def fi.p (F:Nat) (bQ:Int):Option (Bool):=(bif (bQ != 1) then (some (bQ != (-1))) else (some false))
theorem fi.P {aa af bV bW bQ}  (h0:Inn H R0 λR=>True) {r:Bool} (hp:fi.p F bQ=some r):Rt (fi.tw F aa af bV bW bQ H) (fi.Q H R0 R0  r):=by
 obtain ⟨w0,_⟩:=h0
 unfold fi.p at hp
 unfold fi.tw fi.twX
 have s0:=w0.rf
 refine aS w0 λH1 w1 s1=>?_
 refine lI w1 0 ?_
 refine ay hp (λhp=>?_) λhp=>?_
 ·refine lI w1 0 ?_
  obtain ⟨w2,s2⟩:=w1.pp [] 1
  exact az hp ⟨rfl,w2,(s0.trans (s1.trans s2)),trivial⟩
 ·obtain ⟨w3,s3⟩:=w1.pp [] 1
  exact az hp ⟨rfl,w3,(s0.trans (s1.trans s3)),trivial⟩
def bY.Q (H0:Hp) (Ri R0:as3)  (r:Int) (v:AV) (H':Hp):Prop:=v=(.i r)/\Out H0 Ri H' (R0) λR=>True
def bY.S13 (H0:Hp) (Ri R0:as3)  (C:ate) (pC:List (Int×Int×Int×Int×Int)->Int->Int->Option (Int)):Prop:=∀ {lD iT lE es de cv},∀ {H:Hp},iT=es.length->(Out H0 Ri H R0 λR=>ROs (ac eI (ac eI (ac eI (ac eI eI)))) H R ⟨lD,iT,lE⟩ es)->∀ {r:Int},pC es de cv=some r->Rt (C ⟨lD,iT,lE⟩ de cv H) (bY.Q H0 Ri R0  r)
def bY.pl13 (F:Nat) :Nat->List (Int×Int×Int×Int×Int)->Int->Int->Option (Int)
 | 0,_,_,_=>none
 | k+1,es,de,cv=>(bif (decide (cv<de)) then ((ix es cv).bind λn1=>(fi.p F ((gt es n1).2.2.2.2)).bind λr2=>(bif r2 then (some cv) else (bY.pl13 F k es de (wrap .i64 (cv+1))))) else (some (-1)))
theorem bY.l13_P  :∀ k,bY.S13 H0 Ri R0  (bY.l13 F (fi.tw F)  k) (bY.pl13 F  k):=by
 intro k
 induction k with
 | zero=>unfold bY.S13;intros;rename_i hp;cases hp
 | succ k ih=>
  intro lD iT lE es de cv H zi h0 r hp
  obtain ⟨w0,s0,oO⟩:=h0
  subst zi
  unfold bY.pl13 at hp
  unfold bY.l13
  refine ay hp (λhp=>?_) λhp=>?_
  ·obtain ⟨n1,g1,hp⟩:=ag hp
   obtain ⟨p1,q1,i1,h1,j1⟩:=ROs.ixr oO rfl g1
   refine ai i1 ?_
   obtain ⟨_,_,rfl,rfl,_,_,rfl,rfl,_,_,rfl,rfl,_,_,rfl,rfl,rfl⟩:=h1
   refine ai (aG (j1 0 _ rfl)) ?_
   refine ai (aG (j1 1 _ rfl)) ?_
   refine ai (aG (j1 2 _ rfl)) ?_
   refine ai (aG (j1 3 _ rfl)) ?_
   refine ai (aG (j1 4 _ rfl)) ?_
   obtain ⟨r2,e2,hp⟩:=ag hp
   refine aE (fi.P ⟨w0,trivial⟩ e2) ?_
   rintro _ H3 ⟨rfl,w3,s3,_⟩
   refine br ?_
   refine ay hp (λhp=>?_) λhp=>?_
   ·exact az hp ⟨rfl,w3,(s0.trans s3),trivial⟩
   ·exact ih rfl ⟨w3,(s0.trans s3),(oO.step s3)⟩ hp
  ·exact az hp ⟨rfl,w0,s0,trivial⟩
def bY.p (F:Nat) (ah:atb):Option (Int):=bY.pl13 F F ah (ah.length:Int) 0
theorem bY.P {aB ak aC ah} (ba:ak=ah.length) (h0:Inn H R0 λR=>ROs (ac eI (ac eI (ac eI (ac eI eI)))) H R ⟨aB,ak,aC⟩ ah) {r:Int} (hp:bY.p F ah=some r):Rt (bY.tw F ⟨aB,ak,aC⟩ H) (bY.Q H R0 R0  r):=by
 obtain ⟨w0,aO⟩:=h0
 subst ba
 unfold bY.p at hp
 unfold bY.tw bY.twX
 have s0:=w0.rf
 exact bY.l13_P F rfl ⟨w0,s0,aO⟩ hp
def eD.Q (H0:Hp) (Ri R0:as3)  (r:Bool) (v:AV) (H':Hp):Prop:=v=(.bool r)/\Out H0 Ri H' (R0) λR=>True
def eD.p (F:Nat) (ah:atb):Option (Bool):=(bY.p F ah).bind λr1=>some (decide (r1>=0))
theorem eD.P {aB ak aC ah} (ba:ak=ah.length) (h0:Inn H R0 λR=>ROs (ac eI (ac eI (ac eI (ac eI eI)))) H R ⟨aB,ak,aC⟩ ah) {r:Bool} (hp:eD.p F ah=some r):Rt (eD.tw F ⟨aB,ak,aC⟩ H) (eD.Q H R0 R0  r):=by
 obtain ⟨w0,aO⟩:=h0
 subst ba
 unfold eD.p at hp
 unfold eD.tw eD.twX
 have s0:=w0.rf
 obtain ⟨r1,e1,hp⟩:=ag hp
 refine aE (bY.P rfl ⟨w0,aO⟩ e1) ?_
 rintro _ H2 ⟨rfl,w2,s2,_⟩
 refine br ?_
 exact az hp ⟨rfl,w2,(s0.trans s2),trivial⟩
def bits_Mul64.Q (H0:Hp) (Ri R0:as3)  (r:atq) (v:AV) (H':Hp):Prop:=v=(.tup [(.int .u64 r.1),(.int .u64 r.2)])/\Out H0 Ri H' (R0) λR=>True
def bits_Mul64.p (F:Nat) (aa:Int) (aA:Int):Option (Int×Int):=some ((IntKind.u64.wrap ((IntKind.u64.wrap ((IntKind.u64.wrap ((Int.fdiv aa (2 ^ (min (32:Int).toNat (IntKind.u64).bits))) * (Int.fdiv aA (2 ^ (min (32:Int).toNat (IntKind.u64).bits)))))+(Int.fdiv (IntKind.u64.wrap ((IntKind.u64.wrap ((Int.fdiv aa (2 ^ (min (32:Int).toNat (IntKind.u64).bits))) * (Go.bits .and .u64 aA 4294967295)))+(Int.fdiv (IntKind.u64.wrap ((Go.bits .and .u64 aa 4294967295) * (Go.bits .and .u64 aA 4294967295))) (2 ^ (min (32:Int).toNat (IntKind.u64).bits))))) (2 ^ (min (32:Int).toNat (IntKind.u64).bits)))))+(Int.fdiv (IntKind.u64.wrap ((Go.bits .and .u64 (IntKind.u64.wrap ((IntKind.u64.wrap ((Int.fdiv aa (2 ^ (min (32:Int).toNat (IntKind.u64).bits))) * (Go.bits .and .u64 aA 4294967295)))+(Int.fdiv (IntKind.u64.wrap ((Go.bits .and .u64 aa 4294967295) * (Go.bits .and .u64 aA 4294967295))) (2 ^ (min (32:Int).toNat (IntKind.u64).bits))))) 4294967295)+(IntKind.u64.wrap ((Go.bits .and .u64 aa 4294967295) * (Int.fdiv aA (2 ^ (min (32:Int).toNat (IntKind.u64).bits))))))) (2 ^ (min (32:Int).toNat (IntKind.u64).bits))))),(IntKind.u64.wrap (aa * aA)))
theorem bits_Mul64.P {aa aA}  (h0:Inn H R0 λR=>True) {r:atq} (hp:bits_Mul64.p F aa aA=some r):Rt (bits_Mul64.tw F aa aA H) (bits_Mul64.Q H R0 R0  r):=by
 obtain ⟨w0,_⟩:=h0
 unfold bits_Mul64.p at hp
 unfold bits_Mul64.tw bits_Mul64.twX
 have s0:=w0.rf
 exact az hp ⟨rfl,w0,s0,trivial⟩
def bits_Mul.Q (H0:Hp) (Ri R0:as3)  (r:atq) (v:AV) (H':Hp):Prop:=v=(.tup [(.int .u64 r.1),(.int .u64 r.2)])/\Out H0 Ri H' (R0) λR=>True
def bits_Mul.p (F:Nat) (aa:Int) (aA:Int):Option (Int×Int):=(bits_Mul64.p F aa aA).bind λr1=>some (r1.1,r1.2)
theorem bits_Mul.P {aa aA}  (h0:Inn H R0 λR=>True) {r:atq} (hp:bits_Mul.p F aa aA=some r):Rt (bits_Mul.tw F aa aA H) (bits_Mul.Q H R0 R0  r):=by
 obtain ⟨w0,_⟩:=h0
 unfold bits_Mul.p at hp
 unfold bits_Mul.tw bits_Mul.twX
 have s0:=w0.rf
 obtain ⟨r1,e1,hp⟩:=ag hp
 refine aE (bits_Mul64.P ⟨w0,trivial⟩ e1) ?_
 rintro _ H2 ⟨rfl,w2,s2,_⟩
 refine br (br (br (br (br ?_))))
 exact az hp ⟨rfl,w2,(s0.trans s2),trivial⟩
def bv.Q (H0:Hp) (Ri R0:as3)  (r:(List (Int×Int))) (v:AV) (H':Hp):Prop:=∃ o0a:ON,∃ o0n:Nat,∃ o0k:List AV,v=(.sl ⟨o0a,o0n,.ex o0n⟩)/\o0n=(r).length/\Out H0 Ri H' (Rs.own ⟨o0a,o0n,.ex o0n⟩ (ac eI eI).z o0k::R0) λR=>CR (ac eI eI) H' R o0k (r)
def bv.pj1 (F:Nat)  (wb:ato) (pK:Int):Option ((List (Int×Int))):=(mkn (wrap .i64 pK) ((0:Int),(0:Int))).bind λl1=>(some (cpl l1 wb)).bind λl3=>(wF F l3 ((min wb.length l1.length:Nat):Int)).bind λl5=>some l5
theorem bv.j1_P   {aa4 NX aa5 wb pK} (am5:NX=wb.length) (h0:Out H0 Ri H R0 λR=>ROs (ac eI eI) H R ⟨aa4,NX,aa5⟩ wb) {r:(List (Int×Int))} (hp:bv.pj1 F  wb pK=some r):Rt (bv.j1 F (bits_Mul.tw F)  ⟨aa4,NX,aa5⟩ pK H) (bv.Q H0 Ri R0  r):=by
 obtain ⟨w0,s0,am6⟩:=h0
 subst am5
 unfold bv.pj1 at hp
 unfold bv.j1
 obtain ⟨l1,e1,hp⟩:=ag hp
 refine ka (ac eI eI) ((0:Int),(0:Int)) w0 ⟨[_],_,rfl,rfl,rfl⟩ rfl rfl e1 λH2 k2 w2 s2 c2=>?_
 obtain ⟨x3,h3,c3⟩:=(am6.step s2).row (z:=(ac eI eI).z) rfl
 obtain ⟨l3,e3,hp⟩:=ag hp
 refine arl (ac eI eI) w2 (i:=0) rfl rfl c2 h3 c3 rfl rfl e3 λk4 H4 w4 s4 c4=>?_
 obtain ⟨l5,e5,hp⟩:=ag hp
 refine arm (ac eI eI) rfl (L:=bv.l254 F (bits_Mul.tw F)) (λ_ _ _ _=>rfl) w4 (i:=0) rfl c4 e5 λH6 k6 w6 s6 c6=>?_
 dsimp only [List.set] at w6 s6 c6
 exact az hp ⟨_,_,_,rfl,((arn e3).symm.trans (aro e5).symm),w6,(s0.trans (s2.trans (s4.trans s6))),c6⟩
def bv.pj2 (F:Nat)  (wd:ato) (ub:Int):Option ((List (Int×Int))):=(bits_Mul.p F (IntKind.u64.wrap (wd.length:Int)) (IntKind.u64.wrap ub)).bind λr1=>(bif (decide (r1.1>0)) then (none) else ((bif (decide (r1.2>9223372036854775807)) then (none) else (bv.pj1 F wd r1.2))))
theorem bv.j2_P   {aa6 NY aa7 wd ub} (am7:NY=wd.length) (h0:Out H0 Ri H R0 λR=>ROs (ac eI eI) H R ⟨aa6,NY,aa7⟩ wd) {r:(List (Int×Int))} (hp:bv.pj2 F  wd ub=some r):Rt (bv.j2 F (bits_Mul.tw F)  ⟨aa6,NY,aa7⟩ ub H) (bv.Q H0 Ri R0  r):=by
 obtain ⟨w0,s0,am8⟩:=h0
 subst am7
 unfold bv.pj2 at hp
 unfold bv.j2
 obtain ⟨r1,e1,hp⟩:=ag hp
 refine aE (bits_Mul.P ⟨w0,trivial⟩ e1) ?_
 rintro _ H2 ⟨rfl,w2,s2,_⟩
 refine br (br (br (br (br ?_))))
 refine ay hp (λhp=>?_) λhp=>?_
 ·cases hp
 ·refine ay hp (λhp=>?_) λhp=>?_
  ·cases hp
  ·exact bv.j1_P rfl ⟨w2,(s0.trans s2),(am8.step s2)⟩ hp
def bv.p (F:Nat) (ah:ato) (aA:Int):Option ((List (Int×Int))):=(bif (decide (aA<0)) then (none) else (bv.pj2 F ah aA))
theorem bv.P {aB ak aC ah aA} (ba:ak=ah.length) (h0:Inn H R0 λR=>ROs (ac eI eI) H R ⟨aB,ak,aC⟩ ah) {r:(List (Int×Int))} (hp:bv.p F ah aA=some r):Rt (bv.tw F ⟨aB,ak,aC⟩ aA H) (bv.Q H R0 R0  r):=by
 obtain ⟨w0,aO⟩:=h0
 subst ba
 unfold bv.p at hp
 unfold bv.tw bv.twX
 have s0:=w0.rf
 refine ay hp (λhp=>?_) λhp=>?_
 ·cases hp
 ·exact bv.j2_P rfl ⟨w0,s0,aO⟩ hp
def dS.Q (H0:Hp) (Ri R0:as3)  (r:Int×Int×Int×Int) (v:AV) (H':Hp):Prop:=v=(.agg [(.i r.1),(.i r.2.1),(.i r.2.2.1),(.i r.2.2.2)])/\Out H0 Ri H' (R0) λR=>True
def dS.p (F:Nat) (aa:Int) (af:Int) (bV:Int) (bW:Int):Option (Int×Int×Int×Int):=some (aa,af,bV,bW)
theorem dS.P {aa af bV bW bQ}  (h0:Inn H R0 λR=>True) {r:Int×Int×Int×Int} (hp:dS.p F aa af bV bW=some r):Rt (dS.tw F aa af bV bW bQ H) (dS.Q H R0 R0  r):=by
 obtain ⟨w0,_⟩:=h0
 unfold dS.p at hp
 unfold dS.tw dS.twX
 have s0:=w0.rf
 refine aS w0 λH1 w1 s1=>?_
 refine aS w1 λH2 w2 s2=>?_
 refine lI w2 1 ?_
 refine lI w2 1 ?_
 refine lI w2 1 ?_
 refine lI w2 1 ?_
 refine aq w2 0 λH3 w3 s3=>?_
 refine aq w3 0 λH4 w4 s4=>?_
 refine aq w4 0 λH5 w5 s5=>?_
 refine aq w5 0 λH6 w6 s6=>?_
 refine lI w6 0 ?_
 refine lI w6 0 ?_
 refine lI w6 0 ?_
 refine lI w6 0 ?_
 obtain ⟨w7,s7⟩:=w6.pp [] 2
 exact az hp ⟨rfl,w7,(s0.trans (s1.trans (s2.trans (s3.trans (s4.trans (s5.trans (s6.trans s7))))))),trivial⟩
def dU.Q (H0:Hp) (Ri R0:as3)  (r:Bool) (v:AV) (H':Hp):Prop:=v=(.bool r)/\Out H0 Ri H' (R0) λR=>True
def dU.p (F:Nat) (bQ:Int) (cD:Int):Option (Bool):=(bif (cD==0) then (some true) else (some (cD==(wrap .i64 (2+bQ)))))
theorem dU.P {aa af bV bW bQ cD}  (h0:Inn H R0 λR=>True) {r:Bool} (hp:dU.p F bQ cD=some r):Rt (dU.tw F aa af bV bW bQ cD H) (dU.Q H R0 R0  r):=by
 obtain ⟨w0,_⟩:=h0
 unfold dU.p at hp
 unfold dU.tw dU.twX
 have s0:=w0.rf
 refine aS w0 λH1 w1 s1=>?_
 refine ay hp (λhp=>?_) λhp=>?_
 ·obtain ⟨w2,s2⟩:=w1.pp [] 1
  exact az hp ⟨rfl,w2,(s0.trans (s1.trans s2)),trivial⟩
 ·refine lI w1 0 ?_
  obtain ⟨w3,s3⟩:=w1.pp [] 1
  exact az hp ⟨rfl,w3,(s0.trans (s1.trans s3)),trivial⟩
def fN.Q (H0:Hp) (Ri R0:as3)  (r:Int) (v:AV) (H':Hp):Prop:=v=(.i r)/\Out H0 Ri H' (R0) λR=>True
def fN.p (F:Nat) (ah:ato):Option (Int):=some (ah.length:Int)
theorem fN.P {aB ak aC ah} (ba:ak=ah.length) (h0:Inn H R0 λR=>ROs (ac eI eI) H R ⟨aB,ak,aC⟩ ah) {r:Int} (hp:fN.p F ah=some r):Rt (fN.tw F ⟨aB,ak,aC⟩ H) (fN.Q H R0 R0  r):=by
 obtain ⟨w0,aO⟩:=h0
 subst ba
 unfold fN.p at hp
 unfold fN.tw fN.twX
 have s0:=w0.rf
 exact az hp ⟨rfl,w0,s0,trivial⟩
def dI.Q (H0:Hp) (Ri R0:as3)  (r:Bool) (v:AV) (H':Hp):Prop:=v=(.bool r)/\Out H0 Ri H' (R0) λR=>True
def dI.p (F:Nat) (ah:ato) (aA:Int):Option (Bool):=(fN.p F ah).bind λr1=>(dw.p F aA 0 (wrap .i64 (r1 - 1))).bind λr3=>some r3
theorem dI.P {aB ak aC ah aA} (ba:ak=ah.length) (h0:Inn H R0 λR=>ROs (ac eI eI) H R ⟨aB,ak,aC⟩ ah) {r:Bool} (hp:dI.p F ah aA=some r):Rt (dI.tw F ⟨aB,ak,aC⟩ aA H) (dI.Q H R0 R0  r):=by
 obtain ⟨w0,aO⟩:=h0
 subst ba
 unfold dI.p at hp
 unfold dI.tw dI.twX
 have s0:=w0.rf
 obtain ⟨r1,e1,hp⟩:=ag hp
 refine aE (fN.P rfl ⟨w0,aO⟩ e1) ?_
 rintro _ H2 ⟨rfl,w2,s2,_⟩
 refine br ?_
 obtain ⟨r3,e3,hp⟩:=ag hp
 refine aE (dw.P ⟨w2,trivial⟩ e3) ?_
 rintro _ H4 ⟨rfl,w4,s4,_⟩
 refine br ?_
 exact az hp ⟨rfl,w4,(s0.trans (s2.trans s4)),trivial⟩
def bf.Q (H0:Hp) (Ri R0:as3)  (r:(List (Int×Int))×(List (Int×Int))×Bool) (v:AV) (H':Hp):Prop:=∃ o0a:ON,∃ o0n:Nat,∃ o0c:Cap,∃ o0k:List AV,∃ o1a:ON,∃ o1n:Nat,∃ o1c:Cap,∃ o1k:List AV,v=(.tup [(.agg [(.sl ⟨o0a,o0n,o0c⟩),(.sl ⟨o1a,o1n,o1c⟩)]),(.bool r.2.2)])/\o0n=(r.1).length/\o1n=(r.2.1).length/\Out H0 Ri H' (Rs.own ⟨o0a,o0n,o0c⟩ (ac eI eI).z o0k::Rs.own ⟨o1a,o1n,o1c⟩ (ac eI eI).z o1k::R0) λR=>CR (ac eI eI) H' R o0k (r.1)/\CR (ac eI eI) H' R o1k (r.2.1)
def bf.S61 (H0:Hp) (Ri R0:as3)  (C:at3) (pC:aug):Prop:=∀ {NZ qU N_ Oa Ob Fa nq eV Fb Fc mQ Fd Oc qV Od Oe Of Og qW qX qY Oh qZ Oi Oj jV kx ii},∀ {H:Hp},Fa=Og.length->nq=qW.length->Fb=qX.length->Fc=qY.length->Fd=jV.length->(Out H0 Ri H (Rs.own ⟨NZ,Fa,Oc⟩ (ac eI eI).z Oh::Rs.own ⟨qU,nq,qV⟩ (ac eI eI).z qZ::Rs.blk eV [.sl ⟨NZ,Fa,Oc⟩,.sl ⟨qU,nq,qV⟩]::Rs.own ⟨N_,Fb,Od⟩ (ac eI eI).z Oi::Rs.own ⟨Oa,Fc,Oe⟩ (ac eI eI).z Oj::Rs.blk mQ [.sl ⟨N_,Fb,Od⟩,.sl ⟨Oa,Fc,Oe⟩]::R0) λR=>CR (ac eI eI) H R Oh Og/\CR (ac eI eI) H R qZ qW/\CR (ac eI eI) H R Oi qX/\CR (ac eI eI) H R Oj qY/\ROs (ac eI (ac eI (ac eI (ac eI eI)))) H R ⟨Ob,Fd,Of⟩ jV)->∀ {r:(List (Int×Int))×(List (Int×Int))×Bool},pC qX qY jV kx ii=some r->Rt (C eV 0 mQ 0 ⟨Ob,Fd,Of⟩ kx ii H) (bf.Q H0 Ri R0  r)
def bf.S3931 (H0:Hp) (Ri R0:as3)  (C:Nat->Nat->Nat->Nat->Sl->Int->Int->Nat->Nat->Int->Int->Int->Int->Int->Int->Hp->OA) (pC:List (Int×Int)->List (Int×Int)->List (Int×Int×Int×Int×Int)->Int->Int->Int->Int->Int->Int->Int->Int->Int->Option ((List (Int×Int))×(List (Int×Int))×Bool)):Prop:=∀ {Ol Om On Oo Oq Fe Ff eE Fg Fh fO Fi jo Ot Ou Ov Ox Oy Oz OB gN gO OC OD OE OF oP jm jn aa8 aa9 aa_ aba q_ ic fu fv fx fy dz},∀ {H:Hp},Fe=Oz.length->Ff=OB.length->Fg=gN.length->Fh=gO.length->Fi=oP.length->(Out H0 Ri H (Rs.own ⟨Ol,Fe,Ot⟩ (ac eI eI).z OC::Rs.own ⟨Om,Ff,Ou⟩ (ac eI eI).z OD::Rs.blk eE [.sl ⟨Ol,Fe,Ot⟩,.sl ⟨Om,Ff,Ou⟩]::Rs.own ⟨On,Fg,Ov⟩ (ac eI eI).z OE::Rs.own ⟨Oo,Fh,Ox⟩ (ac eI eI).z OF::Rs.blk fO [.sl ⟨On,Fg,Ov⟩,.sl ⟨Oo,Fh,Ox⟩]::Rs.blk jo [.i aa8,.i aa9,.i aa_,.i aba,.i q_]::R0) λR=>CR (ac eI eI) H R OC Oz/\CR (ac eI eI) H R OD OB/\CR (ac eI eI) H R OE gN/\CR (ac eI eI) H R OF gO/\ROs (ac eI (ac eI (ac eI (ac eI eI)))) H R ⟨Oq,Fi,Oy⟩ oP)->∀ {r:(List (Int×Int))×(List (Int×Int))×Bool},pC gN gO oP jm jn q_ ic fu fv fx fy dz=some r->Rt (C eE 0 fO 0 ⟨Oq,Fi,Oy⟩ jm jn jo 0 ic fu fv fx fy dz H) (bf.Q H0 Ri R0  r)
def bf.pl3931 (F:Nat) (ar:aug):Nat->List (Int×Int)->List (Int×Int)->List (Int×Int×Int×Int×Int)->Int->Int->Int->Int->Int->Int->Int->Int->Int->Option ((List (Int×Int))×(List (Int×Int))×Bool)
 | 0,_,_,_,_,_,_,_,_,_,_,_,_=>none
 | k+1,gN,gO,oP,jm,jn,q_,ic,fu,fv,fx,fy,dz=>(bif (decide (dz<4)) then ((if 0<=dz/\dz<(4:Int) then ((dU.p F q_ dz).bind λr2=>(bif r2 then ((dI.p F gO (gt ([fu,fv,fx,fy]:List Int) (dz:Int).toNat)).bind λr6=>(bif (!r6) then (some (gN,gO,false)) else ((ix gO (gt ([fu,fv,fx,fy]:List Int) (dz:Int).toNat)).bind λn12=>(bif (decide (((gt gO n12).1)>=0)) then (some (gN,gO,false)) else ((ix gO (gt ([fu,fv,fx,fy]:List Int) (dz:Int).toNat)).bind λn16=>(some (gO.set n16 (ic,(gt gO n16).2))).bind λl17=>(some (l17.set n16 ((gt l17 n16).1,dz))).bind λl19=>bf.pl3931 F ar k gN l19 oP jm jn q_ ic fu fv fx fy (wrap .i64 (dz+1))))))) else ((dI.p F gN (gt ([fu,fv,fx,fy]:List Int) (dz:Int).toNat)).bind λr24=>(bif (!r24) then (some (gN,gO,false)) else ((ix gN (gt ([fu,fv,fx,fy]:List Int) (dz:Int).toNat)).bind λn30=>(bif (decide (((gt gN n30).1)>=0)) then (some (gN,gO,false)) else ((ix gN (gt ([fu,fv,fx,fy]:List Int) (dz:Int).toNat)).bind λn34=>(some (gN.set n34 (ic,(gt gN n34).2))).bind λl35=>(some (l35.set n34 ((gt l35 n34).1,dz))).bind λl37=>bf.pl3931 F ar k l37 gO oP jm jn q_ ic fu fv fx fy (wrap .i64 (dz+1))))))))) else none)) else (ar gN gO oP jm (wrap .i64 (jn+1))))
theorem bf.l3931_P  {C61_:at3} {ar:aug} (hC61:bf.S61 H0 Ri R0  C61_ ar):∀ k,bf.S3931 H0 Ri R0  (bf.l3931 F (bv.tw F) (dS.tw F) (dU.tw F) (dI.tw F) C61_ k) (bf.pl3931 F ar k):=by
 intro k
 induction k with
 | zero=>unfold bf.S3931;intros;rename_i hp;cases hp
 | succ k ih=>
  intro Ol Om On Oo Oq Fe Ff eE Fg Fh fO Fi jo Ot Ou Ov Ox Oy Oz OB gN gO OC OD OE OF oP jm jn aa8 aa9 aa_ aba q_ ic fu fv fx fy dz H am9 am_ ana anb anc h0 r hp
  obtain ⟨w0,s0,OG,OH,mi,mj,OI⟩:=h0
  subst am9
  subst am_
  subst ana
  subst anb
  subst anc
  unfold bf.pl3931 at hp
  unfold bf.l3931
  refine ay hp (λhp=>?_) λhp=>?_
  ·obtain ⟨g1,hp⟩:=fW hp
   refine eK g1 ?_
   refine ai (a:=AV.int .i64 (gt ([fu,fv,fx,fy]:List Int) (dz:Int).toNat)) (by rw [Nat.mul_one];exact afJ (k:=.i64) (l:=[fu,fv,fx,fy]) rfl (by have:=g1;simp only [List.length_cons,List.length_nil];omega)) ?_
   refine br ?_
   refine lSl w0 5 ?_
   refine lI w0 6 ?_
   refine lI w0 6 ?_
   refine lI w0 6 ?_
   refine lI w0 6 ?_
   refine lI w0 6 ?_
   obtain ⟨r2,e2,hp⟩:=ag hp
   refine aE (dU.P ⟨w0,trivial⟩ e2) ?_
   rintro _ H3 ⟨rfl,w3,s3,_⟩
   refine br ?_
   refine ay hp (λhp=>?_) λhp=>?_
   ·refine lSl w3 5 ?_
    obtain ⟨w4,s4⟩:=w3.pp [4,0,1,2,3,5,6] 7
    have f5:=W.borrow1 (ac eI eI) w4 (mj.step (s3.trans s4))
    obtain ⟨w5,s5⟩:=w4.right1
    obtain ⟨r6,e6,hp⟩:=ag hp
    refine aE (dI.P rfl ⟨w5,f5⟩ e6) ?_
    rintro _ H7 ⟨rfl,w7,s7,_⟩
    obtain ⟨w8,s8⟩:=W.frame1 w4 w7 s7
    refine br ?_
    refine ay hp (λhp=>?_) λhp=>?_
    ·refine lSl w8 5 ?_
     refine lSl w8 5 ?_
     refine aq w8 3 λH9 w9 s9=>?_
     refine aq w9 3 λH10 w10 s10=>?_
     refine lSl w10 3 ?_
     refine lSl w10 3 ?_
     obtain ⟨w11,s11⟩:=w10.pp [4,0] 7
     exact az hp ⟨_,_,_,_,_,_,_,_,rfl,rfl,rfl,w11,(s0.trans (s3.trans (s4.trans (s8.trans (s9.trans (s10.trans s11)))))),(mi.step (s3.trans (s4.trans (s8.trans (s9.trans (s10.trans s11)))))),(mj.step (s3.trans (s4.trans (s8.trans (s9.trans (s10.trans s11))))))⟩
    ·obtain ⟨n12,g12,hp⟩:=ag hp
     obtain ⟨p12,q12,i12,h12,j12⟩:=W.ixo (E:=(ac eI eI)) w8 (i:=0) rfl rfl (mj.step (s3.trans (s4.trans s8))) g12
     refine ai i12 ?_
     obtain ⟨_,_,rfl,rfl,rfl⟩:=h12
     refine ai (aG (j12 0 _ rfl)) ?_
     refine ay hp (λhp=>?_) λhp=>?_
     ·refine lSl w8 5 ?_
      refine lSl w8 5 ?_
      refine aq w8 3 λH13 w13 s13=>?_
      refine aq w13 3 λH14 w14 s14=>?_
      refine lSl w14 3 ?_
      refine lSl w14 3 ?_
      obtain ⟨w15,s15⟩:=w14.pp [4,0] 7
      exact az hp ⟨_,_,_,_,_,_,_,_,rfl,rfl,rfl,w15,(s0.trans (s3.trans (s4.trans (s8.trans (s13.trans (s14.trans s15)))))),(mi.step (s3.trans (s4.trans (s8.trans (s13.trans (s14.trans s15)))))),(mj.step (s3.trans (s4.trans (s8.trans (s13.trans (s14.trans s15))))))⟩
     ·obtain ⟨n16,g16,hp⟩:=ag hp
      obtain ⟨p16,q16,i16,h16,j16⟩:=W.ixo (E:=(ac eI eI)) w8 (i:=0) rfl rfl (mj.step (s3.trans (s4.trans s8))) g16
      refine ai i16 ?_
      obtain ⟨l17,e17,hp⟩:=ag hp
      refine dC (ac eI eI) w8 (i:=0) (j:=0) (p:=p16) rfl rfl (mj.step (s3.trans (s4.trans s8))) g16 i16 e17 rfl rfl (λ_ h=>by obtain ⟨_,_,rfl,rfl,rfl⟩:=h;exact ⟨[_],_,rfl,rfl,rfl⟩) λH18 k18 w18 s18 c18=>?_
      obtain ⟨l19,e19,hp⟩:=ag hp
      refine dC (ac eI eI) w18 (i:=0) (j:=1) (p:=p16) rfl rfl c18 (mu g16 (cz e17)) i16 e19 rfl rfl (λ_ h=>by obtain ⟨_,_,rfl,rfl,rfl⟩:=h;exact ⟨[_],_,rfl,rfl,rfl⟩) λH20 k20 w20 s20 c20=>?_
      obtain ⟨w21,s21⟩:=w20.pp [1,2,3,4,0,5,6] 7
      exact ih rfl rfl rfl ((cz e17).symm.trans (cz e19).symm) rfl ⟨w21,(s0.trans (s3.trans (s4.trans (s8.trans (s18.trans (s20.trans s21)))))),(OG.step (s3.trans (s4.trans (s8.trans (s18.trans (s20.trans s21)))))),(OH.step (s3.trans (s4.trans (s8.trans (s18.trans (s20.trans s21)))))),(mi.step (s3.trans (s4.trans (s8.trans (s18.trans (s20.trans s21)))))),(c20.step s21),(OI.step (s3.trans (s4.trans (s8.trans (s18.trans (s20.trans s21))))))⟩ hp
   ·obtain ⟨w22,s22⟩:=w3.pp [3,0,1,2,4,5,6] 7
    have f23:=W.borrow1 (ac eI eI) w22 (mi.step (s3.trans s22))
    obtain ⟨w23,s23⟩:=w22.right1
    obtain ⟨r24,e24,hp⟩:=ag hp
    refine aE (dI.P rfl ⟨w23,f23⟩ e24) ?_
    rintro _ H25 ⟨rfl,w25,s25,_⟩
    obtain ⟨w26,s26⟩:=W.frame1 w22 w25 s25
    refine br ?_
    refine ay hp (λhp=>?_) λhp=>?_
    ·refine lSl w26 5 ?_
     refine lSl w26 5 ?_
     refine aq w26 3 λH27 w27 s27=>?_
     refine aq w27 3 λH28 w28 s28=>?_
     refine lSl w28 3 ?_
     refine lSl w28 3 ?_
     obtain ⟨w29,s29⟩:=w28.pp [0,4] 7
     exact az hp ⟨_,_,_,_,_,_,_,_,rfl,rfl,rfl,w29,(s0.trans (s3.trans (s22.trans (s26.trans (s27.trans (s28.trans s29)))))),(mi.step (s3.trans (s22.trans (s26.trans (s27.trans (s28.trans s29)))))),(mj.step (s3.trans (s22.trans (s26.trans (s27.trans (s28.trans s29))))))⟩
    ·obtain ⟨n30,g30,hp⟩:=ag hp
     obtain ⟨p30,q30,i30,h30,j30⟩:=W.ixo (E:=(ac eI eI)) w26 (i:=0) rfl rfl (mi.step (s3.trans (s22.trans s26))) g30
     refine ai i30 ?_
     obtain ⟨_,_,rfl,rfl,rfl⟩:=h30
     refine ai (aG (j30 0 _ rfl)) ?_
     refine ay hp (λhp=>?_) λhp=>?_
     ·refine lSl w26 5 ?_
      refine lSl w26 5 ?_
      refine aq w26 3 λH31 w31 s31=>?_
      refine aq w31 3 λH32 w32 s32=>?_
      refine lSl w32 3 ?_
      refine lSl w32 3 ?_
      obtain ⟨w33,s33⟩:=w32.pp [0,4] 7
      exact az hp ⟨_,_,_,_,_,_,_,_,rfl,rfl,rfl,w33,(s0.trans (s3.trans (s22.trans (s26.trans (s31.trans (s32.trans s33)))))),(mi.step (s3.trans (s22.trans (s26.trans (s31.trans (s32.trans s33)))))),(mj.step (s3.trans (s22.trans (s26.trans (s31.trans (s32.trans s33))))))⟩
     ·obtain ⟨n34,g34,hp⟩:=ag hp
      obtain ⟨p34,q34,i34,h34,j34⟩:=W.ixo (E:=(ac eI eI)) w26 (i:=0) rfl rfl (mi.step (s3.trans (s22.trans s26))) g34
      refine ai i34 ?_
      obtain ⟨l35,e35,hp⟩:=ag hp
      refine dC (ac eI eI) w26 (i:=0) (j:=0) (p:=p34) rfl rfl (mi.step (s3.trans (s22.trans s26))) g34 i34 e35 rfl rfl (λ_ h=>by obtain ⟨_,_,rfl,rfl,rfl⟩:=h;exact ⟨[_],_,rfl,rfl,rfl⟩) λH36 k36 w36 s36 c36=>?_
      obtain ⟨l37,e37,hp⟩:=ag hp
      refine dC (ac eI eI) w36 (i:=0) (j:=1) (p:=p34) rfl rfl c36 (mu g34 (cz e35)) i34 e37 rfl rfl (λ_ h=>by obtain ⟨_,_,rfl,rfl,rfl⟩:=h;exact ⟨[_],_,rfl,rfl,rfl⟩) λH38 k38 w38 s38 c38=>?_
      obtain ⟨w39,s39⟩:=w38.pp [1,2,3,0,4,5,6] 7
      exact ih rfl rfl ((cz e35).symm.trans (cz e37).symm) rfl rfl ⟨w39,(s0.trans (s3.trans (s22.trans (s26.trans (s36.trans (s38.trans s39)))))),(OG.step (s3.trans (s22.trans (s26.trans (s36.trans (s38.trans s39)))))),(OH.step (s3.trans (s22.trans (s26.trans (s36.trans (s38.trans s39)))))),(c38.step s39),(mj.step (s3.trans (s22.trans (s26.trans (s36.trans (s38.trans s39)))))),(OI.step (s3.trans (s22.trans (s26.trans (s36.trans (s38.trans s39))))))⟩ hp
  ·obtain ⟨w40,s40⟩:=w0.pp [0,1,2,3,4,5] 7
   exact hC61 rfl rfl rfl rfl rfl ⟨w40,(s0.trans s40),(OG.step s40),(OH.step s40),(mi.step s40),(mj.step s40),(OI.step s40)⟩ hp
def bf.pl61 (F:Nat) :Nat->List (Int×Int)->List (Int×Int)->List (Int×Int×Int×Int×Int)->Int->Int->Option ((List (Int×Int))×(List (Int×Int))×Bool)
 | 0,_,_,_,_,_=>none
 | k+1,qX,qY,jV,kx,ii=>(bif (decide (ii<kx)) then ((ix jV ii).bind λn1=>(dS.p F ((gt jV n1).1) ((gt jV n1).2.1) ((gt jV n1).2.2.1) ((gt jV n1).2.2.2.1)).bind λr8=>bf.pl3931 F (bf.pl61 F k) F qX qY jV kx ii ((gt jV n1).2.2.2.2) ii r8.1 r8.2.1 r8.2.2.1 r8.2.2.2 0) else (some (qX,qY,true)))
theorem bf.l61_P  :∀ k,bf.S61 H0 Ri R0  (bf.l61 F (bv.tw F) (dS.tw F) (dU.tw F) (dI.tw F)  k) (bf.pl61 F  k):=by
 intro k
 induction k with
 | zero=>unfold bf.S61;intros;rename_i hp;cases hp
 | succ k ih=>
  intro NZ qU N_ Oa Ob Fa nq eV Fb Fc mQ Fd Oc qV Od Oe Of Og qW qX qY Oh qZ Oi Oj jV kx ii H ane OJ anf ang anh h0 r hp
  obtain ⟨w0,s0,ani,OK,abb,abc,abd⟩:=h0
  subst ane
  subst OJ
  subst anf
  subst ang
  subst anh
  unfold bf.pl61 at hp
  unfold bf.l61
  refine ay hp (λhp=>?_) λhp=>?_
  ·obtain ⟨n1,g1,hp⟩:=ag hp
   obtain ⟨p1,q1,i1,h1,j1⟩:=ROs.ixr abd rfl g1
   refine ai i1 ?_
   obtain ⟨_,_,rfl,rfl,_,_,rfl,rfl,_,_,rfl,rfl,_,_,rfl,rfl,rfl⟩:=h1
   refine ai (aG (j1 0 _ rfl)) ?_
   refine ai (aG (j1 1 _ rfl)) ?_
   refine ai (aG (j1 2 _ rfl)) ?_
   refine ai (aG (j1 3 _ rfl)) ?_
   refine ai (aG (j1 4 _ rfl)) ?_
   refine aS w0 λH2 w2 s2=>?_
   refine aq w2 0 λH3 w3 s3=>?_
   refine aq w3 0 λH4 w4 s4=>?_
   refine aq w4 0 λH5 w5 s5=>?_
   refine aq w5 0 λH6 w6 s6=>?_
   refine aq w6 0 λH7 w7 s7=>?_
   refine lI w7 0 ?_
   refine lI w7 0 ?_
   refine lI w7 0 ?_
   refine lI w7 0 ?_
   refine lI w7 0 ?_
   obtain ⟨r8,e8,hp⟩:=ag hp
   refine aE (dS.P ⟨w7,trivial⟩ e8) ?_
   rintro _ H9 ⟨rfl,w9,s9,_⟩
   refine br (br (br (br (br (br (br (br (br ?_))))))))
   obtain ⟨w10,s10⟩:=w9.pp [1,2,3,4,5,6,0] 7
   exact bf.l3931_P (@ih) F rfl rfl rfl rfl rfl ⟨w10,(s0.trans (s2.trans (s3.trans (s4.trans (s5.trans (s6.trans (s7.trans (s9.trans s10)))))))),(ani.step (s2.trans (s3.trans (s4.trans (s5.trans (s6.trans (s7.trans (s9.trans s10)))))))),(OK.step (s2.trans (s3.trans (s4.trans (s5.trans (s6.trans (s7.trans (s9.trans s10)))))))),(abb.step (s2.trans (s3.trans (s4.trans (s5.trans (s6.trans (s7.trans (s9.trans s10)))))))),(abc.step (s2.trans (s3.trans (s4.trans (s5.trans (s6.trans (s7.trans (s9.trans s10)))))))),(abd.step (s2.trans (s3.trans (s4.trans (s5.trans (s6.trans (s7.trans (s9.trans s10))))))))⟩ hp
  ·refine lSl w0 5 ?_
   refine lSl w0 5 ?_
   refine aq w0 2 λH11 w11 s11=>?_
   refine aq w11 2 λH12 w12 s12=>?_
   refine lSl w12 2 ?_
   refine lSl w12 2 ?_
   obtain ⟨w13,s13⟩:=w12.pp [3,4] 6
   exact az hp ⟨_,_,_,_,_,_,_,_,rfl,rfl,rfl,w13,(s0.trans (s11.trans (s12.trans s13))),(abb.step (s11.trans (s12.trans s13))),(abc.step (s11.trans (s12.trans s13)))⟩
def bf.p (F:Nat) (ah:atb):Option ((List (Int×Int))×(List (Int×Int))×Bool):=(bv.p F ([((-1),0)]:List (Int×Int)) (wrap .i64 (2 * (ah.length:Int)))).bind λr5=>(bv.p F ([((-1),0)]:List (Int×Int)) (wrap .i64 (2 * (ah.length:Int)))).bind λr10=>bf.pl61 F F r5 r10 ah (ah.length:Int) 0
theorem bf.P {aB ak aC ah af} (ba:ak=ah.length) (h0:Inn H R0 λR=>ROs (ac eI (ac eI (ac eI (ac eI eI)))) H R ⟨aB,ak,aC⟩ ah) {r:(List (Int×Int))×(List (Int×Int))×Bool} (hp:bf.p F ah=some r):Rt (bf.tw F ⟨aB,ak,aC⟩ af H) (bf.Q H R0 R0  r):=by
 obtain ⟨w0,aO⟩:=h0
 subst ba
 unfold bf.p at hp
 unfold bf.tw bf.twX
 have s0:=w0.rf
 refine aS w0 λH1 w1 s1=>?_
 refine aS w1 λH2 w2 s2=>?_
 refine lSl w2 1 ?_
 refine cK (ac eI eI) w2 (n:=1) (l:=([((-1),0)]:List (Int×Int))) rfl (CR.cons (c:=[_,_]) ⟨[_],_,rfl,rfl,rfl⟩ CR.empty) rfl λH3 w3 s3 c3=>?_
 have f4:=W.borrow1 (ac eI eI) w3 c3
 obtain ⟨w4,s4⟩:=w3.right1
 obtain ⟨r5,e5,hp⟩:=ag hp
 refine aE (bv.P (show 1=List.length ([((-1),0)]:List (Int×Int)) from rfl) ⟨w4,f4⟩ e5) ?_
 rintro _ H6 ⟨o0a_6,o0n_6,o0k_6,rfl,rfl,w6,s6,f6_0⟩
 obtain ⟨w7,s7⟩:=W.frame1 w3 w6 s6
 refine br ?_
 refine cK (ac eI eI) w7 (n:=1) (l:=([((-1),0)]:List (Int×Int))) rfl (CR.cons (c:=[_,_]) ⟨[_],_,rfl,rfl,rfl⟩ CR.empty) rfl λH8 w8 s8 c8=>?_
 have f9:=W.borrow1 (ac eI eI) w8 c8
 obtain ⟨w9,s9⟩:=w8.right1
 obtain ⟨r10,e10,hp⟩:=ag hp
 refine aE (bv.P (show 1=List.length ([((-1),0)]:List (Int×Int)) from rfl) ⟨w9,f9⟩ e10) ?_
 rintro _ H11 ⟨o0a_11,o0n_11,o0k_11,rfl,rfl,w11,s11,f11_0⟩
 obtain ⟨w12,s12⟩:=W.frame1 w8 w11 s11
 refine br ?_
 refine aS w12 λH13 w13 s13=>?_
 refine aq w13 0 λH14 w14 s14=>?_
 refine aq w14 0 λH15 w15 s15=>?_
 refine lSl w15 6 ?_
 obtain ⟨w16,s16⟩:=w15.nilS (ac eI eI).z (by decide)
 obtain ⟨w17,s17⟩:=w16.nilS (ac eI eI).z (by decide)
 obtain ⟨w18,s18⟩:=w17.pp [1,0,7,6,4,2] 9
 exact bf.l61_P F rfl rfl rfl rfl rfl ⟨w18,(s0.trans (s1.trans (s2.trans (s3.trans (s7.trans (s8.trans (s12.trans (s13.trans (s14.trans (s15.trans (s16.trans (s17.trans s18)))))))))))),((CR.empty:CR (ac eI eI) _ _ [] []).step (s17.trans s18)),((CR.empty:CR (ac eI eI) _ _ [] []).step s18),((CR.flat (afK (fA .i64) (fA .i64)) f6_0).step (s8.trans (s12.trans (s13.trans (s14.trans (s15.trans (s16.trans (s17.trans s18)))))))),((CR.flat (afK (fA .i64) (fA .i64)) f11_0).step (s13.trans (s14.trans (s15.trans (s16.trans (s17.trans s18)))))),(aO.step (s1.trans (s2.trans (s3.trans (s7.trans (s8.trans (s12.trans (s13.trans (s14.trans (s15.trans (s16.trans (s17.trans s18))))))))))))⟩ hp
def dj.Q (H0:Hp) (Ri R0:as3)  (r:atq) (v:AV) (H':Hp):Prop:=v=(.agg [(.i r.1),(.i r.2)])/\Out H0 Ri H' (R0) λR=>True
def dj.p (F:Nat) (ah:atb) (ey:ato) (bz:ato) (iS:Int) (fP:Int):Option (Int×Int):=(ix ah iS).bind λn5=>(dS.p F ((gt ah n5).1) ((gt ah n5).2.1) ((gt ah n5).2.2.1) ((gt ah n5).2.2.2.1)).bind λr12=>(if 0<=fP/\fP<(4:Int) then ((dU.p F ((gt ah n5).2.2.2.2) fP).bind λr16=>(bif r16 then ((ix ey (gt ([r12.1,r12.2.1,r12.2.2.1,r12.2.2.2]:List Int) (fP:Int).toNat)).bind λn18=>some (((gt ey n18).1),((gt ey n18).2))) else ((ix bz (gt ([r12.1,r12.2.1,r12.2.2.1,r12.2.2.2]:List Int) (fP:Int).toNat)).bind λn22=>some (((gt bz n22).1),((gt bz n22).2))))) else none)
theorem dj.P {aB lF ev ak iB dg aC lG ew ah af iS fP ey bz} (ba:ak=ah.length) (ra:iB=ey.length) (gM:dg=bz.length) (h0:Inn H R0 λR=>ROs (ac eI (ac eI (ac eI (ac eI eI)))) H R ⟨aB,ak,aC⟩ ah/\ROs (ac eI eI) H R ⟨lF,iB,lG⟩ ey/\ROs (ac eI eI) H R ⟨ev,dg,ew⟩ bz) {r:atq} (hp:dj.p F ah ey bz iS fP=some r):Rt (dj.tw F ⟨aB,ak,aC⟩ af ⟨lF,iB,lG⟩ ⟨ev,dg,ew⟩ iS fP H) (dj.Q H R0 R0  r):=by
 obtain ⟨w0,aO,rb,fc⟩:=h0
 subst ba
 subst ra
 subst gM
 unfold dj.p at hp
 unfold dj.tw dj.twX
 have s0:=w0.rf
 refine aS w0 λH1 w1 s1=>?_
 refine aS w1 λH2 w2 s2=>?_
 refine aS w2 λH3 w3 s3=>?_
 refine aS w3 λH4 w4 s4=>?_
 refine lSl w4 3 ?_
 refine lI w4 1 ?_
 obtain ⟨n5,g5,hp⟩:=ag hp
 obtain ⟨p5,q5,i5,h5,j5⟩:=ROs.ixr (aO.step (s1.trans (s2.trans (s3.trans s4)))) rfl g5
 refine ai i5 ?_
 obtain ⟨_,_,rfl,rfl,_,_,rfl,rfl,_,_,rfl,rfl,_,_,rfl,rfl,rfl⟩:=h5
 refine ai (aG (j5 0 _ rfl)) ?_
 refine ai (aG (j5 1 _ rfl)) ?_
 refine ai (aG (j5 2 _ rfl)) ?_
 refine ai (aG (j5 3 _ rfl)) ?_
 refine ai (aG (j5 4 _ rfl)) ?_
 refine aS w4 λH6 w6 s6=>?_
 refine aq w6 0 λH7 w7 s7=>?_
 refine aq w7 0 λH8 w8 s8=>?_
 refine aq w8 0 λH9 w9 s9=>?_
 refine aq w9 0 λH10 w10 s10=>?_
 refine aq w10 0 λH11 w11 s11=>?_
 refine lI w11 0 ?_
 refine lI w11 0 ?_
 refine lI w11 0 ?_
 refine lI w11 0 ?_
 refine lI w11 0 ?_
 obtain ⟨r12,e12,hp⟩:=ag hp
 refine aE (dS.P ⟨w11,trivial⟩ e12) ?_
 rintro _ H13 ⟨rfl,w13,s13,_⟩
 refine br (br (br (br (br (br (br (br (br ?_))))))))
 refine eK (W.cons_of (Rn:=[]) w11 w13 s13) ?_
 refine lI w13 2 ?_
 obtain ⟨g15,hp⟩:=fW hp
 refine eK g15 ?_
 refine ai (a:=AV.int .i64 (gt ([r12.1,r12.2.1,r12.2.2.1,r12.2.2.2]:List Int) (fP:Int).toNat)) (by rw [Nat.mul_one];exact afJ (k:=.i64) (l:=[r12.1,r12.2.1,r12.2.2.1,r12.2.2.2]) rfl (by have:=g15;simp only [List.length_cons,List.length_nil];omega)) ?_
 refine br ?_
 refine lI w13 0 ?_
 refine lI w13 0 ?_
 refine lI w13 0 ?_
 refine lI w13 0 ?_
 refine lI w13 0 ?_
 refine lI w13 2 ?_
 obtain ⟨r16,e16,hp⟩:=ag hp
 refine aE (dU.P ⟨w13,trivial⟩ e16) ?_
 rintro _ H17 ⟨rfl,w17,s17,_⟩
 refine br ?_
 refine ay hp (λhp=>?_) λhp=>?_
 ·refine lSl w17 3 ?_
  obtain ⟨n18,g18,hp⟩:=ag hp
  obtain ⟨p18,q18,i18,h18,j18⟩:=ROs.ixr (rb.step (s1.trans (s2.trans (s3.trans (s4.trans (s6.trans (s7.trans (s8.trans (s9.trans (s10.trans (s11.trans (s13.trans s17)))))))))))) rfl g18
  refine ai i18 ?_
  obtain ⟨_,_,rfl,rfl,rfl⟩:=h18
  refine ai (aG (j18 0 _ rfl)) ?_
  refine ai (aG (j18 1 _ rfl)) ?_
  refine aq w17 1 λH19 w19 s19=>?_
  refine aq w19 1 λH20 w20 s20=>?_
  refine lI w20 1 ?_
  refine lI w20 1 ?_
  obtain ⟨w21,s21⟩:=w20.pp [] 5
  exact az hp ⟨rfl,w21,(s0.trans (s1.trans (s2.trans (s3.trans (s4.trans (s6.trans (s7.trans (s8.trans (s9.trans (s10.trans (s11.trans (s13.trans (s17.trans (s19.trans (s20.trans s21))))))))))))))),trivial⟩
 ·refine lSl w17 3 ?_
  obtain ⟨n22,g22,hp⟩:=ag hp
  obtain ⟨p22,q22,i22,h22,j22⟩:=ROs.ixr (fc.step (s1.trans (s2.trans (s3.trans (s4.trans (s6.trans (s7.trans (s8.trans (s9.trans (s10.trans (s11.trans (s13.trans s17)))))))))))) rfl g22
  refine ai i22 ?_
  obtain ⟨_,_,rfl,rfl,rfl⟩:=h22
  refine ai (aG (j22 0 _ rfl)) ?_
  refine ai (aG (j22 1 _ rfl)) ?_
  refine aq w17 1 λH23 w23 s23=>?_
  refine aq w23 1 λH24 w24 s24=>?_
  refine lI w24 1 ?_
  refine lI w24 1 ?_
  obtain ⟨w25,s25⟩:=w24.pp [] 5
  exact az hp ⟨rfl,w25,(s0.trans (s1.trans (s2.trans (s3.trans (s4.trans (s6.trans (s7.trans (s8.trans (s9.trans (s10.trans (s11.trans (s13.trans (s17.trans (s23.trans (s24.trans s25))))))))))))))),trivial⟩
def aL.Q (H0:Hp) (Ri R0:as3)  (r:atf) (v:AV) (H':Hp):Prop:=∃ o0a:ON,∃ o0n:Nat,∃ o0c:Cap,∃ o0k:List AV,v=(.sl ⟨o0a,o0n,o0c⟩)/\o0n=(r).length/\Out H0 Ri H' (Rs.own ⟨o0a,o0n,o0c⟩ (eSl eI).z o0k::R0) λR=>CR (eSl eI) H' R o0k (r)
def aL.S61 (H0:Hp) (Ri R0:as3)  (C:aty) (pC:atB):Prop:=∀ {OL OM OO OP OQ Fj dR Fk Fl pL Fm Fn OR OS OU OW OX wg abe gR eF wh wi rc OY OZ wj},∀ {H:Hp},Fj=wg.length->Fk=wh.length->Fl=wi.length->Fm=rc.length->Fn=wj.length->(Out H0 Ri H (Rs.blk dR [.sl ⟨OL,Fj,OR⟩,.i abe]::Rs.blk pL [.sl ⟨OM,Fk,OS⟩,.sl ⟨OO,Fl,OU⟩]::Rs.own ⟨OP,Fm,OW⟩ (eSl eI).z OY::Rs.own ⟨OQ,Fn,OX⟩ cC.z OZ::R0) λR=>ROs (ac eI (ac eI (ac eI (ac eI eI)))) H R ⟨OL,Fj,OR⟩ wg/\ROs (ac eI eI) H R ⟨OM,Fk,OS⟩ wh/\ROs (ac eI eI) H R ⟨OO,Fl,OU⟩ wi/\CR (eSl eI) H R OY rc/\CR cC H R OZ wj)->∀ {r:atf},pC wg wh wi rc wj gR eF=some r->Rt (C dR 0 pL 0 ⟨OP,Fm,OW⟩ ⟨OQ,Fn,OX⟩ gR eF H) (aL.Q H0 Ri R0  r)
def aL.S15725 (H0:Hp) (Ri R0:as3)  (C:Nat->Nat->Nat->Nat->Sl->Sl->Int->Int->Sl->Int->Hp->OA) (pC:List (Int×Int×Int×Int×Int)->List (Int×Int)->List (Int×Int)->List (List Int)->List Bool->Int->Int->List Int->Int->Option (List (List Int))):Prop:=∀ {O_ Pa Pb Pc Pd Pe Fo lU Fp Fq lV Fs Ft Fu Pf Pg Ph Pi Pj Pm oQ abf ky kz fQ oR oS rd Pn Pp Pq ml rh},∀ {H:Hp},Fo=oQ.length->Fp=oR.length->Fq=oS.length->Fs=rd.length->Ft=ml.length->Fu=rh.length->(Out H0 Ri H (Rs.blk lU [.sl ⟨O_,Fo,Pf⟩,.i abf]::Rs.blk lV [.sl ⟨Pa,Fp,Pg⟩,.sl ⟨Pb,Fq,Ph⟩]::Rs.own ⟨Pc,Fs,Pi⟩ (eSl eI).z Pn::Rs.own ⟨Pd,Ft,Pj⟩ cC.z Pp::Rs.own ⟨Pe,Fu,Pm⟩ eI.z Pq::R0) λR=>ROs (ac eI (ac eI (ac eI (ac eI eI)))) H R ⟨O_,Fo,Pf⟩ oQ/\ROs (ac eI eI) H R ⟨Pa,Fp,Pg⟩ oR/\ROs (ac eI eI) H R ⟨Pb,Fq,Ph⟩ oS/\CR (eSl eI) H R Pn rd/\CR cC H R Pp ml/\CR eI H R Pq rh)->∀ {r:atf},pC oQ oR oS rd ml ky kz rh fQ=some r->Rt (C lU 0 lV 0 ⟨Pc,Fs,Pi⟩ ⟨Pd,Ft,Pj⟩ ky kz ⟨Pe,Fu,Pm⟩ fQ H) (aL.Q H0 Ri R0  r)
def aL.pj4 (F:Nat) (ar:atB) (zj:atb) (zk:ato) (zm:ato) (zn:atf) (zo:atV) (ud:Int) (ue:Int):Option (List (List Int)):=ar zj zk zm zn zo ud (wrap .i64 (ue+1))
theorem aL.j4_P  {C61_:aty} {ar:atB} (hC61:aL.S61 H0 Ri R0  C61_ ar) {abg abh abi abj abk Pr BI Ps Pt BJ Pu Pv abl abm abn abo abp zj anj ud ue zk zm zn abq abr zo} (ank:Pr=zj.length) (anl:Ps=zk.length) (anm:Pt=zm.length) (ann:Pu=zn.length) (ano:Pv=zo.length) (h0:Out H0 Ri H (Rs.blk BI [.sl ⟨abg,Pr,abl⟩,.i anj]::Rs.blk BJ [.sl ⟨abh,Ps,abm⟩,.sl ⟨abi,Pt,abn⟩]::Rs.own ⟨abj,Pu,abo⟩ (eSl eI).z abq::Rs.own ⟨abk,Pv,abp⟩ cC.z abr::R0) λR=>ROs (ac eI (ac eI (ac eI (ac eI eI)))) H R ⟨abg,Pr,abl⟩ zj/\ROs (ac eI eI) H R ⟨abh,Ps,abm⟩ zk/\ROs (ac eI eI) H R ⟨abi,Pt,abn⟩ zm/\CR (eSl eI) H R abq zn/\CR cC H R abr zo) {r:atf} (hp:aL.pj4 F ar zj zk zm zn zo ud ue=some r):Rt (aL.j4 F (dj.tw F) C61_ BI 0 BJ 0 ⟨abj,Pu,abo⟩ ⟨abk,Pv,abp⟩ ud ue H) (aL.Q H0 Ri R0  r):=by
 obtain ⟨w0,s0,anp,anq,anr,ans,ant⟩:=h0
 subst ank
 subst anl
 subst anm
 subst ann
 subst ano
 unfold aL.pj4 at hp
 unfold aL.j4
 exact hC61 rfl rfl rfl rfl rfl ⟨w0,s0,anp,anq,anr,ans,ant⟩ hp
def aL.pj5 (F:Nat) (ar:atB) (zp:atb) (zq:ato) (zr:ato) (zt:atf) (zu:atV) (ug:Int) (uh:Int):Option (List (List Int)):=aL.pj4 F ar zp zq zr zt zu ug uh
theorem aL.j5_P  {C61_:aty} {ar:atB} (hC61:aL.S61 H0 Ri R0  C61_ ar) {abt abu abv abw abx Pw BK Px Py sk Pz PA aby abz abA abB abC zp anu ug uh zq zr zt abD abE zu} (anv:Pw=zp.length) (anw:Px=zq.length) (anx:Py=zr.length) (anz:Pz=zt.length) (anA:PA=zu.length) (h0:Out H0 Ri H (Rs.blk BK [.sl ⟨abt,Pw,aby⟩,.i anu]::Rs.blk sk [.sl ⟨abu,Px,abz⟩,.sl ⟨abv,Py,abA⟩]::Rs.own ⟨abw,Pz,abB⟩ (eSl eI).z abD::Rs.own ⟨abx,PA,abC⟩ cC.z abE::R0) λR=>ROs (ac eI (ac eI (ac eI (ac eI eI)))) H R ⟨abt,Pw,aby⟩ zp/\ROs (ac eI eI) H R ⟨abu,Px,abz⟩ zq/\ROs (ac eI eI) H R ⟨abv,Py,abA⟩ zr/\CR (eSl eI) H R abD zt/\CR cC H R abE zu) {r:atf} (hp:aL.pj5 F ar zp zq zr zt zu ug uh=some r):Rt (aL.j5 F (dj.tw F) C61_ BK 0 sk 0 ⟨abw,Pz,abB⟩ ⟨abx,PA,abC⟩ ug uh H) (aL.Q H0 Ri R0  r):=by
 obtain ⟨w0,s0,anB,anC,anD,anE,anF⟩:=h0
 subst anv
 subst anw
 subst anx
 subst anz
 subst anA
 unfold aL.pj5 at hp
 unfold aL.j5
 exact aL.j4_P (@hC61) rfl rfl rfl rfl rfl ⟨w0,s0,anB,anC,anD,anE,anF⟩ hp
def aL.pj6 (F:Nat) (ar:atB) (wk:atb) (wo:ato) (wq:ato) (wu:atf) (wv:atV) (oT:as6) (nZ:Int) (n_:Int):Option (List (List Int)):=(bif (decide ((oT.length:Int)>0)) then ((apn wu ([oT]:List (List Int))).bind λl3=>aL.pj5 F ar wk wo wq l3 wv nZ n_) else (aL.pj5 F ar wk wo wq wu wv nZ n_))
theorem aL.j6_P  {C61_:aty} {ar:atB} (hC61:aL.S61 H0 Ri R0  C61_ ar) {abF abG abH abI abJ abK PB xh PC PD xi PE PF PG abL abM abN abO abP abQ wk anG nZ n_ wo wq wu abR abS abT wv oT} (anH:PB=wk.length) (anI:PC=wo.length) (anJ:PD=wq.length) (anK:PE=wu.length) (anL:PF=wv.length) (anM:PG=oT.length) (h0:Out H0 Ri H (Rs.blk xh [.sl ⟨abF,PB,abL⟩,.i anG]::Rs.blk xi [.sl ⟨abG,PC,abM⟩,.sl ⟨abH,PD,abN⟩]::Rs.own ⟨abI,PE,abO⟩ (eSl eI).z abR::Rs.own ⟨abJ,PF,abP⟩ cC.z abS::Rs.own ⟨abK,PG,abQ⟩ eI.z abT::R0) λR=>ROs (ac eI (ac eI (ac eI (ac eI eI)))) H R ⟨abF,PB,abL⟩ wk/\ROs (ac eI eI) H R ⟨abG,PC,abM⟩ wo/\ROs (ac eI eI) H R ⟨abH,PD,abN⟩ wq/\CR (eSl eI) H R abR wu/\CR cC H R abS wv/\CR eI H R abT oT) {r:atf} (hp:aL.pj6 F ar wk wo wq wu wv oT nZ n_=some r):Rt (aL.j6 F (dj.tw F) C61_ xh 0 xi 0 ⟨abI,PE,abO⟩ ⟨abJ,PF,abP⟩ ⟨abK,PG,abQ⟩ nZ n_ H) (aL.Q H0 Ri R0  r):=by
 obtain ⟨w0,s0,abU,abV,abW,abX,abY,anN⟩:=h0
 subst anH
 subst anI
 subst anJ
 subst anK
 subst anL
 subst anM
 unfold aL.pj6 at hp
 unfold aL.j6
 refine ay hp (λhp=>?_) λhp=>?_
 ·obtain ⟨w1,s1,f1⟩:=w0.frz (i:=4) eI rfl anN
  refine cK (eSl eI) w1 (n:=1) (l:=([oT]:List (List Int))) rfl (CR.cons1 ⟨_,rfl,f1⟩ CR.empty) rfl λH2 w2 s2 c2=>?_
  refine ai (w2.rowo (i:=0) rfl) ?_
  obtain ⟨l3,e3,hp⟩:=ag hp
  refine fz (eSl eI) w2 (i:=3) rfl rfl (abX.step (s1.trans s2)) c2 (show 1=List.length ([oT]:List (List Int)) from rfl) rfl e3 λa4 d4 H4 w4 s4 c4 x4=>?_
  obtain ⟨w5,s5⟩:=w4.pp [1,2,3,4] 5
  exact aL.j5_P (@hC61) rfl rfl rfl rfl rfl ⟨w5,(s0.trans (s1.trans (s2.trans (s4.trans s5)))),(abU.step (s1.trans (s2.trans (s4.trans s5)))),(abV.step (s1.trans (s2.trans (s4.trans s5)))),(abW.step (s1.trans (s2.trans (s4.trans s5)))),(c4.step s5),(abY.step (s1.trans (s2.trans (s4.trans s5))))⟩ hp
 ·obtain ⟨w6,s6⟩:=w0.pp [0,1,2,3] 5
  exact aL.j5_P (@hC61) rfl rfl rfl rfl rfl ⟨w6,(s0.trans s6),(abU.step s6),(abV.step s6),(abW.step s6),(abX.step s6),(abY.step s6)⟩ hp
def aL.pl15725 (F:Nat) (ar:atB):Nat->List (Int×Int×Int×Int×Int)->List (Int×Int)->List (Int×Int)->List (List Int)->List Bool->Int->Int->List Int->Int->Option (List (List Int))
 | 0,_,_,_,_,_,_,_,_,_=>none
 | k+1,oQ,oR,oS,rd,ml,ky,kz,rh,fQ=>(ix ml fQ).bind λn1=>(bif (!(gt ml n1)) then ((ix ml fQ).bind λn2=>(some (ml.set n2 true)).bind λl3=>(apn rh ([fQ]:List Int)).bind λl6=>(dj.p F oQ oR oS (wrap .i64 (Int.tdiv fQ 4)) (Int.tmod (wrap .i64 (fQ+1)) 4)).bind λr8=>aL.pl15725 F ar k oQ oR oS rd l3 ky kz l6 (wrap .i64 ((wrap .i64 (4 * r8.1))+r8.2))) else (aL.pj6 F ar oQ oR oS rd ml rh ky kz))
theorem aL.l15725_P  {C61_:aty} {ar:atB} (hC61:aL.S61 H0 Ri R0  C61_ ar):∀ k,aL.S15725 H0 Ri R0  (aL.l15725 F (dj.tw F) C61_ k) (aL.pl15725 F ar k):=by
 intro k
 induction k with
 | zero=>unfold aL.S15725;intros;rename_i hp;cases hp
 | succ k ih=>
  intro O_ Pa Pb Pc Pd Pe Fo lU Fp Fq lV Fs Ft Fu Pf Pg Ph Pi Pj Pm oQ abf ky kz fQ oR oS rd Pn Pp Pq ml rh H anO anP anQ anR anS anT h0 r hp
  obtain ⟨w0,s0,PH,PI,PJ,abZ,Fv,ab0⟩:=h0
  subst anO
  subst anP
  subst anQ
  subst anR
  subst anS
  subst anT
  unfold aL.pl15725 at hp
  unfold aL.l15725
  obtain ⟨n1,g1,hp⟩:=ag hp
  obtain ⟨p1,q1,i1,h1,j1⟩:=W.ixo (E:=cC) w0 (i:=3) rfl rfl Fv g1
  refine ai i1 ?_
  have h1:_=[_]:=h1
  subst h1
  refine ai (wE (j1 0 _ rfl)) ?_
  refine ay hp (λhp=>?_) λhp=>?_
  ·obtain ⟨n2,g2,hp⟩:=ag hp
   obtain ⟨p2,q2,i2,h2,j2⟩:=W.ixo (E:=cC) w0 (i:=3) rfl rfl Fv g2
   refine ai i2 ?_
   obtain ⟨l3,e3,hp⟩:=ag hp
   refine dC cC w0 (i:=3) (j:=0) (p:=p2) rfl rfl Fv g2 i2 e3 rfl rfl (λ_ h=>by have h:_=[_]:=h;subst h;exact rfl) λH4 k4 w4 s4 c4=>?_
   refine cK eI w4 (n:=1) (l:=([fQ]:List Int)) rfl (CR.cons1 rfl CR.empty) rfl λH5 w5 s5 c5=>?_
   refine ai (w5.rowo (i:=0) rfl) ?_
   obtain ⟨l6,e6,hp⟩:=ag hp
   refine fz eI w5 (i:=5) rfl rfl (ab0.step (s4.trans s5)) c5 (show 1=List.length ([fQ]:List Int) from rfl) rfl e6 λa7 d7 H7 w7 s7 c7 x7=>?_
   refine lSl w7 1 ?_
   refine lI w7 1 ?_
   refine lSl w7 2 ?_
   refine lSl w7 2 ?_
   obtain ⟨r8,e8,hp⟩:=ag hp
   refine aE (dj.P rfl rfl rfl ⟨w7,(PH.step (s4.trans (s5.trans s7))),(PI.step (s4.trans (s5.trans s7))),(PJ.step (s4.trans (s5.trans s7)))⟩ e8) ?_
   rintro _ H9 ⟨rfl,w9,s9,_⟩
   refine br (br (br (br (br ?_))))
   refine aS w9 λH10 w10 s10=>?_
   refine aq w10 0 λH11 w11 s11=>?_
   refine aq w11 0 λH12 w12 s12=>?_
   refine lI w12 0 ?_
   refine lI w12 0 ?_
   obtain ⟨w13,s13⟩:=w12.pp [2,3,4,5,6] 7
   exact ih rfl rfl rfl rfl ((cz e3).symm) rfl ⟨w13,(s0.trans (s4.trans (s5.trans (s7.trans (s9.trans (s10.trans (s11.trans (s12.trans s13)))))))),(PH.step (s4.trans (s5.trans (s7.trans (s9.trans (s10.trans (s11.trans (s12.trans s13)))))))),(PI.step (s4.trans (s5.trans (s7.trans (s9.trans (s10.trans (s11.trans (s12.trans s13)))))))),(PJ.step (s4.trans (s5.trans (s7.trans (s9.trans (s10.trans (s11.trans (s12.trans s13)))))))),(abZ.step (s4.trans (s5.trans (s7.trans (s9.trans (s10.trans (s11.trans (s12.trans s13)))))))),(c4.step (s5.trans (s7.trans (s9.trans (s10.trans (s11.trans (s12.trans s13))))))),(c7.step (s9.trans (s10.trans (s11.trans (s12.trans s13)))))⟩ hp
  ·exact aL.j6_P (@hC61) rfl rfl rfl rfl rfl rfl ⟨w0,s0,PH,PI,PJ,abZ,Fv,ab0⟩ hp
def aL.pl61 (F:Nat) :Nat->List (Int×Int×Int×Int×Int)->List (Int×Int)->List (Int×Int)->List (List Int)->List Bool->Int->Int->Option (List (List Int))
 | 0,_,_,_,_,_,_,_=>none
 | k+1,wg,wh,wi,rc,wj,gR,eF=>(bif (decide (eF<gR)) then (aL.pl15725 F (aL.pl61 F k) F wg wh wi rc wj gR eF ([]:List Int) eF) else (some rc))
theorem aL.l61_P  :∀ k,aL.S61 H0 Ri R0  (aL.l61 F (dj.tw F)  k) (aL.pl61 F  k):=by
 intro k
 induction k with
 | zero=>unfold aL.S61;intros;rename_i hp;cases hp
 | succ k ih=>
  intro OL OM OO OP OQ Fj dR Fk Fl pL Fm Fn OR OS OU OW OX wg abe gR eF wh wi rc OY OZ wj H anU anV anW anX anY h0 r hp
  obtain ⟨w0,s0,anZ,an0,an1,ab1,an2⟩:=h0
  subst anU
  subst anV
  subst anW
  subst anX
  subst anY
  unfold aL.pl61 at hp
  unfold aL.l61
  refine ay hp (λhp=>?_) λhp=>?_
  ·obtain ⟨w1,s1⟩:=w0.nilS eI.z (by decide)
   obtain ⟨w2,s2⟩:=w1.pp [1,2,3,4,0] 5
   exact aL.l15725_P (@ih) F rfl rfl rfl rfl rfl rfl ⟨w2,(s0.trans (s1.trans s2)),(anZ.step (s1.trans s2)),(an0.step (s1.trans s2)),(an1.step (s1.trans s2)),(ab1.step (s1.trans s2)),(an2.step (s1.trans s2)),((CR.empty:CR eI _ _ [] []).step s2)⟩ hp
  ·obtain ⟨w3,s3⟩:=w0.pp [2] 4
   exact az hp ⟨_,_,_,_,rfl,rfl,w3,(s0.trans s3),(ab1.step s3)⟩
def aL.p (F:Nat) (ah:atb) (ey:ato) (bz:ato):Option (List (List Int)):=(mkn (wrap .i64 (4 * (ah.length:Int))) false).bind λl3=>aL.pl61 F F ah ey bz ([]:List (List Int)) l3 (l3.length:Int) 0
theorem aL.P {aB lF ev ak iB dg aC lG ew ah af ey bz} (ba:ak=ah.length) (ra:iB=ey.length) (gM:dg=bz.length) (h0:Inn H R0 λR=>ROs (ac eI (ac eI (ac eI (ac eI eI)))) H R ⟨aB,ak,aC⟩ ah/\ROs (ac eI eI) H R ⟨lF,iB,lG⟩ ey/\ROs (ac eI eI) H R ⟨ev,dg,ew⟩ bz) {r:atf} (hp:aL.p F ah ey bz=some r):Rt (aL.tw F ⟨aB,ak,aC⟩ af ⟨lF,iB,lG⟩ ⟨ev,dg,ew⟩ H) (aL.Q H R0 R0  r):=by
 obtain ⟨w0,aO,rb,fc⟩:=h0
 subst ba
 subst ra
 subst gM
 unfold aL.p at hp
 unfold aL.tw aL.twX
 have s0:=w0.rf
 refine aS w0 λH1 w1 s1=>?_
 refine aS w1 λH2 w2 s2=>?_
 refine lSl w2 1 ?_
 obtain ⟨l3,e3,hp⟩:=ag hp
 refine ka cC false w2 rfl rfl rfl e3 λH4 k4 w4 s4 c4=>?_
 obtain ⟨w5,s5⟩:=w4.nilS (eSl eI).z (by decide)
 obtain ⟨w6,s6⟩:=w5.pp [3,2,0,1] 4
 exact aL.l61_P F rfl rfl rfl rfl rfl ⟨w6,(s0.trans (s1.trans (s2.trans (s4.trans (s5.trans s6))))),(aO.step (s1.trans (s2.trans (s4.trans (s5.trans s6))))),(rb.step (s1.trans (s2.trans (s4.trans (s5.trans s6))))),(fc.step (s1.trans (s2.trans (s4.trans (s5.trans s6))))),((CR.empty:CR (eSl eI) _ _ [] []).step s6),(c4.step (s5.trans s6))⟩ hp
def fR.Q (H0:Hp) (Ri R0:as3)  (r:Int) (v:AV) (H':Hp):Prop:=v=(.i r)/\Out H0 Ri H' (R0) λR=>True
def fR.p (F:Nat) (ah:atf):Option (Int):=some (ah.length:Int)
theorem fR.P {aB ak aC ah} (ba:ak=ah.length) (h0:Inn H R0 λR=>ROs (eSl eI) H R ⟨aB,ak,aC⟩ ah) {r:Int} (hp:fR.p F ah=some r):Rt (fR.tw F ⟨aB,ak,aC⟩ H) (fR.Q H R0 R0  r):=by
 obtain ⟨w0,aO⟩:=h0
 subst ba
 unfold fR.p at hp
 unfold fR.tw fR.twX
 have s0:=w0.rf
 exact az hp ⟨rfl,w0,s0,trivial⟩
def bT.Q (H0:Hp) (Ri R0:as3)  (r:as6) (v:AV) (H':Hp):Prop:=∃ o0a:ON,∃ o0n:Nat,∃ o0c:Cap,∃ o0k:List AV,v=(.sl ⟨o0a,o0n,o0c⟩)/\o0n=(r).length/\Out H0 Ri H' (Rs.own ⟨o0a,o0n,o0c⟩ eI.z o0k::R0) λR=>CR eI H' R o0k (r)
def bT.S29 (H0:Hp) (Ri R0:as3)  (C:ate) (pC:List Int->Int->Int->Option (List Int)):Prop:=∀ {PK Fw PL ri PM kA ij},∀ {H:Hp},Fw=ri.length->(Out H0 Ri H (Rs.own ⟨PK,Fw,PL⟩ eI.z PM::R0) λR=>CR eI H R PM ri)->∀ {r:as6},pC ri kA ij=some r->Rt (C ⟨PK,Fw,PL⟩ kA ij H) (bT.Q H0 Ri R0  r)
def bT.pl29 (F:Nat) :Nat->List Int->Int->Int->Option (List Int)
 | 0,_,_,_=>none
 | k+1,ri,kA,ij=>(bif (decide (ij<kA)) then ((apn ri ([ij]:List Int)).bind λl2=>bT.pl29 F k l2 kA (wrap .i64 (ij+1))) else (some ri))
theorem bT.l29_P  :∀ k,bT.S29 H0 Ri R0  (bT.l29 F   k) (bT.pl29 F  k):=by
 intro k
 induction k with
 | zero=>unfold bT.S29;intros;rename_i hp;cases hp
 | succ k ih=>
  intro PK Fw PL ri PM kA ij H an3 h0 r hp
  obtain ⟨w0,s0,ab2⟩:=h0
  subst an3
  unfold bT.pl29 at hp
  unfold bT.l29
  refine ay hp (λhp=>?_) λhp=>?_
  ·refine cK eI w0 (n:=1) (l:=([ij]:List Int)) rfl (CR.cons1 rfl CR.empty) rfl λH1 w1 s1 c1=>?_
   refine ai (w1.rowo (i:=0) rfl) ?_
   obtain ⟨l2,e2,hp⟩:=ag hp
   refine fz eI w1 (i:=1) rfl rfl (ab2.step s1) c1 (show 1=List.length ([ij]:List Int) from rfl) rfl e2 λa3 d3 H3 w3 s3 c3 x3=>?_
   obtain ⟨w4,s4⟩:=w3.pp [1] 2
   exact ih rfl ⟨w4,(s0.trans (s1.trans (s3.trans s4))),(c3.step s4)⟩ hp
  ·exact az hp ⟨_,_,_,_,rfl,rfl,w0,s0,ab2⟩
def bT.p (F:Nat) (aa:Int):Option (List Int):=bT.pl29 F F ([]:List Int) aa 0
theorem bT.P {aa}  (h0:Inn H R0 λR=>True) {r:as6} (hp:bT.p F aa=some r):Rt (bT.tw F aa H) (bT.Q H R0 R0  r):=by
 obtain ⟨w0,_⟩:=h0
 unfold bT.p at hp
 unfold bT.tw bT.twX
 have s0:=w0.rf
 obtain ⟨w1,s1⟩:=w0.nilS eI.z (by decide)
 exact bT.l29_P F rfl ⟨w1,(s0.trans s1),(CR.empty:CR eI _ _ [] [])⟩ hp
def bj.Q (H0:Hp) (Ri R0:as3) (aB:ON) (ak:Nat) (aC:Cap) (zw:Bool) (zx zy:atg) (r:as6) (v:AV) (H':Hp):Prop:=∃ ab3:List AV,v=(.tup [])/\ak=(r).length/\Out H0 Ri H' (Rs.ow zw ⟨aB,ak,aC⟩ eI.z zx ab3 zy::R0) λR=>CR eI H' R ab3 (r)
def bj.S7 (H0:Hp) (Ri R0:as3) (jW:ON) (iU:Nat) (jX:Cap) (oU:Bool) (oV oW:atg) (C:at4) (pC:auh):Prop:=∀ {fd PO dA jp jq gE},∀ {H:Hp},iU=fd.length->(Out H0 Ri H (Rs.ow oU ⟨jW,iU,jX⟩ eI.z oV PO oW::R0) λR=>CR eI H R PO fd)->∀ {r:as6},pC fd dA jp jq gE=some r->Rt (C ⟨jW,iU,jX⟩ dA jp ⟨jW,iU,jX⟩ jq gE H) (bj.Q H0 Ri R0 jW iU jX oU oV oW r)
def bj.pj2 (F:Nat) (Fx:auh) (zA:as6) (ul:Int) (um:Int) (un:Int) (uo:Int):Option (List Int):=Fx zA ul um un (wrap .i64 (uo+1))
theorem bj.j2_P {jW iU jX oU oV oW} {C7_:at4} {Fx:auh} (hC7:bj.S7 H0 Ri R0 jW iU jX oU oV oW C7_ Fx) {zA ab4 ul um un uo} (an4:iU=zA.length) (h0:Out H0 Ri H (Rs.ow oU ⟨jW,iU,jX⟩ eI.z oV ab4 oW::R0) λR=>CR eI H R ab4 zA) {r:as6} (hp:bj.pj2 F Fx zA ul um un uo=some r):Rt (bj.j2 F  C7_ ⟨jW,iU,jX⟩ ul um ⟨jW,iU,jX⟩ un uo H) (bj.Q H0 Ri R0 jW iU jX oU oV oW r):=by
 obtain ⟨w0,s0,an5⟩:=h0
 subst an4
 unfold bj.pj2 at hp
 unfold bj.j2
 exact hC7 rfl ⟨w0,s0,an5⟩ hp
def bj.pl7 (F:Nat) :Nat->List Int->Int->Int->Int->Int->Option (List Int)
 | 0,_,_,_,_,_=>none
 | k+1,fd,dA,jp,jq,gE=>(bif (decide (gE<jq)) then ((ix fd gE).bind λn1=>(bif ((gt fd n1)==dA) then ((ix fd gE).bind λn2=>(some (fd.set n2 jp)).bind λl3=>bj.pj2 F (bj.pl7 F k) l3 dA jp jq gE) else (bj.pj2 F (bj.pl7 F k) fd dA jp jq gE))) else (some fd))
theorem bj.l7_P {jW iU jX oU oV oW} :∀ k,bj.S7 H0 Ri R0 jW iU jX oU oV oW (bj.l7 F   k) (bj.pl7 F  k):=by
 intro k
 induction k with
 | zero=>unfold bj.S7;intros;rename_i hp;cases hp
 | succ k ih=>
  intro fd PO dA jp jq gE H PP h0 r hp
  obtain ⟨w0,s0,oX⟩:=h0
  subst PP
  unfold bj.pl7 at hp
  unfold bj.l7
  refine ay hp (λhp=>?_) λhp=>?_
  ·obtain ⟨n1,g1,hp⟩:=ag hp
   obtain ⟨p1,q1,i1,h1,j1⟩:=W.ixo (E:=eI) w0 (i:=0) rfl rfl oX g1
   refine ai i1 ?_
   have h1:_=[_]:=h1
   subst h1
   refine ai (aG (j1 0 _ rfl)) ?_
   refine ay hp (λhp=>?_) λhp=>?_
   ·obtain ⟨n2,g2,hp⟩:=ag hp
    obtain ⟨p2,q2,i2,h2,j2⟩:=W.ixo (E:=eI) w0 (i:=0) rfl rfl oX g2
    refine ai i2 ?_
    obtain ⟨l3,e3,hp⟩:=ag hp
    refine dC eI w0 (i:=0) (j:=0) (p:=p2) rfl rfl oX g2 i2 e3 rfl rfl (λ_ h=>by have h:_=[_]:=h;subst h;exact rfl) λH4 k4 w4 s4 c4=>?_
    exact bj.j2_P (@ih) ((cz e3).symm) ⟨w4,(s0.trans s4),c4⟩ hp
   ·exact bj.j2_P (@ih) rfl ⟨w0,s0,oX⟩ hp
  ·exact az hp ⟨_,rfl,rfl,w0,s0,oX⟩
def bj.p (F:Nat) (ah:as6) (aA:Int) (cL:Int):Option (List Int):=(ix ah cL).bind λn1=>(ix ah aA).bind λn2=>bj.pl7 F F ah (gt ah n1) (gt ah n2) (ah.length:Int) 0
theorem bj.P {aB ak aC ah zw zx zy PQ aA cL} (ba:ak=ah.length) (h0:Inn H (Rs.ow zw ⟨aB,ak,aC⟩ eI.z zx PQ zy::R0) λR=>CR eI H R PQ ah) {r:as6} (hp:bj.p F ah aA cL=some r):Rt (bj.tw F ⟨aB,ak,aC⟩ aA cL H) (bj.Q H (Rs.ow zw ⟨aB,ak,aC⟩ eI.z zx PQ zy::R0) R0 aB ak aC zw zx zy r):=by
 obtain ⟨w0,aO⟩:=h0
 subst ba
 unfold bj.p at hp
 unfold bj.tw bj.twX
 have s0:=w0.rf
 obtain ⟨n1,g1,hp⟩:=ag hp
 obtain ⟨p1,q1,i1,h1,j1⟩:=W.ixo (E:=eI) w0 (i:=0) rfl rfl aO g1
 refine ai i1 ?_
 have h1:_=[_]:=h1
 subst h1
 refine ai (aG (j1 0 _ rfl)) ?_
 obtain ⟨n2,g2,hp⟩:=ag hp
 obtain ⟨p2,q2,i2,h2,j2⟩:=W.ixo (E:=eI) w0 (i:=0) rfl rfl aO g2
 refine ai i2 ?_
 have h2:_=[_]:=h2
 subst h2
 refine ai (aG (j2 0 _ rfl)) ?_
 exact bj.l7_P F rfl ⟨w0,s0,aO⟩ hp
def cS.Q (H0:Hp) (Ri R0:as3)  (r:as6) (v:AV) (H':Hp):Prop:=∃ o0a:ON,∃ o0n:Nat,∃ o0c:Cap,∃ o0k:List AV,v=(.sl ⟨o0a,o0n,o0c⟩)/\o0n=(r).length/\Out H0 Ri H' (Rs.own ⟨o0a,o0n,o0c⟩ eI.z o0k::R0) λR=>CR eI H' R o0k (r)
def cS.p (F:Nat) (ah:as6):Option (List Int):=(if ah.length<=4294967296/\wfs ah=true then some (kd ah) else none)
theorem cS.P {aB ak aC ah} (ba:ak=ah.length) (h0:Inn H R0 λR=>ROs eI H R ⟨aB,ak,aC⟩ ah) {r:as6} (hp:cS.p F ah=some r):Rt (cS.tw F ⟨aB,ak,aC⟩ H) (cS.Q H R0 R0  r):=by
 obtain ⟨w0,f0⟩:=h0
 subst ba
 unfold cS.p at hp
 unfold cS.tw Ar
 have s0:=w0.rf
 obtain ⟨hc,hp⟩:=fW hp
 have hp:=Option.some.inj hp
 obtain ⟨xs,hx,cx⟩:=f0.row rfl
 refine ai hx ?_
 obtain rfl:=cx.ints_eq
 refine ai (afL _) ?_
 refine eK hc ?_
 by_cases hz:ah.length=0
 ·rw [if_pos hz]
  obtain ⟨w1,s1⟩:=w0.nilS eI.z (by decide)
  obtain rfl:r=[]:=List.length_eq_zero_iff.1 (by rw [<- hp,Un,hz])
  exact ⟨_,_,rfl,none,0,.ex 0,[],rfl,rfl,w1,s0.trans s1,CR.empty⟩
 ·rw [if_neg hz]
  obtain ⟨H2,e2,w2,s2⟩:=w0.newF ((kd ah).map (AV.int .i64)) ah.length eI.z (by rw [List.length_map,Un];exact (Nat.mul_one _).symm) (by decide)
  subst e2
  subst hp
  exact ⟨_,_,rfl,some (_,0),_,.full 1,_,rfl,(Un _).symm,w2,s0.trans s2,CR.ints _ _ _ _⟩
def bP.Q (H0:Hp) (Ri R0:as3)  (r:as6) (v:AV) (H':Hp):Prop:=∃ o0a:ON,∃ o0n:Nat,∃ o0c:Cap,∃ o0k:List AV,v=(.sl ⟨o0a,o0n,o0c⟩)/\o0n=(r).length/\Out H0 Ri H' (Rs.own ⟨o0a,o0n,o0c⟩ eI.z o0k::R0) λR=>CR eI H' R o0k (r)
def bP.S29 (H0:Hp) (Ri R0:as3)  (C:atW) (pC:List (Int×Int)->List (Int×Int)->List Int->Int->Int->Option (List Int)):Prop:=∀ {Fy PR rj zB Fz oa nr FA PU rm oY oZ iC rn kC ik},∀ {H:Hp},zB=oY.length->Fz=oZ.length->nr=iC.length->(Out H0 Ri H (Rs.blk oa [.sl ⟨Fy,zB,FA⟩,.sl ⟨PR,Fz,PU⟩]::Rs.own ⟨rj,nr,rm⟩ eI.z rn::R0) λR=>ROs (ac eI eI) H R ⟨Fy,zB,FA⟩ oY/\ROs (ac eI eI) H R ⟨PR,Fz,PU⟩ oZ/\CR eI H R rn iC)->∀ {r:as6},pC oY oZ iC kC ik=some r->Rt (C oa 0 ⟨rj,nr,rm⟩ ⟨Fy,zB,FA⟩ kC ik H) (bP.Q H0 Ri R0  r)
def bP.pl29 (F:Nat) :Nat->List (Int×Int)->List (Int×Int)->List Int->Int->Int->Option (List Int)
 | 0,_,_,_,_,_=>none
 | k+1,oY,oZ,iC,kC,ik=>(bif (decide (ik<kC)) then ((ix oY ik).bind λn1=>(ix oZ ik).bind λn5=>(bj.p F iC ((gt oY n1).1) ((gt oZ n5).1)).bind λr7=>bP.pl29 F k oY oZ r7 kC (wrap .i64 (ik+1))) else ((cS.p F iC).bind λr12=>some r12))
theorem bP.l29_P  :∀ k,bP.S29 H0 Ri R0  (bP.l29 F (cM.tw F) (bT.tw F) (bj.tw F) (cS.tw F)  k) (bP.pl29 F  k):=by
 intro k
 induction k with
 | zero=>unfold bP.S29;intros;rename_i hp;cases hp
 | succ k ih=>
  intro Fy PR rj zB Fz oa nr FA PU rm oY oZ iC rn kC ik H an6 an7 PW h0 r hp
  obtain ⟨w0,s0,ab5,ab6,zC⟩:=h0
  subst an6
  subst an7
  subst PW
  unfold bP.pl29 at hp
  unfold bP.l29
  refine ay hp (λhp=>?_) λhp=>?_
  ·obtain ⟨n1,g1,hp⟩:=ag hp
   obtain ⟨p1,q1,i1,h1,j1⟩:=ROs.ixr ab5 rfl g1
   refine ai i1 ?_
   obtain ⟨_,_,rfl,rfl,rfl⟩:=h1
   refine ai (aG (j1 0 _ rfl)) ?_
   refine ai (aG (j1 1 _ rfl)) ?_
   refine aS w0 λH2 w2 s2=>?_
   refine aq w2 0 λH3 w3 s3=>?_
   refine aq w3 0 λH4 w4 s4=>?_
   refine lI w4 0 ?_
   refine lSl w4 1 ?_
   obtain ⟨n5,g5,hp⟩:=ag hp
   obtain ⟨p5,q5,i5,h5,j5⟩:=ROs.ixr (ab6.step (s2.trans (s3.trans s4))) rfl g5
   refine ai i5 ?_
   obtain ⟨_,_,rfl,rfl,rfl⟩:=h5
   refine ai (aG (j5 0 _ rfl)) ?_
   obtain ⟨w6,s6⟩:=w4.pp [2,0,1] 3
   obtain ⟨r7,e7,hp⟩:=ag hp
   refine aE (bj.P rfl ⟨w6,(zC.step (s2.trans (s3.trans (s4.trans s6))))⟩ e7) ?_
   rintro _ H8 ⟨asw,rfl,hl8_0,w8,s8,f8_0⟩
   obtain ⟨w9,s9⟩:=w8.pp [2,0] 3
   exact ih rfl rfl hl8_0 ⟨w9,(s0.trans (s2.trans (s3.trans (s4.trans (s6.trans (s8.trans s9)))))),(ab5.step (s2.trans (s3.trans (s4.trans (s6.trans (s8.trans s9)))))),(ab6.step (s2.trans (s3.trans (s4.trans (s6.trans (s8.trans s9)))))),(f8_0.step s9)⟩ hp
  ·obtain ⟨w10,s10⟩:=w0.pp [1,0] 2
   have f11:=W.borrow1 eI w10 (zC.step s10)
   obtain ⟨w11,s11⟩:=w10.right1
   obtain ⟨r12,e12,hp⟩:=ag hp
   refine aE (cS.P rfl ⟨w11,f11⟩ e12) ?_
   rintro _ H13 ⟨o0a_13,o0n_13,o0c_13,o0k_13,rfl,rfl,w13,s13,f13_0⟩
   obtain ⟨w14,s14⟩:=W.frame1 w10 w13 s13
   refine br ?_
   obtain ⟨w15,s15⟩:=w14.pp [1] 3
   exact az hp ⟨_,_,_,_,rfl,rfl,w15,(s0.trans (s10.trans (s14.trans s15))),((CR.flat (fA .i64) f13_0).step s15)⟩
def bP.p (F:Nat) (ah:atb) (ey:ato) (bz:ato):Option (List Int):=(cM.p F ah).bind λr3=>(bT.p F r3).bind λr5=>bP.pl29 F F ey bz r5 (ey.length:Int) 0
theorem bP.P {aB lF ev ak iB dg aC lG ew ah af ey bz} (ba:ak=ah.length) (ra:iB=ey.length) (gM:dg=bz.length) (h0:Inn H R0 λR=>ROs (ac eI (ac eI (ac eI (ac eI eI)))) H R ⟨aB,ak,aC⟩ ah/\ROs (ac eI eI) H R ⟨lF,iB,lG⟩ ey/\ROs (ac eI eI) H R ⟨ev,dg,ew⟩ bz) {r:as6} (hp:bP.p F ah ey bz=some r):Rt (bP.tw F ⟨aB,ak,aC⟩ af ⟨lF,iB,lG⟩ ⟨ev,dg,ew⟩ H) (bP.Q H R0 R0  r):=by
 obtain ⟨w0,aO,rb,fc⟩:=h0
 subst ba
 subst ra
 subst gM
 unfold bP.p at hp
 unfold bP.tw bP.twX
 have s0:=w0.rf
 refine aS w0 λH1 w1 s1=>?_
 refine aS w1 λH2 w2 s2=>?_
 refine lSl w2 1 ?_
 obtain ⟨r3,e3,hp⟩:=ag hp
 refine aE (cM.P rfl ⟨w2,(aO.step (s1.trans s2))⟩ e3) ?_
 rintro _ H4 ⟨rfl,w4,s4,_⟩
 refine br ?_
 obtain ⟨r5,e5,hp⟩:=ag hp
 refine aE (bT.P ⟨w4,trivial⟩ e5) ?_
 rintro _ H6 ⟨o0a_6,o0n_6,o0c_6,o0k_6,rfl,rfl,w6,s6,f6_0⟩
 refine br ?_
 refine lSl w6 1 ?_
 obtain ⟨w7,s7⟩:=w6.pp [1,0] 3
 exact bP.l29_P F rfl rfl rfl ⟨w7,(s0.trans (s1.trans (s2.trans (s4.trans (s6.trans s7))))),(rb.step (s1.trans (s2.trans (s4.trans (s6.trans s7))))),(fc.step (s1.trans (s2.trans (s4.trans (s6.trans s7))))),(f6_0.step s7)⟩ hp
def bN.Q (H0:Hp) (Ri R0:as3)  (r:Int) (v:AV) (H':Hp):Prop:=v=(.i r)/\Out H0 Ri H' (R0) λR=>True
def bN.S61 (H0:Hp) (Ri R0:as3)  (C:ate) (pC:aum):Prop:=∀ {PX FB PY fd ga gb},∀ {H:Hp},FB=fd.length->(Out H0 Ri H R0 λR=>ROs eI H R ⟨PX,FB,PY⟩ fd)->∀ {r:Int},pC fd ga gb=some r->Rt (C ⟨PX,FB,PY⟩ ga gb H) (bN.Q H0 Ri R0  r)
def bN.pl61 (F:Nat) :Nat->List Int->Int->Int->Option (Int)
 | 0,_,_,_=>none
 | k+1,fd,ga,gb=>(bif (decide (gb<(fd.length:Int))) then ((ix fd gb).bind λn1=>bN.pl61 F k fd (if (gt fd n1)>ga then (gt fd n1) else ga) (wrap .i64 (gb+1))) else (some ga))
theorem bN.l61_P  :∀ k,bN.S61 H0 Ri R0  (bN.l61 F   k) (bN.pl61 F  k):=by
 intro k
 induction k with
 | zero=>unfold bN.S61;intros;rename_i hp;cases hp
 | succ k ih=>
  intro PX FB PY fd ga gb H PP h0 r hp
  obtain ⟨w0,s0,oX⟩:=h0
  subst PP
  unfold bN.pl61 at hp
  unfold bN.l61
  refine ay hp (λhp=>?_) λhp=>?_
  ·obtain ⟨n1,g1,hp⟩:=ag hp
   obtain ⟨p1,q1,i1,h1,j1⟩:=ROs.ixr oX rfl g1
   refine ai i1 ?_
   have h1:_=[_]:=h1
   subst h1
   refine ai (aG (j1 0 _ rfl)) ?_
   exact ih rfl ⟨w0,s0,oX⟩ hp
  ·exact az hp ⟨rfl,w0,s0,trivial⟩
def bN.pj1 (F:Nat)  (rp:as6):Option (Int):=(ix rp 0).bind λn1=>bN.pl61 F F rp (gt rp n1) 1
theorem bN.j1_P   {ab7 PZ ab8 rp} (an8:PZ=rp.length) (h0:Out H0 Ri H R0 λR=>ROs eI H R ⟨ab7,PZ,ab8⟩ rp) {r:Int} (hp:bN.pj1 F  rp=some r):Rt (bN.j1 F   ⟨ab7,PZ,ab8⟩ H) (bN.Q H0 Ri R0  r):=by
 obtain ⟨w0,s0,ab9⟩:=h0
 subst an8
 unfold bN.pj1 at hp
 unfold bN.j1
 obtain ⟨n1,g1,hp⟩:=ag hp
 obtain ⟨p1,q1,i1,h1,j1⟩:=ROs.ixr ab9 rfl g1
 refine ai i1 ?_
 have h1:_=[_]:=h1
 subst h1
 refine ai (aG (j1 0 _ rfl)) ?_
 exact bN.l61_P F rfl ⟨w0,s0,ab9⟩ hp
def bN.p (F:Nat) (ah:as6):Option (Int):=(bif (decide ((ah.length:Int)<1)) then (none) else (bN.pj1 F ah))
theorem bN.P {aB ak aC ah} (ba:ak=ah.length) (h0:Inn H R0 λR=>ROs eI H R ⟨aB,ak,aC⟩ ah) {r:Int} (hp:bN.p F ah=some r):Rt (bN.tw F ⟨aB,ak,aC⟩ H) (bN.Q H R0 R0  r):=by
 obtain ⟨w0,aO⟩:=h0
 subst ba
 unfold bN.p at hp
 unfold bN.tw bN.twX
 have s0:=w0.rf
 refine ay hp (λhp=>?_) λhp=>?_
 ·cases hp
 ·exact bN.j1_P rfl ⟨w0,s0,aO⟩ hp
def dq.Q (H0:Hp) (Ri R0:as3)  (r:Int) (v:AV) (H':Hp):Prop:=v=(.i r)/\Out H0 Ri H' (R0) λR=>True
def dq.p (F:Nat) (ah:as6):Option (Int):=(bif ((ah.length:Int)==0) then (some 0) else ((bN.p F ah).bind λr1=>some (wrap .i64 (r1+1))))
theorem dq.P {aB ak aC ah} (ba:ak=ah.length) (h0:Inn H R0 λR=>ROs eI H R ⟨aB,ak,aC⟩ ah) {r:Int} (hp:dq.p F ah=some r):Rt (dq.tw F ⟨aB,ak,aC⟩ H) (dq.Q H R0 R0  r):=by
 obtain ⟨w0,aO⟩:=h0
 subst ba
 unfold dq.p at hp
 unfold dq.tw dq.twX
 have s0:=w0.rf
 refine ay hp (λhp=>?_) λhp=>?_
 ·exact az hp ⟨rfl,w0,s0,trivial⟩
 ·obtain ⟨r1,e1,hp⟩:=ag hp
  refine aE (bN.P rfl ⟨w0,aO⟩ e1) ?_
  rintro _ H2 ⟨rfl,w2,s2,_⟩
  refine br ?_
  exact az hp ⟨rfl,w2,(s0.trans s2),trivial⟩
def db.Q (H0:Hp) (Ri R0:as3)  (r:(List (Int×Int))×(List (Int×Int))×Bool) (v:AV) (H':Hp):Prop:=∃ o0a:ON,∃ o0n:Nat,∃ o0c:Cap,∃ o1a:ON,∃ o1n:Nat,∃ o1c:Cap,v=(.tup [(.agg [(.sl ⟨o0a,o0n,o0c⟩),(.sl ⟨o1a,o1n,o1c⟩)]),(.bool r.2.2)])/\o0n=(r.1).length/\o1n=(r.2.1).length/\Out H0 Ri H' (R0) λR=>ROs (ac eI eI) H' R ⟨o0a,o0n,o0c⟩ (r.1)/\ROs (ac eI eI) H' R ⟨o1a,o1n,o1c⟩ (r.2.1)
def db.p (F:Nat) (ah:atb) (af:Int):Option ((List (Int×Int))×(List (Int×Int))×Bool):=(cM.p F ah).bind λr3=>(bif (decide (r3>10)) then (some (([]:List (Int×Int)),([]:List (Int×Int)),false)) else ((dw.p F af 0 8).bind λr12=>(bif (!r12) then (some (([]:List (Int×Int)),([]:List (Int×Int)),false)) else ((eD.p F ah).bind λr21=>(bif r21 then (some (([]:List (Int×Int)),([]:List (Int×Int)),false)) else ((bf.p F ah).bind λr30=>(bif (!r30.2.2) then (some (([]:List (Int×Int)),([]:List (Int×Int)),false)) else ((aL.p F ah r30.1 r30.2.1).bind λr44=>(fR.p F r44).bind λr48=>(bP.p F ah r30.1 r30.2.1).bind λr52=>(dq.p F r52).bind λr55=>(bif (r48 != (wrap .i64 (r3+(wrap .i64 (2 * r55))))) then (some (([]:List (Int×Int)),([]:List (Int×Int)),false)) else (some (r30.1,r30.2.1,true)))))))))))
theorem db.P {aB ak aC ah af} (ba:ak=ah.length) (h0:Inn H R0 λR=>ROs (ac eI (ac eI (ac eI (ac eI eI)))) H R ⟨aB,ak,aC⟩ ah) {r:(List (Int×Int))×(List (Int×Int))×Bool} (hp:db.p F ah af=some r):Rt (db.tw F ⟨aB,ak,aC⟩ af H) (db.Q H R0 R0  r):=by
 obtain ⟨w0,aO⟩:=h0
 subst ba
 unfold db.p at hp
 unfold db.tw db.twX
 have s0:=w0.rf
 refine aS w0 λH1 w1 s1=>?_
 refine aS w1 λH2 w2 s2=>?_
 refine lSl w2 1 ?_
 obtain ⟨r3,e3,hp⟩:=ag hp
 refine aE (cM.P rfl ⟨w2,(aO.step (s1.trans s2))⟩ e3) ?_
 rintro _ H4 ⟨rfl,w4,s4,_⟩
 refine br ?_
 refine ay hp (λhp=>?_) λhp=>?_
 ·refine aq w4 0 λH5 w5 s5=>?_
  refine aq w5 0 λH6 w6 s6=>?_
  refine lSl w6 0 ?_
  refine lSl w6 0 ?_
  obtain ⟨w7,s7⟩:=w6.nilS (ac eI eI).z (by decide)
  obtain ⟨w8,s8⟩:=w7.nilS (ac eI eI).z (by decide)
  obtain ⟨w9,s9,f9⟩:=w8.frz (i:=1) (ac eI eI) rfl ((CR.empty:CR (ac eI eI) _ _ [] []).step s8)
  obtain ⟨w10,s10,f10⟩:=w9.frz (i:=0) (ac eI eI) rfl ((CR.empty:CR (ac eI eI) _ _ [] []).step s9)
  obtain ⟨w11,s11⟩:=w10.pp [] 2
  exact az hp ⟨_,_,_,_,_,_,rfl,rfl,rfl,w11,(s0.trans (s1.trans (s2.trans (s4.trans (s5.trans (s6.trans (s7.trans (s8.trans (s9.trans (s10.trans s11)))))))))),(f9.step (s10.trans s11)),(f10.step s11)⟩
 ·refine lI w4 1 ?_
  obtain ⟨r12,e12,hp⟩:=ag hp
  refine aE (dw.P ⟨w4,trivial⟩ e12) ?_
  rintro _ H13 ⟨rfl,w13,s13,_⟩
  refine br ?_
  refine ay hp (λhp=>?_) λhp=>?_
  ·refine aq w13 0 λH14 w14 s14=>?_
   refine aq w14 0 λH15 w15 s15=>?_
   refine lSl w15 0 ?_
   refine lSl w15 0 ?_
   obtain ⟨w16,s16⟩:=w15.nilS (ac eI eI).z (by decide)
   obtain ⟨w17,s17⟩:=w16.nilS (ac eI eI).z (by decide)
   obtain ⟨w18,s18,f18⟩:=w17.frz (i:=1) (ac eI eI) rfl ((CR.empty:CR (ac eI eI) _ _ [] []).step s17)
   obtain ⟨w19,s19,f19⟩:=w18.frz (i:=0) (ac eI eI) rfl ((CR.empty:CR (ac eI eI) _ _ [] []).step s18)
   obtain ⟨w20,s20⟩:=w19.pp [] 2
   exact az hp ⟨_,_,_,_,_,_,rfl,rfl,rfl,w20,(s0.trans (s1.trans (s2.trans (s4.trans (s13.trans (s14.trans (s15.trans (s16.trans (s17.trans (s18.trans (s19.trans s20))))))))))),(f18.step (s19.trans s20)),(f19.step s20)⟩
  ·refine lSl w13 1 ?_
   obtain ⟨r21,e21,hp⟩:=ag hp
   refine aE (eD.P rfl ⟨w13,(aO.step (s1.trans (s2.trans (s4.trans s13))))⟩ e21) ?_
   rintro _ H22 ⟨rfl,w22,s22,_⟩
   refine br ?_
   refine ay hp (λhp=>?_) λhp=>?_
   ·refine aq w22 0 λH23 w23 s23=>?_
    refine aq w23 0 λH24 w24 s24=>?_
    refine lSl w24 0 ?_
    refine lSl w24 0 ?_
    obtain ⟨w25,s25⟩:=w24.nilS (ac eI eI).z (by decide)
    obtain ⟨w26,s26⟩:=w25.nilS (ac eI eI).z (by decide)
    obtain ⟨w27,s27,f27⟩:=w26.frz (i:=1) (ac eI eI) rfl ((CR.empty:CR (ac eI eI) _ _ [] []).step s26)
    obtain ⟨w28,s28,f28⟩:=w27.frz (i:=0) (ac eI eI) rfl ((CR.empty:CR (ac eI eI) _ _ [] []).step s27)
    obtain ⟨w29,s29⟩:=w28.pp [] 2
    exact az hp ⟨_,_,_,_,_,_,rfl,rfl,rfl,w29,(s0.trans (s1.trans (s2.trans (s4.trans (s13.trans (s22.trans (s23.trans (s24.trans (s25.trans (s26.trans (s27.trans (s28.trans s29)))))))))))),(f27.step (s28.trans s29)),(f28.step s29)⟩
   ·refine lSl w22 1 ?_
    refine lI w22 1 ?_
    obtain ⟨r30,e30,hp⟩:=ag hp
    refine aE (bf.P rfl ⟨w22,(aO.step (s1.trans (s2.trans (s4.trans (s13.trans s22)))))⟩ e30) ?_
    rintro _ H31 ⟨o0a_31,o0n_31,o0c_31,o0k_31,o1a_31,o1n_31,o1c_31,o1k_31,rfl,rfl,rfl,w31,s31,f31_0,f31_1⟩
    refine br (br (br (br (br (br (br (br (br ?_))))))))
    refine aS w31 λH32 w32 s32=>?_
    refine aq w32 0 λH33 w33 s33=>?_
    refine aq w33 0 λH34 w34 s34=>?_
    refine ay hp (λhp=>?_) λhp=>?_
    ·refine aq w34 3 λH35 w35 s35=>?_
     refine aq w35 3 λH36 w36 s36=>?_
     refine lSl w36 3 ?_
     refine lSl w36 3 ?_
     obtain ⟨w37,s37⟩:=w36.nilS (ac eI eI).z (by decide)
     obtain ⟨w38,s38⟩:=w37.nilS (ac eI eI).z (by decide)
     obtain ⟨w39,s39,f39⟩:=w38.frz (i:=1) (ac eI eI) rfl ((CR.empty:CR (ac eI eI) _ _ [] []).step s38)
     obtain ⟨w40,s40,f40⟩:=w39.frz (i:=0) (ac eI eI) rfl ((CR.empty:CR (ac eI eI) _ _ [] []).step s39)
     obtain ⟨w41,s41⟩:=w40.pp [] 5
     exact az hp ⟨_,_,_,_,_,_,rfl,rfl,rfl,w41,(s0.trans (s1.trans (s2.trans (s4.trans (s13.trans (s22.trans (s31.trans (s32.trans (s33.trans (s34.trans (s35.trans (s36.trans (s37.trans (s38.trans (s39.trans (s40.trans s41)))))))))))))))),(f39.step (s40.trans s41)),(f40.step s41)⟩
    ·refine lSl w34 4 ?_
     refine lI w34 4 ?_
     refine lSl w34 0 ?_
     refine lSl w34 0 ?_
     obtain ⟨w42,s42,f42⟩:=w34.frz (i:=1) (ac eI eI) rfl (f31_0.step (s32.trans (s33.trans s34)))
     obtain ⟨w43,s43,f43⟩:=w42.frz (i:=1) (ac eI eI) rfl (f31_1.step (s32.trans (s33.trans (s34.trans s42))))
     obtain ⟨r44,e44,hp⟩:=ag hp
     refine aE (aL.P rfl rfl rfl ⟨w43,(aO.step (s1.trans (s2.trans (s4.trans (s13.trans (s22.trans (s31.trans (s32.trans (s33.trans (s34.trans (s42.trans s43))))))))))),(f42.step s43),f43⟩ e44) ?_
     rintro _ H45 ⟨o0a_45,o0n_45,o0c_45,o0k_45,rfl,rfl,w45,s45,f45_0⟩
     refine br ?_
     refine eK (aZ.tr (aZ.refl _) s42 (aZ.tr (aZ.refl _) s43 (W.cons_of (Rn:=[_]) w43 w45 s45))) ?_
     have f47:=W.borrow1 (eSl eI) w45 f45_0
     obtain ⟨w47,s47⟩:=w45.right1
     obtain ⟨r48,e48,hp⟩:=ag hp
     refine aE (fR.P rfl ⟨w47,f47⟩ e48) ?_
     rintro _ H49 ⟨rfl,w49,s49,_⟩
     obtain ⟨w50,s50⟩:=W.frame1 w45 w49 s49
     refine br ?_
     refine eK (W.cons_of (Rn:=[]) w47 w49 s49) ?_
     refine lSl w50 3 ?_
     refine lI w50 3 ?_
     refine lSl w50 1 ?_
     refine lSl w50 1 ?_
     obtain ⟨r52,e52,hp⟩:=ag hp
     refine aE (bP.P rfl rfl rfl ⟨w50,(aO.step (s1.trans (s2.trans (s4.trans (s13.trans (s22.trans (s31.trans (s32.trans (s33.trans (s34.trans (s42.trans (s43.trans (s45.trans s50))))))))))))),(f42.step (s43.trans (s45.trans s50))),(f43.step (s45.trans s50))⟩ e52) ?_
     rintro _ H53 ⟨o0a_53,o0n_53,o0c_53,o0k_53,rfl,rfl,w53,s53,f53_0⟩
     refine br ?_
     have f54:=W.borrow1 eI w53 f53_0
     obtain ⟨w54,s54⟩:=w53.right1
     obtain ⟨r55,e55,hp⟩:=ag hp
     refine aE (dq.P rfl ⟨w54,f54⟩ e55) ?_
     rintro _ H56 ⟨rfl,w56,s56,_⟩
     obtain ⟨w57,s57⟩:=W.frame1 w53 w56 s56
     refine br ?_
     refine ay hp (λhp=>?_) λhp=>?_
     ·refine aq w57 3 λH58 w58 s58=>?_
      refine aq w58 3 λH59 w59 s59=>?_
      refine lSl w59 3 ?_
      refine lSl w59 3 ?_
      obtain ⟨w60,s60⟩:=w59.nilS (ac eI eI).z (by decide)
      obtain ⟨w61,s61⟩:=w60.nilS (ac eI eI).z (by decide)
      obtain ⟨w62,s62,f62⟩:=w61.frz (i:=1) (ac eI eI) rfl ((CR.empty:CR (ac eI eI) _ _ [] []).step s61)
      obtain ⟨w63,s63,f63⟩:=w62.frz (i:=0) (ac eI eI) rfl ((CR.empty:CR (ac eI eI) _ _ [] []).step s62)
      obtain ⟨w64,s64⟩:=w63.pp [] 5
      dsimp only [pk,pks,nth,List.drop,List.set,List.eraseIdx] at w64 s33 s34 s42 f42 s43 f43 s58 s59 s60 s61 s62 f62 s63 f63 s64
      exact az hp ⟨_,_,_,_,_,_,rfl,rfl,rfl,w64,(s0.trans (s1.trans (s2.trans (s4.trans (s13.trans (s22.trans (s31.trans (s32.trans (s33.trans (s34.trans (s42.trans (s43.trans (s45.trans (s50.trans (s53.trans (s57.trans (s58.trans (s59.trans (s60.trans (s61.trans (s62.trans (s63.trans s64)))))))))))))))))))))),(f62.step (s63.trans s64)),(f63.step s64)⟩
     ·refine lSl w57 2 ?_
      refine lSl w57 2 ?_
      refine aq w57 3 λH65 w65 s65=>?_
      refine aq w65 3 λH66 w66 s66=>?_
      refine lSl w66 3 ?_
      refine lSl w66 3 ?_
      obtain ⟨w67,s67⟩:=w66.pp [] 5
      exact az hp ⟨_,_,_,_,_,_,rfl,rfl,rfl,w67,(s0.trans (s1.trans (s2.trans (s4.trans (s13.trans (s22.trans (s31.trans (s32.trans (s33.trans (s34.trans (s42.trans (s43.trans (s45.trans (s50.trans (s53.trans (s57.trans (s65.trans (s66.trans s67)))))))))))))))))),(f42.step (s43.trans (s45.trans (s50.trans (s53.trans (s57.trans (s65.trans (s66.trans s67)))))))),(f43.step (s45.trans (s50.trans (s53.trans (s57.trans (s65.trans (s66.trans s67)))))))⟩
def ef.Q (H0:Hp) (Ri R0:as3)  (r:Bool) (v:AV) (H':Hp):Prop:=v=(.bool r)/\Out H0 Ri H' (R0) λR=>True
def ef.p (F:Nat) (ah:atb) (af:Int):Option (Bool):=(db.p F ah af).bind λr2=>some r2.2.2
theorem ef.P {aB ak aC ah af} (ba:ak=ah.length) (h0:Inn H R0 λR=>ROs (ac eI (ac eI (ac eI (ac eI eI)))) H R ⟨aB,ak,aC⟩ ah) {r:Bool} (hp:ef.p F ah af=some r):Rt (ef.tw F ⟨aB,ak,aC⟩ af H) (ef.Q H R0 R0  r):=by
 obtain ⟨w0,aO⟩:=h0
 subst ba
 unfold ef.p at hp
 unfold ef.tw ef.twX
 have s0:=w0.rf
 refine aS w0 λH1 w1 s1=>?_
 refine lSl w1 0 ?_
 refine lI w1 0 ?_
 obtain ⟨r2,e2,hp⟩:=ag hp
 refine aE (db.P rfl ⟨w1,(aO.step s1)⟩ e2) ?_
 rintro _ H3 ⟨o0a_3,o0n_3,o0c_3,o1a_3,o1n_3,o1c_3,rfl,rfl,rfl,w3,s3,f3_0,f3_1⟩
 refine br (br (br (br (br (br (br (br (br ?_))))))))
 refine aS w3 λH4 w4 s4=>?_
 refine aq w4 0 λH5 w5 s5=>?_
 refine aq w5 0 λH6 w6 s6=>?_
 obtain ⟨w7,s7⟩:=w6.pp [] 2
 exact az hp ⟨rfl,w7,(s0.trans (s1.trans (s3.trans (s4.trans (s5.trans (s6.trans s7)))))),trivial⟩
def fS.Q (H0:Hp) (Ri R0:as3)  (r:Bool) (v:AV) (H':Hp):Prop:=v=(.bool r)/\Out H0 Ri H' (R0) λR=>True
def fS.p (F:Nat) (ah:atb) (af:Int):Option (Bool):=(bif ((ah.length:Int)==0) then (some (af==0)) else (some false))
theorem fS.P {aB ak aC ah af} (ba:ak=ah.length) (h0:Inn H R0 λR=>ROs (ac eI (ac eI (ac eI (ac eI eI)))) H R ⟨aB,ak,aC⟩ ah) {r:Bool} (hp:fS.p F ah af=some r):Rt (fS.tw F ⟨aB,ak,aC⟩ af H) (fS.Q H R0 R0  r):=by
 obtain ⟨w0,aO⟩:=h0
 subst ba
 unfold fS.p at hp
 unfold fS.tw fS.twX
 have s0:=w0.rf
 refine aS w0 λH1 w1 s1=>?_
 refine lSl w1 0 ?_
 refine ay hp (λhp=>?_) λhp=>?_
 ·refine lI w1 0 ?_
  obtain ⟨w2,s2⟩:=w1.pp [] 1
  exact az hp ⟨rfl,w2,(s0.trans (s1.trans s2)),trivial⟩
 ·obtain ⟨w3,s3⟩:=w1.pp [] 1
  exact az hp ⟨rfl,w3,(s0.trans (s1.trans s3)),trivial⟩
def eL.Q (H0:Hp) (Ri R0:as3)  (r:Int) (v:AV) (H':Hp):Prop:=v=(.i r)/\Out H0 Ri H' (R0) λR=>True
def eL.p (F:Nat) (ah:atb) (af:Int):Option (Int):=(ef.p F ah af).bind λr2=>(bif (!r2) then (some 1) else ((fS.p F ah af).bind λr5=>(bif r5 then (some 5) else (some 0))))
theorem eL.P {aB ak aC ah af} (ba:ak=ah.length) (h0:Inn H R0 λR=>ROs (ac eI (ac eI (ac eI (ac eI eI)))) H R ⟨aB,ak,aC⟩ ah) {r:Int} (hp:eL.p F ah af=some r):Rt (eL.tw F ⟨aB,ak,aC⟩ af H) (eL.Q H R0 R0  r):=by
 obtain ⟨w0,aO⟩:=h0
 subst ba
 unfold eL.p at hp
 unfold eL.tw eL.twX
 have s0:=w0.rf
 refine aS w0 λH1 w1 s1=>?_
 refine lSl w1 0 ?_
 refine lI w1 0 ?_
 obtain ⟨r2,e2,hp⟩:=ag hp
 refine aE (ef.P rfl ⟨w1,(aO.step s1)⟩ e2) ?_
 rintro _ H3 ⟨rfl,w3,s3,_⟩
 refine br ?_
 refine ay hp (λhp=>?_) λhp=>?_
 ·obtain ⟨w4,s4⟩:=w3.pp [] 1
  exact az hp ⟨rfl,w4,(s0.trans (s1.trans (s3.trans s4))),trivial⟩
 ·refine lSl w3 0 ?_
  refine lI w3 0 ?_
  obtain ⟨r5,e5,hp⟩:=ag hp
  refine aE (fS.P rfl ⟨w3,(aO.step (s1.trans s3))⟩ e5) ?_
  rintro _ H6 ⟨rfl,w6,s6,_⟩
  refine br ?_
  refine ay hp (λhp=>?_) λhp=>?_
  ·obtain ⟨w7,s7⟩:=w6.pp [] 1
   exact az hp ⟨rfl,w7,(s0.trans (s1.trans (s3.trans (s6.trans s7)))),trivial⟩
  ·obtain ⟨w8,s8⟩:=w6.pp [] 1
   exact az hp ⟨rfl,w8,(s0.trans (s1.trans (s3.trans (s6.trans s8)))),trivial⟩
def bg.Q (H0:Hp) (Ri R0:as3)  (r:atn) (v:AV) (H':Hp):Prop:=∃ o0a:ON,∃ o0n:Nat,∃ o0c:Cap,∃ o0k:List AV,v=(.tup [(.sl ⟨o0a,o0n,o0c⟩),(.i r.2)])/\o0n=(r.1).length/\Out H0 Ri H' (Rs.own ⟨o0a,o0n,o0c⟩ eI.z o0k::R0) λR=>CR eI H' R o0k (r.1)
def bg.S29 (H0:Hp) (Ri R0:as3)  (C:atW) (pC:List (Int×Int×Int×Int×Int)->Int->List Int->Int->Int->Option (List Int×Int)):Prop:=∀ {FC P_ zD fb FD FE Qa ns ww kD jr rq Qb},∀ {H:Hp},zD=ns.length->FD=rq.length->(Out H0 Ri H (Rs.blk fb [.sl ⟨FC,zD,FE⟩,.i ww]::Rs.own ⟨P_,FD,Qa⟩ eI.z Qb::R0) λR=>ROs (ac eI (ac eI (ac eI (ac eI eI)))) H R ⟨FC,zD,FE⟩ ns/\CR eI H R Qb rq)->∀ {r:atn},pC ns ww rq kD jr=some r->Rt (C fb 0 ⟨P_,FD,Qa⟩ ⟨FC,zD,FE⟩ kD jr H) (bg.Q H0 Ri R0  r)
def bg.pj1 (F:Nat)  (FG:Int) (zE:as6):Option (List Int×Int):=(cS.p F zE).bind λr3=>(dq.p F r3).bind λr8=>some (r3,(wrap .i64 (r8+FG)))
theorem bg.j1_P   {ab_ aca Qc BQ Qd acb acd ace FG zE acf} (an9:Qc=ace.length) (an_:Qd=zE.length) (h0:Out H0 Ri H (Rs.blk BQ [.sl ⟨ab_,Qc,acb⟩,.i FG]::Rs.own ⟨aca,Qd,acd⟩ eI.z acf::R0) λR=>ROs (ac eI (ac eI (ac eI (ac eI eI)))) H R ⟨ab_,Qc,acb⟩ ace/\CR eI H R acf zE) {r:atn} (hp:bg.pj1 F  FG zE=some r):Rt (bg.j1 F (cM.tw F) (bT.tw F) (bj.tw F) (cS.tw F) (dq.tw F)  BQ 0 ⟨aca,Qd,acd⟩ H) (bg.Q H0 Ri R0  r):=by
 obtain ⟨w0,s0,asx,aoa⟩:=h0
 subst an9
 subst an_
 unfold bg.pj1 at hp
 unfold bg.j1
 obtain ⟨w1,s1⟩:=w0.pp [1,0] 2
 have f2:=W.borrow1 eI w1 (aoa.step s1)
 obtain ⟨w2,s2⟩:=w1.right1
 obtain ⟨r3,e3,hp⟩:=ag hp
 refine aE (cS.P rfl ⟨w2,f2⟩ e3) ?_
 rintro _ H4 ⟨o0a_4,o0n_4,o0c_4,o0k_4,rfl,rfl,w4,s4,f4_0⟩
 obtain ⟨w5,s5⟩:=W.frame1 w1 w4 s4
 refine br ?_
 obtain ⟨w6,s6⟩:=w5.pp [1,0,2] 3
 have f7:=W.borrow1 eI w6 ((CR.flat (fA .i64) f4_0).step s6)
 obtain ⟨w7,s7⟩:=w6.right1
 obtain ⟨r8,e8,hp⟩:=ag hp
 refine aE (dq.P rfl ⟨w7,f7⟩ e8) ?_
 rintro _ H9 ⟨rfl,w9,s9,_⟩
 obtain ⟨w10,s10⟩:=W.frame1 w6 w9 s9
 refine br ?_
 refine eK (aZ.tr (aZ.refl _) s6 (W.cons_of (Rn:=[]) w7 w9 s9)) ?_
 refine lI w10 2 ?_
 obtain ⟨w12,s12⟩:=w10.pp [0] 3
 exact az hp ⟨_,_,_,_,rfl,rfl,w12,(s0.trans (s1.trans (s5.trans (s6.trans (s10.trans s12))))),((CR.flat (fA .i64) f4_0).step (s6.trans (s10.trans s12)))⟩
def bg.pl29 (F:Nat) :Nat->List (Int×Int×Int×Int×Int)->Int->List Int->Int->Int->Option (List Int×Int)
 | 0,_,_,_,_,_=>none
 | k+1,ns,ww,rq,kD,jr=>(bif (decide (jr<kD)) then ((ix ns jr).bind λn1=>(bj.p F rq ((gt ns n1).2.1) ((gt ns n1).2.2.2.1)).bind λr9=>bg.pl29 F k ns ww r9 kD (wrap .i64 (jr+1))) else (bg.pj1 F ww rq))
theorem bg.l29_P  :∀ k,bg.S29 H0 Ri R0  (bg.l29 F (cM.tw F) (bT.tw F) (bj.tw F) (cS.tw F) (dq.tw F)  k) (bg.pl29 F  k):=by
 intro k
 induction k with
 | zero=>unfold bg.S29;intros;rename_i hp;cases hp
 | succ k ih=>
  intro FC P_ zD fb FD FE Qa ns ww kD jr rq Qb H aob aoc h0 r hp
  obtain ⟨w0,s0,Qe,acg⟩:=h0
  subst aob
  subst aoc
  unfold bg.pl29 at hp
  unfold bg.l29
  refine ay hp (λhp=>?_) λhp=>?_
  ·obtain ⟨n1,g1,hp⟩:=ag hp
   obtain ⟨p1,q1,i1,h1,j1⟩:=ROs.ixr Qe rfl g1
   refine ai i1 ?_
   obtain ⟨_,_,rfl,rfl,_,_,rfl,rfl,_,_,rfl,rfl,_,_,rfl,rfl,rfl⟩:=h1
   refine ai (aG (j1 0 _ rfl)) ?_
   refine ai (aG (j1 1 _ rfl)) ?_
   refine ai (aG (j1 2 _ rfl)) ?_
   refine ai (aG (j1 3 _ rfl)) ?_
   refine ai (aG (j1 4 _ rfl)) ?_
   refine aS w0 λH2 w2 s2=>?_
   refine aq w2 0 λH3 w3 s3=>?_
   refine aq w3 0 λH4 w4 s4=>?_
   refine aq w4 0 λH5 w5 s5=>?_
   refine aq w5 0 λH6 w6 s6=>?_
   refine aq w6 0 λH7 w7 s7=>?_
   refine lI w7 0 ?_
   refine lI w7 0 ?_
   obtain ⟨w8,s8⟩:=w7.pp [2,0,1] 3
   obtain ⟨r9,e9,hp⟩:=ag hp
   refine aE (bj.P rfl ⟨w8,(acg.step (s2.trans (s3.trans (s4.trans (s5.trans (s6.trans (s7.trans s8)))))))⟩ e9) ?_
   rintro _ H10 ⟨asy,rfl,hl10_0,w10,s10,f10_0⟩
   obtain ⟨w11,s11⟩:=w10.pp [2,0] 3
   exact ih rfl hl10_0 ⟨w11,(s0.trans (s2.trans (s3.trans (s4.trans (s5.trans (s6.trans (s7.trans (s8.trans (s10.trans s11))))))))),(Qe.step (s2.trans (s3.trans (s4.trans (s5.trans (s6.trans (s7.trans (s8.trans (s10.trans s11))))))))),(f10_0.step s11)⟩ hp
  ·exact bg.j1_P rfl rfl ⟨w0,s0,Qe,acg⟩ hp
def bg.p (F:Nat) (ah:atb) (af:Int):Option (List Int×Int):=(cM.p F ah).bind λr2=>(bT.p F (wrap .i64 (2 * r2))).bind λr4=>bg.pl29 F F ah af r4 (ah.length:Int) 0
theorem bg.P {aB ak aC ah af} (ba:ak=ah.length) (h0:Inn H R0 λR=>ROs (ac eI (ac eI (ac eI (ac eI eI)))) H R ⟨aB,ak,aC⟩ ah) {r:atn} (hp:bg.p F ah af=some r):Rt (bg.tw F ⟨aB,ak,aC⟩ af H) (bg.Q H R0 R0  r):=by
 obtain ⟨w0,aO⟩:=h0
 subst ba
 unfold bg.p at hp
 unfold bg.tw bg.twX
 have s0:=w0.rf
 refine aS w0 λH1 w1 s1=>?_
 refine lSl w1 0 ?_
 obtain ⟨r2,e2,hp⟩:=ag hp
 refine aE (cM.P rfl ⟨w1,(aO.step s1)⟩ e2) ?_
 rintro _ H3 ⟨rfl,w3,s3,_⟩
 refine br ?_
 obtain ⟨r4,e4,hp⟩:=ag hp
 refine aE (bT.P ⟨w3,trivial⟩ e4) ?_
 rintro _ H5 ⟨o0a_5,o0n_5,o0c_5,o0k_5,rfl,rfl,w5,s5,f5_0⟩
 refine br ?_
 refine lSl w5 1 ?_
 obtain ⟨w6,s6⟩:=w5.pp [1,0] 2
 exact bg.l29_P F rfl rfl ⟨w6,(s0.trans (s1.trans (s3.trans (s5.trans s6)))),(aO.step (s1.trans (s3.trans (s5.trans s6)))),(f5_0.step s6)⟩ hp
def bO.Q (H0:Hp) (Ri R0:as3)  (r:atf) (v:AV) (H':Hp):Prop:=∃ o0a:ON,∃ o0n:Nat,∃ o0c:Cap,∃ o0k:List AV,v=(.sl ⟨o0a,o0n,o0c⟩)/\o0n=(r).length/\Out H0 Ri H' (Rs.own ⟨o0a,o0n,o0c⟩ (eSl eI).z o0k::R0) λR=>CR (eSl eI) H' R o0k (r)
def bO.S61 (H0:Hp) (Ri R0:as3)  (C:Sl->Sl->Sl->Int->Int->Hp->OA) (pC:List Int->List (List Int)->List (Int×Int×Int×Int×Int)->Int->Int->Option (List (List Int))):Prop:=∀ {qw Qf Qg ng FH FI qx Qh Qi dk qy Qj rr gk eF js},∀ {H:Hp},ng=dk.length->FH=rr.length->FI=gk.length->(Out H0 Ri H (Rs.own ⟨qw,ng,qx⟩ eI.z qy::Rs.own ⟨Qf,FH,Qh⟩ (eSl eI).z Qj::R0) λR=>CR eI H R qy dk/\CR (eSl eI) H R Qj rr/\ROs (ac eI (ac eI (ac eI (ac eI eI)))) H R ⟨Qg,FI,Qi⟩ gk)->∀ {r:atf},pC dk rr gk eF js=some r->Rt (C ⟨qw,ng,qx⟩ ⟨Qf,FH,Qh⟩ ⟨Qg,FI,Qi⟩ eF js H) (bO.Q H0 Ri R0  r)
def bO.pl61 (F:Nat) :Nat->List Int->List (List Int)->List (Int×Int×Int×Int×Int)->Int->Int->Option (List (List Int))
 | 0,_,_,_,_,_=>none
 | k+1,dk,rr,gk,eF,js=>(bif (decide (js<eF)) then ((ix gk js).bind λn1=>(ix dk ((gt gk n1).1)).bind λn8=>(ix dk ((gt gk n1).2.2.1)).bind λn9=>(ix dk ((gt gk n1).2.1)).bind λn10=>(apn rr ([([(wrap .i64 ((gt dk n9)+1)),(wrap .i64 (((gt gk n1).2.2.2.2) * (wrap .i64 ((gt dk n10)+1)))),(wrap .i64 (0 - (wrap .i64 ((gt dk n8)+1)))),(wrap .i64 ((wrap .i64 (0 - ((gt gk n1).2.2.2.2))) * (wrap .i64 ((gt dk n10)+1))))]:List Int)]:List (List Int))).bind λl14=>bO.pl61 F k dk l14 gk eF (wrap .i64 (js+1))) else (some rr))
theorem bO.l61_P  :∀ k,bO.S61 H0 Ri R0  (bO.l61 F (bg.tw F)  k) (bO.pl61 F  k):=by
 intro k
 induction k with
 | zero=>unfold bO.S61;intros;rename_i hp;cases hp
 | succ k ih=>
  intro qw Qf Qg ng FH FI qx Qh Qi dk qy Qj rr gk eF js H Kf aod aoe h0 r hp
  obtain ⟨w0,s0,oH,ach,aci⟩:=h0
  subst Kf
  subst aod
  subst aoe
  unfold bO.pl61 at hp
  unfold bO.l61
  refine ay hp (λhp=>?_) λhp=>?_
  ·obtain ⟨n1,g1,hp⟩:=ag hp
   obtain ⟨p1,q1,i1,h1,j1⟩:=ROs.ixr aci rfl g1
   refine ai i1 ?_
   obtain ⟨_,_,rfl,rfl,_,_,rfl,rfl,_,_,rfl,rfl,_,_,rfl,rfl,rfl⟩:=h1
   refine ai (aG (j1 0 _ rfl)) ?_
   refine ai (aG (j1 1 _ rfl)) ?_
   refine ai (aG (j1 2 _ rfl)) ?_
   refine ai (aG (j1 3 _ rfl)) ?_
   refine ai (aG (j1 4 _ rfl)) ?_
   refine aS w0 λH2 w2 s2=>?_
   refine aq w2 0 λH3 w3 s3=>?_
   refine aq w3 0 λH4 w4 s4=>?_
   refine aq w4 0 λH5 w5 s5=>?_
   refine aq w5 0 λH6 w6 s6=>?_
   refine aq w6 0 λH7 w7 s7=>?_
   refine lI w7 0 ?_
   obtain ⟨n8,g8,hp⟩:=ag hp
   obtain ⟨p8,q8,i8,h8,j8⟩:=W.ixo (E:=eI) w7 (i:=1) rfl rfl (oH.step (s2.trans (s3.trans (s4.trans (s5.trans (s6.trans s7)))))) g8
   refine ai i8 ?_
   have h8:_=[_]:=h8
   subst h8
   refine ai (aG (j8 0 _ rfl)) ?_
   refine lI w7 0 ?_
   obtain ⟨n9,g9,hp⟩:=ag hp
   obtain ⟨p9,q9,i9,h9,j9⟩:=W.ixo (E:=eI) w7 (i:=1) rfl rfl (oH.step (s2.trans (s3.trans (s4.trans (s5.trans (s6.trans s7)))))) g9
   refine ai i9 ?_
   have h9:_=[_]:=h9
   subst h9
   refine ai (aG (j9 0 _ rfl)) ?_
   refine lI w7 0 ?_
   obtain ⟨n10,g10,hp⟩:=ag hp
   obtain ⟨p10,q10,i10,h10,j10⟩:=W.ixo (E:=eI) w7 (i:=1) rfl rfl (oH.step (s2.trans (s3.trans (s4.trans (s5.trans (s6.trans s7)))))) g10
   refine ai i10 ?_
   have h10:_=[_]:=h10
   subst h10
   refine ai (aG (j10 0 _ rfl)) ?_
   refine lI w7 0 ?_
   refine lI w7 0 ?_
   refine cK eI w7 (n:=4) (l:=([(wrap .i64 ((gt dk n9)+1)),(wrap .i64 (((gt gk n1).2.2.2.2) * (wrap .i64 ((gt dk n10)+1)))),(wrap .i64 (0 - (wrap .i64 ((gt dk n8)+1)))),(wrap .i64 ((wrap .i64 (0 - ((gt gk n1).2.2.2.2))) * (wrap .i64 ((gt dk n10)+1))))]:List Int)) rfl (CR.cons1 rfl (CR.cons1 rfl (CR.cons1 rfl (CR.cons1 rfl CR.empty)))) rfl λH11 w11 s11 c11=>?_
   obtain ⟨w12,s12,f12⟩:=w11.frz (i:=0) eI rfl c11
   refine cK (eSl eI) w12 (n:=1) (l:=([([(wrap .i64 ((gt dk n9)+1)),(wrap .i64 (((gt gk n1).2.2.2.2) * (wrap .i64 ((gt dk n10)+1)))),(wrap .i64 (0 - (wrap .i64 ((gt dk n8)+1)))),(wrap .i64 ((wrap .i64 (0 - ((gt gk n1).2.2.2.2))) * (wrap .i64 ((gt dk n10)+1))))]:List Int)]:List (List Int))) rfl (CR.cons1 ⟨_,rfl,f12⟩ CR.empty) rfl λH13 w13 s13 c13=>?_
   refine ai (w13.rowo (i:=0) rfl) ?_
   obtain ⟨l14,e14,hp⟩:=ag hp
   refine fz (eSl eI) w13 (i:=3) rfl rfl (ach.step (s2.trans (s3.trans (s4.trans (s5.trans (s6.trans (s7.trans (s11.trans (s12.trans s13))))))))) c13 (show 1=List.length ([([(wrap .i64 ((gt dk n9)+1)),(wrap .i64 (((gt gk n1).2.2.2.2) * (wrap .i64 ((gt dk n10)+1)))),(wrap .i64 (0 - (wrap .i64 ((gt dk n8)+1)))),(wrap .i64 ((wrap .i64 (0 - ((gt gk n1).2.2.2.2))) * (wrap .i64 ((gt dk n10)+1))))]:List Int)]:List (List Int)) from rfl) rfl e14 λa15 d15 H15 w15 s15 c15 x15=>?_
   obtain ⟨w16,s16⟩:=w15.pp [2,3] 4
   exact ih rfl rfl rfl ⟨w16,(s0.trans (s2.trans (s3.trans (s4.trans (s5.trans (s6.trans (s7.trans (s11.trans (s12.trans (s13.trans (s15.trans s16))))))))))),(oH.step (s2.trans (s3.trans (s4.trans (s5.trans (s6.trans (s7.trans (s11.trans (s12.trans (s13.trans (s15.trans s16))))))))))),(c15.step s16),(aci.step (s2.trans (s3.trans (s4.trans (s5.trans (s6.trans (s7.trans (s11.trans (s12.trans (s13.trans (s15.trans s16)))))))))))⟩ hp
  ·obtain ⟨w17,s17⟩:=w0.pp [1] 2
   exact az hp ⟨_,_,_,_,rfl,rfl,w17,(s0.trans s17),(ach.step s17)⟩
def bO.p (F:Nat) (ah:atb) (af:Int):Option (List (List Int)):=(bg.p F ah af).bind λr2=>bO.pl61 F F r2.1 ([]:List (List Int)) ah (ah.length:Int) 0
theorem bO.P {aB ak aC ah af} (ba:ak=ah.length) (h0:Inn H R0 λR=>ROs (ac eI (ac eI (ac eI (ac eI eI)))) H R ⟨aB,ak,aC⟩ ah) {r:atf} (hp:bO.p F ah af=some r):Rt (bO.tw F ⟨aB,ak,aC⟩ af H) (bO.Q H R0 R0  r):=by
 obtain ⟨w0,aO⟩:=h0
 subst ba
 unfold bO.p at hp
 unfold bO.tw bO.twX
 have s0:=w0.rf
 refine aS w0 λH1 w1 s1=>?_
 refine lSl w1 0 ?_
 refine lI w1 0 ?_
 obtain ⟨r2,e2,hp⟩:=ag hp
 refine aE (bg.P rfl ⟨w1,(aO.step s1)⟩ e2) ?_
 rintro _ H3 ⟨o0a_3,o0n_3,o0c_3,o0k_3,rfl,rfl,w3,s3,f3_0⟩
 refine br (br (br (br (br ?_))))
 refine lSl w3 1 ?_
 obtain ⟨w4,s4⟩:=w3.nilS (eSl eI).z (by decide)
 obtain ⟨w5,s5⟩:=w4.pp [1,0] 3
 exact bO.l61_P F rfl rfl rfl ⟨w5,(s0.trans (s1.trans (s3.trans (s4.trans s5)))),(f3_0.step (s4.trans s5)),((CR.empty:CR (eSl eI) _ _ [] []).step s5),(aO.step (s1.trans (s3.trans (s4.trans s5))))⟩ hp
def dx.Q (H0:Hp) (Ri R0:as3)  (r:as6) (v:AV) (H':Hp):Prop:=∃ o0a:ON,∃ o0n:Nat,∃ o0c:Cap,∃ o0k:List AV,v=(.sl ⟨o0a,o0n,o0c⟩)/\o0n=(r).length/\Out H0 Ri H' (Rs.own ⟨o0a,o0n,o0c⟩ eI.z o0k::R0) λR=>CR eI H' R o0k (r)
def dx.p (F:Nat) (ah:as6):Option (List Int):=apn ([]:List Int) ah
theorem dx.P {aB ak aC ah} (ba:ak=ah.length) (h0:Inn H R0 λR=>ROs eI H R ⟨aB,ak,aC⟩ ah) {r:as6} (hp:dx.p F ah=some r):Rt (dx.tw F ⟨aB,ak,aC⟩ H) (dx.Q H R0 R0  r):=by
 obtain ⟨w0,f0⟩:=h0
 subst ba
 unfold dx.p at hp
 unfold dx.tw dx.twX
 have s0:=w0.rf
 refine arp (λhb=>?_) (λhb=>?_)
 ·obtain ⟨w1,s1⟩:=w0.nilS eI.z (by decide)
  obtain rfl:=ROs.none_nil f0 (Option.isNone_iff_eq_none.1 hb)
  obtain rfl:r=[]:=(afM hp).2
  exact ⟨_,_,rfl,none,0,.ex 0,[],rfl,rfl,w1,s0.trans s1,CR.empty⟩
 ·refine cK eI w0 (n:=0) (l:=[]) rfl CR.empty rfl λH2 w2 s2 c2=>?_
  obtain ⟨xs,hx,cx⟩:=(f0.step s2).row rfl
  refine ai hx ?_
  refine fz eI w2 (i:=0) rfl rfl c2 cx rfl rfl hp λa d H3 w3 s3 c3 _=>?_
  dsimp only [List.set] at w3 s3 c3
  exact ⟨_,_,rfl,_,_,_,_,rfl,rfl,w3,s0.trans (s2.trans s3),c3⟩
def aV.Q (H0:Hp) (Ri R0:as3)  (r:as9) (v:AV) (H':Hp):Prop:=∃ o1a:ON,∃ o1n:Nat,∃ o1c:Cap,∃ o1k:List AV,v=(.agg [(.i r.1),(.sl ⟨o1a,o1n,o1c⟩)])/\o1n=(r.2).length/\Out H0 Ri H' (Rs.own ⟨o1a,o1n,o1c⟩ eI.z o1k::R0) λR=>CR eI H' R o1k (r.2)
def aV.S6 (H0:Hp) (Ri R0:as3)  (C:aun) (pC:auo):Prop:=∀ {ru acj Qk Ql FJ dd FK fD Qm Qn jY Qo Qp},∀ {H:Hp},FJ=jY.length->FK=Qo.length->(Out H0 Ri H (Rs.blk dd [.i ru,.sl ⟨Qk,FJ,Qm⟩]::Rs.own ⟨Ql,FK,Qn⟩ eI.z Qp::Rs.blk fD [.i acj,.sl ⟨Ql,FK,Qn⟩]::R0) λR=>ROs eI H R ⟨Qk,FJ,Qm⟩ jY/\CR eI H R Qp Qo)->∀ {r:as9},pC ru jY=some r->Rt (C dd 0 fD 0 H) (aV.Q H0 Ri R0  r)
def aV.S14 (H0:Hp) (Ri R0:as3)  (C:aun) (pC:auo):Prop:=∀ {rv ack Qq Qr FL eS FM mR Qs Qt jH Qu Qv},∀ {H:Hp},FL=jH.length->FM=Qu.length->(Out H0 Ri H (Rs.blk eS [.i rv,.sl ⟨Qq,FL,Qs⟩]::Rs.own ⟨Qr,FM,Qt⟩ eI.z Qv::Rs.blk mR [.i ack,.sl ⟨Qr,FM,Qt⟩]::R0) λR=>ROs eI H R ⟨Qq,FL,Qs⟩ jH/\CR eI H R Qv Qu)->∀ {r:as9},pC rv jH=some r->Rt (C eS 0 mR 0 H) (aV.Q H0 Ri R0  r)
def aV.pj1 (F:Nat)  (FN:Int) (wx:as6):Option (Int×List Int):=(bif ((wx.length:Int)==0) then (some (0,([]:List Int))) else ((dx.p F wx).bind λr5=>some (FN,r5)))
theorem aV.j1_P   {FN aof acl acm Qw uA Qx kE acn aco wx acp acq} (aog:Qw=wx.length) (aoh:Qx=acp.length) (h0:Out H0 Ri H (Rs.blk uA [.i FN,.sl ⟨acl,Qw,acn⟩]::Rs.own ⟨acm,Qx,aco⟩ eI.z acq::Rs.blk kE [.i aof,.sl ⟨acm,Qx,aco⟩]::R0) λR=>ROs eI H R ⟨acl,Qw,acn⟩ wx/\CR eI H R acq acp) {r:as9} (hp:aV.pj1 F  FN wx=some r):Rt (aV.j1 F (dx.tw F)  uA 0 kE 0 H) (aV.Q H0 Ri R0  r):=by
 obtain ⟨w0,s0,aoi,asz⟩:=h0
 subst aog
 subst aoh
 unfold aV.pj1 at hp
 unfold aV.j1
 refine lSl w0 0 ?_
 refine ay hp (λhp=>?_) λhp=>?_
 ·refine aq w0 2 λH1 w1 s1=>?_
  refine aq w1 2 λH2 w2 s2=>?_
  refine lI w2 2 ?_
  refine lSl w2 2 ?_
  obtain ⟨w3,s3⟩:=w2.nilS eI.z (by decide)
  obtain ⟨w4,s4⟩:=w3.pp [0] 4
  exact az hp ⟨_,_,_,_,rfl,rfl,w4,(s0.trans (s1.trans (s2.trans (s3.trans s4)))),((CR.empty:CR eI _ _ [] []).step s4)⟩
 ·refine lI w0 0 ?_
  refine lSl w0 0 ?_
  obtain ⟨r5,e5,hp⟩:=ag hp
  refine aE (dx.P rfl ⟨w0,aoi⟩ e5) ?_
  rintro _ H6 ⟨o0a_6,o0n_6,o0c_6,o0k_6,rfl,rfl,w6,s6,f6_0⟩
  refine br ?_
  refine eK (W.cons_of (Rn:=[_]) w0 w6 s6) ?_
  refine aq w6 3 λH8 w8 s8=>?_
  refine aq w8 3 λH9 w9 s9=>?_
  refine lI w9 3 ?_
  refine lSl w9 3 ?_
  obtain ⟨w10,s10⟩:=w9.pp [0] 4
  exact az hp ⟨_,_,_,_,rfl,rfl,w10,(s0.trans (s6.trans (s8.trans (s9.trans s10)))),(f6_0.step (s8.trans (s9.trans s10)))⟩
def aV.pl14 (F:Nat) :Nat->Int->List Int->Option (Int×List Int)
 | 0,_,_=>none
 | k+1,rv,jH=>(bif (decide ((jH.length:Int)>0)) then ((ix jH (wrap .i64 ((jH.length:Int) - 1))).bind λn1=>(bif ((gt jH n1)==0) then ((cutf jH 0 (wrap .i64 ((jH.length:Int) - 1))).bind λl2=>aV.pl14 F k rv l2) else (aV.pj1 F rv jH))) else (aV.pj1 F rv jH))
theorem aV.l14_P  :∀ k,aV.S14 H0 Ri R0  (aV.l14 F (dx.tw F)  k) (aV.pl14 F  k):=by
 intro k
 induction k with
 | zero=>unfold aV.S14;intros;rename_i hp;cases hp
 | succ k ih=>
  intro rv ack Qq Qr FL eS FM mR Qs Qt jH Qu Qv H aoj aol h0 r hp
  obtain ⟨w0,s0,FO,Qy⟩:=h0
  subst aoj
  subst aol
  unfold aV.pl14 at hp
  unfold aV.l14
  refine lSl w0 0 ?_
  refine ay hp (λhp=>?_) λhp=>?_
  ·refine lSl w0 0 ?_
   refine lSl w0 0 ?_
   obtain ⟨n1,g1,hp⟩:=ag hp
   obtain ⟨p1,q1,i1,h1,j1⟩:=ROs.ixr FO rfl g1
   refine ai i1 ?_
   have h1:_=[_]:=h1
   subst h1
   refine ai (aG (j1 0 _ rfl)) ?_
   refine ay hp (λhp=>?_) λhp=>?_
   ·refine lSl w0 0 ?_
    refine lSl w0 0 ?_
    obtain ⟨l2,e2,hp⟩:=ag hp
    obtain ⟨a2,d2,h2,f2⟩:=ROs.cutf FO rfl e2
    refine ai h2 ?_
    refine aq w0 0 λH3 w3 s3=>?_
    exact ih rfl rfl ⟨w3,(s0.trans s3),(f2.step s3),(Qy.step s3)⟩ hp
   ·exact aV.j1_P rfl rfl ⟨w0,s0,FO,Qy⟩ hp
  ·exact aV.j1_P rfl rfl ⟨w0,s0,FO,Qy⟩ hp
def aV.pj2 (F:Nat)  (FP:Int) (zF:as6):Option (Int×List Int):=aV.pl14 F F FP zF
theorem aV.j2_P   {FP aom acr acs Qz BU QA lX act acu zF acv acw} (aon:Qz=zF.length) (aoo:QA=acv.length) (h0:Out H0 Ri H (Rs.blk BU [.i FP,.sl ⟨acr,Qz,act⟩]::Rs.own ⟨acs,QA,acu⟩ eI.z acw::Rs.blk lX [.i aom,.sl ⟨acs,QA,acu⟩]::R0) λR=>ROs eI H R ⟨acr,Qz,act⟩ zF/\CR eI H R acw acv) {r:as9} (hp:aV.pj2 F  FP zF=some r):Rt (aV.j2 F (dx.tw F)  BU 0 lX 0 H) (aV.Q H0 Ri R0  r):=by
 obtain ⟨w0,s0,aoq,aor⟩:=h0
 subst aon
 subst aoo
 unfold aV.pj2 at hp
 unfold aV.j2
 exact aV.l14_P F rfl rfl ⟨w0,s0,aoq,aor⟩ hp
def aV.pl6 (F:Nat) :Nat->Int->List Int->Option (Int×List Int)
 | 0,_,_=>none
 | k+1,ru,jY=>(bif (decide ((jY.length:Int)>0)) then ((ix jY 0).bind λn1=>(bif ((gt jY n1)==0) then ((cutf jY 1 (jY.length:Int)).bind λl3=>aV.pl6 F k (wrap .i64 (ru+1)) l3) else (aV.pj2 F ru jY))) else (aV.pj2 F ru jY))
theorem aV.l6_P  :∀ k,aV.S6 H0 Ri R0  (aV.l6 F (dx.tw F)  k) (aV.pl6 F  k):=by
 intro k
 induction k with
 | zero=>unfold aV.S6;intros;rename_i hp;cases hp
 | succ k ih=>
  intro ru acj Qk Ql FJ dd FK fD Qm Qn jY Qo Qp H aos aot h0 r hp
  obtain ⟨w0,s0,FQ,QB⟩:=h0
  subst aos
  subst aot
  unfold aV.pl6 at hp
  unfold aV.l6
  refine lSl w0 0 ?_
  refine ay hp (λhp=>?_) λhp=>?_
  ·refine lSl w0 0 ?_
   obtain ⟨n1,g1,hp⟩:=ag hp
   obtain ⟨p1,q1,i1,h1,j1⟩:=ROs.ixr FQ rfl g1
   refine ai i1 ?_
   have h1:_=[_]:=h1
   subst h1
   refine ai (aG (j1 0 _ rfl)) ?_
   refine ay hp (λhp=>?_) λhp=>?_
   ·refine lI w0 0 ?_
    refine aq w0 0 λH2 w2 s2=>?_
    refine lSl w2 0 ?_
    obtain ⟨l3,e3,hp⟩:=ag hp
    obtain ⟨a3,d3,h3,f3⟩:=ROs.cutf (FQ.step s2) rfl e3
    refine ai h3 ?_
    refine aq w2 0 λH4 w4 s4=>?_
    exact ih rfl rfl ⟨w4,(s0.trans (s2.trans s4)),(f3.step s4),(QB.step (s2.trans s4))⟩ hp
   ·exact aV.j2_P rfl rfl ⟨w0,s0,FQ,QB⟩ hp
  ·exact aV.j2_P rfl rfl ⟨w0,s0,FQ,QB⟩ hp
def aV.p (F:Nat) (aa:Int) (aF:as6):Option (Int×List Int):=aV.pl6 F F aa aF
theorem aV.P {aa cj bD ck aF} (du:bD=aF.length) (h0:Inn H R0 λR=>ROs eI H R ⟨cj,bD,ck⟩ aF) {r:as9} (hp:aV.p F aa aF=some r):Rt (aV.tw F aa ⟨cj,bD,ck⟩ H) (aV.Q H R0 R0  r):=by
 obtain ⟨w0,cq⟩:=h0
 subst du
 unfold aV.p at hp
 unfold aV.tw aV.twX
 have s0:=w0.rf
 refine aS w0 λH1 w1 s1=>?_
 refine aS w1 λH2 w2 s2=>?_
 obtain ⟨w3,s3⟩:=w2.nilS eI.z (by decide)
 obtain ⟨w4,s4⟩:=w3.pp [2,0,1] 3
 exact aV.l6_P F rfl rfl ⟨w4,(s0.trans (s1.trans (s2.trans (s3.trans s4)))),(cq.step (s1.trans (s2.trans (s3.trans s4)))),((CR.empty:CR eI _ _ [] []).step s4)⟩ hp
def cl.Q (H0:Hp) (Ri R0:as3)  (r:as9) (v:AV) (H':Hp):Prop:=∃ o1a:ON,∃ o1n:Nat,∃ o1c:Cap,∃ o1k:List AV,v=(.agg [(.i r.1),(.sl ⟨o1a,o1n,o1c⟩)])/\o1n=(r.2).length/\Out H0 Ri H' (Rs.own ⟨o1a,o1n,o1c⟩ eI.z o1k::R0) λR=>CR eI H' R o1k (r.2)
def cl.p (F:Nat) (aa:Int) (aA:Int):Option (Int×List Int):=(aV.p F aA ([aa]:List Int)).bind λr4=>some (r4.1,r4.2)
theorem cl.P {aa aA}  (h0:Inn H R0 λR=>True) {r:as9} (hp:cl.p F aa aA=some r):Rt (cl.tw F aa aA H) (cl.Q H R0 R0  r):=by
 obtain ⟨w0,_⟩:=h0
 unfold cl.p at hp
 unfold cl.tw cl.twX
 have s0:=w0.rf
 refine aS w0 λH1 w1 s1=>?_
 refine cK eI w1 (n:=1) (l:=([aa]:List Int)) rfl (CR.cons1 rfl CR.empty) rfl λH2 w2 s2 c2=>?_
 have f3:=W.borrow1 eI w2 c2
 obtain ⟨w3,s3⟩:=w2.right1
 obtain ⟨r4,e4,hp⟩:=ag hp
 refine aE (aV.P (show 1=List.length ([aa]:List Int) from rfl) ⟨w3,f3⟩ e4) ?_
 rintro _ H5 ⟨o1a_5,o1n_5,o1c_5,o1k_5,rfl,rfl,w5,s5,f5_0⟩
 obtain ⟨w6,s6⟩:=W.frame1 w2 w5 s5
 refine br (br (br (br (br ?_))))
 refine aq w6 2 λH7 w7 s7=>?_
 refine aq w7 2 λH8 w8 s8=>?_
 refine lI w8 2 ?_
 refine lSl w8 2 ?_
 obtain ⟨w9,s9⟩:=w8.pp [1] 3
 exact az hp ⟨_,_,_,_,rfl,rfl,w9,(s0.trans (s1.trans (s2.trans (s6.trans (s7.trans (s8.trans s9)))))),((CR.flat (fA .i64) f5_0).step (s7.trans (s8.trans s9)))⟩
def fU.Q (H0:Hp) (Ri R0:as3)  (r:Int) (v:AV) (H':Hp):Prop:=v=(.i r)/\Out H0 Ri H' (R0) λR=>True
def fU.p (F:Nat) (ah:as6):Option (Int):=some (ah.length:Int)
theorem fU.P {aB ak aC ah} (ba:ak=ah.length) (h0:Inn H R0 λR=>ROs eI H R ⟨aB,ak,aC⟩ ah) {r:Int} (hp:fU.p F ah=some r):Rt (fU.tw F ⟨aB,ak,aC⟩ H) (fU.Q H R0 R0  r):=by
 obtain ⟨w0,aO⟩:=h0
 subst ba
 unfold fU.p at hp
 unfold fU.tw fU.twX
 have s0:=w0.rf
 exact az hp ⟨rfl,w0,s0,trivial⟩
def cN.Q (H0:Hp) (Ri R0:as3)  (r:Int) (v:AV) (H':Hp):Prop:=v=(.i r)/\Out H0 Ri H' (R0) λR=>True
def cN.p (F:Nat) (aa:Int) (aF:as6):Option (Int):=(fU.p F aF).bind λr2=>some (wrap .i64 ((wrap .i64 (aa+r2)) - 1))
theorem cN.P {aa cj bD ck aF} (du:bD=aF.length) (h0:Inn H R0 λR=>ROs eI H R ⟨cj,bD,ck⟩ aF) {r:Int} (hp:cN.p F aa aF=some r):Rt (cN.tw F aa ⟨cj,bD,ck⟩ H) (cN.Q H R0 R0  r):=by
 obtain ⟨w0,cq⟩:=h0
 subst du
 unfold cN.p at hp
 unfold cN.tw cN.twX
 have s0:=w0.rf
 refine aS w0 λH1 w1 s1=>?_
 refine lI w1 0 ?_
 refine lSl w1 0 ?_
 obtain ⟨r2,e2,hp⟩:=ag hp
 refine aE (fU.P rfl ⟨w1,(cq.step s1)⟩ e2) ?_
 rintro _ H3 ⟨rfl,w3,s3,_⟩
 refine br ?_
 refine eK (W.cons_of (Rn:=[]) w1 w3 s3) ?_
 obtain ⟨w5,s5⟩:=w3.pp [] 1
 exact az hp ⟨rfl,w5,(s0.trans (s1.trans (s3.trans s5))),trivial⟩
def eu.Q (H0:Hp) (Ri R0:as3)  (r:Bool) (v:AV) (H':Hp):Prop:=v=(.bool r)/\Out H0 Ri H' (R0) λR=>True
def eu.p (F:Nat) (aa:Int):Option (Bool):=(dw.p F aa (-1000000000000) 1000000000000).bind λr1=>some (!r1)
theorem eu.P {aa}  (h0:Inn H R0 λR=>True) {r:Bool} (hp:eu.p F aa=some r):Rt (eu.tw F aa H) (eu.Q H R0 R0  r):=by
 obtain ⟨w0,_⟩:=h0
 unfold eu.p at hp
 unfold eu.tw eu.twX
 have s0:=w0.rf
 obtain ⟨r1,e1,hp⟩:=ag hp
 refine aE (dw.P ⟨w0,trivial⟩ e1) ?_
 rintro _ H2 ⟨rfl,w2,s2,_⟩
 refine br ?_
 exact az hp ⟨rfl,w2,(s0.trans s2),trivial⟩
def cg.Q (H0:Hp) (Ri R0:as3)  (r:Int) (v:AV) (H':Hp):Prop:=v=(.i r)/\Out H0 Ri H' (R0) λR=>True
def cg.S13 (H0:Hp) (Ri R0:as3)  (C:ate) (pC:aum):Prop:=∀ {lD iT lE es de cv},∀ {H:Hp},iT=es.length->(Out H0 Ri H R0 λR=>ROs eI H R ⟨lD,iT,lE⟩ es)->∀ {r:Int},pC es de cv=some r->Rt (C ⟨lD,iT,lE⟩ de cv H) (cg.Q H0 Ri R0  r)
def cg.pl13 (F:Nat) :Nat->List Int->Int->Int->Option (Int)
 | 0,_,_,_=>none
 | k+1,es,de,cv=>(bif (decide (cv<de)) then ((ix es cv).bind λn1=>(eu.p F (gt es n1)).bind λr2=>(bif r2 then (some cv) else (cg.pl13 F k es de (wrap .i64 (cv+1))))) else (some (-1)))
theorem cg.l13_P  :∀ k,cg.S13 H0 Ri R0  (cg.l13 F (eu.tw F)  k) (cg.pl13 F  k):=by
 intro k
 induction k with
 | zero=>unfold cg.S13;intros;rename_i hp;cases hp
 | succ k ih=>
  intro lD iT lE es de cv H zi h0 r hp
  obtain ⟨w0,s0,oO⟩:=h0
  subst zi
  unfold cg.pl13 at hp
  unfold cg.l13
  refine ay hp (λhp=>?_) λhp=>?_
  ·obtain ⟨n1,g1,hp⟩:=ag hp
   obtain ⟨p1,q1,i1,h1,j1⟩:=ROs.ixr oO rfl g1
   refine ai i1 ?_
   have h1:_=[_]:=h1
   subst h1
   refine ai (aG (j1 0 _ rfl)) ?_
   obtain ⟨r2,e2,hp⟩:=ag hp
   refine aE (eu.P ⟨w0,trivial⟩ e2) ?_
   rintro _ H3 ⟨rfl,w3,s3,_⟩
   refine br ?_
   refine ay hp (λhp=>?_) λhp=>?_
   ·exact az hp ⟨rfl,w3,(s0.trans s3),trivial⟩
   ·exact ih rfl ⟨w3,(s0.trans s3),(oO.step s3)⟩ hp
  ·exact az hp ⟨rfl,w0,s0,trivial⟩
def cg.p (F:Nat) (ah:as6):Option (Int):=cg.pl13 F F ah (ah.length:Int) 0
theorem cg.P {aB ak aC ah} (ba:ak=ah.length) (h0:Inn H R0 λR=>ROs eI H R ⟨aB,ak,aC⟩ ah) {r:Int} (hp:cg.p F ah=some r):Rt (cg.tw F ⟨aB,ak,aC⟩ H) (cg.Q H R0 R0  r):=by
 obtain ⟨w0,aO⟩:=h0
 subst ba
 unfold cg.p at hp
 unfold cg.tw cg.twX
 have s0:=w0.rf
 exact cg.l13_P F rfl ⟨w0,s0,aO⟩ hp
def eM.Q (H0:Hp) (Ri R0:as3)  (r:Bool) (v:AV) (H':Hp):Prop:=v=(.bool r)/\Out H0 Ri H' (R0) λR=>True
def eM.p (F:Nat) (ah:as6):Option (Bool):=(cg.p F ah).bind λr1=>some (decide (r1>=0))
theorem eM.P {aB ak aC ah} (ba:ak=ah.length) (h0:Inn H R0 λR=>ROs eI H R ⟨aB,ak,aC⟩ ah) {r:Bool} (hp:eM.p F ah=some r):Rt (eM.tw F ⟨aB,ak,aC⟩ H) (eM.Q H R0 R0  r):=by
 obtain ⟨w0,aO⟩:=h0
 subst ba
 unfold eM.p at hp
 unfold eM.tw eM.twX
 have s0:=w0.rf
 obtain ⟨r1,e1,hp⟩:=ag hp
 refine aE (cg.P rfl ⟨w0,aO⟩ e1) ?_
 rintro _ H2 ⟨rfl,w2,s2,_⟩
 refine br ?_
 exact az hp ⟨rfl,w2,(s0.trans s2),trivial⟩
def cO.Q (H0:Hp) (Ri R0:as3)  (r:Bool) (v:AV) (H':Hp):Prop:=v=(.bool r)/\Out H0 Ri H' (R0) λR=>True
def cO.p (F:Nat) (aa:Int) (aF:as6):Option (Bool):=(bif ((aF.length:Int)==0) then (some (aa==0)) else ((bif (decide ((aF.length:Int)<=160)) then ((ix aF 0).bind λn3=>(bif ((gt aF n3) != 0) then ((ix aF (wrap .i64 ((aF.length:Int) - 1))).bind λn4=>(bif ((gt aF n4) != 0) then ((bif (decide (aa>=(-240))) then ((cN.p F aa aF).bind λr5=>(bif (decide (r5<=240)) then ((bif (decide (aa<=240)) then ((eM.p F aF).bind λr7=>some (!r7)) else (some false))) else (some false))) else (some false))) else (some false))) else (some false))) else (some false))))
theorem cO.P {aa cj bD ck aF} (du:bD=aF.length) (h0:Inn H R0 λR=>ROs eI H R ⟨cj,bD,ck⟩ aF) {r:Bool} (hp:cO.p F aa aF=some r):Rt (cO.tw F aa ⟨cj,bD,ck⟩ H) (cO.Q H R0 R0  r):=by
 obtain ⟨w0,cq⟩:=h0
 subst du
 unfold cO.p at hp
 unfold cO.tw cO.twX
 have s0:=w0.rf
 refine aS w0 λH1 w1 s1=>?_
 refine lSl w1 0 ?_
 refine ay hp (λhp=>?_) λhp=>?_
 ·refine lI w1 0 ?_
  obtain ⟨w2,s2⟩:=w1.pp [] 1
  exact az hp ⟨rfl,w2,(s0.trans (s1.trans s2)),trivial⟩
 ·refine ay hp (λhp=>?_) λhp=>?_
  ·refine lSl w1 0 ?_
   obtain ⟨n3,g3,hp⟩:=ag hp
   obtain ⟨p3,q3,i3,h3,j3⟩:=ROs.ixr (cq.step s1) rfl g3
   refine ai i3 ?_
   have h3:_=[_]:=h3
   subst h3
   refine ai (aG (j3 0 _ rfl)) ?_
   refine ay hp (λhp=>?_) λhp=>?_
   ·refine lSl w1 0 ?_
    obtain ⟨n4,g4,hp⟩:=ag hp
    obtain ⟨p4,q4,i4,h4,j4⟩:=ROs.ixr (cq.step s1) rfl g4
    refine ai i4 ?_
    have h4:_=[_]:=h4
    subst h4
    refine ai (aG (j4 0 _ rfl)) ?_
    refine ay hp (λhp=>?_) λhp=>?_
    ·refine lI w1 0 ?_
     refine ay hp (λhp=>?_) λhp=>?_
     ·refine lI w1 0 ?_
      refine lSl w1 0 ?_
      obtain ⟨r5,e5,hp⟩:=ag hp
      refine aE (cN.P rfl ⟨w1,(cq.step s1)⟩ e5) ?_
      rintro _ H6 ⟨rfl,w6,s6,_⟩
      refine br ?_
      refine ay hp (λhp=>?_) λhp=>?_
      ·refine lI w6 0 ?_
       refine ay hp (λhp=>?_) λhp=>?_
       ·refine lSl w6 0 ?_
        obtain ⟨r7,e7,hp⟩:=ag hp
        refine aE (eM.P rfl ⟨w6,(cq.step (s1.trans s6))⟩ e7) ?_
        rintro _ H8 ⟨rfl,w8,s8,_⟩
        refine br ?_
        obtain ⟨w9,s9⟩:=w8.pp [] 1
        exact az hp ⟨rfl,w9,(s0.trans (s1.trans (s6.trans (s8.trans s9)))),trivial⟩
       ·obtain ⟨w10,s10⟩:=w6.pp [] 1
        exact az hp ⟨rfl,w10,(s0.trans (s1.trans (s6.trans s10))),trivial⟩
      ·obtain ⟨w11,s11⟩:=w6.pp [] 1
       exact az hp ⟨rfl,w11,(s0.trans (s1.trans (s6.trans s11))),trivial⟩
     ·obtain ⟨w12,s12⟩:=w1.pp [] 1
      exact az hp ⟨rfl,w12,(s0.trans (s1.trans s12)),trivial⟩
    ·obtain ⟨w13,s13⟩:=w1.pp [] 1
     exact az hp ⟨rfl,w13,(s0.trans (s1.trans s13)),trivial⟩
   ·obtain ⟨w14,s14⟩:=w1.pp [] 1
    exact az hp ⟨rfl,w14,(s0.trans (s1.trans s14)),trivial⟩
  ·obtain ⟨w15,s15⟩:=w1.pp [] 1
   exact az hp ⟨rfl,w15,(s0.trans (s1.trans s15)),trivial⟩
def eg.Q (H0:Hp) (Ri R0:as3)  (r:Bool) (v:AV) (H':Hp):Prop:=v=(.bool r)/\Out H0 Ri H' (R0) λR=>True
def eg.p (F:Nat) (aa:Int) (aF:as6):Option (Bool):=(cO.p F aa aF).bind λr2=>some (!r2)
theorem eg.P {aa cj bD ck aF} (du:bD=aF.length) (h0:Inn H R0 λR=>ROs eI H R ⟨cj,bD,ck⟩ aF) {r:Bool} (hp:eg.p F aa aF=some r):Rt (eg.tw F aa ⟨cj,bD,ck⟩ H) (eg.Q H R0 R0  r):=by
 obtain ⟨w0,cq⟩:=h0
 subst du
 unfold eg.p at hp
 unfold eg.tw eg.twX
 have s0:=w0.rf
 refine aS w0 λH1 w1 s1=>?_
 refine lI w1 0 ?_
 refine lSl w1 0 ?_
 obtain ⟨r2,e2,hp⟩:=ag hp
 refine aE (cO.P rfl ⟨w1,(cq.step s1)⟩ e2) ?_
 rintro _ H3 ⟨rfl,w3,s3,_⟩
 refine br ?_
 obtain ⟨w4,s4⟩:=w3.pp [] 1
 exact az hp ⟨rfl,w4,(s0.trans (s1.trans (s3.trans s4))),trivial⟩
def bZ.Q (H0:Hp) (Ri R0:as3)  (r:Int) (v:AV) (H':Hp):Prop:=v=(.i r)/\Out H0 Ri H' (R0) λR=>True
def bZ.S13 (H0:Hp) (Ri R0:as3)  (C:ate) (pC:List (Int×List Int)->Int->Int->Option (Int)):Prop:=∀ {lD iT lE es de cv},∀ {H:Hp},iT=es.length->(Out H0 Ri H R0 λR=>ROs (ac eI (eSl eI)) H R ⟨lD,iT,lE⟩ es)->∀ {r:Int},pC es de cv=some r->Rt (C ⟨lD,iT,lE⟩ de cv H) (bZ.Q H0 Ri R0  r)
def bZ.pl13 (F:Nat) :Nat->List (Int×List Int)->Int->Int->Option (Int)
 | 0,_,_,_=>none
 | k+1,es,de,cv=>(bif (decide (cv<de)) then ((ix es cv).bind λn1=>(eg.p F ((gt es n1).1) ((gt es n1).2)).bind λr2=>(bif r2 then (some cv) else (bZ.pl13 F k es de (wrap .i64 (cv+1))))) else (some (-1)))
theorem bZ.l13_P  :∀ k,bZ.S13 H0 Ri R0  (bZ.l13 F (eg.tw F)  k) (bZ.pl13 F  k):=by
 intro k
 induction k with
 | zero=>unfold bZ.S13;intros;rename_i hp;cases hp
 | succ k ih=>
  intro lD iT lE es de cv H zi h0 r hp
  obtain ⟨w0,s0,oO⟩:=h0
  subst zi
  unfold bZ.pl13 at hp
  unfold bZ.l13
  refine ay hp (λhp=>?_) λhp=>?_
  ·obtain ⟨n1,g1,hp⟩:=ag hp
   obtain ⟨p1,q1,i1,h1,j1⟩:=ROs.ixr oO rfl g1
   refine ai i1 ?_
   obtain ⟨_,_,rfl,rfl,⟨⟨aou,m1_1,c1_1⟩,rfl,f1_1⟩⟩:=h1
   obtain rfl:m1_1=_:=f1_1.n
   refine ai (aG (j1 0 _ rfl)) ?_
   refine ai (iE (j1 1 _ rfl)) ?_
   obtain ⟨r2,e2,hp⟩:=ag hp
   refine aE (eg.P rfl ⟨w0,f1_1⟩ e2) ?_
   rintro _ H3 ⟨rfl,w3,s3,_⟩
   refine br ?_
   refine ay hp (λhp=>?_) λhp=>?_
   ·exact az hp ⟨rfl,w3,(s0.trans s3),trivial⟩
   ·exact ih rfl ⟨w3,(s0.trans s3),(oO.step s3)⟩ hp
  ·exact az hp ⟨rfl,w0,s0,trivial⟩
def bZ.p (F:Nat) (ah:atm):Option (Int):=bZ.pl13 F F ah (ah.length:Int) 0
theorem bZ.P {aB ak aC ah} (ba:ak=ah.length) (h0:Inn H R0 λR=>ROs (ac eI (eSl eI)) H R ⟨aB,ak,aC⟩ ah) {r:Int} (hp:bZ.p F ah=some r):Rt (bZ.tw F ⟨aB,ak,aC⟩ H) (bZ.Q H R0 R0  r):=by
 obtain ⟨w0,aO⟩:=h0
 subst ba
 unfold bZ.p at hp
 unfold bZ.tw bZ.twX
 have s0:=w0.rf
 exact bZ.l13_P F rfl ⟨w0,s0,aO⟩ hp
def eN.Q (H0:Hp) (Ri R0:as3)  (r:Bool) (v:AV) (H':Hp):Prop:=v=(.bool r)/\Out H0 Ri H' (R0) λR=>True
def eN.p (F:Nat) (ah:atm):Option (Bool):=(bZ.p F ah).bind λr1=>some (decide (r1>=0))
theorem eN.P {aB ak aC ah} (ba:ak=ah.length) (h0:Inn H R0 λR=>ROs (ac eI (eSl eI)) H R ⟨aB,ak,aC⟩ ah) {r:Bool} (hp:eN.p F ah=some r):Rt (eN.tw F ⟨aB,ak,aC⟩ H) (eN.Q H R0 R0  r):=by
 obtain ⟨w0,aO⟩:=h0
 subst ba
 unfold eN.p at hp
 unfold eN.tw eN.twX
 have s0:=w0.rf
 obtain ⟨r1,e1,hp⟩:=ag hp
 refine aE (bZ.P rfl ⟨w0,aO⟩ e1) ?_
 rintro _ H2 ⟨rfl,w2,s2,_⟩
 refine br ?_
 exact az hp ⟨rfl,w2,(s0.trans s2),trivial⟩
def cH.Q (H0:Hp) (Ri R0:as3)  (r:Bool) (v:AV) (H':Hp):Prop:=v=(.bool r)/\Out H0 Ri H' (R0) λR=>True
def cH.p (F:Nat) (ah:atm):Option (Bool):=(eN.p F ah).bind λr1=>some (!r1)
theorem cH.P {aB ak aC ah} (ba:ak=ah.length) (h0:Inn H R0 λR=>ROs (ac eI (eSl eI)) H R ⟨aB,ak,aC⟩ ah) {r:Bool} (hp:cH.p F ah=some r):Rt (cH.tw F ⟨aB,ak,aC⟩ H) (cH.Q H R0 R0  r):=by
 obtain ⟨w0,aO⟩:=h0
 subst ba
 unfold cH.p at hp
 unfold cH.tw cH.twX
 have s0:=w0.rf
 obtain ⟨r1,e1,hp⟩:=ag hp
 refine aE (eN.P rfl ⟨w0,aO⟩ e1) ?_
 rintro _ H2 ⟨rfl,w2,s2,_⟩
 refine br ?_
 exact az hp ⟨rfl,w2,(s0.trans s2),trivial⟩
def cI.Q (H0:Hp) (Ri R0:as3)  (r:atk) (v:AV) (H':Hp):Prop:=∃ o1a:ON,∃ o1n:Nat,∃ o1c:Cap,∃ o1k:List AV,v=(.tup [(.agg [(.i r.1),(.sl ⟨o1a,o1n,o1c⟩)]),(.i r.2.2)])/\o1n=(r.2.1).length/\Out H0 Ri H' (Rs.own ⟨o1a,o1n,o1c⟩ eI.z o1k::R0) λR=>CR eI H' R o1k (r.2.1)
def cI.p (F:Nat) (aa:Int) (aF:as6):Option (Int×List Int×Int):=(aV.p F aa aF).bind λr3=>(cO.p F r3.1 r3.2).bind λr8=>(bif (!r8) then (some (0,([]:List Int),3)) else (some (r3.1,r3.2,0)))
theorem cI.P {aa cj bD ck aF} (du:bD=aF.length) (h0:Inn H R0 λR=>ROs eI H R ⟨cj,bD,ck⟩ aF) {r:atk} (hp:cI.p F aa aF=some r):Rt (cI.tw F aa ⟨cj,bD,ck⟩ H) (cI.Q H R0 R0  r):=by
 obtain ⟨w0,cq⟩:=h0
 subst du
 unfold cI.p at hp
 unfold cI.tw cI.twX
 have s0:=w0.rf
 refine aS w0 λH1 w1 s1=>?_
 refine aS w1 λH2 w2 s2=>?_
 refine lI w2 1 ?_
 refine lSl w2 1 ?_
 obtain ⟨r3,e3,hp⟩:=ag hp
 refine aE (aV.P rfl ⟨w2,(cq.step (s1.trans s2))⟩ e3) ?_
 rintro _ H4 ⟨o1a_4,o1n_4,o1c_4,o1k_4,rfl,rfl,w4,s4,f4_0⟩
 refine br (br (br (br (br ?_))))
 refine aq w4 2 λH5 w5 s5=>?_
 refine aq w5 2 λH6 w6 s6=>?_
 refine lI w6 2 ?_
 refine lSl w6 2 ?_
 have f7:=W.borrow1 eI w6 (f4_0.step (s5.trans s6))
 obtain ⟨w7,s7⟩:=w6.right1
 obtain ⟨r8,e8,hp⟩:=ag hp
 refine aE (cO.P rfl ⟨w7,f7⟩ e8) ?_
 rintro _ H9 ⟨rfl,w9,s9,_⟩
 obtain ⟨w10,s10⟩:=W.frame1 w6 w9 s9
 refine br ?_
 refine ay hp (λhp=>?_) λhp=>?_
 ·refine aq w10 1 λH11 w11 s11=>?_
  refine aq w11 1 λH12 w12 s12=>?_
  refine lI w12 1 ?_
  refine lSl w12 1 ?_
  obtain ⟨w13,s13⟩:=w12.nilS eI.z (by decide)
  obtain ⟨w14,s14⟩:=w13.pp [0] 4
  exact az hp ⟨_,_,_,_,rfl,rfl,w14,(s0.trans (s1.trans (s2.trans (s4.trans (s5.trans (s6.trans (s10.trans (s11.trans (s12.trans (s13.trans s14)))))))))),((CR.empty:CR eI _ _ [] []).step s14)⟩
 ·refine lI w10 2 ?_
  refine lSl w10 2 ?_
  refine aq w10 1 λH15 w15 s15=>?_
  refine aq w15 1 λH16 w16 s16=>?_
  refine lI w16 1 ?_
  refine lSl w16 1 ?_
  obtain ⟨w17,s17⟩:=w16.pp [0] 3
  exact az hp ⟨_,_,_,_,rfl,rfl,w17,(s0.trans (s1.trans (s2.trans (s4.trans (s5.trans (s6.trans (s10.trans (s15.trans (s16.trans s17))))))))),(f4_0.step (s5.trans (s6.trans (s10.trans (s15.trans (s16.trans s17))))))⟩
def aN.Q (H0:Hp) (Ri R0:as3)  (r:atk) (v:AV) (H':Hp):Prop:=∃ o1a:ON,∃ o1n:Nat,∃ o1c:Cap,∃ o1k:List AV,v=(.tup [(.agg [(.i r.1),(.sl ⟨o1a,o1n,o1c⟩)]),(.i r.2.2)])/\o1n=(r.2.1).length/\Out H0 Ri H' (Rs.own ⟨o1a,o1n,o1c⟩ eI.z o1k::R0) λR=>CR eI H' R o1k (r.2.1)
def aN.S125 (H0:Hp) (Ri R0:as3)  (C:atJ) (pC:atQ):Prop:=∀ {acx mT wy kJ ju QC QD QE FR oe FS og FT QF QG QH QI rx QJ QK QL mm},∀ {H:Hp},FR=QI.length->FS=rx.length->FT=mm.length->(Out H0 Ri H (Rs.own ⟨QC,FR,QF⟩ eI.z QJ::Rs.blk oe [.i acx,.sl ⟨QC,FR,QF⟩]::Rs.own ⟨QD,FS,QG⟩ eI.z QK::Rs.blk og [.i wy,.sl ⟨QD,FS,QG⟩]::Rs.own ⟨QE,FT,QH⟩ (ac eI (eSl eI)).z QL::R0) λR=>CR eI H R QJ QI/\CR eI H R QK rx/\CR (ac eI (eSl eI)) H R QL mm)->∀ {r:atk},pC mT wy rx mm kJ ju=some r->Rt (C oe 0 mT og 0 ⟨QE,FT,QH⟩ kJ ju H) (aN.Q H0 Ri R0  r)
def aN.S8027 (H0:Hp) (Ri R0:as3)  (C:Nat->Nat->Int->Nat->Nat->Sl->Int->Int->Nat->Nat->Sl->Int->Int->Hp->OA) (pC:Int->Int->List Int->List (Int×List Int)->Int->Int->Int->List Int->Int->Int->Option (Int×List Int×Int)):Prop:=∀ {acy il wz kG kH ry kI gF QM QN QO FU FV oc FW mS FX zG od QP QQ QR FY QT mn o_ QU QV QW rz},∀ {H:Hp},FV=QT.length->FW=mn.length->FX=rz.length->zG=o_.length->(Out H0 Ri H (Rs.own ⟨QM,FV,QP⟩ eI.z QU::Rs.blk oc [.i acy,.sl ⟨QM,FV,QP⟩]::Rs.own ⟨QN,FW,QQ⟩ eI.z QV::Rs.blk mS [.i wz,.sl ⟨QN,FW,QQ⟩]::Rs.own ⟨QO,FX,QR⟩ (ac eI (eSl eI)).z QW::Rs.blk od [.i ry,.sl ⟨FU,zG,FY⟩]::R0) λR=>CR eI H R QU QT/\CR eI H R QV mn/\CR (ac eI (eSl eI)) H R QW rz/\ROs eI H R ⟨FU,zG,FY⟩ o_)->∀ {r:atk},pC il wz mn rz kG kH ry o_ kI gF=some r->Rt (C oc 0 il mS 0 ⟨QO,FX,QR⟩ kG kH od 0 ⟨FU,zG,FY⟩ kI gF H) (aN.Q H0 Ri R0  r)
def aN.pj4 (F:Nat) (bt:atQ) (lY:Int) (FZ:Int) (zH:as6) (zI:atm) (uG:Int) (uH:Int):Option (Int×List Int×Int):=bt lY FZ zH zI uG (wrap .i64 (uH+1))
theorem aN.j4_P  {C125_:atJ} {bt:atQ} (hC125:aN.S125 H0 Ri R0  C125_ bt) {aov lY FZ uG uH acz acA acB QX BW QY BX QZ acC acD acE acF zH acG acH acI zI} (aow:QX=acF.length) (aox:QY=zH.length) (aoy:QZ=zI.length) (h0:Out H0 Ri H (Rs.own ⟨acz,QX,acC⟩ eI.z acG::Rs.blk BW [.i aov,.sl ⟨acz,QX,acC⟩]::Rs.own ⟨acA,QY,acD⟩ eI.z acH::Rs.blk BX [.i FZ,.sl ⟨acA,QY,acD⟩]::Rs.own ⟨acB,QZ,acE⟩ (ac eI (eSl eI)).z acI::R0) λR=>CR eI H R acG acF/\CR eI H R acH zH/\CR (ac eI (eSl eI)) H R acI zI) {r:atk} (hp:aN.pj4 F bt lY FZ zH zI uG uH=some r):Rt (aN.j4 F (cH.tw F) (cN.tw F) (cI.tw F) C125_ BW 0 lY BX 0 ⟨acB,QZ,acE⟩ uG uH H) (aN.Q H0 Ri R0  r):=by
 obtain ⟨w0,s0,aoz,aoA,aoB⟩:=h0
 subst aow
 subst aox
 subst aoy
 unfold aN.pj4 at hp
 unfold aN.j4
 exact hC125 rfl rfl rfl ⟨w0,s0,aoz,aoA,aoB⟩ hp
def aN.pj5 (F:Nat) (bt:atQ) (uI:Int) (F_:Int) (zJ:as6) (zK:atm) (uJ:Int) (uK:Int):Option (Int×List Int×Int):=aN.pj4 F bt uI F_ zJ zK uJ uK
theorem aN.j5_P  {C125_:atJ} {bt:atQ} (hC125:aN.S125 H0 Ri R0  C125_ bt) {aoC uI F_ uJ uK acJ acK acL Q_ BY Ra BZ Rc acM acN acO acP zJ acQ acR acS zK} (aoD:Q_=acP.length) (aoE:Ra=zJ.length) (aoF:Rc=zK.length) (h0:Out H0 Ri H (Rs.own ⟨acJ,Q_,acM⟩ eI.z acQ::Rs.blk BY [.i aoC,.sl ⟨acJ,Q_,acM⟩]::Rs.own ⟨acK,Ra,acN⟩ eI.z acR::Rs.blk BZ [.i F_,.sl ⟨acK,Ra,acN⟩]::Rs.own ⟨acL,Rc,acO⟩ (ac eI (eSl eI)).z acS::R0) λR=>CR eI H R acQ acP/\CR eI H R acR zJ/\CR (ac eI (eSl eI)) H R acS zK) {r:atk} (hp:aN.pj5 F bt uI F_ zJ zK uJ uK=some r):Rt (aN.j5 F (cH.tw F) (cN.tw F) (cI.tw F) C125_ BY 0 uI BZ 0 ⟨acL,Rc,acO⟩ uJ uK H) (aN.Q H0 Ri R0  r):=by
 obtain ⟨w0,s0,aoG,aoH,aoI⟩:=h0
 subst aoD
 subst aoE
 subst aoF
 unfold aN.pj5 at hp
 unfold aN.j5
 exact aN.j4_P (@hC125) rfl rfl rfl ⟨w0,s0,aoG,aoH,aoI⟩ hp
def aN.pl8027 (F:Nat) (bt:atQ):Nat->Int->Int->List Int->List (Int×List Int)->Int->Int->Int->List Int->Int->Int->Option (Int×List Int×Int)
 | 0,_,_,_,_,_,_,_,_,_,_=>none
 | k+1,il,wz,mn,rz,kG,kH,ry,o_,kI,gF=>(bif (decide (gF<kI)) then ((ix o_ gF).bind λn1=>(ix mn (wrap .i64 ((wrap .i64 (ry - il))+gF))).bind λn2=>(ix mn (wrap .i64 ((wrap .i64 (ry - il))+gF))).bind λn3=>(some (mn.set n3 (wrap .i64 ((gt mn n2)+(gt o_ n1))))).bind λl4=>aN.pl8027 F bt k il wz l4 rz kG kH ry o_ kI (wrap .i64 (gF+1))) else (aN.pj5 F bt il wz mn rz kG kH))
theorem aN.l8027_P  {C125_:atJ} {bt:atQ} (hC125:aN.S125 H0 Ri R0  C125_ bt):∀ k,aN.S8027 H0 Ri R0  (aN.l8027 F (cH.tw F) (cN.tw F) (cI.tw F) C125_ k) (aN.pl8027 F bt k):=by
 intro k
 induction k with
 | zero=>unfold aN.S8027;intros;rename_i hp;cases hp
 | succ k ih=>
  intro acy il wz kG kH ry kI gF QM QN QO FU FV oc FW mS FX zG od QP QQ QR FY QT mn o_ QU QV QW rz H aoJ aoK aoL aoM h0 r hp
  obtain ⟨w0,s0,acT,Ga,acU,acV⟩:=h0
  subst aoJ
  subst aoK
  subst aoL
  subst aoM
  unfold aN.pl8027 at hp
  unfold aN.l8027
  refine ay hp (λhp=>?_) λhp=>?_
  ·obtain ⟨n1,g1,hp⟩:=ag hp
   obtain ⟨p1,q1,i1,h1,j1⟩:=ROs.ixr acV rfl g1
   refine ai i1 ?_
   have h1:_=[_]:=h1
   subst h1
   refine ai (aG (j1 0 _ rfl)) ?_
   refine lSl w0 3 ?_
   refine lI w0 5 ?_
   obtain ⟨n2,g2,hp⟩:=ag hp
   obtain ⟨p2,q2,i2,h2,j2⟩:=W.ixo (E:=eI) w0 (i:=2) rfl rfl Ga g2
   refine ai i2 ?_
   have h2:_=[_]:=h2
   subst h2
   refine ai (aG (j2 0 _ rfl)) ?_
   obtain ⟨n3,g3,hp⟩:=ag hp
   obtain ⟨p3,q3,i3,h3,j3⟩:=W.ixo (E:=eI) w0 (i:=2) rfl rfl Ga g3
   refine ai i3 ?_
   obtain ⟨l4,e4,hp⟩:=ag hp
   refine dC eI w0 (i:=2) (j:=0) (p:=p3) rfl rfl Ga g3 i3 e4 rfl rfl (λ_ h=>by have h:_=[_]:=h;subst h;exact rfl) λH5 k5 w5 s5 c5=>?_
   exact ih rfl ((cz e4).symm) rfl rfl ⟨w5,(s0.trans s5),(acT.step s5),c5,(acU.step s5),(acV.step s5)⟩ hp
  ·obtain ⟨w6,s6⟩:=w0.pp [0,1,2,3,4] 6
   exact aN.j5_P (@hC125) rfl rfl rfl ⟨w6,(s0.trans s6),(acT.step s6),(Ga.step s6),(acU.step s6)⟩ hp
def aN.pj3 (F:Nat)  (Gb:Int) (zL:as6):Option (Int×List Int×Int):=(cI.p F Gb zL).bind λr3=>some (r3.1,r3.2.1,r3.2.2)
theorem aN.j3_P   {aoN Gb acW acX Rd pM Re xn acY acZ ac0 zL ac1 ac2} (aoO:Rd=ac0.length) (aoP:Re=zL.length) (h0:Out H0 Ri H (Rs.own ⟨acW,Rd,acY⟩ eI.z ac1::Rs.blk pM [.i aoN,.sl ⟨acW,Rd,acY⟩]::Rs.own ⟨acX,Re,acZ⟩ eI.z ac2::Rs.blk xn [.i Gb,.sl ⟨acX,Re,acZ⟩]::R0) λR=>CR eI H R ac1 ac0/\CR eI H R ac2 zL) {r:atk} (hp:aN.pj3 F  Gb zL=some r):Rt (aN.j3 F (cH.tw F) (cN.tw F) (cI.tw F)  pM 0 xn 0 H) (aN.Q H0 Ri R0  r):=by
 obtain ⟨w0,s0,asA,aoQ⟩:=h0
 subst aoO
 subst aoP
 unfold aN.pj3 at hp
 unfold aN.j3
 refine lI w0 3 ?_
 refine lSl w0 3 ?_
 obtain ⟨w1,s1⟩:=w0.pp [2,0,1,3] 4
 have f2:=W.borrow1 eI w1 (aoQ.step s1)
 obtain ⟨w2,s2⟩:=w1.right1
 obtain ⟨r3,e3,hp⟩:=ag hp
 refine aE (cI.P rfl ⟨w2,f2⟩ e3) ?_
 rintro _ H4 ⟨o1a_4,o1n_4,o1c_4,o1k_4,rfl,rfl,w4,s4,f4_0⟩
 obtain ⟨w5,s5⟩:=W.frame1 w1 w4 s4
 refine br (br (br (br (br (br (br (br (br ?_))))))))
 refine aq w5 3 λH6 w6 s6=>?_
 refine aq w6 3 λH7 w7 s7=>?_
 refine lI w7 3 ?_
 refine lSl w7 3 ?_
 obtain ⟨w8,s8⟩:=w7.pp [1] 5
 exact az hp ⟨_,_,_,_,rfl,rfl,w8,(s0.trans (s1.trans (s5.trans (s6.trans (s7.trans s8))))),((CR.flat (fA .i64) f4_0).step (s6.trans (s7.trans s8)))⟩
def aN.pl125 (F:Nat) :Nat->Int->Int->List Int->List (Int×List Int)->Int->Int->Option (Int×List Int×Int)
 | 0,_,_,_,_,_,_=>none
 | k+1,mT,wy,rx,mm,kJ,ju=>(bif (decide (ju<kJ)) then ((ix mm ju).bind λn1=>aN.pl8027 F (aN.pl125 F k) F mT wy rx mm kJ ju ((gt mm n1).1) ((gt mm n1).2) ((((gt mm n1).2).length):Int) 0) else (aN.pj3 F wy rx))
theorem aN.l125_P  :∀ k,aN.S125 H0 Ri R0  (aN.l125 F (cH.tw F) (cN.tw F) (cI.tw F)  k) (aN.pl125 F  k):=by
 intro k
 induction k with
 | zero=>unfold aN.S125;intros;rename_i hp;cases hp
 | succ k ih=>
  intro acx mT wy kJ ju QC QD QE FR oe FS og FT QF QG QH QI rx QJ QK QL mm H aoR aoS aoT h0 r hp
  obtain ⟨w0,s0,ac3,ac4,ac5⟩:=h0
  subst aoR
  subst aoS
  subst aoT
  unfold aN.pl125 at hp
  unfold aN.l125
  refine ay hp (λhp=>?_) λhp=>?_
  ·obtain ⟨n1,g1,hp⟩:=ag hp
   obtain ⟨p1,q1,i1,h1,j1⟩:=W.ixo (E:=(ac eI (eSl eI))) w0 (i:=4) rfl rfl ac5 g1
   refine ai i1 ?_
   obtain ⟨_,_,rfl,rfl,⟨⟨aou,m1_1,c1_1⟩,rfl,f1_1⟩⟩:=h1
   obtain rfl:m1_1=_:=f1_1.n
   refine ai (aG (j1 0 _ rfl)) ?_
   refine ai (iE (j1 1 _ rfl)) ?_
   refine aS w0 λH2 w2 s2=>?_
   refine aq w2 0 λH3 w3 s3=>?_
   refine aq w3 0 λH4 w4 s4=>?_
   refine lSl w4 0 ?_
   obtain ⟨w5,s5⟩:=w4.pp [1,2,3,4,5,0] 6
   exact aN.l8027_P (@ih) F rfl rfl rfl rfl ⟨w5,(s0.trans (s2.trans (s3.trans (s4.trans s5)))),(ac3.step (s2.trans (s3.trans (s4.trans s5)))),(ac4.step (s2.trans (s3.trans (s4.trans s5)))),(ac5.step (s2.trans (s3.trans (s4.trans s5)))),(f1_1.step (s2.trans (s3.trans (s4.trans s5))))⟩ hp
  ·obtain ⟨w6,s6⟩:=w0.pp [0,1,2,3] 5
   exact aN.j3_P rfl rfl ⟨w6,(s0.trans s6),(ac3.step s6),(ac4.step s6)⟩ hp
def aN.p (F:Nat) (aa:Int) (aF:as6) (au:Int) (bz:as6):Option (Int×List Int×Int):=(cH.p F ([(aa,aF),(au,bz)]:List (Int×List Int))).bind λr6=>(bif (!r6) then (some (0,([]:List Int),1)) else ((cN.p F aa aF).bind λr13=>(cN.p F au bz).bind λr16=>(mkn (wrap .i64 ((wrap .i64 ((if (if au<aa then au else aa)>(if r16>r13 then r16 else r13) then (if au<aa then au else aa) else (if r16>r13 then r16 else r13)) - (if au<aa then au else aa)))+1)) (0:Int)).bind λl19=>aN.pl125 F F (if au<aa then au else aa) (if au<aa then au else aa) l19 ([(aa,aF),(au,bz)]:List (Int×List Int)) (2:Int) 0))
theorem aN.P {aa au cj ev bD dg ck ew aF bz} (du:bD=aF.length) (gM:dg=bz.length) (h0:Inn H R0 λR=>ROs eI H R ⟨cj,bD,ck⟩ aF/\ROs eI H R ⟨ev,dg,ew⟩ bz) {r:atk} (hp:aN.p F aa aF au bz=some r):Rt (aN.tw F aa ⟨cj,bD,ck⟩ au ⟨ev,dg,ew⟩ H) (aN.Q H R0 R0  r):=by
 obtain ⟨w0,cq,fc⟩:=h0
 subst du
 subst gM
 unfold aN.p at hp
 unfold aN.tw aN.twX
 have s0:=w0.rf
 refine aS w0 λH1 w1 s1=>?_
 refine aS w1 λH2 w2 s2=>?_
 refine aS w2 λH3 w3 s3=>?_
 refine lI w3 2 ?_
 refine lSl w3 2 ?_
 refine lI w3 1 ?_
 refine lSl w3 1 ?_
 refine cK (ac eI (eSl eI)) w3 (n:=2) (l:=([(aa,aF),(au,bz)]:List (Int×List Int))) rfl (CR.cons (c:=[_,_]) ⟨[_],_,rfl,rfl,⟨_,rfl,(cq.step (s1.trans (s2.trans s3)))⟩⟩ (CR.cons (c:=[_,_]) ⟨[_],_,rfl,rfl,⟨_,rfl,(fc.step (s1.trans (s2.trans s3)))⟩⟩ CR.empty)) rfl λH4 w4 s4 c4=>?_
 have f5:=W.borrow1 (ac eI (eSl eI)) w4 c4
 obtain ⟨w5,s5⟩:=w4.right1
 obtain ⟨r6,e6,hp⟩:=ag hp
 refine aE (cH.P (show 2=List.length ([(aa,aF),(au,bz)]:List (Int×List Int)) from rfl) ⟨w5,f5⟩ e6) ?_
 rintro _ H7 ⟨rfl,w7,s7,_⟩
 obtain ⟨w8,s8⟩:=W.frame1 w4 w7 s7
 refine br ?_
 refine ay hp (λhp=>?_) λhp=>?_
 ·refine aq w8 1 λH9 w9 s9=>?_
  refine aq w9 1 λH10 w10 s10=>?_
  refine lI w10 1 ?_
  refine lSl w10 1 ?_
  obtain ⟨w11,s11⟩:=w10.nilS eI.z (by decide)
  obtain ⟨w12,s12⟩:=w11.pp [0] 5
  exact az hp ⟨_,_,_,_,rfl,rfl,w12,(s0.trans (s1.trans (s2.trans (s3.trans (s4.trans (s8.trans (s9.trans (s10.trans (s11.trans s12))))))))),((CR.empty:CR eI _ _ [] []).step s12)⟩
 ·refine lI w8 3 ?_
  refine lI w8 2 ?_
  refine lI w8 3 ?_
  refine lSl w8 3 ?_
  obtain ⟨r13,e13,hp⟩:=ag hp
  refine aE (cN.P rfl ⟨w8,(cq.step (s1.trans (s2.trans (s3.trans (s4.trans s8)))))⟩ e13) ?_
  rintro _ H14 ⟨rfl,w14,s14,_⟩
  refine br ?_
  refine eK (W.cons_of (Rn:=[]) w8 w14 s14) ?_
  refine lI w14 2 ?_
  refine lSl w14 2 ?_
  obtain ⟨r16,e16,hp⟩:=ag hp
  refine aE (cN.P rfl ⟨w14,(fc.step (s1.trans (s2.trans (s3.trans (s4.trans (s8.trans s14))))))⟩ e16) ?_
  rintro _ H17 ⟨rfl,w17,s17,_⟩
  refine br ?_
  refine eK (W.cons_of (Rn:=[]) w14 w17 s17) ?_
  obtain ⟨l19,e19,hp⟩:=ag hp
  refine ka eI (0:Int) w17 rfl rfl rfl e19 λH20 k20 w20 s20 c20=>?_
  refine aS w20 λH21 w21 s21=>?_
  refine aq w21 0 λH22 w22 s22=>?_
  refine aq w22 0 λH23 w23 s23=>?_
  refine lI w23 5 ?_
  refine lSl w23 5 ?_
  refine lI w23 4 ?_
  refine lSl w23 4 ?_
  refine cK (ac eI (eSl eI)) w23 (n:=2) (l:=([(aa,aF),(au,bz)]:List (Int×List Int))) rfl (CR.cons (c:=[_,_]) ⟨[_],_,rfl,rfl,⟨_,rfl,(cq.step (s1.trans (s2.trans (s3.trans (s4.trans (s8.trans (s14.trans (s17.trans (s20.trans (s21.trans (s22.trans s23)))))))))))⟩⟩ (CR.cons (c:=[_,_]) ⟨[_],_,rfl,rfl,⟨_,rfl,(fc.step (s1.trans (s2.trans (s3.trans (s4.trans (s8.trans (s14.trans (s17.trans (s20.trans (s21.trans (s22.trans s23)))))))))))⟩⟩ CR.empty)) rfl λH24 w24 s24 c24=>?_
  obtain ⟨w25,s25⟩:=w24.nilS eI.z (by decide)
  obtain ⟨w26,s26⟩:=w25.pp [0,5,3,2,1] 8
  exact aN.l125_P F rfl rfl (show 2=List.length ([(aa,aF),(au,bz)]:List (Int×List Int)) from rfl) ⟨w26,(s0.trans (s1.trans (s2.trans (s3.trans (s4.trans (s8.trans (s14.trans (s17.trans (s20.trans (s21.trans (s22.trans (s23.trans (s24.trans (s25.trans s26)))))))))))))),((CR.empty:CR eI _ _ [] []).step s26),(c20.step (s21.trans (s22.trans (s23.trans (s24.trans (s25.trans s26)))))),(c24.step (s25.trans s26))⟩ hp
def cp.Q (H0:Hp) (Ri R0:as3)  (r:as9) (v:AV) (H':Hp):Prop:=∃ o1a:ON,∃ o1n:Nat,∃ o1c:Cap,∃ o1k:List AV,v=(.agg [(.i r.1),(.sl ⟨o1a,o1n,o1c⟩)])/\o1n=(r.2).length/\Out H0 Ri H' (Rs.own ⟨o1a,o1n,o1c⟩ eI.z o1k::R0) λR=>CR eI H' R o1k (r.2)
def cp.p (F:Nat) (aa:Int) (aF:as6) (au:Int) (bz:as6):Option (Int×List Int):=(aN.p F aa aF au bz).bind λr4=>some (r4.1,r4.2.1)
theorem cp.P {aa au cj ev bD dg ck ew aF bz} (du:bD=aF.length) (gM:dg=bz.length) (h0:Inn H R0 λR=>ROs eI H R ⟨cj,bD,ck⟩ aF/\ROs eI H R ⟨ev,dg,ew⟩ bz) {r:as9} (hp:cp.p F aa aF au bz=some r):Rt (cp.tw F aa ⟨cj,bD,ck⟩ au ⟨ev,dg,ew⟩ H) (cp.Q H R0 R0  r):=by
 obtain ⟨w0,cq,fc⟩:=h0
 subst du
 subst gM
 unfold cp.p at hp
 unfold cp.tw cp.twX
 have s0:=w0.rf
 refine aS w0 λH1 w1 s1=>?_
 refine aS w1 λH2 w2 s2=>?_
 refine aS w2 λH3 w3 s3=>?_
 refine lI w3 2 ?_
 refine lSl w3 2 ?_
 refine lI w3 1 ?_
 refine lSl w3 1 ?_
 obtain ⟨r4,e4,hp⟩:=ag hp
 refine aE (aN.P rfl rfl ⟨w3,(cq.step (s1.trans (s2.trans s3))),(fc.step (s1.trans (s2.trans s3)))⟩ e4) ?_
 rintro _ H5 ⟨o1a_5,o1n_5,o1c_5,o1k_5,rfl,rfl,w5,s5,f5_0⟩
 refine br (br (br (br (br (br (br (br (br ?_))))))))
 refine aS w5 λH6 w6 s6=>?_
 refine aq w6 0 λH7 w7 s7=>?_
 refine aq w7 0 λH8 w8 s8=>?_
 refine lI w8 0 ?_
 refine lSl w8 0 ?_
 refine aq w8 2 λH9 w9 s9=>?_
 refine aq w9 2 λH10 w10 s10=>?_
 refine lI w10 2 ?_
 refine lSl w10 2 ?_
 obtain ⟨w11,s11⟩:=w10.pp [1] 5
 exact az hp ⟨_,_,_,_,rfl,rfl,w11,(s0.trans (s1.trans (s2.trans (s3.trans (s5.trans (s6.trans (s7.trans (s8.trans (s9.trans (s10.trans s11)))))))))),(f5_0.step (s6.trans (s7.trans (s8.trans (s9.trans (s10.trans s11))))))⟩
def el.Q (H0:Hp) (Ri R0:as3)  (r:Int) (v:AV) (H':Hp):Prop:=v=(.i r)/\Out H0 Ri H' (R0) λR=>True
def el.p (F:Nat) (aa:Int):Option (Int):=(bif (decide (aa<0)) then (some (-1)) else (some 1))
theorem el.P {aa}  (h0:Inn H R0 λR=>True) {r:Int} (hp:el.p F aa=some r):Rt (el.tw F aa H) (el.Q H R0 R0  r):=by
 obtain ⟨w0,_⟩:=h0
 unfold el.p at hp
 unfold el.tw el.twX
 have s0:=w0.rf
 refine ay hp (λhp=>?_) λhp=>?_
 ·exact az hp ⟨rfl,w0,s0,trivial⟩
 ·exact az hp ⟨rfl,w0,s0,trivial⟩
end
end Go.Proofs.Ytppbogklbhfboaa.AE
