import Derived.Test.YtodfdhnlhiaohaaT1
import Derived.Test.YtodfdhnlhiaohaaE2
set_option linter.unusedVariables false
set_option linter.unusedSimpArgs false
namespace Go.Proofs.Ytodfdhnlhiaohaa.AE
open Go Go.AE Go.Proofs IntKind
set_option linter.unusedVariables false
variable {F:Nat} {H H0:Hp} {Ri R0:KO}
set_option maxHeartbeats 4000000
set_option maxRecDepth 100000
noncomputable section
def dJ.Q (H0:Hp) (Ri R0:KO)  (r:Int) (v:AV) (H':Hp):Prop:=v=(.i r)/\Out H0 Ri H' (R0) λR=>True
def dJ.p (F:Nat) (ae:KT) (ar:Int):Option (Int):=(bif (decide ((wrap .i64 (ar - (ae.length:Int)))<0)) then (some (-1)) else (some (wrap .i64 (ar - (ae.length:Int)))))
theorem dJ.P {au ak av ae ar} (aJ:ak=ae.length) (h0:Inn H R0 λR=>ROs (aa eI (aa eI (aa eI (aa eI eI)))) H R ⟨au,ak,av⟩ ae) {r:Int} (hp:dJ.p F ae ar=some r):Rt (dJ.tw F ⟨au,ak,av⟩ ar H) (dJ.Q H R0 R0  r):=by
 obtain ⟨w0,aF⟩:=h0
 subst aJ
 unfold dJ.p at hp
 unfold dJ.tw dJ.twX
 have s0:=w0.rf
 refine aB hp (λhp=>?_) λhp=>?_
 ·exact aA hp ⟨rfl,w0,s0,trivial⟩
 ·exact aA hp ⟨rfl,w0,s0,trivial⟩
def cV.Q (H0:Hp) (Ri R0:KO)  (r:Int) (v:AV) (H':Hp):Prop:=v=(.i r)/\Out H0 Ri H' (R0) λR=>True
def cV.p (F:Nat) (ae:KT) (ay:Int):Option (Int):=(dJ.p F ae ay).bind λr2=>(bif (decide (r2<0)) then (some (-1)) else (some r2))
theorem cV.P {au ak av ae ag ay} (aJ:ak=ae.length) (h0:Inn H R0 λR=>ROs (aa eI (aa eI (aa eI (aa eI eI)))) H R ⟨au,ak,av⟩ ae) {r:Int} (hp:cV.p F ae ay=some r):Rt (cV.tw F ⟨au,ak,av⟩ ag ay H) (cV.Q H R0 R0  r):=by
 obtain ⟨w0,aF⟩:=h0
 subst aJ
 unfold cV.p at hp
 unfold cV.tw cV.twX
 have s0:=w0.rf
 refine aW w0 λH1 w1 s1=>?_
 refine lSl w1 0 ?_
 obtain ⟨r2,e2,hp⟩:=ah hp
 refine aM (dJ.P rfl ⟨w1,(aF.step s1)⟩ e2) ?_
 rintro _ H3 ⟨rfl,w3,s3,_⟩
 refine br ?_
 refine aB hp (λhp=>?_) λhp=>?_
 ·obtain ⟨w4,s4⟩:=w3.pp [] 1
  exact aA hp ⟨rfl,w4,(s0.trans (s1.trans (s3.trans s4))),trivial⟩
 ·obtain ⟨w5,s5⟩:=w3.pp [] 1
  exact aA hp ⟨rfl,w5,(s0.trans (s1.trans (s3.trans s5))),trivial⟩
def dD.Q (H0:Hp) (Ri R0:KO)  (r:LS) (v:AV) (H':Hp):Prop:=v=(.agg [(.i r.1),(.i r.2.1),(.i r.2.2.1),(.i r.2.2.2.1),(.i r.2.2.2.2)])/\Out H0 Ri H' (R0) λR=>True
def dD.p (F:Nat) (ac:Int) (ag:Int) (bm:Int) (bo:Int) (bf:Int):Option (Int×Int×Int×Int×Int):=some (ac,ag,bm,bo,bf)
theorem dD.P {ac ag bm bo bf}  (h0:Inn H R0 λR=>True) {r:LS} (hp:dD.p F ac ag bm bo bf=some r):Rt (dD.tw F ac ag bm bo bf H) (dD.Q H R0 R0  r):=by
 obtain ⟨w0,_⟩:=h0
 unfold dD.p at hp
 unfold dD.tw dD.twX
 have s0:=w0.rf
 refine aW w0 λH1 w1 s1=>?_
 refine aW w1 λH2 w2 s2=>?_
 refine aW w2 λH3 w3 s3=>?_
 refine lI w3 2 ?_
 refine aC w3 0 λH4 w4 s4=>?_
 refine lI w4 2 ?_
 refine aC w4 0 λH5 w5 s5=>?_
 refine lI w5 2 ?_
 refine aC w5 0 λH6 w6 s6=>?_
 refine lI w6 2 ?_
 refine aC w6 0 λH7 w7 s7=>?_
 refine lI w7 2 ?_
 refine aC w7 0 λH8 w8 s8=>?_
 refine lI w8 0 ?_
 refine lI w8 0 ?_
 refine lI w8 0 ?_
 refine lI w8 0 ?_
 refine lI w8 0 ?_
 refine aC w8 1 λH9 w9 s9=>?_
 refine aC w9 1 λH10 w10 s10=>?_
 refine aC w10 1 λH11 w11 s11=>?_
 refine aC w11 1 λH12 w12 s12=>?_
 dsimp only [pk,pks,nth,List.drop,List.set,List.eraseIdx] at w12 s4 s5 s6 s7 s8 s9 s10 s11 s12
 refine aC w12 1 λH13 w13 s13=>?_
 refine lI w13 1 ?_
 refine lI w13 1 ?_
 refine lI w13 1 ?_
 refine lI w13 1 ?_
 refine lI w13 1 ?_
 obtain ⟨w14,s14⟩:=w13.pp [] 3
 exact aA hp ⟨rfl,w14,(s0.trans (s1.trans (s2.trans (s3.trans (s4.trans (s5.trans (s6.trans (s7.trans (s8.trans (s9.trans (s10.trans (s11.trans (s12.trans (s13.trans s14)))))))))))))),trivial⟩
def bu.Q (H0:Hp) (Ri R0:KO)  (r:(List (Int×Int×Int×Int×Int))) (v:AV) (H':Hp):Prop:=∃ o0a:ON,∃ o0n:Nat,∃ o0c:Cap,∃ o0k:List AV,v=(.sl ⟨o0a,o0n,o0c⟩)/\o0n=(r).length/\Out H0 Ri H' (Rs.own ⟨o0a,o0n,o0c⟩ (aa eI (aa eI (aa eI (aa eI eI)))).z o0k::R0) λR=>CR (aa eI (aa eI (aa eI (aa eI eI)))) H' R o0k (r)
def bu.S29 (H0:Hp) (Ri R0:KO)  (C:Ly) (pC:List (Int×Int×Int×Int×Int)->List (Int×Int×Int×Int×Int)->Int->Option ((List (Int×Int×Int×Int×Int)))):Prop:=∀ {dv td cG qE dw te aL gm tf da},∀ {H:Hp},cG=aL.length->qE=gm.length->(Out H0 Ri H (Rs.own ⟨td,qE,te⟩ (aa eI (aa eI (aa eI (aa eI eI)))).z tf::R0) λR=>ROs (aa eI (aa eI (aa eI (aa eI eI)))) H R ⟨dv,cG,dw⟩ aL/\CR (aa eI (aa eI (aa eI (aa eI eI)))) H R tf gm)->∀ {r:(List (Int×Int×Int×Int×Int))},pC aL gm da=some r->Rt (C ⟨dv,cG,dw⟩ ⟨td,qE,te⟩ da H) (bu.Q H0 Ri R0  r)
def bu.pl29 (F:Nat) :Nat->List (Int×Int×Int×Int×Int)->List (Int×Int×Int×Int×Int)->Int->Option ((List (Int×Int×Int×Int×Int)))
 | 0,_,_,_=>none
 | k+1,aL,gm,da=>(bif (decide (da<(aL.length:Int))) then ((ix aL da).bind λn1=>(dD.p F ((gt aL n1).1) ((gt aL n1).2.1) ((gt aL n1).2.2.1) ((gt aL n1).2.2.2.1) ((gt aL n1).2.2.2.2)).bind λr2=>(ix gm da).bind λn4=>(some (gm.set n4 (r2.1,(gt gm n4).2.1,(gt gm n4).2.2.1,(gt gm n4).2.2.2.1,(gt gm n4).2.2.2.2))).bind λl5=>(some (l5.set n4 ((gt l5 n4).1,r2.2.1,(gt l5 n4).2.2.1,(gt l5 n4).2.2.2.1,(gt l5 n4).2.2.2.2))).bind λl7=>(some (l7.set n4 ((gt l7 n4).1,(gt l7 n4).2.1,r2.2.2.1,(gt l7 n4).2.2.2.1,(gt l7 n4).2.2.2.2))).bind λl9=>(some (l9.set n4 ((gt l9 n4).1,(gt l9 n4).2.1,(gt l9 n4).2.2.1,r2.2.2.2.1,(gt l9 n4).2.2.2.2))).bind λl11=>(some (l11.set n4 ((gt l11 n4).1,(gt l11 n4).2.1,(gt l11 n4).2.2.1,(gt l11 n4).2.2.2.1,r2.2.2.2.2))).bind λl13=>bu.pl29 F k aL l13 (wrap .i64 (da+1))) else (some gm))
theorem bu.l29_P  :∀ k,bu.S29 H0 Ri R0  (bu.l29 F (dD.tw F)  k) (bu.pl29 F  k):=by
 intro k
 induction k with
 | zero=>unfold bu.S29;intros;rename_i hp;cases hp
 | succ k ih=>
  intro dv td cG qE dw te aL gm tf da H fx Fe h0 r hp
  obtain ⟨w0,s0,dh,tg⟩:=h0
  subst fx
  subst Fe
  unfold bu.pl29 at hp
  unfold bu.l29
  refine aB hp (λhp=>?_) λhp=>?_
  ·obtain ⟨n1,g1,hp⟩:=ah hp
   obtain ⟨p1,q1,i1,h1,j1⟩:=ROs.ixr dh rfl g1
   refine aj i1 ?_
   obtain ⟨_,_,rfl,rfl,_,_,rfl,rfl,_,_,rfl,rfl,_,_,rfl,rfl,rfl⟩:=h1
   refine aj (aD (j1 0 _ rfl)) ?_
   refine aj (aD (j1 1 _ rfl)) ?_
   refine aj (aD (j1 2 _ rfl)) ?_
   refine aj (aD (j1 3 _ rfl)) ?_
   refine aj (aD (j1 4 _ rfl)) ?_
   obtain ⟨r2,e2,hp⟩:=ah hp
   refine aM (dD.P ⟨w0,trivial⟩ e2) ?_
   rintro _ H3 ⟨rfl,w3,s3,_⟩
   refine br (br (br (br (br (br (br (br (br (br (br ?_))))))))))
   obtain ⟨n4,g4,hp⟩:=ah hp
   obtain ⟨p4,q4,i4,h4,j4⟩:=W.ixo (E:=(aa eI (aa eI (aa eI (aa eI eI))))) w3 (i:=0) rfl rfl (tg.step s3) g4
   refine aj i4 ?_
   obtain ⟨l5,e5,hp⟩:=ah hp
   refine dA (aa eI (aa eI (aa eI (aa eI eI)))) w3 (i:=0) (j:=0) (p:=p4) rfl rfl (tg.step s3) g4 i4 e5 rfl rfl (λ_ h=>by obtain ⟨_,_,rfl,rfl,_,_,rfl,rfl,_,_,rfl,rfl,_,_,rfl,rfl,rfl⟩:=h;exact ⟨[_],_,rfl,rfl,[_],_,rfl,rfl,[_],_,rfl,rfl,[_],_,rfl,rfl,rfl⟩) λH6 k6 w6 s6 c6=>?_
   obtain ⟨l7,e7,hp⟩:=ah hp
   refine dA (aa eI (aa eI (aa eI (aa eI eI)))) w6 (i:=0) (j:=1) (p:=p4) rfl rfl c6 (nu g4 (cl e5)) i4 e7 rfl rfl (λ_ h=>by obtain ⟨_,_,rfl,rfl,_,_,rfl,rfl,_,_,rfl,rfl,_,_,rfl,rfl,rfl⟩:=h;exact ⟨[_],_,rfl,rfl,[_],_,rfl,rfl,[_],_,rfl,rfl,[_],_,rfl,rfl,rfl⟩) λH8 k8 w8 s8 c8=>?_
   obtain ⟨l9,e9,hp⟩:=ah hp
   refine dA (aa eI (aa eI (aa eI (aa eI eI)))) w8 (i:=0) (j:=2) (p:=p4) rfl rfl c8 (nu g4 ((cl e7).trans (cl e5))) i4 e9 rfl rfl (λ_ h=>by obtain ⟨_,_,rfl,rfl,_,_,rfl,rfl,_,_,rfl,rfl,_,_,rfl,rfl,rfl⟩:=h;exact ⟨[_],_,rfl,rfl,[_],_,rfl,rfl,[_],_,rfl,rfl,[_],_,rfl,rfl,rfl⟩) λH10 k10 w10 s10 c10=>?_
   obtain ⟨l11,e11,hp⟩:=ah hp
   refine dA (aa eI (aa eI (aa eI (aa eI eI)))) w10 (i:=0) (j:=3) (p:=p4) rfl rfl c10 (nu g4 (((cl e9).trans (cl e7)).trans (cl e5))) i4 e11 rfl rfl (λ_ h=>by obtain ⟨_,_,rfl,rfl,_,_,rfl,rfl,_,_,rfl,rfl,_,_,rfl,rfl,rfl⟩:=h;exact ⟨[_],_,rfl,rfl,[_],_,rfl,rfl,[_],_,rfl,rfl,[_],_,rfl,rfl,rfl⟩) λH12 k12 w12 s12 c12=>?_
   obtain ⟨l13,e13,hp⟩:=ah hp
   refine dA (aa eI (aa eI (aa eI (aa eI eI)))) w12 (i:=0) (j:=4) (p:=p4) rfl rfl c12 (nu g4 ((((cl e11).trans (cl e9)).trans (cl e7)).trans (cl e5))) i4 e13 rfl rfl (λ_ h=>by obtain ⟨_,_,rfl,rfl,_,_,rfl,rfl,_,_,rfl,rfl,_,_,rfl,rfl,rfl⟩:=h;exact ⟨[_],_,rfl,rfl,[_],_,rfl,rfl,[_],_,rfl,rfl,[_],_,rfl,rfl,rfl⟩) λH14 k14 w14 s14 c14=>?_
   exact ih rfl (((((cl e5).symm.trans (cl e7).symm).trans (cl e9).symm).trans (cl e11).symm).trans (cl e13).symm) ⟨w14,(s0.trans (s3.trans (s6.trans (s8.trans (s10.trans (s12.trans s14)))))),(dh.step (s3.trans (s6.trans (s8.trans (s10.trans (s12.trans s14)))))),c14⟩ hp
  ·exact aA hp ⟨_,_,_,_,rfl,rfl,w0,s0,tg⟩
def bu.p (F:Nat) (ae:KT):Option ((List (Int×Int×Int×Int×Int))):=(mkn (ae.length:Int) ((0:Int),(0:Int),(0:Int),(0:Int),(0:Int))).bind λl1=>bu.pl29 F F ae l1 0
theorem bu.P {au ak av ae} (aJ:ak=ae.length) (h0:Inn H R0 λR=>ROs (aa eI (aa eI (aa eI (aa eI eI)))) H R ⟨au,ak,av⟩ ae) {r:(List (Int×Int×Int×Int×Int))} (hp:bu.p F ae=some r):Rt (bu.tw F ⟨au,ak,av⟩ H) (bu.Q H R0 R0  r):=by
 obtain ⟨w0,aF⟩:=h0
 subst aJ
 unfold bu.p at hp
 unfold bu.tw bu.twX
 have s0:=w0.rf
 obtain ⟨l1,e1,hp⟩:=ah hp
 refine nv (aa eI (aa eI (aa eI (aa eI eI)))) ((0:Int),(0:Int),(0:Int),(0:Int),(0:Int)) w0 ⟨[_],_,rfl,rfl,⟨[_],_,rfl,rfl,⟨[_],_,rfl,rfl,⟨[_],_,rfl,rfl,rfl⟩⟩⟩⟩ rfl rfl e1 λH2 k2 w2 s2 c2=>?_
 exact bu.l29_P F rfl rfl ⟨w2,(s0.trans s2),(aF.step s2),c2⟩ hp
def cv.Q (H0:Hp) (Ri R0:KO)  (r:(List (Int×Int×Int×Int×Int))×Int) (v:AV) (H':Hp):Prop:=∃ o0a:ON,∃ o0n:Nat,∃ o0c:Cap,∃ o0k:List AV,v=(.agg [(.sl ⟨o0a,o0n,o0c⟩),(.i r.2)])/\o0n=(r.1).length/\Out H0 Ri H' (Rs.own ⟨o0a,o0n,o0c⟩ (aa eI (aa eI (aa eI (aa eI eI)))).z o0k::R0) λR=>CR (aa eI (aa eI (aa eI (aa eI eI)))) H' R o0k (r.1)
def cv.p (F:Nat) (ae:KT) (ag:Int):Option ((List (Int×Int×Int×Int×Int))×Int):=(bu.p F ae).bind λr4=>some (r4,ag)
theorem cv.P {au ak av ae ag} (aJ:ak=ae.length) (h0:Inn H R0 λR=>ROs (aa eI (aa eI (aa eI (aa eI eI)))) H R ⟨au,ak,av⟩ ae) {r:(List (Int×Int×Int×Int×Int))×Int} (hp:cv.p F ae ag=some r):Rt (cv.tw F ⟨au,ak,av⟩ ag H) (cv.Q H R0 R0  r):=by
 obtain ⟨w0,aF⟩:=h0
 subst aJ
 unfold cv.p at hp
 unfold cv.tw cv.twX
 have s0:=w0.rf
 refine aW w0 λH1 w1 s1=>?_
 refine aW w1 λH2 w2 s2=>?_
 refine aW w2 λH3 w3 s3=>?_
 refine lSl w3 2 ?_
 obtain ⟨r4,e4,hp⟩:=ah hp
 refine aM (bu.P rfl ⟨w3,(aF.step (s1.trans (s2.trans s3)))⟩ e4) ?_
 rintro _ H5 ⟨o0a_5,o0n_5,o0c_5,o0k_5,rfl,rfl,w5,s5,f5_0⟩
 refine br ?_
 refine aC w5 1 λH6 w6 s6=>?_
 refine lI w6 3 ?_
 refine aC w6 1 λH7 w7 s7=>?_
 refine lSl w7 1 ?_
 refine lI w7 1 ?_
 refine aC w7 2 λH8 w8 s8=>?_
 refine aC w8 2 λH9 w9 s9=>?_
 refine lSl w9 2 ?_
 refine lI w9 2 ?_
 obtain ⟨w10,s10⟩:=w9.pp [0] 4
 exact aA hp ⟨_,_,_,_,rfl,rfl,w10,(s0.trans (s1.trans (s2.trans (s3.trans (s5.trans (s6.trans (s7.trans (s8.trans (s9.trans s10))))))))),(f5_0.step (s6.trans (s7.trans (s8.trans (s9.trans s10)))))⟩
def cP.Q (H0:Hp) (Ri R0:KO)  (r:Bool) (v:AV) (H':Hp):Prop:=v=(.bool r)/\Out H0 Ri H' (R0) λR=>True
def cP.p (F:Nat) (ac:Int) (ar:Int) (cA:Int):Option (Bool):=(bif (decide (ac>=ar)) then (some (decide (ac<=cA))) else (some false))
theorem cP.P {ac ar cA}  (h0:Inn H R0 λR=>True) {r:Bool} (hp:cP.p F ac ar cA=some r):Rt (cP.tw F ac ar cA H) (cP.Q H R0 R0  r):=by
 obtain ⟨w0,_⟩:=h0
 unfold cP.p at hp
 unfold cP.tw cP.twX
 have s0:=w0.rf
 refine aB hp (λhp=>?_) λhp=>?_
 ·exact aA hp ⟨rfl,w0,s0,trivial⟩
 ·exact aA hp ⟨rfl,w0,s0,trivial⟩
def bW.Q (H0:Hp) (Ri R0:KO)  (r:Int) (v:AV) (H':Hp):Prop:=v=(.i r)/\Out H0 Ri H' (R0) λR=>True
def bW.p (F:Nat) (ac:Int) (ag:Int) (bm:Int) (bo:Int) (bG:Int):Option (Int):=(ix ([ac,ag,bm,bo]:List Int) bG).bind λn3=>some (gt ([ac,ag,bm,bo]:List Int) n3)
theorem bW.P {ac ag bm bo bf bG}  (h0:Inn H R0 λR=>True) {r:Int} (hp:bW.p F ac ag bm bo bG=some r):Rt (bW.tw F ac ag bm bo bf bG H) (bW.Q H R0 R0  r):=by
 obtain ⟨w0,_⟩:=h0
 unfold bW.p at hp
 unfold bW.tw bW.twX
 have s0:=w0.rf
 refine aW w0 λH1 w1 s1=>?_
 refine lI w1 0 ?_
 refine lI w1 0 ?_
 refine lI w1 0 ?_
 refine lI w1 0 ?_
 refine dj eI w1 (n:=4) (l:=([ac,ag,bm,bo]:List Int)) rfl (CR.cons1 rfl (CR.cons1 rfl (CR.cons1 rfl (CR.cons1 rfl CR.empty)))) rfl λH2 w2 s2 c2=>?_
 obtain ⟨n3,g3,hp⟩:=ah hp
 obtain ⟨p3,q3,i3,h3,j3⟩:=W.ixo (E:=eI) w2 (i:=0) rfl rfl c2 g3
 refine aj i3 ?_
 have h3:_=[_]:=h3
 subst h3
 refine aj (aD (j3 0 _ rfl)) ?_
 obtain ⟨w4,s4⟩:=w2.pp [] 2
 exact aA hp ⟨rfl,w4,(s0.trans (s1.trans (s2.trans s4))),trivial⟩
def bX.Q (H0:Hp) (Ri R0:KO)  (r:Bool) (v:AV) (H':Hp):Prop:=v=(.bool r)/\Out H0 Ri H' (R0) λR=>True
def bX.p (F:Nat) (bf:Int) (bG:Int):Option (Bool):=(bif (bG==0) then (some true) else ((bif (bG==3) then ((bif (bf==1) then (some true) else ((bif (bG==1) then (some (bf==(-1))) else (some false))))) else ((bif (bG==1) then (some (bf==(-1))) else (some false))))))
theorem bX.P {ac ag bm bo bf bG}  (h0:Inn H R0 λR=>True) {r:Bool} (hp:bX.p F bf bG=some r):Rt (bX.tw F ac ag bm bo bf bG H) (bX.Q H R0 R0  r):=by
 obtain ⟨w0,_⟩:=h0
 unfold bX.p at hp
 unfold bX.tw bX.twX
 have s0:=w0.rf
 refine aW w0 λH1 w1 s1=>?_
 refine aB hp (λhp=>?_) λhp=>?_
 ·obtain ⟨w2,s2⟩:=w1.pp [] 1
  exact aA hp ⟨rfl,w2,(s0.trans (s1.trans s2)),trivial⟩
 ·refine aB hp (λhp=>?_) λhp=>?_
  ·refine lI w1 0 ?_
   refine aB hp (λhp=>?_) λhp=>?_
   ·obtain ⟨w3,s3⟩:=w1.pp [] 1
    exact aA hp ⟨rfl,w3,(s0.trans (s1.trans s3)),trivial⟩
   ·refine aB hp (λhp=>?_) λhp=>?_
    ·refine lI w1 0 ?_
     obtain ⟨w4,s4⟩:=w1.pp [] 1
     exact aA hp ⟨rfl,w4,(s0.trans (s1.trans s4)),trivial⟩
    ·obtain ⟨w5,s5⟩:=w1.pp [] 1
     exact aA hp ⟨rfl,w5,(s0.trans (s1.trans s5)),trivial⟩
  ·refine aB hp (λhp=>?_) λhp=>?_
   ·refine lI w1 0 ?_
    obtain ⟨w6,s6⟩:=w1.pp [] 1
    exact aA hp ⟨rfl,w6,(s0.trans (s1.trans s6)),trivial⟩
   ·obtain ⟨w7,s7⟩:=w1.pp [] 1
    exact aA hp ⟨rfl,w7,(s0.trans (s1.trans s7)),trivial⟩
def aE.Q (H0:Hp) (Ri R0:KO)  (r:Bool) (v:AV) (H':Hp):Prop:=v=(.bool r)/\Out H0 Ri H' (R0) λR=>True
def aE.S61 (H0:Hp) (Ri R0:KO)  (C:LF) (pC:LI):Prop:=∀ {ka kb th iJ dR iK qF kc kd ti cH nZ eN fe eF ke kf tj},∀ {H:Hp},iJ=cH.length->iK=eF.length->qF=ke.length->(Out H0 Ri H (Rs.blk dR [.sl ⟨ka,iJ,kc⟩,.i nZ]::Rs.own ⟨kb,iK,kd⟩ bF.z kf::Rs.own ⟨th,qF,ti⟩ bF.z tj::R0) λR=>ROs (aa eI (aa eI (aa eI (aa eI eI)))) H R ⟨ka,iJ,kc⟩ cH/\CR bF H R kf eF/\CR bF H R tj ke)->∀ {r:Bool},pC cH eN eF ke fe=some r->Rt (C dR 0 eN ⟨kb,iK,kd⟩ ⟨th,qF,ti⟩ fe H) (aE.Q H0 Ri R0  r)
def aE.S3927 (H0:Hp) (Ri R0:KO)  (C:Nat->Nat->Int->Sl->Sl->Int->Nat->Nat->Int->Hp->OA) (pC:List (Int×Int×Int×Int×Int)->Int->List Bool->List Bool->Int->Int->Int->Int->Int->Int->Int->Option (Bool)):Prop:=∀ {tl tn tp qG iA qH qI er tq tt tu jl zj fd eo kg ki kj kl kn eM gX gY tv tz},∀ {H:Hp},qG=jl.length->qH=gX.length->qI=gY.length->(Out H0 Ri H (Rs.blk iA [.sl ⟨tl,qG,tq⟩,.i zj]::Rs.own ⟨tn,qH,tt⟩ bF.z tv::Rs.own ⟨tp,qI,tu⟩ bF.z tz::Rs.blk er [.i kg,.i ki,.i kj,.i kl,.i kn]::R0) λR=>ROs (aa eI (aa eI (aa eI (aa eI eI)))) H R ⟨tl,qG,tq⟩ jl/\CR bF H R tv gX/\CR bF H R tz gY)->∀ {r:Bool},pC jl fd gX gY eo kg ki kj kl kn eM=some r->Rt (C iA 0 fd ⟨tn,qH,tt⟩ ⟨tp,qI,tu⟩ eo er 0 eM H) (aE.Q H0 Ri R0  r)
def aE.pl3927 (F:Nat) (aG:LI):Nat->List (Int×Int×Int×Int×Int)->Int->List Bool->List Bool->Int->Int->Int->Int->Int->Int->Int->Option (Bool)
 | 0,_,_,_,_,_,_,_,_,_,_,_=>none
 | k+1,jl,fd,gX,gY,eo,kg,ki,kj,kl,kn,eM=>(bif (decide (eM<4)) then ((bW.p F kg ki kj kl eM).bind λr1=>(cP.p F r1 0 (wrap .i64 (fd - 1))).bind λr3=>(bif (!r3) then (some false) else ((bX.p F kn eM).bind λr6=>(bif r6 then ((ix gX r1).bind λn8=>(bif (gt gX n8) then (some false) else ((ix gX r1).bind λn10=>(some (gX.set n10 true)).bind λl11=>aE.pl3927 F aG k jl fd l11 gY eo kg ki kj kl kn (wrap .i64 (eM+1))))) else ((ix gY r1).bind λn13=>(bif (gt gY n13) then (some false) else ((ix gY r1).bind λn15=>(some (gY.set n15 true)).bind λl16=>aE.pl3927 F aG k jl fd gX l16 eo kg ki kj kl kn (wrap .i64 (eM+1))))))))) else (aG jl fd gX gY (wrap .i64 (eo+1))))
theorem aE.l3927_P  {C61_:LF} {aG:LI} (hC61:aE.S61 H0 Ri R0  C61_ aG):∀ k,aE.S3927 H0 Ri R0  (aE.l3927 F (bW.tw F) (cP.tw F) (bX.tw F) C61_ k) (aE.pl3927 F aG k):=by
 intro k
 induction k with
 | zero=>unfold aE.S3927;intros;rename_i hp;cases hp
 | succ k ih=>
  intro tl tn tp qG iA qH qI er tq tt tu jl zj fd eo kg ki kj kl kn eM gX gY tv tz H Ff Fg Fh h0 r hp
  obtain ⟨w0,s0,tB,n_,oa⟩:=h0
  subst Ff
  subst Fg
  subst Fh
  unfold aE.pl3927 at hp
  unfold aE.l3927
  refine aB hp (λhp=>?_) λhp=>?_
  ·refine lI w0 3 ?_
   refine lI w0 3 ?_
   refine lI w0 3 ?_
   refine lI w0 3 ?_
   refine lI w0 3 ?_
   obtain ⟨r1,e1,hp⟩:=ah hp
   refine aM (bW.P ⟨w0,trivial⟩ e1) ?_
   rintro _ H2 ⟨rfl,w2,s2,_⟩
   refine br ?_
   obtain ⟨r3,e3,hp⟩:=ah hp
   refine aM (cP.P ⟨w2,trivial⟩ e3) ?_
   rintro _ H4 ⟨rfl,w4,s4,_⟩
   refine br ?_
   refine aB hp (λhp=>?_) λhp=>?_
   ·obtain ⟨w5,s5⟩:=w4.pp [] 4
    exact aA hp ⟨rfl,w5,(s0.trans (s2.trans (s4.trans s5))),trivial⟩
   ·refine lI w4 3 ?_
    refine lI w4 3 ?_
    refine lI w4 3 ?_
    refine lI w4 3 ?_
    refine lI w4 3 ?_
    obtain ⟨r6,e6,hp⟩:=ah hp
    refine aM (bX.P ⟨w4,trivial⟩ e6) ?_
    rintro _ H7 ⟨rfl,w7,s7,_⟩
    refine br ?_
    refine aB hp (λhp=>?_) λhp=>?_
    ·obtain ⟨n8,g8,hp⟩:=ah hp
     obtain ⟨p8,q8,i8,h8,j8⟩:=W.ixo (E:=bF) w7 (i:=1) rfl rfl (n_.step (s2.trans (s4.trans s7))) g8
     refine aj i8 ?_
     have h8:_=[_]:=h8
     subst h8
     refine aj (nw (j8 0 _ rfl)) ?_
     refine aB hp (λhp=>?_) λhp=>?_
     ·obtain ⟨w9,s9⟩:=w7.pp [] 4
      exact aA hp ⟨rfl,w9,(s0.trans (s2.trans (s4.trans (s7.trans s9)))),trivial⟩
     ·obtain ⟨n10,g10,hp⟩:=ah hp
      obtain ⟨p10,q10,i10,h10,j10⟩:=W.ixo (E:=bF) w7 (i:=1) rfl rfl (n_.step (s2.trans (s4.trans s7))) g10
      refine aj i10 ?_
      obtain ⟨l11,e11,hp⟩:=ah hp
      refine dA bF w7 (i:=1) (j:=0) (p:=p10) rfl rfl (n_.step (s2.trans (s4.trans s7))) g10 i10 e11 rfl rfl (λ_ h=>by have h:_=[_]:=h;subst h;exact rfl) λH12 k12 w12 s12 c12=>?_
      exact ih rfl ((cl e11).symm) rfl ⟨w12,(s0.trans (s2.trans (s4.trans (s7.trans s12)))),(tB.step (s2.trans (s4.trans (s7.trans s12)))),c12,(oa.step (s2.trans (s4.trans (s7.trans s12))))⟩ hp
    ·obtain ⟨n13,g13,hp⟩:=ah hp
     obtain ⟨p13,q13,i13,h13,j13⟩:=W.ixo (E:=bF) w7 (i:=2) rfl rfl (oa.step (s2.trans (s4.trans s7))) g13
     refine aj i13 ?_
     have h13:_=[_]:=h13
     subst h13
     refine aj (nw (j13 0 _ rfl)) ?_
     refine aB hp (λhp=>?_) λhp=>?_
     ·obtain ⟨w14,s14⟩:=w7.pp [] 4
      exact aA hp ⟨rfl,w14,(s0.trans (s2.trans (s4.trans (s7.trans s14)))),trivial⟩
     ·obtain ⟨n15,g15,hp⟩:=ah hp
      obtain ⟨p15,q15,i15,h15,j15⟩:=W.ixo (E:=bF) w7 (i:=2) rfl rfl (oa.step (s2.trans (s4.trans s7))) g15
      refine aj i15 ?_
      obtain ⟨l16,e16,hp⟩:=ah hp
      refine dA bF w7 (i:=2) (j:=0) (p:=p15) rfl rfl (oa.step (s2.trans (s4.trans s7))) g15 i15 e16 rfl rfl (λ_ h=>by have h:_=[_]:=h;subst h;exact rfl) λH17 k17 w17 s17 c17=>?_
      exact ih rfl rfl ((cl e16).symm) ⟨w17,(s0.trans (s2.trans (s4.trans (s7.trans s17)))),(tB.step (s2.trans (s4.trans (s7.trans s17)))),(n_.step (s2.trans (s4.trans (s7.trans s17)))),c17⟩ hp
  ·obtain ⟨w18,s18⟩:=w0.pp [0,1,2] 4
   exact hC61 rfl rfl rfl ⟨w18,(s0.trans s18),(tB.step s18),(n_.step s18),(oa.step s18)⟩ hp
def aE.pl61 (F:Nat) :Nat->List (Int×Int×Int×Int×Int)->Int->List Bool->List Bool->Int->Option (Bool)
 | 0,_,_,_,_,_=>none
 | k+1,cH,eN,eF,ke,fe=>(bif (decide (fe<(cH.length:Int))) then ((ix cH fe).bind λn1=>(bif (((gt cH n1).2.2.2.2) != 1) then ((bif (((gt cH n1).2.2.2.2) != (-1)) then (some false) else (aE.pl3927 F (aE.pl61 F k) F cH eN eF ke fe ((gt cH n1).1) ((gt cH n1).2.1) ((gt cH n1).2.2.1) ((gt cH n1).2.2.2.1) ((gt cH n1).2.2.2.2) 0))) else (aE.pl3927 F (aE.pl61 F k) F cH eN eF ke fe ((gt cH n1).1) ((gt cH n1).2.1) ((gt cH n1).2.2.1) ((gt cH n1).2.2.2.1) ((gt cH n1).2.2.2.2) 0))) else (some true))
theorem aE.l61_P  :∀ k,aE.S61 H0 Ri R0  (aE.l61 F (bW.tw F) (cP.tw F) (bX.tw F)  k) (aE.pl61 F  k):=by
 intro k
 induction k with
 | zero=>unfold aE.S61;intros;rename_i hp;cases hp
 | succ k ih=>
  intro ka kb th iJ dR iK qF kc kd ti cH nZ eN fe eF ke kf tj H tC tD Fi h0 r hp
  obtain ⟨w0,s0,mZ,m_,zk⟩:=h0
  subst tC
  subst tD
  subst Fi
  unfold aE.pl61 at hp
  unfold aE.l61
  refine lSl w0 0 ?_
  refine aB hp (λhp=>?_) λhp=>?_
  ·refine lSl w0 0 ?_
   obtain ⟨n1,g1,hp⟩:=ah hp
   obtain ⟨p1,q1,i1,h1,j1⟩:=ROs.ixr mZ rfl g1
   refine aj i1 ?_
   obtain ⟨_,_,rfl,rfl,_,_,rfl,rfl,_,_,rfl,rfl,_,_,rfl,rfl,rfl⟩:=h1
   refine aj (aD (j1 0 _ rfl)) ?_
   refine aj (aD (j1 1 _ rfl)) ?_
   refine aj (aD (j1 2 _ rfl)) ?_
   refine aj (aD (j1 3 _ rfl)) ?_
   refine aj (aD (j1 4 _ rfl)) ?_
   refine aW w0 λH2 w2 s2=>?_
   refine aC w2 0 λH3 w3 s3=>?_
   refine aC w3 0 λH4 w4 s4=>?_
   refine aC w4 0 λH5 w5 s5=>?_
   refine aC w5 0 λH6 w6 s6=>?_
   refine aC w6 0 λH7 w7 s7=>?_
   refine lI w7 0 ?_
   refine aB hp (λhp=>?_) λhp=>?_
   ·refine lI w7 0 ?_
    refine aB hp (λhp=>?_) λhp=>?_
    ·obtain ⟨w8,s8⟩:=w7.pp [] 4
     exact aA hp ⟨rfl,w8,(s0.trans (s2.trans (s3.trans (s4.trans (s5.trans (s6.trans (s7.trans s8))))))),trivial⟩
    ·obtain ⟨w9,s9⟩:=w7.pp [1,2,3,0] 4
     exact aE.l3927_P (@ih) F rfl rfl rfl ⟨w9,(s0.trans (s2.trans (s3.trans (s4.trans (s5.trans (s6.trans (s7.trans s9))))))),(mZ.step (s2.trans (s3.trans (s4.trans (s5.trans (s6.trans (s7.trans s9))))))),(m_.step (s2.trans (s3.trans (s4.trans (s5.trans (s6.trans (s7.trans s9))))))),(zk.step (s2.trans (s3.trans (s4.trans (s5.trans (s6.trans (s7.trans s9)))))))⟩ hp
   ·obtain ⟨w10,s10⟩:=w7.pp [1,2,3,0] 4
    exact aE.l3927_P (@ih) F rfl rfl rfl ⟨w10,(s0.trans (s2.trans (s3.trans (s4.trans (s5.trans (s6.trans (s7.trans s10))))))),(mZ.step (s2.trans (s3.trans (s4.trans (s5.trans (s6.trans (s7.trans s10))))))),(m_.step (s2.trans (s3.trans (s4.trans (s5.trans (s6.trans (s7.trans s10))))))),(zk.step (s2.trans (s3.trans (s4.trans (s5.trans (s6.trans (s7.trans s10)))))))⟩ hp
  ·obtain ⟨w11,s11⟩:=w0.pp [] 3
   exact aA hp ⟨rfl,w11,(s0.trans s11),trivial⟩
def aE.p (F:Nat) (ae:KT):Option (Bool):=(mkn (wrap .i64 (2 * (ae.length:Int))) false).bind λl2=>(mkn (wrap .i64 (2 * (ae.length:Int))) false).bind λl4=>aE.pl61 F F ae (wrap .i64 (2 * (ae.length:Int))) l2 l4 0
theorem aE.P {au ak av ae ag} (aJ:ak=ae.length) (h0:Inn H R0 λR=>ROs (aa eI (aa eI (aa eI (aa eI eI)))) H R ⟨au,ak,av⟩ ae) {r:Bool} (hp:aE.p F ae=some r):Rt (aE.tw F ⟨au,ak,av⟩ ag H) (aE.Q H R0 R0  r):=by
 obtain ⟨w0,aF⟩:=h0
 subst aJ
 unfold aE.p at hp
 unfold aE.tw aE.twX
 have s0:=w0.rf
 refine aW w0 λH1 w1 s1=>?_
 refine lSl w1 0 ?_
 obtain ⟨l2,e2,hp⟩:=ah hp
 refine nv bF false w1 rfl rfl rfl e2 λH3 k3 w3 s3 c3=>?_
 obtain ⟨l4,e4,hp⟩:=ah hp
 refine nv bF false w3 rfl rfl rfl e4 λH5 k5 w5 s5 c5=>?_
 obtain ⟨w6,s6⟩:=w5.pp [2,1,0] 3
 exact aE.l61_P F rfl rfl rfl ⟨w6,(s0.trans (s1.trans (s3.trans (s5.trans s6)))),(aF.step (s1.trans (s3.trans (s5.trans s6)))),(c3.step (s5.trans s6)),(c5.step s6)⟩ hp
def aw.Q (H0:Hp) (Ri R0:KO)  (r:Lh) (v:AV) (H':Hp):Prop:=v=(.tup [(.i r.1),(.i r.2)])/\Out H0 Ri H' (R0) λR=>True
def aw.S13 (H0:Hp) (Ri R0:KO)  (C:Lr) (pC:Lt):Prop:=∀ {dE zm gG iB tE qJ fN tF ko},∀ {H:Hp},qJ=ko.length->(Out H0 Ri H (Rs.blk fN [.sl ⟨tE,qJ,tF⟩,.i zm]::R0) λR=>ROs (aa eI (aa eI (aa eI (aa eI eI)))) H R ⟨tE,qJ,tF⟩ ko)->∀ {r:Lh},pC dE iB ko gG=some r->Rt (C dE iB fN 0 gG H) (aw.Q H0 Ri R0  r)
def aw.S213 (H0:Hp) (Ri R0:KO)  (C:Int->Bool->Nat->Nat->Int->Int->Hp->OA) (pC:Int->Bool->List (Int×Int×Int×Int×Int)->Int->Int->Option (Int×Int)):Prop:=∀ {ff zn dS dU fg tG qK gF tH fy},∀ {H:Hp},qK=fy.length->(Out H0 Ri H (Rs.blk gF [.sl ⟨tG,qK,tH⟩,.i zn]::R0) λR=>ROs (aa eI (aa eI (aa eI (aa eI eI)))) H R ⟨tG,qK,tH⟩ fy)->∀ {r:Lh},pC ff fg fy dS dU=some r->Rt (C ff fg gF 0 dS dU H) (aw.Q H0 Ri R0  r)
def aw.pj3 (F:Nat) (fa:Lt) (ja:Int) (ly:Bool) (ob:KT) (lA:Int):Option (Int×Int):=fa ja ly ob (wrap .i64 (lA+1))
theorem aw.j3_P  {C13_:Lr} {fa:Lt} (hC13:aw.S13 H0 Ri R0  C13_ fa) {ja Fj lA ly zo tI lz zp ob} (Fk:tI=ob.length) (h0:Out H0 Ri H (Rs.blk lz [.sl ⟨zo,tI,zp⟩,.i Fj]::R0) λR=>ROs (aa eI (aa eI (aa eI (aa eI eI)))) H R ⟨zo,tI,zp⟩ ob) {r:Lh} (hp:aw.pj3 F fa ja ly ob lA=some r):Rt (aw.j3 F (bW.tw F) (bX.tw F) C13_ ja ly lz 0 lA H) (aw.Q H0 Ri R0  r):=by
 obtain ⟨w0,s0,Fl⟩:=h0
 subst Fk
 unfold aw.pj3 at hp
 unfold aw.j3
 exact hC13 rfl ⟨w0,s0,Fl⟩ hp
def aw.pj4 (F:Nat) (fa:Lt) (lC:Int) (lD:Bool) (oc:KT) (lE:Int):Option (Int×Int):=aw.pj3 F fa lC lD oc lE
theorem aw.j4_P  {C13_:Lr} {fa:Lt} (hC13:aw.S13 H0 Ri R0  C13_ fa) {lC Fm lE lD zq tJ pX zr oc} (Fo:tJ=oc.length) (h0:Out H0 Ri H (Rs.blk pX [.sl ⟨zq,tJ,zr⟩,.i Fm]::R0) λR=>ROs (aa eI (aa eI (aa eI (aa eI eI)))) H R ⟨zq,tJ,zr⟩ oc) {r:Lh} (hp:aw.pj4 F fa lC lD oc lE=some r):Rt (aw.j4 F (bW.tw F) (bX.tw F) C13_ lC lD pX 0 lE H) (aw.Q H0 Ri R0  r):=by
 obtain ⟨w0,s0,Fp⟩:=h0
 subst Fo
 unfold aw.pj4 at hp
 unfold aw.j4
 exact aw.j3_P (@hC13) rfl ⟨w0,s0,Fp⟩ hp
def aw.pl213 (F:Nat) (fa:Lt):Nat->Int->Bool->List (Int×Int×Int×Int×Int)->Int->Int->Option (Int×Int)
 | 0,_,_,_,_,_=>none
 | k+1,ff,fg,fy,dS,dU=>(bif (decide (dU<4)) then ((ix fy dS).bind λn1=>(bW.p F ((gt fy n1).1) ((gt fy n1).2.1) ((gt fy n1).2.2.1) ((gt fy n1).2.2.2.1) dU).bind λr2=>(bif (r2==ff) then ((ix fy dS).bind λn4=>(bX.p F ((gt fy n4).2.2.2.2) dU).bind λr5=>(bif (r5==fg) then (some (dS,dU)) else (aw.pl213 F fa k ff fg fy dS (wrap .i64 (dU+1))))) else (aw.pl213 F fa k ff fg fy dS (wrap .i64 (dU+1))))) else (aw.pj4 F fa ff fg fy dS))
theorem aw.l213_P  {C13_:Lr} {fa:Lt} (hC13:aw.S13 H0 Ri R0  C13_ fa):∀ k,aw.S213 H0 Ri R0  (aw.l213 F (bW.tw F) (bX.tw F) C13_ k) (aw.pl213 F fa k):=by
 intro k
 induction k with
 | zero=>unfold aw.S213;intros;rename_i hp;cases hp
 | succ k ih=>
  intro ff zn dS dU fg tG qK gF tH fy H Fq h0 r hp
  obtain ⟨w0,s0,od⟩:=h0
  subst Fq
  unfold aw.pl213 at hp
  unfold aw.l213
  refine aB hp (λhp=>?_) λhp=>?_
  ·refine lSl w0 0 ?_
   obtain ⟨n1,g1,hp⟩:=ah hp
   obtain ⟨p1,q1,i1,h1,j1⟩:=ROs.ixr od rfl g1
   refine aj i1 ?_
   obtain ⟨_,_,rfl,rfl,_,_,rfl,rfl,_,_,rfl,rfl,_,_,rfl,rfl,rfl⟩:=h1
   refine aj (aD (j1 0 _ rfl)) ?_
   refine aj (aD (j1 1 _ rfl)) ?_
   refine aj (aD (j1 2 _ rfl)) ?_
   refine aj (aD (j1 3 _ rfl)) ?_
   refine aj (aD (j1 4 _ rfl)) ?_
   obtain ⟨r2,e2,hp⟩:=ah hp
   refine aM (bW.P ⟨w0,trivial⟩ e2) ?_
   rintro _ H3 ⟨rfl,w3,s3,_⟩
   refine br ?_
   refine aB hp (λhp=>?_) λhp=>?_
   ·refine lSl w3 0 ?_
    obtain ⟨n4,g4,hp⟩:=ah hp
    obtain ⟨p4,q4,i4,h4,j4⟩:=ROs.ixr (od.step s3) rfl g4
    refine aj i4 ?_
    obtain ⟨_,_,rfl,rfl,_,_,rfl,rfl,_,_,rfl,rfl,_,_,rfl,rfl,rfl⟩:=h4
    refine aj (aD (j4 0 _ rfl)) ?_
    refine aj (aD (j4 1 _ rfl)) ?_
    refine aj (aD (j4 2 _ rfl)) ?_
    refine aj (aD (j4 3 _ rfl)) ?_
    refine aj (aD (j4 4 _ rfl)) ?_
    obtain ⟨r5,e5,hp⟩:=ah hp
    refine aM (bX.P ⟨w3,trivial⟩ e5) ?_
    rintro _ H6 ⟨rfl,w6,s6,_⟩
    refine br ?_
    refine aB hp (λhp=>?_) λhp=>?_
    ·obtain ⟨w7,s7⟩:=w6.pp [] 1
     exact aA hp ⟨rfl,w7,(s0.trans (s3.trans (s6.trans s7))),trivial⟩
    ·exact ih rfl ⟨w6,(s0.trans (s3.trans s6)),(od.step (s3.trans s6))⟩ hp
   ·exact ih rfl ⟨w3,(s0.trans s3),(od.step s3)⟩ hp
  ·exact aw.j4_P (@hC13) rfl ⟨w0,s0,od⟩ hp
def aw.pl13 (F:Nat) :Nat->Int->Bool->List (Int×Int×Int×Int×Int)->Int->Option (Int×Int)
 | 0,_,_,_,_=>none
 | k+1,dE,iB,ko,gG=>(bif (decide (gG<(ko.length:Int))) then (aw.pl213 F (aw.pl13 F k) F dE iB ko gG 0) else (some ((-1),(-1))))
theorem aw.l13_P  :∀ k,aw.S13 H0 Ri R0  (aw.l13 F (bW.tw F) (bX.tw F)  k) (aw.pl13 F  k):=by
 intro k
 induction k with
 | zero=>unfold aw.S13;intros;rename_i hp;cases hp
 | succ k ih=>
  intro dE zm gG iB tE qJ fN tF ko H Fs h0 r hp
  obtain ⟨w0,s0,Ft⟩:=h0
  subst Fs
  unfold aw.pl13 at hp
  unfold aw.l13
  refine lSl w0 0 ?_
  refine aB hp (λhp=>?_) λhp=>?_
  ·exact aw.l213_P (@ih) F rfl ⟨w0,s0,Ft⟩ hp
  ·obtain ⟨w1,s1⟩:=w0.pp [] 1
   exact aA hp ⟨rfl,w1,(s0.trans s1),trivial⟩
def aw.p (F:Nat) (ae:KT) (ay:Int) (fH:Bool):Option (Int×Int):=aw.pl13 F F ay fH ae 0
theorem aw.P {au ak av ae ag ay fH} (aJ:ak=ae.length) (h0:Inn H R0 λR=>ROs (aa eI (aa eI (aa eI (aa eI eI)))) H R ⟨au,ak,av⟩ ae) {r:Lh} (hp:aw.p F ae ay fH=some r):Rt (aw.tw F ⟨au,ak,av⟩ ag ay fH H) (aw.Q H R0 R0  r):=by
 obtain ⟨w0,aF⟩:=h0
 subst aJ
 unfold aw.p at hp
 unfold aw.tw aw.twX
 have s0:=w0.rf
 refine aW w0 λH1 w1 s1=>?_
 exact aw.l13_P F rfl ⟨w1,(s0.trans s1),(aF.step s1)⟩ hp
def cg.Q (H0:Hp) (Ri R0:KO)  (r:Int) (v:AV) (H':Hp):Prop:=v=(.i r)/\Out H0 Ri H' (R0) λR=>True
def cg.p (F:Nat) (ae:KT) (ay:Int):Option (Int):=(ix ae (wrap .i64 (Int.tdiv ay 4))).bind λn2=>(bW.p F ((gt ae n2).1) ((gt ae n2).2.1) ((gt ae n2).2.2.1) ((gt ae n2).2.2.2.1) (Int.tmod (wrap .i64 ((Int.tmod ay 4)+1)) 4)).bind λr9=>(bX.p F ((gt ae n2).2.2.2.2) (Int.tmod (wrap .i64 ((Int.tmod ay 4)+1)) 4)).bind λr12=>(aw.p F ae r9 (!r12)).bind λr15=>some (wrap .i64 ((wrap .i64 (4 * r15.1))+r15.2))
theorem cg.P {au ak av ae ag ay} (aJ:ak=ae.length) (h0:Inn H R0 λR=>ROs (aa eI (aa eI (aa eI (aa eI eI)))) H R ⟨au,ak,av⟩ ae) {r:Int} (hp:cg.p F ae ay=some r):Rt (cg.tw F ⟨au,ak,av⟩ ag ay H) (cg.Q H R0 R0  r):=by
 obtain ⟨w0,aF⟩:=h0
 subst aJ
 unfold cg.p at hp
 unfold cg.tw cg.twX
 have s0:=w0.rf
 refine aW w0 λH1 w1 s1=>?_
 refine lSl w1 0 ?_
 obtain ⟨n2,g2,hp⟩:=ah hp
 obtain ⟨p2,q2,i2,h2,j2⟩:=ROs.ixr (aF.step s1) rfl g2
 refine aj i2 ?_
 obtain ⟨_,_,rfl,rfl,_,_,rfl,rfl,_,_,rfl,rfl,_,_,rfl,rfl,rfl⟩:=h2
 refine aj (aD (j2 0 _ rfl)) ?_
 refine aj (aD (j2 1 _ rfl)) ?_
 refine aj (aD (j2 2 _ rfl)) ?_
 refine aj (aD (j2 3 _ rfl)) ?_
 refine aj (aD (j2 4 _ rfl)) ?_
 refine aW w1 λH3 w3 s3=>?_
 refine aC w3 0 λH4 w4 s4=>?_
 refine aC w4 0 λH5 w5 s5=>?_
 refine aC w5 0 λH6 w6 s6=>?_
 refine aC w6 0 λH7 w7 s7=>?_
 refine aC w7 0 λH8 w8 s8=>?_
 refine lSl w8 1 ?_
 refine lI w8 1 ?_
 refine lI w8 0 ?_
 refine lI w8 0 ?_
 refine lI w8 0 ?_
 refine lI w8 0 ?_
 refine lI w8 0 ?_
 obtain ⟨r9,e9,hp⟩:=ah hp
 refine aM (bW.P ⟨w8,trivial⟩ e9) ?_
 rintro _ H10 ⟨rfl,w10,s10,_⟩
 refine br ?_
 refine fL (W.cons_of (Rn:=[]) w8 w10 s10) ?_
 refine lI w10 0 ?_
 refine lI w10 0 ?_
 refine lI w10 0 ?_
 refine lI w10 0 ?_
 refine lI w10 0 ?_
 obtain ⟨r12,e12,hp⟩:=ah hp
 refine aM (bX.P ⟨w10,trivial⟩ e12) ?_
 rintro _ H13 ⟨rfl,w13,s13,_⟩
 refine br ?_
 refine fL (W.cons_of (Rn:=[]) w10 w13 s13) ?_
 obtain ⟨r15,e15,hp⟩:=ah hp
 refine aM (aw.P rfl ⟨w13,(aF.step (s1.trans (s3.trans (s4.trans (s5.trans (s6.trans (s7.trans (s8.trans (s10.trans s13)))))))))⟩ e15) ?_
 rintro _ H16 ⟨rfl,w16,s16,_⟩
 refine br (br (br (br (br ?_))))
 obtain ⟨w17,s17⟩:=w16.pp [] 2
 exact aA hp ⟨rfl,w17,(s0.trans (s1.trans (s3.trans (s4.trans (s5.trans (s6.trans (s7.trans (s8.trans (s10.trans (s13.trans (s16.trans s17))))))))))),trivial⟩
def az.Q (H0:Hp) (Ri R0:KO)  (r:KV) (v:AV) (H':Hp):Prop:=∃ o0a:ON,∃ o0n:Nat,∃ o0c:Cap,∃ o0k:List AV,v=(.sl ⟨o0a,o0n,o0c⟩)/\o0n=(r).length/\Out H0 Ri H' (Rs.own ⟨o0a,o0n,o0c⟩ (eSl eI).z o0k::R0) λR=>CR (eSl eI) H' R o0k (r)
def az.S61 (H0:Hp) (Ri R0:KO)  (C:Lg) (pC:Ll):Prop:=∀ {ka tK kb iJ dR qL iK kc tL kd cH nZ dx jm tM kf eF},∀ {H:Hp},iJ=cH.length->qL=jm.length->iK=eF.length->(Out H0 Ri H (Rs.blk dR [.sl ⟨ka,iJ,kc⟩,.i nZ]::Rs.own ⟨tK,qL,tL⟩ (eSl eI).z tM::Rs.own ⟨kb,iK,kd⟩ bF.z kf::R0) λR=>ROs (aa eI (aa eI (aa eI (aa eI eI)))) H R ⟨ka,iJ,kc⟩ cH/\CR (eSl eI) H R tM jm/\CR bF H R kf eF)->∀ {r:KV},pC cH jm eF dx=some r->Rt (C dR 0 ⟨tK,qL,tL⟩ ⟨kb,iK,kd⟩ dx H) (az.Q H0 Ri R0  r)
def az.pj4 (F:Nat) (aG:Ll) (gZ:KT) (g_:KV) (hG:Lv) (lF:Int):Option (List (List Int)):=aG gZ g_ hG (wrap .i64 (lF+1))
theorem az.j4_P  {C61_:Lg} {aG:Ll} (hC61:az.S61 H0 Ri R0  C61_ aG) {oe og oh kp iC kq kr oq ou ov gZ tO lF g_ ox oy hG} (tP:kp=gZ.length) (tQ:kq=g_.length) (tR:kr=hG.length) (h0:Out H0 Ri H (Rs.blk iC [.sl ⟨oe,kp,oq⟩,.i tO]::Rs.own ⟨og,kq,ou⟩ (eSl eI).z ox::Rs.own ⟨oh,kr,ov⟩ bF.z oy::R0) λR=>ROs (aa eI (aa eI (aa eI (aa eI eI)))) H R ⟨oe,kp,oq⟩ gZ/\CR (eSl eI) H R ox g_/\CR bF H R oy hG) {r:KV} (hp:az.pj4 F aG gZ g_ hG lF=some r):Rt (az.j4 F (cg.tw F) C61_ iC 0 ⟨og,kq,ou⟩ ⟨oh,kr,ov⟩ lF H) (az.Q H0 Ri R0  r):=by
 obtain ⟨w0,s0,tS,tT,tU⟩:=h0
 subst tP
 subst tQ
 subst tR
 unfold az.pj4 at hp
 unfold az.j4
 exact hC61 rfl rfl rfl ⟨w0,s0,tS,tT,tU⟩ hp
def az.S7853 (H0:Hp) (Ri R0:KO)  (C:Nat->Nat->Sl->Sl->Int->Sl->Int->Hp->OA) (pC:List (Int×Int×Int×Int×Int)->List (List Int)->List Bool->Int->List Int->Int->Option (List (List Int))):Prop:=∀ {tV tW tX tY qM ig qN qO qP tZ t_ ua ub jn zt gH eO kt uc ud ue il ku},∀ {H:Hp},qM=jn.length->qN=kt.length->qO=il.length->qP=ku.length->(Out H0 Ri H (Rs.blk ig [.sl ⟨tV,qM,tZ⟩,.i zt]::Rs.own ⟨tW,qN,t_⟩ (eSl eI).z uc::Rs.own ⟨tX,qO,ua⟩ bF.z ud::Rs.own ⟨tY,qP,ub⟩ eI.z ue::R0) λR=>ROs (aa eI (aa eI (aa eI (aa eI eI)))) H R ⟨tV,qM,tZ⟩ jn/\CR (eSl eI) H R uc kt/\CR bF H R ud il/\CR eI H R ue ku)->∀ {r:KV},pC jn kt il gH ku eO=some r->Rt (C ig 0 ⟨tW,qN,t_⟩ ⟨tX,qO,ua⟩ gH ⟨tY,qP,ub⟩ eO H) (az.Q H0 Ri R0  r)
def az.pj5 (F:Nat) (aG:Ll) (oz:KT) (oA:KV) (oB:Lv) (lG:Int):Option (List (List Int)):=aG oz oA oB (wrap .i64 (lG+1))
theorem az.j5_P  {C61_:Lg} {aG:Ll} (hC61:az.S61 H0 Ri R0  C61_ aG) {zu zw zx ug pY uh ui zy zA zB oz Fu lG oA zC zD oB} (Fv:ug=oz.length) (Fw:uh=oA.length) (Fx:ui=oB.length) (h0:Out H0 Ri H (Rs.blk pY [.sl ⟨zu,ug,zy⟩,.i Fu]::Rs.own ⟨zw,uh,zA⟩ (eSl eI).z zC::Rs.own ⟨zx,ui,zB⟩ bF.z zD::R0) λR=>ROs (aa eI (aa eI (aa eI (aa eI eI)))) H R ⟨zu,ug,zy⟩ oz/\CR (eSl eI) H R zC oA/\CR bF H R zD oB) {r:KV} (hp:az.pj5 F aG oz oA oB lG=some r):Rt (az.j5 F (cg.tw F) C61_ pY 0 ⟨zw,uh,zA⟩ ⟨zx,ui,zB⟩ lG H) (az.Q H0 Ri R0  r):=by
 obtain ⟨w0,s0,Fy,Fz,FA⟩:=h0
 subst Fv
 subst Fw
 subst Fx
 unfold az.pj5 at hp
 unfold az.j5
 exact hC61 rfl rfl rfl ⟨w0,s0,Fy,Fz,FA⟩ hp
def az.pj6 (F:Nat) (aG:Ll) (oC:KT) (oD:KV) (oE:Lv) (lH:Int) (kv:KS):Option (List (List Int)):=(apn oD ([kv]:List (List Int))).bind λl3=>az.pj5 F aG oC l3 oE lH
theorem az.j6_P  {C61_:Lg} {aG:Ll} (hC61:az.S61 H0 Ri R0  C61_ aG) {zE zF zG zH uj pZ uk ul um zI zJ zK zL oC FB lH oD zM zN zO oE kv} (FC:uj=oC.length) (FD:uk=oD.length) (FE:ul=oE.length) (FF:um=kv.length) (h0:Out H0 Ri H (Rs.blk pZ [.sl ⟨zE,uj,zI⟩,.i FB]::Rs.own ⟨zF,uk,zJ⟩ (eSl eI).z zM::Rs.own ⟨zG,ul,zK⟩ bF.z zN::Rs.own ⟨zH,um,zL⟩ eI.z zO::R0) λR=>ROs (aa eI (aa eI (aa eI (aa eI eI)))) H R ⟨zE,uj,zI⟩ oC/\CR (eSl eI) H R zM oD/\CR bF H R zN oE/\CR eI H R zO kv) {r:KV} (hp:az.pj6 F aG oC oD oE lH kv=some r):Rt (az.j6 F (cg.tw F) C61_ pZ 0 ⟨zF,uk,zJ⟩ ⟨zG,ul,zK⟩ lH ⟨zH,um,zL⟩ H) (az.Q H0 Ri R0  r):=by
 obtain ⟨w0,s0,FG,FH,FI,FJ⟩:=h0
 subst FC
 subst FD
 subst FE
 subst FF
 unfold az.pj6 at hp
 unfold az.j6
 obtain ⟨w1,s1,f1⟩:=w0.frz (i:=3) eI rfl FJ
 refine dj (eSl eI) w1 (n:=1) (l:=([kv]:List (List Int))) rfl (CR.cons1 ⟨_,rfl,f1⟩ CR.empty) rfl λH2 w2 s2 c2=>?_
 refine aj (w2.rowo (i:=0) rfl) ?_
 obtain ⟨l3,e3,hp⟩:=ah hp
 refine gg (eSl eI) w2 (i:=2) rfl rfl (FH.step (s1.trans s2)) c2 (show 1=List.length ([kv]:List (List Int)) from rfl) rfl e3 λa4 d4 H4 w4 s4 c4 x4=>?_
 obtain ⟨w5,s5⟩:=w4.pp [1,2,3] 4
 exact az.j5_P (@hC61) rfl rfl rfl ⟨w5,(s0.trans (s1.trans (s2.trans (s4.trans s5)))),(FG.step (s1.trans (s2.trans (s4.trans s5)))),(c4.step s5),(FI.step (s1.trans (s2.trans (s4.trans s5))))⟩ hp
def az.pl7853 (F:Nat) (aG:Ll):Nat->List (Int×Int×Int×Int×Int)->List (List Int)->List Bool->Int->List Int->Int->Option (List (List Int))
 | 0,_,_,_,_,_,_=>none
 | k+1,jn,kt,il,gH,ku,eO=>(ix il eO).bind λn1=>(bif (!(gt il n1)) then ((ix il eO).bind λn2=>(some (il.set n2 true)).bind λl3=>(apn ku ([eO]:List Int)).bind λl6=>(cg.p F jn eO).bind λr8=>az.pl7853 F aG k jn kt l3 gH l6 r8) else (az.pj6 F aG jn kt il gH ku))
theorem az.l7853_P  {C61_:Lg} {aG:Ll} (hC61:az.S61 H0 Ri R0  C61_ aG):∀ k,az.S7853 H0 Ri R0  (az.l7853 F (cg.tw F) C61_ k) (az.pl7853 F aG k):=by
 intro k
 induction k with
 | zero=>unfold az.S7853;intros;rename_i hp;cases hp
 | succ k ih=>
  intro tV tW tX tY qM ig qN qO qP tZ t_ ua ub jn zt gH eO kt uc ud ue il ku H FK FL FM FN h0 r hp
  obtain ⟨w0,s0,un,zP,qQ,zQ⟩:=h0
  subst FK
  subst FL
  subst FM
  subst FN
  unfold az.pl7853 at hp
  unfold az.l7853
  obtain ⟨n1,g1,hp⟩:=ah hp
  obtain ⟨p1,q1,i1,h1,j1⟩:=W.ixo (E:=bF) w0 (i:=2) rfl rfl qQ g1
  refine aj i1 ?_
  have h1:_=[_]:=h1
  subst h1
  refine aj (nw (j1 0 _ rfl)) ?_
  refine aB hp (λhp=>?_) λhp=>?_
  ·obtain ⟨n2,g2,hp⟩:=ah hp
   obtain ⟨p2,q2,i2,h2,j2⟩:=W.ixo (E:=bF) w0 (i:=2) rfl rfl qQ g2
   refine aj i2 ?_
   obtain ⟨l3,e3,hp⟩:=ah hp
   refine dA bF w0 (i:=2) (j:=0) (p:=p2) rfl rfl qQ g2 i2 e3 rfl rfl (λ_ h=>by have h:_=[_]:=h;subst h;exact rfl) λH4 k4 w4 s4 c4=>?_
   refine dj eI w4 (n:=1) (l:=([eO]:List Int)) rfl (CR.cons1 rfl CR.empty) rfl λH5 w5 s5 c5=>?_
   refine aj (w5.rowo (i:=0) rfl) ?_
   obtain ⟨l6,e6,hp⟩:=ah hp
   refine gg eI w5 (i:=4) rfl rfl (zQ.step (s4.trans s5)) c5 (show 1=List.length ([eO]:List Int) from rfl) rfl e6 λa7 d7 H7 w7 s7 c7 x7=>?_
   refine lSl w7 1 ?_
   refine lI w7 1 ?_
   obtain ⟨r8,e8,hp⟩:=ah hp
   refine aM (cg.P rfl ⟨w7,(un.step (s4.trans (s5.trans s7)))⟩ e8) ?_
   rintro _ H9 ⟨rfl,w9,s9,_⟩
   refine br ?_
   obtain ⟨w10,s10⟩:=w9.pp [1,2,3,4] 5
   exact ih rfl rfl ((cl e3).symm) rfl ⟨w10,(s0.trans (s4.trans (s5.trans (s7.trans (s9.trans s10))))),(un.step (s4.trans (s5.trans (s7.trans (s9.trans s10))))),(zP.step (s4.trans (s5.trans (s7.trans (s9.trans s10))))),(c4.step (s5.trans (s7.trans (s9.trans s10)))),(c7.step (s9.trans s10))⟩ hp
  ·exact az.j6_P (@hC61) rfl rfl rfl rfl ⟨w0,s0,un,zP,qQ,zQ⟩ hp
def az.pl61 (F:Nat) :Nat->List (Int×Int×Int×Int×Int)->List (List Int)->List Bool->Int->Option (List (List Int))
 | 0,_,_,_,_=>none
 | k+1,cH,jm,eF,dx=>(bif (decide (dx<(eF.length:Int))) then ((ix eF dx).bind λn1=>(bif (gt eF n1) then (az.pj4 F (az.pl61 F k) cH jm eF dx) else (az.pl7853 F (az.pl61 F k) F cH jm eF dx ([]:List Int) dx))) else (some jm))
theorem az.l61_P  :∀ k,az.S61 H0 Ri R0  (az.l61 F (cg.tw F)  k) (az.pl61 F  k):=by
 intro k
 induction k with
 | zero=>unfold az.S61;intros;rename_i hp;cases hp
 | succ k ih=>
  intro ka tK kb iJ dR qL iK kc tL kd cH nZ dx jm tM kf eF H tC FO tD h0 r hp
  obtain ⟨w0,s0,mZ,uo,m_⟩:=h0
  subst tC
  subst FO
  subst tD
  unfold az.pl61 at hp
  unfold az.l61
  refine aB hp (λhp=>?_) λhp=>?_
  ·obtain ⟨n1,g1,hp⟩:=ah hp
   obtain ⟨p1,q1,i1,h1,j1⟩:=W.ixo (E:=bF) w0 (i:=2) rfl rfl m_ g1
   refine aj i1 ?_
   have h1:_=[_]:=h1
   subst h1
   refine aj (nw (j1 0 _ rfl)) ?_
   refine aB hp (λhp=>?_) λhp=>?_
   ·exact az.j4_P (@ih) rfl rfl rfl ⟨w0,s0,mZ,uo,m_⟩ hp
   ·refine dj eI w0 (n:=0) (l:=([]:List Int)) rfl CR.empty rfl λH2 w2 s2 c2=>?_
    obtain ⟨w3,s3⟩:=w2.pp [1,2,3,0] 4
    exact az.l7853_P (@ih) F rfl rfl rfl (show 0=List.length ([]:List Int) from rfl) ⟨w3,(s0.trans (s2.trans s3)),(mZ.step (s2.trans s3)),(uo.step (s2.trans s3)),(m_.step (s2.trans s3)),(c2.step s3)⟩ hp
  ·obtain ⟨w4,s4⟩:=w0.pp [1] 3
   exact aA hp ⟨_,_,_,_,rfl,rfl,w4,(s0.trans s4),(uo.step s4)⟩
def az.p (F:Nat) (ae:KT):Option (List (List Int)):=(mkn (wrap .i64 (4 * (ae.length:Int))) false).bind λl3=>az.pl61 F F ae ([]:List (List Int)) l3 0
theorem az.P {au ak av ae ag} (aJ:ak=ae.length) (h0:Inn H R0 λR=>ROs (aa eI (aa eI (aa eI (aa eI eI)))) H R ⟨au,ak,av⟩ ae) {r:KV} (hp:az.p F ae=some r):Rt (az.tw F ⟨au,ak,av⟩ ag H) (az.Q H R0 R0  r):=by
 obtain ⟨w0,aF⟩:=h0
 subst aJ
 unfold az.p at hp
 unfold az.tw az.twX
 have s0:=w0.rf
 refine aW w0 λH1 w1 s1=>?_
 refine dj (eSl eI) w1 (n:=0) (l:=([]:List (List Int))) rfl CR.empty rfl λH2 w2 s2 c2=>?_
 refine lSl w2 1 ?_
 obtain ⟨l3,e3,hp⟩:=ah hp
 refine nv bF false w2 rfl rfl rfl e3 λH4 k4 w4 s4 c4=>?_
 obtain ⟨w5,s5⟩:=w4.pp [2,1,0] 3
 exact az.l61_P F rfl (show 0=List.length ([]:List (List Int)) from rfl) rfl ⟨w5,(s0.trans (s1.trans (s2.trans (s4.trans s5)))),(aF.step (s1.trans (s2.trans (s4.trans s5)))),(c2.step (s4.trans s5)),(c4.step s5)⟩ hp
def aq.Q (H0:Hp) (Ri R0:KO)  (r:KS) (v:AV) (H':Hp):Prop:=∃ o0a:ON,∃ o0n:Nat,∃ o0c:Cap,∃ o0k:List AV,v=(.sl ⟨o0a,o0n,o0c⟩)/\o0n=(r).length/\Out H0 Ri H' (Rs.own ⟨o0a,o0n,o0c⟩ eI.z o0k::R0) λR=>CR eI H' R o0k (r)
def aq.S29 (H0:Hp) (Ri R0:KO)  (C:Lc) (pC:Lo):Prop:=∀ {kw uq iL dX qR kx ur eU iM dK ky ut},∀ {H:Hp},iL=eU.length->qR=ky.length->(Out H0 Ri H (Rs.blk dX [.sl ⟨kw,iL,kx⟩,.i iM]::Rs.own ⟨uq,qR,ur⟩ eI.z ut::R0) λR=>ROs (aa eI (aa eI (aa eI (aa eI eI)))) H R ⟨kw,iL,kx⟩ eU/\CR eI H R ut ky)->∀ {r:KS},pC eU ky dK=some r->Rt (C dX 0 ⟨uq,qR,ur⟩ dK H) (aq.Q H0 Ri R0  r)
def aq.S61 (H0:Hp) (Ri R0:KO)  (C:Lc) (pC:Lo):Prop:=∀ {uu uv qS gk qT uw ux iN zR fi hJ uy},∀ {H:Hp},qS=iN.length->qT=hJ.length->(Out H0 Ri H (Rs.blk gk [.sl ⟨uu,qS,uw⟩,.i zR]::Rs.own ⟨uv,qT,ux⟩ eI.z uy::R0) λR=>ROs (aa eI (aa eI (aa eI (aa eI eI)))) H R ⟨uu,qS,uw⟩ iN/\CR eI H R uy hJ)->∀ {r:KS},pC iN hJ fi=some r->Rt (C gk 0 ⟨uv,qT,ux⟩ fi H) (aq.Q H0 Ri R0  r)
def aq.S7855 (H0:Hp) (Ri R0:KO)  (C:Lu) (pC:LJ):Prop:=∀ {uz uA qU iD qV uB uC jo zS fO dV dW eP gn uD},∀ {H:Hp},qU=jo.length->qV=gn.length->(Out H0 Ri H (Rs.blk iD [.sl ⟨uz,qU,uB⟩,.i zS]::Rs.own ⟨uA,qV,uC⟩ eI.z uD::R0) λR=>ROs (aa eI (aa eI (aa eI (aa eI eI)))) H R ⟨uz,qU,uB⟩ jo/\CR eI H R uD gn)->∀ {r:KS},pC jo gn fO dV dW eP=some r->Rt (C iD 0 ⟨uA,qV,uC⟩ fO dV dW eP H) (aq.Q H0 Ri R0  r)
def aq.pj8 (F:Nat) (qW:LJ) (oF:KT) (oG:KS) (lN:Int) (lO:Int) (lP:Int) (lQ:Int):Option (List Int):=qW oF oG lN lO lP (wrap .i64 (lQ+1))
theorem aq.j8_P  {C7855_:Lu} {qW:LJ} (hC7855:aq.S7855 H0 Ri R0  C7855_ qW) {zT zU uE qf uF zV zW oF FP lN lO lP lQ oG zX} (FQ:uE=oF.length) (FR:uF=oG.length) (h0:Out H0 Ri H (Rs.blk qf [.sl ⟨zT,uE,zV⟩,.i FP]::Rs.own ⟨zU,uF,zW⟩ eI.z zX::R0) λR=>ROs (aa eI (aa eI (aa eI (aa eI eI)))) H R ⟨zT,uE,zV⟩ oF/\CR eI H R zX oG) {r:KS} (hp:aq.pj8 F qW oF oG lN lO lP lQ=some r):Rt (aq.j8 F (aw.tw F) C7855_ qf 0 ⟨zU,uF,zW⟩ lN lO lP lQ H) (aq.Q H0 Ri R0  r):=by
 obtain ⟨w0,s0,FS,FT⟩:=h0
 subst FQ
 subst FR
 unfold aq.pj8 at hp
 unfold aq.j8
 exact hC7855 rfl rfl ⟨w0,s0,FS,FT⟩ hp
def aq.pj6 (F:Nat) (aG:Lo) (oH:KT) (oI:KS) (lL:Int):Option (List Int):=aG oH oI (wrap .i64 (lL+1))
theorem aq.j6_P  {C61_:Lc} {aG:Lo} (hC61:aq.S61 H0 Ri R0  C61_ aG) {zY zZ uG qd uH z_ Aa oH FU lL oI Ab} (FV:uG=oH.length) (FW:uH=oI.length) (h0:Out H0 Ri H (Rs.blk qd [.sl ⟨zY,uG,z_⟩,.i FU]::Rs.own ⟨zZ,uH,Aa⟩ eI.z Ab::R0) λR=>ROs (aa eI (aa eI (aa eI (aa eI eI)))) H R ⟨zY,uG,z_⟩ oH/\CR eI H R Ab oI) {r:KS} (hp:aq.pj6 F aG oH oI lL=some r):Rt (aq.j6 F (aw.tw F) C61_ qd 0 ⟨zZ,uH,Aa⟩ lL H) (aq.Q H0 Ri R0  r):=by
 obtain ⟨w0,s0,FX,FY⟩:=h0
 subst FV
 subst FW
 unfold aq.pj6 at hp
 unfold aq.j6
 exact hC61 rfl rfl ⟨w0,s0,FX,FY⟩ hp
def aq.pj7 (F:Nat) (aG:Lo) (oJ:KT) (oK:KS) (jb:Int):Option (List Int):=aq.pj6 F aG oJ oK jb
theorem aq.j7_P  {C61_:Lc} {aG:Lo} (hC61:aq.S61 H0 Ri R0  C61_ aG) {Ac Ad uI qe uJ Ae Af oJ FZ jb oK Ag} (F_:uI=oJ.length) (Ga:uJ=oK.length) (h0:Out H0 Ri H (Rs.blk qe [.sl ⟨Ac,uI,Ae⟩,.i FZ]::Rs.own ⟨Ad,uJ,Af⟩ eI.z Ag::R0) λR=>ROs (aa eI (aa eI (aa eI (aa eI eI)))) H R ⟨Ac,uI,Ae⟩ oJ/\CR eI H R Ag oK) {r:KS} (hp:aq.pj7 F aG oJ oK jb=some r):Rt (aq.j7 F (aw.tw F) C61_ qe 0 ⟨Ad,uJ,Af⟩ jb H) (aq.Q H0 Ri R0  r):=by
 obtain ⟨w0,s0,Gb,Gc⟩:=h0
 subst F_
 subst Ga
 unfold aq.pj7 at hp
 unfold aq.j7
 exact aq.j6_P (@hC61) rfl rfl ⟨w0,s0,Gb,Gc⟩ hp
def aq.pl7855 (F:Nat) (aG:Lo):Nat->List (Int×Int×Int×Int×Int)->List Int->Int->Int->Int->Int->Option (List Int)
 | 0,_,_,_,_,_,_=>none
 | k+1,jo,gn,fO,dV,dW,eP=>(bif (decide (eP<(gn.length:Int))) then ((ix gn eP).bind λn1=>(bif ((gt gn n1)==(if dW>dV then dW else dV)) then ((ix gn eP).bind λn2=>(some (gn.set n2 (if dW<dV then dW else dV))).bind λl3=>aq.pj8 F (aq.pl7855 F aG k) jo l3 fO dV dW eP) else (aq.pj8 F (aq.pl7855 F aG k) jo gn fO dV dW eP))) else (aq.pj7 F aG jo gn fO))
theorem aq.l7855_P  {C61_:Lc} {aG:Lo} (hC61:aq.S61 H0 Ri R0  C61_ aG):∀ k,aq.S7855 H0 Ri R0  (aq.l7855 F (aw.tw F) C61_ k) (aq.pl7855 F aG k):=by
 intro k
 induction k with
 | zero=>unfold aq.S7855;intros;rename_i hp;cases hp
 | succ k ih=>
  intro uz uA qU iD qV uB uC jo zS fO dV dW eP gn uD H Gd Ge h0 r hp
  obtain ⟨w0,s0,uK,oL⟩:=h0
  subst Gd
  subst Ge
  unfold aq.pl7855 at hp
  unfold aq.l7855
  refine aB hp (λhp=>?_) λhp=>?_
  ·obtain ⟨n1,g1,hp⟩:=ah hp
   obtain ⟨p1,q1,i1,h1,j1⟩:=W.ixo (E:=eI) w0 (i:=1) rfl rfl oL g1
   refine aj i1 ?_
   have h1:_=[_]:=h1
   subst h1
   refine aj (aD (j1 0 _ rfl)) ?_
   refine aB hp (λhp=>?_) λhp=>?_
   ·obtain ⟨n2,g2,hp⟩:=ah hp
    obtain ⟨p2,q2,i2,h2,j2⟩:=W.ixo (E:=eI) w0 (i:=1) rfl rfl oL g2
    refine aj i2 ?_
    obtain ⟨l3,e3,hp⟩:=ah hp
    refine dA eI w0 (i:=1) (j:=0) (p:=p2) rfl rfl oL g2 i2 e3 rfl rfl (λ_ h=>by have h:_=[_]:=h;subst h;exact rfl) λH4 k4 w4 s4 c4=>?_
    exact aq.j8_P (@ih) rfl ((cl e3).symm) ⟨w4,(s0.trans s4),(uK.step s4),c4⟩ hp
   ·exact aq.j8_P (@ih) rfl rfl ⟨w0,s0,uK,oL⟩ hp
  ·exact aq.j7_P (@hC61) rfl rfl ⟨w0,s0,uK,oL⟩ hp
def aq.pl61 (F:Nat) :Nat->List (Int×Int×Int×Int×Int)->List Int->Int->Option (List Int)
 | 0,_,_,_=>none
 | k+1,iN,hJ,fi=>(bif (decide (fi<(wrap .i64 (2 * (iN.length:Int))))) then ((aw.p F iN fi true).bind λr1=>(aw.p F iN fi false).bind λr3=>(ix hJ r1.1).bind λn5=>(ix hJ r3.1).bind λn6=>aq.pl7855 F (aq.pl61 F k) F iN hJ fi (gt hJ n5) (gt hJ n6) 0) else (some hJ))
theorem aq.l61_P  :∀ k,aq.S61 H0 Ri R0  (aq.l61 F (aw.tw F)  k) (aq.pl61 F  k):=by
 intro k
 induction k with
 | zero=>unfold aq.S61;intros;rename_i hp;cases hp
 | succ k ih=>
  intro uu uv qS gk qT uw ux iN zR fi hJ uy H Gf Gg h0 r hp
  obtain ⟨w0,s0,uL,qX⟩:=h0
  subst Gf
  subst Gg
  unfold aq.pl61 at hp
  unfold aq.l61
  refine lSl w0 0 ?_
  refine aB hp (λhp=>?_) λhp=>?_
  ·refine lSl w0 0 ?_
   refine lI w0 0 ?_
   obtain ⟨r1,e1,hp⟩:=ah hp
   refine aM (aw.P rfl ⟨w0,uL⟩ e1) ?_
   rintro _ H2 ⟨rfl,w2,s2,_⟩
   refine br (br (br (br (br ?_))))
   refine lSl w2 0 ?_
   refine lI w2 0 ?_
   obtain ⟨r3,e3,hp⟩:=ah hp
   refine aM (aw.P rfl ⟨w2,(uL.step s2)⟩ e3) ?_
   rintro _ H4 ⟨rfl,w4,s4,_⟩
   refine br (br (br (br (br ?_))))
   obtain ⟨n5,g5,hp⟩:=ah hp
   obtain ⟨p5,q5,i5,h5,j5⟩:=W.ixo (E:=eI) w4 (i:=1) rfl rfl (qX.step (s2.trans s4)) g5
   refine aj i5 ?_
   have h5:_=[_]:=h5
   subst h5
   refine aj (aD (j5 0 _ rfl)) ?_
   obtain ⟨n6,g6,hp⟩:=ah hp
   obtain ⟨p6,q6,i6,h6,j6⟩:=W.ixo (E:=eI) w4 (i:=1) rfl rfl (qX.step (s2.trans s4)) g6
   refine aj i6 ?_
   have h6:_=[_]:=h6
   subst h6
   refine aj (aD (j6 0 _ rfl)) ?_
   exact aq.l7855_P (@ih) F rfl rfl ⟨w4,(s0.trans (s2.trans s4)),(uL.step (s2.trans s4)),(qX.step (s2.trans s4))⟩ hp
  ·obtain ⟨w7,s7⟩:=w0.pp [1] 2
   exact aA hp ⟨_,_,_,_,rfl,rfl,w7,(s0.trans s7),(qX.step s7)⟩
def aq.pj9 (F:Nat)  (oM:KT) (oN:KS):Option (List Int):=aq.pl61 F F oM oN 0
theorem aq.j9_P   {Ah Ai uM qg uN Aj Ak oM Gh oN Al} (Gi:uM=oM.length) (Gj:uN=oN.length) (h0:Out H0 Ri H (Rs.blk qg [.sl ⟨Ah,uM,Aj⟩,.i Gh]::Rs.own ⟨Ai,uN,Ak⟩ eI.z Al::R0) λR=>ROs (aa eI (aa eI (aa eI (aa eI eI)))) H R ⟨Ah,uM,Aj⟩ oM/\CR eI H R Al oN) {r:KS} (hp:aq.pj9 F  oM oN=some r):Rt (aq.j9 F (aw.tw F)  qg 0 ⟨Ai,uN,Ak⟩ H) (aq.Q H0 Ri R0  r):=by
 obtain ⟨w0,s0,Gk,Gl⟩:=h0
 subst Gi
 subst Gj
 unfold aq.pj9 at hp
 unfold aq.j9
 exact aq.l61_P F rfl rfl ⟨w0,s0,Gk,Gl⟩ hp
def aq.pl29 (F:Nat) :Nat->List (Int×Int×Int×Int×Int)->List Int->Int->Option (List Int)
 | 0,_,_,_=>none
 | k+1,eU,ky,dK=>(bif (decide (dK<(eU.length:Int))) then ((apn ky ([dK]:List Int)).bind λl2=>aq.pl29 F k eU l2 (wrap .i64 (dK+1))) else (aq.pj9 F eU ky))
theorem aq.l29_P  :∀ k,aq.S29 H0 Ri R0  (aq.l29 F (aw.tw F)  k) (aq.pl29 F  k):=by
 intro k
 induction k with
 | zero=>unfold aq.S29;intros;rename_i hp;cases hp
 | succ k ih=>
  intro kw uq iL dX qR kx ur eU iM dK ky ut H uO Gm h0 r hp
  obtain ⟨w0,s0,oO,Am⟩:=h0
  subst uO
  subst Gm
  unfold aq.pl29 at hp
  unfold aq.l29
  refine lSl w0 0 ?_
  refine aB hp (λhp=>?_) λhp=>?_
  ·refine dj eI w0 (n:=1) (l:=([dK]:List Int)) rfl (CR.cons1 rfl CR.empty) rfl λH1 w1 s1 c1=>?_
   refine aj (w1.rowo (i:=0) rfl) ?_
   obtain ⟨l2,e2,hp⟩:=ah hp
   refine gg eI w1 (i:=2) rfl rfl (Am.step s1) c1 (show 1=List.length ([dK]:List Int) from rfl) rfl e2 λa3 d3 H3 w3 s3 c3 x3=>?_
   obtain ⟨w4,s4⟩:=w3.pp [1,2] 3
   exact ih rfl rfl ⟨w4,(s0.trans (s1.trans (s3.trans s4))),(oO.step (s1.trans (s3.trans s4))),(c3.step s4)⟩ hp
  ·exact aq.j9_P rfl rfl ⟨w0,s0,oO,Am⟩ hp
def aq.p (F:Nat) (ae:KT):Option (List Int):=aq.pl29 F F ae ([]:List Int) 0
theorem aq.P {au ak av ae ag} (aJ:ak=ae.length) (h0:Inn H R0 λR=>ROs (aa eI (aa eI (aa eI (aa eI eI)))) H R ⟨au,ak,av⟩ ae) {r:KS} (hp:aq.p F ae=some r):Rt (aq.tw F ⟨au,ak,av⟩ ag H) (aq.Q H R0 R0  r):=by
 obtain ⟨w0,aF⟩:=h0
 subst aJ
 unfold aq.p at hp
 unfold aq.tw aq.twX
 have s0:=w0.rf
 refine aW w0 λH1 w1 s1=>?_
 refine dj eI w1 (n:=0) (l:=([]:List Int)) rfl CR.empty rfl λH2 w2 s2 c2=>?_
 obtain ⟨w3,s3⟩:=w2.pp [1,0] 2
 exact aq.l29_P F rfl (show 0=List.length ([]:List Int) from rfl) ⟨w3,(s0.trans (s1.trans (s2.trans s3))),(aF.step (s1.trans (s2.trans s3))),(c2.step s3)⟩ hp
def aU.Q (H0:Hp) (Ri R0:KO)  (r:Int) (v:AV) (H':Hp):Prop:=v=(.i r)/\Out H0 Ri H' (R0) λR=>True
def aU.S61 (H0:Hp) (Ri R0:KO)  (C:Li) (pC:LL):Prop:=∀ {fP eQ uP qY uQ im uR},∀ {H:Hp},qY=im.length->(Out H0 Ri H (Rs.own ⟨uP,qY,uQ⟩ eI.z uR::R0) λR=>CR eI H R uR im)->∀ {r:Int},pC fP im eQ=some r->Rt (C fP ⟨uP,qY,uQ⟩ eQ H) (aU.Q H0 Ri R0  r)
def aU.pj2 (F:Nat) (aG:LL) (lU:Int) (oP:KS) (lV:Int):Option (Int):=aG lU oP (wrap .i64 (lV+1))
theorem aU.j2_P  {C61_:Li} {aG:LL} (hC61:aU.S61 H0 Ri R0  C61_ aG) {lU lV An uS Ao oP Aq} (Gn:uS=oP.length) (h0:Out H0 Ri H (Rs.own ⟨An,uS,Ao⟩ eI.z Aq::R0) λR=>CR eI H R Aq oP) {r:Int} (hp:aU.pj2 F aG lU oP lV=some r):Rt (aU.j2 F (aq.tw F) C61_ lU ⟨An,uS,Ao⟩ lV H) (aU.Q H0 Ri R0  r):=by
 obtain ⟨w0,s0,Gp⟩:=h0
 subst Gn
 unfold aU.pj2 at hp
 unfold aU.j2
 exact hC61 rfl ⟨w0,s0,Gp⟩ hp
def aU.pl61 (F:Nat) :Nat->Int->List Int->Int->Option (Int)
 | 0,_,_,_=>none
 | k+1,fP,im,eQ=>(bif (decide (eQ<(im.length:Int))) then ((ix im eQ).bind λn1=>(bif ((gt im n1)==eQ) then (aU.pj2 F (aU.pl61 F k) (wrap .i64 (fP+1)) im eQ) else (aU.pj2 F (aU.pl61 F k) fP im eQ))) else (some fP))
theorem aU.l61_P  :∀ k,aU.S61 H0 Ri R0  (aU.l61 F (aq.tw F)  k) (aU.pl61 F  k):=by
 intro k
 induction k with
 | zero=>unfold aU.S61;intros;rename_i hp;cases hp
 | succ k ih=>
  intro fP eQ uP qY uQ im uR H Gq h0 r hp
  obtain ⟨w0,s0,uT⟩:=h0
  subst Gq
  unfold aU.pl61 at hp
  unfold aU.l61
  refine aB hp (λhp=>?_) λhp=>?_
  ·obtain ⟨n1,g1,hp⟩:=ah hp
   obtain ⟨p1,q1,i1,h1,j1⟩:=W.ixo (E:=eI) w0 (i:=0) rfl rfl uT g1
   refine aj i1 ?_
   have h1:_=[_]:=h1
   subst h1
   refine aj (aD (j1 0 _ rfl)) ?_
   refine aB hp (λhp=>?_) λhp=>?_
   ·exact aU.j2_P (@ih) rfl ⟨w0,s0,uT⟩ hp
   ·exact aU.j2_P (@ih) rfl ⟨w0,s0,uT⟩ hp
  ·obtain ⟨w2,s2⟩:=w0.pp [] 1
   exact aA hp ⟨rfl,w2,(s0.trans s2),trivial⟩
def aU.p (F:Nat) (ae:KT):Option (Int):=(aq.p F ae).bind λr2=>aU.pl61 F F 0 r2 0
theorem aU.P {au ak av ae ag} (aJ:ak=ae.length) (h0:Inn H R0 λR=>ROs (aa eI (aa eI (aa eI (aa eI eI)))) H R ⟨au,ak,av⟩ ae) {r:Int} (hp:aU.p F ae=some r):Rt (aU.tw F ⟨au,ak,av⟩ ag H) (aU.Q H R0 R0  r):=by
 obtain ⟨w0,aF⟩:=h0
 subst aJ
 unfold aU.p at hp
 unfold aU.tw aU.twX
 have s0:=w0.rf
 refine aW w0 λH1 w1 s1=>?_
 refine lSl w1 0 ?_
 refine lI w1 0 ?_
 obtain ⟨r2,e2,hp⟩:=ah hp
 refine aM (aq.P rfl ⟨w1,(aF.step s1)⟩ e2) ?_
 rintro _ H3 ⟨o0a_3,o0n_3,o0c_3,o0k_3,rfl,rfl,w3,s3,f3_0⟩
 refine br ?_
 obtain ⟨w4,s4⟩:=w3.pp [0] 2
 exact aU.l61_P F rfl ⟨w4,(s0.trans (s1.trans (s3.trans s4))),(f3_0.step s4)⟩ hp
def cu.Q (H0:Hp) (Ri R0:KO)  (r:Bool) (v:AV) (H':Hp):Prop:=v=(.bool r)/\Out H0 Ri H' (R0) λR=>True
def cu.p (F:Nat) (ae:KT) (ag:Int):Option (Bool):=(bif (decide ((ae.length:Int)>10)) then (some false) else ((cP.p F ag 0 8).bind λr3=>(bif (!r3) then (some false) else ((aE.p F ae).bind λr6=>(bif (!r6) then (some false) else ((az.p F ae).bind λr9=>(aU.p F ae).bind λr12=>some ((r9.length:Int)==(wrap .i64 ((ae.length:Int)+(wrap .i64 (2 * r12)))))))))))
theorem cu.P {au ak av ae ag} (aJ:ak=ae.length) (h0:Inn H R0 λR=>ROs (aa eI (aa eI (aa eI (aa eI eI)))) H R ⟨au,ak,av⟩ ae) {r:Bool} (hp:cu.p F ae ag=some r):Rt (cu.tw F ⟨au,ak,av⟩ ag H) (cu.Q H R0 R0  r):=by
 obtain ⟨w0,aF⟩:=h0
 subst aJ
 unfold cu.p at hp
 unfold cu.tw cu.twX
 have s0:=w0.rf
 refine aW w0 λH1 w1 s1=>?_
 refine lSl w1 0 ?_
 refine aB hp (λhp=>?_) λhp=>?_
 ·obtain ⟨w2,s2⟩:=w1.pp [] 1
  exact aA hp ⟨rfl,w2,(s0.trans (s1.trans s2)),trivial⟩
 ·refine lI w1 0 ?_
  obtain ⟨r3,e3,hp⟩:=ah hp
  refine aM (cP.P ⟨w1,trivial⟩ e3) ?_
  rintro _ H4 ⟨rfl,w4,s4,_⟩
  refine br ?_
  refine aB hp (λhp=>?_) λhp=>?_
  ·obtain ⟨w5,s5⟩:=w4.pp [] 1
   exact aA hp ⟨rfl,w5,(s0.trans (s1.trans (s4.trans s5))),trivial⟩
  ·refine lSl w4 0 ?_
   refine lI w4 0 ?_
   obtain ⟨r6,e6,hp⟩:=ah hp
   refine aM (aE.P rfl ⟨w4,(aF.step (s1.trans s4))⟩ e6) ?_
   rintro _ H7 ⟨rfl,w7,s7,_⟩
   refine br ?_
   refine aB hp (λhp=>?_) λhp=>?_
   ·obtain ⟨w8,s8⟩:=w7.pp [] 1
    exact aA hp ⟨rfl,w8,(s0.trans (s1.trans (s4.trans (s7.trans s8)))),trivial⟩
   ·refine lSl w7 0 ?_
    refine lI w7 0 ?_
    obtain ⟨r9,e9,hp⟩:=ah hp
    refine aM (az.P rfl ⟨w7,(aF.step (s1.trans (s4.trans s7)))⟩ e9) ?_
    rintro _ H10 ⟨o0a_10,o0n_10,o0c_10,o0k_10,rfl,rfl,w10,s10,f10_0⟩
    refine br ?_
    refine fL (W.cons_of (Rn:=[_]) w7 w10 s10) ?_
    refine lSl w10 1 ?_
    refine lSl w10 1 ?_
    refine lI w10 1 ?_
    obtain ⟨r12,e12,hp⟩:=ah hp
    refine aM (aU.P rfl ⟨w10,(aF.step (s1.trans (s4.trans (s7.trans s10))))⟩ e12) ?_
    rintro _ H13 ⟨rfl,w13,s13,_⟩
    refine br ?_
    refine fL (W.cons_of (Rn:=[]) w10 w13 s13) ?_
    obtain ⟨w15,s15⟩:=w13.pp [] 2
    exact aA hp ⟨rfl,w15,(s0.trans (s1.trans (s4.trans (s7.trans (s10.trans (s13.trans s15)))))),trivial⟩
def ai.Q (H0:Hp) (Ri R0:KO)  (r:La) (v:AV) (H':Hp):Prop:=∃ o0a:ON,∃ o0n:Nat,∃ o0c:Cap,∃ o0k:List AV,v=(.tup [(.sl ⟨o0a,o0n,o0c⟩),(.i r.2)])/\o0n=(r.1).length/\Out H0 Ri H' (Rs.own ⟨o0a,o0n,o0c⟩ eI.z o0k::R0) λR=>CR eI H' R o0k (r.1)
def ai.S29 (H0:Hp) (Ri R0:KO)  (C:Lc) (pC:Lq):Prop:=∀ {kw uU iL dX qZ kx uV eU iM fj kz uW},∀ {H:Hp},iL=eU.length->qZ=kz.length->(Out H0 Ri H (Rs.blk dX [.sl ⟨kw,iL,kx⟩,.i iM]::Rs.own ⟨uU,qZ,uV⟩ eI.z uW::R0) λR=>ROs (aa eI (aa eI (aa eI (aa eI eI)))) H R ⟨kw,iL,kx⟩ eU/\CR eI H R uW kz)->∀ {r:La},pC eU iM kz fj=some r->Rt (C dX 0 ⟨uU,qZ,uV⟩ fj H) (ai.Q H0 Ri R0  r)
def ai.S61 (H0:Hp) (Ri R0:KO)  (C:Lc) (pC:Lq):Prop:=∀ {uX uY q_ gI ra uZ u_ hO na bR hP vd},∀ {H:Hp},q_=hO.length->ra=hP.length->(Out H0 Ri H (Rs.blk gI [.sl ⟨uX,q_,uZ⟩,.i na]::Rs.own ⟨uY,ra,u_⟩ eI.z vd::R0) λR=>ROs (aa eI (aa eI (aa eI (aa eI eI)))) H R ⟨uX,q_,uZ⟩ hO/\CR eI H R vd hP)->∀ {r:La},pC hO na hP bR=some r->Rt (C gI 0 ⟨uY,ra,u_⟩ bR H) (ai.Q H0 Ri R0  r)
def ai.S1963 (H0:Hp) (Ri R0:KO)  (C:Lu) (pC:LM):Prop:=∀ {ve vf rb iF rc vg vh jp kA fQ dZ d_ eS gp vi},∀ {H:Hp},rb=jp.length->rc=gp.length->(Out H0 Ri H (Rs.blk iF [.sl ⟨ve,rb,vg⟩,.i kA]::Rs.own ⟨vf,rc,vh⟩ eI.z vi::R0) λR=>ROs (aa eI (aa eI (aa eI (aa eI eI)))) H R ⟨ve,rb,vg⟩ jp/\CR eI H R vi gp)->∀ {r:La},pC jp kA gp fQ dZ d_ eS=some r->Rt (C iF 0 ⟨vf,rc,vh⟩ fQ dZ d_ eS H) (ai.Q H0 Ri R0  r)
def ai.pj12 (F:Nat) (rh:LM) (oQ:KT) (ri:Int) (oR:KS) (mg:Int) (mh:Int) (mi:Int) (mj:Int):Option (List Int×Int):=rh oQ ri oR mg mh mi (wrap .i64 (mj+1))
theorem ai.j12_P  {C1963_:Lu} {rh:LM} (hC1963:ai.S1963 H0 Ri R0  C1963_ rh) {Ar As vj qn vk Au Av oQ ri mg mh mi mj oR Aw} (Gr:vj=oQ.length) (Gs:vk=oR.length) (h0:Out H0 Ri H (Rs.blk qn [.sl ⟨Ar,vj,Au⟩,.i ri]::Rs.own ⟨As,vk,Av⟩ eI.z Aw::R0) λR=>ROs (aa eI (aa eI (aa eI (aa eI eI)))) H R ⟨Ar,vj,Au⟩ oQ/\CR eI H R Aw oR) {r:La} (hp:ai.pj12 F rh oQ ri oR mg mh mi mj=some r):Rt (ai.j12 F  C1963_ qn 0 ⟨As,vk,Av⟩ mg mh mi mj H) (ai.Q H0 Ri R0  r):=by
 obtain ⟨w0,s0,Gt,Gu⟩:=h0
 subst Gr
 subst Gs
 unfold ai.pj12 at hp
 unfold ai.j12
 exact hC1963 rfl rfl ⟨w0,s0,Gt,Gu⟩ hp
def ai.pj10 (F:Nat) (aG:Lq) (oS:KT) (rj:Int) (oT:KS) (md:Int):Option (List Int×Int):=aG oS rj oT (wrap .i64 (md+1))
theorem ai.j10_P  {C61_:Lc} {aG:Lq} (hC61:ai.S61 H0 Ri R0  C61_ aG) {Ax Ay vl qk vm Az AA oS rj md oT AB} (Gv:vl=oS.length) (Gw:vm=oT.length) (h0:Out H0 Ri H (Rs.blk qk [.sl ⟨Ax,vl,Az⟩,.i rj]::Rs.own ⟨Ay,vm,AA⟩ eI.z AB::R0) λR=>ROs (aa eI (aa eI (aa eI (aa eI eI)))) H R ⟨Ax,vl,Az⟩ oS/\CR eI H R AB oT) {r:La} (hp:ai.pj10 F aG oS rj oT md=some r):Rt (ai.j10 F  C61_ qk 0 ⟨Ay,vm,AA⟩ md H) (ai.Q H0 Ri R0  r):=by
 obtain ⟨w0,s0,Gx,Gy⟩:=h0
 subst Gv
 subst Gw
 unfold ai.pj10 at hp
 unfold ai.j10
 exact hC61 rfl rfl ⟨w0,s0,Gx,Gy⟩ hp
def ai.pj11 (F:Nat) (aG:Lq) (oU:KT) (rl:Int) (oV:KS) (mf:Int):Option (List Int×Int):=ai.pj10 F aG oU rl oV mf
theorem ai.j11_P  {C61_:Lc} {aG:Lq} (hC61:ai.S61 H0 Ri R0  C61_ aG) {AC AD vn ql vo AF AG oU rl mf oV AH} (Gz:vn=oU.length) (GA:vo=oV.length) (h0:Out H0 Ri H (Rs.blk ql [.sl ⟨AC,vn,AF⟩,.i rl]::Rs.own ⟨AD,vo,AG⟩ eI.z AH::R0) λR=>ROs (aa eI (aa eI (aa eI (aa eI eI)))) H R ⟨AC,vn,AF⟩ oU/\CR eI H R AH oV) {r:La} (hp:ai.pj11 F aG oU rl oV mf=some r):Rt (ai.j11 F  C61_ ql 0 ⟨AD,vo,AG⟩ mf H) (ai.Q H0 Ri R0  r):=by
 obtain ⟨w0,s0,GB,GC⟩:=h0
 subst Gz
 subst GA
 unfold ai.pj11 at hp
 unfold ai.j11
 exact ai.j10_P (@hC61) rfl rfl ⟨w0,s0,GB,GC⟩ hp
def ai.pl1963 (F:Nat) (aG:Lq):Nat->List (Int×Int×Int×Int×Int)->Int->List Int->Int->Int->Int->Int->Option (List Int×Int)
 | 0,_,_,_,_,_,_,_=>none
 | k+1,jp,kA,gp,fQ,dZ,d_,eS=>(bif (decide (eS<(gp.length:Int))) then ((ix gp eS).bind λn1=>(bif ((gt gp n1)==(if d_>dZ then d_ else dZ)) then ((ix gp eS).bind λn2=>(some (gp.set n2 (if d_<dZ then d_ else dZ))).bind λl3=>ai.pj12 F (ai.pl1963 F aG k) jp kA l3 fQ dZ d_ eS) else (ai.pj12 F (ai.pl1963 F aG k) jp kA gp fQ dZ d_ eS))) else (ai.pj11 F aG jp kA gp fQ))
theorem ai.l1963_P  {C61_:Lc} {aG:Lq} (hC61:ai.S61 H0 Ri R0  C61_ aG):∀ k,ai.S1963 H0 Ri R0  (ai.l1963 F  C61_ k) (ai.pl1963 F aG k):=by
 intro k
 induction k with
 | zero=>unfold ai.S1963;intros;rename_i hp;cases hp
 | succ k ih=>
  intro ve vf rb iF rc vg vh jp kA fQ dZ d_ eS gp vi H GD GE h0 r hp
  obtain ⟨w0,s0,vp,oW⟩:=h0
  subst GD
  subst GE
  unfold ai.pl1963 at hp
  unfold ai.l1963
  refine aB hp (λhp=>?_) λhp=>?_
  ·obtain ⟨n1,g1,hp⟩:=ah hp
   obtain ⟨p1,q1,i1,h1,j1⟩:=W.ixo (E:=eI) w0 (i:=1) rfl rfl oW g1
   refine aj i1 ?_
   have h1:_=[_]:=h1
   subst h1
   refine aj (aD (j1 0 _ rfl)) ?_
   refine aB hp (λhp=>?_) λhp=>?_
   ·obtain ⟨n2,g2,hp⟩:=ah hp
    obtain ⟨p2,q2,i2,h2,j2⟩:=W.ixo (E:=eI) w0 (i:=1) rfl rfl oW g2
    refine aj i2 ?_
    obtain ⟨l3,e3,hp⟩:=ah hp
    refine dA eI w0 (i:=1) (j:=0) (p:=p2) rfl rfl oW g2 i2 e3 rfl rfl (λ_ h=>by have h:_=[_]:=h;subst h;exact rfl) λH4 k4 w4 s4 c4=>?_
    exact ai.j12_P (@ih) rfl ((cl e3).symm) ⟨w4,(s0.trans s4),(vp.step s4),c4⟩ hp
   ·exact ai.j12_P (@ih) rfl rfl ⟨w0,s0,vp,oW⟩ hp
  ·exact ai.j11_P (@hC61) rfl rfl ⟨w0,s0,vp,oW⟩ hp
def ai.S509 (H0:Hp) (Ri R0:KO)  (C:Lx) (pC:LN):Prop:=∀ {vq vr vt rm iE rn rp vu vv vw vx kB eR dY gq gr vy vz},∀ {H:Hp},rm=vx.length->rn=gq.length->rp=gr.length->(Out H0 Ri H (Rs.blk iE [.sl ⟨vq,rm,vu⟩,.i kB]::Rs.own ⟨vr,rn,vv⟩ eI.z vy::Rs.own ⟨vt,rp,vw⟩ eI.z vz::R0) λR=>ROs (aa eI (aa eI (aa eI (aa eI eI)))) H R ⟨vq,rm,vu⟩ vx/\CR eI H R vy gq/\CR eI H R vz gr)->∀ {r:La},pC kB gq gr eR dY=some r->Rt (C iE 0 ⟨vr,rn,vv⟩ ⟨vt,rp,vw⟩ eR dY H) (ai.Q H0 Ri R0  r)
def ai.pj7 (F:Nat) (rq:LN) (ru:Int) (oX:KS) (oY:KS) (ma:Int) (mb:Int):Option (List Int×Int):=rq ru oX oY ma (wrap .i64 (mb+1))
theorem ai.j7_P  {C509_:Lx} {rq:LN} (hC509:ai.S509 H0 Ri R0  C509_ rq) {AI AJ AK vA qi vB vC AL AM AN AO ru ma mb oX oY AP AQ} (GF:vA=AO.length) (GG:vB=oX.length) (GH:vC=oY.length) (h0:Out H0 Ri H (Rs.blk qi [.sl ⟨AI,vA,AL⟩,.i ru]::Rs.own ⟨AJ,vB,AM⟩ eI.z AP::Rs.own ⟨AK,vC,AN⟩ eI.z AQ::R0) λR=>ROs (aa eI (aa eI (aa eI (aa eI eI)))) H R ⟨AI,vA,AL⟩ AO/\CR eI H R AP oX/\CR eI H R AQ oY) {r:La} (hp:ai.pj7 F rq ru oX oY ma mb=some r):Rt (ai.j7 F  C509_ qi 0 ⟨AJ,vB,AM⟩ ⟨AK,vC,AN⟩ ma mb H) (ai.Q H0 Ri R0  r):=by
 obtain ⟨w0,s0,GI,GJ,GK⟩:=h0
 subst GF
 subst GG
 subst GH
 unfold ai.pj7 at hp
 unfold ai.j7
 exact hC509 rfl rfl rfl ⟨w0,s0,GI,GJ,GK⟩ hp
def ai.pj6 (F:Nat)  (rv:Int) (oZ:KS) (l_:Int):Option (List Int×Int):=some (oZ,(wrap .i64 (l_+rv)))
theorem ai.j6_P   {AR AS vD qh vE AT AU AW rv l_ oZ AX} (GL:vD=AW.length) (GM:vE=oZ.length) (h0:Out H0 Ri H (Rs.blk qh [.sl ⟨AR,vD,AT⟩,.i rv]::Rs.own ⟨AS,vE,AU⟩ eI.z AX::R0) λR=>ROs (aa eI (aa eI (aa eI (aa eI eI)))) H R ⟨AR,vD,AT⟩ AW/\CR eI H R AX oZ) {r:La} (hp:ai.pj6 F  rv oZ l_=some r):Rt (ai.j6 F   qh 0 ⟨AS,vE,AU⟩ l_ H) (ai.Q H0 Ri R0  r):=by
 obtain ⟨w0,s0,Kd,GN⟩:=h0
 subst GL
 subst GM
 unfold ai.pj6 at hp
 unfold ai.j6
 refine lI w0 0 ?_
 obtain ⟨w1,s1⟩:=w0.pp [1] 2
 exact aA hp ⟨_,_,_,_,rfl,rfl,w1,(s0.trans s1),(GN.step s1)⟩
def ai.pl509 (F:Nat) :Nat->Int->List Int->List Int->Int->Int->Option (List Int×Int)
 | 0,_,_,_,_,_=>none
 | k+1,kB,gq,gr,eR,dY=>(bif (decide (dY<(gq.length:Int))) then ((ix gq dY).bind λn1=>(bif ((gt gq n1)==dY) then ((apn gr ([eR]:List Int)).bind λl3=>ai.pj7 F (ai.pl509 F k) kB gq l3 (wrap .i64 (eR+1)) dY) else ((ix gq dY).bind λn6=>(ix gr (gt gq n6)).bind λn7=>(apn gr ([(gt gr n7)]:List Int)).bind λl9=>ai.pj7 F (ai.pl509 F k) kB gq l9 eR dY))) else (ai.pj6 F kB gr eR))
theorem ai.l509_P  :∀ k,ai.S509 H0 Ri R0  (ai.l509 F   k) (ai.pl509 F  k):=by
 intro k
 induction k with
 | zero=>unfold ai.S509;intros;rename_i hp;cases hp
 | succ k ih=>
  intro vq vr vt rm iE rn rp vu vv vw vx kB eR dY gq gr vy vz H GO GP GQ h0 r hp
  obtain ⟨w0,s0,vF,rx,ry⟩:=h0
  subst GO
  subst GP
  subst GQ
  unfold ai.pl509 at hp
  unfold ai.l509
  refine aB hp (λhp=>?_) λhp=>?_
  ·obtain ⟨n1,g1,hp⟩:=ah hp
   obtain ⟨p1,q1,i1,h1,j1⟩:=W.ixo (E:=eI) w0 (i:=1) rfl rfl rx g1
   refine aj i1 ?_
   have h1:_=[_]:=h1
   subst h1
   refine aj (aD (j1 0 _ rfl)) ?_
   refine aB hp (λhp=>?_) λhp=>?_
   ·refine dj eI w0 (n:=1) (l:=([eR]:List Int)) rfl (CR.cons1 rfl CR.empty) rfl λH2 w2 s2 c2=>?_
    refine aj (w2.rowo (i:=0) rfl) ?_
    obtain ⟨l3,e3,hp⟩:=ah hp
    refine gg eI w2 (i:=3) rfl rfl (ry.step s2) c2 (show 1=List.length ([eR]:List Int) from rfl) rfl e3 λa4 d4 H4 w4 s4 c4 x4=>?_
    obtain ⟨w5,s5⟩:=w4.pp [1,2,3] 4
    exact ai.j7_P (@ih) rfl rfl rfl ⟨w5,(s0.trans (s2.trans (s4.trans s5))),(vF.step (s2.trans (s4.trans s5))),(rx.step (s2.trans (s4.trans s5))),(c4.step s5)⟩ hp
   ·obtain ⟨n6,g6,hp⟩:=ah hp
    obtain ⟨p6,q6,i6,h6,j6⟩:=W.ixo (E:=eI) w0 (i:=1) rfl rfl rx g6
    refine aj i6 ?_
    have h6:_=[_]:=h6
    subst h6
    refine aj (aD (j6 0 _ rfl)) ?_
    obtain ⟨n7,g7,hp⟩:=ah hp
    obtain ⟨p7,q7,i7,h7,j7⟩:=W.ixo (E:=eI) w0 (i:=2) rfl rfl ry g7
    refine aj i7 ?_
    have h7:_=[_]:=h7
    subst h7
    refine aj (aD (j7 0 _ rfl)) ?_
    refine dj eI w0 (n:=1) (l:=([(gt gr n7)]:List Int)) rfl (CR.cons1 rfl CR.empty) rfl λH8 w8 s8 c8=>?_
    refine aj (w8.rowo (i:=0) rfl) ?_
    obtain ⟨l9,e9,hp⟩:=ah hp
    refine gg eI w8 (i:=3) rfl rfl (ry.step s8) c8 (show 1=List.length ([(gt gr n7)]:List Int) from rfl) rfl e9 λa10 d10 H10 w10 s10 c10 x10=>?_
    obtain ⟨w11,s11⟩:=w10.pp [1,2,3] 4
    exact ai.j7_P (@ih) rfl rfl rfl ⟨w11,(s0.trans (s8.trans (s10.trans s11))),(vF.step (s8.trans (s10.trans s11))),(rx.step (s8.trans (s10.trans s11))),(c10.step s11)⟩ hp
  ·obtain ⟨w12,s12⟩:=w0.pp [0,2] 3
   exact ai.j6_P rfl rfl ⟨w12,(s0.trans s12),(vF.step s12),(ry.step s12)⟩ hp
def ai.pj8 (F:Nat)  (rz:Int) (o_:KS):Option (List Int×Int):=ai.pl509 F F rz o_ ([]:List Int) 0 0
theorem ai.j8_P   {AY AZ vG qj vH A_ Ba Bb rz o_ Bc} (GR:vG=Bb.length) (GS:vH=o_.length) (h0:Out H0 Ri H (Rs.blk qj [.sl ⟨AY,vG,A_⟩,.i rz]::Rs.own ⟨AZ,vH,Ba⟩ eI.z Bc::R0) λR=>ROs (aa eI (aa eI (aa eI (aa eI eI)))) H R ⟨AY,vG,A_⟩ Bb/\CR eI H R Bc o_) {r:La} (hp:ai.pj8 F  rz o_=some r):Rt (ai.j8 F   qj 0 ⟨AZ,vH,Ba⟩ H) (ai.Q H0 Ri R0  r):=by
 obtain ⟨w0,s0,GT,GU⟩:=h0
 subst GR
 subst GS
 unfold ai.pj8 at hp
 unfold ai.j8
 refine dj eI w0 (n:=0) (l:=([]:List Int)) rfl CR.empty rfl λH1 w1 s1 c1=>?_
 obtain ⟨w2,s2⟩:=w1.pp [1,2,0] 3
 exact ai.l509_P F rfl rfl (show 0=List.length ([]:List Int) from rfl) ⟨w2,(s0.trans (s1.trans s2)),(GT.step (s1.trans s2)),(GU.step (s1.trans s2)),(c1.step s2)⟩ hp
def ai.pl61 (F:Nat) :Nat->List (Int×Int×Int×Int×Int)->Int->List Int->Int->Option (List Int×Int)
 | 0,_,_,_,_=>none
 | k+1,hO,na,hP,bR=>(bif (decide (bR<(hO.length:Int))) then ((ix hO bR).bind λn1=>(ix hP ((gt hO n1).2.1)).bind λn2=>(ix hO bR).bind λn3=>(ix hP ((gt hO n3).2.2.2.1)).bind λn4=>ai.pl1963 F (ai.pl61 F k) F hO na hP bR (gt hP n2) (gt hP n4) 0) else (ai.pj8 F na hP))
theorem ai.l61_P  :∀ k,ai.S61 H0 Ri R0  (ai.l61 F   k) (ai.pl61 F  k):=by
 intro k
 induction k with
 | zero=>unfold ai.S61;intros;rename_i hp;cases hp
 | succ k ih=>
  intro uX uY q_ gI ra uZ u_ hO na bR hP vd H GV GW h0 r hp
  obtain ⟨w0,s0,rA,rB⟩:=h0
  subst GV
  subst GW
  unfold ai.pl61 at hp
  unfold ai.l61
  refine lSl w0 0 ?_
  refine aB hp (λhp=>?_) λhp=>?_
  ·refine lSl w0 0 ?_
   obtain ⟨n1,g1,hp⟩:=ah hp
   obtain ⟨p1,q1,i1,h1,j1⟩:=ROs.ixr rA rfl g1
   refine aj i1 ?_
   obtain ⟨_,_,rfl,rfl,_,_,rfl,rfl,_,_,rfl,rfl,_,_,rfl,rfl,rfl⟩:=h1
   refine aj (aD (j1 1 _ rfl)) ?_
   obtain ⟨n2,g2,hp⟩:=ah hp
   obtain ⟨p2,q2,i2,h2,j2⟩:=W.ixo (E:=eI) w0 (i:=1) rfl rfl rB g2
   refine aj i2 ?_
   have h2:_=[_]:=h2
   subst h2
   refine aj (aD (j2 0 _ rfl)) ?_
   refine lSl w0 0 ?_
   obtain ⟨n3,g3,hp⟩:=ah hp
   obtain ⟨p3,q3,i3,h3,j3⟩:=ROs.ixr rA rfl g3
   refine aj i3 ?_
   obtain ⟨_,_,rfl,rfl,_,_,rfl,rfl,_,_,rfl,rfl,_,_,rfl,rfl,rfl⟩:=h3
   refine aj (aD (j3 3 _ rfl)) ?_
   obtain ⟨n4,g4,hp⟩:=ah hp
   obtain ⟨p4,q4,i4,h4,j4⟩:=W.ixo (E:=eI) w0 (i:=1) rfl rfl rB g4
   refine aj i4 ?_
   have h4:_=[_]:=h4
   subst h4
   refine aj (aD (j4 0 _ rfl)) ?_
   exact ai.l1963_P (@ih) F rfl rfl ⟨w0,s0,rA,rB⟩ hp
  ·exact ai.j8_P rfl rfl ⟨w0,s0,rA,rB⟩ hp
def ai.pj13 (F:Nat)  (pa:KT) (rC:Int) (pb:KS):Option (List Int×Int):=ai.pl61 F F pa rC pb 0
theorem ai.j13_P   {Bd Be vI lT vJ Bf Bg pa rC pb Bh} (GX:vI=pa.length) (GY:vJ=pb.length) (h0:Out H0 Ri H (Rs.blk lT [.sl ⟨Bd,vI,Bf⟩,.i rC]::Rs.own ⟨Be,vJ,Bg⟩ eI.z Bh::R0) λR=>ROs (aa eI (aa eI (aa eI (aa eI eI)))) H R ⟨Bd,vI,Bf⟩ pa/\CR eI H R Bh pb) {r:La} (hp:ai.pj13 F  pa rC pb=some r):Rt (ai.j13 F   lT 0 ⟨Be,vJ,Bg⟩ H) (ai.Q H0 Ri R0  r):=by
 obtain ⟨w0,s0,GZ,G_⟩:=h0
 subst GX
 subst GY
 unfold ai.pj13 at hp
 unfold ai.j13
 exact ai.l61_P F rfl rfl ⟨w0,s0,GZ,G_⟩ hp
def ai.pl29 (F:Nat) :Nat->List (Int×Int×Int×Int×Int)->Int->List Int->Int->Option (List Int×Int)
 | 0,_,_,_,_=>none
 | k+1,eU,iM,kz,fj=>(bif (decide (fj<(wrap .i64 (2 * (eU.length:Int))))) then ((apn kz ([fj]:List Int)).bind λl2=>ai.pl29 F k eU iM l2 (wrap .i64 (fj+1))) else (ai.pj13 F eU iM kz))
theorem ai.l29_P  :∀ k,ai.S29 H0 Ri R0  (ai.l29 F   k) (ai.pl29 F  k):=by
 intro k
 induction k with
 | zero=>unfold ai.S29;intros;rename_i hp;cases hp
 | succ k ih=>
  intro kw uU iL dX qZ kx uV eU iM fj kz uW H uO Ha h0 r hp
  obtain ⟨w0,s0,oO,Bi⟩:=h0
  subst uO
  subst Ha
  unfold ai.pl29 at hp
  unfold ai.l29
  refine lSl w0 0 ?_
  refine aB hp (λhp=>?_) λhp=>?_
  ·refine dj eI w0 (n:=1) (l:=([fj]:List Int)) rfl (CR.cons1 rfl CR.empty) rfl λH1 w1 s1 c1=>?_
   refine aj (w1.rowo (i:=0) rfl) ?_
   obtain ⟨l2,e2,hp⟩:=ah hp
   refine gg eI w1 (i:=2) rfl rfl (Bi.step s1) c1 (show 1=List.length ([fj]:List Int) from rfl) rfl e2 λa3 d3 H3 w3 s3 c3 x3=>?_
   obtain ⟨w4,s4⟩:=w3.pp [1,2] 3
   exact ih rfl rfl ⟨w4,(s0.trans (s1.trans (s3.trans s4))),(oO.step (s1.trans (s3.trans s4))),(c3.step s4)⟩ hp
  ·exact ai.j13_P rfl rfl ⟨w0,s0,oO,Bi⟩ hp
def ai.p (F:Nat) (ae:KT) (ag:Int):Option (List Int×Int):=ai.pl29 F F ae ag ([]:List Int) 0
theorem ai.P {au ak av ae ag} (aJ:ak=ae.length) (h0:Inn H R0 λR=>ROs (aa eI (aa eI (aa eI (aa eI eI)))) H R ⟨au,ak,av⟩ ae) {r:La} (hp:ai.p F ae ag=some r):Rt (ai.tw F ⟨au,ak,av⟩ ag H) (ai.Q H R0 R0  r):=by
 obtain ⟨w0,aF⟩:=h0
 subst aJ
 unfold ai.p at hp
 unfold ai.tw ai.twX
 have s0:=w0.rf
 refine aW w0 λH1 w1 s1=>?_
 refine dj eI w1 (n:=0) (l:=([]:List Int)) rfl CR.empty rfl λH2 w2 s2 c2=>?_
 obtain ⟨w3,s3⟩:=w2.pp [1,0] 2
 exact ai.l29_P F rfl (show 0=List.length ([]:List Int) from rfl) ⟨w3,(s0.trans (s1.trans (s2.trans s3))),(aF.step (s1.trans (s2.trans s3))),(c2.step s3)⟩ hp
def aR.Q (H0:Hp) (Ri R0:KO)  (r:KV) (v:AV) (H':Hp):Prop:=∃ o0a:ON,∃ o0n:Nat,∃ o0c:Cap,∃ o0k:List AV,v=(.sl ⟨o0a,o0n,o0c⟩)/\o0n=(r).length/\Out H0 Ri H' (Rs.own ⟨o0a,o0n,o0c⟩ (eSl eI).z o0k::R0) λR=>CR (eSl eI) H' R o0k (r)
def aR.S61 (H0:Hp) (Ri R0:KO)  (C:Lg) (pC:LP):Prop:=∀ {vK kC vL rD ii iO rE vM kD vN gd Bj fk ck kE vO bL},∀ {H:Hp},rD=gd.length->iO=ck.length->rE=bL.length->(Out H0 Ri H (Rs.blk ii [.sl ⟨vK,rD,vM⟩,.i Bj]::Rs.own ⟨kC,iO,kD⟩ (eSl eI).z kE::Rs.own ⟨vL,rE,vN⟩ eI.z vO::R0) λR=>ROs (aa eI (aa eI (aa eI (aa eI eI)))) H R ⟨vK,rD,vM⟩ gd/\CR (eSl eI) H R kE ck/\CR eI H R vO bL)->∀ {r:KV},pC gd ck bL fk=some r->Rt (C ii 0 ⟨kC,iO,kD⟩ ⟨vL,rE,vN⟩ fk H) (aR.Q H0 Ri R0  r)
def aR.pj2 (F:Nat) (aG:LP) (gZ:KT) (g_:KV) (hG:KS) (mm:Int):Option (List (List Int)):=aG gZ g_ hG (wrap .i64 (mm+1))
theorem aR.j2_P  {C61_:Lg} {aG:LP} (hC61:aR.S61 H0 Ri R0  C61_ aG) {oe og oh kp iC kq kr oq ou ov gZ tO mm g_ ox oy hG} (tP:kp=gZ.length) (tQ:kq=g_.length) (tR:kr=hG.length) (h0:Out H0 Ri H (Rs.blk iC [.sl ⟨oe,kp,oq⟩,.i tO]::Rs.own ⟨og,kq,ou⟩ (eSl eI).z ox::Rs.own ⟨oh,kr,ov⟩ eI.z oy::R0) λR=>ROs (aa eI (aa eI (aa eI (aa eI eI)))) H R ⟨oe,kp,oq⟩ gZ/\CR (eSl eI) H R ox g_/\CR eI H R oy hG) {r:KV} (hp:aR.pj2 F aG gZ g_ hG mm=some r):Rt (aR.j2 F (ai.tw F) C61_ iC 0 ⟨og,kq,ou⟩ ⟨oh,kr,ov⟩ mm H) (aR.Q H0 Ri R0  r):=by
 obtain ⟨w0,s0,tS,tT,tU⟩:=h0
 subst tP
 subst tQ
 subst tR
 unfold aR.pj2 at hp
 unfold aR.j2
 exact hC61 rfl rfl rfl ⟨w0,s0,tS,tT,tU⟩ hp
def aR.pl61 (F:Nat) :Nat->List (Int×Int×Int×Int×Int)->List (List Int)->List Int->Int->Option (List (List Int))
 | 0,_,_,_,_=>none
 | k+1,gd,ck,bL,fk=>(bif (decide (fk<(gd.length:Int))) then ((ix gd fk).bind λn1=>(ix bL ((gt gd n1).1)).bind λn8=>(ix bL ((gt gd n1).2.2.1)).bind λn9=>(ix bL ((gt gd n1).2.1)).bind λn10=>(bif (((gt gd n1).2.2.2.2)==1) then ((apn ck ([([(wrap .i64 ((gt bL n9)+1)),(wrap .i64 ((gt bL n10)+1)),(wrap .i64 (0 - (wrap .i64 ((gt bL n8)+1)))),(wrap .i64 (0 - (wrap .i64 ((gt bL n10)+1))))]:List Int)]:List (List Int))).bind λl14=>aR.pj2 F (aR.pl61 F k) gd l14 bL fk) else ((apn ck ([([(wrap .i64 ((gt bL n9)+1)),(wrap .i64 (0 - (wrap .i64 ((gt bL n10)+1)))),(wrap .i64 (0 - (wrap .i64 ((gt bL n8)+1)))),(wrap .i64 ((gt bL n10)+1))]:List Int)]:List (List Int))).bind λl20=>aR.pj2 F (aR.pl61 F k) gd l20 bL fk))) else (some ck))
theorem aR.l61_P  :∀ k,aR.S61 H0 Ri R0  (aR.l61 F (ai.tw F)  k) (aR.pl61 F  k):=by
 intro k
 induction k with
 | zero=>unfold aR.S61;intros;rename_i hp;cases hp
 | succ k ih=>
  intro vK kC vL rD ii iO rE vM kD vN gd Bj fk ck kE vO bL H Hb vP Hc h0 r hp
  obtain ⟨w0,s0,vQ,jq,pc⟩:=h0
  subst Hb
  subst vP
  subst Hc
  unfold aR.pl61 at hp
  unfold aR.l61
  refine lSl w0 0 ?_
  refine aB hp (λhp=>?_) λhp=>?_
  ·refine lSl w0 0 ?_
   obtain ⟨n1,g1,hp⟩:=ah hp
   obtain ⟨p1,q1,i1,h1,j1⟩:=ROs.ixr vQ rfl g1
   refine aj i1 ?_
   obtain ⟨_,_,rfl,rfl,_,_,rfl,rfl,_,_,rfl,rfl,_,_,rfl,rfl,rfl⟩:=h1
   refine aj (aD (j1 0 _ rfl)) ?_
   refine aj (aD (j1 1 _ rfl)) ?_
   refine aj (aD (j1 2 _ rfl)) ?_
   refine aj (aD (j1 3 _ rfl)) ?_
   refine aj (aD (j1 4 _ rfl)) ?_
   refine aW w0 λH2 w2 s2=>?_
   refine aC w2 0 λH3 w3 s3=>?_
   refine aC w3 0 λH4 w4 s4=>?_
   refine aC w4 0 λH5 w5 s5=>?_
   refine aC w5 0 λH6 w6 s6=>?_
   refine aC w6 0 λH7 w7 s7=>?_
   refine lI w7 0 ?_
   obtain ⟨n8,g8,hp⟩:=ah hp
   obtain ⟨p8,q8,i8,h8,j8⟩:=W.ixo (E:=eI) w7 (i:=3) rfl rfl (pc.step (s2.trans (s3.trans (s4.trans (s5.trans (s6.trans s7)))))) g8
   refine aj i8 ?_
   have h8:_=[_]:=h8
   subst h8
   refine aj (aD (j8 0 _ rfl)) ?_
   refine lI w7 0 ?_
   obtain ⟨n9,g9,hp⟩:=ah hp
   obtain ⟨p9,q9,i9,h9,j9⟩:=W.ixo (E:=eI) w7 (i:=3) rfl rfl (pc.step (s2.trans (s3.trans (s4.trans (s5.trans (s6.trans s7)))))) g9
   refine aj i9 ?_
   have h9:_=[_]:=h9
   subst h9
   refine aj (aD (j9 0 _ rfl)) ?_
   refine lI w7 0 ?_
   obtain ⟨n10,g10,hp⟩:=ah hp
   obtain ⟨p10,q10,i10,h10,j10⟩:=W.ixo (E:=eI) w7 (i:=3) rfl rfl (pc.step (s2.trans (s3.trans (s4.trans (s5.trans (s6.trans s7)))))) g10
   refine aj i10 ?_
   have h10:_=[_]:=h10
   subst h10
   refine aj (aD (j10 0 _ rfl)) ?_
   refine lI w7 0 ?_
   refine aB hp (λhp=>?_) λhp=>?_
   ·refine dj eI w7 (n:=4) (l:=([(wrap .i64 ((gt bL n9)+1)),(wrap .i64 ((gt bL n10)+1)),(wrap .i64 (0 - (wrap .i64 ((gt bL n8)+1)))),(wrap .i64 (0 - (wrap .i64 ((gt bL n10)+1))))]:List Int)) rfl (CR.cons1 rfl (CR.cons1 rfl (CR.cons1 rfl (CR.cons1 rfl CR.empty)))) rfl λH11 w11 s11 c11=>?_
    obtain ⟨w12,s12,f12⟩:=w11.frz (i:=0) eI rfl c11
    refine dj (eSl eI) w12 (n:=1) (l:=([([(wrap .i64 ((gt bL n9)+1)),(wrap .i64 ((gt bL n10)+1)),(wrap .i64 (0 - (wrap .i64 ((gt bL n8)+1)))),(wrap .i64 (0 - (wrap .i64 ((gt bL n10)+1))))]:List Int)]:List (List Int))) rfl (CR.cons1 ⟨_,rfl,f12⟩ CR.empty) rfl λH13 w13 s13 c13=>?_
    refine aj (w13.rowo (i:=0) rfl) ?_
    obtain ⟨l14,e14,hp⟩:=ah hp
    refine gg (eSl eI) w13 (i:=3) rfl rfl (jq.step (s2.trans (s3.trans (s4.trans (s5.trans (s6.trans (s7.trans (s11.trans (s12.trans s13))))))))) c13 (show 1=List.length ([([(wrap .i64 ((gt bL n9)+1)),(wrap .i64 ((gt bL n10)+1)),(wrap .i64 (0 - (wrap .i64 ((gt bL n8)+1)))),(wrap .i64 (0 - (wrap .i64 ((gt bL n10)+1))))]:List Int)]:List (List Int)) from rfl) rfl e14 λa15 d15 H15 w15 s15 c15 x15=>?_
    obtain ⟨w16,s16⟩:=w15.pp [2,3,4] 5
    exact aR.j2_P (@ih) rfl rfl rfl ⟨w16,(s0.trans (s2.trans (s3.trans (s4.trans (s5.trans (s6.trans (s7.trans (s11.trans (s12.trans (s13.trans (s15.trans s16))))))))))),(vQ.step (s2.trans (s3.trans (s4.trans (s5.trans (s6.trans (s7.trans (s11.trans (s12.trans (s13.trans (s15.trans s16))))))))))),(c15.step s16),(pc.step (s2.trans (s3.trans (s4.trans (s5.trans (s6.trans (s7.trans (s11.trans (s12.trans (s13.trans (s15.trans s16)))))))))))⟩ hp
   ·refine dj eI w7 (n:=4) (l:=([(wrap .i64 ((gt bL n9)+1)),(wrap .i64 (0 - (wrap .i64 ((gt bL n10)+1)))),(wrap .i64 (0 - (wrap .i64 ((gt bL n8)+1)))),(wrap .i64 ((gt bL n10)+1))]:List Int)) rfl (CR.cons1 rfl (CR.cons1 rfl (CR.cons1 rfl (CR.cons1 rfl CR.empty)))) rfl λH17 w17 s17 c17=>?_
    obtain ⟨w18,s18,f18⟩:=w17.frz (i:=0) eI rfl c17
    refine dj (eSl eI) w18 (n:=1) (l:=([([(wrap .i64 ((gt bL n9)+1)),(wrap .i64 (0 - (wrap .i64 ((gt bL n10)+1)))),(wrap .i64 (0 - (wrap .i64 ((gt bL n8)+1)))),(wrap .i64 ((gt bL n10)+1))]:List Int)]:List (List Int))) rfl (CR.cons1 ⟨_,rfl,f18⟩ CR.empty) rfl λH19 w19 s19 c19=>?_
    refine aj (w19.rowo (i:=0) rfl) ?_
    obtain ⟨l20,e20,hp⟩:=ah hp
    refine gg (eSl eI) w19 (i:=3) rfl rfl (jq.step (s2.trans (s3.trans (s4.trans (s5.trans (s6.trans (s7.trans (s17.trans (s18.trans s19))))))))) c19 (show 1=List.length ([([(wrap .i64 ((gt bL n9)+1)),(wrap .i64 (0 - (wrap .i64 ((gt bL n10)+1)))),(wrap .i64 (0 - (wrap .i64 ((gt bL n8)+1)))),(wrap .i64 ((gt bL n10)+1))]:List Int)]:List (List Int)) from rfl) rfl e20 λa21 d21 H21 w21 s21 c21 x21=>?_
    obtain ⟨w22,s22⟩:=w21.pp [2,3,4] 5
    exact aR.j2_P (@ih) rfl rfl rfl ⟨w22,(s0.trans (s2.trans (s3.trans (s4.trans (s5.trans (s6.trans (s7.trans (s17.trans (s18.trans (s19.trans (s21.trans s22))))))))))),(vQ.step (s2.trans (s3.trans (s4.trans (s5.trans (s6.trans (s7.trans (s17.trans (s18.trans (s19.trans (s21.trans s22))))))))))),(c21.step s22),(pc.step (s2.trans (s3.trans (s4.trans (s5.trans (s6.trans (s7.trans (s17.trans (s18.trans (s19.trans (s21.trans s22)))))))))))⟩ hp
  ·obtain ⟨w23,s23⟩:=w0.pp [1] 3
   exact aA hp ⟨_,_,_,_,rfl,rfl,w23,(s0.trans s23),(jq.step s23)⟩
def aR.p (F:Nat) (ae:KT) (ag:Int):Option (List (List Int)):=(ai.p F ae ag).bind λr3=>aR.pl61 F F ae ([]:List (List Int)) r3.1 0
theorem aR.P {au ak av ae ag} (aJ:ak=ae.length) (h0:Inn H R0 λR=>ROs (aa eI (aa eI (aa eI (aa eI eI)))) H R ⟨au,ak,av⟩ ae) {r:KV} (hp:aR.p F ae ag=some r):Rt (aR.tw F ⟨au,ak,av⟩ ag H) (aR.Q H R0 R0  r):=by
 obtain ⟨w0,aF⟩:=h0
 subst aJ
 unfold aR.p at hp
 unfold aR.tw aR.twX
 have s0:=w0.rf
 refine aW w0 λH1 w1 s1=>?_
 refine dj (eSl eI) w1 (n:=0) (l:=([]:List (List Int))) rfl CR.empty rfl λH2 w2 s2 c2=>?_
 refine lSl w2 1 ?_
 refine lI w2 1 ?_
 obtain ⟨r3,e3,hp⟩:=ah hp
 refine aM (ai.P rfl ⟨w2,(aF.step (s1.trans s2))⟩ e3) ?_
 rintro _ H4 ⟨o0a_4,o0n_4,o0c_4,o0k_4,rfl,rfl,w4,s4,f4_0⟩
 refine br (br (br (br (br ?_))))
 obtain ⟨w5,s5⟩:=w4.pp [2,1,0] 3
 exact aR.l61_P F rfl (show 0=List.length ([]:List (List Int)) from rfl) rfl ⟨w5,(s0.trans (s1.trans (s2.trans (s4.trans s5)))),(aF.step (s1.trans (s2.trans (s4.trans s5)))),(c2.step (s4.trans s5)),(f4_0.step s5)⟩ hp
def bC.Q (H0:Hp) (Ri R0:KO)  (r:KS) (v:AV) (H':Hp):Prop:=∃ o0a:ON,∃ o0n:Nat,∃ o0p:List AV,∃ o0r:List AV,∃ o0c:Cap,∃ o0k:List AV,v=(.sl ⟨o0a,o0n,o0c⟩)/\o0n=(r).length/\Out H0 Ri H' (Rs.ow false ⟨o0a,o0n,o0c⟩ eI.z o0p o0k o0r::R0) λR=>CR eI H' R o0k (r)
theorem bC.red_l {F:Nat} {H0:Hp} {R:KO} {w:Sl} {lw:KS} (f:ROs eI H0 R w lw) (hwn:w.n=lw.length) (hw:lw.length<=4294967296):∀ (m k i:Nat) (H:Hp) (s:Sl) (l:KS),lw.length - i=m->m<k->i<=lw.length->l.length<=i->RM H0 R H s l ->
  ∃ v H',bC.l29 F k w s (i:Int) H=some (v,H')/\∃ s',v=.sl s'/\RM H0 R H' s' (fC l (lw.drop i)):=by
 intro m
 induction m with
 | zero=>
  intro k i H s l hm hk hi hl h
  obtain ⟨k,rfl⟩:∃ k',k=k'+1:=⟨k - 1,by omega⟩
  rw [bC.l29,decide_eq_false (by omega),cond_false,List.drop_eq_nil_of_le (by omega)]
  exact ⟨_,_,rfl,s,rfl,h⟩
 | succ m ih=>
  intro k i H s l hm hk hi hl h
  obtain ⟨k,rfl⟩:∃ k',k=k'+1:=⟨k - 1,by omega⟩
  have hi':i<lw.length:=by omega
  obtain ⟨R',f'⟩:=h.ro f
  obtain ⟨p,cs,e1,e2,e3⟩:=ROs.ixr (z:=1) f' rfl (show ix lw (i:Int)=some i by unfold ix;rw [if_pos ⟨by omega,by omega⟩];rfl)
  have e2:cs=[.i (gt lw i)]:=e2
  subst e2
  have hx:H.ldI .i64 p.1 p.2=some (gt lw i):=aD (e3 0 _ rfl)
  have hg:gt lw i=lw[i]:=by unfold gt;simp [hi']
  have hd:lw.drop i=gt lw i::lw.drop (i+1):=by rw [hg];exact List.drop_eq_getElem_cons hi'
  have hwr:wrap .i64 ((i:Int)+1)=((i+1:Nat):Int):=by rw [cb (by omega) (by omega)];omega
  have hsn:=h.n
  rw [bC.l29,decide_eq_true (by omega),cond_true]
  unfold bC.j2
  simp only [e1,Option.bind_some,hx,hwr]
  rw [hd]
  by_cases h0:l=[]
  ·rw [decide_eq_false (by rw [hsn,h0];simp),cond_false]
   refine h.app (gt lw i) (by omega) λs' H' h'=>?_
   obtain ⟨v,H2,q1,q2⟩:=ih k (i+1) H' s' (l++[gt lw i]) (by omega) (by omega) (by omega) (by simp;omega) h'
   refine ⟨v,H2,q1,?_⟩
   rw [fC,if_neg (by rw [h0];simp)];exact q2
  ·obtain ⟨p',g1,g2,s',g3,g4⟩:=h.last (by omega) (List.dropLast_concat_getLast h0).symm
   rw [decide_eq_true (by have:=List.length_pos_iff.2 h0;omega),cond_true]
   simp only [g1,Option.bind_some,g2,g3]
   have hgl:l.getLast?=some (l.getLast h0):=List.getLast?_eq_some_getLast h0
   by_cases hc:l.getLast h0=wrap .i64 (0 - gt lw i)
   ·rw [beq_iff_eq.2 hc,cond_true]
    obtain ⟨v,H2,q1,q2⟩:=ih k (i+1) H s' l.dropLast (by omega) (by omega) (by omega) (by rw [List.length_dropLast];omega) g4
    refine ⟨v,H2,q1,?_⟩
    rw [fC,if_pos (by rw [hgl,hc])];exact q2
   ·rw [beq_eq_false_iff_ne.2 hc,cond_false]
    refine h.app (gt lw i) (by omega) λs' H' h'=>?_
    obtain ⟨v,H2,q1,q2⟩:=ih k (i+1) H' s' (l++[gt lw i]) (by omega) (by omega) (by omega) (by simp;omega) h'
    refine ⟨v,H2,q1,?_⟩
    rw [fC,if_neg (by rw [hgl];intro q;exact hc (Option.some.inj q))];exact q2
def bC.p (F:Nat) (ae:KS):Option (List Int):=(if ae.length<F/\ae.length<=4294967296 then some (fC [] ae) else none)
theorem bC.P {au ak av ae} (aJ:ak=ae.length) (h0:Inn H R0 λR=>ROs eI H R ⟨au,ak,av⟩ ae) {r:KS} (hp:bC.p F ae=some r):Rt (bC.tw F ⟨au,ak,av⟩ H) (bC.Q H R0 R0  r):=by
 obtain ⟨w0,f0⟩:=h0
 subst aJ
 unfold bC.p at hp
 unfold bC.tw bC.twX
 obtain ⟨⟨hF,hc⟩,hp⟩:=dB hp
 obtain rfl:=Option.some.inj hp
 unfold Hp.new
 rw [Option.bind_some]
 obtain ⟨H2,e2,w2,s2⟩:=w0.new []
 unfold Hp.new at e2
 obtain rfl:=Option.some.inj e2
 have h1:RM H R0 (H++[⟨[],true,true⟩]) (⟨some (H.length,0),0,.ex 0⟩:Sl) []:=⟨rfl,.inl ⟨rfl,rfl,w2.right1.1,s2.trans w2.right1.2⟩⟩
 obtain ⟨v,H2,e,s',rfl,h2⟩:=bC.red_l (F:=F) f0 rfl hc ae.length F 0 _ _ [] (by omega) (by omega) (by omega) (by simp) h1
 obtain ⟨a,c,p,k,r,rfl,w3,fr,cr⟩:=h2.out
 exact ⟨_,_,e,_,_,_,_,_,_,rfl,rfl,w3,fr,cr⟩
def bg.Q (H0:Hp) (Ri R0:KO)  (r:Lw) (v:AV) (H':Hp):Prop:=∃ o1a:ON,∃ o1n:Nat,∃ o1c:Cap,∃ o1k:List AV,v=(.tup [(.agg [(.i r.1),(.sl ⟨o1a,o1n,o1c⟩)]),(.i r.2.2)])/\o1n=(r.2.1).length/\Out H0 Ri H' (Rs.own ⟨o1a,o1n,o1c⟩ (eSl eI).z o1k::R0) λR=>CR (eSl eI) H' R o1k (r.2.1)
def bg.S253 (H0:Hp) (Ri R0:KO)  (C:Nat->Nat->Nat->Nat->Sl->Int->Hp->OA) (pC:Int->List (List Int)->List (List Int)->Int->Option (Int×List (List Int)×Int)):Prop:=∀ {pd gf fR kF kG vR iQ du iS bR rF kH kI vS kJ fz iT kK kL vT},∀ {H:Hp},iQ=kJ.length->iS=fz.length->rF=iT.length->(Out H0 Ri H (Rs.own ⟨kF,iQ,kH⟩ (eSl eI).z kK::Rs.blk du [.i pd,.sl ⟨kF,iQ,kH⟩]::Rs.own ⟨kG,iS,kI⟩ (eSl eI).z kL::Rs.blk bR [.i gf,.sl ⟨kG,iS,kI⟩]::Rs.own ⟨vR,rF,vS⟩ (eSl eI).z vT::R0) λR=>CR (eSl eI) H R kK kJ/\CR (eSl eI) H R kL fz/\CR (eSl eI) H R vT iT)->∀ {r:Lw},pC gf fz iT fR=some r->Rt (C du 0 bR 0 ⟨vR,rF,vS⟩ fR H) (bg.Q H0 Ri R0  r)
def bg.pl253 (F:Nat) :Nat->Int->List (List Int)->List (List Int)->Int->Option (Int×List (List Int)×Int)
 | 0,_,_,_,_=>none
 | k+1,gf,fz,iT,fR=>(bif (decide (fR<(iT.length:Int))) then ((ix iT fR).bind λn1=>(bC.p F (gt iT n1)).bind λr2=>(apn fz ([r2]:List (List Int))).bind λl7=>bg.pl253 F k gf l7 iT (wrap .i64 (fR+1))) else (some (gf,fz,0)))
theorem bg.l253_P  :∀ k,bg.S253 H0 Ri R0  (bg.l253 F (cu.tw F) (ai.tw F) (aR.tw F) (bC.tw F)  k) (bg.pl253 F  k):=by
 intro k
 induction k with
 | zero=>unfold bg.S253;intros;rename_i hp;cases hp
 | succ k ih=>
  intro pd gf fR kF kG vR iQ du iS bR rF kH kI vS kJ fz iT kK kL vT H vU vV Hd h0 r hp
  obtain ⟨w0,s0,vW,pe,Bk⟩:=h0
  subst vU
  subst vV
  subst Hd
  unfold bg.pl253 at hp
  unfold bg.l253
  refine aB hp (λhp=>?_) λhp=>?_
  ·refine lSl w0 3 ?_
   obtain ⟨n1,g1,hp⟩:=ah hp
   obtain ⟨p1,q1,i1,h1,j1⟩:=W.ixo (E:=(eSl eI)) w0 (i:=4) rfl rfl Bk g1
   refine aj i1 ?_
   obtain ⟨⟨vX,m1_0,c1_0⟩,rfl,f1_0⟩:=h1
   obtain rfl:m1_0=_:=f1_0.n
   refine aj (lg (j1 0 _ rfl)) ?_
   obtain ⟨r2,e2,hp⟩:=ah hp
   refine aM (bC.P rfl ⟨w0,f1_0⟩ e2) ?_
   rintro _ H3 ⟨o0a_3,o0n_3,o0p_3,o0r_3,o0c_3,o0k_3,rfl,rfl,w3,s3,f3_0⟩
   refine br ?_
   refine fL (W.cons_of (Rn:=[_]) w0 w3 s3) ?_
   obtain ⟨w5,s5,f5⟩:=w3.frz (i:=0) eI rfl f3_0
   refine dj (eSl eI) w5 (n:=1) (l:=([r2]:List (List Int))) rfl (CR.cons1 ⟨_,rfl,f5⟩ CR.empty) rfl λH6 w6 s6 c6=>?_
   refine aj (w6.rowo (i:=0) rfl) ?_
   obtain ⟨l7,e7,hp⟩:=ah hp
   refine gg (eSl eI) w6 (i:=3) rfl rfl (pe.step (s3.trans (s5.trans s6))) c6 (show 1=List.length ([r2]:List (List Int)) from rfl) rfl e7 λa8 d8 H8 w8 s8 c8 x8=>?_
   refine aC w8 4 λH9 w9 s9=>?_
   obtain ⟨w10,s10⟩:=w9.pp [1,2,3,4,5] 6
   exact ih rfl rfl rfl ⟨w10,(s0.trans (s3.trans (s5.trans (s6.trans (s8.trans (s9.trans s10)))))),(vW.step (s3.trans (s5.trans (s6.trans (s8.trans (s9.trans s10)))))),(c8.step (s9.trans s10)),(Bk.step (s3.trans (s5.trans (s6.trans (s8.trans (s9.trans s10))))))⟩ hp
  ·refine lI w0 3 ?_
   refine lSl w0 3 ?_
   refine aC w0 1 λH11 w11 s11=>?_
   refine aC w11 1 λH12 w12 s12=>?_
   refine lI w12 1 ?_
   refine lSl w12 1 ?_
   obtain ⟨w13,s13⟩:=w12.pp [2] 5
   exact aA hp ⟨_,_,_,_,rfl,rfl,w13,(s0.trans (s11.trans (s12.trans s13))),(pe.step (s11.trans (s12.trans s13)))⟩
def bg.p (F:Nat) (ae:KT) (ag:Int):Option (Int×List (List Int)×Int):=(cu.p F ae ag).bind λr3=>(bif (!r3) then (some (0,([]:List (List Int)),1)) else ((ai.p F ae ag).bind λr9=>(aR.p F ae ag).bind λr14=>bg.pl253 F F r9.2 ([]:List (List Int)) r14 0))
theorem bg.P {au ak av ae ag} (aJ:ak=ae.length) (h0:Inn H R0 λR=>ROs (aa eI (aa eI (aa eI (aa eI eI)))) H R ⟨au,ak,av⟩ ae) {r:Lw} (hp:bg.p F ae ag=some r):Rt (bg.tw F ⟨au,ak,av⟩ ag H) (bg.Q H R0 R0  r):=by
 obtain ⟨w0,aF⟩:=h0
 subst aJ
 unfold bg.p at hp
 unfold bg.tw bg.twX
 have s0:=w0.rf
 refine aW w0 λH1 w1 s1=>?_
 refine aW w1 λH2 w2 s2=>?_
 refine lSl w2 1 ?_
 refine lI w2 1 ?_
 obtain ⟨r3,e3,hp⟩:=ah hp
 refine aM (cu.P rfl ⟨w2,(aF.step (s1.trans s2))⟩ e3) ?_
 rintro _ H4 ⟨rfl,w4,s4,_⟩
 refine br ?_
 refine aB hp (λhp=>?_) λhp=>?_
 ·refine aC w4 0 λH5 w5 s5=>?_
  refine aC w5 0 λH6 w6 s6=>?_
  refine lI w6 0 ?_
  refine lSl w6 0 ?_
  obtain ⟨w7,s7⟩:=w6.nilS (eSl eI).z (by decide)
  obtain ⟨w8,s8⟩:=w7.pp [0] 3
  exact aA hp ⟨_,_,_,_,rfl,rfl,w8,(s0.trans (s1.trans (s2.trans (s4.trans (s5.trans (s6.trans (s7.trans s8))))))),((CR.empty:CR (eSl eI) _ _ [] []).step s8)⟩
 ·refine lSl w4 1 ?_
  refine lI w4 1 ?_
  obtain ⟨r9,e9,hp⟩:=ah hp
  refine aM (ai.P rfl ⟨w4,(aF.step (s1.trans (s2.trans s4)))⟩ e9) ?_
  rintro _ H10 ⟨o0a_10,o0n_10,o0c_10,o0k_10,rfl,rfl,w10,s10,f10_0⟩
  refine br (br (br (br (br ?_))))
  refine aW w10 λH11 w11 s11=>?_
  refine aC w11 0 λH12 w12 s12=>?_
  refine aC w12 0 λH13 w13 s13=>?_
  refine lSl w13 3 ?_
  refine lI w13 3 ?_
  obtain ⟨r14,e14,hp⟩:=ah hp
  refine aM (aR.P rfl ⟨w13,(aF.step (s1.trans (s2.trans (s4.trans (s10.trans (s11.trans (s12.trans s13)))))))⟩ e14) ?_
  rintro _ H15 ⟨o0a_15,o0n_15,o0c_15,o0k_15,rfl,rfl,w15,s15,f15_0⟩
  refine br ?_
  obtain ⟨w16,s16⟩:=w15.nilS (eSl eI).z (by decide)
  obtain ⟨w17,s17⟩:=w16.nilS (eSl eI).z (by decide)
  obtain ⟨w18,s18⟩:=w17.pp [1,5,0,3,2] 7
  exact bg.l253_P F rfl rfl rfl ⟨w18,(s0.trans (s1.trans (s2.trans (s4.trans (s10.trans (s11.trans (s12.trans (s13.trans (s15.trans (s16.trans (s17.trans s18))))))))))),((CR.empty:CR (eSl eI) _ _ [] []).step (s17.trans s18)),((CR.empty:CR (eSl eI) _ _ [] []).step s18),(f15_0.step (s16.trans (s17.trans s18)))⟩ hp
def bQ.Q (H0:Hp) (Ri R0:KO)  (r:Int) (v:AV) (H':Hp):Prop:=v=(.i r)/\Out H0 Ri H' (R0) λR=>True
def bQ.p (F:Nat) (ae:KT):Option (Int):=some (ae.length:Int)
theorem bQ.P {au ak av ae} (aJ:ak=ae.length) (h0:Inn H R0 λR=>ROs (aa eI (aa eI (aa eI (aa eI eI)))) H R ⟨au,ak,av⟩ ae) {r:Int} (hp:bQ.p F ae=some r):Rt (bQ.tw F ⟨au,ak,av⟩ H) (bQ.Q H R0 R0  r):=by
 obtain ⟨w0,aF⟩:=h0
 subst aJ
 unfold bQ.p at hp
 unfold bQ.tw bQ.twX
 have s0:=w0.rf
 exact aA hp ⟨rfl,w0,s0,trivial⟩
def db.Q (H0:Hp) (Ri R0:KO)  (r:Bool) (v:AV) (H':Hp):Prop:=v=(.bool r)/\Out H0 Ri H' (R0) λR=>True
def db.p (F:Nat) (ac:Int) (ar:Int) (cA:Int):Option (Bool):=(bif (decide (ar<=ac)) then (some (decide (ac<=cA))) else (some false))
theorem db.P {ac ar cA}  (h0:Inn H R0 λR=>True) {r:Bool} (hp:db.p F ac ar cA=some r):Rt (db.tw F ac ar cA H) (db.Q H R0 R0  r):=by
 obtain ⟨w0,_⟩:=h0
 unfold db.p at hp
 unfold db.tw db.twX
 have s0:=w0.rf
 refine aB hp (λhp=>?_) λhp=>?_
 ·exact aA hp ⟨rfl,w0,s0,trivial⟩
 ·exact aA hp ⟨rfl,w0,s0,trivial⟩
def dG.Q (H0:Hp) (Ri R0:KO)  (r:Bool) (v:AV) (H':Hp):Prop:=v=(.bool r)/\Out H0 Ri H' (R0) λR=>True
def dG.p (F:Nat) (bf:Int):Option (Bool):=(bif (bf != 1) then (some (bf != (-1))) else (some false))
theorem dG.P {ac ag bm bo bf}  (h0:Inn H R0 λR=>True) {r:Bool} (hp:dG.p F bf=some r):Rt (dG.tw F ac ag bm bo bf H) (dG.Q H R0 R0  r):=by
 obtain ⟨w0,_⟩:=h0
 unfold dG.p at hp
 unfold dG.tw dG.twX
 have s0:=w0.rf
 refine aW w0 λH1 w1 s1=>?_
 refine lI w1 0 ?_
 refine aB hp (λhp=>?_) λhp=>?_
 ·refine lI w1 0 ?_
  obtain ⟨w2,s2⟩:=w1.pp [] 1
  exact aA hp ⟨rfl,w2,(s0.trans (s1.trans s2)),trivial⟩
 ·obtain ⟨w3,s3⟩:=w1.pp [] 1
  exact aA hp ⟨rfl,w3,(s0.trans (s1.trans s3)),trivial⟩
def bq.Q (H0:Hp) (Ri R0:KO)  (r:Int) (v:AV) (H':Hp):Prop:=v=(.i r)/\Out H0 Ri H' (R0) λR=>True
def bq.S13 (H0:Hp) (Ri R0:KO)  (C:KU) (pC:List (Int×Int×Int×Int×Int)->Int->Int->Option (Int)):Prop:=∀ {vY rG vZ jr gJ fo},∀ {H:Hp},rG=jr.length->(Out H0 Ri H R0 λR=>ROs (aa eI (aa eI (aa eI (aa eI eI)))) H R ⟨vY,rG,vZ⟩ jr)->∀ {r:Int},pC jr gJ fo=some r->Rt (C ⟨vY,rG,vZ⟩ gJ fo H) (bq.Q H0 Ri R0  r)
def bq.pl13 (F:Nat) :Nat->List (Int×Int×Int×Int×Int)->Int->Int->Option (Int)
 | 0,_,_,_=>none
 | k+1,jr,gJ,fo=>(bif (decide (fo<gJ)) then ((ix jr fo).bind λn1=>(dG.p F ((gt jr n1).2.2.2.2)).bind λr2=>(bif r2 then (some fo) else (bq.pl13 F k jr gJ (wrap .i64 (fo+1))))) else (some (-1)))
theorem bq.l13_P  :∀ k,bq.S13 H0 Ri R0  (bq.l13 F (dG.tw F)  k) (bq.pl13 F  k):=by
 intro k
 induction k with
 | zero=>unfold bq.S13;intros;rename_i hp;cases hp
 | succ k ih=>
  intro vY rG vZ jr gJ fo H He h0 r hp
  obtain ⟨w0,s0,Bl⟩:=h0
  subst He
  unfold bq.pl13 at hp
  unfold bq.l13
  refine aB hp (λhp=>?_) λhp=>?_
  ·obtain ⟨n1,g1,hp⟩:=ah hp
   obtain ⟨p1,q1,i1,h1,j1⟩:=ROs.ixr Bl rfl g1
   refine aj i1 ?_
   obtain ⟨_,_,rfl,rfl,_,_,rfl,rfl,_,_,rfl,rfl,_,_,rfl,rfl,rfl⟩:=h1
   refine aj (aD (j1 0 _ rfl)) ?_
   refine aj (aD (j1 1 _ rfl)) ?_
   refine aj (aD (j1 2 _ rfl)) ?_
   refine aj (aD (j1 3 _ rfl)) ?_
   refine aj (aD (j1 4 _ rfl)) ?_
   obtain ⟨r2,e2,hp⟩:=ah hp
   refine aM (dG.P ⟨w0,trivial⟩ e2) ?_
   rintro _ H3 ⟨rfl,w3,s3,_⟩
   refine br ?_
   refine aB hp (λhp=>?_) λhp=>?_
   ·exact aA hp ⟨rfl,w3,(s0.trans s3),trivial⟩
   ·exact ih rfl ⟨w3,(s0.trans s3),(Bl.step s3)⟩ hp
  ·exact aA hp ⟨rfl,w0,s0,trivial⟩
def bq.p (F:Nat) (ae:KT):Option (Int):=bq.pl13 F F ae (ae.length:Int) 0
theorem bq.P {au ak av ae} (aJ:ak=ae.length) (h0:Inn H R0 λR=>ROs (aa eI (aa eI (aa eI (aa eI eI)))) H R ⟨au,ak,av⟩ ae) {r:Int} (hp:bq.p F ae=some r):Rt (bq.tw F ⟨au,ak,av⟩ H) (bq.Q H R0 R0  r):=by
 obtain ⟨w0,aF⟩:=h0
 subst aJ
 unfold bq.p at hp
 unfold bq.tw bq.twX
 have s0:=w0.rf
 exact bq.l13_P F rfl ⟨w0,s0,aF⟩ hp
def dc.Q (H0:Hp) (Ri R0:KO)  (r:Bool) (v:AV) (H':Hp):Prop:=v=(.bool r)/\Out H0 Ri H' (R0) λR=>True
def dc.p (F:Nat) (ae:KT):Option (Bool):=(bq.p F ae).bind λr1=>some (decide (r1>=0))
theorem dc.P {au ak av ae} (aJ:ak=ae.length) (h0:Inn H R0 λR=>ROs (aa eI (aa eI (aa eI (aa eI eI)))) H R ⟨au,ak,av⟩ ae) {r:Bool} (hp:dc.p F ae=some r):Rt (dc.tw F ⟨au,ak,av⟩ H) (dc.Q H R0 R0  r):=by
 obtain ⟨w0,aF⟩:=h0
 subst aJ
 unfold dc.p at hp
 unfold dc.tw dc.twX
 have s0:=w0.rf
 obtain ⟨r1,e1,hp⟩:=ah hp
 refine aM (bq.P rfl ⟨w0,aF⟩ e1) ?_
 rintro _ H2 ⟨rfl,w2,s2,_⟩
 refine br ?_
 exact aA hp ⟨rfl,w2,(s0.trans s2),trivial⟩
def bits_Mul64.Q (H0:Hp) (Ri R0:KO)  (r:Lh) (v:AV) (H':Hp):Prop:=v=(.tup [(.int .u64 r.1),(.int .u64 r.2)])/\Out H0 Ri H' (R0) λR=>True
def bits_Mul64.p (F:Nat) (ac:Int) (ar:Int):Option (Int×Int):=some ((IntKind.u64.wrap ((IntKind.u64.wrap ((IntKind.u64.wrap ((Int.fdiv ac (2 ^ (min (32:Int).toNat (IntKind.u64).bits))) * (Int.fdiv ar (2 ^ (min (32:Int).toNat (IntKind.u64).bits)))))+(Int.fdiv (IntKind.u64.wrap ((IntKind.u64.wrap ((Int.fdiv ac (2 ^ (min (32:Int).toNat (IntKind.u64).bits))) * (Go.bits .and .u64 ar 4294967295)))+(Int.fdiv (IntKind.u64.wrap ((Go.bits .and .u64 ac 4294967295) * (Go.bits .and .u64 ar 4294967295))) (2 ^ (min (32:Int).toNat (IntKind.u64).bits))))) (2 ^ (min (32:Int).toNat (IntKind.u64).bits)))))+(Int.fdiv (IntKind.u64.wrap ((Go.bits .and .u64 (IntKind.u64.wrap ((IntKind.u64.wrap ((Int.fdiv ac (2 ^ (min (32:Int).toNat (IntKind.u64).bits))) * (Go.bits .and .u64 ar 4294967295)))+(Int.fdiv (IntKind.u64.wrap ((Go.bits .and .u64 ac 4294967295) * (Go.bits .and .u64 ar 4294967295))) (2 ^ (min (32:Int).toNat (IntKind.u64).bits))))) 4294967295)+(IntKind.u64.wrap ((Go.bits .and .u64 ac 4294967295) * (Int.fdiv ar (2 ^ (min (32:Int).toNat (IntKind.u64).bits))))))) (2 ^ (min (32:Int).toNat (IntKind.u64).bits))))),(IntKind.u64.wrap (ac * ar)))
theorem bits_Mul64.P {ac ar}  (h0:Inn H R0 λR=>True) {r:Lh} (hp:bits_Mul64.p F ac ar=some r):Rt (bits_Mul64.tw F ac ar H) (bits_Mul64.Q H R0 R0  r):=by
 obtain ⟨w0,_⟩:=h0
 unfold bits_Mul64.p at hp
 unfold bits_Mul64.tw bits_Mul64.twX
 have s0:=w0.rf
 exact aA hp ⟨rfl,w0,s0,trivial⟩
def bits_Mul.Q (H0:Hp) (Ri R0:KO)  (r:Lh) (v:AV) (H':Hp):Prop:=v=(.tup [(.int .u64 r.1),(.int .u64 r.2)])/\Out H0 Ri H' (R0) λR=>True
def bits_Mul.p (F:Nat) (ac:Int) (ar:Int):Option (Int×Int):=(bits_Mul64.p F ac ar).bind λr1=>some (r1.1,r1.2)
theorem bits_Mul.P {ac ar}  (h0:Inn H R0 λR=>True) {r:Lh} (hp:bits_Mul.p F ac ar=some r):Rt (bits_Mul.tw F ac ar H) (bits_Mul.Q H R0 R0  r):=by
 obtain ⟨w0,_⟩:=h0
 unfold bits_Mul.p at hp
 unfold bits_Mul.tw bits_Mul.twX
 have s0:=w0.rf
 obtain ⟨r1,e1,hp⟩:=ah hp
 refine aM (bits_Mul64.P ⟨w0,trivial⟩ e1) ?_
 rintro _ H2 ⟨rfl,w2,s2,_⟩
 refine br (br (br (br (br ?_))))
 exact aA hp ⟨rfl,w2,(s0.trans s2),trivial⟩
def aT.Q (H0:Hp) (Ri R0:KO)  (r:(List (Int×Int))) (v:AV) (H':Hp):Prop:=∃ o0a:ON,∃ o0n:Nat,∃ o0k:List AV,v=(.sl ⟨o0a,o0n,.ex o0n⟩)/\o0n=(r).length/\Out H0 Ri H' (Rs.own ⟨o0a,o0n,.ex o0n⟩ (aa eI eI).z o0k::R0) λR=>CR (aa eI eI) H' R o0k (r)
def aT.pj1 (F:Nat)  (ng:Lb) (jU:Int):Option ((List (Int×Int))):=(mkn (wrap .i64 jU) ((0:Int),(0:Int))).bind λl1=>(some (cpl l1 ng)).bind λl3=>(nx F l3 ((min ng.length l1.length:Nat):Int)).bind λl5=>some l5
theorem aT.j1_P   {Bm v_ Bn ng jU} (Hf:v_=ng.length) (h0:Out H0 Ri H R0 λR=>ROs (aa eI eI) H R ⟨Bm,v_,Bn⟩ ng) {r:(List (Int×Int))} (hp:aT.pj1 F  ng jU=some r):Rt (aT.j1 F (bits_Mul.tw F)  ⟨Bm,v_,Bn⟩ jU H) (aT.Q H0 Ri R0  r):=by
 obtain ⟨w0,s0,Hg⟩:=h0
 subst Hf
 unfold aT.pj1 at hp
 unfold aT.j1
 obtain ⟨l1,e1,hp⟩:=ah hp
 refine nv (aa eI eI) ((0:Int),(0:Int)) w0 ⟨[_],_,rfl,rfl,rfl⟩ rfl rfl e1 λH2 k2 w2 s2 c2=>?_
 obtain ⟨x3,h3,c3⟩:=(Hg.step s2).row (z:=(aa eI eI).z) rfl
 obtain ⟨l3,e3,hp⟩:=ah hp
 refine IP (aa eI eI) w2 (i:=0) rfl rfl c2 h3 c3 rfl rfl e3 λk4 H4 w4 s4 c4=>?_
 obtain ⟨l5,e5,hp⟩:=ah hp
 refine IQ (aa eI eI) rfl (L:=aT.l254 F (bits_Mul.tw F)) (λ_ _ _ _=>rfl) w4 (i:=0) rfl c4 e5 λH6 k6 w6 s6 c6=>?_
 dsimp only [List.set] at w6 s6 c6
 exact aA hp ⟨_,_,_,rfl,((IR e3).symm.trans (IS e5).symm),w6,(s0.trans (s2.trans (s4.trans s6))),c6⟩
def aT.pj2 (F:Nat)  (nh:Lb) (mq:Int):Option ((List (Int×Int))):=(bits_Mul.p F (IntKind.u64.wrap (nh.length:Int)) (IntKind.u64.wrap mq)).bind λr1=>(bif (decide (r1.1>0)) then (none) else ((bif (decide (r1.2>9223372036854775807)) then (none) else (aT.pj1 F nh r1.2))))
theorem aT.j2_P   {Bo wa Bp nh mq} (Hh:wa=nh.length) (h0:Out H0 Ri H R0 λR=>ROs (aa eI eI) H R ⟨Bo,wa,Bp⟩ nh) {r:(List (Int×Int))} (hp:aT.pj2 F  nh mq=some r):Rt (aT.j2 F (bits_Mul.tw F)  ⟨Bo,wa,Bp⟩ mq H) (aT.Q H0 Ri R0  r):=by
 obtain ⟨w0,s0,Hj⟩:=h0
 subst Hh
 unfold aT.pj2 at hp
 unfold aT.j2
 obtain ⟨r1,e1,hp⟩:=ah hp
 refine aM (bits_Mul.P ⟨w0,trivial⟩ e1) ?_
 rintro _ H2 ⟨rfl,w2,s2,_⟩
 refine br (br (br (br (br ?_))))
 refine aB hp (λhp=>?_) λhp=>?_
 ·cases hp
 ·refine aB hp (λhp=>?_) λhp=>?_
  ·cases hp
  ·exact aT.j1_P rfl ⟨w2,(s0.trans s2),(Hj.step s2)⟩ hp
def aT.p (F:Nat) (ae:Lb) (ar:Int):Option ((List (Int×Int))):=(bif (decide (ar<0)) then (none) else (aT.pj2 F ae ar))
theorem aT.P {au ak av ae ar} (aJ:ak=ae.length) (h0:Inn H R0 λR=>ROs (aa eI eI) H R ⟨au,ak,av⟩ ae) {r:(List (Int×Int))} (hp:aT.p F ae ar=some r):Rt (aT.tw F ⟨au,ak,av⟩ ar H) (aT.Q H R0 R0  r):=by
 obtain ⟨w0,aF⟩:=h0
 subst aJ
 unfold aT.p at hp
 unfold aT.tw aT.twX
 have s0:=w0.rf
 refine aB hp (λhp=>?_) λhp=>?_
 ·cases hp
 ·exact aT.j2_P rfl ⟨w0,s0,aF⟩ hp
def cQ.Q (H0:Hp) (Ri R0:KO)  (r:Int×Int×Int×Int) (v:AV) (H':Hp):Prop:=v=(.agg [(.i r.1),(.i r.2.1),(.i r.2.2.1),(.i r.2.2.2)])/\Out H0 Ri H' (R0) λR=>True
def cQ.p (F:Nat) (ac:Int) (ag:Int) (bm:Int) (bo:Int):Option (Int×Int×Int×Int):=some (ac,ag,bm,bo)
theorem cQ.P {ac ag bm bo bf}  (h0:Inn H R0 λR=>True) {r:Int×Int×Int×Int} (hp:cQ.p F ac ag bm bo=some r):Rt (cQ.tw F ac ag bm bo bf H) (cQ.Q H R0 R0  r):=by
 obtain ⟨w0,_⟩:=h0
 unfold cQ.p at hp
 unfold cQ.tw cQ.twX
 have s0:=w0.rf
 refine aW w0 λH1 w1 s1=>?_
 refine aW w1 λH2 w2 s2=>?_
 refine lI w2 1 ?_
 refine lI w2 1 ?_
 refine lI w2 1 ?_
 refine lI w2 1 ?_
 refine aC w2 0 λH3 w3 s3=>?_
 refine aC w3 0 λH4 w4 s4=>?_
 refine aC w4 0 λH5 w5 s5=>?_
 refine aC w5 0 λH6 w6 s6=>?_
 refine lI w6 0 ?_
 refine lI w6 0 ?_
 refine lI w6 0 ?_
 refine lI w6 0 ?_
 obtain ⟨w7,s7⟩:=w6.pp [] 2
 exact aA hp ⟨rfl,w7,(s0.trans (s1.trans (s2.trans (s3.trans (s4.trans (s5.trans (s6.trans s7))))))),trivial⟩
def cR.Q (H0:Hp) (Ri R0:KO)  (r:Bool) (v:AV) (H':Hp):Prop:=v=(.bool r)/\Out H0 Ri H' (R0) λR=>True
def cR.p (F:Nat) (bf:Int) (bG:Int):Option (Bool):=(bif (bG==0) then (some true) else (some (bG==(wrap .i64 (2+bf)))))
theorem cR.P {ac ag bm bo bf bG}  (h0:Inn H R0 λR=>True) {r:Bool} (hp:cR.p F bf bG=some r):Rt (cR.tw F ac ag bm bo bf bG H) (cR.Q H R0 R0  r):=by
 obtain ⟨w0,_⟩:=h0
 unfold cR.p at hp
 unfold cR.tw cR.twX
 have s0:=w0.rf
 refine aW w0 λH1 w1 s1=>?_
 refine aB hp (λhp=>?_) λhp=>?_
 ·obtain ⟨w2,s2⟩:=w1.pp [] 1
  exact aA hp ⟨rfl,w2,(s0.trans (s1.trans s2)),trivial⟩
 ·refine lI w1 0 ?_
  obtain ⟨w3,s3⟩:=w1.pp [] 1
  exact aA hp ⟨rfl,w3,(s0.trans (s1.trans s3)),trivial⟩
def eb.Q (H0:Hp) (Ri R0:KO)  (r:Int) (v:AV) (H':Hp):Prop:=v=(.i r)/\Out H0 Ri H' (R0) λR=>True
def eb.p (F:Nat) (ae:Lb):Option (Int):=some (ae.length:Int)
theorem eb.P {au ak av ae} (aJ:ak=ae.length) (h0:Inn H R0 λR=>ROs (aa eI eI) H R ⟨au,ak,av⟩ ae) {r:Int} (hp:eb.p F ae=some r):Rt (eb.tw F ⟨au,ak,av⟩ H) (eb.Q H R0 R0  r):=by
 obtain ⟨w0,aF⟩:=h0
 subst aJ
 unfold eb.p at hp
 unfold eb.tw eb.twX
 have s0:=w0.rf
 exact aA hp ⟨rfl,w0,s0,trivial⟩
def cB.Q (H0:Hp) (Ri R0:KO)  (r:Bool) (v:AV) (H':Hp):Prop:=v=(.bool r)/\Out H0 Ri H' (R0) λR=>True
def cB.p (F:Nat) (ae:Lb) (ar:Int):Option (Bool):=(eb.p F ae).bind λr1=>(db.p F ar 0 (wrap .i64 (r1 - 1))).bind λr3=>some r3
theorem cB.P {au ak av ae ar} (aJ:ak=ae.length) (h0:Inn H R0 λR=>ROs (aa eI eI) H R ⟨au,ak,av⟩ ae) {r:Bool} (hp:cB.p F ae ar=some r):Rt (cB.tw F ⟨au,ak,av⟩ ar H) (cB.Q H R0 R0  r):=by
 obtain ⟨w0,aF⟩:=h0
 subst aJ
 unfold cB.p at hp
 unfold cB.tw cB.twX
 have s0:=w0.rf
 obtain ⟨r1,e1,hp⟩:=ah hp
 refine aM (eb.P rfl ⟨w0,aF⟩ e1) ?_
 rintro _ H2 ⟨rfl,w2,s2,_⟩
 refine br ?_
 obtain ⟨r3,e3,hp⟩:=ah hp
 refine aM (db.P ⟨w2,trivial⟩ e3) ?_
 rintro _ H4 ⟨rfl,w4,s4,_⟩
 refine br ?_
 exact aA hp ⟨rfl,w4,(s0.trans (s2.trans s4)),trivial⟩
def aI.Q (H0:Hp) (Ri R0:KO)  (r:(List (Int×Int))×(List (Int×Int))×Bool) (v:AV) (H':Hp):Prop:=∃ o0a:ON,∃ o0n:Nat,∃ o0c:Cap,∃ o0k:List AV,∃ o1a:ON,∃ o1n:Nat,∃ o1c:Cap,∃ o1k:List AV,v=(.tup [(.agg [(.sl ⟨o0a,o0n,o0c⟩),(.sl ⟨o1a,o1n,o1c⟩)]),(.bool r.2.2)])/\o0n=(r.1).length/\o1n=(r.2.1).length/\Out H0 Ri H' (Rs.own ⟨o0a,o0n,o0c⟩ (aa eI eI).z o0k::Rs.own ⟨o1a,o1n,o1c⟩ (aa eI eI).z o1k::R0) λR=>CR (aa eI eI) H' R o0k (r.1)/\CR (aa eI eI) H' R o1k (r.2.1)
def aI.S61 (H0:Hp) (Ri R0:KO)  (C:LC) (pC:LQ):Prop:=∀ {wb wc wd wg wh rH rI gK rJ rK iH rL wi wj wk wo wq wt wu kM kN wv ww wx wy gu gL ft},∀ {H:Hp},rH=wt.length->rI=wu.length->rJ=kM.length->rK=kN.length->rL=gu.length->(Out H0 Ri H (Rs.own ⟨wb,rH,wi⟩ (aa eI eI).z wv::Rs.own ⟨wc,rI,wj⟩ (aa eI eI).z ww::Rs.blk gK [.sl ⟨wb,rH,wi⟩,.sl ⟨wc,rI,wj⟩]::Rs.own ⟨wd,rJ,wk⟩ (aa eI eI).z wx::Rs.own ⟨wg,rK,wo⟩ (aa eI eI).z wy::Rs.blk iH [.sl ⟨wd,rJ,wk⟩,.sl ⟨wg,rK,wo⟩]::R0) λR=>CR (aa eI eI) H R wv wt/\CR (aa eI eI) H R ww wu/\CR (aa eI eI) H R wx kM/\CR (aa eI eI) H R wy kN/\ROs (aa eI (aa eI (aa eI (aa eI eI)))) H R ⟨wh,rL,wq⟩ gu)->∀ {r:(List (Int×Int))×(List (Int×Int))×Bool},pC kM kN gu gL ft=some r->Rt (C gK 0 iH 0 ⟨wh,rL,wq⟩ gL ft H) (aI.Q H0 Ri R0  r)
def aI.S3931 (H0:Hp) (Ri R0:KO)  (C:Nat->Nat->Nat->Nat->Sl->Int->Int->Nat->Nat->Int->Int->Int->Int->Int->Int->Hp->OA) (pC:List (Int×Int)->List (Int×Int)->List (Int×Int×Int×Int×Int)->Int->Int->Int->Int->Int->Int->Int->Int->Int->Option ((List (Int×Int))×(List (Int×Int))×Bool)):Prop:=∀ {wz wA wB wC wD rM rN dd rO rP ec rQ fV wE wF wG wH wI wJ wK eV eW wL wM wN wO js fT fU Bq Br Bs Bt kO fq dL dM dN dO cw},∀ {H:Hp},rM=wJ.length->rN=wK.length->rO=eV.length->rP=eW.length->rQ=js.length->(Out H0 Ri H (Rs.own ⟨wz,rM,wE⟩ (aa eI eI).z wL::Rs.own ⟨wA,rN,wF⟩ (aa eI eI).z wM::Rs.blk dd [.sl ⟨wz,rM,wE⟩,.sl ⟨wA,rN,wF⟩]::Rs.own ⟨wB,rO,wG⟩ (aa eI eI).z wN::Rs.own ⟨wC,rP,wH⟩ (aa eI eI).z wO::Rs.blk ec [.sl ⟨wB,rO,wG⟩,.sl ⟨wC,rP,wH⟩]::Rs.blk fV [.i Bq,.i Br,.i Bs,.i Bt,.i kO]::R0) λR=>CR (aa eI eI) H R wL wJ/\CR (aa eI eI) H R wM wK/\CR (aa eI eI) H R wN eV/\CR (aa eI eI) H R wO eW/\ROs (aa eI (aa eI (aa eI (aa eI eI)))) H R ⟨wD,rQ,wI⟩ js)->∀ {r:(List (Int×Int))×(List (Int×Int))×Bool},pC eV eW js fT fU kO fq dL dM dN dO cw=some r->Rt (C dd 0 ec 0 ⟨wD,rQ,wI⟩ fT fU fV 0 fq dL dM dN dO cw H) (aI.Q H0 Ri R0  r)
def aI.pl3931 (F:Nat) (aG:LQ):Nat->List (Int×Int)->List (Int×Int)->List (Int×Int×Int×Int×Int)->Int->Int->Int->Int->Int->Int->Int->Int->Int->Option ((List (Int×Int))×(List (Int×Int))×Bool)
 | 0,_,_,_,_,_,_,_,_,_,_,_,_=>none
 | k+1,eV,eW,js,fT,fU,kO,fq,dL,dM,dN,dO,cw=>(bif (decide (cw<4)) then ((if 0<=cw/\cw<(4:Int) then ((cR.p F kO cw).bind λr2=>(bif r2 then ((cB.p F eW (gt ([dL,dM,dN,dO]:List Int) (cw:Int).toNat)).bind λr6=>(bif (!r6) then (some (eV,eW,false)) else ((ix eW (gt ([dL,dM,dN,dO]:List Int) (cw:Int).toNat)).bind λn12=>(bif (decide (((gt eW n12).1)>=0)) then (some (eV,eW,false)) else ((ix eW (gt ([dL,dM,dN,dO]:List Int) (cw:Int).toNat)).bind λn16=>(some (eW.set n16 (fq,(gt eW n16).2))).bind λl17=>(some (l17.set n16 ((gt l17 n16).1,cw))).bind λl19=>aI.pl3931 F aG k eV l19 js fT fU kO fq dL dM dN dO (wrap .i64 (cw+1))))))) else ((cB.p F eV (gt ([dL,dM,dN,dO]:List Int) (cw:Int).toNat)).bind λr24=>(bif (!r24) then (some (eV,eW,false)) else ((ix eV (gt ([dL,dM,dN,dO]:List Int) (cw:Int).toNat)).bind λn30=>(bif (decide (((gt eV n30).1)>=0)) then (some (eV,eW,false)) else ((ix eV (gt ([dL,dM,dN,dO]:List Int) (cw:Int).toNat)).bind λn34=>(some (eV.set n34 (fq,(gt eV n34).2))).bind λl35=>(some (l35.set n34 ((gt l35 n34).1,cw))).bind λl37=>aI.pl3931 F aG k l37 eW js fT fU kO fq dL dM dN dO (wrap .i64 (cw+1))))))))) else none)) else (aG eV eW js fT (wrap .i64 (fU+1))))
theorem aI.l3931_P  {C61_:LC} {aG:LQ} (hC61:aI.S61 H0 Ri R0  C61_ aG):∀ k,aI.S3931 H0 Ri R0  (aI.l3931 F (aT.tw F) (cQ.tw F) (cR.tw F) (cB.tw F) C61_ k) (aI.pl3931 F aG k):=by
 intro k
 induction k with
 | zero=>unfold aI.S3931;intros;rename_i hp;cases hp
 | succ k ih=>
  intro wz wA wB wC wD rM rN dd rO rP ec rQ fV wE wF wG wH wI wJ wK eV eW wL wM wN wO js fT fU Bq Br Bs Bt kO fq dL dM dN dO cw H Hk Hl Hm Hn Ho h0 r hp
  obtain ⟨w0,s0,wP,wQ,ip,iq,wR⟩:=h0
  subst Hk
  subst Hl
  subst Hm
  subst Hn
  subst Ho
  unfold aI.pl3931 at hp
  unfold aI.l3931
  refine aB hp (λhp=>?_) λhp=>?_
  ·obtain ⟨g1,hp⟩:=dB hp
   refine fL g1 ?_
   refine aj (a:=AV.int .i64 (gt ([dL,dM,dN,dO]:List Int) (cw:Int).toNat)) (by rw [Nat.mul_one];exact CU (k:=.i64) (l:=[dL,dM,dN,dO]) rfl (by have:=g1;simp only [List.length_cons,List.length_nil];omega)) ?_
   refine br ?_
   refine lSl w0 5 ?_
   refine lI w0 6 ?_
   refine lI w0 6 ?_
   refine lI w0 6 ?_
   refine lI w0 6 ?_
   refine lI w0 6 ?_
   obtain ⟨r2,e2,hp⟩:=ah hp
   refine aM (cR.P ⟨w0,trivial⟩ e2) ?_
   rintro _ H3 ⟨rfl,w3,s3,_⟩
   refine br ?_
   refine aB hp (λhp=>?_) λhp=>?_
   ·refine lSl w3 5 ?_
    obtain ⟨w4,s4⟩:=w3.pp [4,0,1,2,3,5,6] 7
    have f5:=W.borrow1 (aa eI eI) w4 (iq.step (s3.trans s4))
    obtain ⟨w5,s5⟩:=w4.right1
    obtain ⟨r6,e6,hp⟩:=ah hp
    refine aM (cB.P rfl ⟨w5,f5⟩ e6) ?_
    rintro _ H7 ⟨rfl,w7,s7,_⟩
    obtain ⟨w8,s8⟩:=W.frame1 w4 w7 s7
    refine br ?_
    refine aB hp (λhp=>?_) λhp=>?_
    ·refine lSl w8 5 ?_
     refine lSl w8 5 ?_
     refine aC w8 3 λH9 w9 s9=>?_
     refine aC w9 3 λH10 w10 s10=>?_
     refine lSl w10 3 ?_
     refine lSl w10 3 ?_
     obtain ⟨w11,s11⟩:=w10.pp [4,0] 7
     exact aA hp ⟨_,_,_,_,_,_,_,_,rfl,rfl,rfl,w11,(s0.trans (s3.trans (s4.trans (s8.trans (s9.trans (s10.trans s11)))))),(ip.step (s3.trans (s4.trans (s8.trans (s9.trans (s10.trans s11)))))),(iq.step (s3.trans (s4.trans (s8.trans (s9.trans (s10.trans s11))))))⟩
    ·obtain ⟨n12,g12,hp⟩:=ah hp
     obtain ⟨p12,q12,i12,h12,j12⟩:=W.ixo (E:=(aa eI eI)) w8 (i:=0) rfl rfl (iq.step (s3.trans (s4.trans s8))) g12
     refine aj i12 ?_
     obtain ⟨_,_,rfl,rfl,rfl⟩:=h12
     refine aj (aD (j12 0 _ rfl)) ?_
     refine aB hp (λhp=>?_) λhp=>?_
     ·refine lSl w8 5 ?_
      refine lSl w8 5 ?_
      refine aC w8 3 λH13 w13 s13=>?_
      refine aC w13 3 λH14 w14 s14=>?_
      refine lSl w14 3 ?_
      refine lSl w14 3 ?_
      obtain ⟨w15,s15⟩:=w14.pp [4,0] 7
      exact aA hp ⟨_,_,_,_,_,_,_,_,rfl,rfl,rfl,w15,(s0.trans (s3.trans (s4.trans (s8.trans (s13.trans (s14.trans s15)))))),(ip.step (s3.trans (s4.trans (s8.trans (s13.trans (s14.trans s15)))))),(iq.step (s3.trans (s4.trans (s8.trans (s13.trans (s14.trans s15))))))⟩
     ·obtain ⟨n16,g16,hp⟩:=ah hp
      obtain ⟨p16,q16,i16,h16,j16⟩:=W.ixo (E:=(aa eI eI)) w8 (i:=0) rfl rfl (iq.step (s3.trans (s4.trans s8))) g16
      refine aj i16 ?_
      obtain ⟨l17,e17,hp⟩:=ah hp
      refine dA (aa eI eI) w8 (i:=0) (j:=0) (p:=p16) rfl rfl (iq.step (s3.trans (s4.trans s8))) g16 i16 e17 rfl rfl (λ_ h=>by obtain ⟨_,_,rfl,rfl,rfl⟩:=h;exact ⟨[_],_,rfl,rfl,rfl⟩) λH18 k18 w18 s18 c18=>?_
      obtain ⟨l19,e19,hp⟩:=ah hp
      refine dA (aa eI eI) w18 (i:=0) (j:=1) (p:=p16) rfl rfl c18 (nu g16 (cl e17)) i16 e19 rfl rfl (λ_ h=>by obtain ⟨_,_,rfl,rfl,rfl⟩:=h;exact ⟨[_],_,rfl,rfl,rfl⟩) λH20 k20 w20 s20 c20=>?_
      obtain ⟨w21,s21⟩:=w20.pp [1,2,3,4,0,5,6] 7
      exact ih rfl rfl rfl ((cl e17).symm.trans (cl e19).symm) rfl ⟨w21,(s0.trans (s3.trans (s4.trans (s8.trans (s18.trans (s20.trans s21)))))),(wP.step (s3.trans (s4.trans (s8.trans (s18.trans (s20.trans s21)))))),(wQ.step (s3.trans (s4.trans (s8.trans (s18.trans (s20.trans s21)))))),(ip.step (s3.trans (s4.trans (s8.trans (s18.trans (s20.trans s21)))))),(c20.step s21),(wR.step (s3.trans (s4.trans (s8.trans (s18.trans (s20.trans s21))))))⟩ hp
   ·obtain ⟨w22,s22⟩:=w3.pp [3,0,1,2,4,5,6] 7
    have f23:=W.borrow1 (aa eI eI) w22 (ip.step (s3.trans s22))
    obtain ⟨w23,s23⟩:=w22.right1
    obtain ⟨r24,e24,hp⟩:=ah hp
    refine aM (cB.P rfl ⟨w23,f23⟩ e24) ?_
    rintro _ H25 ⟨rfl,w25,s25,_⟩
    obtain ⟨w26,s26⟩:=W.frame1 w22 w25 s25
    refine br ?_
    refine aB hp (λhp=>?_) λhp=>?_
    ·refine lSl w26 5 ?_
     refine lSl w26 5 ?_
     refine aC w26 3 λH27 w27 s27=>?_
     refine aC w27 3 λH28 w28 s28=>?_
     refine lSl w28 3 ?_
     refine lSl w28 3 ?_
     obtain ⟨w29,s29⟩:=w28.pp [0,4] 7
     exact aA hp ⟨_,_,_,_,_,_,_,_,rfl,rfl,rfl,w29,(s0.trans (s3.trans (s22.trans (s26.trans (s27.trans (s28.trans s29)))))),(ip.step (s3.trans (s22.trans (s26.trans (s27.trans (s28.trans s29)))))),(iq.step (s3.trans (s22.trans (s26.trans (s27.trans (s28.trans s29))))))⟩
    ·obtain ⟨n30,g30,hp⟩:=ah hp
     obtain ⟨p30,q30,i30,h30,j30⟩:=W.ixo (E:=(aa eI eI)) w26 (i:=0) rfl rfl (ip.step (s3.trans (s22.trans s26))) g30
     refine aj i30 ?_
     obtain ⟨_,_,rfl,rfl,rfl⟩:=h30
     refine aj (aD (j30 0 _ rfl)) ?_
     refine aB hp (λhp=>?_) λhp=>?_
     ·refine lSl w26 5 ?_
      refine lSl w26 5 ?_
      refine aC w26 3 λH31 w31 s31=>?_
      refine aC w31 3 λH32 w32 s32=>?_
      refine lSl w32 3 ?_
      refine lSl w32 3 ?_
      obtain ⟨w33,s33⟩:=w32.pp [0,4] 7
      exact aA hp ⟨_,_,_,_,_,_,_,_,rfl,rfl,rfl,w33,(s0.trans (s3.trans (s22.trans (s26.trans (s31.trans (s32.trans s33)))))),(ip.step (s3.trans (s22.trans (s26.trans (s31.trans (s32.trans s33)))))),(iq.step (s3.trans (s22.trans (s26.trans (s31.trans (s32.trans s33))))))⟩
     ·obtain ⟨n34,g34,hp⟩:=ah hp
      obtain ⟨p34,q34,i34,h34,j34⟩:=W.ixo (E:=(aa eI eI)) w26 (i:=0) rfl rfl (ip.step (s3.trans (s22.trans s26))) g34
      refine aj i34 ?_
      obtain ⟨l35,e35,hp⟩:=ah hp
      refine dA (aa eI eI) w26 (i:=0) (j:=0) (p:=p34) rfl rfl (ip.step (s3.trans (s22.trans s26))) g34 i34 e35 rfl rfl (λ_ h=>by obtain ⟨_,_,rfl,rfl,rfl⟩:=h;exact ⟨[_],_,rfl,rfl,rfl⟩) λH36 k36 w36 s36 c36=>?_
      obtain ⟨l37,e37,hp⟩:=ah hp
      refine dA (aa eI eI) w36 (i:=0) (j:=1) (p:=p34) rfl rfl c36 (nu g34 (cl e35)) i34 e37 rfl rfl (λ_ h=>by obtain ⟨_,_,rfl,rfl,rfl⟩:=h;exact ⟨[_],_,rfl,rfl,rfl⟩) λH38 k38 w38 s38 c38=>?_
      obtain ⟨w39,s39⟩:=w38.pp [1,2,3,0,4,5,6] 7
      exact ih rfl rfl ((cl e35).symm.trans (cl e37).symm) rfl rfl ⟨w39,(s0.trans (s3.trans (s22.trans (s26.trans (s36.trans (s38.trans s39)))))),(wP.step (s3.trans (s22.trans (s26.trans (s36.trans (s38.trans s39)))))),(wQ.step (s3.trans (s22.trans (s26.trans (s36.trans (s38.trans s39)))))),(c38.step s39),(iq.step (s3.trans (s22.trans (s26.trans (s36.trans (s38.trans s39)))))),(wR.step (s3.trans (s22.trans (s26.trans (s36.trans (s38.trans s39))))))⟩ hp
  ·obtain ⟨w40,s40⟩:=w0.pp [0,1,2,3,4,5] 7
   exact hC61 rfl rfl rfl rfl rfl ⟨w40,(s0.trans s40),(wP.step s40),(wQ.step s40),(ip.step s40),(iq.step s40),(wR.step s40)⟩ hp
def aI.pl61 (F:Nat) :Nat->List (Int×Int)->List (Int×Int)->List (Int×Int×Int×Int×Int)->Int->Int->Option ((List (Int×Int))×(List (Int×Int))×Bool)
 | 0,_,_,_,_,_=>none
 | k+1,kM,kN,gu,gL,ft=>(bif (decide (ft<gL)) then ((ix gu ft).bind λn1=>(cQ.p F ((gt gu n1).1) ((gt gu n1).2.1) ((gt gu n1).2.2.1) ((gt gu n1).2.2.2.1)).bind λr8=>aI.pl3931 F (aI.pl61 F k) F kM kN gu gL ft ((gt gu n1).2.2.2.2) ft r8.1 r8.2.1 r8.2.2.1 r8.2.2.2 0) else (some (kM,kN,true)))
theorem aI.l61_P  :∀ k,aI.S61 H0 Ri R0  (aI.l61 F (aT.tw F) (cQ.tw F) (cR.tw F) (cB.tw F)  k) (aI.pl61 F  k):=by
 intro k
 induction k with
 | zero=>unfold aI.S61;intros;rename_i hp;cases hp
 | succ k ih=>
  intro wb wc wd wg wh rH rI gK rJ rK iH rL wi wj wk wo wq wt wu kM kN wv ww wx wy gu gL ft H Hq Hr Hs Ht Hu h0 r hp
  obtain ⟨w0,s0,Hv,Hw,Bu,Bv,Bw⟩:=h0
  subst Hq
  subst Hr
  subst Hs
  subst Ht
  subst Hu
  unfold aI.pl61 at hp
  unfold aI.l61
  refine aB hp (λhp=>?_) λhp=>?_
  ·obtain ⟨n1,g1,hp⟩:=ah hp
   obtain ⟨p1,q1,i1,h1,j1⟩:=ROs.ixr Bw rfl g1
   refine aj i1 ?_
   obtain ⟨_,_,rfl,rfl,_,_,rfl,rfl,_,_,rfl,rfl,_,_,rfl,rfl,rfl⟩:=h1
   refine aj (aD (j1 0 _ rfl)) ?_
   refine aj (aD (j1 1 _ rfl)) ?_
   refine aj (aD (j1 2 _ rfl)) ?_
   refine aj (aD (j1 3 _ rfl)) ?_
   refine aj (aD (j1 4 _ rfl)) ?_
   refine aW w0 λH2 w2 s2=>?_
   refine aC w2 0 λH3 w3 s3=>?_
   refine aC w3 0 λH4 w4 s4=>?_
   refine aC w4 0 λH5 w5 s5=>?_
   refine aC w5 0 λH6 w6 s6=>?_
   refine aC w6 0 λH7 w7 s7=>?_
   refine lI w7 0 ?_
   refine lI w7 0 ?_
   refine lI w7 0 ?_
   refine lI w7 0 ?_
   refine lI w7 0 ?_
   obtain ⟨r8,e8,hp⟩:=ah hp
   refine aM (cQ.P ⟨w7,trivial⟩ e8) ?_
   rintro _ H9 ⟨rfl,w9,s9,_⟩
   refine br (br (br (br (br (br (br (br (br ?_))))))))
   obtain ⟨w10,s10⟩:=w9.pp [1,2,3,4,5,6,0] 7
   exact aI.l3931_P (@ih) F rfl rfl rfl rfl rfl ⟨w10,(s0.trans (s2.trans (s3.trans (s4.trans (s5.trans (s6.trans (s7.trans (s9.trans s10)))))))),(Hv.step (s2.trans (s3.trans (s4.trans (s5.trans (s6.trans (s7.trans (s9.trans s10)))))))),(Hw.step (s2.trans (s3.trans (s4.trans (s5.trans (s6.trans (s7.trans (s9.trans s10)))))))),(Bu.step (s2.trans (s3.trans (s4.trans (s5.trans (s6.trans (s7.trans (s9.trans s10)))))))),(Bv.step (s2.trans (s3.trans (s4.trans (s5.trans (s6.trans (s7.trans (s9.trans s10)))))))),(Bw.step (s2.trans (s3.trans (s4.trans (s5.trans (s6.trans (s7.trans (s9.trans s10))))))))⟩ hp
  ·refine lSl w0 5 ?_
   refine lSl w0 5 ?_
   refine aC w0 2 λH11 w11 s11=>?_
   refine aC w11 2 λH12 w12 s12=>?_
   refine lSl w12 2 ?_
   refine lSl w12 2 ?_
   obtain ⟨w13,s13⟩:=w12.pp [3,4] 6
   exact aA hp ⟨_,_,_,_,_,_,_,_,rfl,rfl,rfl,w13,(s0.trans (s11.trans (s12.trans s13))),(Bu.step (s11.trans (s12.trans s13))),(Bv.step (s11.trans (s12.trans s13)))⟩
def aI.p (F:Nat) (ae:KT):Option ((List (Int×Int))×(List (Int×Int))×Bool):=(aT.p F ([((-1),0)]:List (Int×Int)) (wrap .i64 (2 * (ae.length:Int)))).bind λr5=>(aT.p F ([((-1),0)]:List (Int×Int)) (wrap .i64 (2 * (ae.length:Int)))).bind λr10=>aI.pl61 F F r5 r10 ae (ae.length:Int) 0
theorem aI.P {au ak av ae ag} (aJ:ak=ae.length) (h0:Inn H R0 λR=>ROs (aa eI (aa eI (aa eI (aa eI eI)))) H R ⟨au,ak,av⟩ ae) {r:(List (Int×Int))×(List (Int×Int))×Bool} (hp:aI.p F ae=some r):Rt (aI.tw F ⟨au,ak,av⟩ ag H) (aI.Q H R0 R0  r):=by
 obtain ⟨w0,aF⟩:=h0
 subst aJ
 unfold aI.p at hp
 unfold aI.tw aI.twX
 have s0:=w0.rf
 refine aW w0 λH1 w1 s1=>?_
 refine aW w1 λH2 w2 s2=>?_
 refine lSl w2 1 ?_
 refine dj (aa eI eI) w2 (n:=1) (l:=([((-1),0)]:List (Int×Int))) rfl (CR.cons (c:=[_,_]) ⟨[_],_,rfl,rfl,rfl⟩ CR.empty) rfl λH3 w3 s3 c3=>?_
 have f4:=W.borrow1 (aa eI eI) w3 c3
 obtain ⟨w4,s4⟩:=w3.right1
 obtain ⟨r5,e5,hp⟩:=ah hp
 refine aM (aT.P (show 1=List.length ([((-1),0)]:List (Int×Int)) from rfl) ⟨w4,f4⟩ e5) ?_
 rintro _ H6 ⟨o0a_6,o0n_6,o0k_6,rfl,rfl,w6,s6,f6_0⟩
 obtain ⟨w7,s7⟩:=W.frame1 w3 w6 s6
 refine br ?_
 refine dj (aa eI eI) w7 (n:=1) (l:=([((-1),0)]:List (Int×Int))) rfl (CR.cons (c:=[_,_]) ⟨[_],_,rfl,rfl,rfl⟩ CR.empty) rfl λH8 w8 s8 c8=>?_
 have f9:=W.borrow1 (aa eI eI) w8 c8
 obtain ⟨w9,s9⟩:=w8.right1
 obtain ⟨r10,e10,hp⟩:=ah hp
 refine aM (aT.P (show 1=List.length ([((-1),0)]:List (Int×Int)) from rfl) ⟨w9,f9⟩ e10) ?_
 rintro _ H11 ⟨o0a_11,o0n_11,o0k_11,rfl,rfl,w11,s11,f11_0⟩
 obtain ⟨w12,s12⟩:=W.frame1 w8 w11 s11
 refine br ?_
 refine aW w12 λH13 w13 s13=>?_
 refine aC w13 0 λH14 w14 s14=>?_
 refine aC w14 0 λH15 w15 s15=>?_
 refine lSl w15 6 ?_
 obtain ⟨w16,s16⟩:=w15.nilS (aa eI eI).z (by decide)
 obtain ⟨w17,s17⟩:=w16.nilS (aa eI eI).z (by decide)
 obtain ⟨w18,s18⟩:=w17.pp [1,0,7,6,4,2] 9
 exact aI.l61_P F rfl rfl rfl rfl rfl ⟨w18,(s0.trans (s1.trans (s2.trans (s3.trans (s7.trans (s8.trans (s12.trans (s13.trans (s14.trans (s15.trans (s16.trans (s17.trans s18)))))))))))),((CR.empty:CR (aa eI eI) _ _ [] []).step (s17.trans s18)),((CR.empty:CR (aa eI eI) _ _ [] []).step s18),((CR.flat (CV (iV .i64) (iV .i64)) f6_0).step (s8.trans (s12.trans (s13.trans (s14.trans (s15.trans (s16.trans (s17.trans s18)))))))),((CR.flat (CV (iV .i64) (iV .i64)) f11_0).step (s13.trans (s14.trans (s15.trans (s16.trans (s17.trans s18)))))),(aF.step (s1.trans (s2.trans (s3.trans (s7.trans (s8.trans (s12.trans (s13.trans (s14.trans (s15.trans (s16.trans (s17.trans s18))))))))))))⟩ hp
def cj.Q (H0:Hp) (Ri R0:KO)  (r:Lh) (v:AV) (H':Hp):Prop:=v=(.agg [(.i r.1),(.i r.2)])/\Out H0 Ri H' (R0) λR=>True
def cj.p (F:Nat) (ae:KT) (cY:Lb) (di:Lb) (fI:Int) (ed:Int):Option (Int×Int):=(ix ae fI).bind λn5=>(cQ.p F ((gt ae n5).1) ((gt ae n5).2.1) ((gt ae n5).2.2.1) ((gt ae n5).2.2.2.1)).bind λr12=>(if 0<=ed/\ed<(4:Int) then ((cR.p F ((gt ae n5).2.2.2.2) ed).bind λr16=>(bif r16 then ((ix cY (gt ([r12.1,r12.2.1,r12.2.2.1,r12.2.2.2]:List Int) (ed:Int).toNat)).bind λn18=>some (((gt cY n18).1),((gt cY n18).2))) else ((ix di (gt ([r12.1,r12.2.1,r12.2.2.1,r12.2.2.2]:List Int) (ed:Int).toNat)).bind λn22=>some (((gt di n22).1),((gt di n22).2))))) else none)
theorem cj.P {au hQ hU ak fA fB av hY hZ ae ag fI ed cY di} (aJ:ak=ae.length) (kP:fA=cY.length) (kQ:fB=di.length) (h0:Inn H R0 λR=>ROs (aa eI (aa eI (aa eI (aa eI eI)))) H R ⟨au,ak,av⟩ ae/\ROs (aa eI eI) H R ⟨hQ,fA,hY⟩ cY/\ROs (aa eI eI) H R ⟨hU,fB,hZ⟩ di) {r:Lh} (hp:cj.p F ae cY di fI ed=some r):Rt (cj.tw F ⟨au,ak,av⟩ ag ⟨hQ,fA,hY⟩ ⟨hU,fB,hZ⟩ fI ed H) (cj.Q H R0 R0  r):=by
 obtain ⟨w0,aF,kR,kS⟩:=h0
 subst aJ
 subst kP
 subst kQ
 unfold cj.p at hp
 unfold cj.tw cj.twX
 have s0:=w0.rf
 refine aW w0 λH1 w1 s1=>?_
 refine aW w1 λH2 w2 s2=>?_
 refine aW w2 λH3 w3 s3=>?_
 refine aW w3 λH4 w4 s4=>?_
 refine lSl w4 3 ?_
 refine lI w4 1 ?_
 obtain ⟨n5,g5,hp⟩:=ah hp
 obtain ⟨p5,q5,i5,h5,j5⟩:=ROs.ixr (aF.step (s1.trans (s2.trans (s3.trans s4)))) rfl g5
 refine aj i5 ?_
 obtain ⟨_,_,rfl,rfl,_,_,rfl,rfl,_,_,rfl,rfl,_,_,rfl,rfl,rfl⟩:=h5
 refine aj (aD (j5 0 _ rfl)) ?_
 refine aj (aD (j5 1 _ rfl)) ?_
 refine aj (aD (j5 2 _ rfl)) ?_
 refine aj (aD (j5 3 _ rfl)) ?_
 refine aj (aD (j5 4 _ rfl)) ?_
 refine aW w4 λH6 w6 s6=>?_
 refine aC w6 0 λH7 w7 s7=>?_
 refine aC w7 0 λH8 w8 s8=>?_
 refine aC w8 0 λH9 w9 s9=>?_
 refine aC w9 0 λH10 w10 s10=>?_
 refine aC w10 0 λH11 w11 s11=>?_
 refine lI w11 0 ?_
 refine lI w11 0 ?_
 refine lI w11 0 ?_
 refine lI w11 0 ?_
 refine lI w11 0 ?_
 obtain ⟨r12,e12,hp⟩:=ah hp
 refine aM (cQ.P ⟨w11,trivial⟩ e12) ?_
 rintro _ H13 ⟨rfl,w13,s13,_⟩
 refine br (br (br (br (br (br (br (br (br ?_))))))))
 refine fL (W.cons_of (Rn:=[]) w11 w13 s13) ?_
 refine lI w13 2 ?_
 obtain ⟨g15,hp⟩:=dB hp
 refine fL g15 ?_
 refine aj (a:=AV.int .i64 (gt ([r12.1,r12.2.1,r12.2.2.1,r12.2.2.2]:List Int) (ed:Int).toNat)) (by rw [Nat.mul_one];exact CU (k:=.i64) (l:=[r12.1,r12.2.1,r12.2.2.1,r12.2.2.2]) rfl (by have:=g15;simp only [List.length_cons,List.length_nil];omega)) ?_
 refine br ?_
 refine lI w13 0 ?_
 refine lI w13 0 ?_
 refine lI w13 0 ?_
 refine lI w13 0 ?_
 refine lI w13 0 ?_
 refine lI w13 2 ?_
 obtain ⟨r16,e16,hp⟩:=ah hp
 refine aM (cR.P ⟨w13,trivial⟩ e16) ?_
 rintro _ H17 ⟨rfl,w17,s17,_⟩
 refine br ?_
 refine aB hp (λhp=>?_) λhp=>?_
 ·refine lSl w17 3 ?_
  obtain ⟨n18,g18,hp⟩:=ah hp
  obtain ⟨p18,q18,i18,h18,j18⟩:=ROs.ixr (kR.step (s1.trans (s2.trans (s3.trans (s4.trans (s6.trans (s7.trans (s8.trans (s9.trans (s10.trans (s11.trans (s13.trans s17)))))))))))) rfl g18
  refine aj i18 ?_
  obtain ⟨_,_,rfl,rfl,rfl⟩:=h18
  refine aj (aD (j18 0 _ rfl)) ?_
  refine aj (aD (j18 1 _ rfl)) ?_
  refine aC w17 1 λH19 w19 s19=>?_
  refine aC w19 1 λH20 w20 s20=>?_
  refine lI w20 1 ?_
  refine lI w20 1 ?_
  obtain ⟨w21,s21⟩:=w20.pp [] 5
  exact aA hp ⟨rfl,w21,(s0.trans (s1.trans (s2.trans (s3.trans (s4.trans (s6.trans (s7.trans (s8.trans (s9.trans (s10.trans (s11.trans (s13.trans (s17.trans (s19.trans (s20.trans s21))))))))))))))),trivial⟩
 ·refine lSl w17 3 ?_
  obtain ⟨n22,g22,hp⟩:=ah hp
  obtain ⟨p22,q22,i22,h22,j22⟩:=ROs.ixr (kS.step (s1.trans (s2.trans (s3.trans (s4.trans (s6.trans (s7.trans (s8.trans (s9.trans (s10.trans (s11.trans (s13.trans s17)))))))))))) rfl g22
  refine aj i22 ?_
  obtain ⟨_,_,rfl,rfl,rfl⟩:=h22
  refine aj (aD (j22 0 _ rfl)) ?_
  refine aj (aD (j22 1 _ rfl)) ?_
  refine aC w17 1 λH23 w23 s23=>?_
  refine aC w23 1 λH24 w24 s24=>?_
  refine lI w24 1 ?_
  refine lI w24 1 ?_
  obtain ⟨w25,s25⟩:=w24.pp [] 5
  exact aA hp ⟨rfl,w25,(s0.trans (s1.trans (s2.trans (s3.trans (s4.trans (s6.trans (s7.trans (s8.trans (s9.trans (s10.trans (s11.trans (s13.trans (s17.trans (s23.trans (s24.trans s25))))))))))))))),trivial⟩
def ax.Q (H0:Hp) (Ri R0:KO)  (r:KV) (v:AV) (H':Hp):Prop:=∃ o0a:ON,∃ o0n:Nat,∃ o0c:Cap,∃ o0k:List AV,v=(.sl ⟨o0a,o0n,o0c⟩)/\o0n=(r).length/\Out H0 Ri H' (Rs.own ⟨o0a,o0n,o0c⟩ (eSl eI).z o0k::R0) λR=>CR (eSl eI) H' R o0k (r)
def ax.S61 (H0:Hp) (Ri R0:KO)  (C:Lj) (pC:Lm):Prop:=∀ {wT wU wV wW wX rR jW rS rT jX rU rV wY wZ w_ xa xb ni Bx e_ de nj nk kT xc xd nl},∀ {H:Hp},rR=ni.length->rS=nj.length->rT=nk.length->rU=kT.length->rV=nl.length->(Out H0 Ri H (Rs.blk jW [.sl ⟨wT,rR,wY⟩,.i Bx]::Rs.blk jX [.sl ⟨wU,rS,wZ⟩,.sl ⟨wV,rT,w_⟩]::Rs.own ⟨wW,rU,xa⟩ (eSl eI).z xc::Rs.own ⟨wX,rV,xb⟩ bF.z xd::R0) λR=>ROs (aa eI (aa eI (aa eI (aa eI eI)))) H R ⟨wT,rR,wY⟩ ni/\ROs (aa eI eI) H R ⟨wU,rS,wZ⟩ nj/\ROs (aa eI eI) H R ⟨wV,rT,w_⟩ nk/\CR (eSl eI) H R xc kT/\CR bF H R xd nl)->∀ {r:KV},pC ni nj nk kT nl e_ de=some r->Rt (C jW 0 jX 0 ⟨wW,rU,xa⟩ ⟨wX,rV,xb⟩ e_ de H) (ax.Q H0 Ri R0  r)
def ax.S15725 (H0:Hp) (Ri R0:KO)  (C:Nat->Nat->Nat->Nat->Sl->Sl->Int->Int->Sl->Int->Hp->OA) (pC:List (Int×Int×Int×Int×Int)->List (Int×Int)->List (Int×Int)->List (List Int)->List Bool->Int->Int->List Int->Int->Option (List (List Int))):Prop:=∀ {xe xf xg xh xi xj rW ij rX rY ik rZ r_ sb xk xl xm xn xo xp jt By gM gN ee ju jv kU xq xr xt ir kV},∀ {H:Hp},rW=jt.length->rX=ju.length->rY=jv.length->rZ=kU.length->r_=ir.length->sb=kV.length->(Out H0 Ri H (Rs.blk ij [.sl ⟨xe,rW,xk⟩,.i By]::Rs.blk ik [.sl ⟨xf,rX,xl⟩,.sl ⟨xg,rY,xm⟩]::Rs.own ⟨xh,rZ,xn⟩ (eSl eI).z xq::Rs.own ⟨xi,r_,xo⟩ bF.z xr::Rs.own ⟨xj,sb,xp⟩ eI.z xt::R0) λR=>ROs (aa eI (aa eI (aa eI (aa eI eI)))) H R ⟨xe,rW,xk⟩ jt/\ROs (aa eI eI) H R ⟨xf,rX,xl⟩ ju/\ROs (aa eI eI) H R ⟨xg,rY,xm⟩ jv/\CR (eSl eI) H R xq kU/\CR bF H R xr ir/\CR eI H R xt kV)->∀ {r:KV},pC jt ju jv kU ir gM gN kV ee=some r->Rt (C ij 0 ik 0 ⟨xh,rZ,xn⟩ ⟨xi,r_,xo⟩ gM gN ⟨xj,sb,xp⟩ ee H) (ax.Q H0 Ri R0  r)
def ax.pj4 (F:Nat) (aG:Lm) (pf:KT) (pg:Lb) (ph:Lb) (pi:KV) (pj:Lv) (ms:Int) (mu:Int):Option (List (List Int)):=aG pf pg ph pi pj ms (wrap .i64 (mu+1))
theorem ax.j4_P  {C61_:Lj} {aG:Lm} (hC61:ax.S61 H0 Ri R0  C61_ aG) {Bz BA BB BC BD xu qq xv xw qs xx xy BE BF BG BH BI pf Hy ms mu pg ph pi BJ BK pj} (Hz:xu=pf.length) (HA:xv=pg.length) (HB:xw=ph.length) (HC:xx=pi.length) (HD:xy=pj.length) (h0:Out H0 Ri H (Rs.blk qq [.sl ⟨Bz,xu,BE⟩,.i Hy]::Rs.blk qs [.sl ⟨BA,xv,BF⟩,.sl ⟨BB,xw,BG⟩]::Rs.own ⟨BC,xx,BH⟩ (eSl eI).z BJ::Rs.own ⟨BD,xy,BI⟩ bF.z BK::R0) λR=>ROs (aa eI (aa eI (aa eI (aa eI eI)))) H R ⟨Bz,xu,BE⟩ pf/\ROs (aa eI eI) H R ⟨BA,xv,BF⟩ pg/\ROs (aa eI eI) H R ⟨BB,xw,BG⟩ ph/\CR (eSl eI) H R BJ pi/\CR bF H R BK pj) {r:KV} (hp:ax.pj4 F aG pf pg ph pi pj ms mu=some r):Rt (ax.j4 F (cj.tw F) C61_ qq 0 qs 0 ⟨BC,xx,BH⟩ ⟨BD,xy,BI⟩ ms mu H) (ax.Q H0 Ri R0  r):=by
 obtain ⟨w0,s0,HE,HF,HG,HI,HJ⟩:=h0
 subst Hz
 subst HA
 subst HB
 subst HC
 subst HD
 unfold ax.pj4 at hp
 unfold ax.j4
 exact hC61 rfl rfl rfl rfl rfl ⟨w0,s0,HE,HF,HG,HI,HJ⟩ hp
def ax.pj5 (F:Nat) (aG:Lm) (pm:KT) (po:Lb) (pr:Lb) (pt:KV) (pu:Lv) (mv:Int) (mw:Int):Option (List (List Int)):=ax.pj4 F aG pm po pr pt pu mv mw
theorem ax.j5_P  {C61_:Lj} {aG:Lm} (hC61:ax.S61 H0 Ri R0  C61_ aG) {BL BM BN BO BP xz qt xA xB lM xC xD BQ BR BS BT BU pm HK mv mw po pr pt BV BW pu} (HL:xz=pm.length) (HM:xA=po.length) (HN:xB=pr.length) (HO:xC=pt.length) (HP:xD=pu.length) (h0:Out H0 Ri H (Rs.blk qt [.sl ⟨BL,xz,BQ⟩,.i HK]::Rs.blk lM [.sl ⟨BM,xA,BR⟩,.sl ⟨BN,xB,BS⟩]::Rs.own ⟨BO,xC,BT⟩ (eSl eI).z BV::Rs.own ⟨BP,xD,BU⟩ bF.z BW::R0) λR=>ROs (aa eI (aa eI (aa eI (aa eI eI)))) H R ⟨BL,xz,BQ⟩ pm/\ROs (aa eI eI) H R ⟨BM,xA,BR⟩ po/\ROs (aa eI eI) H R ⟨BN,xB,BS⟩ pr/\CR (eSl eI) H R BV pt/\CR bF H R BW pu) {r:KV} (hp:ax.pj5 F aG pm po pr pt pu mv mw=some r):Rt (ax.j5 F (cj.tw F) C61_ qt 0 lM 0 ⟨BO,xC,BT⟩ ⟨BP,xD,BU⟩ mv mw H) (ax.Q H0 Ri R0  r):=by
 obtain ⟨w0,s0,HQ,HR,HS,HT,HU⟩:=h0
 subst HL
 subst HM
 subst HN
 subst HO
 subst HP
 unfold ax.pj5 at hp
 unfold ax.j5
 exact ax.j4_P (@hC61) rfl rfl rfl rfl rfl ⟨w0,s0,HQ,HR,HS,HT,HU⟩ hp
def ax.pj6 (F:Nat) (aG:Lm) (nm:KT) (nn:Lb) (np:Lb) (nq:KV) (nr:Lv) (jw:KS) (jg:Int) (jh:Int):Option (List (List Int)):=(bif (decide ((jw.length:Int)>0)) then ((apn nq ([jw]:List (List Int))).bind λl3=>ax.pj5 F aG nm nn np l3 nr jg jh) else (ax.pj5 F aG nm nn np nq nr jg jh))
theorem ax.j6_P  {C61_:Lj} {aG:Lm} (hC61:ax.S61 H0 Ri R0  C61_ aG) {BX BY BZ B_ Ca Cb xE nU xF xG nV xH xI xJ Cc Cd Ce Cf Cg Ch nm HV jg jh nn np nq Ci Cj Ck nr jw} (HW:xE=nm.length) (HX:xF=nn.length) (HY:xG=np.length) (HZ:xH=nq.length) (H_:xI=nr.length) (Ia:xJ=jw.length) (h0:Out H0 Ri H (Rs.blk nU [.sl ⟨BX,xE,Cc⟩,.i HV]::Rs.blk nV [.sl ⟨BY,xF,Cd⟩,.sl ⟨BZ,xG,Ce⟩]::Rs.own ⟨B_,xH,Cf⟩ (eSl eI).z Ci::Rs.own ⟨Ca,xI,Cg⟩ bF.z Cj::Rs.own ⟨Cb,xJ,Ch⟩ eI.z Ck::R0) λR=>ROs (aa eI (aa eI (aa eI (aa eI eI)))) H R ⟨BX,xE,Cc⟩ nm/\ROs (aa eI eI) H R ⟨BY,xF,Cd⟩ nn/\ROs (aa eI eI) H R ⟨BZ,xG,Ce⟩ np/\CR (eSl eI) H R Ci nq/\CR bF H R Cj nr/\CR eI H R Ck jw) {r:KV} (hp:ax.pj6 F aG nm nn np nq nr jw jg jh=some r):Rt (ax.j6 F (cj.tw F) C61_ nU 0 nV 0 ⟨B_,xH,Cf⟩ ⟨Ca,xI,Cg⟩ ⟨Cb,xJ,Ch⟩ jg jh H) (ax.Q H0 Ri R0  r):=by
 obtain ⟨w0,s0,Cl,Cm,Cn,Co,Cp,Ib⟩:=h0
 subst HW
 subst HX
 subst HY
 subst HZ
 subst H_
 subst Ia
 unfold ax.pj6 at hp
 unfold ax.j6
 refine aB hp (λhp=>?_) λhp=>?_
 ·obtain ⟨w1,s1,f1⟩:=w0.frz (i:=4) eI rfl Ib
  refine dj (eSl eI) w1 (n:=1) (l:=([jw]:List (List Int))) rfl (CR.cons1 ⟨_,rfl,f1⟩ CR.empty) rfl λH2 w2 s2 c2=>?_
  refine aj (w2.rowo (i:=0) rfl) ?_
  obtain ⟨l3,e3,hp⟩:=ah hp
  refine gg (eSl eI) w2 (i:=3) rfl rfl (Co.step (s1.trans s2)) c2 (show 1=List.length ([jw]:List (List Int)) from rfl) rfl e3 λa4 d4 H4 w4 s4 c4 x4=>?_
  obtain ⟨w5,s5⟩:=w4.pp [1,2,3,4] 5
  exact ax.j5_P (@hC61) rfl rfl rfl rfl rfl ⟨w5,(s0.trans (s1.trans (s2.trans (s4.trans s5)))),(Cl.step (s1.trans (s2.trans (s4.trans s5)))),(Cm.step (s1.trans (s2.trans (s4.trans s5)))),(Cn.step (s1.trans (s2.trans (s4.trans s5)))),(c4.step s5),(Cp.step (s1.trans (s2.trans (s4.trans s5))))⟩ hp
 ·obtain ⟨w6,s6⟩:=w0.pp [0,1,2,3] 5
  exact ax.j5_P (@hC61) rfl rfl rfl rfl rfl ⟨w6,(s0.trans s6),(Cl.step s6),(Cm.step s6),(Cn.step s6),(Co.step s6),(Cp.step s6)⟩ hp
def ax.pl15725 (F:Nat) (aG:Lm):Nat->List (Int×Int×Int×Int×Int)->List (Int×Int)->List (Int×Int)->List (List Int)->List Bool->Int->Int->List Int->Int->Option (List (List Int))
 | 0,_,_,_,_,_,_,_,_,_=>none
 | k+1,jt,ju,jv,kU,ir,gM,gN,kV,ee=>(ix ir ee).bind λn1=>(bif (!(gt ir n1)) then ((ix ir ee).bind λn2=>(some (ir.set n2 true)).bind λl3=>(apn kV ([ee]:List Int)).bind λl6=>(cj.p F jt ju jv (wrap .i64 (Int.tdiv ee 4)) (Int.tmod (wrap .i64 (ee+1)) 4)).bind λr8=>ax.pl15725 F aG k jt ju jv kU l3 gM gN l6 (wrap .i64 ((wrap .i64 (4 * r8.1))+r8.2))) else (ax.pj6 F aG jt ju jv kU ir kV gM gN))
theorem ax.l15725_P  {C61_:Lj} {aG:Lm} (hC61:ax.S61 H0 Ri R0  C61_ aG):∀ k,ax.S15725 H0 Ri R0  (ax.l15725 F (cj.tw F) C61_ k) (ax.pl15725 F aG k):=by
 intro k
 induction k with
 | zero=>unfold ax.S15725;intros;rename_i hp;cases hp
 | succ k ih=>
  intro xe xf xg xh xi xj rW ij rX rY ik rZ r_ sb xk xl xm xn xo xp jt By gM gN ee ju jv kU xq xr xt ir kV H Ic Ie If Ig Ih Ii h0 r hp
  obtain ⟨w0,s0,xK,xL,xM,Cq,sd,Ct⟩:=h0
  subst Ic
  subst Ie
  subst If
  subst Ig
  subst Ih
  subst Ii
  unfold ax.pl15725 at hp
  unfold ax.l15725
  obtain ⟨n1,g1,hp⟩:=ah hp
  obtain ⟨p1,q1,i1,h1,j1⟩:=W.ixo (E:=bF) w0 (i:=3) rfl rfl sd g1
  refine aj i1 ?_
  have h1:_=[_]:=h1
  subst h1
  refine aj (nw (j1 0 _ rfl)) ?_
  refine aB hp (λhp=>?_) λhp=>?_
  ·obtain ⟨n2,g2,hp⟩:=ah hp
   obtain ⟨p2,q2,i2,h2,j2⟩:=W.ixo (E:=bF) w0 (i:=3) rfl rfl sd g2
   refine aj i2 ?_
   obtain ⟨l3,e3,hp⟩:=ah hp
   refine dA bF w0 (i:=3) (j:=0) (p:=p2) rfl rfl sd g2 i2 e3 rfl rfl (λ_ h=>by have h:_=[_]:=h;subst h;exact rfl) λH4 k4 w4 s4 c4=>?_
   refine dj eI w4 (n:=1) (l:=([ee]:List Int)) rfl (CR.cons1 rfl CR.empty) rfl λH5 w5 s5 c5=>?_
   refine aj (w5.rowo (i:=0) rfl) ?_
   obtain ⟨l6,e6,hp⟩:=ah hp
   refine gg eI w5 (i:=5) rfl rfl (Ct.step (s4.trans s5)) c5 (show 1=List.length ([ee]:List Int) from rfl) rfl e6 λa7 d7 H7 w7 s7 c7 x7=>?_
   refine lSl w7 1 ?_
   refine lI w7 1 ?_
   refine lSl w7 2 ?_
   refine lSl w7 2 ?_
   obtain ⟨r8,e8,hp⟩:=ah hp
   refine aM (cj.P rfl rfl rfl ⟨w7,(xK.step (s4.trans (s5.trans s7))),(xL.step (s4.trans (s5.trans s7))),(xM.step (s4.trans (s5.trans s7)))⟩ e8) ?_
   rintro _ H9 ⟨rfl,w9,s9,_⟩
   refine br (br (br (br (br ?_))))
   refine aW w9 λH10 w10 s10=>?_
   refine aC w10 0 λH11 w11 s11=>?_
   refine aC w11 0 λH12 w12 s12=>?_
   refine lI w12 0 ?_
   refine lI w12 0 ?_
   obtain ⟨w13,s13⟩:=w12.pp [2,3,4,5,6] 7
   exact ih rfl rfl rfl rfl ((cl e3).symm) rfl ⟨w13,(s0.trans (s4.trans (s5.trans (s7.trans (s9.trans (s10.trans (s11.trans (s12.trans s13)))))))),(xK.step (s4.trans (s5.trans (s7.trans (s9.trans (s10.trans (s11.trans (s12.trans s13)))))))),(xL.step (s4.trans (s5.trans (s7.trans (s9.trans (s10.trans (s11.trans (s12.trans s13)))))))),(xM.step (s4.trans (s5.trans (s7.trans (s9.trans (s10.trans (s11.trans (s12.trans s13)))))))),(Cq.step (s4.trans (s5.trans (s7.trans (s9.trans (s10.trans (s11.trans (s12.trans s13)))))))),(c4.step (s5.trans (s7.trans (s9.trans (s10.trans (s11.trans (s12.trans s13))))))),(c7.step (s9.trans (s10.trans (s11.trans (s12.trans s13)))))⟩ hp
  ·exact ax.j6_P (@hC61) rfl rfl rfl rfl rfl rfl ⟨w0,s0,xK,xL,xM,Cq,sd,Ct⟩ hp
def ax.pl61 (F:Nat) :Nat->List (Int×Int×Int×Int×Int)->List (Int×Int)->List (Int×Int)->List (List Int)->List Bool->Int->Int->Option (List (List Int))
 | 0,_,_,_,_,_,_,_=>none
 | k+1,ni,nj,nk,kT,nl,e_,de=>(bif (decide (de<e_)) then (ax.pl15725 F (ax.pl61 F k) F ni nj nk kT nl e_ de ([]:List Int) de) else (some kT))
theorem ax.l61_P  :∀ k,ax.S61 H0 Ri R0  (ax.l61 F (cj.tw F)  k) (ax.pl61 F  k):=by
 intro k
 induction k with
 | zero=>unfold ax.S61;intros;rename_i hp;cases hp
 | succ k ih=>
  intro wT wU wV wW wX rR jW rS rT jX rU rV wY wZ w_ xa xb ni Bx e_ de nj nk kT xc xd nl H Ij Ik Il Im Io h0 r hp
  obtain ⟨w0,s0,Ip,Iq,Ir,Cu,Is⟩:=h0
  subst Ij
  subst Ik
  subst Il
  subst Im
  subst Io
  unfold ax.pl61 at hp
  unfold ax.l61
  refine aB hp (λhp=>?_) λhp=>?_
  ·obtain ⟨w1,s1⟩:=w0.nilS eI.z (by decide)
   obtain ⟨w2,s2⟩:=w1.pp [1,2,3,4,0] 5
   exact ax.l15725_P (@ih) F rfl rfl rfl rfl rfl rfl ⟨w2,(s0.trans (s1.trans s2)),(Ip.step (s1.trans s2)),(Iq.step (s1.trans s2)),(Ir.step (s1.trans s2)),(Cu.step (s1.trans s2)),(Is.step (s1.trans s2)),((CR.empty:CR eI _ _ [] []).step s2)⟩ hp
  ·obtain ⟨w3,s3⟩:=w0.pp [2] 4
   exact aA hp ⟨_,_,_,_,rfl,rfl,w3,(s0.trans s3),(Cu.step s3)⟩
def ax.p (F:Nat) (ae:KT) (cY:Lb) (di:Lb):Option (List (List Int)):=(mkn (wrap .i64 (4 * (ae.length:Int))) false).bind λl3=>ax.pl61 F F ae cY di ([]:List (List Int)) l3 (l3.length:Int) 0
theorem ax.P {au hQ hU ak fA fB av hY hZ ae ag cY di} (aJ:ak=ae.length) (kP:fA=cY.length) (kQ:fB=di.length) (h0:Inn H R0 λR=>ROs (aa eI (aa eI (aa eI (aa eI eI)))) H R ⟨au,ak,av⟩ ae/\ROs (aa eI eI) H R ⟨hQ,fA,hY⟩ cY/\ROs (aa eI eI) H R ⟨hU,fB,hZ⟩ di) {r:KV} (hp:ax.p F ae cY di=some r):Rt (ax.tw F ⟨au,ak,av⟩ ag ⟨hQ,fA,hY⟩ ⟨hU,fB,hZ⟩ H) (ax.Q H R0 R0  r):=by
 obtain ⟨w0,aF,kR,kS⟩:=h0
 subst aJ
 subst kP
 subst kQ
 unfold ax.p at hp
 unfold ax.tw ax.twX
 have s0:=w0.rf
 refine aW w0 λH1 w1 s1=>?_
 refine aW w1 λH2 w2 s2=>?_
 refine lSl w2 1 ?_
 obtain ⟨l3,e3,hp⟩:=ah hp
 refine nv bF false w2 rfl rfl rfl e3 λH4 k4 w4 s4 c4=>?_
 obtain ⟨w5,s5⟩:=w4.nilS (eSl eI).z (by decide)
 obtain ⟨w6,s6⟩:=w5.pp [3,2,0,1] 4
 exact ax.l61_P F rfl rfl rfl rfl rfl ⟨w6,(s0.trans (s1.trans (s2.trans (s4.trans (s5.trans s6))))),(aF.step (s1.trans (s2.trans (s4.trans (s5.trans s6))))),(kR.step (s1.trans (s2.trans (s4.trans (s5.trans s6))))),(kS.step (s1.trans (s2.trans (s4.trans (s5.trans s6))))),((CR.empty:CR (eSl eI) _ _ [] []).step s6),(c4.step (s5.trans s6))⟩ hp
def ef.Q (H0:Hp) (Ri R0:KO)  (r:Int) (v:AV) (H':Hp):Prop:=v=(.i r)/\Out H0 Ri H' (R0) λR=>True
def ef.p (F:Nat) (ae:KV):Option (Int):=some (ae.length:Int)
theorem ef.P {au ak av ae} (aJ:ak=ae.length) (h0:Inn H R0 λR=>ROs (eSl eI) H R ⟨au,ak,av⟩ ae) {r:Int} (hp:ef.p F ae=some r):Rt (ef.tw F ⟨au,ak,av⟩ H) (ef.Q H R0 R0  r):=by
 obtain ⟨w0,aF⟩:=h0
 subst aJ
 unfold ef.p at hp
 unfold ef.tw ef.twX
 have s0:=w0.rf
 exact aA hp ⟨rfl,w0,s0,trivial⟩
def bj.Q (H0:Hp) (Ri R0:KO)  (r:KS) (v:AV) (H':Hp):Prop:=∃ o0a:ON,∃ o0n:Nat,∃ o0c:Cap,∃ o0k:List AV,v=(.sl ⟨o0a,o0n,o0c⟩)/\o0n=(r).length/\Out H0 Ri H' (Rs.own ⟨o0a,o0n,o0c⟩ eI.z o0k::R0) λR=>CR eI H' R o0k (r)
def bj.S29 (H0:Hp) (Ri R0:KO)  (C:KU) (pC:List Int->Int->Int->Option (List Int)):Prop:=∀ {xN se xO kW xP gO fv},∀ {H:Hp},se=kW.length->(Out H0 Ri H (Rs.own ⟨xN,se,xO⟩ eI.z xP::R0) λR=>CR eI H R xP kW)->∀ {r:KS},pC kW gO fv=some r->Rt (C ⟨xN,se,xO⟩ gO fv H) (bj.Q H0 Ri R0  r)
def bj.pl29 (F:Nat) :Nat->List Int->Int->Int->Option (List Int)
 | 0,_,_,_=>none
 | k+1,kW,gO,fv=>(bif (decide (fv<gO)) then ((apn kW ([fv]:List Int)).bind λl2=>bj.pl29 F k l2 gO (wrap .i64 (fv+1))) else (some kW))
theorem bj.l29_P  :∀ k,bj.S29 H0 Ri R0  (bj.l29 F   k) (bj.pl29 F  k):=by
 intro k
 induction k with
 | zero=>unfold bj.S29;intros;rename_i hp;cases hp
 | succ k ih=>
  intro xN se xO kW xP gO fv H It h0 r hp
  obtain ⟨w0,s0,Cv⟩:=h0
  subst It
  unfold bj.pl29 at hp
  unfold bj.l29
  refine aB hp (λhp=>?_) λhp=>?_
  ·refine dj eI w0 (n:=1) (l:=([fv]:List Int)) rfl (CR.cons1 rfl CR.empty) rfl λH1 w1 s1 c1=>?_
   refine aj (w1.rowo (i:=0) rfl) ?_
   obtain ⟨l2,e2,hp⟩:=ah hp
   refine gg eI w1 (i:=1) rfl rfl (Cv.step s1) c1 (show 1=List.length ([fv]:List Int) from rfl) rfl e2 λa3 d3 H3 w3 s3 c3 x3=>?_
   obtain ⟨w4,s4⟩:=w3.pp [1] 2
   exact ih rfl ⟨w4,(s0.trans (s1.trans (s3.trans s4))),(c3.step s4)⟩ hp
  ·exact aA hp ⟨_,_,_,_,rfl,rfl,w0,s0,Cv⟩
def bj.p (F:Nat) (ac:Int):Option (List Int):=bj.pl29 F F ([]:List Int) ac 0
theorem bj.P {ac}  (h0:Inn H R0 λR=>True) {r:KS} (hp:bj.p F ac=some r):Rt (bj.tw F ac H) (bj.Q H R0 R0  r):=by
 obtain ⟨w0,_⟩:=h0
 unfold bj.p at hp
 unfold bj.tw bj.twX
 have s0:=w0.rf
 obtain ⟨w1,s1⟩:=w0.nilS eI.z (by decide)
 exact bj.l29_P F rfl ⟨w1,(s0.trans s1),(CR.empty:CR eI _ _ [] [])⟩ hp
def aO.Q (H0:Hp) (Ri R0:KO) (au:ON) (ak:Nat) (av:Cap) (cI:Bool) (cJ cK:KW) (r:KS) (v:AV) (H':Hp):Prop:=∃ fJ:List AV,v=(.tup [])/\ak=(r).length/\Out H0 Ri H' (Rs.ow cI ⟨au,ak,av⟩ eI.z cJ fJ cK::R0) λR=>CR eI H' R fJ (r)
def aO.S7 (H0:Hp) (Ri R0:KO) (dl:ON) (cU:Nat) (dp:Cap) (eG:Bool) (eH eJ:KW) (C:LG) (pC:LR):Prop:=∀ {dz xQ fW fX fY eT},∀ {H:Hp},cU=dz.length->(Out H0 Ri H (Rs.ow eG ⟨dl,cU,dp⟩ eI.z eH xQ eJ::R0) λR=>CR eI H R xQ dz)->∀ {r:KS},pC dz fW fX fY eT=some r->Rt (C ⟨dl,cU,dp⟩ fW fX ⟨dl,cU,dp⟩ fY eT H) (aO.Q H0 Ri R0 dl cU dp eG eH eJ r)
def aO.pj2 (F:Nat) (sf:LR) (pv:KS) (mC:Int) (mD:Int) (mE:Int) (mF:Int):Option (List Int):=sf pv mC mD mE (wrap .i64 (mF+1))
theorem aO.j2_P {dl cU dp eG eH eJ} {C7_:LG} {sf:LR} (hC7:aO.S7 H0 Ri R0 dl cU dp eG eH eJ C7_ sf) {pv Cw mC mD mE mF} (Iu:cU=pv.length) (h0:Out H0 Ri H (Rs.ow eG ⟨dl,cU,dp⟩ eI.z eH Cw eJ::R0) λR=>CR eI H R Cw pv) {r:KS} (hp:aO.pj2 F sf pv mC mD mE mF=some r):Rt (aO.j2 F  C7_ ⟨dl,cU,dp⟩ mC mD ⟨dl,cU,dp⟩ mE mF H) (aO.Q H0 Ri R0 dl cU dp eG eH eJ r):=by
 obtain ⟨w0,s0,Iv⟩:=h0
 subst Iu
 unfold aO.pj2 at hp
 unfold aO.j2
 exact hC7 rfl ⟨w0,s0,Iv⟩ hp
def aO.pl7 (F:Nat) :Nat->List Int->Int->Int->Int->Int->Option (List Int)
 | 0,_,_,_,_,_=>none
 | k+1,dz,fW,fX,fY,eT=>(bif (decide (eT<fY)) then ((ix dz eT).bind λn1=>(bif ((gt dz n1)==fW) then ((ix dz eT).bind λn2=>(some (dz.set n2 fX)).bind λl3=>aO.pj2 F (aO.pl7 F k) l3 fW fX fY eT) else (aO.pj2 F (aO.pl7 F k) dz fW fX fY eT))) else (some dz))
theorem aO.l7_P {dl cU dp eG eH eJ} :∀ k,aO.S7 H0 Ri R0 dl cU dp eG eH eJ (aO.l7 F   k) (aO.pl7 F  k):=by
 intro k
 induction k with
 | zero=>unfold aO.S7;intros;rename_i hp;cases hp
 | succ k ih=>
  intro dz xQ fW fX fY eT H xR h0 r hp
  obtain ⟨w0,s0,jx⟩:=h0
  subst xR
  unfold aO.pl7 at hp
  unfold aO.l7
  refine aB hp (λhp=>?_) λhp=>?_
  ·obtain ⟨n1,g1,hp⟩:=ah hp
   obtain ⟨p1,q1,i1,h1,j1⟩:=W.ixo (E:=eI) w0 (i:=0) rfl rfl jx g1
   refine aj i1 ?_
   have h1:_=[_]:=h1
   subst h1
   refine aj (aD (j1 0 _ rfl)) ?_
   refine aB hp (λhp=>?_) λhp=>?_
   ·obtain ⟨n2,g2,hp⟩:=ah hp
    obtain ⟨p2,q2,i2,h2,j2⟩:=W.ixo (E:=eI) w0 (i:=0) rfl rfl jx g2
    refine aj i2 ?_
    obtain ⟨l3,e3,hp⟩:=ah hp
    refine dA eI w0 (i:=0) (j:=0) (p:=p2) rfl rfl jx g2 i2 e3 rfl rfl (λ_ h=>by have h:_=[_]:=h;subst h;exact rfl) λH4 k4 w4 s4 c4=>?_
    exact aO.j2_P (@ih) ((cl e3).symm) ⟨w4,(s0.trans s4),c4⟩ hp
   ·exact aO.j2_P (@ih) rfl ⟨w0,s0,jx⟩ hp
  ·exact aA hp ⟨_,rfl,rfl,w0,s0,jx⟩
def aO.p (F:Nat) (ae:KS) (ar:Int) (cA:Int):Option (List Int):=(ix ae cA).bind λn1=>(ix ae ar).bind λn2=>aO.pl7 F F ae (gt ae n1) (gt ae n2) (ae.length:Int) 0
theorem aO.P {au ak av ae cI cJ cK dP ar cA} (aJ:ak=ae.length) (h0:Inn H (Rs.ow cI ⟨au,ak,av⟩ eI.z cJ dP cK::R0) λR=>CR eI H R dP ae) {r:KS} (hp:aO.p F ae ar cA=some r):Rt (aO.tw F ⟨au,ak,av⟩ ar cA H) (aO.Q H (Rs.ow cI ⟨au,ak,av⟩ eI.z cJ dP cK::R0) R0 au ak av cI cJ cK r):=by
 obtain ⟨w0,aF⟩:=h0
 subst aJ
 unfold aO.p at hp
 unfold aO.tw aO.twX
 have s0:=w0.rf
 obtain ⟨n1,g1,hp⟩:=ah hp
 obtain ⟨p1,q1,i1,h1,j1⟩:=W.ixo (E:=eI) w0 (i:=0) rfl rfl aF g1
 refine aj i1 ?_
 have h1:_=[_]:=h1
 subst h1
 refine aj (aD (j1 0 _ rfl)) ?_
 obtain ⟨n2,g2,hp⟩:=ah hp
 obtain ⟨p2,q2,i2,h2,j2⟩:=W.ixo (E:=eI) w0 (i:=0) rfl rfl aF g2
 refine aj i2 ?_
 have h2:_=[_]:=h2
 subst h2
 refine aj (aD (j2 0 _ rfl)) ?_
 exact aO.l7_P F rfl ⟨w0,s0,aF⟩ hp
def bS.Q (H0:Hp) (Ri R0:KO)  (r:KS) (v:AV) (H':Hp):Prop:=∃ o0a:ON,∃ o0n:Nat,∃ o0c:Cap,∃ o0k:List AV,v=(.sl ⟨o0a,o0n,o0c⟩)/\o0n=(r).length/\Out H0 Ri H' (Rs.own ⟨o0a,o0n,o0c⟩ eI.z o0k::R0) λR=>CR eI H' R o0k (r)
def bS.p (F:Nat) (ae:KS):Option (List Int):=(if ae.length<=4294967296/\wfs ae=true then some (gz ae) else none)
theorem bS.P {au ak av ae} (aJ:ak=ae.length) (h0:Inn H R0 λR=>ROs eI H R ⟨au,ak,av⟩ ae) {r:KS} (hp:bS.p F ae=some r):Rt (bS.tw F ⟨au,ak,av⟩ H) (bS.Q H R0 R0  r):=by
 obtain ⟨w0,f0⟩:=h0
 subst aJ
 unfold bS.p at hp
 unfold bS.tw pM
 have s0:=w0.rf
 obtain ⟨hc,hp⟩:=dB hp
 have hp:=Option.some.inj hp
 obtain ⟨xs,hx,cx⟩:=f0.row rfl
 refine aj hx ?_
 obtain rfl:=cx.ints_eq
 refine aj (CW _) ?_
 refine fL hc ?_
 by_cases hz:ae.length=0
 ·rw [if_pos hz]
  obtain ⟨w1,s1⟩:=w0.nilS eI.z (by decide)
  obtain rfl:r=[]:=List.length_eq_zero_iff.1 (by rw [<- hp,yt,hz])
  exact ⟨_,_,rfl,none,0,.ex 0,[],rfl,rfl,w1,s0.trans s1,CR.empty⟩
 ·rw [if_neg hz]
  obtain ⟨H2,e2,w2,s2⟩:=w0.newF ((gz ae).map (AV.int .i64)) ae.length eI.z (by rw [List.length_map,yt];exact (Nat.mul_one _).symm) (by decide)
  subst e2
  subst hp
  exact ⟨_,_,rfl,some (_,0),_,.full 1,_,rfl,(yt _).symm,w2,s0.trans s2,CR.ints _ _ _ _⟩
def bc.Q (H0:Hp) (Ri R0:KO)  (r:KS) (v:AV) (H':Hp):Prop:=∃ o0a:ON,∃ o0n:Nat,∃ o0c:Cap,∃ o0k:List AV,v=(.sl ⟨o0a,o0n,o0c⟩)/\o0n=(r).length/\Out H0 Ri H' (Rs.own ⟨o0a,o0n,o0c⟩ eI.z o0k::R0) λR=>CR eI H' R o0k (r)
def bc.S29 (H0:Hp) (Ri R0:KO)  (C:Lx) (pC:List (Int×Int)->List (Int×Int)->List Int->Int->Int->Option (List Int)):Prop:=∀ {si xS xT pz sj ji sk sm xU xV jy jz kX xW gQ fw},∀ {H:Hp},pz=jy.length->sj=jz.length->sk=kX.length->(Out H0 Ri H (Rs.blk ji [.sl ⟨si,pz,sm⟩,.sl ⟨xS,sj,xU⟩]::Rs.own ⟨xT,sk,xV⟩ eI.z xW::R0) λR=>ROs (aa eI eI) H R ⟨si,pz,sm⟩ jy/\ROs (aa eI eI) H R ⟨xS,sj,xU⟩ jz/\CR eI H R xW kX)->∀ {r:KS},pC jy jz kX gQ fw=some r->Rt (C ji 0 ⟨xT,sk,xV⟩ ⟨si,pz,sm⟩ gQ fw H) (bc.Q H0 Ri R0  r)
def bc.pl29 (F:Nat) :Nat->List (Int×Int)->List (Int×Int)->List Int->Int->Int->Option (List Int)
 | 0,_,_,_,_,_=>none
 | k+1,jy,jz,kX,gQ,fw=>(bif (decide (fw<gQ)) then ((ix jy fw).bind λn1=>(ix jz fw).bind λn5=>(aO.p F kX ((gt jy n1).1) ((gt jz n5).1)).bind λr7=>bc.pl29 F k jy jz r7 gQ (wrap .i64 (fw+1))) else ((bS.p F kX).bind λr12=>some r12))
theorem bc.l29_P  :∀ k,bc.S29 H0 Ri R0  (bc.l29 F (bQ.tw F) (bj.tw F) (aO.tw F) (bS.tw F)  k) (bc.pl29 F  k):=by
 intro k
 induction k with
 | zero=>unfold bc.S29;intros;rename_i hp;cases hp
 | succ k ih=>
  intro si xS xT pz sj ji sk sm xU xV jy jz kX xW gQ fw H Iw Ix Iy h0 r hp
  obtain ⟨w0,s0,Cx,Cy,Cz⟩:=h0
  subst Iw
  subst Ix
  subst Iy
  unfold bc.pl29 at hp
  unfold bc.l29
  refine aB hp (λhp=>?_) λhp=>?_
  ·obtain ⟨n1,g1,hp⟩:=ah hp
   obtain ⟨p1,q1,i1,h1,j1⟩:=ROs.ixr Cx rfl g1
   refine aj i1 ?_
   obtain ⟨_,_,rfl,rfl,rfl⟩:=h1
   refine aj (aD (j1 0 _ rfl)) ?_
   refine aj (aD (j1 1 _ rfl)) ?_
   refine aW w0 λH2 w2 s2=>?_
   refine aC w2 0 λH3 w3 s3=>?_
   refine aC w3 0 λH4 w4 s4=>?_
   refine lI w4 0 ?_
   refine lSl w4 1 ?_
   obtain ⟨n5,g5,hp⟩:=ah hp
   obtain ⟨p5,q5,i5,h5,j5⟩:=ROs.ixr (Cy.step (s2.trans (s3.trans s4))) rfl g5
   refine aj i5 ?_
   obtain ⟨_,_,rfl,rfl,rfl⟩:=h5
   refine aj (aD (j5 0 _ rfl)) ?_
   obtain ⟨w6,s6⟩:=w4.pp [2,0,1] 3
   obtain ⟨r7,e7,hp⟩:=ah hp
   refine aM (aO.P rfl ⟨w6,(Cz.step (s2.trans (s3.trans (s4.trans s6))))⟩ e7) ?_
   rintro _ H8 ⟨Ke,rfl,hl8_0,w8,s8,f8_0⟩
   obtain ⟨w9,s9⟩:=w8.pp [2,0] 3
   exact ih rfl rfl hl8_0 ⟨w9,(s0.trans (s2.trans (s3.trans (s4.trans (s6.trans (s8.trans s9)))))),(Cx.step (s2.trans (s3.trans (s4.trans (s6.trans (s8.trans s9)))))),(Cy.step (s2.trans (s3.trans (s4.trans (s6.trans (s8.trans s9)))))),(f8_0.step s9)⟩ hp
  ·obtain ⟨w10,s10⟩:=w0.pp [1,0] 2
   have f11:=W.borrow1 eI w10 (Cz.step s10)
   obtain ⟨w11,s11⟩:=w10.right1
   obtain ⟨r12,e12,hp⟩:=ah hp
   refine aM (bS.P rfl ⟨w11,f11⟩ e12) ?_
   rintro _ H13 ⟨o0a_13,o0n_13,o0c_13,o0k_13,rfl,rfl,w13,s13,f13_0⟩
   obtain ⟨w14,s14⟩:=W.frame1 w10 w13 s13
   refine br ?_
   obtain ⟨w15,s15⟩:=w14.pp [1] 3
   exact aA hp ⟨_,_,_,_,rfl,rfl,w15,(s0.trans (s10.trans (s14.trans s15))),((CR.flat (iV .i64) f13_0).step s15)⟩
def bc.p (F:Nat) (ae:KT) (cY:Lb) (di:Lb):Option (List Int):=(bQ.p F ae).bind λr3=>(bj.p F r3).bind λr5=>bc.pl29 F F cY di r5 (cY.length:Int) 0
theorem bc.P {au hQ hU ak fA fB av hY hZ ae ag cY di} (aJ:ak=ae.length) (kP:fA=cY.length) (kQ:fB=di.length) (h0:Inn H R0 λR=>ROs (aa eI (aa eI (aa eI (aa eI eI)))) H R ⟨au,ak,av⟩ ae/\ROs (aa eI eI) H R ⟨hQ,fA,hY⟩ cY/\ROs (aa eI eI) H R ⟨hU,fB,hZ⟩ di) {r:KS} (hp:bc.p F ae cY di=some r):Rt (bc.tw F ⟨au,ak,av⟩ ag ⟨hQ,fA,hY⟩ ⟨hU,fB,hZ⟩ H) (bc.Q H R0 R0  r):=by
 obtain ⟨w0,aF,kR,kS⟩:=h0
 subst aJ
 subst kP
 subst kQ
 unfold bc.p at hp
 unfold bc.tw bc.twX
 have s0:=w0.rf
 refine aW w0 λH1 w1 s1=>?_
 refine aW w1 λH2 w2 s2=>?_
 refine lSl w2 1 ?_
 obtain ⟨r3,e3,hp⟩:=ah hp
 refine aM (bQ.P rfl ⟨w2,(aF.step (s1.trans s2))⟩ e3) ?_
 rintro _ H4 ⟨rfl,w4,s4,_⟩
 refine br ?_
 obtain ⟨r5,e5,hp⟩:=ah hp
 refine aM (bj.P ⟨w4,trivial⟩ e5) ?_
 rintro _ H6 ⟨o0a_6,o0n_6,o0c_6,o0k_6,rfl,rfl,w6,s6,f6_0⟩
 refine br ?_
 refine lSl w6 1 ?_
 obtain ⟨w7,s7⟩:=w6.pp [1,0] 3
 exact bc.l29_P F rfl rfl rfl ⟨w7,(s0.trans (s1.trans (s2.trans (s4.trans (s6.trans s7))))),(kR.step (s1.trans (s2.trans (s4.trans (s6.trans s7))))),(kS.step (s1.trans (s2.trans (s4.trans (s6.trans s7))))),(f6_0.step s7)⟩ hp
def a_.Q (H0:Hp) (Ri R0:KO)  (r:Int) (v:AV) (H':Hp):Prop:=v=(.i r)/\Out H0 Ri H' (R0) λR=>True
def a_.S61 (H0:Hp) (Ri R0:KO)  (C:KU) (pC:LT):Prop:=∀ {xX sp xY dz es fZ},∀ {H:Hp},sp=dz.length->(Out H0 Ri H R0 λR=>ROs eI H R ⟨xX,sp,xY⟩ dz)->∀ {r:Int},pC dz es fZ=some r->Rt (C ⟨xX,sp,xY⟩ es fZ H) (a_.Q H0 Ri R0  r)
def a_.pl61 (F:Nat) :Nat->List Int->Int->Int->Option (Int)
 | 0,_,_,_=>none
 | k+1,dz,es,fZ=>(bif (decide (fZ<(dz.length:Int))) then ((ix dz fZ).bind λn1=>a_.pl61 F k dz (if (gt dz n1)>es then (gt dz n1) else es) (wrap .i64 (fZ+1))) else (some es))
theorem a_.l61_P  :∀ k,a_.S61 H0 Ri R0  (a_.l61 F   k) (a_.pl61 F  k):=by
 intro k
 induction k with
 | zero=>unfold a_.S61;intros;rename_i hp;cases hp
 | succ k ih=>
  intro xX sp xY dz es fZ H xR h0 r hp
  obtain ⟨w0,s0,jx⟩:=h0
  subst xR
  unfold a_.pl61 at hp
  unfold a_.l61
  refine aB hp (λhp=>?_) λhp=>?_
  ·obtain ⟨n1,g1,hp⟩:=ah hp
   obtain ⟨p1,q1,i1,h1,j1⟩:=ROs.ixr jx rfl g1
   refine aj i1 ?_
   have h1:_=[_]:=h1
   subst h1
   refine aj (aD (j1 0 _ rfl)) ?_
   exact ih rfl ⟨w0,s0,jx⟩ hp
  ·exact aA hp ⟨rfl,w0,s0,trivial⟩
def a_.pj1 (F:Nat)  (kY:KS):Option (Int):=(ix kY 0).bind λn1=>a_.pl61 F F kY (gt kY n1) 1
theorem a_.j1_P   {CA xZ CB kY} (Iz:xZ=kY.length) (h0:Out H0 Ri H R0 λR=>ROs eI H R ⟨CA,xZ,CB⟩ kY) {r:Int} (hp:a_.pj1 F  kY=some r):Rt (a_.j1 F   ⟨CA,xZ,CB⟩ H) (a_.Q H0 Ri R0  r):=by
 obtain ⟨w0,s0,CC⟩:=h0
 subst Iz
 unfold a_.pj1 at hp
 unfold a_.j1
 obtain ⟨n1,g1,hp⟩:=ah hp
 obtain ⟨p1,q1,i1,h1,j1⟩:=ROs.ixr CC rfl g1
 refine aj i1 ?_
 have h1:_=[_]:=h1
 subst h1
 refine aj (aD (j1 0 _ rfl)) ?_
 exact a_.l61_P F rfl ⟨w0,s0,CC⟩ hp
def a_.p (F:Nat) (ae:KS):Option (Int):=(bif (decide ((ae.length:Int)<1)) then (none) else (a_.pj1 F ae))
theorem a_.P {au ak av ae} (aJ:ak=ae.length) (h0:Inn H R0 λR=>ROs eI H R ⟨au,ak,av⟩ ae) {r:Int} (hp:a_.p F ae=some r):Rt (a_.tw F ⟨au,ak,av⟩ H) (a_.Q H R0 R0  r):=by
 obtain ⟨w0,aF⟩:=h0
 subst aJ
 unfold a_.p at hp
 unfold a_.tw a_.twX
 have s0:=w0.rf
 refine aB hp (λhp=>?_) λhp=>?_
 ·cases hp
 ·exact a_.j1_P rfl ⟨w0,s0,aF⟩ hp
def cp.Q (H0:Hp) (Ri R0:KO)  (r:Int) (v:AV) (H':Hp):Prop:=v=(.i r)/\Out H0 Ri H' (R0) λR=>True
def cp.p (F:Nat) (ae:KS):Option (Int):=(bif ((ae.length:Int)==0) then (some 0) else ((a_.p F ae).bind λr1=>some (wrap .i64 (r1+1))))
theorem cp.P {au ak av ae} (aJ:ak=ae.length) (h0:Inn H R0 λR=>ROs eI H R ⟨au,ak,av⟩ ae) {r:Int} (hp:cp.p F ae=some r):Rt (cp.tw F ⟨au,ak,av⟩ H) (cp.Q H R0 R0  r):=by
 obtain ⟨w0,aF⟩:=h0
 subst aJ
 unfold cp.p at hp
 unfold cp.tw cp.twX
 have s0:=w0.rf
 refine aB hp (λhp=>?_) λhp=>?_
 ·exact aA hp ⟨rfl,w0,s0,trivial⟩
 ·obtain ⟨r1,e1,hp⟩:=ah hp
  refine aM (a_.P rfl ⟨w0,aF⟩ e1) ?_
  rintro _ H2 ⟨rfl,w2,s2,_⟩
  refine br ?_
  exact aA hp ⟨rfl,w2,(s0.trans s2),trivial⟩
def ca.Q (H0:Hp) (Ri R0:KO)  (r:(List (Int×Int))×(List (Int×Int))×Bool) (v:AV) (H':Hp):Prop:=∃ o0a:ON,∃ o0n:Nat,∃ o0c:Cap,∃ o1a:ON,∃ o1n:Nat,∃ o1c:Cap,v=(.tup [(.agg [(.sl ⟨o0a,o0n,o0c⟩),(.sl ⟨o1a,o1n,o1c⟩)]),(.bool r.2.2)])/\o0n=(r.1).length/\o1n=(r.2.1).length/\Out H0 Ri H' (R0) λR=>ROs (aa eI eI) H' R ⟨o0a,o0n,o0c⟩ (r.1)/\ROs (aa eI eI) H' R ⟨o1a,o1n,o1c⟩ (r.2.1)
def ca.p (F:Nat) (ae:KT) (ag:Int):Option ((List (Int×Int))×(List (Int×Int))×Bool):=(bQ.p F ae).bind λr3=>(bif (decide (r3>10)) then (some (([]:List (Int×Int)),([]:List (Int×Int)),false)) else ((db.p F ag 0 8).bind λr12=>(bif (!r12) then (some (([]:List (Int×Int)),([]:List (Int×Int)),false)) else ((dc.p F ae).bind λr21=>(bif r21 then (some (([]:List (Int×Int)),([]:List (Int×Int)),false)) else ((aI.p F ae).bind λr30=>(bif (!r30.2.2) then (some (([]:List (Int×Int)),([]:List (Int×Int)),false)) else ((ax.p F ae r30.1 r30.2.1).bind λr44=>(ef.p F r44).bind λr48=>(bc.p F ae r30.1 r30.2.1).bind λr52=>(cp.p F r52).bind λr55=>(bif (r48 != (wrap .i64 (r3+(wrap .i64 (2 * r55))))) then (some (([]:List (Int×Int)),([]:List (Int×Int)),false)) else (some (r30.1,r30.2.1,true)))))))))))
theorem ca.P {au ak av ae ag} (aJ:ak=ae.length) (h0:Inn H R0 λR=>ROs (aa eI (aa eI (aa eI (aa eI eI)))) H R ⟨au,ak,av⟩ ae) {r:(List (Int×Int))×(List (Int×Int))×Bool} (hp:ca.p F ae ag=some r):Rt (ca.tw F ⟨au,ak,av⟩ ag H) (ca.Q H R0 R0  r):=by
 obtain ⟨w0,aF⟩:=h0
 subst aJ
 unfold ca.p at hp
 unfold ca.tw ca.twX
 have s0:=w0.rf
 refine aW w0 λH1 w1 s1=>?_
 refine aW w1 λH2 w2 s2=>?_
 refine lSl w2 1 ?_
 obtain ⟨r3,e3,hp⟩:=ah hp
 refine aM (bQ.P rfl ⟨w2,(aF.step (s1.trans s2))⟩ e3) ?_
 rintro _ H4 ⟨rfl,w4,s4,_⟩
 refine br ?_
 refine aB hp (λhp=>?_) λhp=>?_
 ·refine aC w4 0 λH5 w5 s5=>?_
  refine aC w5 0 λH6 w6 s6=>?_
  refine lSl w6 0 ?_
  refine lSl w6 0 ?_
  obtain ⟨w7,s7⟩:=w6.nilS (aa eI eI).z (by decide)
  obtain ⟨w8,s8⟩:=w7.nilS (aa eI eI).z (by decide)
  obtain ⟨w9,s9,f9⟩:=w8.frz (i:=1) (aa eI eI) rfl ((CR.empty:CR (aa eI eI) _ _ [] []).step s8)
  obtain ⟨w10,s10,f10⟩:=w9.frz (i:=0) (aa eI eI) rfl ((CR.empty:CR (aa eI eI) _ _ [] []).step s9)
  obtain ⟨w11,s11⟩:=w10.pp [] 2
  exact aA hp ⟨_,_,_,_,_,_,rfl,rfl,rfl,w11,(s0.trans (s1.trans (s2.trans (s4.trans (s5.trans (s6.trans (s7.trans (s8.trans (s9.trans (s10.trans s11)))))))))),(f9.step (s10.trans s11)),(f10.step s11)⟩
 ·refine lI w4 1 ?_
  obtain ⟨r12,e12,hp⟩:=ah hp
  refine aM (db.P ⟨w4,trivial⟩ e12) ?_
  rintro _ H13 ⟨rfl,w13,s13,_⟩
  refine br ?_
  refine aB hp (λhp=>?_) λhp=>?_
  ·refine aC w13 0 λH14 w14 s14=>?_
   refine aC w14 0 λH15 w15 s15=>?_
   refine lSl w15 0 ?_
   refine lSl w15 0 ?_
   obtain ⟨w16,s16⟩:=w15.nilS (aa eI eI).z (by decide)
   obtain ⟨w17,s17⟩:=w16.nilS (aa eI eI).z (by decide)
   obtain ⟨w18,s18,f18⟩:=w17.frz (i:=1) (aa eI eI) rfl ((CR.empty:CR (aa eI eI) _ _ [] []).step s17)
   obtain ⟨w19,s19,f19⟩:=w18.frz (i:=0) (aa eI eI) rfl ((CR.empty:CR (aa eI eI) _ _ [] []).step s18)
   obtain ⟨w20,s20⟩:=w19.pp [] 2
   exact aA hp ⟨_,_,_,_,_,_,rfl,rfl,rfl,w20,(s0.trans (s1.trans (s2.trans (s4.trans (s13.trans (s14.trans (s15.trans (s16.trans (s17.trans (s18.trans (s19.trans s20))))))))))),(f18.step (s19.trans s20)),(f19.step s20)⟩
  ·refine lSl w13 1 ?_
   obtain ⟨r21,e21,hp⟩:=ah hp
   refine aM (dc.P rfl ⟨w13,(aF.step (s1.trans (s2.trans (s4.trans s13))))⟩ e21) ?_
   rintro _ H22 ⟨rfl,w22,s22,_⟩
   refine br ?_
   refine aB hp (λhp=>?_) λhp=>?_
   ·refine aC w22 0 λH23 w23 s23=>?_
    refine aC w23 0 λH24 w24 s24=>?_
    refine lSl w24 0 ?_
    refine lSl w24 0 ?_
    obtain ⟨w25,s25⟩:=w24.nilS (aa eI eI).z (by decide)
    obtain ⟨w26,s26⟩:=w25.nilS (aa eI eI).z (by decide)
    obtain ⟨w27,s27,f27⟩:=w26.frz (i:=1) (aa eI eI) rfl ((CR.empty:CR (aa eI eI) _ _ [] []).step s26)
    obtain ⟨w28,s28,f28⟩:=w27.frz (i:=0) (aa eI eI) rfl ((CR.empty:CR (aa eI eI) _ _ [] []).step s27)
    obtain ⟨w29,s29⟩:=w28.pp [] 2
    exact aA hp ⟨_,_,_,_,_,_,rfl,rfl,rfl,w29,(s0.trans (s1.trans (s2.trans (s4.trans (s13.trans (s22.trans (s23.trans (s24.trans (s25.trans (s26.trans (s27.trans (s28.trans s29)))))))))))),(f27.step (s28.trans s29)),(f28.step s29)⟩
   ·refine lSl w22 1 ?_
    refine lI w22 1 ?_
    obtain ⟨r30,e30,hp⟩:=ah hp
    refine aM (aI.P rfl ⟨w22,(aF.step (s1.trans (s2.trans (s4.trans (s13.trans s22)))))⟩ e30) ?_
    rintro _ H31 ⟨o0a_31,o0n_31,o0c_31,o0k_31,o1a_31,o1n_31,o1c_31,o1k_31,rfl,rfl,rfl,w31,s31,f31_0,f31_1⟩
    refine br (br (br (br (br (br (br (br (br ?_))))))))
    refine aW w31 λH32 w32 s32=>?_
    refine aC w32 0 λH33 w33 s33=>?_
    refine aC w33 0 λH34 w34 s34=>?_
    refine aB hp (λhp=>?_) λhp=>?_
    ·refine aC w34 3 λH35 w35 s35=>?_
     refine aC w35 3 λH36 w36 s36=>?_
     refine lSl w36 3 ?_
     refine lSl w36 3 ?_
     obtain ⟨w37,s37⟩:=w36.nilS (aa eI eI).z (by decide)
     obtain ⟨w38,s38⟩:=w37.nilS (aa eI eI).z (by decide)
     obtain ⟨w39,s39,f39⟩:=w38.frz (i:=1) (aa eI eI) rfl ((CR.empty:CR (aa eI eI) _ _ [] []).step s38)
     obtain ⟨w40,s40,f40⟩:=w39.frz (i:=0) (aa eI eI) rfl ((CR.empty:CR (aa eI eI) _ _ [] []).step s39)
     obtain ⟨w41,s41⟩:=w40.pp [] 5
     exact aA hp ⟨_,_,_,_,_,_,rfl,rfl,rfl,w41,(s0.trans (s1.trans (s2.trans (s4.trans (s13.trans (s22.trans (s31.trans (s32.trans (s33.trans (s34.trans (s35.trans (s36.trans (s37.trans (s38.trans (s39.trans (s40.trans s41)))))))))))))))),(f39.step (s40.trans s41)),(f40.step s41)⟩
    ·refine lSl w34 4 ?_
     refine lI w34 4 ?_
     refine lSl w34 0 ?_
     refine lSl w34 0 ?_
     obtain ⟨w42,s42,f42⟩:=w34.frz (i:=1) (aa eI eI) rfl (f31_0.step (s32.trans (s33.trans s34)))
     obtain ⟨w43,s43,f43⟩:=w42.frz (i:=1) (aa eI eI) rfl (f31_1.step (s32.trans (s33.trans (s34.trans s42))))
     obtain ⟨r44,e44,hp⟩:=ah hp
     refine aM (ax.P rfl rfl rfl ⟨w43,(aF.step (s1.trans (s2.trans (s4.trans (s13.trans (s22.trans (s31.trans (s32.trans (s33.trans (s34.trans (s42.trans s43))))))))))),(f42.step s43),f43⟩ e44) ?_
     rintro _ H45 ⟨o0a_45,o0n_45,o0c_45,o0k_45,rfl,rfl,w45,s45,f45_0⟩
     refine br ?_
     refine fL (aH.tr (aH.refl _) s42 (aH.tr (aH.refl _) s43 (W.cons_of (Rn:=[_]) w43 w45 s45))) ?_
     have f47:=W.borrow1 (eSl eI) w45 f45_0
     obtain ⟨w47,s47⟩:=w45.right1
     obtain ⟨r48,e48,hp⟩:=ah hp
     refine aM (ef.P rfl ⟨w47,f47⟩ e48) ?_
     rintro _ H49 ⟨rfl,w49,s49,_⟩
     obtain ⟨w50,s50⟩:=W.frame1 w45 w49 s49
     refine br ?_
     refine fL (W.cons_of (Rn:=[]) w47 w49 s49) ?_
     refine lSl w50 3 ?_
     refine lI w50 3 ?_
     refine lSl w50 1 ?_
     refine lSl w50 1 ?_
     obtain ⟨r52,e52,hp⟩:=ah hp
     refine aM (bc.P rfl rfl rfl ⟨w50,(aF.step (s1.trans (s2.trans (s4.trans (s13.trans (s22.trans (s31.trans (s32.trans (s33.trans (s34.trans (s42.trans (s43.trans (s45.trans s50))))))))))))),(f42.step (s43.trans (s45.trans s50))),(f43.step (s45.trans s50))⟩ e52) ?_
     rintro _ H53 ⟨o0a_53,o0n_53,o0c_53,o0k_53,rfl,rfl,w53,s53,f53_0⟩
     refine br ?_
     have f54:=W.borrow1 eI w53 f53_0
     obtain ⟨w54,s54⟩:=w53.right1
     obtain ⟨r55,e55,hp⟩:=ah hp
     refine aM (cp.P rfl ⟨w54,f54⟩ e55) ?_
     rintro _ H56 ⟨rfl,w56,s56,_⟩
     obtain ⟨w57,s57⟩:=W.frame1 w53 w56 s56
     refine br ?_
     refine aB hp (λhp=>?_) λhp=>?_
     ·refine aC w57 3 λH58 w58 s58=>?_
      refine aC w58 3 λH59 w59 s59=>?_
      refine lSl w59 3 ?_
      refine lSl w59 3 ?_
      obtain ⟨w60,s60⟩:=w59.nilS (aa eI eI).z (by decide)
      obtain ⟨w61,s61⟩:=w60.nilS (aa eI eI).z (by decide)
      obtain ⟨w62,s62,f62⟩:=w61.frz (i:=1) (aa eI eI) rfl ((CR.empty:CR (aa eI eI) _ _ [] []).step s61)
      obtain ⟨w63,s63,f63⟩:=w62.frz (i:=0) (aa eI eI) rfl ((CR.empty:CR (aa eI eI) _ _ [] []).step s62)
      obtain ⟨w64,s64⟩:=w63.pp [] 5
      dsimp only [pk,pks,nth,List.drop,List.set,List.eraseIdx] at w64 s33 s34 s42 f42 s43 f43 s58 s59 s60 s61 s62 f62 s63 f63 s64
      exact aA hp ⟨_,_,_,_,_,_,rfl,rfl,rfl,w64,(s0.trans (s1.trans (s2.trans (s4.trans (s13.trans (s22.trans (s31.trans (s32.trans (s33.trans (s34.trans (s42.trans (s43.trans (s45.trans (s50.trans (s53.trans (s57.trans (s58.trans (s59.trans (s60.trans (s61.trans (s62.trans (s63.trans s64)))))))))))))))))))))),(f62.step (s63.trans s64)),(f63.step s64)⟩
     ·refine lSl w57 2 ?_
      refine lSl w57 2 ?_
      refine aC w57 3 λH65 w65 s65=>?_
      refine aC w65 3 λH66 w66 s66=>?_
      refine lSl w66 3 ?_
      refine lSl w66 3 ?_
      obtain ⟨w67,s67⟩:=w66.pp [] 5
      exact aA hp ⟨_,_,_,_,_,_,rfl,rfl,rfl,w67,(s0.trans (s1.trans (s2.trans (s4.trans (s13.trans (s22.trans (s31.trans (s32.trans (s33.trans (s34.trans (s42.trans (s43.trans (s45.trans (s50.trans (s53.trans (s57.trans (s65.trans (s66.trans s67)))))))))))))))))),(f42.step (s43.trans (s45.trans (s50.trans (s53.trans (s57.trans (s65.trans (s66.trans s67)))))))),(f43.step (s45.trans (s50.trans (s53.trans (s57.trans (s65.trans (s66.trans s67)))))))⟩
def cE.Q (H0:Hp) (Ri R0:KO)  (r:Bool) (v:AV) (H':Hp):Prop:=v=(.bool r)/\Out H0 Ri H' (R0) λR=>True
def cE.p (F:Nat) (ae:KT) (ag:Int):Option (Bool):=(ca.p F ae ag).bind λr2=>some r2.2.2
theorem cE.P {au ak av ae ag} (aJ:ak=ae.length) (h0:Inn H R0 λR=>ROs (aa eI (aa eI (aa eI (aa eI eI)))) H R ⟨au,ak,av⟩ ae) {r:Bool} (hp:cE.p F ae ag=some r):Rt (cE.tw F ⟨au,ak,av⟩ ag H) (cE.Q H R0 R0  r):=by
 obtain ⟨w0,aF⟩:=h0
 subst aJ
 unfold cE.p at hp
 unfold cE.tw cE.twX
 have s0:=w0.rf
 refine aW w0 λH1 w1 s1=>?_
 refine lSl w1 0 ?_
 refine lI w1 0 ?_
 obtain ⟨r2,e2,hp⟩:=ah hp
 refine aM (ca.P rfl ⟨w1,(aF.step s1)⟩ e2) ?_
 rintro _ H3 ⟨o0a_3,o0n_3,o0c_3,o1a_3,o1n_3,o1c_3,rfl,rfl,rfl,w3,s3,f3_0,f3_1⟩
 refine br (br (br (br (br (br (br (br (br ?_))))))))
 refine aW w3 λH4 w4 s4=>?_
 refine aC w4 0 λH5 w5 s5=>?_
 refine aC w5 0 λH6 w6 s6=>?_
 obtain ⟨w7,s7⟩:=w6.pp [] 2
 exact aA hp ⟨rfl,w7,(s0.trans (s1.trans (s3.trans (s4.trans (s5.trans (s6.trans s7)))))),trivial⟩
def aP.Q (H0:Hp) (Ri R0:KO)  (r:La) (v:AV) (H':Hp):Prop:=∃ o0a:ON,∃ o0n:Nat,∃ o0c:Cap,∃ o0k:List AV,v=(.tup [(.sl ⟨o0a,o0n,o0c⟩),(.i r.2)])/\o0n=(r.1).length/\Out H0 Ri H' (Rs.own ⟨o0a,o0n,o0c⟩ eI.z o0k::R0) λR=>CR eI H' R o0k (r.1)
def aP.S29 (H0:Hp) (Ri R0:KO)  (C:Lx) (pC:List (Int×Int×Int×Int×Int)->Int->List Int->Int->Int->Option (List Int×Int)):Prop:=∀ {sq x_ pA jj su sv ya iU ns gR f_ kZ yb},∀ {H:Hp},pA=iU.length->su=kZ.length->(Out H0 Ri H (Rs.blk jj [.sl ⟨sq,pA,sv⟩,.i ns]::Rs.own ⟨x_,su,ya⟩ eI.z yb::R0) λR=>ROs (aa eI (aa eI (aa eI (aa eI eI)))) H R ⟨sq,pA,sv⟩ iU/\CR eI H R yb kZ)->∀ {r:La},pC iU ns kZ gR f_=some r->Rt (C jj 0 ⟨x_,su,ya⟩ ⟨sq,pA,sv⟩ gR f_ H) (aP.Q H0 Ri R0  r)
def aP.pj1 (F:Nat)  (sw:Int) (pB:KS):Option (List Int×Int):=(bS.p F pB).bind λr3=>(cp.p F r3).bind λr8=>some (r3,(wrap .i64 (r8+sw)))
theorem aP.j1_P   {CD CE yc qz yd CF CG CH sw pB CI} (IA:yc=CH.length) (IB:yd=pB.length) (h0:Out H0 Ri H (Rs.blk qz [.sl ⟨CD,yc,CF⟩,.i sw]::Rs.own ⟨CE,yd,CG⟩ eI.z CI::R0) λR=>ROs (aa eI (aa eI (aa eI (aa eI eI)))) H R ⟨CD,yc,CF⟩ CH/\CR eI H R CI pB) {r:La} (hp:aP.pj1 F  sw pB=some r):Rt (aP.j1 F (bQ.tw F) (bj.tw F) (aO.tw F) (bS.tw F) (cp.tw F)  qz 0 ⟨CE,yd,CG⟩ H) (aP.Q H0 Ri R0  r):=by
 obtain ⟨w0,s0,Kf,IC⟩:=h0
 subst IA
 subst IB
 unfold aP.pj1 at hp
 unfold aP.j1
 obtain ⟨w1,s1⟩:=w0.pp [1,0] 2
 have f2:=W.borrow1 eI w1 (IC.step s1)
 obtain ⟨w2,s2⟩:=w1.right1
 obtain ⟨r3,e3,hp⟩:=ah hp
 refine aM (bS.P rfl ⟨w2,f2⟩ e3) ?_
 rintro _ H4 ⟨o0a_4,o0n_4,o0c_4,o0k_4,rfl,rfl,w4,s4,f4_0⟩
 obtain ⟨w5,s5⟩:=W.frame1 w1 w4 s4
 refine br ?_
 obtain ⟨w6,s6⟩:=w5.pp [1,0,2] 3
 have f7:=W.borrow1 eI w6 ((CR.flat (iV .i64) f4_0).step s6)
 obtain ⟨w7,s7⟩:=w6.right1
 obtain ⟨r8,e8,hp⟩:=ah hp
 refine aM (cp.P rfl ⟨w7,f7⟩ e8) ?_
 rintro _ H9 ⟨rfl,w9,s9,_⟩
 obtain ⟨w10,s10⟩:=W.frame1 w6 w9 s9
 refine br ?_
 refine fL (aH.tr (aH.refl _) s6 (W.cons_of (Rn:=[]) w7 w9 s9)) ?_
 refine lI w10 2 ?_
 obtain ⟨w12,s12⟩:=w10.pp [0] 3
 exact aA hp ⟨_,_,_,_,rfl,rfl,w12,(s0.trans (s1.trans (s5.trans (s6.trans (s10.trans s12))))),((CR.flat (iV .i64) f4_0).step (s6.trans (s10.trans s12)))⟩
def aP.pl29 (F:Nat) :Nat->List (Int×Int×Int×Int×Int)->Int->List Int->Int->Int->Option (List Int×Int)
 | 0,_,_,_,_,_=>none
 | k+1,iU,ns,kZ,gR,f_=>(bif (decide (f_<gR)) then ((ix iU f_).bind λn1=>(aO.p F kZ ((gt iU n1).2.1) ((gt iU n1).2.2.2.1)).bind λr9=>aP.pl29 F k iU ns r9 gR (wrap .i64 (f_+1))) else (aP.pj1 F ns kZ))
theorem aP.l29_P  :∀ k,aP.S29 H0 Ri R0  (aP.l29 F (bQ.tw F) (bj.tw F) (aO.tw F) (bS.tw F) (cp.tw F)  k) (aP.pl29 F  k):=by
 intro k
 induction k with
 | zero=>unfold aP.S29;intros;rename_i hp;cases hp
 | succ k ih=>
  intro sq x_ pA jj su sv ya iU ns gR f_ kZ yb H ID IE h0 r hp
  obtain ⟨w0,s0,ye,CJ⟩:=h0
  subst ID
  subst IE
  unfold aP.pl29 at hp
  unfold aP.l29
  refine aB hp (λhp=>?_) λhp=>?_
  ·obtain ⟨n1,g1,hp⟩:=ah hp
   obtain ⟨p1,q1,i1,h1,j1⟩:=ROs.ixr ye rfl g1
   refine aj i1 ?_
   obtain ⟨_,_,rfl,rfl,_,_,rfl,rfl,_,_,rfl,rfl,_,_,rfl,rfl,rfl⟩:=h1
   refine aj (aD (j1 0 _ rfl)) ?_
   refine aj (aD (j1 1 _ rfl)) ?_
   refine aj (aD (j1 2 _ rfl)) ?_
   refine aj (aD (j1 3 _ rfl)) ?_
   refine aj (aD (j1 4 _ rfl)) ?_
   refine aW w0 λH2 w2 s2=>?_
   refine aC w2 0 λH3 w3 s3=>?_
   refine aC w3 0 λH4 w4 s4=>?_
   refine aC w4 0 λH5 w5 s5=>?_
   refine aC w5 0 λH6 w6 s6=>?_
   refine aC w6 0 λH7 w7 s7=>?_
   refine lI w7 0 ?_
   refine lI w7 0 ?_
   obtain ⟨w8,s8⟩:=w7.pp [2,0,1] 3
   obtain ⟨r9,e9,hp⟩:=ah hp
   refine aM (aO.P rfl ⟨w8,(CJ.step (s2.trans (s3.trans (s4.trans (s5.trans (s6.trans (s7.trans s8)))))))⟩ e9) ?_
   rintro _ H10 ⟨Kg,rfl,hl10_0,w10,s10,f10_0⟩
   obtain ⟨w11,s11⟩:=w10.pp [2,0] 3
   exact ih rfl hl10_0 ⟨w11,(s0.trans (s2.trans (s3.trans (s4.trans (s5.trans (s6.trans (s7.trans (s8.trans (s10.trans s11))))))))),(ye.step (s2.trans (s3.trans (s4.trans (s5.trans (s6.trans (s7.trans (s8.trans (s10.trans s11))))))))),(f10_0.step s11)⟩ hp
  ·exact aP.j1_P rfl rfl ⟨w0,s0,ye,CJ⟩ hp
def aP.p (F:Nat) (ae:KT) (ag:Int):Option (List Int×Int):=(bQ.p F ae).bind λr2=>(bj.p F (wrap .i64 (2 * r2))).bind λr4=>aP.pl29 F F ae ag r4 (ae.length:Int) 0
theorem aP.P {au ak av ae ag} (aJ:ak=ae.length) (h0:Inn H R0 λR=>ROs (aa eI (aa eI (aa eI (aa eI eI)))) H R ⟨au,ak,av⟩ ae) {r:La} (hp:aP.p F ae ag=some r):Rt (aP.tw F ⟨au,ak,av⟩ ag H) (aP.Q H R0 R0  r):=by
 obtain ⟨w0,aF⟩:=h0
 subst aJ
 unfold aP.p at hp
 unfold aP.tw aP.twX
 have s0:=w0.rf
 refine aW w0 λH1 w1 s1=>?_
 refine lSl w1 0 ?_
 obtain ⟨r2,e2,hp⟩:=ah hp
 refine aM (bQ.P rfl ⟨w1,(aF.step s1)⟩ e2) ?_
 rintro _ H3 ⟨rfl,w3,s3,_⟩
 refine br ?_
 obtain ⟨r4,e4,hp⟩:=ah hp
 refine aM (bj.P ⟨w3,trivial⟩ e4) ?_
 rintro _ H5 ⟨o0a_5,o0n_5,o0c_5,o0k_5,rfl,rfl,w5,s5,f5_0⟩
 refine br ?_
 refine lSl w5 1 ?_
 obtain ⟨w6,s6⟩:=w5.pp [1,0] 2
 exact aP.l29_P F rfl rfl ⟨w6,(s0.trans (s1.trans (s3.trans (s5.trans s6)))),(aF.step (s1.trans (s3.trans (s5.trans s6)))),(f5_0.step s6)⟩ hp
def bk.Q (H0:Hp) (Ri R0:KO)  (r:KV) (v:AV) (H':Hp):Prop:=∃ o0a:ON,∃ o0n:Nat,∃ o0c:Cap,∃ o0k:List AV,v=(.sl ⟨o0a,o0n,o0c⟩)/\o0n=(r).length/\Out H0 Ri H' (Rs.own ⟨o0a,o0n,o0c⟩ (eSl eI).z o0k::R0) λR=>CR (eSl eI) H' R o0k (r)
def bk.S61 (H0:Hp) (Ri R0:KO)  (C:Sl->Sl->Sl->Int->Int->Hp->OA) (pC:List Int->List (List Int)->List (Int×Int×Int×Int×Int)->Int->Int->Option (List (List Int))):Prop:=∀ {kC yf yg iO sx sB kD yh yi ck kE yj k_ eK de ga},∀ {H:Hp},iO=ck.length->sx=k_.length->sB=eK.length->(Out H0 Ri H (Rs.own ⟨kC,iO,kD⟩ eI.z kE::Rs.own ⟨yf,sx,yh⟩ (eSl eI).z yj::R0) λR=>CR eI H R kE ck/\CR (eSl eI) H R yj k_/\ROs (aa eI (aa eI (aa eI (aa eI eI)))) H R ⟨yg,sB,yi⟩ eK)->∀ {r:KV},pC ck k_ eK de ga=some r->Rt (C ⟨kC,iO,kD⟩ ⟨yf,sx,yh⟩ ⟨yg,sB,yi⟩ de ga H) (bk.Q H0 Ri R0  r)
def bk.pl61 (F:Nat) :Nat->List Int->List (List Int)->List (Int×Int×Int×Int×Int)->Int->Int->Option (List (List Int))
 | 0,_,_,_,_,_=>none
 | k+1,ck,k_,eK,de,ga=>(bif (decide (ga<de)) then ((ix eK ga).bind λn1=>(ix ck ((gt eK n1).1)).bind λn8=>(ix ck ((gt eK n1).2.2.1)).bind λn9=>(ix ck ((gt eK n1).2.1)).bind λn10=>(apn k_ ([([(wrap .i64 ((gt ck n9)+1)),(wrap .i64 (((gt eK n1).2.2.2.2) * (wrap .i64 ((gt ck n10)+1)))),(wrap .i64 (0 - (wrap .i64 ((gt ck n8)+1)))),(wrap .i64 ((wrap .i64 (0 - ((gt eK n1).2.2.2.2))) * (wrap .i64 ((gt ck n10)+1))))]:List Int)]:List (List Int))).bind λl14=>bk.pl61 F k ck l14 eK de (wrap .i64 (ga+1))) else (some k_))
theorem bk.l61_P  :∀ k,bk.S61 H0 Ri R0  (bk.l61 F (aP.tw F)  k) (bk.pl61 F  k):=by
 intro k
 induction k with
 | zero=>unfold bk.S61;intros;rename_i hp;cases hp
 | succ k ih=>
  intro kC yf yg iO sx sB kD yh yi ck kE yj k_ eK de ga H vP IF IG h0 r hp
  obtain ⟨w0,s0,jq,CK,CL⟩:=h0
  subst vP
  subst IF
  subst IG
  unfold bk.pl61 at hp
  unfold bk.l61
  refine aB hp (λhp=>?_) λhp=>?_
  ·obtain ⟨n1,g1,hp⟩:=ah hp
   obtain ⟨p1,q1,i1,h1,j1⟩:=ROs.ixr CL rfl g1
   refine aj i1 ?_
   obtain ⟨_,_,rfl,rfl,_,_,rfl,rfl,_,_,rfl,rfl,_,_,rfl,rfl,rfl⟩:=h1
   refine aj (aD (j1 0 _ rfl)) ?_
   refine aj (aD (j1 1 _ rfl)) ?_
   refine aj (aD (j1 2 _ rfl)) ?_
   refine aj (aD (j1 3 _ rfl)) ?_
   refine aj (aD (j1 4 _ rfl)) ?_
   refine aW w0 λH2 w2 s2=>?_
   refine aC w2 0 λH3 w3 s3=>?_
   refine aC w3 0 λH4 w4 s4=>?_
   refine aC w4 0 λH5 w5 s5=>?_
   refine aC w5 0 λH6 w6 s6=>?_
   refine aC w6 0 λH7 w7 s7=>?_
   refine lI w7 0 ?_
   obtain ⟨n8,g8,hp⟩:=ah hp
   obtain ⟨p8,q8,i8,h8,j8⟩:=W.ixo (E:=eI) w7 (i:=1) rfl rfl (jq.step (s2.trans (s3.trans (s4.trans (s5.trans (s6.trans s7)))))) g8
   refine aj i8 ?_
   have h8:_=[_]:=h8
   subst h8
   refine aj (aD (j8 0 _ rfl)) ?_
   refine lI w7 0 ?_
   obtain ⟨n9,g9,hp⟩:=ah hp
   obtain ⟨p9,q9,i9,h9,j9⟩:=W.ixo (E:=eI) w7 (i:=1) rfl rfl (jq.step (s2.trans (s3.trans (s4.trans (s5.trans (s6.trans s7)))))) g9
   refine aj i9 ?_
   have h9:_=[_]:=h9
   subst h9
   refine aj (aD (j9 0 _ rfl)) ?_
   refine lI w7 0 ?_
   obtain ⟨n10,g10,hp⟩:=ah hp
   obtain ⟨p10,q10,i10,h10,j10⟩:=W.ixo (E:=eI) w7 (i:=1) rfl rfl (jq.step (s2.trans (s3.trans (s4.trans (s5.trans (s6.trans s7)))))) g10
   refine aj i10 ?_
   have h10:_=[_]:=h10
   subst h10
   refine aj (aD (j10 0 _ rfl)) ?_
   refine lI w7 0 ?_
   refine lI w7 0 ?_
   refine dj eI w7 (n:=4) (l:=([(wrap .i64 ((gt ck n9)+1)),(wrap .i64 (((gt eK n1).2.2.2.2) * (wrap .i64 ((gt ck n10)+1)))),(wrap .i64 (0 - (wrap .i64 ((gt ck n8)+1)))),(wrap .i64 ((wrap .i64 (0 - ((gt eK n1).2.2.2.2))) * (wrap .i64 ((gt ck n10)+1))))]:List Int)) rfl (CR.cons1 rfl (CR.cons1 rfl (CR.cons1 rfl (CR.cons1 rfl CR.empty)))) rfl λH11 w11 s11 c11=>?_
   obtain ⟨w12,s12,f12⟩:=w11.frz (i:=0) eI rfl c11
   refine dj (eSl eI) w12 (n:=1) (l:=([([(wrap .i64 ((gt ck n9)+1)),(wrap .i64 (((gt eK n1).2.2.2.2) * (wrap .i64 ((gt ck n10)+1)))),(wrap .i64 (0 - (wrap .i64 ((gt ck n8)+1)))),(wrap .i64 ((wrap .i64 (0 - ((gt eK n1).2.2.2.2))) * (wrap .i64 ((gt ck n10)+1))))]:List Int)]:List (List Int))) rfl (CR.cons1 ⟨_,rfl,f12⟩ CR.empty) rfl λH13 w13 s13 c13=>?_
   refine aj (w13.rowo (i:=0) rfl) ?_
   obtain ⟨l14,e14,hp⟩:=ah hp
   refine gg (eSl eI) w13 (i:=3) rfl rfl (CK.step (s2.trans (s3.trans (s4.trans (s5.trans (s6.trans (s7.trans (s11.trans (s12.trans s13))))))))) c13 (show 1=List.length ([([(wrap .i64 ((gt ck n9)+1)),(wrap .i64 (((gt eK n1).2.2.2.2) * (wrap .i64 ((gt ck n10)+1)))),(wrap .i64 (0 - (wrap .i64 ((gt ck n8)+1)))),(wrap .i64 ((wrap .i64 (0 - ((gt eK n1).2.2.2.2))) * (wrap .i64 ((gt ck n10)+1))))]:List Int)]:List (List Int)) from rfl) rfl e14 λa15 d15 H15 w15 s15 c15 x15=>?_
   obtain ⟨w16,s16⟩:=w15.pp [2,3] 4
   exact ih rfl rfl rfl ⟨w16,(s0.trans (s2.trans (s3.trans (s4.trans (s5.trans (s6.trans (s7.trans (s11.trans (s12.trans (s13.trans (s15.trans s16))))))))))),(jq.step (s2.trans (s3.trans (s4.trans (s5.trans (s6.trans (s7.trans (s11.trans (s12.trans (s13.trans (s15.trans s16))))))))))),(c15.step s16),(CL.step (s2.trans (s3.trans (s4.trans (s5.trans (s6.trans (s7.trans (s11.trans (s12.trans (s13.trans (s15.trans s16)))))))))))⟩ hp
  ·obtain ⟨w17,s17⟩:=w0.pp [1] 2
   exact aA hp ⟨_,_,_,_,rfl,rfl,w17,(s0.trans s17),(CK.step s17)⟩
def bk.p (F:Nat) (ae:KT) (ag:Int):Option (List (List Int)):=(aP.p F ae ag).bind λr2=>bk.pl61 F F r2.1 ([]:List (List Int)) ae (ae.length:Int) 0
theorem bk.P {au ak av ae ag} (aJ:ak=ae.length) (h0:Inn H R0 λR=>ROs (aa eI (aa eI (aa eI (aa eI eI)))) H R ⟨au,ak,av⟩ ae) {r:KV} (hp:bk.p F ae ag=some r):Rt (bk.tw F ⟨au,ak,av⟩ ag H) (bk.Q H R0 R0  r):=by
 obtain ⟨w0,aF⟩:=h0
 subst aJ
 unfold bk.p at hp
 unfold bk.tw bk.twX
 have s0:=w0.rf
 refine aW w0 λH1 w1 s1=>?_
 refine lSl w1 0 ?_
 refine lI w1 0 ?_
 obtain ⟨r2,e2,hp⟩:=ah hp
 refine aM (aP.P rfl ⟨w1,(aF.step s1)⟩ e2) ?_
 rintro _ H3 ⟨o0a_3,o0n_3,o0c_3,o0k_3,rfl,rfl,w3,s3,f3_0⟩
 refine br (br (br (br (br ?_))))
 refine lSl w3 1 ?_
 obtain ⟨w4,s4⟩:=w3.nilS (eSl eI).z (by decide)
 obtain ⟨w5,s5⟩:=w4.pp [1,0] 3
 exact bk.l61_P F rfl rfl rfl ⟨w5,(s0.trans (s1.trans (s3.trans (s4.trans s5)))),(f3_0.step (s4.trans s5)),((CR.empty:CR (eSl eI) _ _ [] []).step s5),(aF.step (s1.trans (s3.trans (s4.trans s5))))⟩ hp
def bH.Q (H0:Hp) (Ri R0:KO)  (r:KS) (v:AV) (H':Hp):Prop:=∃ o0a:ON,∃ o0n:Nat,∃ o0p:List AV,∃ o0r:List AV,∃ o0c:Cap,∃ o0k:List AV,v=(.sl ⟨o0a,o0n,o0c⟩)/\o0n=(r).length/\Out H0 Ri H' (Rs.ow false ⟨o0a,o0n,o0c⟩ eI.z o0p o0k o0r::R0) λR=>CR eI H' R o0k (r)
theorem bH.red_l {F:Nat} {H0:Hp} {R:KO} {w:Sl} {lw:KS} (f:ROs eI H0 R w lw) (hwn:w.n=lw.length) (hw:lw.length<=4294967296):∀ (m k i:Nat) (H:Hp) (s:Sl) (l:KS),lw.length - i=m->m<k->i<=lw.length->l.length<=i->RM H0 R H s l ->
  ∃ v H',bH.l29 F k s w (lw.length:Int) (i:Int) H=some (v,H')/\∃ s',v=.sl s'/\RM H0 R H' s' (fC l (lw.drop i)):=by
 intro m
 induction m with
 | zero=>
  intro k i H s l hm hk hi hl h
  obtain ⟨k,rfl⟩:∃ k',k=k'+1:=⟨k - 1,by omega⟩
  rw [bH.l29,decide_eq_false (by omega),cond_false,List.drop_eq_nil_of_le (by omega)]
  exact ⟨_,_,rfl,s,rfl,h⟩
 | succ m ih=>
  intro k i H s l hm hk hi hl h
  obtain ⟨k,rfl⟩:∃ k',k=k'+1:=⟨k - 1,by omega⟩
  have hi':i<lw.length:=by omega
  obtain ⟨R',f'⟩:=h.ro f
  obtain ⟨p,cs,e1,e2,e3⟩:=ROs.ixr (z:=1) f' rfl (show ix lw (i:Int)=some i by unfold ix;rw [if_pos ⟨by omega,by omega⟩];rfl)
  have e2:cs=[.i (gt lw i)]:=e2
  subst e2
  have hx:H.ldI .i64 p.1 p.2=some (gt lw i):=aD (e3 0 _ rfl)
  have hg:gt lw i=lw[i]:=by unfold gt;simp [hi']
  have hd:lw.drop i=gt lw i::lw.drop (i+1):=by rw [hg];exact List.drop_eq_getElem_cons hi'
  have hwr:wrap .i64 ((i:Int)+1)=((i+1:Nat):Int):=by rw [cb (by omega) (by omega)];omega
  have hsn:=h.n
  rw [bH.l29,decide_eq_true (by omega),cond_true]
  unfold bH.j2
  simp only [e1,Option.bind_some,hx,hwr]
  rw [hd]
  by_cases h0:l=[]
  ·rw [decide_eq_false (by rw [hsn,h0];simp),cond_false]
   refine h.app (gt lw i) (by omega) λs' H' h'=>?_
   obtain ⟨v,H2,q1,q2⟩:=ih k (i+1) H' s' (l++[gt lw i]) (by omega) (by omega) (by omega) (by simp;omega) h'
   refine ⟨v,H2,q1,?_⟩
   rw [fC,if_neg (by rw [h0];simp)];exact q2
  ·obtain ⟨p',g1,g2,s',g3,g4⟩:=h.last (by omega) (List.dropLast_concat_getLast h0).symm
   rw [decide_eq_true (by have:=List.length_pos_iff.2 h0;omega),cond_true]
   simp only [g1,Option.bind_some,g2,g3]
   have hgl:l.getLast?=some (l.getLast h0):=List.getLast?_eq_some_getLast h0
   by_cases hc:l.getLast h0=wrap .i64 (0 - gt lw i)
   ·rw [beq_iff_eq.2 hc,cond_true]
    obtain ⟨v,H2,q1,q2⟩:=ih k (i+1) H s' l.dropLast (by omega) (by omega) (by omega) (by rw [List.length_dropLast];omega) g4
    refine ⟨v,H2,q1,?_⟩
    rw [fC,if_pos (by rw [hgl,hc])];exact q2
   ·rw [beq_eq_false_iff_ne.2 hc,cond_false]
    refine h.app (gt lw i) (by omega) λs' H' h'=>?_
    obtain ⟨v,H2,q1,q2⟩:=ih k (i+1) H' s' (l++[gt lw i]) (by omega) (by omega) (by omega) (by simp;omega) h'
    refine ⟨v,H2,q1,?_⟩
    rw [fC,if_neg (by rw [hgl];intro q;exact hc (Option.some.inj q))];exact q2
def bH.p (F:Nat) (ae:KS):Option (List Int):=(if ae.length<F/\ae.length<=4294967296 then some (fC [] ae) else none)
theorem bH.P {au ak av ae} (aJ:ak=ae.length) (h0:Inn H R0 λR=>ROs eI H R ⟨au,ak,av⟩ ae) {r:KS} (hp:bH.p F ae=some r):Rt (bH.tw F ⟨au,ak,av⟩ H) (bH.Q H R0 R0  r):=by
 obtain ⟨w0,f0⟩:=h0
 subst aJ
 unfold bH.p at hp
 unfold bH.tw bH.twX
 obtain ⟨⟨hF,hc⟩,hp⟩:=dB hp
 obtain rfl:=Option.some.inj hp
 have h1:RM H R0 H (⟨none,0,.ex 0⟩:Sl) []:=⟨rfl,.inl ⟨rfl,rfl,w0,w0.rf⟩⟩
 obtain ⟨v,H2,e,s',rfl,h2⟩:=bH.red_l (F:=F) f0 rfl hc ae.length F 0 _ _ [] (by omega) (by omega) (by omega) (by simp) h1
 obtain ⟨a,c,p,k,r,rfl,w3,fr,cr⟩:=h2.out
 exact ⟨_,_,e,_,_,_,_,_,_,rfl,rfl,w3,fr,cr⟩
def ba.Q (H0:Hp) (Ri R0:KO)  (r:Lw) (v:AV) (H':Hp):Prop:=∃ o1a:ON,∃ o1n:Nat,∃ o1c:Cap,∃ o1k:List AV,∃ o1m:List Ow,v=(.tup [(.agg [(.i r.1),(.sl ⟨o1a,o1n,o1c⟩)]),(.i r.2.2)])/\o1n=(r.2.1).length/\Out H0 Ri H' (Rs.own ⟨o1a,o1n,o1c⟩ (eSl eI).z o1k::Rs.many o1m::R0) λR=>OL (oSl (cZ eI)) o1m o1k (r.2.1)
def ba.S125 (H0:Hp) (Ri R0:KO)  (C:LC) (pC:Int->List (List Int)->List (List Int)->Int->Int->Option (Int×List (List Int)×Int)):Prop:=∀ {pd gf gS gb kF kG yk iQ du iS bR sC kH kI yl kJ fz jA kK kL ym yn yo},∀ {H:Hp},iQ=kJ.length->iS=fz.length->sC=jA.length->(Out H0 Ri H (Rs.own ⟨kF,iQ,kH⟩ (eSl eI).z kK::Rs.many yn::Rs.blk du [.i pd,.sl ⟨kF,iQ,kH⟩]::Rs.own ⟨kG,iS,kI⟩ (eSl eI).z kL::Rs.many yo::Rs.blk bR [.i gf,.sl ⟨kG,iS,kI⟩]::Rs.own ⟨yk,sC,yl⟩ (eSl eI).z ym::R0) λR=>OL (oSl (cZ eI)) yn kK kJ/\OL (oSl (cZ eI)) yo kL fz/\CR (eSl eI) H R ym jA)->∀ {r:Lw},pC gf fz jA gS gb=some r->Rt (C du 0 bR 0 ⟨yk,sC,yl⟩ gS gb H) (ba.Q H0 Ri R0  r)
def ba.pl125 (F:Nat) :Nat->Int->List (List Int)->List (List Int)->Int->Int->Option (Int×List (List Int)×Int)
 | 0,_,_,_,_,_=>none
 | k+1,gf,fz,jA,gS,gb=>(bif (decide (gb<gS)) then ((ix jA gb).bind λn1=>(bH.p F (gt jA n1)).bind λr2=>(apn fz ([r2]:List (List Int))).bind λl9=>ba.pl125 F k gf l9 jA gS (wrap .i64 (gb+1))) else (some (gf,fz,0)))
theorem ba.l125_P  :∀ k,ba.S125 H0 Ri R0  (ba.l125 F (cE.tw F) (aP.tw F) (bk.tw F) (bH.tw F)  k) (ba.pl125 F  k):=by
 intro k
 induction k with
 | zero=>unfold ba.S125;intros;rename_i hp;cases hp
 | succ k ih=>
  intro pd gf gS gb kF kG yk iQ du iS bR sC kH kI yl kJ fz jA kK kL ym yn yo H vU vV IH h0 r hp
  obtain ⟨w0,s0,vW,pe,CM⟩:=h0
  subst vU
  subst vV
  subst IH
  unfold ba.pl125 at hp
  unfold ba.l125
  refine aB hp (λhp=>?_) λhp=>?_
  ·obtain ⟨n1,g1,hp⟩:=ah hp
   obtain ⟨p1,q1,i1,h1,j1⟩:=W.ixo (E:=(eSl eI)) w0 (i:=6) rfl rfl CM g1
   refine aj i1 ?_
   obtain ⟨⟨vX,m1_0,c1_0⟩,rfl,f1_0⟩:=h1
   obtain rfl:m1_0=_:=f1_0.n
   refine aj (lg (j1 0 _ rfl)) ?_
   refine lSl w0 5 ?_
   obtain ⟨r2,e2,hp⟩:=ah hp
   refine aM (bH.P rfl ⟨w0,f1_0⟩ e2) ?_
   rintro _ H3 ⟨o0a_3,o0n_3,o0p_3,o0r_3,o0c_3,o0k_3,rfl,rfl,w3,s3,f3_0⟩
   refine br ?_
   refine fL (W.cons_of (Rn:=[_]) w0 w3 s3) ?_
   obtain ⟨w5,s5,g5⟩:=w3.p1o (iV .i64) f3_0
   have f6:=OL.one (o:=(oSl (cZ eI))) (x:=r2) g5
   refine IT (oSl (cZ eI)) w5 (n:=1) (l:=([r2]:List (List Int))) rfl f6 rfl λH6 w6 s6=>?_
   refine aj (w6.rowo (i:=0) rfl) ?_
   obtain ⟨w7,s7⟩:=w6.pp [6,1,0,2,3,4,5,7,8] 9
   dsimp only [pk,pks,nth,List.drop,List.set,List.eraseIdx] at w7 s7
   obtain ⟨w8,s8⟩:=w7.jM
   obtain ⟨l9,e9,hp⟩:=ah hp
   refine IU (oSl (cZ eI)) w8 (i:=5) rfl rfl pe f6 (show 1=List.length ([r2]:List (List Int)) from rfl) rfl e9 λa10 d10 H10 w10 s10 f10 x10=>?_
   refine aC w10 6 λH11 w11 s11=>?_
   obtain ⟨w12,s12⟩:=w11.pp [2,3,4,5,0,6,7] 8
   exact ih rfl rfl rfl ⟨w12,(s0.trans (s3.trans (s5.trans (s6.trans (s7.trans (s8.trans (s10.trans (s11.trans s12)))))))),vW,f10,(CM.step (s3.trans (s5.trans (s6.trans (s7.trans (s8.trans (s10.trans (s11.trans s12))))))))⟩ hp
  ·refine lI w0 5 ?_
   refine lSl w0 5 ?_
   refine aC w0 2 λH13 w13 s13=>?_
   refine aC w13 2 λH14 w14 s14=>?_
   refine lI w14 2 ?_
   refine lSl w14 2 ?_
   obtain ⟨w15,s15⟩:=w14.pp [3,4] 7
   exact aA hp ⟨_,_,_,_,_,rfl,rfl,w15,(s0.trans (s13.trans (s14.trans s15))),pe⟩
def ba.p (F:Nat) (ae:KT) (ag:Int):Option (Int×List (List Int)×Int):=(cE.p F ae ag).bind λr3=>(bif (!r3) then (some (0,([]:List (List Int)),1)) else ((aP.p F ae ag).bind λr10=>(bk.p F ae ag).bind λr15=>ba.pl125 F F r10.2 ([]:List (List Int)) r15 (r15.length:Int) 0))
theorem ba.P {au ak av ae ag} (aJ:ak=ae.length) (h0:Inn H R0 λR=>ROs (aa eI (aa eI (aa eI (aa eI eI)))) H R ⟨au,ak,av⟩ ae) {r:Lw} (hp:ba.p F ae ag=some r):Rt (ba.tw F ⟨au,ak,av⟩ ag H) (ba.Q H R0 R0  r):=by
 obtain ⟨w0,aF⟩:=h0
 subst aJ
 unfold ba.p at hp
 unfold ba.tw ba.twX
 have s0:=w0.rf
 refine aW w0 λH1 w1 s1=>?_
 refine aW w1 λH2 w2 s2=>?_
 refine lSl w2 1 ?_
 refine lI w2 1 ?_
 obtain ⟨r3,e3,hp⟩:=ah hp
 refine aM (cE.P rfl ⟨w2,(aF.step (s1.trans s2))⟩ e3) ?_
 rintro _ H4 ⟨rfl,w4,s4,_⟩
 refine br ?_
 refine aB hp (λhp=>?_) λhp=>?_
 ·refine aC w4 0 λH5 w5 s5=>?_
  refine aC w5 0 λH6 w6 s6=>?_
  refine lI w6 0 ?_
  refine lSl w6 0 ?_
  obtain ⟨w7,s7⟩:=w6.nilS (eSl eI).z (by decide)
  obtain ⟨w8,s8⟩:=w7.nM
  obtain ⟨w9,s9⟩:=w8.pp [1,0] 4
  exact aA hp ⟨_,_,_,_,_,rfl,rfl,w9,(s0.trans (s1.trans (s2.trans (s4.trans (s5.trans (s6.trans (s7.trans (s8.trans s9)))))))),(OL.nil:OL (oSl (cZ eI)) [] [] [])⟩
 ·refine lSl w4 1 ?_
  refine lI w4 1 ?_
  obtain ⟨r10,e10,hp⟩:=ah hp
  refine aM (aP.P rfl ⟨w4,(aF.step (s1.trans (s2.trans s4)))⟩ e10) ?_
  rintro _ H11 ⟨o0a_11,o0n_11,o0c_11,o0k_11,rfl,rfl,w11,s11,f11_0⟩
  refine br (br (br (br (br ?_))))
  refine aW w11 λH12 w12 s12=>?_
  refine aC w12 0 λH13 w13 s13=>?_
  refine aC w13 0 λH14 w14 s14=>?_
  refine lSl w14 3 ?_
  refine lI w14 3 ?_
  obtain ⟨r15,e15,hp⟩:=ah hp
  refine aM (bk.P rfl ⟨w14,(aF.step (s1.trans (s2.trans (s4.trans (s11.trans (s12.trans (s13.trans s14)))))))⟩ e15) ?_
  rintro _ H16 ⟨o0a_16,o0n_16,o0c_16,o0k_16,rfl,rfl,w16,s16,f16_0⟩
  refine br ?_
  obtain ⟨w17,s17⟩:=w16.nilS (eSl eI).z (by decide)
  obtain ⟨w18,s18⟩:=w17.nM
  obtain ⟨w19,s19⟩:=w18.nilS (eSl eI).z (by decide)
  obtain ⟨w20,s20⟩:=w19.nM
  obtain ⟨w21,s21⟩:=w20.pp [3,2,7,1,0,5,4] 9
  exact ba.l125_P F rfl rfl rfl ⟨w21,(s0.trans (s1.trans (s2.trans (s4.trans (s11.trans (s12.trans (s13.trans (s14.trans (s16.trans (s17.trans (s18.trans (s19.trans (s20.trans s21))))))))))))),(OL.nil:OL (oSl (cZ eI)) [] [] []),(OL.nil:OL (oSl (cZ eI)) [] [] []),(f16_0.step (s17.trans (s18.trans (s19.trans (s20.trans s21)))))⟩ hp
def bv.Q (H0:Hp) (Ri R0:KO)  (r:Bool) (v:AV) (H':Hp):Prop:=v=(.bool r)/\Out H0 Ri H' (R0) λR=>True
def bv.S29 (H0:Hp) (Ri R0:KO)  (C:Ly) (pC:List Int->List Int->Int->Option (Bool)):Prop:=∀ {dv h_ cG fK dw ia aL cD bD},∀ {H:Hp},cG=aL.length->fK=cD.length->(Out H0 Ri H R0 λR=>ROs eI H R ⟨dv,cG,dw⟩ aL/\ROs eI H R ⟨h_,fK,ia⟩ cD)->∀ {r:Bool},pC aL cD bD=some r->Rt (C ⟨dv,cG,dw⟩ ⟨h_,fK,ia⟩ bD H) (bv.Q H0 Ri R0  r)
def bv.pl29 (F:Nat) :Nat->List Int->List Int->Int->Option (Bool)
 | 0,_,_,_=>none
 | k+1,aL,cD,bD=>(bif (decide (bD<(aL.length:Int))) then ((ix aL bD).bind λn1=>(ix cD bD).bind λn2=>(bif ((gt aL n1) != (gt cD n2)) then (some false) else (bv.pl29 F k aL cD (wrap .i64 (bD+1))))) else (some true))
theorem bv.l29_P  :∀ k,bv.S29 H0 Ri R0  (bv.l29 F   k) (bv.pl29 F  k):=by
 intro k
 induction k with
 | zero=>unfold bv.S29;intros;rename_i hp;cases hp
 | succ k ih=>
  intro dv h_ cG fK dw ia aL cD bD H fx pD h0 r hp
  obtain ⟨w0,s0,dh,jB⟩:=h0
  subst fx
  subst pD
  unfold bv.pl29 at hp
  unfold bv.l29
  refine aB hp (λhp=>?_) λhp=>?_
  ·obtain ⟨n1,g1,hp⟩:=ah hp
   obtain ⟨p1,q1,i1,h1,j1⟩:=ROs.ixr dh rfl g1
   refine aj i1 ?_
   have h1:_=[_]:=h1
   subst h1
   refine aj (aD (j1 0 _ rfl)) ?_
   obtain ⟨n2,g2,hp⟩:=ah hp
   obtain ⟨p2,q2,i2,h2,j2⟩:=ROs.ixr jB rfl g2
   refine aj i2 ?_
   have h2:_=[_]:=h2
   subst h2
   refine aj (aD (j2 0 _ rfl)) ?_
   refine aB hp (λhp=>?_) λhp=>?_
   ·exact aA hp ⟨rfl,w0,s0,trivial⟩
   ·exact ih rfl rfl ⟨w0,s0,dh,jB⟩ hp
  ·exact aA hp ⟨rfl,w0,s0,trivial⟩
def bv.p (F:Nat) (ae:KS) (dQ:KS):Option (Bool):=(bif ((ae.length:Int) != (dQ.length:Int)) then (some false) else (bv.pl29 F F ae dQ 0))
theorem bv.P {au jC ak ib av jD ae dQ} (aJ:ak=ae.length) (pE:ib=dQ.length) (h0:Inn H R0 λR=>ROs eI H R ⟨au,ak,av⟩ ae/\ROs eI H R ⟨jC,ib,jD⟩ dQ) {r:Bool} (hp:bv.p F ae dQ=some r):Rt (bv.tw F ⟨au,ak,av⟩ ⟨jC,ib,jD⟩ H) (bv.Q H R0 R0  r):=by
 obtain ⟨w0,aF,pF⟩:=h0
 subst aJ
 subst pE
 unfold bv.p at hp
 unfold bv.tw bv.twX
 have s0:=w0.rf
 refine aB hp (λhp=>?_) λhp=>?_
 ·exact aA hp ⟨rfl,w0,s0,trivial⟩
 ·exact bv.l29_P F rfl rfl ⟨w0,s0,aF,pF⟩ hp
def bh.Q (H0:Hp) (Ri R0:KO)  (r:Bool) (v:AV) (H':Hp):Prop:=v=(.bool r)/\Out H0 Ri H' (R0) λR=>True
def bh.S29 (H0:Hp) (Ri R0:KO)  (C:Ly) (pC:List (List Int)->List (List Int)->Int->Option (Bool)):Prop:=∀ {dv h_ cG fK dw ia aL cD bD},∀ {H:Hp},cG=aL.length->fK=cD.length->(Out H0 Ri H R0 λR=>ROs (eSl eI) H R ⟨dv,cG,dw⟩ aL/\ROs (eSl eI) H R ⟨h_,fK,ia⟩ cD)->∀ {r:Bool},pC aL cD bD=some r->Rt (C ⟨dv,cG,dw⟩ ⟨h_,fK,ia⟩ bD H) (bh.Q H0 Ri R0  r)
def bh.pl29 (F:Nat) :Nat->List (List Int)->List (List Int)->Int->Option (Bool)
 | 0,_,_,_=>none
 | k+1,aL,cD,bD=>(bif (decide (bD<(aL.length:Int))) then ((ix aL bD).bind λn1=>(ix cD bD).bind λn2=>(bv.p F (gt aL n1) (gt cD n2)).bind λr3=>(bif (!r3) then (some false) else (bh.pl29 F k aL cD (wrap .i64 (bD+1))))) else (some true))
theorem bh.l29_P  :∀ k,bh.S29 H0 Ri R0  (bh.l29 F (bv.tw F)  k) (bh.pl29 F  k):=by
 intro k
 induction k with
 | zero=>unfold bh.S29;intros;rename_i hp;cases hp
 | succ k ih=>
  intro dv h_ cG fK dw ia aL cD bD H fx pD h0 r hp
  obtain ⟨w0,s0,dh,jB⟩:=h0
  subst fx
  subst pD
  unfold bh.pl29 at hp
  unfold bh.l29
  refine aB hp (λhp=>?_) λhp=>?_
  ·obtain ⟨n1,g1,hp⟩:=ah hp
   obtain ⟨p1,q1,i1,h1,j1⟩:=ROs.ixr dh rfl g1
   refine aj i1 ?_
   obtain ⟨⟨vX,m1_0,c1_0⟩,rfl,f1_0⟩:=h1
   obtain rfl:m1_0=_:=f1_0.n
   refine aj (lg (j1 0 _ rfl)) ?_
   obtain ⟨n2,g2,hp⟩:=ah hp
   obtain ⟨p2,q2,i2,h2,j2⟩:=ROs.ixr jB rfl g2
   refine aj i2 ?_
   obtain ⟨⟨Kh,m2_0,c2_0⟩,rfl,f2_0⟩:=h2
   obtain rfl:m2_0=_:=f2_0.n
   refine aj (lg (j2 0 _ rfl)) ?_
   obtain ⟨r3,e3,hp⟩:=ah hp
   refine aM (bv.P rfl rfl ⟨w0,f1_0,f2_0⟩ e3) ?_
   rintro _ H4 ⟨rfl,w4,s4,_⟩
   refine br ?_
   refine aB hp (λhp=>?_) λhp=>?_
   ·exact aA hp ⟨rfl,w4,(s0.trans s4),trivial⟩
   ·exact ih rfl rfl ⟨w4,(s0.trans s4),(dh.step s4),(jB.step s4)⟩ hp
  ·exact aA hp ⟨rfl,w0,s0,trivial⟩
def bh.p (F:Nat) (ae:KV) (dQ:KV):Option (Bool):=(bif ((ae.length:Int) != (dQ.length:Int)) then (some false) else (bh.pl29 F F ae dQ 0))
theorem bh.P {au jC ak ib av jD ae dQ} (aJ:ak=ae.length) (pE:ib=dQ.length) (h0:Inn H R0 λR=>ROs (eSl eI) H R ⟨au,ak,av⟩ ae/\ROs (eSl eI) H R ⟨jC,ib,jD⟩ dQ) {r:Bool} (hp:bh.p F ae dQ=some r):Rt (bh.tw F ⟨au,ak,av⟩ ⟨jC,ib,jD⟩ H) (bh.Q H R0 R0  r):=by
 obtain ⟨w0,aF,pF⟩:=h0
 subst aJ
 subst pE
 unfold bh.p at hp
 unfold bh.tw bh.twX
 have s0:=w0.rf
 refine aB hp (λhp=>?_) λhp=>?_
 ·exact aA hp ⟨rfl,w0,s0,trivial⟩
 ·exact bh.l29_P F rfl rfl ⟨w0,s0,aF,pF⟩ hp
def cF.Q (H0:Hp) (Ri R0:KO)  (r:Bool) (v:AV) (H':Hp):Prop:=v=(.bool r)/\Out H0 Ri H' (R0) λR=>True
def cF.p (F:Nat) (ac:Int) (eX:KV) (ay:Int) (di:KV):Option (Bool):=(bif (ac != ay) then (some false) else ((bh.p F eX di).bind λr4=>(bif (!r4) then (some false) else (some true))))
theorem cF.P {ac ay gv hU fb fB gw hZ eX di} (pG:fb=eX.length) (kQ:fB=di.length) (h0:Inn H R0 λR=>ROs (eSl eI) H R ⟨gv,fb,gw⟩ eX/\ROs (eSl eI) H R ⟨hU,fB,hZ⟩ di) {r:Bool} (hp:cF.p F ac eX ay di=some r):Rt (cF.tw F ac ⟨gv,fb,gw⟩ ay ⟨hU,fB,hZ⟩ H) (cF.Q H R0 R0  r):=by
 obtain ⟨w0,pH,kS⟩:=h0
 subst pG
 subst kQ
 unfold cF.p at hp
 unfold cF.tw cF.twX
 have s0:=w0.rf
 refine aW w0 λH1 w1 s1=>?_
 refine aW w1 λH2 w2 s2=>?_
 refine lI w2 1 ?_
 refine lI w2 0 ?_
 refine aB hp (λhp=>?_) λhp=>?_
 ·obtain ⟨w3,s3⟩:=w2.pp [] 2
  exact aA hp ⟨rfl,w3,(s0.trans (s1.trans (s2.trans s3))),trivial⟩
 ·refine lSl w2 1 ?_
  refine lSl w2 0 ?_
  obtain ⟨r4,e4,hp⟩:=ah hp
  refine aM (bh.P rfl rfl ⟨w2,(pH.step (s1.trans s2)),(kS.step (s1.trans s2))⟩ e4) ?_
  rintro _ H5 ⟨rfl,w5,s5,_⟩
  refine br ?_
  refine aB hp (λhp=>?_) λhp=>?_
  ·obtain ⟨w6,s6⟩:=w5.pp [] 2
   exact aA hp ⟨rfl,w6,(s0.trans (s1.trans (s2.trans (s5.trans s6)))),trivial⟩
  ·obtain ⟨w7,s7⟩:=w5.pp [] 2
   exact aA hp ⟨rfl,w7,(s0.trans (s1.trans (s2.trans (s5.trans s7)))),trivial⟩
def dI.Q (H0:Hp) (Ri R0:KO)  (r:Bool) (v:AV) (H':Hp):Prop:=v=(.bool r)/\Out H0 Ri H' (R0) λR=>True
def dI.p (F:Nat) (ac:Int) (ag:Int) (bm:Int) (bo:Int) (bf:Int) (bG:Int) (gT:Int) (gU:Int) (gV:Int) (gW:Int):Option (Bool):=(bif (ac != bG) then (some false) else ((bif (ag != gT) then (some false) else ((bif (bm != gU) then (some false) else ((bif (bo != gV) then (some false) else ((bif (bf != gW) then (some false) else (some true))))))))))
theorem dI.P {ac ag bm bo bf bG gT gU gV gW}  (h0:Inn H R0 λR=>True) {r:Bool} (hp:dI.p F ac ag bm bo bf bG gT gU gV gW=some r):Rt (dI.tw F ac ag bm bo bf bG gT gU gV gW H) (dI.Q H R0 R0  r):=by
 obtain ⟨w0,_⟩:=h0
 unfold dI.p at hp
 unfold dI.tw dI.twX
 have s0:=w0.rf
 refine aW w0 λH1 w1 s1=>?_
 refine aW w1 λH2 w2 s2=>?_
 refine lI w2 1 ?_
 refine lI w2 0 ?_
 refine aB hp (λhp=>?_) λhp=>?_
 ·obtain ⟨w3,s3⟩:=w2.pp [] 2
  exact aA hp ⟨rfl,w3,(s0.trans (s1.trans (s2.trans s3))),trivial⟩
 ·refine lI w2 1 ?_
  refine lI w2 0 ?_
  refine aB hp (λhp=>?_) λhp=>?_
  ·obtain ⟨w4,s4⟩:=w2.pp [] 2
   exact aA hp ⟨rfl,w4,(s0.trans (s1.trans (s2.trans s4))),trivial⟩
  ·refine lI w2 1 ?_
   refine lI w2 0 ?_
   refine aB hp (λhp=>?_) λhp=>?_
   ·obtain ⟨w5,s5⟩:=w2.pp [] 2
    exact aA hp ⟨rfl,w5,(s0.trans (s1.trans (s2.trans s5))),trivial⟩
   ·refine lI w2 1 ?_
    refine lI w2 0 ?_
    refine aB hp (λhp=>?_) λhp=>?_
    ·obtain ⟨w6,s6⟩:=w2.pp [] 2
     exact aA hp ⟨rfl,w6,(s0.trans (s1.trans (s2.trans s6))),trivial⟩
    ·refine lI w2 1 ?_
     refine lI w2 0 ?_
     refine aB hp (λhp=>?_) λhp=>?_
     ·obtain ⟨w7,s7⟩:=w2.pp [] 2
      exact aA hp ⟨rfl,w7,(s0.trans (s1.trans (s2.trans s7))),trivial⟩
     ·obtain ⟨w8,s8⟩:=w2.pp [] 2
      exact aA hp ⟨rfl,w8,(s0.trans (s1.trans (s2.trans s8))),trivial⟩
def bl.Q (H0:Hp) (Ri R0:KO)  (r:Bool) (v:AV) (H':Hp):Prop:=v=(.bool r)/\Out H0 Ri H' (R0) λR=>True
def bl.S29 (H0:Hp) (Ri R0:KO)  (C:Ly) (pC:List (Int×Int×Int×Int×Int)->List (Int×Int×Int×Int×Int)->Int->Option (Bool)):Prop:=∀ {dv h_ cG fK dw ia aL cD bD},∀ {H:Hp},cG=aL.length->fK=cD.length->(Out H0 Ri H R0 λR=>ROs (aa eI (aa eI (aa eI (aa eI eI)))) H R ⟨dv,cG,dw⟩ aL/\ROs (aa eI (aa eI (aa eI (aa eI eI)))) H R ⟨h_,fK,ia⟩ cD)->∀ {r:Bool},pC aL cD bD=some r->Rt (C ⟨dv,cG,dw⟩ ⟨h_,fK,ia⟩ bD H) (bl.Q H0 Ri R0  r)
def bl.pl29 (F:Nat) :Nat->List (Int×Int×Int×Int×Int)->List (Int×Int×Int×Int×Int)->Int->Option (Bool)
 | 0,_,_,_=>none
 | k+1,aL,cD,bD=>(bif (decide (bD<(aL.length:Int))) then ((ix aL bD).bind λn1=>(ix cD bD).bind λn2=>(dI.p F ((gt aL n1).1) ((gt aL n1).2.1) ((gt aL n1).2.2.1) ((gt aL n1).2.2.2.1) ((gt aL n1).2.2.2.2) ((gt cD n2).1) ((gt cD n2).2.1) ((gt cD n2).2.2.1) ((gt cD n2).2.2.2.1) ((gt cD n2).2.2.2.2)).bind λr3=>(bif (!r3) then (some false) else (bl.pl29 F k aL cD (wrap .i64 (bD+1))))) else (some true))
theorem bl.l29_P  :∀ k,bl.S29 H0 Ri R0  (bl.l29 F (dI.tw F)  k) (bl.pl29 F  k):=by
 intro k
 induction k with
 | zero=>unfold bl.S29;intros;rename_i hp;cases hp
 | succ k ih=>
  intro dv h_ cG fK dw ia aL cD bD H fx pD h0 r hp
  obtain ⟨w0,s0,dh,jB⟩:=h0
  subst fx
  subst pD
  unfold bl.pl29 at hp
  unfold bl.l29
  refine aB hp (λhp=>?_) λhp=>?_
  ·obtain ⟨n1,g1,hp⟩:=ah hp
   obtain ⟨p1,q1,i1,h1,j1⟩:=ROs.ixr dh rfl g1
   refine aj i1 ?_
   obtain ⟨_,_,rfl,rfl,_,_,rfl,rfl,_,_,rfl,rfl,_,_,rfl,rfl,rfl⟩:=h1
   refine aj (aD (j1 0 _ rfl)) ?_
   refine aj (aD (j1 1 _ rfl)) ?_
   refine aj (aD (j1 2 _ rfl)) ?_
   refine aj (aD (j1 3 _ rfl)) ?_
   refine aj (aD (j1 4 _ rfl)) ?_
   obtain ⟨n2,g2,hp⟩:=ah hp
   obtain ⟨p2,q2,i2,h2,j2⟩:=ROs.ixr jB rfl g2
   refine aj i2 ?_
   obtain ⟨_,_,rfl,rfl,_,_,rfl,rfl,_,_,rfl,rfl,_,_,rfl,rfl,rfl⟩:=h2
   refine aj (aD (j2 0 _ rfl)) ?_
   refine aj (aD (j2 1 _ rfl)) ?_
   refine aj (aD (j2 2 _ rfl)) ?_
   refine aj (aD (j2 3 _ rfl)) ?_
   refine aj (aD (j2 4 _ rfl)) ?_
   obtain ⟨r3,e3,hp⟩:=ah hp
   refine aM (dI.P ⟨w0,trivial⟩ e3) ?_
   rintro _ H4 ⟨rfl,w4,s4,_⟩
   refine br ?_
   refine aB hp (λhp=>?_) λhp=>?_
   ·exact aA hp ⟨rfl,w4,(s0.trans s4),trivial⟩
   ·exact ih rfl rfl ⟨w4,(s0.trans s4),(dh.step s4),(jB.step s4)⟩ hp
  ·exact aA hp ⟨rfl,w0,s0,trivial⟩
def bl.p (F:Nat) (ae:KT) (dQ:KT):Option (Bool):=(bif ((ae.length:Int) != (dQ.length:Int)) then (some false) else (bl.pl29 F F ae dQ 0))
theorem bl.P {au jC ak ib av jD ae dQ} (aJ:ak=ae.length) (pE:ib=dQ.length) (h0:Inn H R0 λR=>ROs (aa eI (aa eI (aa eI (aa eI eI)))) H R ⟨au,ak,av⟩ ae/\ROs (aa eI (aa eI (aa eI (aa eI eI)))) H R ⟨jC,ib,jD⟩ dQ) {r:Bool} (hp:bl.p F ae dQ=some r):Rt (bl.tw F ⟨au,ak,av⟩ ⟨jC,ib,jD⟩ H) (bl.Q H R0 R0  r):=by
 obtain ⟨w0,aF,pF⟩:=h0
 subst aJ
 subst pE
 unfold bl.p at hp
 unfold bl.tw bl.twX
 have s0:=w0.rf
 refine aB hp (λhp=>?_) λhp=>?_
 ·exact aA hp ⟨rfl,w0,s0,trivial⟩
 ·exact bl.l29_P F rfl rfl ⟨w0,s0,aF,pF⟩ hp
def df.Q (H0:Hp) (Ri R0:KO)  (r:Bool) (v:AV) (H':Hp):Prop:=v=(.bool r)/\Out H0 Ri H' (R0) λR=>True
def df.p (F:Nat) (ae:KT) (ag:Int) (cY:KT) (bz:Int):Option (Bool):=(bl.p F ae cY).bind λr3=>(bif (!r3) then (some false) else ((bif (ag != bz) then (some false) else (some true))))
theorem df.P {au hQ ak fA av hY ae cY ag bz} (aJ:ak=ae.length) (kP:fA=cY.length) (h0:Inn H R0 λR=>ROs (aa eI (aa eI (aa eI (aa eI eI)))) H R ⟨au,ak,av⟩ ae/\ROs (aa eI (aa eI (aa eI (aa eI eI)))) H R ⟨hQ,fA,hY⟩ cY) {r:Bool} (hp:df.p F ae ag cY bz=some r):Rt (df.tw F ⟨au,ak,av⟩ ag ⟨hQ,fA,hY⟩ bz H) (df.Q H R0 R0  r):=by
 obtain ⟨w0,aF,kR⟩:=h0
 subst aJ
 subst kP
 unfold df.p at hp
 unfold df.tw df.twX
 have s0:=w0.rf
 refine aW w0 λH1 w1 s1=>?_
 refine aW w1 λH2 w2 s2=>?_
 refine lSl w2 1 ?_
 refine lSl w2 0 ?_
 obtain ⟨r3,e3,hp⟩:=ah hp
 refine aM (bl.P rfl rfl ⟨w2,(aF.step (s1.trans s2)),(kR.step (s1.trans s2))⟩ e3) ?_
 rintro _ H4 ⟨rfl,w4,s4,_⟩
 refine br ?_
 refine aB hp (λhp=>?_) λhp=>?_
 ·obtain ⟨w5,s5⟩:=w4.pp [] 2
  exact aA hp ⟨rfl,w5,(s0.trans (s1.trans (s2.trans (s4.trans s5)))),trivial⟩
 ·refine lI w4 1 ?_
  refine lI w4 0 ?_
  refine aB hp (λhp=>?_) λhp=>?_
  ·obtain ⟨w6,s6⟩:=w4.pp [] 2
   exact aA hp ⟨rfl,w6,(s0.trans (s1.trans (s2.trans (s4.trans s6)))),trivial⟩
  ·obtain ⟨w7,s7⟩:=w4.pp [] 2
   exact aA hp ⟨rfl,w7,(s0.trans (s1.trans (s2.trans (s4.trans s7)))),trivial⟩
def bA.Q (H0:Hp) (Ri R0:KO) (au:ON) (ak:Nat) (av:Cap) (cI:Bool) (cJ cK:KW) (r:LB) (v:AV) (H':Hp):Prop:=∃ fJ:List AV,v=(.i r.1)/\ak=(r.2).length/\Out H0 Ri H' (Rs.ow cI ⟨au,ak,av⟩ (aa eI (aa eI (aa eI (aa eI eI)))).z cJ fJ cK::R0) λR=>CR (aa eI (aa eI (aa eI (aa eI eI)))) H' R fJ (r.2)
def bA.S13 (H0:Hp) (Ri R0:KO) (dl:ON) (cU:Nat) (dp:Cap) (eG:Bool) (eH eJ:KW) (C:KU) (pC:List (Int×Int×Int×Int×Int)->Int->Int->Option (Int×(List (Int×Int×Int×Int×Int)))):Prop:=∀ {aL lf aN aV},∀ {H:Hp},cU=aL.length->(Out H0 Ri H (Rs.ow eG ⟨dl,cU,dp⟩ (aa eI (aa eI (aa eI (aa eI eI)))).z eH lf eJ::R0) λR=>CR (aa eI (aa eI (aa eI (aa eI eI)))) H R lf aL)->∀ {r:LB},pC aL aN aV=some r->Rt (C ⟨dl,cU,dp⟩ aN aV H) (bA.Q H0 Ri R0 dl cU dp eG eH eJ r)
def bA.pl13 (F:Nat) :Nat->List (Int×Int×Int×Int×Int)->Int->Int->Option (Int×(List (Int×Int×Int×Int×Int)))
 | 0,_,_,_=>none
 | k+1,aL,aN,aV=>(bif (decide (aV<(aL.length:Int))) then ((ix aL aV).bind λn1=>(some (aL.set n1 (aN,(gt aL n1).2.1,(gt aL n1).2.2.1,(gt aL n1).2.2.2.1,(gt aL n1).2.2.2.2))).bind λl2=>(ix l2 aV).bind λn4=>(some (l2.set n4 ((gt l2 n4).1,(wrap .i64 (aN+1)),(gt l2 n4).2.2.1,(gt l2 n4).2.2.2.1,(gt l2 n4).2.2.2.2))).bind λl5=>(ix l5 aV).bind λn7=>(some (l5.set n7 ((gt l5 n7).1,(gt l5 n7).2.1,(wrap .i64 ((wrap .i64 (aN+1))+1)),(gt l5 n7).2.2.2.1,(gt l5 n7).2.2.2.2))).bind λl8=>(ix l8 aV).bind λn10=>(some (l8.set n10 ((gt l8 n10).1,(gt l8 n10).2.1,(gt l8 n10).2.2.1,(wrap .i64 ((wrap .i64 ((wrap .i64 (aN+1))+1))+1)),(gt l8 n10).2.2.2.2))).bind λl11=>(ix l11 aV).bind λn13=>(some (l11.set n13 ((gt l11 n13).1,(gt l11 n13).2.1,(gt l11 n13).2.2.1,(gt l11 n13).2.2.2.1,(wrap .i64 ((wrap .i64 ((wrap .i64 ((wrap .i64 (aN+1))+1))+1))+1))))).bind λl14=>bA.pl13 F k l14 (wrap .i64 ((wrap .i64 ((wrap .i64 ((wrap .i64 ((wrap .i64 (aN+1))+1))+1))+1))+1)) (wrap .i64 (aV+1))) else (some (aN,aL)))
theorem bA.l13_P {dl cU dp eG eH eJ} :∀ k,bA.S13 H0 Ri R0 dl cU dp eG eH eJ (bA.l13 F   k) (bA.pl13 F  k):=by
 intro k
 induction k with
 | zero=>unfold bA.S13;intros;rename_i hp;cases hp
 | succ k ih=>
  intro aL lf aN aV H fx h0 r hp
  obtain ⟨w0,s0,dh⟩:=h0
  subst fx
  unfold bA.pl13 at hp
  unfold bA.l13
  refine aB hp (λhp=>?_) λhp=>?_
  ·obtain ⟨n1,g1,hp⟩:=ah hp
   obtain ⟨p1,q1,i1,h1,j1⟩:=W.ixo (E:=(aa eI (aa eI (aa eI (aa eI eI))))) w0 (i:=0) rfl rfl dh g1
   refine aj i1 ?_
   obtain ⟨l2,e2,hp⟩:=ah hp
   refine dA (aa eI (aa eI (aa eI (aa eI eI)))) w0 (i:=0) (j:=0) (p:=p1) rfl rfl dh g1 i1 e2 rfl rfl (λ_ h=>by obtain ⟨_,_,rfl,rfl,_,_,rfl,rfl,_,_,rfl,rfl,_,_,rfl,rfl,rfl⟩:=h;exact ⟨[_],_,rfl,rfl,[_],_,rfl,rfl,[_],_,rfl,rfl,[_],_,rfl,rfl,rfl⟩) λH3 k3 w3 s3 c3=>?_
   obtain ⟨n4,g4,hp⟩:=ah hp
   obtain ⟨p4,q4,i4,h4,j4⟩:=W.ixo (E:=(aa eI (aa eI (aa eI (aa eI eI))))) w3 (i:=0) rfl rfl c3 g4
   refine aj i4 ?_
   obtain ⟨l5,e5,hp⟩:=ah hp
   refine dA (aa eI (aa eI (aa eI (aa eI eI)))) w3 (i:=0) (j:=1) (p:=p4) rfl rfl c3 g4 i4 e5 rfl rfl (λ_ h=>by obtain ⟨_,_,rfl,rfl,_,_,rfl,rfl,_,_,rfl,rfl,_,_,rfl,rfl,rfl⟩:=h;exact ⟨[_],_,rfl,rfl,[_],_,rfl,rfl,[_],_,rfl,rfl,[_],_,rfl,rfl,rfl⟩) λH6 k6 w6 s6 c6=>?_
   obtain ⟨n7,g7,hp⟩:=ah hp
   obtain ⟨p7,q7,i7,h7,j7⟩:=W.ixo (E:=(aa eI (aa eI (aa eI (aa eI eI))))) w6 (i:=0) rfl rfl c6 g7
   refine aj i7 ?_
   obtain ⟨l8,e8,hp⟩:=ah hp
   refine dA (aa eI (aa eI (aa eI (aa eI eI)))) w6 (i:=0) (j:=2) (p:=p7) rfl rfl c6 g7 i7 e8 rfl rfl (λ_ h=>by obtain ⟨_,_,rfl,rfl,_,_,rfl,rfl,_,_,rfl,rfl,_,_,rfl,rfl,rfl⟩:=h;exact ⟨[_],_,rfl,rfl,[_],_,rfl,rfl,[_],_,rfl,rfl,[_],_,rfl,rfl,rfl⟩) λH9 k9 w9 s9 c9=>?_
   obtain ⟨n10,g10,hp⟩:=ah hp
   obtain ⟨p10,q10,i10,h10,j10⟩:=W.ixo (E:=(aa eI (aa eI (aa eI (aa eI eI))))) w9 (i:=0) rfl rfl c9 g10
   refine aj i10 ?_
   obtain ⟨l11,e11,hp⟩:=ah hp
   refine dA (aa eI (aa eI (aa eI (aa eI eI)))) w9 (i:=0) (j:=3) (p:=p10) rfl rfl c9 g10 i10 e11 rfl rfl (λ_ h=>by obtain ⟨_,_,rfl,rfl,_,_,rfl,rfl,_,_,rfl,rfl,_,_,rfl,rfl,rfl⟩:=h;exact ⟨[_],_,rfl,rfl,[_],_,rfl,rfl,[_],_,rfl,rfl,[_],_,rfl,rfl,rfl⟩) λH12 k12 w12 s12 c12=>?_
   obtain ⟨n13,g13,hp⟩:=ah hp
   obtain ⟨p13,q13,i13,h13,j13⟩:=W.ixo (E:=(aa eI (aa eI (aa eI (aa eI eI))))) w12 (i:=0) rfl rfl c12 g13
   refine aj i13 ?_
   obtain ⟨l14,e14,hp⟩:=ah hp
   refine dA (aa eI (aa eI (aa eI (aa eI eI)))) w12 (i:=0) (j:=4) (p:=p13) rfl rfl c12 g13 i13 e14 rfl rfl (λ_ h=>by obtain ⟨_,_,rfl,rfl,_,_,rfl,rfl,_,_,rfl,rfl,_,_,rfl,rfl,rfl⟩:=h;exact ⟨[_],_,rfl,rfl,[_],_,rfl,rfl,[_],_,rfl,rfl,[_],_,rfl,rfl,rfl⟩) λH15 k15 w15 s15 c15=>?_
   exact ih (((((cl e2).symm.trans (cl e5).symm).trans (cl e8).symm).trans (cl e11).symm).trans (cl e14).symm) ⟨w15,(s0.trans (s3.trans (s6.trans (s9.trans (s12.trans s15))))),c15⟩ hp
  ·exact aA hp ⟨_,rfl,rfl,w0,s0,dh⟩
def bA.p (F:Nat) (ae:KT) (ar:Int):Option (Int×(List (Int×Int×Int×Int×Int))):=bA.pl13 F F ae ar 0
theorem bA.P {au ak av ae cI cJ cK dP ar} (aJ:ak=ae.length) (h0:Inn H (Rs.ow cI ⟨au,ak,av⟩ (aa eI (aa eI (aa eI (aa eI eI)))).z cJ dP cK::R0) λR=>CR (aa eI (aa eI (aa eI (aa eI eI)))) H R dP ae) {r:LB} (hp:bA.p F ae ar=some r):Rt (bA.tw F ⟨au,ak,av⟩ ar H) (bA.Q H (Rs.ow cI ⟨au,ak,av⟩ (aa eI (aa eI (aa eI (aa eI eI)))).z cJ dP cK::R0) R0 au ak av cI cJ cK r):=by
 obtain ⟨w0,aF⟩:=h0
 subst aJ
 unfold bA.p at hp
 unfold bA.tw bA.twX
 have s0:=w0.rf
 exact bA.l13_P F rfl ⟨w0,s0,aF⟩ hp
def dg.Q (H0:Hp) (Ri R0:KO) (au:ON) (ak:Nat) (av:Cap) (cI:Bool) (cJ cK:KW) (r:LB) (v:AV) (H':Hp):Prop:=∃ fJ:List AV,v=(.i r.1)/\ak=(r.2).length/\Out H0 Ri H' (Rs.ow cI ⟨au,ak,av⟩ (aa eI (aa eI (aa eI (aa eI eI)))).z cJ fJ cK::R0) λR=>CR (aa eI (aa eI (aa eI (aa eI eI)))) H' R fJ (r.2)
def dg.p (F:Nat) (ae:KT) (ay:Int):Option (Int×(List (Int×Int×Int×Int×Int))):=(bA.p F ae ay).bind λr3=>some (r3.1,r3.2)
theorem dg.P {au ak av ae cI cJ cK dP ag ay} (aJ:ak=ae.length) (h0:Inn H (Rs.ow cI ⟨au,ak,av⟩ (aa eI (aa eI (aa eI (aa eI eI)))).z cJ dP cK::R0) λR=>CR (aa eI (aa eI (aa eI (aa eI eI)))) H R dP ae) {r:LB} (hp:dg.p F ae ay=some r):Rt (dg.tw F ⟨au,ak,av⟩ ag ay H) (dg.Q H (Rs.ow cI ⟨au,ak,av⟩ (aa eI (aa eI (aa eI (aa eI eI)))).z cJ dP cK::R0) R0 au ak av cI cJ cK r):=by
 obtain ⟨w0,aF⟩:=h0
 subst aJ
 unfold dg.p at hp
 unfold dg.tw dg.twX
 have s0:=w0.rf
 refine aW w0 λH1 w1 s1=>?_
 refine lSl w1 0 ?_
 obtain ⟨w2,s2⟩:=w1.pp [1,0] 2
 obtain ⟨r3,e3,hp⟩:=ah hp
 refine aM (bA.P rfl ⟨w2,(aF.step (s1.trans s2))⟩ e3) ?_
 rintro _ H4 ⟨II,rfl,hl4_0,w4,s4,f4_0⟩
 refine br ?_
 obtain ⟨w5,s5⟩:=w4.pp [0] 2
 exact aA hp ⟨_,rfl,hl4_0,w5,(s0.trans (s1.trans (s2.trans (s4.trans s5)))),(f4_0.step s5)⟩
def bs.Q (H0:Hp) (Ri R0:KO) (au:ON) (ak:Nat) (av:Cap) (cI:Bool) (cJ cK:KW) (r:LD) (v:AV) (H':Hp):Prop:=∃ fJ:List AV,v=(.i r.1)/\ak=(r.2).length/\Out H0 Ri H' (Rs.ow cI ⟨au,ak,av⟩ eI.z cJ fJ cK::R0) λR=>CR eI H' R fJ (r.2)
def bs.S13 (H0:Hp) (Ri R0:KO) (dl:ON) (cU:Nat) (dp:Cap) (eG:Bool) (eH eJ:KW) (C:KU) (pC:List Int->Int->Int->Option (Int×List Int)):Prop:=∀ {aL lf aN aV},∀ {H:Hp},cU=aL.length->(Out H0 Ri H (Rs.ow eG ⟨dl,cU,dp⟩ eI.z eH lf eJ::R0) λR=>CR eI H R lf aL)->∀ {r:LD},pC aL aN aV=some r->Rt (C ⟨dl,cU,dp⟩ aN aV H) (bs.Q H0 Ri R0 dl cU dp eG eH eJ r)
def bs.pl13 (F:Nat) :Nat->List Int->Int->Int->Option (Int×List Int)
 | 0,_,_,_=>none
 | k+1,aL,aN,aV=>(bif (decide (aV<(aL.length:Int))) then ((ix aL aV).bind λn1=>(some (aL.set n1 aN)).bind λl2=>bs.pl13 F k l2 (wrap .i64 (aN+1)) (wrap .i64 (aV+1))) else (some (aN,aL)))
theorem bs.l13_P {dl cU dp eG eH eJ} :∀ k,bs.S13 H0 Ri R0 dl cU dp eG eH eJ (bs.l13 F   k) (bs.pl13 F  k):=by
 intro k
 induction k with
 | zero=>unfold bs.S13;intros;rename_i hp;cases hp
 | succ k ih=>
  intro aL lf aN aV H fx h0 r hp
  obtain ⟨w0,s0,dh⟩:=h0
  subst fx
  unfold bs.pl13 at hp
  unfold bs.l13
  refine aB hp (λhp=>?_) λhp=>?_
  ·obtain ⟨n1,g1,hp⟩:=ah hp
   obtain ⟨p1,q1,i1,h1,j1⟩:=W.ixo (E:=eI) w0 (i:=0) rfl rfl dh g1
   refine aj i1 ?_
   obtain ⟨l2,e2,hp⟩:=ah hp
   refine dA eI w0 (i:=0) (j:=0) (p:=p1) rfl rfl dh g1 i1 e2 rfl rfl (λ_ h=>by have h:_=[_]:=h;subst h;exact rfl) λH3 k3 w3 s3 c3=>?_
   exact ih ((cl e2).symm) ⟨w3,(s0.trans s3),c3⟩ hp
  ·exact aA hp ⟨_,rfl,rfl,w0,s0,dh⟩
def bs.p (F:Nat) (ae:KS) (ar:Int):Option (Int×List Int):=bs.pl13 F F ae ar 0
theorem bs.P {au ak av ae cI cJ cK dP ar} (aJ:ak=ae.length) (h0:Inn H (Rs.ow cI ⟨au,ak,av⟩ eI.z cJ dP cK::R0) λR=>CR eI H R dP ae) {r:LD} (hp:bs.p F ae ar=some r):Rt (bs.tw F ⟨au,ak,av⟩ ar H) (bs.Q H (Rs.ow cI ⟨au,ak,av⟩ eI.z cJ dP cK::R0) R0 au ak av cI cJ cK r):=by
 obtain ⟨w0,aF⟩:=h0
 subst aJ
 unfold bs.p at hp
 unfold bs.tw bs.twX
 have s0:=w0.rf
 exact bs.l13_P F rfl ⟨w0,s0,aF⟩ hp
def bO.Q (H0:Hp) (Ri R0:KO) (au:ON) (ak:Nat) (av:Cap) (cI:Bool) (cJ cK:KW) (r:LE) (v:AV) (H':Hp):Prop:=∃ fJ:List AV,∃ CN:List Ow,v=(.i r.1)/\ak=(r.2).length/\Out H0 Ri H' (Rs.ow cI ⟨au,ak,av⟩ (eSl eI).z cJ fJ cK::Rs.many CN::R0) λR=>OL (oSl (cZ eI)) CN fJ (r.2)
def bO.p (F:Nat) (ae:KV) (ar:Int):Option (Int×List (List Int)):=(if ae.length<F/\ae.length<=4294967296 then mss (bs.p F) ae ar else none)
theorem bO.P {au ak av ae cI cJ cK dP sD ar} (aJ:ak=ae.length) (h0:Inn H (Rs.ow cI ⟨au,ak,av⟩ (eSl eI).z cJ dP cK::Rs.many sD::R0) λR=>OL (oSl (cZ eI)) sD dP ae) {r:LE} (hp:bO.p F ae ar=some r):Rt (bO.tw F ⟨au,ak,av⟩ ar H) (bO.Q H (Rs.ow cI ⟨au,ak,av⟩ (eSl eI).z cJ dP cK::Rs.many sD::R0) R0 au ak av cI cJ cK r):=by
 obtain ⟨w0,f0⟩:=h0
 subst aJ
 unfold bO.p at hp
 unfold bO.tw bO.twX
 obtain ⟨⟨hF,hc⟩,hp⟩:=dB hp
 have hin:∀ {H:Hp} {R:KO} {q:Ow} {rr:List Ow} {x:KS} {k:Int} {res:LD},W H (q.rs::.many rr::R)->q.z=(cZ eI).E.z->OL (cZ eI) rr q.cells x->bs.p F x k=some res->∃ H' c' rr',bs.tw F q.s k H=some (.i res.1,H')/\W H' (Ow.rs ⟨q.t,q.s,q.z,q.pre,c',q.rest⟩::.many rr'::R)/\Fr H (q.rs::.many rr::R) H' (Ow.rs ⟨q.t,q.s,q.z,q.pre,c',q.rest⟩::.many rr'::R)/\OL (cZ eI) rr' c' res.2:=by
  intro H R q rr x k res w hz ho e
  obtain ⟨t,⟨a,n,c⟩,z,pre,cells,rest⟩:=q
  obtain rfl:z=(cZ eI).E.z:=hz
  obtain ⟨rfl,hcr⟩:=ho.flat_nil
  obtain ⟨v,H',e1,k',rfl,hn',w1,s1,f1⟩:=bs.P (F:=F) (R0:=.many []::R) (W.own_n (E:=eI) w (i:=0) rfl (hcr _ _)) ⟨w,hcr _ _⟩ e
  exact ⟨H',k',[],e1,w1,s1,OL.of_flat (iV .i64) f1⟩
 obtain ⟨H2,r',e,w2,s2,f2⟩:=IV (cZ eI) (tw:=bs.tw F) (f:=bs.p F) (Lp:=λg k i H=>bO.l13 F (bs.tw F) g ⟨au,ae.length,av⟩ k i H) (λ_ _ _ _=>rfl) hin ae [] F H ar r [] sD [] dP hF rfl hc w0 .nil f0 hp
 exact ⟨_,_,e,_,_,rfl,CX hp,w2,s2,f2⟩
def dk.Q (H0:Hp) (Ri R0:KO) (gv:ON) (fb:Nat) (gw:Cap) (pI:Bool) (pJ pK:KW) (r:LE) (v:AV) (H':Hp):Prop:=∃ CO:List AV,∃ CP:List Ow,v=(.i r.1)/\fb=(r.2).length/\Out H0 Ri H' (Rs.ow pI ⟨gv,fb,gw⟩ (eSl eI).z pJ CO pK::Rs.many CP::R0) λR=>OL (oSl (cZ eI)) CP CO (r.2)
def dk.p (F:Nat) (eX:KV) (ay:Int):Option (Int×List (List Int)):=(bO.p F eX ay).bind λr3=>some (r3.1,r3.2)
theorem dk.P {ac ay gv fb gw eX pI pJ pK yp yq} (pG:fb=eX.length) (h0:Inn H (Rs.ow pI ⟨gv,fb,gw⟩ (eSl eI).z pJ yp pK::Rs.many yq::R0) λR=>OL (oSl (cZ eI)) yq yp eX) {r:LE} (hp:dk.p F eX ay=some r):Rt (dk.tw F ac ⟨gv,fb,gw⟩ ay H) (dk.Q H (Rs.ow pI ⟨gv,fb,gw⟩ (eSl eI).z pJ yp pK::Rs.many yq::R0) R0 gv fb gw pI pJ pK r):=by
 obtain ⟨w0,pH⟩:=h0
 subst pG
 unfold dk.p at hp
 unfold dk.tw dk.twX
 have s0:=w0.rf
 refine aW w0 λH1 w1 s1=>?_
 refine lSl w1 0 ?_
 obtain ⟨w2,s2⟩:=w1.pp [1,2,0] 3
 obtain ⟨r3,e3,hp⟩:=ah hp
 refine aM (bO.P rfl ⟨w2,pH⟩ e3) ?_
 rintro _ H4 ⟨II,Ki,rfl,hl4_0,w4,s4,f4_0⟩
 refine br ?_
 obtain ⟨w5,s5⟩:=w4.pp [0,1] 3
 exact aA hp ⟨_,_,rfl,hl4_0,w5,(s0.trans (s1.trans (s2.trans (s4.trans s5)))),f4_0⟩
def bx.Q (H0:Hp) (Ri R0:KO)  (r:Int) (v:AV) (H':Hp):Prop:=v=(.i r)/\Out H0 Ri H' (R0) λR=>True
def bx.S13 (H0:Hp) (Ri R0:KO)  (C:KU) (pC:LT):Prop:=∀ {dv cG dw aL aN aV},∀ {H:Hp},cG=aL.length->(Out H0 Ri H R0 λR=>ROs eI H R ⟨dv,cG,dw⟩ aL)->∀ {r:Int},pC aL aN aV=some r->Rt (C ⟨dv,cG,dw⟩ aN aV H) (bx.Q H0 Ri R0  r)
def bx.pl13 (F:Nat) :Nat->List Int->Int->Int->Option (Int)
 | 0,_,_,_=>none
 | k+1,aL,aN,aV=>(bif (decide (aV<(aL.length:Int))) then ((ix aL aV).bind λn1=>(bif ((gt aL n1) != aN) then (some (-1)) else (bx.pl13 F k aL (wrap .i64 (aN+1)) (wrap .i64 (aV+1))))) else (some aN))
theorem bx.l13_P  :∀ k,bx.S13 H0 Ri R0  (bx.l13 F   k) (bx.pl13 F  k):=by
 intro k
 induction k with
 | zero=>unfold bx.S13;intros;rename_i hp;cases hp
 | succ k ih=>
  intro dv cG dw aL aN aV H fx h0 r hp
  obtain ⟨w0,s0,dh⟩:=h0
  subst fx
  unfold bx.pl13 at hp
  unfold bx.l13
  refine aB hp (λhp=>?_) λhp=>?_
  ·obtain ⟨n1,g1,hp⟩:=ah hp
   obtain ⟨p1,q1,i1,h1,j1⟩:=ROs.ixr dh rfl g1
   refine aj i1 ?_
   have h1:_=[_]:=h1
   subst h1
   refine aj (aD (j1 0 _ rfl)) ?_
   refine aB hp (λhp=>?_) λhp=>?_
   ·exact aA hp ⟨rfl,w0,s0,trivial⟩
   ·exact ih rfl ⟨w0,s0,dh⟩ hp
  ·exact aA hp ⟨rfl,w0,s0,trivial⟩
def bx.p (F:Nat) (ae:KS) (ar:Int):Option (Int):=bx.pl13 F F ae ar 0
theorem bx.P {au ak av ae ar} (aJ:ak=ae.length) (h0:Inn H R0 λR=>ROs eI H R ⟨au,ak,av⟩ ae) {r:Int} (hp:bx.p F ae ar=some r):Rt (bx.tw F ⟨au,ak,av⟩ ar H) (bx.Q H R0 R0  r):=by
 obtain ⟨w0,aF⟩:=h0
 subst aJ
 unfold bx.p at hp
 unfold bx.tw bx.twX
 have s0:=w0.rf
 exact bx.l13_P F rfl ⟨w0,s0,aF⟩ hp
def bp.Q (H0:Hp) (Ri R0:KO)  (r:Int) (v:AV) (H':Hp):Prop:=v=(.i r)/\Out H0 Ri H' (R0) λR=>True
def bp.S13 (H0:Hp) (Ri R0:KO)  (C:KU) (pC:List (List Int)->Int->Int->Option (Int)):Prop:=∀ {dv cG dw aL aN aV},∀ {H:Hp},cG=aL.length->(Out H0 Ri H R0 λR=>ROs (eSl eI) H R ⟨dv,cG,dw⟩ aL)->∀ {r:Int},pC aL aN aV=some r->Rt (C ⟨dv,cG,dw⟩ aN aV H) (bp.Q H0 Ri R0  r)
def bp.pl13 (F:Nat) :Nat->List (List Int)->Int->Int->Option (Int)
 | 0,_,_,_=>none
 | k+1,aL,aN,aV=>(bif (decide (aV<(aL.length:Int))) then ((ix aL aV).bind λn1=>(bx.p F (gt aL n1) aN).bind λr2=>(bif (decide (r2<0)) then (some (-1)) else (bp.pl13 F k aL r2 (wrap .i64 (aV+1))))) else (some aN))
theorem bp.l13_P  :∀ k,bp.S13 H0 Ri R0  (bp.l13 F (bx.tw F)  k) (bp.pl13 F  k):=by
 intro k
 induction k with
 | zero=>unfold bp.S13;intros;rename_i hp;cases hp
 | succ k ih=>
  intro dv cG dw aL aN aV H fx h0 r hp
  obtain ⟨w0,s0,dh⟩:=h0
  subst fx
  unfold bp.pl13 at hp
  unfold bp.l13
  refine aB hp (λhp=>?_) λhp=>?_
  ·obtain ⟨n1,g1,hp⟩:=ah hp
   obtain ⟨p1,q1,i1,h1,j1⟩:=ROs.ixr dh rfl g1
   refine aj i1 ?_
   obtain ⟨⟨vX,m1_0,c1_0⟩,rfl,f1_0⟩:=h1
   obtain rfl:m1_0=_:=f1_0.n
   refine aj (lg (j1 0 _ rfl)) ?_
   obtain ⟨r2,e2,hp⟩:=ah hp
   refine aM (bx.P rfl ⟨w0,f1_0⟩ e2) ?_
   rintro _ H3 ⟨rfl,w3,s3,_⟩
   refine br ?_
   refine aB hp (λhp=>?_) λhp=>?_
   ·exact aA hp ⟨rfl,w3,(s0.trans s3),trivial⟩
   ·exact ih rfl ⟨w3,(s0.trans s3),(dh.step s3)⟩ hp
  ·exact aA hp ⟨rfl,w0,s0,trivial⟩
def bp.p (F:Nat) (ae:KV) (ar:Int):Option (Int):=bp.pl13 F F ae ar 0
theorem bp.P {au ak av ae ar} (aJ:ak=ae.length) (h0:Inn H R0 λR=>ROs (eSl eI) H R ⟨au,ak,av⟩ ae) {r:Int} (hp:bp.p F ae ar=some r):Rt (bp.tw F ⟨au,ak,av⟩ ar H) (bp.Q H R0 R0  r):=by
 obtain ⟨w0,aF⟩:=h0
 subst aJ
 unfold bp.p at hp
 unfold bp.tw bp.twX
 have s0:=w0.rf
 exact bp.l13_P F rfl ⟨w0,s0,aF⟩ hp
def cX.Q (H0:Hp) (Ri R0:KO)  (r:Int) (v:AV) (H':Hp):Prop:=v=(.i r)/\Out H0 Ri H' (R0) λR=>True
def cX.p (F:Nat) (eX:KV) (ay:Int):Option (Int):=(bp.p F eX ay).bind λr2=>(bif (decide (r2<0)) then (some (-1)) else (some r2))
theorem cX.P {ac ay gv fb gw eX} (pG:fb=eX.length) (h0:Inn H R0 λR=>ROs (eSl eI) H R ⟨gv,fb,gw⟩ eX) {r:Int} (hp:cX.p F eX ay=some r):Rt (cX.tw F ac ⟨gv,fb,gw⟩ ay H) (cX.Q H R0 R0  r):=by
 obtain ⟨w0,pH⟩:=h0
 subst pG
 unfold cX.p at hp
 unfold cX.tw cX.twX
 have s0:=w0.rf
 refine aW w0 λH1 w1 s1=>?_
 refine lSl w1 0 ?_
 obtain ⟨r2,e2,hp⟩:=ah hp
 refine aM (bp.P rfl ⟨w1,(pH.step s1)⟩ e2) ?_
 rintro _ H3 ⟨rfl,w3,s3,_⟩
 refine br ?_
 refine aB hp (λhp=>?_) λhp=>?_
 ·obtain ⟨w4,s4⟩:=w3.pp [] 1
  exact aA hp ⟨rfl,w4,(s0.trans (s1.trans (s3.trans s4))),trivial⟩
 ·obtain ⟨w5,s5⟩:=w3.pp [] 1
  exact aA hp ⟨rfl,w5,(s0.trans (s1.trans (s3.trans s5))),trivial⟩
def cC.Q (H0:Hp) (Ri R0:KO)  (r:Bool) (v:AV) (H':Hp):Prop:=v=(.bool r)/\Out H0 Ri H' (R0) λR=>True
def cC.p (F:Nat) (ae:KT) (ag:Int):Option (Bool):=(cV.p F ae 1048576).bind λr2=>(bif (decide (r2<0)) then (some true) else ((cv.p F ae ag).bind λr5=>(bg.p F r5.1 r5.2).bind λr8=>(cv.p F ae ag).bind λr13=>(ba.p F r13.1 r13.2).bind λr20=>(cF.p F r20.1 r20.2.1 r8.1 r8.2.1).bind λr29=>(bif (!r29) then (some false) else ((bif (r20.2.2 != r8.2.2) then (some false) else ((cv.p F ae ag).bind λr35=>(df.p F r13.1 r13.2 r35.1 r35.2).bind λr41=>(bif (!r41) then (some false) else ((dg.p F r13.1 1).bind λr46=>(bif (decide (r46.1<0)) then (some false) else ((cF.p F r20.1 r20.2.1 r8.1 r8.2.1).bind λr52=>(bif (!r52) then (some false) else ((bif (r20.2.2 != r8.2.2) then (some false) else ((dk.p F r20.2.1 1).bind λr58=>(cX.p F r58.2 1).bind λr61=>(bif (decide (r61<0)) then (some false) else ((bif (r61 != r58.1) then (some false) else ((cv.p F ae ag).bind λr66=>(ba.p F r66.1 r66.2).bind λr69=>(cF.p F r69.1 r69.2.1 r8.1 r8.2.1).bind λr78=>(bif (!r78) then (some false) else ((bif (r69.2.2 != r8.2.2) then (some false) else ((cX.p F r58.2 1).bind λr86=>(bif (decide (r86<0)) then (some false) else ((bif (r86 != r58.1) then (some false) else (some true))))))))))))))))))))))))))
theorem cC.P {au ak av ae ag} (aJ:ak=ae.length) (h0:Inn H R0 λR=>ROs (aa eI (aa eI (aa eI (aa eI eI)))) H R ⟨au,ak,av⟩ ae) {r:Bool} (hp:cC.p F ae ag=some r):Rt (cC.tw F ⟨au,ak,av⟩ ag H) (cC.Q H R0 R0  r):=by
 obtain ⟨w0,aF⟩:=h0
 subst aJ
 unfold cC.p at hp
 unfold cC.tw cC.twX
 have s0:=w0.rf
 refine aW w0 λH1 w1 s1=>?_
 refine lSl w1 0 ?_
 refine lI w1 0 ?_
 obtain ⟨r2,e2,hp⟩:=ah hp
 refine aM (cV.P rfl ⟨w1,(aF.step s1)⟩ e2) ?_
 rintro _ H3 ⟨rfl,w3,s3,_⟩
 refine br ?_
 refine aB hp (λhp=>?_) λhp=>?_
 ·obtain ⟨w4,s4⟩:=w3.pp [] 1
  exact aA hp ⟨rfl,w4,(s0.trans (s1.trans (s3.trans s4))),trivial⟩
 ·refine lSl w3 0 ?_
  refine lI w3 0 ?_
  obtain ⟨r5,e5,hp⟩:=ah hp
  refine aM (cv.P rfl ⟨w3,(aF.step (s1.trans s3))⟩ e5) ?_
  rintro _ H6 ⟨o0a_6,o0n_6,o0c_6,o0k_6,rfl,rfl,w6,s6,f6_0⟩
  refine br (br (br (br (br ?_))))
  obtain ⟨w7,s7,f7⟩:=w6.frz (i:=0) (aa eI (aa eI (aa eI (aa eI eI)))) rfl f6_0
  obtain ⟨r8,e8,hp⟩:=ah hp
  refine aM (bg.P rfl ⟨w7,f7⟩ e8) ?_
  rintro _ H9 ⟨o1a_9,o1n_9,o1c_9,o1k_9,rfl,rfl,w9,s9,f9_0⟩
  refine br (br (br (br (br (br (br (br (br ?_))))))))
  refine aW w9 λH10 w10 s10=>?_
  refine aC w10 0 λH11 w11 s11=>?_
  refine aC w11 0 λH12 w12 s12=>?_
  refine lSl w12 2 ?_
  refine lI w12 2 ?_
  obtain ⟨r13,e13,hp⟩:=ah hp
  refine aM (cv.P rfl ⟨w12,(aF.step (s1.trans (s3.trans (s6.trans (s7.trans (s9.trans (s10.trans (s11.trans s12))))))))⟩ e13) ?_
  rintro _ H14 ⟨o0a_14,o0n_14,o0c_14,o0k_14,rfl,rfl,w14,s14,f14_0⟩
  refine br (br (br (br (br ?_))))
  refine aW w14 λH15 w15 s15=>?_
  refine aC w15 0 λH16 w16 s16=>?_
  refine aC w16 0 λH17 w17 s17=>?_
  refine lSl w17 0 ?_
  refine lI w17 0 ?_
  obtain ⟨w18,s18⟩:=w17.pp [1,0,2,3,4] 5
  have f19:=W.borrow1 (aa eI (aa eI (aa eI (aa eI eI)))) w18 (f14_0.step (s15.trans (s16.trans (s17.trans s18))))
  obtain ⟨w19,s19⟩:=w18.right1
  obtain ⟨r20,e20,hp⟩:=ah hp
  refine aM (ba.P rfl ⟨w19,f19⟩ e20) ?_
  rintro _ H21 ⟨o1a_21,o1n_21,o1c_21,o1k_21,o1m_21,rfl,rfl,w21,s21,f21_0⟩
  obtain ⟨w22,s22⟩:=W.frame1 w18 w21 s21
  refine br (br (br (br (br (br (br (br (br ?_))))))))
  refine aW w22 λH23 w23 s23=>?_
  refine aC w23 0 λH24 w24 s24=>?_
  refine aC w24 0 λH25 w25 s25=>?_
  refine lI w25 0 ?_
  refine lSl w25 0 ?_
  refine lI w25 5 ?_
  refine lSl w25 5 ?_
  obtain ⟨w26,s26⟩:=w25.pp [2,3,6,0,1,4,5,7] 8
  dsimp only [pk,pks,nth,List.drop,List.set,List.eraseIdx] at w26 s7 f7 s10 s11 s12 s15 s16 s17 s18 s23 s24 s25 s26
  have f27:ROs (eSl eI) _ _ _ _:=W.borrow2 (oSl (cZ eI)) w26 f21_0
  obtain ⟨w27,s27⟩:=w26.right2
  have f28:=W.borrow1 (eSl eI) w27 ((f9_0.step (s10.trans (s11.trans (s12.trans (s14.trans (s15.trans (s16.trans (s17.trans (s18.trans (s22.trans (s23.trans (s24.trans (s25.trans s26))))))))))))).step s27)
  obtain ⟨w28,s28⟩:=w27.right1
  obtain ⟨r29,e29,hp⟩:=ah hp
  refine aM (cF.P rfl rfl ⟨w28,(f27.step s28),f28⟩ e29) ?_
  rintro _ H30 ⟨rfl,w30,s30,_⟩
  obtain ⟨w31,s31⟩:=W.frame1 w27 w30 s30
  obtain ⟨w32,s32⟩:=W.frame2 w26 w31 s31
  refine br ?_
  refine aB hp (λhp=>?_) λhp=>?_
  ·obtain ⟨w33,s33⟩:=w32.pp [] 8
   exact aA hp ⟨rfl,w33,(s0.trans (s1.trans (s3.trans (s6.trans (s7.trans (s9.trans (s10.trans (s11.trans (s12.trans (s14.trans (s15.trans (s16.trans (s17.trans (s18.trans (s22.trans (s23.trans (s24.trans (s25.trans (s26.trans (s32.trans s33)))))))))))))))))))),trivial⟩
  ·refine aB hp (λhp=>?_) λhp=>?_
   ·obtain ⟨w34,s34⟩:=w32.pp [] 8
    exact aA hp ⟨rfl,w34,(s0.trans (s1.trans (s3.trans (s6.trans (s7.trans (s9.trans (s10.trans (s11.trans (s12.trans (s14.trans (s15.trans (s16.trans (s17.trans (s18.trans (s22.trans (s23.trans (s24.trans (s25.trans (s26.trans (s32.trans s34)))))))))))))))))))),trivial⟩
   ·refine lSl w32 5 ?_
    refine lI w32 5 ?_
    refine lSl w32 7 ?_
    refine lI w32 7 ?_
    obtain ⟨r35,e35,hp⟩:=ah hp
    refine aM (cv.P rfl ⟨w32,(aF.step (s1.trans (s3.trans (s6.trans (s7.trans (s9.trans (s10.trans (s11.trans (s12.trans (s14.trans (s15.trans (s16.trans (s17.trans (s18.trans (s22.trans (s23.trans (s24.trans (s25.trans (s26.trans s32)))))))))))))))))))⟩ e35) ?_
    rintro _ H36 ⟨o0a_36,o0n_36,o0c_36,o0k_36,rfl,rfl,w36,s36,f36_0⟩
    refine br (br (br (br (br ?_))))
    refine fL (W.cons_of (Rn:=[_]) w32 w36 s36) ?_
    obtain ⟨w38,s38⟩:=w36.pp [5,0,1,2,3,4,6,7,8] 9
    have f39:=W.borrow1 (aa eI (aa eI (aa eI (aa eI eI)))) w38 (f14_0.step (s15.trans (s16.trans (s17.trans (s18.trans (s22.trans (s23.trans (s24.trans (s25.trans (s26.trans (s32.trans (s36.trans s38))))))))))))
    obtain ⟨w39,s39⟩:=w38.right1
    have f40:=W.borrow1 (aa eI (aa eI (aa eI (aa eI eI)))) w39 ((f36_0.step s38).step s39)
    obtain ⟨w40,s40⟩:=w39.right1
    obtain ⟨r41,e41,hp⟩:=ah hp
    refine aM (df.P rfl rfl ⟨w40,(f39.step s40),f40⟩ e41) ?_
    rintro _ H42 ⟨rfl,w42,s42,_⟩
    obtain ⟨w43,s43⟩:=W.frame1 w39 w42 s42
    obtain ⟨w44,s44⟩:=W.frame1 w38 w43 s43
    refine br ?_
    refine aB hp (λhp=>?_) λhp=>?_
    ·obtain ⟨w45,s45⟩:=w44.pp [] 9
     exact aA hp ⟨rfl,w45,(s0.trans (s1.trans (s3.trans (s6.trans (s7.trans (s9.trans (s10.trans (s11.trans (s12.trans (s14.trans (s15.trans (s16.trans (s17.trans (s18.trans (s22.trans (s23.trans (s24.trans (s25.trans (s26.trans (s32.trans (s36.trans (s38.trans (s44.trans s45))))))))))))))))))))))),trivial⟩
    ·refine lSl w44 6 ?_
     refine lI w44 6 ?_
     obtain ⟨r46,e46,hp⟩:=ah hp
     refine aM (dg.P rfl ⟨w44,(f14_0.step (s15.trans (s16.trans (s17.trans (s18.trans (s22.trans (s23.trans (s24.trans (s25.trans (s26.trans (s32.trans (s36.trans (s38.trans s44)))))))))))))⟩ e46) ?_
     rintro _ H47 ⟨Kj,rfl,hl47_0,w47,s47,f47_0⟩
     refine br ?_
     refine aB hp (λhp=>?_) λhp=>?_
     ·obtain ⟨w48,s48⟩:=w47.pp [] 9
      exact aA hp ⟨rfl,w48,(s0.trans (s1.trans (s3.trans (s6.trans (s7.trans (s9.trans (s10.trans (s11.trans (s12.trans (s14.trans (s15.trans (s16.trans (s17.trans (s18.trans (s22.trans (s23.trans (s24.trans (s25.trans (s26.trans (s32.trans (s36.trans (s38.trans (s44.trans (s47.trans s48)))))))))))))))))))))))),trivial⟩
     ·refine lI w47 5 ?_
      refine lSl w47 5 ?_
      refine lI w47 7 ?_
      refine lSl w47 7 ?_
      obtain ⟨w49,s49⟩:=w47.pp [2,3,4,0,1,5,6,7,8] 9
      dsimp only [pk,pks,nth,List.drop,List.set,List.eraseIdx] at w49 s38 s49
      have f50:ROs (eSl eI) _ _ _ _:=W.borrow2 (oSl (cZ eI)) w49 f21_0
      obtain ⟨w50,s50⟩:=w49.right2
      have f51:=W.borrow1 (eSl eI) w50 ((f9_0.step (s10.trans (s11.trans (s12.trans (s14.trans (s15.trans (s16.trans (s17.trans (s18.trans (s22.trans (s23.trans (s24.trans (s25.trans (s26.trans (s32.trans (s36.trans (s38.trans (s44.trans (s47.trans s49))))))))))))))))))).step s50)
      obtain ⟨w51,s51⟩:=w50.right1
      obtain ⟨r52,e52,hp⟩:=ah hp
      refine aM (cF.P rfl rfl ⟨w51,(f50.step s51),f51⟩ e52) ?_
      rintro _ H53 ⟨rfl,w53,s53,_⟩
      obtain ⟨w54,s54⟩:=W.frame1 w50 w53 s53
      obtain ⟨w55,s55⟩:=W.frame2 w49 w54 s54
      refine br ?_
      refine aB hp (λhp=>?_) λhp=>?_
      ·obtain ⟨w56,s56⟩:=w55.pp [] 9
       exact aA hp ⟨rfl,w56,(s0.trans (s1.trans (s3.trans (s6.trans (s7.trans (s9.trans (s10.trans (s11.trans (s12.trans (s14.trans (s15.trans (s16.trans (s17.trans (s18.trans (s22.trans (s23.trans (s24.trans (s25.trans (s26.trans (s32.trans (s36.trans (s38.trans (s44.trans (s47.trans (s49.trans (s55.trans s56)))))))))))))))))))))))))),trivial⟩
      ·refine aB hp (λhp=>?_) λhp=>?_
       ·obtain ⟨w57,s57⟩:=w55.pp [] 9
        exact aA hp ⟨rfl,w57,(s0.trans (s1.trans (s3.trans (s6.trans (s7.trans (s9.trans (s10.trans (s11.trans (s12.trans (s14.trans (s15.trans (s16.trans (s17.trans (s18.trans (s22.trans (s23.trans (s24.trans (s25.trans (s26.trans (s32.trans (s36.trans (s38.trans (s44.trans (s47.trans (s49.trans (s55.trans s57)))))))))))))))))))))))))),trivial⟩
       ·refine lI w55 5 ?_
        refine lSl w55 5 ?_
        obtain ⟨r58,e58,hp⟩:=ah hp
        refine aM (dk.P rfl ⟨w55,f21_0⟩ e58) ?_
        rintro _ H59 ⟨Kk,Kl,rfl,hl59_0,w59,s59,f59_0⟩
        refine br ?_
        refine lI w59 5 ?_
        refine lSl w59 5 ?_
        have f60:ROs (eSl eI) _ _ _ _:=W.borrow2 (oSl (cZ eI)) w59 f59_0
        obtain ⟨w60,s60⟩:=w59.right2
        obtain ⟨r61,e61,hp⟩:=ah hp
        refine aM (cX.P hl59_0 ⟨w60,f60⟩ e61) ?_
        rintro _ H62 ⟨rfl,w62,s62,_⟩
        obtain ⟨w63,s63⟩:=W.frame2 w59 w62 s62
        refine br ?_
        refine aB hp (λhp=>?_) λhp=>?_
        ·obtain ⟨w64,s64⟩:=w63.pp [] 9
         exact aA hp ⟨rfl,w64,(s0.trans (s1.trans (s3.trans (s6.trans (s7.trans (s9.trans (s10.trans (s11.trans (s12.trans (s14.trans (s15.trans (s16.trans (s17.trans (s18.trans (s22.trans (s23.trans (s24.trans (s25.trans (s26.trans (s32.trans (s36.trans (s38.trans (s44.trans (s47.trans (s49.trans (s55.trans (s59.trans (s63.trans s64)))))))))))))))))))))))))))),trivial⟩
        ·refine aB hp (λhp=>?_) λhp=>?_
         ·obtain ⟨w65,s65⟩:=w63.pp [] 9
          exact aA hp ⟨rfl,w65,(s0.trans (s1.trans (s3.trans (s6.trans (s7.trans (s9.trans (s10.trans (s11.trans (s12.trans (s14.trans (s15.trans (s16.trans (s17.trans (s18.trans (s22.trans (s23.trans (s24.trans (s25.trans (s26.trans (s32.trans (s36.trans (s38.trans (s44.trans (s47.trans (s49.trans (s55.trans (s59.trans (s63.trans s65)))))))))))))))))))))))))))),trivial⟩
         ·refine lSl w63 8 ?_
          refine lI w63 8 ?_
          obtain ⟨r66,e66,hp⟩:=ah hp
          refine aM (cv.P rfl ⟨w63,(aF.step (s1.trans (s3.trans (s6.trans (s7.trans (s9.trans (s10.trans (s11.trans (s12.trans (s14.trans (s15.trans (s16.trans (s17.trans (s18.trans (s22.trans (s23.trans (s24.trans (s25.trans (s26.trans (s32.trans (s36.trans (s38.trans (s44.trans (s47.trans (s49.trans (s55.trans (s59.trans s63)))))))))))))))))))))))))))⟩ e66) ?_
          rintro _ H67 ⟨o0a_67,o0n_67,o0c_67,o0k_67,rfl,rfl,w67,s67,f67_0⟩
          refine br (br (br (br (br ?_))))
          have f68:=W.borrow1 (aa eI (aa eI (aa eI (aa eI eI)))) w67 f67_0
          obtain ⟨w68,s68⟩:=w67.right1
          obtain ⟨r69,e69,hp⟩:=ah hp
          refine aM (ba.P rfl ⟨w68,f68⟩ e69) ?_
          rintro _ H70 ⟨o1a_70,o1n_70,o1c_70,o1k_70,o1m_70,rfl,rfl,w70,s70,f70_0⟩
          obtain ⟨w71,s71⟩:=W.frame1 w67 w70 s70
          refine br (br (br (br (br (br (br (br (br ?_))))))))
          refine aW w71 λH72 w72 s72=>?_
          refine aC w72 0 λH73 w73 s73=>?_
          refine aC w73 0 λH74 w74 s74=>?_
          refine lI w74 0 ?_
          refine lSl w74 0 ?_
          refine lI w74 11 ?_
          refine lSl w74 11 ?_
          obtain ⟨w75,s75⟩:=w74.pp [2,3,6,0,1,4,5,7,8,9,10,11,12] 13
          dsimp only [pk,pks,nth,List.drop,List.set,List.eraseIdx] at w75 s73 s74 s75
          have f76:ROs (eSl eI) _ _ _ _:=W.borrow2 (oSl (cZ eI)) w75 f70_0
          obtain ⟨w76,s76⟩:=w75.right2
          have f77:=W.borrow1 (eSl eI) w76 ((f9_0.step (s10.trans (s11.trans (s12.trans (s14.trans (s15.trans (s16.trans (s17.trans (s18.trans (s22.trans (s23.trans (s24.trans (s25.trans (s26.trans (s32.trans (s36.trans (s38.trans (s44.trans (s47.trans (s49.trans (s55.trans (s59.trans (s63.trans (s67.trans (s71.trans (s72.trans (s73.trans (s74.trans s75)))))))))))))))))))))))))))).step s76)
          obtain ⟨w77,s77⟩:=w76.right1
          obtain ⟨r78,e78,hp⟩:=ah hp
          refine aM (cF.P rfl rfl ⟨w77,(f76.step s77),f77⟩ e78) ?_
          rintro _ H79 ⟨rfl,w79,s79,_⟩
          obtain ⟨w80,s80⟩:=W.frame1 w76 w79 s79
          obtain ⟨w81,s81⟩:=W.frame2 w75 w80 s80
          refine br ?_
          refine aB hp (λhp=>?_) λhp=>?_
          ·obtain ⟨w82,s82⟩:=w81.pp [] 13
           exact aA hp ⟨rfl,w82,(s0.trans (s1.trans (s3.trans (s6.trans (s7.trans (s9.trans (s10.trans (s11.trans (s12.trans (s14.trans (s15.trans (s16.trans (s17.trans (s18.trans (s22.trans (s23.trans (s24.trans (s25.trans (s26.trans (s32.trans (s36.trans (s38.trans (s44.trans (s47.trans (s49.trans (s55.trans (s59.trans (s63.trans (s67.trans (s71.trans (s72.trans (s73.trans (s74.trans (s75.trans (s81.trans s82))))))))))))))))))))))))))))))))))),trivial⟩
          ·refine aB hp (λhp=>?_) λhp=>?_
           ·obtain ⟨w83,s83⟩:=w81.pp [] 13
            exact aA hp ⟨rfl,w83,(s0.trans (s1.trans (s3.trans (s6.trans (s7.trans (s9.trans (s10.trans (s11.trans (s12.trans (s14.trans (s15.trans (s16.trans (s17.trans (s18.trans (s22.trans (s23.trans (s24.trans (s25.trans (s26.trans (s32.trans (s36.trans (s38.trans (s44.trans (s47.trans (s49.trans (s55.trans (s59.trans (s63.trans (s67.trans (s71.trans (s72.trans (s73.trans (s74.trans (s75.trans (s81.trans s83))))))))))))))))))))))))))))))))))),trivial⟩
           ·refine lI w81 9 ?_
            refine lSl w81 9 ?_
            obtain ⟨w84,s84⟩:=w81.pp [5,6,0,1,2,3,4,7,8,9,10,11,12] 13
            dsimp only [pk,pks,nth,List.drop,List.set,List.eraseIdx] at w84 s84
            have f85:ROs (eSl eI) _ _ _ _:=W.borrow2 (oSl (cZ eI)) w84 f59_0
            obtain ⟨w85,s85⟩:=w84.right2
            obtain ⟨r86,e86,hp⟩:=ah hp
            refine aM (cX.P hl59_0 ⟨w85,f85⟩ e86) ?_
            rintro _ H87 ⟨rfl,w87,s87,_⟩
            obtain ⟨w88,s88⟩:=W.frame2 w84 w87 s87
            refine br ?_
            refine aB hp (λhp=>?_) λhp=>?_
            ·obtain ⟨w89,s89⟩:=w88.pp [] 13
             exact aA hp ⟨rfl,w89,(s0.trans (s1.trans (s3.trans (s6.trans (s7.trans (s9.trans (s10.trans (s11.trans (s12.trans (s14.trans (s15.trans (s16.trans (s17.trans (s18.trans (s22.trans (s23.trans (s24.trans (s25.trans (s26.trans (s32.trans (s36.trans (s38.trans (s44.trans (s47.trans (s49.trans (s55.trans (s59.trans (s63.trans (s67.trans (s71.trans (s72.trans (s73.trans (s74.trans (s75.trans (s81.trans (s84.trans (s88.trans s89))))))))))))))))))))))))))))))))))))),trivial⟩
            ·refine aB hp (λhp=>?_) λhp=>?_
             ·obtain ⟨w90,s90⟩:=w88.pp [] 13
              exact aA hp ⟨rfl,w90,(s0.trans (s1.trans (s3.trans (s6.trans (s7.trans (s9.trans (s10.trans (s11.trans (s12.trans (s14.trans (s15.trans (s16.trans (s17.trans (s18.trans (s22.trans (s23.trans (s24.trans (s25.trans (s26.trans (s32.trans (s36.trans (s38.trans (s44.trans (s47.trans (s49.trans (s55.trans (s59.trans (s63.trans (s67.trans (s71.trans (s72.trans (s73.trans (s74.trans (s75.trans (s81.trans (s84.trans (s88.trans s90))))))))))))))))))))))))))))))))))))),trivial⟩
             ·obtain ⟨w91,s91⟩:=w88.pp [] 13
              exact aA hp ⟨rfl,w91,(s0.trans (s1.trans (s3.trans (s6.trans (s7.trans (s9.trans (s10.trans (s11.trans (s12.trans (s14.trans (s15.trans (s16.trans (s17.trans (s18.trans (s22.trans (s23.trans (s24.trans (s25.trans (s26.trans (s32.trans (s36.trans (s38.trans (s44.trans (s47.trans (s49.trans (s55.trans (s59.trans (s63.trans (s67.trans (s71.trans (s72.trans (s73.trans (s74.trans (s75.trans (s81.trans (s84.trans (s88.trans s91))))))))))))))))))))))))))))))))))))),trivial⟩
end
end Go.Proofs.Ytodfdhnlhiaohaa.AE
