import Derived.Test.YtodfdhnlhiaohaaT1
import Derived.Test.YtodfdhnlhiaohaaE2
set_option linter.unusedVariables false
set_option linter.unusedSimpArgs false
namespace Go.Proofs.Ytodfdhnlhiaohaa.AE
open Go Go.AE Go.Proofs IntKind
set_option linter.unusedVariables false
variable {F:Nat} {H H0:Hp} {Ri R0:abR}
set_option maxHeartbeats 4000000
set_option maxRecDepth 100000
noncomputable section
def eX.Q (H0:Hp) (Ri R0:abR)  (r:Int) (v:AV) (H':Hp):Prop:=v=(.i r)/\Out H0 Ri H' (R0) λR=>True
def eX.p (F:Nat) (af:abX) (aq:Int):Option (Int):=(bif (decide ((wrap .i64 (aq - (af.length:Int)))<0)) then (some (-1)) else (some (wrap .i64 (aq - (af.length:Int)))))
theorem eX.P {ar aj au af aq} (aN:aj=af.length) (h0:Inn H R0 λR=>ROs (aa eI (aa eI (aa eI (aa eI eI)))) H R ⟨ar,aj,au⟩ af) {r:Int} (hp:eX.p F af aq=some r):Rt (eX.tw F ⟨ar,aj,au⟩ aq H) (eX.Q H R0 R0  r):=by
 obtain ⟨w0,aG⟩:=h0
 subst aN
 unfold eX.p at hp
 unfold eX.tw eX.twX
 have s0:=w0.rf
 refine ax hp (λhp=>?_) λhp=>?_
 ·exact aw hp ⟨rfl,w0,s0,trivial⟩
 ·exact aw hp ⟨rfl,w0,s0,trivial⟩
def dV.Q (H0:Hp) (Ri R0:abR)  (r:Int) (v:AV) (H':Hp):Prop:=v=(.i r)/\Out H0 Ri H' (R0) λR=>True
def dV.p (F:Nat) (af:abX) (ay:Int):Option (Int):=(eX.p F af ay).bind λr2=>(bif (decide (r2<0)) then (some (-1)) else (some r2))
theorem dV.P {ar aj au af ag ay} (aN:aj=af.length) (h0:Inn H R0 λR=>ROs (aa eI (aa eI (aa eI (aa eI eI)))) H R ⟨ar,aj,au⟩ af) {r:Int} (hp:dV.p F af ay=some r):Rt (dV.tw F ⟨ar,aj,au⟩ ag ay H) (dV.Q H R0 R0  r):=by
 obtain ⟨w0,aG⟩:=h0
 subst aN
 unfold dV.p at hp
 unfold dV.tw dV.twX
 have s0:=w0.rf
 refine a_ w0 λH1 w1 s1=>?_
 refine lSl w1 0 ?_
 obtain ⟨r2,e2,hp⟩:=ah hp
 refine aI (eX.P rfl ⟨w1,(aG.step s1)⟩ e2) ?_
 rintro _ H3 ⟨rfl,w3,s3,_⟩
 refine br ?_
 refine ax hp (λhp=>?_) λhp=>?_
 ·obtain ⟨w4,s4⟩:=w3.pp [] 1
  exact aw hp ⟨rfl,w4,(s0.trans (s1.trans (s3.trans s4))),trivial⟩
 ·obtain ⟨w5,s5⟩:=w3.pp [] 1
  exact aw hp ⟨rfl,w5,(s0.trans (s1.trans (s3.trans s5))),trivial⟩
def eR.Q (H0:Hp) (Ri R0:abR)  (r:acV) (v:AV) (H':Hp):Prop:=v=(.agg [(.i r.1),(.i r.2.1),(.i r.2.2.1),(.i r.2.2.2.1),(.i r.2.2.2.2)])/\Out H0 Ri H' (R0) λR=>True
def eR.p (F:Nat) (ac:Int) (ag:Int) (bG:Int) (bH:Int) (bz:Int):Option (Int×Int×Int×Int×Int):=some (ac,ag,bG,bH,bz)
theorem eR.P {ac ag bG bH bz}  (h0:Inn H R0 λR=>True) {r:acV} (hp:eR.p F ac ag bG bH bz=some r):Rt (eR.tw F ac ag bG bH bz H) (eR.Q H R0 R0  r):=by
 obtain ⟨w0,_⟩:=h0
 unfold eR.p at hp
 unfold eR.tw eR.twX
 have s0:=w0.rf
 refine a_ w0 λH1 w1 s1=>?_
 refine a_ w1 λH2 w2 s2=>?_
 refine a_ w2 λH3 w3 s3=>?_
 refine lI w3 2 ?_
 refine aA w3 0 λH4 w4 s4=>?_
 refine lI w4 2 ?_
 refine aA w4 0 λH5 w5 s5=>?_
 refine lI w5 2 ?_
 refine aA w5 0 λH6 w6 s6=>?_
 refine lI w6 2 ?_
 refine aA w6 0 λH7 w7 s7=>?_
 refine lI w7 2 ?_
 refine aA w7 0 λH8 w8 s8=>?_
 refine lI w8 0 ?_
 refine lI w8 0 ?_
 refine lI w8 0 ?_
 refine lI w8 0 ?_
 refine lI w8 0 ?_
 refine aA w8 1 λH9 w9 s9=>?_
 refine aA w9 1 λH10 w10 s10=>?_
 refine aA w10 1 λH11 w11 s11=>?_
 refine aA w11 1 λH12 w12 s12=>?_
 dsimp only [pk,pks,nth,List.drop,List.set,List.eraseIdx] at w12 s4 s5 s6 s7 s8 s9 s10 s11 s12
 refine aA w12 1 λH13 w13 s13=>?_
 refine lI w13 1 ?_
 refine lI w13 1 ?_
 refine lI w13 1 ?_
 refine lI w13 1 ?_
 refine lI w13 1 ?_
 obtain ⟨w14,s14⟩:=w13.pp [] 3
 exact aw hp ⟨rfl,w14,(s0.trans (s1.trans (s2.trans (s3.trans (s4.trans (s5.trans (s6.trans (s7.trans (s8.trans (s9.trans (s10.trans (s11.trans (s12.trans (s13.trans s14)))))))))))))),trivial⟩
def bM.Q (H0:Hp) (Ri R0:abR)  (r:(List (Int×Int×Int×Int×Int))) (v:AV) (H':Hp):Prop:=∃ o0a:ON,∃ o0n:Nat,∃ o0c:Cap,∃ o0k:List AV,v=(.sl ⟨o0a,o0n,o0c⟩)/\o0n=(r).length/\Out H0 Ri H' (Rs.own ⟨o0a,o0n,o0c⟩ (aa eI (aa eI (aa eI (aa eI eI)))).z o0k::R0) λR=>CR (aa eI (aa eI (aa eI (aa eI eI)))) H' R o0k (r)
def bM.S29 (H0:Hp) (Ri R0:abR)  (C:acF) (pC:List (Int×Int×Int×Int×Int)->List (Int×Int×Int×Int×Int)->Int->Option ((List (Int×Int×Int×Int×Int)))):Prop:=∀ {dt Ag cz wU du Ah aO jd Ai er},∀ {H:Hp},cz=aO.length->wU=jd.length->(Out H0 Ri H (Rs.own ⟨Ag,wU,Ah⟩ (aa eI (aa eI (aa eI (aa eI eI)))).z Ai::R0) λR=>ROs (aa eI (aa eI (aa eI (aa eI eI)))) H R ⟨dt,cz,du⟩ aO/\CR (aa eI (aa eI (aa eI (aa eI eI)))) H R Ai jd)->∀ {r:(List (Int×Int×Int×Int×Int))},pC aO jd er=some r->Rt (C ⟨dt,cz,du⟩ ⟨Ag,wU,Ah⟩ er H) (bM.Q H0 Ri R0  r)
def bM.pl29 (F:Nat) :Nat->List (Int×Int×Int×Int×Int)->List (Int×Int×Int×Int×Int)->Int->Option ((List (Int×Int×Int×Int×Int)))
 | 0,_,_,_=>none
 | k+1,aO,jd,er=>(bif (decide (er<(aO.length:Int))) then ((ix aO er).bind λn1=>(eR.p F ((gt aO n1).1) ((gt aO n1).2.1) ((gt aO n1).2.2.1) ((gt aO n1).2.2.2.1) ((gt aO n1).2.2.2.2)).bind λr2=>(ix jd er).bind λn4=>(some (jd.set n4 (r2.1,(gt jd n4).2.1,(gt jd n4).2.2.1,(gt jd n4).2.2.2.1,(gt jd n4).2.2.2.2))).bind λl5=>(some (l5.set n4 ((gt l5 n4).1,r2.2.1,(gt l5 n4).2.2.1,(gt l5 n4).2.2.2.1,(gt l5 n4).2.2.2.2))).bind λl7=>(some (l7.set n4 ((gt l7 n4).1,(gt l7 n4).2.1,r2.2.2.1,(gt l7 n4).2.2.2.1,(gt l7 n4).2.2.2.2))).bind λl9=>(some (l9.set n4 ((gt l9 n4).1,(gt l9 n4).2.1,(gt l9 n4).2.2.1,r2.2.2.2.1,(gt l9 n4).2.2.2.2))).bind λl11=>(some (l11.set n4 ((gt l11 n4).1,(gt l11 n4).2.1,(gt l11 n4).2.2.1,(gt l11 n4).2.2.2.1,r2.2.2.2.2))).bind λl13=>bM.pl29 F k aO l13 (wrap .i64 (er+1))) else (some jd))
theorem bM.l29_P  :∀ k,bM.S29 H0 Ri R0  (bM.l29 F (eR.tw F)  k) (bM.pl29 F  k):=by
 intro k
 induction k with
 | zero=>unfold bM.S29;intros;rename_i hp;cases hp
 | succ k ih=>
  intro dt Ag cz wU du Ah aO jd Ai er H fB TT h0 r hp
  obtain ⟨w0,s0,dh,Aj⟩:=h0
  subst fB
  subst TT
  unfold bM.pl29 at hp
  unfold bM.l29
  refine ax hp (λhp=>?_) λhp=>?_
  ·obtain ⟨n1,g1,hp⟩:=ah hp
   obtain ⟨p1,q1,i1,h1,j1⟩:=ROs.ixr dh rfl g1
   refine ai i1 ?_
   obtain ⟨_,_,rfl,rfl,_,_,rfl,rfl,_,_,rfl,rfl,_,_,rfl,rfl,rfl⟩:=h1
   refine ai (aH (j1 0 _ rfl)) ?_
   refine ai (aH (j1 1 _ rfl)) ?_
   refine ai (aH (j1 2 _ rfl)) ?_
   refine ai (aH (j1 3 _ rfl)) ?_
   refine ai (aH (j1 4 _ rfl)) ?_
   obtain ⟨r2,e2,hp⟩:=ah hp
   refine aI (eR.P ⟨w0,trivial⟩ e2) ?_
   rintro _ H3 ⟨rfl,w3,s3,_⟩
   refine br (br (br (br (br (br (br (br (br (br (br ?_))))))))))
   obtain ⟨n4,g4,hp⟩:=ah hp
   obtain ⟨p4,q4,i4,h4,j4⟩:=W.ixo (E:=(aa eI (aa eI (aa eI (aa eI eI))))) w3 (i:=0) rfl rfl (Aj.step s3) g4
   refine ai i4 ?_
   obtain ⟨l5,e5,hp⟩:=ah hp
   refine eA (aa eI (aa eI (aa eI (aa eI eI)))) w3 (i:=0) (j:=0) (p:=p4) rfl rfl (Aj.step s3) g4 i4 e5 rfl rfl (λ_ h=>by obtain ⟨_,_,rfl,rfl,_,_,rfl,rfl,_,_,rfl,rfl,_,_,rfl,rfl,rfl⟩:=h;exact ⟨[_],_,rfl,rfl,[_],_,rfl,rfl,[_],_,rfl,rfl,[_],_,rfl,rfl,rfl⟩) λH6 k6 w6 s6 c6=>?_
   obtain ⟨l7,e7,hp⟩:=ah hp
   refine eA (aa eI (aa eI (aa eI (aa eI eI)))) w6 (i:=0) (j:=1) (p:=p4) rfl rfl c6 (sv g4 (cE e5)) i4 e7 rfl rfl (λ_ h=>by obtain ⟨_,_,rfl,rfl,_,_,rfl,rfl,_,_,rfl,rfl,_,_,rfl,rfl,rfl⟩:=h;exact ⟨[_],_,rfl,rfl,[_],_,rfl,rfl,[_],_,rfl,rfl,[_],_,rfl,rfl,rfl⟩) λH8 k8 w8 s8 c8=>?_
   obtain ⟨l9,e9,hp⟩:=ah hp
   refine eA (aa eI (aa eI (aa eI (aa eI eI)))) w8 (i:=0) (j:=2) (p:=p4) rfl rfl c8 (sv g4 ((cE e7).trans (cE e5))) i4 e9 rfl rfl (λ_ h=>by obtain ⟨_,_,rfl,rfl,_,_,rfl,rfl,_,_,rfl,rfl,_,_,rfl,rfl,rfl⟩:=h;exact ⟨[_],_,rfl,rfl,[_],_,rfl,rfl,[_],_,rfl,rfl,[_],_,rfl,rfl,rfl⟩) λH10 k10 w10 s10 c10=>?_
   obtain ⟨l11,e11,hp⟩:=ah hp
   refine eA (aa eI (aa eI (aa eI (aa eI eI)))) w10 (i:=0) (j:=3) (p:=p4) rfl rfl c10 (sv g4 (((cE e9).trans (cE e7)).trans (cE e5))) i4 e11 rfl rfl (λ_ h=>by obtain ⟨_,_,rfl,rfl,_,_,rfl,rfl,_,_,rfl,rfl,_,_,rfl,rfl,rfl⟩:=h;exact ⟨[_],_,rfl,rfl,[_],_,rfl,rfl,[_],_,rfl,rfl,[_],_,rfl,rfl,rfl⟩) λH12 k12 w12 s12 c12=>?_
   obtain ⟨l13,e13,hp⟩:=ah hp
   refine eA (aa eI (aa eI (aa eI (aa eI eI)))) w12 (i:=0) (j:=4) (p:=p4) rfl rfl c12 (sv g4 ((((cE e11).trans (cE e9)).trans (cE e7)).trans (cE e5))) i4 e13 rfl rfl (λ_ h=>by obtain ⟨_,_,rfl,rfl,_,_,rfl,rfl,_,_,rfl,rfl,_,_,rfl,rfl,rfl⟩:=h;exact ⟨[_],_,rfl,rfl,[_],_,rfl,rfl,[_],_,rfl,rfl,[_],_,rfl,rfl,rfl⟩) λH14 k14 w14 s14 c14=>?_
   exact ih rfl (((((cE e5).symm.trans (cE e7).symm).trans (cE e9).symm).trans (cE e11).symm).trans (cE e13).symm) ⟨w14,(s0.trans (s3.trans (s6.trans (s8.trans (s10.trans (s12.trans s14)))))),(dh.step (s3.trans (s6.trans (s8.trans (s10.trans (s12.trans s14)))))),c14⟩ hp
  ·exact aw hp ⟨_,_,_,_,rfl,rfl,w0,s0,Aj⟩
def bM.p (F:Nat) (af:abX):Option ((List (Int×Int×Int×Int×Int))):=(mkn (af.length:Int) ((0:Int),(0:Int),(0:Int),(0:Int),(0:Int))).bind λl1=>bM.pl29 F F af l1 0
theorem bM.P {ar aj au af} (aN:aj=af.length) (h0:Inn H R0 λR=>ROs (aa eI (aa eI (aa eI (aa eI eI)))) H R ⟨ar,aj,au⟩ af) {r:(List (Int×Int×Int×Int×Int))} (hp:bM.p F af=some r):Rt (bM.tw F ⟨ar,aj,au⟩ H) (bM.Q H R0 R0  r):=by
 obtain ⟨w0,aG⟩:=h0
 subst aN
 unfold bM.p at hp
 unfold bM.tw bM.twX
 have s0:=w0.rf
 obtain ⟨l1,e1,hp⟩:=ah hp
 refine mN (aa eI (aa eI (aa eI (aa eI eI)))) ((0:Int),(0:Int),(0:Int),(0:Int),(0:Int)) w0 ⟨[_],_,rfl,rfl,⟨[_],_,rfl,rfl,⟨[_],_,rfl,rfl,⟨[_],_,rfl,rfl,rfl⟩⟩⟩⟩ rfl rfl e1 λH2 k2 w2 s2 c2=>?_
 exact bM.l29_P F rfl rfl ⟨w2,(s0.trans s2),(aG.step s2),c2⟩ hp
def dj.Q (H0:Hp) (Ri R0:abR)  (r:(List (Int×Int×Int×Int×Int))×Int) (v:AV) (H':Hp):Prop:=∃ o0a:ON,∃ o0n:Nat,∃ o0c:Cap,∃ o0k:List AV,v=(.agg [(.sl ⟨o0a,o0n,o0c⟩),(.i r.2)])/\o0n=(r.1).length/\Out H0 Ri H' (Rs.own ⟨o0a,o0n,o0c⟩ (aa eI (aa eI (aa eI (aa eI eI)))).z o0k::R0) λR=>CR (aa eI (aa eI (aa eI (aa eI eI)))) H' R o0k (r.1)
def dj.p (F:Nat) (af:abX) (ag:Int):Option ((List (Int×Int×Int×Int×Int))×Int):=(bM.p F af).bind λr4=>some (r4,ag)
theorem dj.P {ar aj au af ag} (aN:aj=af.length) (h0:Inn H R0 λR=>ROs (aa eI (aa eI (aa eI (aa eI eI)))) H R ⟨ar,aj,au⟩ af) {r:(List (Int×Int×Int×Int×Int))×Int} (hp:dj.p F af ag=some r):Rt (dj.tw F ⟨ar,aj,au⟩ ag H) (dj.Q H R0 R0  r):=by
 obtain ⟨w0,aG⟩:=h0
 subst aN
 unfold dj.p at hp
 unfold dj.tw dj.twX
 have s0:=w0.rf
 refine a_ w0 λH1 w1 s1=>?_
 refine a_ w1 λH2 w2 s2=>?_
 refine a_ w2 λH3 w3 s3=>?_
 refine lSl w3 2 ?_
 obtain ⟨r4,e4,hp⟩:=ah hp
 refine aI (bM.P rfl ⟨w3,(aG.step (s1.trans (s2.trans s3)))⟩ e4) ?_
 rintro _ H5 ⟨o0a_5,o0n_5,o0c_5,o0k_5,rfl,rfl,w5,s5,f5_0⟩
 refine br ?_
 refine aA w5 1 λH6 w6 s6=>?_
 refine lI w6 3 ?_
 refine aA w6 1 λH7 w7 s7=>?_
 refine lSl w7 1 ?_
 refine lI w7 1 ?_
 refine aA w7 2 λH8 w8 s8=>?_
 refine aA w8 2 λH9 w9 s9=>?_
 refine lSl w9 2 ?_
 refine lI w9 2 ?_
 obtain ⟨w10,s10⟩:=w9.pp [0] 4
 exact aw hp ⟨_,_,_,_,rfl,rfl,w10,(s0.trans (s1.trans (s2.trans (s3.trans (s5.trans (s6.trans (s7.trans (s8.trans (s9.trans s10))))))))),(f5_0.step (s6.trans (s7.trans (s8.trans (s9.trans s10)))))⟩
def dx.Q (H0:Hp) (Ri R0:abR)  (r:Bool) (v:AV) (H':Hp):Prop:=v=(.bool r)/\Out H0 Ri H' (R0) λR=>True
def dx.p (F:Nat) (ac:Int) (aq:Int) (dy:Int):Option (Bool):=(bif (decide (ac>=aq)) then (some (decide (ac<=dy))) else (some false))
theorem dx.P {ac aq dy}  (h0:Inn H R0 λR=>True) {r:Bool} (hp:dx.p F ac aq dy=some r):Rt (dx.tw F ac aq dy H) (dx.Q H R0 R0  r):=by
 obtain ⟨w0,_⟩:=h0
 unfold dx.p at hp
 unfold dx.tw dx.twX
 have s0:=w0.rf
 refine ax hp (λhp=>?_) λhp=>?_
 ·exact aw hp ⟨rfl,w0,s0,trivial⟩
 ·exact aw hp ⟨rfl,w0,s0,trivial⟩
def cA.Q (H0:Hp) (Ri R0:abR)  (r:Int) (v:AV) (H':Hp):Prop:=v=(.i r)/\Out H0 Ri H' (R0) λR=>True
def cA.p (F:Nat) (ac:Int) (ag:Int) (bG:Int) (bH:Int) (cf:Int):Option (Int):=(ix ([ac,ag,bG,bH]:List Int) cf).bind λn3=>some (gt ([ac,ag,bG,bH]:List Int) n3)
theorem cA.P {ac ag bG bH bz cf}  (h0:Inn H R0 λR=>True) {r:Int} (hp:cA.p F ac ag bG bH cf=some r):Rt (cA.tw F ac ag bG bH bz cf H) (cA.Q H R0 R0  r):=by
 obtain ⟨w0,_⟩:=h0
 unfold cA.p at hp
 unfold cA.tw cA.twX
 have s0:=w0.rf
 refine a_ w0 λH1 w1 s1=>?_
 refine lI w1 0 ?_
 refine lI w1 0 ?_
 refine lI w1 0 ?_
 refine lI w1 0 ?_
 refine cI eI w1 (n:=4) (l:=([ac,ag,bG,bH]:List Int)) rfl (CR.cons1 rfl (CR.cons1 rfl (CR.cons1 rfl (CR.cons1 rfl CR.empty)))) rfl λH2 w2 s2 c2=>?_
 obtain ⟨n3,g3,hp⟩:=ah hp
 obtain ⟨p3,q3,i3,h3,j3⟩:=W.ixo (E:=eI) w2 (i:=0) rfl rfl c2 g3
 refine ai i3 ?_
 have h3:_=[_]:=h3
 subst h3
 refine ai (aH (j3 0 _ rfl)) ?_
 obtain ⟨w4,s4⟩:=w2.pp [] 2
 exact aw hp ⟨rfl,w4,(s0.trans (s1.trans (s2.trans s4))),trivial⟩
def cB.Q (H0:Hp) (Ri R0:abR)  (r:Bool) (v:AV) (H':Hp):Prop:=v=(.bool r)/\Out H0 Ri H' (R0) λR=>True
def cB.p (F:Nat) (bz:Int) (cf:Int):Option (Bool):=(bif (cf==0) then (some true) else ((bif (cf==3) then ((bif (bz==1) then (some true) else ((bif (cf==1) then (some (bz==(-1))) else (some false))))) else ((bif (cf==1) then (some (bz==(-1))) else (some false))))))
theorem cB.P {ac ag bG bH bz cf}  (h0:Inn H R0 λR=>True) {r:Bool} (hp:cB.p F bz cf=some r):Rt (cB.tw F ac ag bG bH bz cf H) (cB.Q H R0 R0  r):=by
 obtain ⟨w0,_⟩:=h0
 unfold cB.p at hp
 unfold cB.tw cB.twX
 have s0:=w0.rf
 refine a_ w0 λH1 w1 s1=>?_
 refine ax hp (λhp=>?_) λhp=>?_
 ·obtain ⟨w2,s2⟩:=w1.pp [] 1
  exact aw hp ⟨rfl,w2,(s0.trans (s1.trans s2)),trivial⟩
 ·refine ax hp (λhp=>?_) λhp=>?_
  ·refine lI w1 0 ?_
   refine ax hp (λhp=>?_) λhp=>?_
   ·obtain ⟨w3,s3⟩:=w1.pp [] 1
    exact aw hp ⟨rfl,w3,(s0.trans (s1.trans s3)),trivial⟩
   ·refine ax hp (λhp=>?_) λhp=>?_
    ·refine lI w1 0 ?_
     obtain ⟨w4,s4⟩:=w1.pp [] 1
     exact aw hp ⟨rfl,w4,(s0.trans (s1.trans s4)),trivial⟩
    ·obtain ⟨w5,s5⟩:=w1.pp [] 1
     exact aw hp ⟨rfl,w5,(s0.trans (s1.trans s5)),trivial⟩
  ·refine ax hp (λhp=>?_) λhp=>?_
   ·refine lI w1 0 ?_
    obtain ⟨w6,s6⟩:=w1.pp [] 1
    exact aw hp ⟨rfl,w6,(s0.trans (s1.trans s6)),trivial⟩
   ·obtain ⟨w7,s7⟩:=w1.pp [] 1
    exact aw hp ⟨rfl,w7,(s0.trans (s1.trans s7)),trivial⟩
def aW.Q (H0:Hp) (Ri R0:abR)  (r:Bool) (v:AV) (H':Hp):Prop:=v=(.bool r)/\Out H0 Ri H' (R0) λR=>True
def aW.S61 (H0:Hp) (Ri R0:abR)  (C:acH) (pC:acL):Prop:=∀ {nr ns Ak lg fi lj wV nu nv Al dK tl ga gH fT nw nx Am},∀ {H:Hp},lg=dK.length->lj=fT.length->wV=nw.length->(Out H0 Ri H (Rs.blk fi [.sl ⟨nr,lg,nu⟩,.i tl]::Rs.own ⟨ns,lj,nv⟩ b_.z nx::Rs.own ⟨Ak,wV,Al⟩ b_.z Am::R0) λR=>ROs (aa eI (aa eI (aa eI (aa eI eI)))) H R ⟨nr,lg,nu⟩ dK/\CR b_ H R nx fT/\CR b_ H R Am nw)->∀ {r:Bool},pC dK ga fT nw gH=some r->Rt (C fi 0 ga ⟨ns,lj,nv⟩ ⟨Ak,wV,Al⟩ gH H) (aW.Q H0 Ri R0  r)
def aW.S3927 (H0:Hp) (Ri R0:abR)  (C:Nat->Nat->Int->Sl->Sl->Int->Nat->Nat->Int->Hp->OA) (pC:List (Int×Int×Int×Int×Int)->Int->List Bool->List Bool->Int->Int->Int->Int->Int->Int->Int->Option (Bool)):Prop:=∀ {An Ao Aq wW kO wX wY fH Ar As Au mo Jo gG fG ny nA nB nC nD f_ jW jX Av Aw},∀ {H:Hp},wW=mo.length->wX=jW.length->wY=jX.length->(Out H0 Ri H (Rs.blk kO [.sl ⟨An,wW,Ar⟩,.i Jo]::Rs.own ⟨Ao,wX,As⟩ b_.z Av::Rs.own ⟨Aq,wY,Au⟩ b_.z Aw::Rs.blk fH [.i ny,.i nA,.i nB,.i nC,.i nD]::R0) λR=>ROs (aa eI (aa eI (aa eI (aa eI eI)))) H R ⟨An,wW,Ar⟩ mo/\CR b_ H R Av jW/\CR b_ H R Aw jX)->∀ {r:Bool},pC mo gG jW jX fG ny nA nB nC nD f_=some r->Rt (C kO 0 gG ⟨Ao,wX,As⟩ ⟨Aq,wY,Au⟩ fG fH 0 f_ H) (aW.Q H0 Ri R0  r)
def aW.pl3927 (F:Nat) (az:acL):Nat->List (Int×Int×Int×Int×Int)->Int->List Bool->List Bool->Int->Int->Int->Int->Int->Int->Int->Option (Bool)
 | 0,_,_,_,_,_,_,_,_,_,_,_=>none
 | k+1,mo,gG,jW,jX,fG,ny,nA,nB,nC,nD,f_=>(bif (decide (f_<4)) then ((cA.p F ny nA nB nC f_).bind λr1=>(dx.p F r1 0 (wrap .i64 (gG - 1))).bind λr3=>(bif (!r3) then (some false) else ((cB.p F nD f_).bind λr6=>(bif r6 then ((ix jW r1).bind λn8=>(bif (gt jW n8) then (some false) else ((ix jW r1).bind λn10=>(some (jW.set n10 true)).bind λl11=>aW.pl3927 F az k mo gG l11 jX fG ny nA nB nC nD (wrap .i64 (f_+1))))) else ((ix jX r1).bind λn13=>(bif (gt jX n13) then (some false) else ((ix jX r1).bind λn15=>(some (jX.set n15 true)).bind λl16=>aW.pl3927 F az k mo gG jW l16 fG ny nA nB nC nD (wrap .i64 (f_+1))))))))) else (az mo gG jW jX (wrap .i64 (fG+1))))
theorem aW.l3927_P  {C61_:acH} {az:acL} (hC61:aW.S61 H0 Ri R0  C61_ az):∀ k,aW.S3927 H0 Ri R0  (aW.l3927 F (cA.tw F) (dx.tw F) (cB.tw F) C61_ k) (aW.pl3927 F az k):=by
 intro k
 induction k with
 | zero=>unfold aW.S3927;intros;rename_i hp;cases hp
 | succ k ih=>
  intro An Ao Aq wW kO wX wY fH Ar As Au mo Jo gG fG ny nA nB nC nD f_ jW jX Av Aw H TU TV TW h0 r hp
  obtain ⟨w0,s0,Ax,tn,tp⟩:=h0
  subst TU
  subst TV
  subst TW
  unfold aW.pl3927 at hp
  unfold aW.l3927
  refine ax hp (λhp=>?_) λhp=>?_
  ·refine lI w0 3 ?_
   refine lI w0 3 ?_
   refine lI w0 3 ?_
   refine lI w0 3 ?_
   refine lI w0 3 ?_
   obtain ⟨r1,e1,hp⟩:=ah hp
   refine aI (cA.P ⟨w0,trivial⟩ e1) ?_
   rintro _ H2 ⟨rfl,w2,s2,_⟩
   refine br ?_
   obtain ⟨r3,e3,hp⟩:=ah hp
   refine aI (dx.P ⟨w2,trivial⟩ e3) ?_
   rintro _ H4 ⟨rfl,w4,s4,_⟩
   refine br ?_
   refine ax hp (λhp=>?_) λhp=>?_
   ·obtain ⟨w5,s5⟩:=w4.pp [] 4
    exact aw hp ⟨rfl,w5,(s0.trans (s2.trans (s4.trans s5))),trivial⟩
   ·refine lI w4 3 ?_
    refine lI w4 3 ?_
    refine lI w4 3 ?_
    refine lI w4 3 ?_
    refine lI w4 3 ?_
    obtain ⟨r6,e6,hp⟩:=ah hp
    refine aI (cB.P ⟨w4,trivial⟩ e6) ?_
    rintro _ H7 ⟨rfl,w7,s7,_⟩
    refine br ?_
    refine ax hp (λhp=>?_) λhp=>?_
    ·obtain ⟨n8,g8,hp⟩:=ah hp
     obtain ⟨p8,q8,i8,h8,j8⟩:=W.ixo (E:=b_) w7 (i:=1) rfl rfl (tn.step (s2.trans (s4.trans s7))) g8
     refine ai i8 ?_
     have h8:_=[_]:=h8
     subst h8
     refine ai (sw (j8 0 _ rfl)) ?_
     refine ax hp (λhp=>?_) λhp=>?_
     ·obtain ⟨w9,s9⟩:=w7.pp [] 4
      exact aw hp ⟨rfl,w9,(s0.trans (s2.trans (s4.trans (s7.trans s9)))),trivial⟩
     ·obtain ⟨n10,g10,hp⟩:=ah hp
      obtain ⟨p10,q10,i10,h10,j10⟩:=W.ixo (E:=b_) w7 (i:=1) rfl rfl (tn.step (s2.trans (s4.trans s7))) g10
      refine ai i10 ?_
      obtain ⟨l11,e11,hp⟩:=ah hp
      refine eA b_ w7 (i:=1) (j:=0) (p:=p10) rfl rfl (tn.step (s2.trans (s4.trans s7))) g10 i10 e11 rfl rfl (λ_ h=>by have h:_=[_]:=h;subst h;exact rfl) λH12 k12 w12 s12 c12=>?_
      exact ih rfl ((cE e11).symm) rfl ⟨w12,(s0.trans (s2.trans (s4.trans (s7.trans s12)))),(Ax.step (s2.trans (s4.trans (s7.trans s12)))),c12,(tp.step (s2.trans (s4.trans (s7.trans s12))))⟩ hp
    ·obtain ⟨n13,g13,hp⟩:=ah hp
     obtain ⟨p13,q13,i13,h13,j13⟩:=W.ixo (E:=b_) w7 (i:=2) rfl rfl (tp.step (s2.trans (s4.trans s7))) g13
     refine ai i13 ?_
     have h13:_=[_]:=h13
     subst h13
     refine ai (sw (j13 0 _ rfl)) ?_
     refine ax hp (λhp=>?_) λhp=>?_
     ·obtain ⟨w14,s14⟩:=w7.pp [] 4
      exact aw hp ⟨rfl,w14,(s0.trans (s2.trans (s4.trans (s7.trans s14)))),trivial⟩
     ·obtain ⟨n15,g15,hp⟩:=ah hp
      obtain ⟨p15,q15,i15,h15,j15⟩:=W.ixo (E:=b_) w7 (i:=2) rfl rfl (tp.step (s2.trans (s4.trans s7))) g15
      refine ai i15 ?_
      obtain ⟨l16,e16,hp⟩:=ah hp
      refine eA b_ w7 (i:=2) (j:=0) (p:=p15) rfl rfl (tp.step (s2.trans (s4.trans s7))) g15 i15 e16 rfl rfl (λ_ h=>by have h:_=[_]:=h;subst h;exact rfl) λH17 k17 w17 s17 c17=>?_
      exact ih rfl rfl ((cE e16).symm) ⟨w17,(s0.trans (s2.trans (s4.trans (s7.trans s17)))),(Ax.step (s2.trans (s4.trans (s7.trans s17)))),(tn.step (s2.trans (s4.trans (s7.trans s17)))),c17⟩ hp
  ·obtain ⟨w18,s18⟩:=w0.pp [0,1,2] 4
   exact hC61 rfl rfl rfl ⟨w18,(s0.trans s18),(Ax.step s18),(tn.step s18),(tp.step s18)⟩ hp
def aW.pl61 (F:Nat) :Nat->List (Int×Int×Int×Int×Int)->Int->List Bool->List Bool->Int->Option (Bool)
 | 0,_,_,_,_,_=>none
 | k+1,dK,ga,fT,nw,gH=>(bif (decide (gH<(dK.length:Int))) then ((ix dK gH).bind λn1=>(bif (((gt dK n1).2.2.2.2) != 1) then ((bif (((gt dK n1).2.2.2.2) != (-1)) then (some false) else (aW.pl3927 F (aW.pl61 F k) F dK ga fT nw gH ((gt dK n1).1) ((gt dK n1).2.1) ((gt dK n1).2.2.1) ((gt dK n1).2.2.2.1) ((gt dK n1).2.2.2.2) 0))) else (aW.pl3927 F (aW.pl61 F k) F dK ga fT nw gH ((gt dK n1).1) ((gt dK n1).2.1) ((gt dK n1).2.2.1) ((gt dK n1).2.2.2.1) ((gt dK n1).2.2.2.2) 0))) else (some true))
theorem aW.l61_P  :∀ k,aW.S61 H0 Ri R0  (aW.l61 F (cA.tw F) (dx.tw F) (cB.tw F)  k) (aW.pl61 F  k):=by
 intro k
 induction k with
 | zero=>unfold aW.S61;intros;rename_i hp;cases hp
 | succ k ih=>
  intro nr ns Ak lg fi lj wV nu nv Al dK tl ga gH fT nw nx Am H Ay Az TX h0 r hp
  obtain ⟨w0,s0,rP,rQ,Jp⟩:=h0
  subst Ay
  subst Az
  subst TX
  unfold aW.pl61 at hp
  unfold aW.l61
  refine lSl w0 0 ?_
  refine ax hp (λhp=>?_) λhp=>?_
  ·refine lSl w0 0 ?_
   obtain ⟨n1,g1,hp⟩:=ah hp
   obtain ⟨p1,q1,i1,h1,j1⟩:=ROs.ixr rP rfl g1
   refine ai i1 ?_
   obtain ⟨_,_,rfl,rfl,_,_,rfl,rfl,_,_,rfl,rfl,_,_,rfl,rfl,rfl⟩:=h1
   refine ai (aH (j1 0 _ rfl)) ?_
   refine ai (aH (j1 1 _ rfl)) ?_
   refine ai (aH (j1 2 _ rfl)) ?_
   refine ai (aH (j1 3 _ rfl)) ?_
   refine ai (aH (j1 4 _ rfl)) ?_
   refine a_ w0 λH2 w2 s2=>?_
   refine aA w2 0 λH3 w3 s3=>?_
   refine aA w3 0 λH4 w4 s4=>?_
   refine aA w4 0 λH5 w5 s5=>?_
   refine aA w5 0 λH6 w6 s6=>?_
   refine aA w6 0 λH7 w7 s7=>?_
   refine lI w7 0 ?_
   refine ax hp (λhp=>?_) λhp=>?_
   ·refine lI w7 0 ?_
    refine ax hp (λhp=>?_) λhp=>?_
    ·obtain ⟨w8,s8⟩:=w7.pp [] 4
     exact aw hp ⟨rfl,w8,(s0.trans (s2.trans (s3.trans (s4.trans (s5.trans (s6.trans (s7.trans s8))))))),trivial⟩
    ·obtain ⟨w9,s9⟩:=w7.pp [1,2,3,0] 4
     exact aW.l3927_P (@ih) F rfl rfl rfl ⟨w9,(s0.trans (s2.trans (s3.trans (s4.trans (s5.trans (s6.trans (s7.trans s9))))))),(rP.step (s2.trans (s3.trans (s4.trans (s5.trans (s6.trans (s7.trans s9))))))),(rQ.step (s2.trans (s3.trans (s4.trans (s5.trans (s6.trans (s7.trans s9))))))),(Jp.step (s2.trans (s3.trans (s4.trans (s5.trans (s6.trans (s7.trans s9)))))))⟩ hp
   ·obtain ⟨w10,s10⟩:=w7.pp [1,2,3,0] 4
    exact aW.l3927_P (@ih) F rfl rfl rfl ⟨w10,(s0.trans (s2.trans (s3.trans (s4.trans (s5.trans (s6.trans (s7.trans s10))))))),(rP.step (s2.trans (s3.trans (s4.trans (s5.trans (s6.trans (s7.trans s10))))))),(rQ.step (s2.trans (s3.trans (s4.trans (s5.trans (s6.trans (s7.trans s10))))))),(Jp.step (s2.trans (s3.trans (s4.trans (s5.trans (s6.trans (s7.trans s10)))))))⟩ hp
  ·obtain ⟨w11,s11⟩:=w0.pp [] 3
   exact aw hp ⟨rfl,w11,(s0.trans s11),trivial⟩
def aW.p (F:Nat) (af:abX):Option (Bool):=(mkn (wrap .i64 (2 * (af.length:Int))) false).bind λl2=>(mkn (wrap .i64 (2 * (af.length:Int))) false).bind λl4=>aW.pl61 F F af (wrap .i64 (2 * (af.length:Int))) l2 l4 0
theorem aW.P {ar aj au af ag} (aN:aj=af.length) (h0:Inn H R0 λR=>ROs (aa eI (aa eI (aa eI (aa eI eI)))) H R ⟨ar,aj,au⟩ af) {r:Bool} (hp:aW.p F af=some r):Rt (aW.tw F ⟨ar,aj,au⟩ ag H) (aW.Q H R0 R0  r):=by
 obtain ⟨w0,aG⟩:=h0
 subst aN
 unfold aW.p at hp
 unfold aW.tw aW.twX
 have s0:=w0.rf
 refine a_ w0 λH1 w1 s1=>?_
 refine lSl w1 0 ?_
 obtain ⟨l2,e2,hp⟩:=ah hp
 refine mN b_ false w1 rfl rfl rfl e2 λH3 k3 w3 s3 c3=>?_
 obtain ⟨l4,e4,hp⟩:=ah hp
 refine mN b_ false w3 rfl rfl rfl e4 λH5 k5 w5 s5 c5=>?_
 obtain ⟨w6,s6⟩:=w5.pp [2,1,0] 3
 exact aW.l61_P F rfl rfl rfl ⟨w6,(s0.trans (s1.trans (s3.trans (s5.trans s6)))),(aG.step (s1.trans (s3.trans (s5.trans s6)))),(c3.step (s5.trans s6)),(c5.step s6)⟩ hp
def aB.Q (H0:Hp) (Ri R0:abR)  (r:acf) (v:AV) (H':Hp):Prop:=v=(.tup [(.i r.1),(.i r.2)])/\Out H0 Ri H' (R0) λR=>True
def aB.S13 (H0:Hp) (Ri R0:abR)  (C:acq) (pC:acw):Prop:=∀ {bV Jq jr fk AA wZ iq AB nE},∀ {H:Hp},wZ=nE.length->(Out H0 Ri H (Rs.blk iq [.sl ⟨AA,wZ,AB⟩,.i Jq]::R0) λR=>ROs (aa eI (aa eI (aa eI (aa eI eI)))) H R ⟨AA,wZ,AB⟩ nE)->∀ {r:acf},pC bV fk nE jr=some r->Rt (C bV fk iq 0 jr H) (aB.Q H0 Ri R0  r)
def aB.S213 (H0:Hp) (Ri R0:abR)  (C:Int->Bool->Nat->Nat->Int->Int->Hp->OA) (pC:Int->Bool->List (Int×Int×Int×Int×Int)->Int->Int->Option (Int×Int)):Prop:=∀ {gJ Jr fj cD gK AC w_ jq AD g_},∀ {H:Hp},w_=g_.length->(Out H0 Ri H (Rs.blk jq [.sl ⟨AC,w_,AD⟩,.i Jr]::R0) λR=>ROs (aa eI (aa eI (aa eI (aa eI eI)))) H R ⟨AC,w_,AD⟩ g_)->∀ {r:acf},pC gJ gK g_ fj cD=some r->Rt (C gJ gK jq 0 fj cD H) (aB.Q H0 Ri R0  r)
def aB.pj3 (F:Nat) (gB:acw) (lM:Int) (pa:Bool) (tq:abX) (pc:Int):Option (Int×Int):=gB lM pa tq (wrap .i64 (pc+1))
theorem aB.j3_P  {C13_:acq} {gB:acw} (hC13:aB.S13 H0 Ri R0  C13_ gB) {lM TY pc pa Js AF pb Jt tq} (TZ:AF=tq.length) (h0:Out H0 Ri H (Rs.blk pb [.sl ⟨Js,AF,Jt⟩,.i TY]::R0) λR=>ROs (aa eI (aa eI (aa eI (aa eI eI)))) H R ⟨Js,AF,Jt⟩ tq) {r:acf} (hp:aB.pj3 F gB lM pa tq pc=some r):Rt (aB.j3 F (cA.tw F) (cB.tw F) C13_ lM pa pb 0 pc H) (aB.Q H0 Ri R0  r):=by
 obtain ⟨w0,s0,T_⟩:=h0
 subst TZ
 unfold aB.pj3 at hp
 unfold aB.j3
 exact hC13 rfl ⟨w0,s0,T_⟩ hp
def aB.pj4 (F:Nat) (gB:acw) (gI:Int) (pd:Bool) (tt:abX) (pe:Int):Option (Int×Int):=aB.pj3 F gB gI pd tt pe
theorem aB.j4_P  {C13_:acq} {gB:acw} (hC13:aB.S13 H0 Ri R0  C13_ gB) {gI Ua pe pd Ju AG vy Jv tt} (Ub:AG=tt.length) (h0:Out H0 Ri H (Rs.blk vy [.sl ⟨Ju,AG,Jv⟩,.i Ua]::R0) λR=>ROs (aa eI (aa eI (aa eI (aa eI eI)))) H R ⟨Ju,AG,Jv⟩ tt) {r:acf} (hp:aB.pj4 F gB gI pd tt pe=some r):Rt (aB.j4 F (cA.tw F) (cB.tw F) C13_ gI pd vy 0 pe H) (aB.Q H0 Ri R0  r):=by
 obtain ⟨w0,s0,Uc⟩:=h0
 subst Ub
 unfold aB.pj4 at hp
 unfold aB.j4
 exact aB.j3_P (@hC13) rfl ⟨w0,s0,Uc⟩ hp
def aB.pl213 (F:Nat) (gB:acw):Nat->Int->Bool->List (Int×Int×Int×Int×Int)->Int->Int->Option (Int×Int)
 | 0,_,_,_,_,_=>none
 | k+1,gJ,gK,g_,fj,cD=>(bif (decide (cD<4)) then ((ix g_ fj).bind λn1=>(cA.p F ((gt g_ n1).1) ((gt g_ n1).2.1) ((gt g_ n1).2.2.1) ((gt g_ n1).2.2.2.1) cD).bind λr2=>(bif (r2==gJ) then ((ix g_ fj).bind λn4=>(cB.p F ((gt g_ n4).2.2.2.2) cD).bind λr5=>(bif (r5==gK) then (some (fj,cD)) else (aB.pl213 F gB k gJ gK g_ fj (wrap .i64 (cD+1))))) else (aB.pl213 F gB k gJ gK g_ fj (wrap .i64 (cD+1))))) else (aB.pj4 F gB gJ gK g_ fj))
theorem aB.l213_P  {C13_:acq} {gB:acw} (hC13:aB.S13 H0 Ri R0  C13_ gB):∀ k,aB.S213 H0 Ri R0  (aB.l213 F (cA.tw F) (cB.tw F) C13_ k) (aB.pl213 F gB k):=by
 intro k
 induction k with
 | zero=>unfold aB.S213;intros;rename_i hp;cases hp
 | succ k ih=>
  intro gJ Jr fj cD gK AC w_ jq AD g_ H Ud h0 r hp
  obtain ⟨w0,s0,tu⟩:=h0
  subst Ud
  unfold aB.pl213 at hp
  unfold aB.l213
  refine ax hp (λhp=>?_) λhp=>?_
  ·refine lSl w0 0 ?_
   obtain ⟨n1,g1,hp⟩:=ah hp
   obtain ⟨p1,q1,i1,h1,j1⟩:=ROs.ixr tu rfl g1
   refine ai i1 ?_
   obtain ⟨_,_,rfl,rfl,_,_,rfl,rfl,_,_,rfl,rfl,_,_,rfl,rfl,rfl⟩:=h1
   refine ai (aH (j1 0 _ rfl)) ?_
   refine ai (aH (j1 1 _ rfl)) ?_
   refine ai (aH (j1 2 _ rfl)) ?_
   refine ai (aH (j1 3 _ rfl)) ?_
   refine ai (aH (j1 4 _ rfl)) ?_
   obtain ⟨r2,e2,hp⟩:=ah hp
   refine aI (cA.P ⟨w0,trivial⟩ e2) ?_
   rintro _ H3 ⟨rfl,w3,s3,_⟩
   refine br ?_
   refine ax hp (λhp=>?_) λhp=>?_
   ·refine lSl w3 0 ?_
    obtain ⟨n4,g4,hp⟩:=ah hp
    obtain ⟨p4,q4,i4,h4,j4⟩:=ROs.ixr (tu.step s3) rfl g4
    refine ai i4 ?_
    obtain ⟨_,_,rfl,rfl,_,_,rfl,rfl,_,_,rfl,rfl,_,_,rfl,rfl,rfl⟩:=h4
    refine ai (aH (j4 0 _ rfl)) ?_
    refine ai (aH (j4 1 _ rfl)) ?_
    refine ai (aH (j4 2 _ rfl)) ?_
    refine ai (aH (j4 3 _ rfl)) ?_
    refine ai (aH (j4 4 _ rfl)) ?_
    obtain ⟨r5,e5,hp⟩:=ah hp
    refine aI (cB.P ⟨w3,trivial⟩ e5) ?_
    rintro _ H6 ⟨rfl,w6,s6,_⟩
    refine br ?_
    refine ax hp (λhp=>?_) λhp=>?_
    ·obtain ⟨w7,s7⟩:=w6.pp [] 1
     exact aw hp ⟨rfl,w7,(s0.trans (s3.trans (s6.trans s7))),trivial⟩
    ·exact ih rfl ⟨w6,(s0.trans (s3.trans s6)),(tu.step (s3.trans s6))⟩ hp
   ·exact ih rfl ⟨w3,(s0.trans s3),(tu.step s3)⟩ hp
  ·exact aB.j4_P (@hC13) rfl ⟨w0,s0,tu⟩ hp
def aB.pl13 (F:Nat) :Nat->Int->Bool->List (Int×Int×Int×Int×Int)->Int->Option (Int×Int)
 | 0,_,_,_,_=>none
 | k+1,bV,fk,nE,jr=>(bif (decide (jr<(nE.length:Int))) then (aB.pl213 F (aB.pl13 F k) F bV fk nE jr 0) else (some ((-1),(-1))))
theorem aB.l13_P  :∀ k,aB.S13 H0 Ri R0  (aB.l13 F (cA.tw F) (cB.tw F)  k) (aB.pl13 F  k):=by
 intro k
 induction k with
 | zero=>unfold aB.S13;intros;rename_i hp;cases hp
 | succ k ih=>
  intro bV Jq jr fk AA wZ iq AB nE H Ue h0 r hp
  obtain ⟨w0,s0,Uf⟩:=h0
  subst Ue
  unfold aB.pl13 at hp
  unfold aB.l13
  refine lSl w0 0 ?_
  refine ax hp (λhp=>?_) λhp=>?_
  ·exact aB.l213_P (@ih) F rfl ⟨w0,s0,Uf⟩ hp
  ·obtain ⟨w1,s1⟩:=w0.pp [] 1
   exact aw hp ⟨rfl,w1,(s0.trans s1),trivial⟩
def aB.p (F:Nat) (af:abX) (ay:Int) (h_:Bool):Option (Int×Int):=aB.pl13 F F ay h_ af 0
theorem aB.P {ar aj au af ag ay h_} (aN:aj=af.length) (h0:Inn H R0 λR=>ROs (aa eI (aa eI (aa eI (aa eI eI)))) H R ⟨ar,aj,au⟩ af) {r:acf} (hp:aB.p F af ay h_=some r):Rt (aB.tw F ⟨ar,aj,au⟩ ag ay h_ H) (aB.Q H R0 R0  r):=by
 obtain ⟨w0,aG⟩:=h0
 subst aN
 unfold aB.p at hp
 unfold aB.tw aB.twX
 have s0:=w0.rf
 refine a_ w0 λH1 w1 s1=>?_
 exact aB.l13_P F rfl ⟨w1,(s0.trans s1),(aG.step s1)⟩ hp
def cJ.Q (H0:Hp) (Ri R0:abR)  (r:Int) (v:AV) (H':Hp):Prop:=v=(.i r)/\Out H0 Ri H' (R0) λR=>True
def cJ.p (F:Nat) (af:abX) (ay:Int):Option (Int):=(ix af (wrap .i64 (Int.tdiv ay 4))).bind λn2=>(cA.p F ((gt af n2).1) ((gt af n2).2.1) ((gt af n2).2.2.1) ((gt af n2).2.2.2.1) (Int.tmod (wrap .i64 ((Int.tmod ay 4)+1)) 4)).bind λr9=>(cB.p F ((gt af n2).2.2.2.2) (Int.tmod (wrap .i64 ((Int.tmod ay 4)+1)) 4)).bind λr12=>(aB.p F af r9 (!r12)).bind λr15=>some (wrap .i64 ((wrap .i64 (4 * r15.1))+r15.2))
theorem cJ.P {ar aj au af ag ay} (aN:aj=af.length) (h0:Inn H R0 λR=>ROs (aa eI (aa eI (aa eI (aa eI eI)))) H R ⟨ar,aj,au⟩ af) {r:Int} (hp:cJ.p F af ay=some r):Rt (cJ.tw F ⟨ar,aj,au⟩ ag ay H) (cJ.Q H R0 R0  r):=by
 obtain ⟨w0,aG⟩:=h0
 subst aN
 unfold cJ.p at hp
 unfold cJ.tw cJ.twX
 have s0:=w0.rf
 refine a_ w0 λH1 w1 s1=>?_
 refine lSl w1 0 ?_
 obtain ⟨n2,g2,hp⟩:=ah hp
 obtain ⟨p2,q2,i2,h2,j2⟩:=ROs.ixr (aG.step s1) rfl g2
 refine ai i2 ?_
 obtain ⟨_,_,rfl,rfl,_,_,rfl,rfl,_,_,rfl,rfl,_,_,rfl,rfl,rfl⟩:=h2
 refine ai (aH (j2 0 _ rfl)) ?_
 refine ai (aH (j2 1 _ rfl)) ?_
 refine ai (aH (j2 2 _ rfl)) ?_
 refine ai (aH (j2 3 _ rfl)) ?_
 refine ai (aH (j2 4 _ rfl)) ?_
 refine a_ w1 λH3 w3 s3=>?_
 refine aA w3 0 λH4 w4 s4=>?_
 refine aA w4 0 λH5 w5 s5=>?_
 refine aA w5 0 λH6 w6 s6=>?_
 refine aA w6 0 λH7 w7 s7=>?_
 refine aA w7 0 λH8 w8 s8=>?_
 refine lSl w8 1 ?_
 refine lI w8 1 ?_
 refine lI w8 0 ?_
 refine lI w8 0 ?_
 refine lI w8 0 ?_
 refine lI w8 0 ?_
 refine lI w8 0 ?_
 obtain ⟨r9,e9,hp⟩:=ah hp
 refine aI (cA.P ⟨w8,trivial⟩ e9) ?_
 rintro _ H10 ⟨rfl,w10,s10,_⟩
 refine br ?_
 refine fY (W.cons_of (Rn:=[]) w8 w10 s10) ?_
 refine lI w10 0 ?_
 refine lI w10 0 ?_
 refine lI w10 0 ?_
 refine lI w10 0 ?_
 refine lI w10 0 ?_
 obtain ⟨r12,e12,hp⟩:=ah hp
 refine aI (cB.P ⟨w10,trivial⟩ e12) ?_
 rintro _ H13 ⟨rfl,w13,s13,_⟩
 refine br ?_
 refine fY (W.cons_of (Rn:=[]) w10 w13 s13) ?_
 obtain ⟨r15,e15,hp⟩:=ah hp
 refine aI (aB.P rfl ⟨w13,(aG.step (s1.trans (s3.trans (s4.trans (s5.trans (s6.trans (s7.trans (s8.trans (s10.trans s13)))))))))⟩ e15) ?_
 rintro _ H16 ⟨rfl,w16,s16,_⟩
 refine br (br (br (br (br ?_))))
 obtain ⟨w17,s17⟩:=w16.pp [] 2
 exact aw hp ⟨rfl,w17,(s0.trans (s1.trans (s3.trans (s4.trans (s5.trans (s6.trans (s7.trans (s8.trans (s10.trans (s13.trans (s16.trans s17))))))))))),trivial⟩
def aF.Q (H0:Hp) (Ri R0:abR)  (r:ab2) (v:AV) (H':Hp):Prop:=∃ o0a:ON,∃ o0n:Nat,∃ o0c:Cap,∃ o0k:List AV,v=(.sl ⟨o0a,o0n,o0c⟩)/\o0n=(r).length/\Out H0 Ri H' (Rs.own ⟨o0a,o0n,o0c⟩ (eSl eI).z o0k::R0) λR=>CR (eSl eI) H' R o0k (r)
def aF.S61 (H0:Hp) (Ri R0:abR)  (C:acd) (pC:acj):Prop:=∀ {nr AH ns lg fi xa lj nu AI nv dK tl eN mp AJ nx fT},∀ {H:Hp},lg=dK.length->xa=mp.length->lj=fT.length->(Out H0 Ri H (Rs.blk fi [.sl ⟨nr,lg,nu⟩,.i tl]::Rs.own ⟨AH,xa,AI⟩ (eSl eI).z AJ::Rs.own ⟨ns,lj,nv⟩ b_.z nx::R0) λR=>ROs (aa eI (aa eI (aa eI (aa eI eI)))) H R ⟨nr,lg,nu⟩ dK/\CR (eSl eI) H R AJ mp/\CR b_ H R nx fT)->∀ {r:ab2},pC dK mp fT eN=some r->Rt (C fi 0 ⟨AH,xa,AI⟩ ⟨ns,lj,nv⟩ eN H) (aF.Q H0 Ri R0  r)
def aF.pj4 (F:Nat) (az:acj) (jY:abX) (jZ:ab2) (j_:acD) (pf:Int):Option (List (List Int)):=az jY jZ j_ (wrap .i64 (pf+1))
theorem aF.j4_P  {C61_:acd} {az:acj} (hC61:aF.S61 H0 Ri R0  C61_ az) {tv tz tB nF eY nG nH tC tD tE jY AK pf jZ tF tG j_} (AL:nF=jY.length) (AN:nG=jZ.length) (AO:nH=j_.length) (h0:Out H0 Ri H (Rs.blk eY [.sl ⟨tv,nF,tC⟩,.i AK]::Rs.own ⟨tz,nG,tD⟩ (eSl eI).z tF::Rs.own ⟨tB,nH,tE⟩ b_.z tG::R0) λR=>ROs (aa eI (aa eI (aa eI (aa eI eI)))) H R ⟨tv,nF,tC⟩ jY/\CR (eSl eI) H R tF jZ/\CR b_ H R tG j_) {r:ab2} (hp:aF.pj4 F az jY jZ j_ pf=some r):Rt (aF.j4 F (cJ.tw F) C61_ eY 0 ⟨tz,nG,tD⟩ ⟨tB,nH,tE⟩ pf H) (aF.Q H0 Ri R0  r):=by
 obtain ⟨w0,s0,AP,AQ,AR⟩:=h0
 subst AL
 subst AN
 subst AO
 unfold aF.pj4 at hp
 unfold aF.j4
 exact hC61 rfl rfl rfl ⟨w0,s0,AP,AQ,AR⟩ hp
def aF.S7853 (H0:Hp) (Ri R0:abR)  (C:Nat->Nat->Sl->Sl->Int->Sl->Int->Hp->OA) (pC:List (Int×Int×Int×Int×Int)->List (List Int)->List Bool->Int->List Int->Int->Option (List (List Int))):Prop:=∀ {AS AT AU AW xb kl xc xd xe AX AY AZ A_ mq Jw jt gb nI Ba Bb Bc kx nJ},∀ {H:Hp},xb=mq.length->xc=nI.length->xd=kx.length->xe=nJ.length->(Out H0 Ri H (Rs.blk kl [.sl ⟨AS,xb,AX⟩,.i Jw]::Rs.own ⟨AT,xc,AY⟩ (eSl eI).z Ba::Rs.own ⟨AU,xd,AZ⟩ b_.z Bb::Rs.own ⟨AW,xe,A_⟩ eI.z Bc::R0) λR=>ROs (aa eI (aa eI (aa eI (aa eI eI)))) H R ⟨AS,xb,AX⟩ mq/\CR (eSl eI) H R Ba nI/\CR b_ H R Bb kx/\CR eI H R Bc nJ)->∀ {r:ab2},pC mq nI kx jt nJ gb=some r->Rt (C kl 0 ⟨AT,xc,AY⟩ ⟨AU,xd,AZ⟩ jt ⟨AW,xe,A_⟩ gb H) (aF.Q H0 Ri R0  r)
def aF.pj5 (F:Nat) (az:acj) (tH:abX) (tI:ab2) (tJ:acD) (pg:Int):Option (List (List Int)):=az tH tI tJ (wrap .i64 (pg+1))
theorem aF.j5_P  {C61_:acd} {az:acj} (hC61:aF.S61 H0 Ri R0  C61_ az) {Jx Jy Jz Bd vz Be Bf JA JB JC tH Ug pg tI JD JE tJ} (Uh:Bd=tH.length) (Ui:Be=tI.length) (Uj:Bf=tJ.length) (h0:Out H0 Ri H (Rs.blk vz [.sl ⟨Jx,Bd,JA⟩,.i Ug]::Rs.own ⟨Jy,Be,JB⟩ (eSl eI).z JD::Rs.own ⟨Jz,Bf,JC⟩ b_.z JE::R0) λR=>ROs (aa eI (aa eI (aa eI (aa eI eI)))) H R ⟨Jx,Bd,JA⟩ tH/\CR (eSl eI) H R JD tI/\CR b_ H R JE tJ) {r:ab2} (hp:aF.pj5 F az tH tI tJ pg=some r):Rt (aF.j5 F (cJ.tw F) C61_ vz 0 ⟨Jy,Be,JB⟩ ⟨Jz,Bf,JC⟩ pg H) (aF.Q H0 Ri R0  r):=by
 obtain ⟨w0,s0,Uk,Ul,Um⟩:=h0
 subst Uh
 subst Ui
 subst Uj
 unfold aF.pj5 at hp
 unfold aF.j5
 exact hC61 rfl rfl rfl ⟨w0,s0,Uk,Ul,Um⟩ hp
def aF.pj6 (F:Nat) (az:acj) (tK:abX) (tL:ab2) (tM:acD) (js:Int) (nK:abU):Option (List (List Int)):=(apn tL ([nK]:List (List Int))).bind λl3=>aF.pj5 F az tK l3 tM js
theorem aF.j6_P  {C61_:acd} {az:acj} (hC61:aF.S61 H0 Ri R0  C61_ az) {JF JG JH JI Bg vA Bh Bi Bj JJ JK JL JM tK Un js tL JN JO JP tM nK} (Uo:Bg=tK.length) (Up:Bh=tL.length) (Uq:Bi=tM.length) (Ur:Bj=nK.length) (h0:Out H0 Ri H (Rs.blk vA [.sl ⟨JF,Bg,JJ⟩,.i Un]::Rs.own ⟨JG,Bh,JK⟩ (eSl eI).z JN::Rs.own ⟨JH,Bi,JL⟩ b_.z JO::Rs.own ⟨JI,Bj,JM⟩ eI.z JP::R0) λR=>ROs (aa eI (aa eI (aa eI (aa eI eI)))) H R ⟨JF,Bg,JJ⟩ tK/\CR (eSl eI) H R JN tL/\CR b_ H R JO tM/\CR eI H R JP nK) {r:ab2} (hp:aF.pj6 F az tK tL tM js nK=some r):Rt (aF.j6 F (cJ.tw F) C61_ vA 0 ⟨JG,Bh,JK⟩ ⟨JH,Bi,JL⟩ js ⟨JI,Bj,JM⟩ H) (aF.Q H0 Ri R0  r):=by
 obtain ⟨w0,s0,Us,Ut,Uu,Uv⟩:=h0
 subst Uo
 subst Up
 subst Uq
 subst Ur
 unfold aF.pj6 at hp
 unfold aF.j6
 obtain ⟨w1,s1,f1⟩:=w0.frz (i:=3) eI rfl Uv
 refine cI (eSl eI) w1 (n:=1) (l:=([nK]:List (List Int))) rfl (CR.cons1 ⟨_,rfl,f1⟩ CR.empty) rfl λH2 w2 s2 c2=>?_
 refine ai (w2.rowo (i:=0) rfl) ?_
 obtain ⟨l3,e3,hp⟩:=ah hp
 refine gD (eSl eI) w2 (i:=2) rfl rfl (Ut.step (s1.trans s2)) c2 (show 1=List.length ([nK]:List (List Int)) from rfl) rfl e3 λa4 d4 H4 w4 s4 c4 x4=>?_
 obtain ⟨w5,s5⟩:=w4.pp [1,2,3] 4
 exact aF.j5_P (@hC61) rfl rfl rfl ⟨w5,(s0.trans (s1.trans (s2.trans (s4.trans s5)))),(Us.step (s1.trans (s2.trans (s4.trans s5)))),(c4.step s5),(Uu.step (s1.trans (s2.trans (s4.trans s5))))⟩ hp
def aF.pl7853 (F:Nat) (az:acj):Nat->List (Int×Int×Int×Int×Int)->List (List Int)->List Bool->Int->List Int->Int->Option (List (List Int))
 | 0,_,_,_,_,_,_=>none
 | k+1,mq,nI,kx,jt,nJ,gb=>(ix kx gb).bind λn1=>(bif (!(gt kx n1)) then ((ix kx gb).bind λn2=>(some (kx.set n2 true)).bind λl3=>(apn nJ ([gb]:List Int)).bind λl6=>(cJ.p F mq gb).bind λr8=>aF.pl7853 F az k mq nI l3 jt l6 r8) else (aF.pj6 F az mq nI kx jt nJ))
theorem aF.l7853_P  {C61_:acd} {az:acj} (hC61:aF.S61 H0 Ri R0  C61_ az):∀ k,aF.S7853 H0 Ri R0  (aF.l7853 F (cJ.tw F) C61_ k) (aF.pl7853 F az k):=by
 intro k
 induction k with
 | zero=>unfold aF.S7853;intros;rename_i hp;cases hp
 | succ k ih=>
  intro AS AT AU AW xb kl xc xd xe AX AY AZ A_ mq Jw jt gb nI Ba Bb Bc kx nJ H Uw Ux Uy Uz h0 r hp
  obtain ⟨w0,s0,Bk,JQ,xf,JR⟩:=h0
  subst Uw
  subst Ux
  subst Uy
  subst Uz
  unfold aF.pl7853 at hp
  unfold aF.l7853
  obtain ⟨n1,g1,hp⟩:=ah hp
  obtain ⟨p1,q1,i1,h1,j1⟩:=W.ixo (E:=b_) w0 (i:=2) rfl rfl xf g1
  refine ai i1 ?_
  have h1:_=[_]:=h1
  subst h1
  refine ai (sw (j1 0 _ rfl)) ?_
  refine ax hp (λhp=>?_) λhp=>?_
  ·obtain ⟨n2,g2,hp⟩:=ah hp
   obtain ⟨p2,q2,i2,h2,j2⟩:=W.ixo (E:=b_) w0 (i:=2) rfl rfl xf g2
   refine ai i2 ?_
   obtain ⟨l3,e3,hp⟩:=ah hp
   refine eA b_ w0 (i:=2) (j:=0) (p:=p2) rfl rfl xf g2 i2 e3 rfl rfl (λ_ h=>by have h:_=[_]:=h;subst h;exact rfl) λH4 k4 w4 s4 c4=>?_
   refine cI eI w4 (n:=1) (l:=([gb]:List Int)) rfl (CR.cons1 rfl CR.empty) rfl λH5 w5 s5 c5=>?_
   refine ai (w5.rowo (i:=0) rfl) ?_
   obtain ⟨l6,e6,hp⟩:=ah hp
   refine gD eI w5 (i:=4) rfl rfl (JR.step (s4.trans s5)) c5 (show 1=List.length ([gb]:List Int) from rfl) rfl e6 λa7 d7 H7 w7 s7 c7 x7=>?_
   refine lSl w7 1 ?_
   refine lI w7 1 ?_
   obtain ⟨r8,e8,hp⟩:=ah hp
   refine aI (cJ.P rfl ⟨w7,(Bk.step (s4.trans (s5.trans s7)))⟩ e8) ?_
   rintro _ H9 ⟨rfl,w9,s9,_⟩
   refine br ?_
   obtain ⟨w10,s10⟩:=w9.pp [1,2,3,4] 5
   exact ih rfl rfl ((cE e3).symm) rfl ⟨w10,(s0.trans (s4.trans (s5.trans (s7.trans (s9.trans s10))))),(Bk.step (s4.trans (s5.trans (s7.trans (s9.trans s10))))),(JQ.step (s4.trans (s5.trans (s7.trans (s9.trans s10))))),(c4.step (s5.trans (s7.trans (s9.trans s10)))),(c7.step (s9.trans s10))⟩ hp
  ·exact aF.j6_P (@hC61) rfl rfl rfl rfl ⟨w0,s0,Bk,JQ,xf,JR⟩ hp
def aF.pl61 (F:Nat) :Nat->List (Int×Int×Int×Int×Int)->List (List Int)->List Bool->Int->Option (List (List Int))
 | 0,_,_,_,_=>none
 | k+1,dK,mp,fT,eN=>(bif (decide (eN<(fT.length:Int))) then ((ix fT eN).bind λn1=>(bif (gt fT n1) then (aF.pj4 F (aF.pl61 F k) dK mp fT eN) else (aF.pl7853 F (aF.pl61 F k) F dK mp fT eN ([]:List Int) eN))) else (some mp))
theorem aF.l61_P  :∀ k,aF.S61 H0 Ri R0  (aF.l61 F (cJ.tw F)  k) (aF.pl61 F  k):=by
 intro k
 induction k with
 | zero=>unfold aF.S61;intros;rename_i hp;cases hp
 | succ k ih=>
  intro nr AH ns lg fi xa lj nu AI nv dK tl eN mp AJ nx fT H Ay UA Az h0 r hp
  obtain ⟨w0,s0,rP,Bl,rQ⟩:=h0
  subst Ay
  subst UA
  subst Az
  unfold aF.pl61 at hp
  unfold aF.l61
  refine ax hp (λhp=>?_) λhp=>?_
  ·obtain ⟨n1,g1,hp⟩:=ah hp
   obtain ⟨p1,q1,i1,h1,j1⟩:=W.ixo (E:=b_) w0 (i:=2) rfl rfl rQ g1
   refine ai i1 ?_
   have h1:_=[_]:=h1
   subst h1
   refine ai (sw (j1 0 _ rfl)) ?_
   refine ax hp (λhp=>?_) λhp=>?_
   ·exact aF.j4_P (@ih) rfl rfl rfl ⟨w0,s0,rP,Bl,rQ⟩ hp
   ·refine cI eI w0 (n:=0) (l:=([]:List Int)) rfl CR.empty rfl λH2 w2 s2 c2=>?_
    obtain ⟨w3,s3⟩:=w2.pp [1,2,3,0] 4
    exact aF.l7853_P (@ih) F rfl rfl rfl (show 0=List.length ([]:List Int) from rfl) ⟨w3,(s0.trans (s2.trans s3)),(rP.step (s2.trans s3)),(Bl.step (s2.trans s3)),(rQ.step (s2.trans s3)),(c2.step s3)⟩ hp
  ·obtain ⟨w4,s4⟩:=w0.pp [1] 3
   exact aw hp ⟨_,_,_,_,rfl,rfl,w4,(s0.trans s4),(Bl.step s4)⟩
def aF.p (F:Nat) (af:abX):Option (List (List Int)):=(mkn (wrap .i64 (4 * (af.length:Int))) false).bind λl3=>aF.pl61 F F af ([]:List (List Int)) l3 0
theorem aF.P {ar aj au af ag} (aN:aj=af.length) (h0:Inn H R0 λR=>ROs (aa eI (aa eI (aa eI (aa eI eI)))) H R ⟨ar,aj,au⟩ af) {r:ab2} (hp:aF.p F af=some r):Rt (aF.tw F ⟨ar,aj,au⟩ ag H) (aF.Q H R0 R0  r):=by
 obtain ⟨w0,aG⟩:=h0
 subst aN
 unfold aF.p at hp
 unfold aF.tw aF.twX
 have s0:=w0.rf
 refine a_ w0 λH1 w1 s1=>?_
 refine cI (eSl eI) w1 (n:=0) (l:=([]:List (List Int))) rfl CR.empty rfl λH2 w2 s2 c2=>?_
 refine lSl w2 1 ?_
 obtain ⟨l3,e3,hp⟩:=ah hp
 refine mN b_ false w2 rfl rfl rfl e3 λH4 k4 w4 s4 c4=>?_
 obtain ⟨w5,s5⟩:=w4.pp [2,1,0] 3
 exact aF.l61_P F rfl (show 0=List.length ([]:List (List Int)) from rfl) rfl ⟨w5,(s0.trans (s1.trans (s2.trans (s4.trans s5)))),(aG.step (s1.trans (s2.trans (s4.trans s5)))),(c2.step (s4.trans s5)),(c4.step s5)⟩ hp
def av.Q (H0:Hp) (Ri R0:abR)  (r:abU) (v:AV) (H':Hp):Prop:=∃ o0a:ON,∃ o0n:Nat,∃ o0c:Cap,∃ o0k:List AV,v=(.sl ⟨o0a,o0n,o0c⟩)/\o0n=(r).length/\Out H0 Ri H' (Rs.own ⟨o0a,o0n,o0c⟩ eI.z o0k::R0) λR=>CR eI H' R o0k (r)
def av.S29 (H0:Hp) (Ri R0:abR)  (C:aca) (pC:acn):Prop:=∀ {nL Bm ll cK xg nO Bn gu lm eZ nP Bo},∀ {H:Hp},ll=gu.length->xg=nP.length->(Out H0 Ri H (Rs.blk cK [.sl ⟨nL,ll,nO⟩,.i lm]::Rs.own ⟨Bm,xg,Bn⟩ eI.z Bo::R0) λR=>ROs (aa eI (aa eI (aa eI (aa eI eI)))) H R ⟨nL,ll,nO⟩ gu/\CR eI H R Bo nP)->∀ {r:abU},pC gu nP eZ=some r->Rt (C cK 0 ⟨Bm,xg,Bn⟩ eZ H) (av.Q H0 Ri R0  r)
def av.S61 (H0:Hp) (Ri R0:abR)  (C:aca) (pC:acn):Prop:=∀ {Bp Bq xh ja xi Br Bs ln JS gL ka Bt},∀ {H:Hp},xh=ln.length->xi=ka.length->(Out H0 Ri H (Rs.blk ja [.sl ⟨Bp,xh,Br⟩,.i JS]::Rs.own ⟨Bq,xi,Bs⟩ eI.z Bt::R0) λR=>ROs (aa eI (aa eI (aa eI (aa eI eI)))) H R ⟨Bp,xh,Br⟩ ln/\CR eI H R Bt ka)->∀ {r:abU},pC ln ka gL=some r->Rt (C ja 0 ⟨Bq,xi,Bs⟩ gL H) (av.Q H0 Ri R0  r)
def av.S7855 (H0:Hp) (Ri R0:abR)  (C:acC) (pC:acM):Prop:=∀ {Bu Bv xj kP xk Bw Bx mr JT ir fl fm gd je By},∀ {H:Hp},xj=mr.length->xk=je.length->(Out H0 Ri H (Rs.blk kP [.sl ⟨Bu,xj,Bw⟩,.i JT]::Rs.own ⟨Bv,xk,Bx⟩ eI.z By::R0) λR=>ROs (aa eI (aa eI (aa eI (aa eI eI)))) H R ⟨Bu,xj,Bw⟩ mr/\CR eI H R By je)->∀ {r:abU},pC mr je ir fl fm gd=some r->Rt (C kP 0 ⟨Bv,xk,Bx⟩ ir fl fm gd H) (av.Q H0 Ri R0  r)
def av.pj8 (F:Nat) (xl:acM) (tO:abX) (tP:abU) (po:Int) (pr:Int) (pt:Int) (pu:Int):Option (List Int):=xl tO tP po pr pt (wrap .i64 (pu+1))
theorem av.j8_P  {C7855_:acC} {xl:acM} (hC7855:av.S7855 H0 Ri R0  C7855_ xl) {JU JV Bz vE BA JW JX tO UB po pr pt pu tP JY} (UC:Bz=tO.length) (UD:BA=tP.length) (h0:Out H0 Ri H (Rs.blk vE [.sl ⟨JU,Bz,JW⟩,.i UB]::Rs.own ⟨JV,BA,JX⟩ eI.z JY::R0) λR=>ROs (aa eI (aa eI (aa eI (aa eI eI)))) H R ⟨JU,Bz,JW⟩ tO/\CR eI H R JY tP) {r:abU} (hp:av.pj8 F xl tO tP po pr pt pu=some r):Rt (av.j8 F (aB.tw F) C7855_ vE 0 ⟨JV,BA,JX⟩ po pr pt pu H) (av.Q H0 Ri R0  r):=by
 obtain ⟨w0,s0,UE,UG⟩:=h0
 subst UC
 subst UD
 unfold av.pj8 at hp
 unfold av.j8
 exact hC7855 rfl rfl ⟨w0,s0,UE,UG⟩ hp
def av.pj6 (F:Nat) (az:acn) (tQ:abX) (tR:abU) (pj:Int):Option (List Int):=az tQ tR (wrap .i64 (pj+1))
theorem av.j6_P  {C61_:aca} {az:acn} (hC61:av.S61 H0 Ri R0  C61_ az) {JZ J_ BB vC BC Ka Kb tQ UH pj tR Kc} (UI:BB=tQ.length) (UJ:BC=tR.length) (h0:Out H0 Ri H (Rs.blk vC [.sl ⟨JZ,BB,Ka⟩,.i UH]::Rs.own ⟨J_,BC,Kb⟩ eI.z Kc::R0) λR=>ROs (aa eI (aa eI (aa eI (aa eI eI)))) H R ⟨JZ,BB,Ka⟩ tQ/\CR eI H R Kc tR) {r:abU} (hp:av.pj6 F az tQ tR pj=some r):Rt (av.j6 F (aB.tw F) C61_ vC 0 ⟨J_,BC,Kb⟩ pj H) (av.Q H0 Ri R0  r):=by
 obtain ⟨w0,s0,UK,UL⟩:=h0
 subst UI
 subst UJ
 unfold av.pj6 at hp
 unfold av.j6
 exact hC61 rfl rfl ⟨w0,s0,UK,UL⟩ hp
def av.pj7 (F:Nat) (az:acn) (tS:abX) (tT:abU) (lN:Int):Option (List Int):=av.pj6 F az tS tT lN
theorem av.j7_P  {C61_:aca} {az:acn} (hC61:av.S61 H0 Ri R0  C61_ az) {Kd Ke BD vD BE Kf Kg tS UM lN tT Kh} (UN:BD=tS.length) (UO:BE=tT.length) (h0:Out H0 Ri H (Rs.blk vD [.sl ⟨Kd,BD,Kf⟩,.i UM]::Rs.own ⟨Ke,BE,Kg⟩ eI.z Kh::R0) λR=>ROs (aa eI (aa eI (aa eI (aa eI eI)))) H R ⟨Kd,BD,Kf⟩ tS/\CR eI H R Kh tT) {r:abU} (hp:av.pj7 F az tS tT lN=some r):Rt (av.j7 F (aB.tw F) C61_ vD 0 ⟨Ke,BE,Kg⟩ lN H) (av.Q H0 Ri R0  r):=by
 obtain ⟨w0,s0,UP,UQ⟩:=h0
 subst UN
 subst UO
 unfold av.pj7 at hp
 unfold av.j7
 exact av.j6_P (@hC61) rfl rfl ⟨w0,s0,UP,UQ⟩ hp
def av.pl7855 (F:Nat) (az:acn):Nat->List (Int×Int×Int×Int×Int)->List Int->Int->Int->Int->Int->Option (List Int)
 | 0,_,_,_,_,_,_=>none
 | k+1,mr,je,ir,fl,fm,gd=>(bif (decide (gd<(je.length:Int))) then ((ix je gd).bind λn1=>(bif ((gt je n1)==(if fm>fl then fm else fl)) then ((ix je gd).bind λn2=>(some (je.set n2 (if fm<fl then fm else fl))).bind λl3=>av.pj8 F (av.pl7855 F az k) mr l3 ir fl fm gd) else (av.pj8 F (av.pl7855 F az k) mr je ir fl fm gd))) else (av.pj7 F az mr je ir))
theorem av.l7855_P  {C61_:aca} {az:acn} (hC61:av.S61 H0 Ri R0  C61_ az):∀ k,av.S7855 H0 Ri R0  (av.l7855 F (aB.tw F) C61_ k) (av.pl7855 F az k):=by
 intro k
 induction k with
 | zero=>unfold av.S7855;intros;rename_i hp;cases hp
 | succ k ih=>
  intro Bu Bv xj kP xk Bw Bx mr JT ir fl fm gd je By H UR US h0 r hp
  obtain ⟨w0,s0,BF,tU⟩:=h0
  subst UR
  subst US
  unfold av.pl7855 at hp
  unfold av.l7855
  refine ax hp (λhp=>?_) λhp=>?_
  ·obtain ⟨n1,g1,hp⟩:=ah hp
   obtain ⟨p1,q1,i1,h1,j1⟩:=W.ixo (E:=eI) w0 (i:=1) rfl rfl tU g1
   refine ai i1 ?_
   have h1:_=[_]:=h1
   subst h1
   refine ai (aH (j1 0 _ rfl)) ?_
   refine ax hp (λhp=>?_) λhp=>?_
   ·obtain ⟨n2,g2,hp⟩:=ah hp
    obtain ⟨p2,q2,i2,h2,j2⟩:=W.ixo (E:=eI) w0 (i:=1) rfl rfl tU g2
    refine ai i2 ?_
    obtain ⟨l3,e3,hp⟩:=ah hp
    refine eA eI w0 (i:=1) (j:=0) (p:=p2) rfl rfl tU g2 i2 e3 rfl rfl (λ_ h=>by have h:_=[_]:=h;subst h;exact rfl) λH4 k4 w4 s4 c4=>?_
    exact av.j8_P (@ih) rfl ((cE e3).symm) ⟨w4,(s0.trans s4),(BF.step s4),c4⟩ hp
   ·exact av.j8_P (@ih) rfl rfl ⟨w0,s0,BF,tU⟩ hp
  ·exact av.j7_P (@hC61) rfl rfl ⟨w0,s0,BF,tU⟩ hp
def av.pl61 (F:Nat) :Nat->List (Int×Int×Int×Int×Int)->List Int->Int->Option (List Int)
 | 0,_,_,_=>none
 | k+1,ln,ka,gL=>(bif (decide (gL<(wrap .i64 (2 * (ln.length:Int))))) then ((aB.p F ln gL true).bind λr1=>(aB.p F ln gL false).bind λr3=>(ix ka r1.1).bind λn5=>(ix ka r3.1).bind λn6=>av.pl7855 F (av.pl61 F k) F ln ka gL (gt ka n5) (gt ka n6) 0) else (some ka))
theorem av.l61_P  :∀ k,av.S61 H0 Ri R0  (av.l61 F (aB.tw F)  k) (av.pl61 F  k):=by
 intro k
 induction k with
 | zero=>unfold av.S61;intros;rename_i hp;cases hp
 | succ k ih=>
  intro Bp Bq xh ja xi Br Bs ln JS gL ka Bt H UT UU h0 r hp
  obtain ⟨w0,s0,BG,xm⟩:=h0
  subst UT
  subst UU
  unfold av.pl61 at hp
  unfold av.l61
  refine lSl w0 0 ?_
  refine ax hp (λhp=>?_) λhp=>?_
  ·refine lSl w0 0 ?_
   refine lI w0 0 ?_
   obtain ⟨r1,e1,hp⟩:=ah hp
   refine aI (aB.P rfl ⟨w0,BG⟩ e1) ?_
   rintro _ H2 ⟨rfl,w2,s2,_⟩
   refine br (br (br (br (br ?_))))
   refine lSl w2 0 ?_
   refine lI w2 0 ?_
   obtain ⟨r3,e3,hp⟩:=ah hp
   refine aI (aB.P rfl ⟨w2,(BG.step s2)⟩ e3) ?_
   rintro _ H4 ⟨rfl,w4,s4,_⟩
   refine br (br (br (br (br ?_))))
   obtain ⟨n5,g5,hp⟩:=ah hp
   obtain ⟨p5,q5,i5,h5,j5⟩:=W.ixo (E:=eI) w4 (i:=1) rfl rfl (xm.step (s2.trans s4)) g5
   refine ai i5 ?_
   have h5:_=[_]:=h5
   subst h5
   refine ai (aH (j5 0 _ rfl)) ?_
   obtain ⟨n6,g6,hp⟩:=ah hp
   obtain ⟨p6,q6,i6,h6,j6⟩:=W.ixo (E:=eI) w4 (i:=1) rfl rfl (xm.step (s2.trans s4)) g6
   refine ai i6 ?_
   have h6:_=[_]:=h6
   subst h6
   refine ai (aH (j6 0 _ rfl)) ?_
   exact av.l7855_P (@ih) F rfl rfl ⟨w4,(s0.trans (s2.trans s4)),(BG.step (s2.trans s4)),(xm.step (s2.trans s4))⟩ hp
  ·obtain ⟨w7,s7⟩:=w0.pp [1] 2
   exact aw hp ⟨_,_,_,_,rfl,rfl,w7,(s0.trans s7),(xm.step s7)⟩
def av.pj9 (F:Nat)  (tV:abX) (tW:abU):Option (List Int):=av.pl61 F F tV tW 0
theorem av.j9_P   {Ki Kj BH vF BI Kk Kl tV UV tW Km} (UW:BH=tV.length) (UX:BI=tW.length) (h0:Out H0 Ri H (Rs.blk vF [.sl ⟨Ki,BH,Kk⟩,.i UV]::Rs.own ⟨Kj,BI,Kl⟩ eI.z Km::R0) λR=>ROs (aa eI (aa eI (aa eI (aa eI eI)))) H R ⟨Ki,BH,Kk⟩ tV/\CR eI H R Km tW) {r:abU} (hp:av.pj9 F  tV tW=some r):Rt (av.j9 F (aB.tw F)  vF 0 ⟨Kj,BI,Kl⟩ H) (av.Q H0 Ri R0  r):=by
 obtain ⟨w0,s0,UY,UZ⟩:=h0
 subst UW
 subst UX
 unfold av.pj9 at hp
 unfold av.j9
 exact av.l61_P F rfl rfl ⟨w0,s0,UY,UZ⟩ hp
def av.pl29 (F:Nat) :Nat->List (Int×Int×Int×Int×Int)->List Int->Int->Option (List Int)
 | 0,_,_,_=>none
 | k+1,gu,nP,eZ=>(bif (decide (eZ<(gu.length:Int))) then ((apn nP ([eZ]:List Int)).bind λl2=>av.pl29 F k gu l2 (wrap .i64 (eZ+1))) else (av.pj9 F gu nP))
theorem av.l29_P  :∀ k,av.S29 H0 Ri R0  (av.l29 F (aB.tw F)  k) (av.pl29 F  k):=by
 intro k
 induction k with
 | zero=>unfold av.S29;intros;rename_i hp;cases hp
 | succ k ih=>
  intro nL Bm ll cK xg nO Bn gu lm eZ nP Bo H BJ U_ h0 r hp
  obtain ⟨w0,s0,tX,Ko⟩:=h0
  subst BJ
  subst U_
  unfold av.pl29 at hp
  unfold av.l29
  refine lSl w0 0 ?_
  refine ax hp (λhp=>?_) λhp=>?_
  ·refine cI eI w0 (n:=1) (l:=([eZ]:List Int)) rfl (CR.cons1 rfl CR.empty) rfl λH1 w1 s1 c1=>?_
   refine ai (w1.rowo (i:=0) rfl) ?_
   obtain ⟨l2,e2,hp⟩:=ah hp
   refine gD eI w1 (i:=2) rfl rfl (Ko.step s1) c1 (show 1=List.length ([eZ]:List Int) from rfl) rfl e2 λa3 d3 H3 w3 s3 c3 x3=>?_
   obtain ⟨w4,s4⟩:=w3.pp [1,2] 3
   exact ih rfl rfl ⟨w4,(s0.trans (s1.trans (s3.trans s4))),(tX.step (s1.trans (s3.trans s4))),(c3.step s4)⟩ hp
  ·exact av.j9_P rfl rfl ⟨w0,s0,tX,Ko⟩ hp
def av.p (F:Nat) (af:abX):Option (List Int):=av.pl29 F F af ([]:List Int) 0
theorem av.P {ar aj au af ag} (aN:aj=af.length) (h0:Inn H R0 λR=>ROs (aa eI (aa eI (aa eI (aa eI eI)))) H R ⟨ar,aj,au⟩ af) {r:abU} (hp:av.p F af=some r):Rt (av.tw F ⟨ar,aj,au⟩ ag H) (av.Q H R0 R0  r):=by
 obtain ⟨w0,aG⟩:=h0
 subst aN
 unfold av.p at hp
 unfold av.tw av.twX
 have s0:=w0.rf
 refine a_ w0 λH1 w1 s1=>?_
 refine cI eI w1 (n:=0) (l:=([]:List Int)) rfl CR.empty rfl λH2 w2 s2 c2=>?_
 obtain ⟨w3,s3⟩:=w2.pp [1,0] 2
 exact av.l29_P F rfl (show 0=List.length ([]:List Int) from rfl) ⟨w3,(s0.trans (s1.trans (s2.trans s3))),(aG.step (s1.trans (s2.trans s3))),(c2.step s3)⟩ hp
def bj.Q (H0:Hp) (Ri R0:abR)  (r:Int) (v:AV) (H':Hp):Prop:=v=(.i r)/\Out H0 Ri H' (R0) λR=>True
def bj.S61 (H0:Hp) (Ri R0:abR)  (C:acI) (pC:acN):Prop:=∀ {iu gf BK xn BL ky BM},∀ {H:Hp},xn=ky.length->(Out H0 Ri H (Rs.own ⟨BK,xn,BL⟩ eI.z BM::R0) λR=>CR eI H R BM ky)->∀ {r:Int},pC iu ky gf=some r->Rt (C iu ⟨BK,xn,BL⟩ gf H) (bj.Q H0 Ri R0  r)
def bj.pj2 (F:Nat) (az:acN) (pA:Int) (tY:abU) (pB:Int):Option (Int):=az pA tY (wrap .i64 (pB+1))
theorem bj.j2_P  {C61_:acI} {az:acN} (hC61:bj.S61 H0 Ri R0  C61_ az) {pA pB Kp BN Kq tY Ks} (Va:BN=tY.length) (h0:Out H0 Ri H (Rs.own ⟨Kp,BN,Kq⟩ eI.z Ks::R0) λR=>CR eI H R Ks tY) {r:Int} (hp:bj.pj2 F az pA tY pB=some r):Rt (bj.j2 F (av.tw F) C61_ pA ⟨Kp,BN,Kq⟩ pB H) (bj.Q H0 Ri R0  r):=by
 obtain ⟨w0,s0,Vb⟩:=h0
 subst Va
 unfold bj.pj2 at hp
 unfold bj.j2
 exact hC61 rfl ⟨w0,s0,Vb⟩ hp
def bj.pl61 (F:Nat) :Nat->Int->List Int->Int->Option (Int)
 | 0,_,_,_=>none
 | k+1,iu,ky,gf=>(bif (decide (gf<(ky.length:Int))) then ((ix ky gf).bind λn1=>(bif ((gt ky n1)==gf) then (bj.pj2 F (bj.pl61 F k) (wrap .i64 (iu+1)) ky gf) else (bj.pj2 F (bj.pl61 F k) iu ky gf))) else (some iu))
theorem bj.l61_P  :∀ k,bj.S61 H0 Ri R0  (bj.l61 F (av.tw F)  k) (bj.pl61 F  k):=by
 intro k
 induction k with
 | zero=>unfold bj.S61;intros;rename_i hp;cases hp
 | succ k ih=>
  intro iu gf BK xn BL ky BM H Vc h0 r hp
  obtain ⟨w0,s0,BO⟩:=h0
  subst Vc
  unfold bj.pl61 at hp
  unfold bj.l61
  refine ax hp (λhp=>?_) λhp=>?_
  ·obtain ⟨n1,g1,hp⟩:=ah hp
   obtain ⟨p1,q1,i1,h1,j1⟩:=W.ixo (E:=eI) w0 (i:=0) rfl rfl BO g1
   refine ai i1 ?_
   have h1:_=[_]:=h1
   subst h1
   refine ai (aH (j1 0 _ rfl)) ?_
   refine ax hp (λhp=>?_) λhp=>?_
   ·exact bj.j2_P (@ih) rfl ⟨w0,s0,BO⟩ hp
   ·exact bj.j2_P (@ih) rfl ⟨w0,s0,BO⟩ hp
  ·obtain ⟨w2,s2⟩:=w0.pp [] 1
   exact aw hp ⟨rfl,w2,(s0.trans s2),trivial⟩
def bj.p (F:Nat) (af:abX):Option (Int):=(av.p F af).bind λr2=>bj.pl61 F F 0 r2 0
theorem bj.P {ar aj au af ag} (aN:aj=af.length) (h0:Inn H R0 λR=>ROs (aa eI (aa eI (aa eI (aa eI eI)))) H R ⟨ar,aj,au⟩ af) {r:Int} (hp:bj.p F af=some r):Rt (bj.tw F ⟨ar,aj,au⟩ ag H) (bj.Q H R0 R0  r):=by
 obtain ⟨w0,aG⟩:=h0
 subst aN
 unfold bj.p at hp
 unfold bj.tw bj.twX
 have s0:=w0.rf
 refine a_ w0 λH1 w1 s1=>?_
 refine lSl w1 0 ?_
 refine lI w1 0 ?_
 obtain ⟨r2,e2,hp⟩:=ah hp
 refine aI (av.P rfl ⟨w1,(aG.step s1)⟩ e2) ?_
 rintro _ H3 ⟨o0a_3,o0n_3,o0c_3,o0k_3,rfl,rfl,w3,s3,f3_0⟩
 refine br ?_
 obtain ⟨w4,s4⟩:=w3.pp [0] 2
 exact bj.l61_P F rfl ⟨w4,(s0.trans (s1.trans (s3.trans s4))),(f3_0.step s4)⟩ hp
def dz.Q (H0:Hp) (Ri R0:abR)  (r:Bool) (v:AV) (H':Hp):Prop:=v=(.bool r)/\Out H0 Ri H' (R0) λR=>True
def dz.p (F:Nat) (af:abX) (ag:Int):Option (Bool):=(bif (decide ((af.length:Int)>10)) then (some false) else ((dx.p F ag 0 8).bind λr3=>(bif (!r3) then (some false) else ((aW.p F af).bind λr6=>(bif (!r6) then (some false) else ((aF.p F af).bind λr9=>(bj.p F af).bind λr12=>some ((r9.length:Int)==(wrap .i64 ((af.length:Int)+(wrap .i64 (2 * r12)))))))))))
theorem dz.P {ar aj au af ag} (aN:aj=af.length) (h0:Inn H R0 λR=>ROs (aa eI (aa eI (aa eI (aa eI eI)))) H R ⟨ar,aj,au⟩ af) {r:Bool} (hp:dz.p F af ag=some r):Rt (dz.tw F ⟨ar,aj,au⟩ ag H) (dz.Q H R0 R0  r):=by
 obtain ⟨w0,aG⟩:=h0
 subst aN
 unfold dz.p at hp
 unfold dz.tw dz.twX
 have s0:=w0.rf
 refine a_ w0 λH1 w1 s1=>?_
 refine lSl w1 0 ?_
 refine ax hp (λhp=>?_) λhp=>?_
 ·obtain ⟨w2,s2⟩:=w1.pp [] 1
  exact aw hp ⟨rfl,w2,(s0.trans (s1.trans s2)),trivial⟩
 ·refine lI w1 0 ?_
  obtain ⟨r3,e3,hp⟩:=ah hp
  refine aI (dx.P ⟨w1,trivial⟩ e3) ?_
  rintro _ H4 ⟨rfl,w4,s4,_⟩
  refine br ?_
  refine ax hp (λhp=>?_) λhp=>?_
  ·obtain ⟨w5,s5⟩:=w4.pp [] 1
   exact aw hp ⟨rfl,w5,(s0.trans (s1.trans (s4.trans s5))),trivial⟩
  ·refine lSl w4 0 ?_
   refine lI w4 0 ?_
   obtain ⟨r6,e6,hp⟩:=ah hp
   refine aI (aW.P rfl ⟨w4,(aG.step (s1.trans s4))⟩ e6) ?_
   rintro _ H7 ⟨rfl,w7,s7,_⟩
   refine br ?_
   refine ax hp (λhp=>?_) λhp=>?_
   ·obtain ⟨w8,s8⟩:=w7.pp [] 1
    exact aw hp ⟨rfl,w8,(s0.trans (s1.trans (s4.trans (s7.trans s8)))),trivial⟩
   ·refine lSl w7 0 ?_
    refine lI w7 0 ?_
    obtain ⟨r9,e9,hp⟩:=ah hp
    refine aI (aF.P rfl ⟨w7,(aG.step (s1.trans (s4.trans s7)))⟩ e9) ?_
    rintro _ H10 ⟨o0a_10,o0n_10,o0c_10,o0k_10,rfl,rfl,w10,s10,f10_0⟩
    refine br ?_
    refine fY (W.cons_of (Rn:=[_]) w7 w10 s10) ?_
    refine lSl w10 1 ?_
    refine lSl w10 1 ?_
    refine lI w10 1 ?_
    obtain ⟨r12,e12,hp⟩:=ah hp
    refine aI (bj.P rfl ⟨w10,(aG.step (s1.trans (s4.trans (s7.trans s10))))⟩ e12) ?_
    rintro _ H13 ⟨rfl,w13,s13,_⟩
    refine br ?_
    refine fY (W.cons_of (Rn:=[]) w10 w13 s13) ?_
    obtain ⟨w15,s15⟩:=w13.pp [] 2
    exact aw hp ⟨rfl,w15,(s0.trans (s1.trans (s4.trans (s7.trans (s10.trans (s13.trans s15)))))),trivial⟩
def ak.Q (H0:Hp) (Ri R0:abR)  (r:ab9) (v:AV) (H':Hp):Prop:=∃ o0a:ON,∃ o0n:Nat,∃ o0c:Cap,∃ o0k:List AV,v=(.tup [(.sl ⟨o0a,o0n,o0c⟩),(.i r.2)])/\o0n=(r.1).length/\Out H0 Ri H' (Rs.own ⟨o0a,o0n,o0c⟩ eI.z o0k::R0) λR=>CR eI H' R o0k (r.1)
def ak.S29 (H0:Hp) (Ri R0:abR)  (C:aca) (pC:aco):Prop:=∀ {nL BP ll cK xo nO BQ gu lm ee nQ BR},∀ {H:Hp},ll=gu.length->xo=nQ.length->(Out H0 Ri H (Rs.blk cK [.sl ⟨nL,ll,nO⟩,.i lm]::Rs.own ⟨BP,xo,BQ⟩ eI.z BR::R0) λR=>ROs (aa eI (aa eI (aa eI (aa eI eI)))) H R ⟨nL,ll,nO⟩ gu/\CR eI H R BR nQ)->∀ {r:ab9},pC gu lm nQ ee=some r->Rt (C cK 0 ⟨BP,xo,BQ⟩ ee H) (ak.Q H0 Ri R0  r)
def ak.S61 (H0:Hp) (Ri R0:abR)  (C:aca) (pC:aco):Prop:=∀ {BS BT xp ju xq BU BV kb rR gM kc BW},∀ {H:Hp},xp=kb.length->xq=kc.length->(Out H0 Ri H (Rs.blk ju [.sl ⟨BS,xp,BU⟩,.i rR]::Rs.own ⟨BT,xq,BV⟩ eI.z BW::R0) λR=>ROs (aa eI (aa eI (aa eI (aa eI eI)))) H R ⟨BS,xp,BU⟩ kb/\CR eI H R BW kc)->∀ {r:ab9},pC kb rR kc gM=some r->Rt (C ju 0 ⟨BT,xq,BV⟩ gM H) (ak.Q H0 Ri R0  r)
def ak.S1963 (H0:Hp) (Ri R0:abR)  (C:acC) (pC:acO):Prop:=∀ {BX BY xr kR xt BZ B_ ms nR iv fp fq gh jf Ca},∀ {H:Hp},xr=ms.length->xt=jf.length->(Out H0 Ri H (Rs.blk kR [.sl ⟨BX,xr,BZ⟩,.i nR]::Rs.own ⟨BY,xt,B_⟩ eI.z Ca::R0) λR=>ROs (aa eI (aa eI (aa eI (aa eI eI)))) H R ⟨BX,xr,BZ⟩ ms/\CR eI H R Ca jf)->∀ {r:ab9},pC ms nR jf iv fp fq gh=some r->Rt (C kR 0 ⟨BY,xt,B_⟩ iv fp fq gh H) (ak.Q H0 Ri R0  r)
def ak.pj12 (F:Nat) (xu:acO) (tZ:abX) (xv:Int) (t_:abU) (pN:Int) (pO:Int) (pP:Int) (pQ:Int):Option (List Int×Int):=xu tZ xv t_ pN pO pP (wrap .i64 (pQ+1))
theorem ak.j12_P  {C1963_:acC} {xu:acO} (hC1963:ak.S1963 H0 Ri R0  C1963_ xu) {Kt Ku Cb vM Cc Kv Kw tZ xv pN pO pP pQ t_ Ky} (Vd:Cb=tZ.length) (Ve:Cc=t_.length) (h0:Out H0 Ri H (Rs.blk vM [.sl ⟨Kt,Cb,Kv⟩,.i xv]::Rs.own ⟨Ku,Cc,Kw⟩ eI.z Ky::R0) λR=>ROs (aa eI (aa eI (aa eI (aa eI eI)))) H R ⟨Kt,Cb,Kv⟩ tZ/\CR eI H R Ky t_) {r:ab9} (hp:ak.pj12 F xu tZ xv t_ pN pO pP pQ=some r):Rt (ak.j12 F  C1963_ vM 0 ⟨Ku,Cc,Kw⟩ pN pO pP pQ H) (ak.Q H0 Ri R0  r):=by
 obtain ⟨w0,s0,Vf,Vg⟩:=h0
 subst Vd
 subst Ve
 unfold ak.pj12 at hp
 unfold ak.j12
 exact hC1963 rfl rfl ⟨w0,s0,Vf,Vg⟩ hp
def ak.pj10 (F:Nat) (az:aco) (ua:abX) (xw:Int) (ub:abU) (pL:Int):Option (List Int×Int):=az ua xw ub (wrap .i64 (pL+1))
theorem ak.j10_P  {C61_:aca} {az:aco} (hC61:ak.S61 H0 Ri R0  C61_ az) {Kz KA Cd vK Ce KB KC ua xw pL ub KD} (Vh:Cd=ua.length) (Vi:Ce=ub.length) (h0:Out H0 Ri H (Rs.blk vK [.sl ⟨Kz,Cd,KB⟩,.i xw]::Rs.own ⟨KA,Ce,KC⟩ eI.z KD::R0) λR=>ROs (aa eI (aa eI (aa eI (aa eI eI)))) H R ⟨Kz,Cd,KB⟩ ua/\CR eI H R KD ub) {r:ab9} (hp:ak.pj10 F az ua xw ub pL=some r):Rt (ak.j10 F  C61_ vK 0 ⟨KA,Ce,KC⟩ pL H) (ak.Q H0 Ri R0  r):=by
 obtain ⟨w0,s0,Vj,Vk⟩:=h0
 subst Vh
 subst Vi
 unfold ak.pj10 at hp
 unfold ak.j10
 exact hC61 rfl rfl ⟨w0,s0,Vj,Vk⟩ hp
def ak.pj11 (F:Nat) (az:aco) (uc:abX) (xx:Int) (ud:abU) (pM:Int):Option (List Int×Int):=ak.pj10 F az uc xx ud pM
theorem ak.j11_P  {C61_:aca} {az:aco} (hC61:ak.S61 H0 Ri R0  C61_ az) {KE KF Cf vL Cg KG KH uc xx pM ud KI} (Vl:Cf=uc.length) (Vm:Cg=ud.length) (h0:Out H0 Ri H (Rs.blk vL [.sl ⟨KE,Cf,KG⟩,.i xx]::Rs.own ⟨KF,Cg,KH⟩ eI.z KI::R0) λR=>ROs (aa eI (aa eI (aa eI (aa eI eI)))) H R ⟨KE,Cf,KG⟩ uc/\CR eI H R KI ud) {r:ab9} (hp:ak.pj11 F az uc xx ud pM=some r):Rt (ak.j11 F  C61_ vL 0 ⟨KF,Cg,KH⟩ pM H) (ak.Q H0 Ri R0  r):=by
 obtain ⟨w0,s0,Vn,Vo⟩:=h0
 subst Vl
 subst Vm
 unfold ak.pj11 at hp
 unfold ak.j11
 exact ak.j10_P (@hC61) rfl rfl ⟨w0,s0,Vn,Vo⟩ hp
def ak.pl1963 (F:Nat) (az:aco):Nat->List (Int×Int×Int×Int×Int)->Int->List Int->Int->Int->Int->Int->Option (List Int×Int)
 | 0,_,_,_,_,_,_,_=>none
 | k+1,ms,nR,jf,iv,fp,fq,gh=>(bif (decide (gh<(jf.length:Int))) then ((ix jf gh).bind λn1=>(bif ((gt jf n1)==(if fq>fp then fq else fp)) then ((ix jf gh).bind λn2=>(some (jf.set n2 (if fq<fp then fq else fp))).bind λl3=>ak.pj12 F (ak.pl1963 F az k) ms nR l3 iv fp fq gh) else (ak.pj12 F (ak.pl1963 F az k) ms nR jf iv fp fq gh))) else (ak.pj11 F az ms nR jf iv))
theorem ak.l1963_P  {C61_:aca} {az:aco} (hC61:ak.S61 H0 Ri R0  C61_ az):∀ k,ak.S1963 H0 Ri R0  (ak.l1963 F  C61_ k) (ak.pl1963 F az k):=by
 intro k
 induction k with
 | zero=>unfold ak.S1963;intros;rename_i hp;cases hp
 | succ k ih=>
  intro BX BY xr kR xt BZ B_ ms nR iv fp fq gh jf Ca H Vp Vq h0 r hp
  obtain ⟨w0,s0,Ch,ue⟩:=h0
  subst Vp
  subst Vq
  unfold ak.pl1963 at hp
  unfold ak.l1963
  refine ax hp (λhp=>?_) λhp=>?_
  ·obtain ⟨n1,g1,hp⟩:=ah hp
   obtain ⟨p1,q1,i1,h1,j1⟩:=W.ixo (E:=eI) w0 (i:=1) rfl rfl ue g1
   refine ai i1 ?_
   have h1:_=[_]:=h1
   subst h1
   refine ai (aH (j1 0 _ rfl)) ?_
   refine ax hp (λhp=>?_) λhp=>?_
   ·obtain ⟨n2,g2,hp⟩:=ah hp
    obtain ⟨p2,q2,i2,h2,j2⟩:=W.ixo (E:=eI) w0 (i:=1) rfl rfl ue g2
    refine ai i2 ?_
    obtain ⟨l3,e3,hp⟩:=ah hp
    refine eA eI w0 (i:=1) (j:=0) (p:=p2) rfl rfl ue g2 i2 e3 rfl rfl (λ_ h=>by have h:_=[_]:=h;subst h;exact rfl) λH4 k4 w4 s4 c4=>?_
    exact ak.j12_P (@ih) rfl ((cE e3).symm) ⟨w4,(s0.trans s4),(Ch.step s4),c4⟩ hp
   ·exact ak.j12_P (@ih) rfl rfl ⟨w0,s0,Ch,ue⟩ hp
  ·exact ak.j11_P (@hC61) rfl rfl ⟨w0,s0,Ch,ue⟩ hp
def ak.S509 (H0:Hp) (Ri R0:abR)  (C:acE) (pC:acP):Prop:=∀ {Ci Cj Ck xy kQ xz xA Cl Cm Cn Co nS gg fo jg jh Cp Cq},∀ {H:Hp},xy=Co.length->xz=jg.length->xA=jh.length->(Out H0 Ri H (Rs.blk kQ [.sl ⟨Ci,xy,Cl⟩,.i nS]::Rs.own ⟨Cj,xz,Cm⟩ eI.z Cp::Rs.own ⟨Ck,xA,Cn⟩ eI.z Cq::R0) λR=>ROs (aa eI (aa eI (aa eI (aa eI eI)))) H R ⟨Ci,xy,Cl⟩ Co/\CR eI H R Cp jg/\CR eI H R Cq jh)->∀ {r:ab9},pC nS jg jh gg fo=some r->Rt (C kQ 0 ⟨Cj,xz,Cm⟩ ⟨Ck,xA,Cn⟩ gg fo H) (ak.Q H0 Ri R0  r)
def ak.pj7 (F:Nat) (xB:acP) (xC:Int) (ug:abU) (uh:abU) (pI:Int) (pJ:Int):Option (List Int×Int):=xB xC ug uh pI (wrap .i64 (pJ+1))
theorem ak.j7_P  {C509_:acE} {xB:acP} (hC509:ak.S509 H0 Ri R0  C509_ xB) {KJ KK KL Ct vH Cu Cv KM KN KO KP xC pI pJ ug uh KQ KR} (Vr:Ct=KP.length) (Vs:Cu=ug.length) (Vt:Cv=uh.length) (h0:Out H0 Ri H (Rs.blk vH [.sl ⟨KJ,Ct,KM⟩,.i xC]::Rs.own ⟨KK,Cu,KN⟩ eI.z KQ::Rs.own ⟨KL,Cv,KO⟩ eI.z KR::R0) λR=>ROs (aa eI (aa eI (aa eI (aa eI eI)))) H R ⟨KJ,Ct,KM⟩ KP/\CR eI H R KQ ug/\CR eI H R KR uh) {r:ab9} (hp:ak.pj7 F xB xC ug uh pI pJ=some r):Rt (ak.j7 F  C509_ vH 0 ⟨KK,Cu,KN⟩ ⟨KL,Cv,KO⟩ pI pJ H) (ak.Q H0 Ri R0  r):=by
 obtain ⟨w0,s0,Vu,Vv,Vw⟩:=h0
 subst Vr
 subst Vs
 subst Vt
 unfold ak.pj7 at hp
 unfold ak.j7
 exact hC509 rfl rfl rfl ⟨w0,s0,Vu,Vv,Vw⟩ hp
def ak.pj6 (F:Nat)  (xD:Int) (ui:abU) (pH:Int):Option (List Int×Int):=some (ui,(wrap .i64 (pH+xD)))
theorem ak.j6_P   {KS KT Cw vG Cx KU KV KW xD pH ui KX} (Vx:Cw=KW.length) (Vy:Cx=ui.length) (h0:Out H0 Ri H (Rs.blk vG [.sl ⟨KS,Cw,KU⟩,.i xD]::Rs.own ⟨KT,Cx,KV⟩ eI.z KX::R0) λR=>ROs (aa eI (aa eI (aa eI (aa eI eI)))) H R ⟨KS,Cw,KU⟩ KW/\CR eI H R KX ui) {r:ab9} (hp:ak.pj6 F  xD ui pH=some r):Rt (ak.j6 F   vG 0 ⟨KT,Cx,KV⟩ pH H) (ak.Q H0 Ri R0  r):=by
 obtain ⟨w0,s0,abg,Vz⟩:=h0
 subst Vx
 subst Vy
 unfold ak.pj6 at hp
 unfold ak.j6
 refine lI w0 0 ?_
 obtain ⟨w1,s1⟩:=w0.pp [1] 2
 exact aw hp ⟨_,_,_,_,rfl,rfl,w1,(s0.trans s1),(Vz.step s1)⟩
def ak.pl509 (F:Nat) :Nat->Int->List Int->List Int->Int->Int->Option (List Int×Int)
 | 0,_,_,_,_,_=>none
 | k+1,nS,jg,jh,gg,fo=>(bif (decide (fo<(jg.length:Int))) then ((ix jg fo).bind λn1=>(bif ((gt jg n1)==fo) then ((apn jh ([gg]:List Int)).bind λl3=>ak.pj7 F (ak.pl509 F k) nS jg l3 (wrap .i64 (gg+1)) fo) else ((ix jg fo).bind λn6=>(ix jh (gt jg n6)).bind λn7=>(apn jh ([(gt jh n7)]:List Int)).bind λl9=>ak.pj7 F (ak.pl509 F k) nS jg l9 gg fo))) else (ak.pj6 F nS jh gg))
theorem ak.l509_P  :∀ k,ak.S509 H0 Ri R0  (ak.l509 F   k) (ak.pl509 F  k):=by
 intro k
 induction k with
 | zero=>unfold ak.S509;intros;rename_i hp;cases hp
 | succ k ih=>
  intro Ci Cj Ck xy kQ xz xA Cl Cm Cn Co nS gg fo jg jh Cp Cq H VA VB VC h0 r hp
  obtain ⟨w0,s0,Cy,xE,xF⟩:=h0
  subst VA
  subst VB
  subst VC
  unfold ak.pl509 at hp
  unfold ak.l509
  refine ax hp (λhp=>?_) λhp=>?_
  ·obtain ⟨n1,g1,hp⟩:=ah hp
   obtain ⟨p1,q1,i1,h1,j1⟩:=W.ixo (E:=eI) w0 (i:=1) rfl rfl xE g1
   refine ai i1 ?_
   have h1:_=[_]:=h1
   subst h1
   refine ai (aH (j1 0 _ rfl)) ?_
   refine ax hp (λhp=>?_) λhp=>?_
   ·refine cI eI w0 (n:=1) (l:=([gg]:List Int)) rfl (CR.cons1 rfl CR.empty) rfl λH2 w2 s2 c2=>?_
    refine ai (w2.rowo (i:=0) rfl) ?_
    obtain ⟨l3,e3,hp⟩:=ah hp
    refine gD eI w2 (i:=3) rfl rfl (xF.step s2) c2 (show 1=List.length ([gg]:List Int) from rfl) rfl e3 λa4 d4 H4 w4 s4 c4 x4=>?_
    obtain ⟨w5,s5⟩:=w4.pp [1,2,3] 4
    exact ak.j7_P (@ih) rfl rfl rfl ⟨w5,(s0.trans (s2.trans (s4.trans s5))),(Cy.step (s2.trans (s4.trans s5))),(xE.step (s2.trans (s4.trans s5))),(c4.step s5)⟩ hp
   ·obtain ⟨n6,g6,hp⟩:=ah hp
    obtain ⟨p6,q6,i6,h6,j6⟩:=W.ixo (E:=eI) w0 (i:=1) rfl rfl xE g6
    refine ai i6 ?_
    have h6:_=[_]:=h6
    subst h6
    refine ai (aH (j6 0 _ rfl)) ?_
    obtain ⟨n7,g7,hp⟩:=ah hp
    obtain ⟨p7,q7,i7,h7,j7⟩:=W.ixo (E:=eI) w0 (i:=2) rfl rfl xF g7
    refine ai i7 ?_
    have h7:_=[_]:=h7
    subst h7
    refine ai (aH (j7 0 _ rfl)) ?_
    refine cI eI w0 (n:=1) (l:=([(gt jh n7)]:List Int)) rfl (CR.cons1 rfl CR.empty) rfl λH8 w8 s8 c8=>?_
    refine ai (w8.rowo (i:=0) rfl) ?_
    obtain ⟨l9,e9,hp⟩:=ah hp
    refine gD eI w8 (i:=3) rfl rfl (xF.step s8) c8 (show 1=List.length ([(gt jh n7)]:List Int) from rfl) rfl e9 λa10 d10 H10 w10 s10 c10 x10=>?_
    obtain ⟨w11,s11⟩:=w10.pp [1,2,3] 4
    exact ak.j7_P (@ih) rfl rfl rfl ⟨w11,(s0.trans (s8.trans (s10.trans s11))),(Cy.step (s8.trans (s10.trans s11))),(xE.step (s8.trans (s10.trans s11))),(c10.step s11)⟩ hp
  ·obtain ⟨w12,s12⟩:=w0.pp [0,2] 3
   exact ak.j6_P rfl rfl ⟨w12,(s0.trans s12),(Cy.step s12),(xF.step s12)⟩ hp
def ak.pj8 (F:Nat)  (xG:Int) (uj:abU):Option (List Int×Int):=ak.pl509 F F xG uj ([]:List Int) 0 0
theorem ak.j8_P   {KY KZ Cz vJ CA K_ La Lb xG uj Lc} (VD:Cz=Lb.length) (VE:CA=uj.length) (h0:Out H0 Ri H (Rs.blk vJ [.sl ⟨KY,Cz,K_⟩,.i xG]::Rs.own ⟨KZ,CA,La⟩ eI.z Lc::R0) λR=>ROs (aa eI (aa eI (aa eI (aa eI eI)))) H R ⟨KY,Cz,K_⟩ Lb/\CR eI H R Lc uj) {r:ab9} (hp:ak.pj8 F  xG uj=some r):Rt (ak.j8 F   vJ 0 ⟨KZ,CA,La⟩ H) (ak.Q H0 Ri R0  r):=by
 obtain ⟨w0,s0,VF,VG⟩:=h0
 subst VD
 subst VE
 unfold ak.pj8 at hp
 unfold ak.j8
 refine cI eI w0 (n:=0) (l:=([]:List Int)) rfl CR.empty rfl λH1 w1 s1 c1=>?_
 obtain ⟨w2,s2⟩:=w1.pp [1,2,0] 3
 exact ak.l509_P F rfl rfl (show 0=List.length ([]:List Int) from rfl) ⟨w2,(s0.trans (s1.trans s2)),(VF.step (s1.trans s2)),(VG.step (s1.trans s2)),(c1.step s2)⟩ hp
def ak.pl61 (F:Nat) :Nat->List (Int×Int×Int×Int×Int)->Int->List Int->Int->Option (List Int×Int)
 | 0,_,_,_,_=>none
 | k+1,kb,rR,kc,gM=>(bif (decide (gM<(kb.length:Int))) then ((ix kb gM).bind λn1=>(ix kc ((gt kb n1).2.1)).bind λn2=>(ix kb gM).bind λn3=>(ix kc ((gt kb n3).2.2.2.1)).bind λn4=>ak.pl1963 F (ak.pl61 F k) F kb rR kc gM (gt kc n2) (gt kc n4) 0) else (ak.pj8 F rR kc))
theorem ak.l61_P  :∀ k,ak.S61 H0 Ri R0  (ak.l61 F   k) (ak.pl61 F  k):=by
 intro k
 induction k with
 | zero=>unfold ak.S61;intros;rename_i hp;cases hp
 | succ k ih=>
  intro BS BT xp ju xq BU BV kb rR gM kc BW H VH VI h0 r hp
  obtain ⟨w0,s0,xH,xI⟩:=h0
  subst VH
  subst VI
  unfold ak.pl61 at hp
  unfold ak.l61
  refine lSl w0 0 ?_
  refine ax hp (λhp=>?_) λhp=>?_
  ·refine lSl w0 0 ?_
   obtain ⟨n1,g1,hp⟩:=ah hp
   obtain ⟨p1,q1,i1,h1,j1⟩:=ROs.ixr xH rfl g1
   refine ai i1 ?_
   obtain ⟨_,_,rfl,rfl,_,_,rfl,rfl,_,_,rfl,rfl,_,_,rfl,rfl,rfl⟩:=h1
   refine ai (aH (j1 1 _ rfl)) ?_
   obtain ⟨n2,g2,hp⟩:=ah hp
   obtain ⟨p2,q2,i2,h2,j2⟩:=W.ixo (E:=eI) w0 (i:=1) rfl rfl xI g2
   refine ai i2 ?_
   have h2:_=[_]:=h2
   subst h2
   refine ai (aH (j2 0 _ rfl)) ?_
   refine lSl w0 0 ?_
   obtain ⟨n3,g3,hp⟩:=ah hp
   obtain ⟨p3,q3,i3,h3,j3⟩:=ROs.ixr xH rfl g3
   refine ai i3 ?_
   obtain ⟨_,_,rfl,rfl,_,_,rfl,rfl,_,_,rfl,rfl,_,_,rfl,rfl,rfl⟩:=h3
   refine ai (aH (j3 3 _ rfl)) ?_
   obtain ⟨n4,g4,hp⟩:=ah hp
   obtain ⟨p4,q4,i4,h4,j4⟩:=W.ixo (E:=eI) w0 (i:=1) rfl rfl xI g4
   refine ai i4 ?_
   have h4:_=[_]:=h4
   subst h4
   refine ai (aH (j4 0 _ rfl)) ?_
   exact ak.l1963_P (@ih) F rfl rfl ⟨w0,s0,xH,xI⟩ hp
  ·exact ak.j8_P rfl rfl ⟨w0,s0,xH,xI⟩ hp
def ak.pj13 (F:Nat)  (uk:abX) (xJ:Int) (ul:abU):Option (List Int×Int):=ak.pl61 F F uk xJ ul 0
theorem ak.j13_P   {Ld Le CB pz CC Lf Lg uk xJ ul Lh} (VJ:CB=uk.length) (VK:CC=ul.length) (h0:Out H0 Ri H (Rs.blk pz [.sl ⟨Ld,CB,Lf⟩,.i xJ]::Rs.own ⟨Le,CC,Lg⟩ eI.z Lh::R0) λR=>ROs (aa eI (aa eI (aa eI (aa eI eI)))) H R ⟨Ld,CB,Lf⟩ uk/\CR eI H R Lh ul) {r:ab9} (hp:ak.pj13 F  uk xJ ul=some r):Rt (ak.j13 F   pz 0 ⟨Le,CC,Lg⟩ H) (ak.Q H0 Ri R0  r):=by
 obtain ⟨w0,s0,VL,VM⟩:=h0
 subst VJ
 subst VK
 unfold ak.pj13 at hp
 unfold ak.j13
 exact ak.l61_P F rfl rfl ⟨w0,s0,VL,VM⟩ hp
def ak.pl29 (F:Nat) :Nat->List (Int×Int×Int×Int×Int)->Int->List Int->Int->Option (List Int×Int)
 | 0,_,_,_,_=>none
 | k+1,gu,lm,nQ,ee=>(bif (decide (ee<(wrap .i64 (2 * (gu.length:Int))))) then ((apn nQ ([ee]:List Int)).bind λl2=>ak.pl29 F k gu lm l2 (wrap .i64 (ee+1))) else (ak.pj13 F gu lm nQ))
theorem ak.l29_P  :∀ k,ak.S29 H0 Ri R0  (ak.l29 F   k) (ak.pl29 F  k):=by
 intro k
 induction k with
 | zero=>unfold ak.S29;intros;rename_i hp;cases hp
 | succ k ih=>
  intro nL BP ll cK xo nO BQ gu lm ee nQ BR H BJ VN h0 r hp
  obtain ⟨w0,s0,tX,Li⟩:=h0
  subst BJ
  subst VN
  unfold ak.pl29 at hp
  unfold ak.l29
  refine lSl w0 0 ?_
  refine ax hp (λhp=>?_) λhp=>?_
  ·refine cI eI w0 (n:=1) (l:=([ee]:List Int)) rfl (CR.cons1 rfl CR.empty) rfl λH1 w1 s1 c1=>?_
   refine ai (w1.rowo (i:=0) rfl) ?_
   obtain ⟨l2,e2,hp⟩:=ah hp
   refine gD eI w1 (i:=2) rfl rfl (Li.step s1) c1 (show 1=List.length ([ee]:List Int) from rfl) rfl e2 λa3 d3 H3 w3 s3 c3 x3=>?_
   obtain ⟨w4,s4⟩:=w3.pp [1,2] 3
   exact ih rfl rfl ⟨w4,(s0.trans (s1.trans (s3.trans s4))),(tX.step (s1.trans (s3.trans s4))),(c3.step s4)⟩ hp
  ·exact ak.j13_P rfl rfl ⟨w0,s0,tX,Li⟩ hp
def ak.p (F:Nat) (af:abX) (ag:Int):Option (List Int×Int):=ak.pl29 F F af ag ([]:List Int) 0
theorem ak.P {ar aj au af ag} (aN:aj=af.length) (h0:Inn H R0 λR=>ROs (aa eI (aa eI (aa eI (aa eI eI)))) H R ⟨ar,aj,au⟩ af) {r:ab9} (hp:ak.p F af ag=some r):Rt (ak.tw F ⟨ar,aj,au⟩ ag H) (ak.Q H R0 R0  r):=by
 obtain ⟨w0,aG⟩:=h0
 subst aN
 unfold ak.p at hp
 unfold ak.tw ak.twX
 have s0:=w0.rf
 refine a_ w0 λH1 w1 s1=>?_
 refine cI eI w1 (n:=0) (l:=([]:List Int)) rfl CR.empty rfl λH2 w2 s2 c2=>?_
 obtain ⟨w3,s3⟩:=w2.pp [1,0] 2
 exact ak.l29_P F rfl (show 0=List.length ([]:List Int) from rfl) ⟨w3,(s0.trans (s1.trans (s2.trans s3))),(aG.step (s1.trans (s2.trans s3))),(c2.step s3)⟩ hp
def bc.Q (H0:Hp) (Ri R0:abR)  (r:ab2) (v:AV) (H':Hp):Prop:=∃ o0a:ON,∃ o0n:Nat,∃ o0c:Cap,∃ o0k:List AV,v=(.sl ⟨o0a,o0n,o0c⟩)/\o0n=(r).length/\Out H0 Ri H' (Rs.own ⟨o0a,o0n,o0c⟩ (eSl eI).z o0k::R0) λR=>CR (eSl eI) H' R o0k (r)
def bc.S61 (H0:Hp) (Ri R0:abR)  (C:acd) (pC:acQ):Prop:=∀ {CD nT CE xK kn lq xL CF nU CG iU Lj gN cW nV CH cj},∀ {H:Hp},xK=iU.length->lq=cW.length->xL=cj.length->(Out H0 Ri H (Rs.blk kn [.sl ⟨CD,xK,CF⟩,.i Lj]::Rs.own ⟨nT,lq,nU⟩ (eSl eI).z nV::Rs.own ⟨CE,xL,CG⟩ eI.z CH::R0) λR=>ROs (aa eI (aa eI (aa eI (aa eI eI)))) H R ⟨CD,xK,CF⟩ iU/\CR (eSl eI) H R nV cW/\CR eI H R CH cj)->∀ {r:ab2},pC iU cW cj gN=some r->Rt (C kn 0 ⟨nT,lq,nU⟩ ⟨CE,xL,CG⟩ gN H) (bc.Q H0 Ri R0  r)
def bc.pj2 (F:Nat) (az:acQ) (jY:abX) (jZ:ab2) (j_:abU) (gj:Int):Option (List (List Int)):=az jY jZ j_ (wrap .i64 (gj+1))
theorem bc.j2_P  {C61_:acd} {az:acQ} (hC61:bc.S61 H0 Ri R0  C61_ az) {tv tz tB nF eY nG nH tC tD tE jY AK gj jZ tF tG j_} (AL:nF=jY.length) (AN:nG=jZ.length) (AO:nH=j_.length) (h0:Out H0 Ri H (Rs.blk eY [.sl ⟨tv,nF,tC⟩,.i AK]::Rs.own ⟨tz,nG,tD⟩ (eSl eI).z tF::Rs.own ⟨tB,nH,tE⟩ eI.z tG::R0) λR=>ROs (aa eI (aa eI (aa eI (aa eI eI)))) H R ⟨tv,nF,tC⟩ jY/\CR (eSl eI) H R tF jZ/\CR eI H R tG j_) {r:ab2} (hp:bc.pj2 F az jY jZ j_ gj=some r):Rt (bc.j2 F (ak.tw F) C61_ eY 0 ⟨tz,nG,tD⟩ ⟨tB,nH,tE⟩ gj H) (bc.Q H0 Ri R0  r):=by
 obtain ⟨w0,s0,AP,AQ,AR⟩:=h0
 subst AL
 subst AN
 subst AO
 unfold bc.pj2 at hp
 unfold bc.j2
 exact hC61 rfl rfl rfl ⟨w0,s0,AP,AQ,AR⟩ hp
def bc.pl61 (F:Nat) :Nat->List (Int×Int×Int×Int×Int)->List (List Int)->List Int->Int->Option (List (List Int))
 | 0,_,_,_,_=>none
 | k+1,iU,cW,cj,gN=>(bif (decide (gN<(iU.length:Int))) then ((ix iU gN).bind λn1=>(ix cj ((gt iU n1).1)).bind λn8=>(ix cj ((gt iU n1).2.2.1)).bind λn9=>(ix cj ((gt iU n1).2.1)).bind λn10=>(bif (((gt iU n1).2.2.2.2)==1) then ((apn cW ([([(wrap .i64 ((gt cj n9)+1)),(wrap .i64 ((gt cj n10)+1)),(wrap .i64 (0 - (wrap .i64 ((gt cj n8)+1)))),(wrap .i64 (0 - (wrap .i64 ((gt cj n10)+1))))]:List Int)]:List (List Int))).bind λl14=>bc.pj2 F (bc.pl61 F k) iU l14 cj gN) else ((apn cW ([([(wrap .i64 ((gt cj n9)+1)),(wrap .i64 (0 - (wrap .i64 ((gt cj n10)+1)))),(wrap .i64 (0 - (wrap .i64 ((gt cj n8)+1)))),(wrap .i64 ((gt cj n10)+1))]:List Int)]:List (List Int))).bind λl20=>bc.pj2 F (bc.pl61 F k) iU l20 cj gN))) else (some cW))
theorem bc.l61_P  :∀ k,bc.S61 H0 Ri R0  (bc.l61 F (ak.tw F)  k) (bc.pl61 F  k):=by
 intro k
 induction k with
 | zero=>unfold bc.S61;intros;rename_i hp;cases hp
 | succ k ih=>
  intro CD nT CE xK kn lq xL CF nU CG iU Lj gN cW nV CH cj H VO CI VP h0 r hp
  obtain ⟨w0,s0,CJ,mu,um⟩:=h0
  subst VO
  subst CI
  subst VP
  unfold bc.pl61 at hp
  unfold bc.l61
  refine lSl w0 0 ?_
  refine ax hp (λhp=>?_) λhp=>?_
  ·refine lSl w0 0 ?_
   obtain ⟨n1,g1,hp⟩:=ah hp
   obtain ⟨p1,q1,i1,h1,j1⟩:=ROs.ixr CJ rfl g1
   refine ai i1 ?_
   obtain ⟨_,_,rfl,rfl,_,_,rfl,rfl,_,_,rfl,rfl,_,_,rfl,rfl,rfl⟩:=h1
   refine ai (aH (j1 0 _ rfl)) ?_
   refine ai (aH (j1 1 _ rfl)) ?_
   refine ai (aH (j1 2 _ rfl)) ?_
   refine ai (aH (j1 3 _ rfl)) ?_
   refine ai (aH (j1 4 _ rfl)) ?_
   refine a_ w0 λH2 w2 s2=>?_
   refine aA w2 0 λH3 w3 s3=>?_
   refine aA w3 0 λH4 w4 s4=>?_
   refine aA w4 0 λH5 w5 s5=>?_
   refine aA w5 0 λH6 w6 s6=>?_
   refine aA w6 0 λH7 w7 s7=>?_
   refine lI w7 0 ?_
   obtain ⟨n8,g8,hp⟩:=ah hp
   obtain ⟨p8,q8,i8,h8,j8⟩:=W.ixo (E:=eI) w7 (i:=3) rfl rfl (um.step (s2.trans (s3.trans (s4.trans (s5.trans (s6.trans s7)))))) g8
   refine ai i8 ?_
   have h8:_=[_]:=h8
   subst h8
   refine ai (aH (j8 0 _ rfl)) ?_
   refine lI w7 0 ?_
   obtain ⟨n9,g9,hp⟩:=ah hp
   obtain ⟨p9,q9,i9,h9,j9⟩:=W.ixo (E:=eI) w7 (i:=3) rfl rfl (um.step (s2.trans (s3.trans (s4.trans (s5.trans (s6.trans s7)))))) g9
   refine ai i9 ?_
   have h9:_=[_]:=h9
   subst h9
   refine ai (aH (j9 0 _ rfl)) ?_
   refine lI w7 0 ?_
   obtain ⟨n10,g10,hp⟩:=ah hp
   obtain ⟨p10,q10,i10,h10,j10⟩:=W.ixo (E:=eI) w7 (i:=3) rfl rfl (um.step (s2.trans (s3.trans (s4.trans (s5.trans (s6.trans s7)))))) g10
   refine ai i10 ?_
   have h10:_=[_]:=h10
   subst h10
   refine ai (aH (j10 0 _ rfl)) ?_
   refine lI w7 0 ?_
   refine ax hp (λhp=>?_) λhp=>?_
   ·refine cI eI w7 (n:=4) (l:=([(wrap .i64 ((gt cj n9)+1)),(wrap .i64 ((gt cj n10)+1)),(wrap .i64 (0 - (wrap .i64 ((gt cj n8)+1)))),(wrap .i64 (0 - (wrap .i64 ((gt cj n10)+1))))]:List Int)) rfl (CR.cons1 rfl (CR.cons1 rfl (CR.cons1 rfl (CR.cons1 rfl CR.empty)))) rfl λH11 w11 s11 c11=>?_
    obtain ⟨w12,s12,f12⟩:=w11.frz (i:=0) eI rfl c11
    refine cI (eSl eI) w12 (n:=1) (l:=([([(wrap .i64 ((gt cj n9)+1)),(wrap .i64 ((gt cj n10)+1)),(wrap .i64 (0 - (wrap .i64 ((gt cj n8)+1)))),(wrap .i64 (0 - (wrap .i64 ((gt cj n10)+1))))]:List Int)]:List (List Int))) rfl (CR.cons1 ⟨_,rfl,f12⟩ CR.empty) rfl λH13 w13 s13 c13=>?_
    refine ai (w13.rowo (i:=0) rfl) ?_
    obtain ⟨l14,e14,hp⟩:=ah hp
    refine gD (eSl eI) w13 (i:=3) rfl rfl (mu.step (s2.trans (s3.trans (s4.trans (s5.trans (s6.trans (s7.trans (s11.trans (s12.trans s13))))))))) c13 (show 1=List.length ([([(wrap .i64 ((gt cj n9)+1)),(wrap .i64 ((gt cj n10)+1)),(wrap .i64 (0 - (wrap .i64 ((gt cj n8)+1)))),(wrap .i64 (0 - (wrap .i64 ((gt cj n10)+1))))]:List Int)]:List (List Int)) from rfl) rfl e14 λa15 d15 H15 w15 s15 c15 x15=>?_
    obtain ⟨w16,s16⟩:=w15.pp [2,3,4] 5
    exact bc.j2_P (@ih) rfl rfl rfl ⟨w16,(s0.trans (s2.trans (s3.trans (s4.trans (s5.trans (s6.trans (s7.trans (s11.trans (s12.trans (s13.trans (s15.trans s16))))))))))),(CJ.step (s2.trans (s3.trans (s4.trans (s5.trans (s6.trans (s7.trans (s11.trans (s12.trans (s13.trans (s15.trans s16))))))))))),(c15.step s16),(um.step (s2.trans (s3.trans (s4.trans (s5.trans (s6.trans (s7.trans (s11.trans (s12.trans (s13.trans (s15.trans s16)))))))))))⟩ hp
   ·refine cI eI w7 (n:=4) (l:=([(wrap .i64 ((gt cj n9)+1)),(wrap .i64 (0 - (wrap .i64 ((gt cj n10)+1)))),(wrap .i64 (0 - (wrap .i64 ((gt cj n8)+1)))),(wrap .i64 ((gt cj n10)+1))]:List Int)) rfl (CR.cons1 rfl (CR.cons1 rfl (CR.cons1 rfl (CR.cons1 rfl CR.empty)))) rfl λH17 w17 s17 c17=>?_
    obtain ⟨w18,s18,f18⟩:=w17.frz (i:=0) eI rfl c17
    refine cI (eSl eI) w18 (n:=1) (l:=([([(wrap .i64 ((gt cj n9)+1)),(wrap .i64 (0 - (wrap .i64 ((gt cj n10)+1)))),(wrap .i64 (0 - (wrap .i64 ((gt cj n8)+1)))),(wrap .i64 ((gt cj n10)+1))]:List Int)]:List (List Int))) rfl (CR.cons1 ⟨_,rfl,f18⟩ CR.empty) rfl λH19 w19 s19 c19=>?_
    refine ai (w19.rowo (i:=0) rfl) ?_
    obtain ⟨l20,e20,hp⟩:=ah hp
    refine gD (eSl eI) w19 (i:=3) rfl rfl (mu.step (s2.trans (s3.trans (s4.trans (s5.trans (s6.trans (s7.trans (s17.trans (s18.trans s19))))))))) c19 (show 1=List.length ([([(wrap .i64 ((gt cj n9)+1)),(wrap .i64 (0 - (wrap .i64 ((gt cj n10)+1)))),(wrap .i64 (0 - (wrap .i64 ((gt cj n8)+1)))),(wrap .i64 ((gt cj n10)+1))]:List Int)]:List (List Int)) from rfl) rfl e20 λa21 d21 H21 w21 s21 c21 x21=>?_
    obtain ⟨w22,s22⟩:=w21.pp [2,3,4] 5
    exact bc.j2_P (@ih) rfl rfl rfl ⟨w22,(s0.trans (s2.trans (s3.trans (s4.trans (s5.trans (s6.trans (s7.trans (s17.trans (s18.trans (s19.trans (s21.trans s22))))))))))),(CJ.step (s2.trans (s3.trans (s4.trans (s5.trans (s6.trans (s7.trans (s17.trans (s18.trans (s19.trans (s21.trans s22))))))))))),(c21.step s22),(um.step (s2.trans (s3.trans (s4.trans (s5.trans (s6.trans (s7.trans (s17.trans (s18.trans (s19.trans (s21.trans s22)))))))))))⟩ hp
  ·obtain ⟨w23,s23⟩:=w0.pp [1] 3
   exact aw hp ⟨_,_,_,_,rfl,rfl,w23,(s0.trans s23),(mu.step s23)⟩
def bc.p (F:Nat) (af:abX) (ag:Int):Option (List (List Int)):=(ak.p F af ag).bind λr3=>bc.pl61 F F af ([]:List (List Int)) r3.1 0
theorem bc.P {ar aj au af ag} (aN:aj=af.length) (h0:Inn H R0 λR=>ROs (aa eI (aa eI (aa eI (aa eI eI)))) H R ⟨ar,aj,au⟩ af) {r:ab2} (hp:bc.p F af ag=some r):Rt (bc.tw F ⟨ar,aj,au⟩ ag H) (bc.Q H R0 R0  r):=by
 obtain ⟨w0,aG⟩:=h0
 subst aN
 unfold bc.p at hp
 unfold bc.tw bc.twX
 have s0:=w0.rf
 refine a_ w0 λH1 w1 s1=>?_
 refine cI (eSl eI) w1 (n:=0) (l:=([]:List (List Int))) rfl CR.empty rfl λH2 w2 s2 c2=>?_
 refine lSl w2 1 ?_
 refine lI w2 1 ?_
 obtain ⟨r3,e3,hp⟩:=ah hp
 refine aI (ak.P rfl ⟨w2,(aG.step (s1.trans s2))⟩ e3) ?_
 rintro _ H4 ⟨o0a_4,o0n_4,o0c_4,o0k_4,rfl,rfl,w4,s4,f4_0⟩
 refine br (br (br (br (br ?_))))
 obtain ⟨w5,s5⟩:=w4.pp [2,1,0] 3
 exact bc.l61_P F rfl (show 0=List.length ([]:List (List Int)) from rfl) rfl ⟨w5,(s0.trans (s1.trans (s2.trans (s4.trans s5)))),(aG.step (s1.trans (s2.trans (s4.trans s5)))),(c2.step (s4.trans s5)),(f4_0.step s5)⟩ hp
def aP.Q (H0:Hp) (Ri R0:abR)  (r:abZ) (v:AV) (H':Hp):Prop:=∃ o1a:ON,∃ o1n:Nat,∃ o1c:Cap,∃ o1k:List AV,v=(.agg [(.i r.1),(.sl ⟨o1a,o1n,o1c⟩)])/\o1n=(r.2).length/\Out H0 Ri H' (Rs.own ⟨o1a,o1n,o1c⟩ eI.z o1k::R0) λR=>CR eI H' R o1k (r.2)
def aP.S14 (H0:Hp) (Ri R0:abR)  (C:acW) (pC:acX):Prop:=∀ {iy Lk gl gO CK CM xM xN er CN CO kz CP CQ},∀ {H:Hp},xM=kz.length->xN=CP.length->(Out H0 Ri H (Rs.own ⟨CM,xN,CO⟩ eI.z CQ::Rs.blk er [.i Lk,.sl ⟨CM,xN,CO⟩]::R0) λR=>ROs eI H R ⟨CK,xM,CN⟩ kz/\CR eI H R CQ CP)->∀ {r:abZ},pC iy kz gl gO=some r->Rt (C iy ⟨CK,xM,CN⟩ er 0 gl gO H) (aP.Q H0 Ri R0  r)
def aP.S30 (H0:Hp) (Ri R0:abR)  (C:acW) (pC:acX):Prop:=∀ {iw Ll eS gk CS CT xO xP kS CU CV kA CW CX},∀ {H:Hp},xO=kA.length->xP=CW.length->(Out H0 Ri H (Rs.own ⟨CT,xP,CV⟩ eI.z CX::Rs.blk kS [.i Ll,.sl ⟨CT,xP,CV⟩]::R0) λR=>ROs eI H R ⟨CS,xO,CU⟩ kA/\CR eI H R CX CW)->∀ {r:abZ},pC iw kA eS gk=some r->Rt (C iw ⟨CS,xO,CU⟩ kS 0 eS gk H) (aP.Q H0 Ri R0  r)
def aP.pj1 (F:Nat)  (pU:Int) (un:abU) (ko:Int) (lT:Int):Option (Int×List Int):=(bif (ko==lT) then (some (0,([]:List Int))) else ((cutf un ko lT).bind λl6=>(apn ([]:List Int) l6).bind λl8=>some ((wrap .i64 (pU+ko)),l8)))
theorem aP.j1_P   {pU VQ ko lT Lm Ln CY CZ jv Lo Lq un Lr Lt} (VR:CY=un.length) (VS:CZ=Lr.length) (h0:Out H0 Ri H (Rs.own ⟨Ln,CZ,Lq⟩ eI.z Lt::Rs.blk jv [.i VQ,.sl ⟨Ln,CZ,Lq⟩]::R0) λR=>ROs eI H R ⟨Lm,CY,Lo⟩ un/\CR eI H R Lt Lr) {r:abZ} (hp:aP.pj1 F  pU un ko lT=some r):Rt (aP.j1 F   pU ⟨Lm,CY,Lo⟩ jv 0 ko lT H) (aP.Q H0 Ri R0  r):=by
 obtain ⟨w0,s0,VT,abh⟩:=h0
 subst VR
 subst VS
 unfold aP.pj1 at hp
 unfold aP.j1
 refine ax hp (λhp=>?_) λhp=>?_
 ·refine aA w0 1 λH1 w1 s1=>?_
  refine aA w1 1 λH2 w2 s2=>?_
  refine lI w2 1 ?_
  refine lSl w2 1 ?_
  obtain ⟨w3,s3⟩:=w2.nilS eI.z (by decide)
  obtain ⟨w4,s4⟩:=w3.pp [0] 3
  exact aw hp ⟨_,_,_,_,rfl,rfl,w4,(s0.trans (s1.trans (s2.trans (s3.trans s4)))),((CR.empty:CR eI _ _ [] []).step s4)⟩
 ·refine cI eI w0 (n:=0) (l:=([]:List Int)) rfl CR.empty rfl λH5 w5 s5 c5=>?_
  obtain ⟨l6,e6,hp⟩:=ah hp
  obtain ⟨a6,d6,h6,f6⟩:=ROs.cutf (VT.step s5) rfl e6
  refine ai h6 ?_
  obtain ⟨x7,h7,c7⟩:=f6.row rfl
  refine ai h7 ?_
  obtain ⟨l8,e8,hp⟩:=ah hp
  refine gD eI w5 (i:=0) rfl rfl c5 c7 rfl rfl e8 λa9 d9 H9 w9 s9 c9 x9=>?_
  refine aA w9 2 λH10 w10 s10=>?_
  refine aA w10 2 λH11 w11 s11=>?_
  refine lI w11 2 ?_
  refine lSl w11 2 ?_
  obtain ⟨w12,s12⟩:=w11.pp [0] 3
  exact aw hp ⟨_,_,_,_,rfl,rfl,w12,(s0.trans (s5.trans (s9.trans (s10.trans (s11.trans s12))))),(c9.step (s10.trans (s11.trans s12)))⟩
def aP.pl30 (F:Nat) :Nat->Int->List Int->Int->Int->Option (Int×List Int)
 | 0,_,_,_,_=>none
 | k+1,iw,kA,eS,gk=>(bif (decide (eS<gk)) then ((ix kA (wrap .i64 (gk - 1))).bind λn1=>(bif ((gt kA n1)==0) then (aP.pl30 F k iw kA eS (wrap .i64 (gk - 1))) else (aP.pj1 F iw kA eS gk))) else (aP.pj1 F iw kA eS gk))
theorem aP.l30_P  :∀ k,aP.S30 H0 Ri R0  (aP.l30 F   k) (aP.pl30 F  k):=by
 intro k
 induction k with
 | zero=>unfold aP.S30;intros;rename_i hp;cases hp
 | succ k ih=>
  intro iw Ll eS gk CS CT xO xP kS CU CV kA CW CX H VU VV h0 r hp
  obtain ⟨w0,s0,xQ,C_⟩:=h0
  subst VU
  subst VV
  unfold aP.pl30 at hp
  unfold aP.l30
  refine ax hp (λhp=>?_) λhp=>?_
  ·obtain ⟨n1,g1,hp⟩:=ah hp
   obtain ⟨p1,q1,i1,h1,j1⟩:=ROs.ixr xQ rfl g1
   refine ai i1 ?_
   have h1:_=[_]:=h1
   subst h1
   refine ai (aH (j1 0 _ rfl)) ?_
   refine ax hp (λhp=>?_) λhp=>?_
   ·exact ih rfl rfl ⟨w0,s0,xQ,C_⟩ hp
   ·exact aP.j1_P rfl rfl ⟨w0,s0,xQ,C_⟩ hp
  ·exact aP.j1_P rfl rfl ⟨w0,s0,xQ,C_⟩ hp
def aP.pj2 (F:Nat)  (pW:Int) (uo:abU) (pX:Int) (pY:Int):Option (Int×List Int):=aP.pl30 F F pW uo pX pY
theorem aP.j2_P   {pW VW pX pY Lu Lv Da Db vN Lw Lx uo Ly Lz} (VX:Da=uo.length) (VY:Db=Ly.length) (h0:Out H0 Ri H (Rs.own ⟨Lv,Db,Lx⟩ eI.z Lz::Rs.blk vN [.i VW,.sl ⟨Lv,Db,Lx⟩]::R0) λR=>ROs eI H R ⟨Lu,Da,Lw⟩ uo/\CR eI H R Lz Ly) {r:abZ} (hp:aP.pj2 F  pW uo pX pY=some r):Rt (aP.j2 F   pW ⟨Lu,Da,Lw⟩ vN 0 pX pY H) (aP.Q H0 Ri R0  r):=by
 obtain ⟨w0,s0,VZ,V_⟩:=h0
 subst VX
 subst VY
 unfold aP.pj2 at hp
 unfold aP.j2
 exact aP.l30_P F rfl rfl ⟨w0,s0,VZ,V_⟩ hp
def aP.pl14 (F:Nat) :Nat->Int->List Int->Int->Int->Option (Int×List Int)
 | 0,_,_,_,_=>none
 | k+1,iy,kz,gl,gO=>(bif (decide (gl<gO)) then ((ix kz gl).bind λn1=>(bif ((gt kz n1)==0) then (aP.pl14 F k iy kz (wrap .i64 (gl+1)) gO) else (aP.pj2 F iy kz gl gO))) else (aP.pj2 F iy kz gl gO))
theorem aP.l14_P  :∀ k,aP.S14 H0 Ri R0  (aP.l14 F   k) (aP.pl14 F  k):=by
 intro k
 induction k with
 | zero=>unfold aP.S14;intros;rename_i hp;cases hp
 | succ k ih=>
  intro iy Lk gl gO CK CM xM xN er CN CO kz CP CQ H Wa Wb h0 r hp
  obtain ⟨w0,s0,xR,Dc⟩:=h0
  subst Wa
  subst Wb
  unfold aP.pl14 at hp
  unfold aP.l14
  refine ax hp (λhp=>?_) λhp=>?_
  ·obtain ⟨n1,g1,hp⟩:=ah hp
   obtain ⟨p1,q1,i1,h1,j1⟩:=ROs.ixr xR rfl g1
   refine ai i1 ?_
   have h1:_=[_]:=h1
   subst h1
   refine ai (aH (j1 0 _ rfl)) ?_
   refine ax hp (λhp=>?_) λhp=>?_
   ·exact ih rfl rfl ⟨w0,s0,xR,Dc⟩ hp
   ·exact aP.j2_P rfl rfl ⟨w0,s0,xR,Dc⟩ hp
  ·exact aP.j2_P rfl rfl ⟨w0,s0,xR,Dc⟩ hp
def aP.p (F:Nat) (ac:Int) (cX:abU):Option (Int×List Int):=aP.pl14 F F ac cX 0 (cX.length:Int)
theorem aP.P {ac ig fC ii cX} (lr:fC=cX.length) (h0:Inn H R0 λR=>ROs eI H R ⟨ig,fC,ii⟩ cX) {r:abZ} (hp:aP.p F ac cX=some r):Rt (aP.tw F ac ⟨ig,fC,ii⟩ H) (aP.Q H R0 R0  r):=by
 obtain ⟨w0,lu⟩:=h0
 subst lr
 unfold aP.p at hp
 unfold aP.tw aP.twX
 have s0:=w0.rf
 refine a_ w0 λH1 w1 s1=>?_
 obtain ⟨w2,s2⟩:=w1.nilS eI.z (by decide)
 exact aP.l14_P F rfl rfl ⟨w2,(s0.trans (s1.trans s2)),(lu.step (s1.trans s2)),(CR.empty:CR eI _ _ [] [])⟩ hp
def aJ.Q (H0:Hp) (Ri R0:abR)  (r:abZ) (v:AV) (H':Hp):Prop:=∃ o1a:ON,∃ o1n:Nat,∃ o1c:Cap,∃ o1k:List AV,v=(.agg [(.i r.1),(.sl ⟨o1a,o1n,o1c⟩)])/\o1n=(r.2).length/\Out H0 Ri H' (Rs.own ⟨o1a,o1n,o1c⟩ eI.z o1k::R0) λR=>CR eI H' R o1k (r.2)
def aJ.S509 (H0:Hp) (Ri R0:abR)  (C:Nat->Nat->Nat->Nat->Nat->Nat->Int->Sl->Int->Hp->OA) (pC:Int->List Int->Int->List Int->Int->List Int->Int->Option (Int×List Int)):Prop:=∀ {nW rS LA gQ gm Dd De Df Dg xS kq xT lW xU lX xV Dh Di Dj Dk lx nX Dl kB Dm Dn},∀ {H:Hp},xS=lx.length->xT=nX.length->xU=Dl.length->xV=kB.length->(Out H0 Ri H (Rs.blk kq [.i nW,.sl ⟨Dd,xS,Dh⟩]::Rs.blk lW [.i rS,.sl ⟨De,xT,Di⟩]::Rs.own ⟨Df,xU,Dj⟩ eI.z Dm::Rs.blk lX [.i LA,.sl ⟨Df,xU,Dj⟩]::Rs.own ⟨Dg,xV,Dk⟩ eI.z Dn::R0) λR=>ROs eI H R ⟨Dd,xS,Dh⟩ lx/\ROs eI H R ⟨De,xT,Di⟩ nX/\CR eI H R Dm Dl/\CR eI H R Dn kB)->∀ {r:abZ},pC nW lx rS nX gQ kB gm=some r->Rt (C kq 0 lW 0 lX 0 gQ ⟨Dg,xV,Dk⟩ gm H) (aJ.Q H0 Ri R0  r)
def aJ.S1021 (H0:Hp) (Ri R0:abR)  (C:Nat->Nat->Nat->Nat->Int->Sl->Int->Hp->OA) (pC:Int->List Int->Int->List Int->Int->Option (Int×List Int)):Prop:=∀ {nY LB gP cD Do Dp Dq xW kp xX lV xY Dr Ds Dt ly Du kC Dv Dw},∀ {H:Hp},xW=ly.length->xX=Du.length->xY=kC.length->(Out H0 Ri H (Rs.blk kp [.i nY,.sl ⟨Do,xW,Dr⟩]::Rs.own ⟨Dp,xX,Ds⟩ eI.z Dv::Rs.blk lV [.i LB,.sl ⟨Dp,xX,Ds⟩]::Rs.own ⟨Dq,xY,Dt⟩ eI.z Dw::R0) λR=>ROs eI H R ⟨Do,xW,Dr⟩ ly/\CR eI H R Dv Du/\CR eI H R Dw kC)->∀ {r:abZ},pC nY ly gP kC cD=some r->Rt (C kp 0 lV 0 gP ⟨Dq,xY,Dt⟩ cD H) (aJ.Q H0 Ri R0  r)
def aJ.pj1 (F:Nat)  (iz:Int) (uq:abU):Option (Int×List Int):=(aP.p F iz uq).bind λr3=>some (r3.1,r3.2)
theorem aJ.j1_P   {Wc iz LC LD Dx nh Dy LE LF LG uq LI LJ} (Wd:Dx=LG.length) (We:Dy=uq.length) (h0:Out H0 Ri H (Rs.own ⟨LC,Dx,LE⟩ eI.z LI::Rs.blk nh [.i Wc,.sl ⟨LC,Dx,LE⟩]::Rs.own ⟨LD,Dy,LF⟩ eI.z LJ::R0) λR=>CR eI H R LI LG/\CR eI H R LJ uq) {r:abZ} (hp:aJ.pj1 F  iz uq=some r):Rt (aJ.j1 F (aP.tw F)  nh 0 iz ⟨LD,Dy,LF⟩ H) (aJ.Q H0 Ri R0  r):=by
 obtain ⟨w0,s0,abi,Wf⟩:=h0
 subst Wd
 subst We
 unfold aJ.pj1 at hp
 unfold aJ.j1
 obtain ⟨w1,s1⟩:=w0.pp [2,0,1] 3
 have f2:=W.borrow1 eI w1 (Wf.step s1)
 obtain ⟨w2,s2⟩:=w1.right1
 obtain ⟨r3,e3,hp⟩:=ah hp
 refine aI (aP.P rfl ⟨w2,f2⟩ e3) ?_
 rintro _ H4 ⟨o1a_4,o1n_4,o1c_4,o1k_4,rfl,rfl,w4,s4,f4_0⟩
 obtain ⟨w5,s5⟩:=W.frame1 w1 w4 s4
 refine br (br (br (br (br ?_))))
 refine aA w5 3 λH6 w6 s6=>?_
 refine aA w6 3 λH7 w7 s7=>?_
 refine lI w7 3 ?_
 refine lSl w7 3 ?_
 obtain ⟨w8,s8⟩:=w7.pp [1] 4
 exact aw hp ⟨_,_,_,_,rfl,rfl,w8,(s0.trans (s1.trans (s5.trans (s6.trans (s7.trans s8))))),((CR.flat (gE .i64) f4_0).step (s6.trans (s7.trans s8)))⟩
def aJ.pl1021 (F:Nat) :Nat->Int->List Int->Int->List Int->Int->Option (Int×List Int)
 | 0,_,_,_,_,_=>none
 | k+1,nY,ly,gP,kC,cD=>(bif (decide (cD<(ly.length:Int))) then ((ix kC (wrap .i64 ((wrap .i64 (nY - gP))+cD))).bind λn1=>(ix ly cD).bind λn2=>(ix kC (wrap .i64 ((wrap .i64 (nY - gP))+cD))).bind λn3=>(some (kC.set n3 (wrap .i64 ((gt kC n1)+(gt ly n2))))).bind λl4=>aJ.pl1021 F k nY ly gP l4 (wrap .i64 (cD+1))) else (aJ.pj1 F gP kC))
theorem aJ.l1021_P  :∀ k,aJ.S1021 H0 Ri R0  (aJ.l1021 F (aP.tw F)  k) (aJ.pl1021 F  k):=by
 intro k
 induction k with
 | zero=>unfold aJ.S1021;intros;rename_i hp;cases hp
 | succ k ih=>
  intro nY LB gP cD Do Dp Dq xW kp xX lV xY Dr Ds Dt ly Du kC Dv Dw H Wg Wh Wi h0 r hp
  obtain ⟨w0,s0,LL,LM,xZ⟩:=h0
  subst Wg
  subst Wh
  subst Wi
  unfold aJ.pl1021 at hp
  unfold aJ.l1021
  refine lSl w0 0 ?_
  refine ax hp (λhp=>?_) λhp=>?_
  ·refine lI w0 0 ?_
   obtain ⟨n1,g1,hp⟩:=ah hp
   obtain ⟨p1,q1,i1,h1,j1⟩:=W.ixo (E:=eI) w0 (i:=3) rfl rfl xZ g1
   refine ai i1 ?_
   have h1:_=[_]:=h1
   subst h1
   refine ai (aH (j1 0 _ rfl)) ?_
   refine lSl w0 0 ?_
   obtain ⟨n2,g2,hp⟩:=ah hp
   obtain ⟨p2,q2,i2,h2,j2⟩:=ROs.ixr LL rfl g2
   refine ai i2 ?_
   have h2:_=[_]:=h2
   subst h2
   refine ai (aH (j2 0 _ rfl)) ?_
   obtain ⟨n3,g3,hp⟩:=ah hp
   obtain ⟨p3,q3,i3,h3,j3⟩:=W.ixo (E:=eI) w0 (i:=3) rfl rfl xZ g3
   refine ai i3 ?_
   obtain ⟨l4,e4,hp⟩:=ah hp
   refine eA eI w0 (i:=3) (j:=0) (p:=p3) rfl rfl xZ g3 i3 e4 rfl rfl (λ_ h=>by have h:_=[_]:=h;subst h;exact rfl) λH5 k5 w5 s5 c5=>?_
   exact ih rfl rfl ((cE e4).symm) ⟨w5,(s0.trans s5),(LL.step s5),(LM.step s5),c5⟩ hp
  ·obtain ⟨w6,s6⟩:=w0.pp [1,2,3] 4
   exact aJ.j1_P rfl rfl ⟨w6,(s0.trans s6),(LM.step s6),(xZ.step s6)⟩ hp
def aJ.pj2 (F:Nat)  (x_:Int) (ur:abU) (qe:Int) (ut:abU):Option (Int×List Int):=aJ.pl1021 F F x_ ur qe ut 0
theorem aJ.j2_P   {x_ Wj qe LN LP LQ Dz vQ DA vR DB LR LS LT ur LU ut LV LW} (Wk:Dz=ur.length) (Wl:DA=LU.length) (Wm:DB=ut.length) (h0:Out H0 Ri H (Rs.blk vQ [.i x_,.sl ⟨LN,Dz,LR⟩]::Rs.own ⟨LP,DA,LS⟩ eI.z LV::Rs.blk vR [.i Wj,.sl ⟨LP,DA,LS⟩]::Rs.own ⟨LQ,DB,LT⟩ eI.z LW::R0) λR=>ROs eI H R ⟨LN,Dz,LR⟩ ur/\CR eI H R LV LU/\CR eI H R LW ut) {r:abZ} (hp:aJ.pj2 F  x_ ur qe ut=some r):Rt (aJ.j2 F (aP.tw F)  vQ 0 vR 0 qe ⟨LQ,DB,LT⟩ H) (aJ.Q H0 Ri R0  r):=by
 obtain ⟨w0,s0,Wn,Wo,Wp⟩:=h0
 subst Wk
 subst Wl
 subst Wm
 unfold aJ.pj2 at hp
 unfold aJ.j2
 exact aJ.l1021_P F rfl rfl rfl ⟨w0,s0,Wn,Wo,Wp⟩ hp
def aJ.pl509 (F:Nat) :Nat->Int->List Int->Int->List Int->Int->List Int->Int->Option (Int×List Int)
 | 0,_,_,_,_,_,_,_=>none
 | k+1,nW,lx,rS,nX,gQ,kB,gm=>(bif (decide (gm<(lx.length:Int))) then ((ix kB (wrap .i64 ((wrap .i64 (nW - gQ))+gm))).bind λn1=>(ix lx gm).bind λn2=>(ix kB (wrap .i64 ((wrap .i64 (nW - gQ))+gm))).bind λn3=>(some (kB.set n3 (wrap .i64 ((gt kB n1)+(gt lx n2))))).bind λl4=>aJ.pl509 F k nW lx rS nX gQ l4 (wrap .i64 (gm+1))) else (aJ.pj2 F rS nX gQ kB))
theorem aJ.l509_P  :∀ k,aJ.S509 H0 Ri R0  (aJ.l509 F (aP.tw F)  k) (aJ.pl509 F  k):=by
 intro k
 induction k with
 | zero=>unfold aJ.S509;intros;rename_i hp;cases hp
 | succ k ih=>
  intro nW rS LA gQ gm Dd De Df Dg xS kq xT lW xU lX xV Dh Di Dj Dk lx nX Dl kB Dm Dn H Wq Wr Ws Wt h0 r hp
  obtain ⟨w0,s0,LX,LY,LZ,ya⟩:=h0
  subst Wq
  subst Wr
  subst Ws
  subst Wt
  unfold aJ.pl509 at hp
  unfold aJ.l509
  refine lSl w0 0 ?_
  refine ax hp (λhp=>?_) λhp=>?_
  ·refine lI w0 0 ?_
   obtain ⟨n1,g1,hp⟩:=ah hp
   obtain ⟨p1,q1,i1,h1,j1⟩:=W.ixo (E:=eI) w0 (i:=4) rfl rfl ya g1
   refine ai i1 ?_
   have h1:_=[_]:=h1
   subst h1
   refine ai (aH (j1 0 _ rfl)) ?_
   refine lSl w0 0 ?_
   obtain ⟨n2,g2,hp⟩:=ah hp
   obtain ⟨p2,q2,i2,h2,j2⟩:=ROs.ixr LX rfl g2
   refine ai i2 ?_
   have h2:_=[_]:=h2
   subst h2
   refine ai (aH (j2 0 _ rfl)) ?_
   obtain ⟨n3,g3,hp⟩:=ah hp
   obtain ⟨p3,q3,i3,h3,j3⟩:=W.ixo (E:=eI) w0 (i:=4) rfl rfl ya g3
   refine ai i3 ?_
   obtain ⟨l4,e4,hp⟩:=ah hp
   refine eA eI w0 (i:=4) (j:=0) (p:=p3) rfl rfl ya g3 i3 e4 rfl rfl (λ_ h=>by have h:_=[_]:=h;subst h;exact rfl) λH5 k5 w5 s5 c5=>?_
   exact ih rfl rfl rfl ((cE e4).symm) ⟨w5,(s0.trans s5),(LX.step s5),(LY.step s5),(LZ.step s5),c5⟩ hp
  ·obtain ⟨w6,s6⟩:=w0.pp [1,2,3,4] 5
   exact aJ.j2_P rfl rfl rfl ⟨w6,(s0.trans s6),(LY.step s6),(LZ.step s6),(ya.step s6)⟩ hp
def aJ.p (F:Nat) (ac:Int) (bk:abU) (ay:Int) (bP:abU):Option (Int×List Int):=(bif ((bk.length:Int)==0) then ((aP.p F ay bP).bind λr4=>some (r4.1,r4.2)) else ((bif ((bP.length:Int)==0) then ((aP.p F ac bk).bind λr9=>some (r9.1,r9.2)) else ((mkn (wrap .i64 ((if (wrap .i64 (ay+(bP.length:Int)))>(wrap .i64 (ac+(bk.length:Int))) then (wrap .i64 (ay+(bP.length:Int))) else (wrap .i64 (ac+(bk.length:Int)))) - (if ay<ac then ay else ac))) (0:Int)).bind λl14=>aJ.pl509 F F ac bk ay bP (if ay<ac then ay else ac) l14 0))))
theorem aJ.P {ac ay eg ff cO ec el fg bk bP} (gv:cO=bk.length) (iV:ec=bP.length) (h0:Inn H R0 λR=>ROs eI H R ⟨eg,cO,el⟩ bk/\ROs eI H R ⟨ff,ec,fg⟩ bP) {r:abZ} (hp:aJ.p F ac bk ay bP=some r):Rt (aJ.tw F ac ⟨eg,cO,el⟩ ay ⟨ff,ec,fg⟩ H) (aJ.Q H R0 R0  r):=by
 obtain ⟨w0,eM,gC⟩:=h0
 subst gv
 subst iV
 unfold aJ.p at hp
 unfold aJ.tw aJ.twX
 have s0:=w0.rf
 refine a_ w0 λH1 w1 s1=>?_
 refine a_ w1 λH2 w2 s2=>?_
 refine a_ w2 λH3 w3 s3=>?_
 refine lSl w3 2 ?_
 refine ax hp (λhp=>?_) λhp=>?_
 ·refine lI w3 1 ?_
  refine lSl w3 1 ?_
  obtain ⟨r4,e4,hp⟩:=ah hp
  refine aI (aP.P rfl ⟨w3,(gC.step (s1.trans (s2.trans s3)))⟩ e4) ?_
  rintro _ H5 ⟨o1a_5,o1n_5,o1c_5,o1k_5,rfl,rfl,w5,s5,f5_0⟩
  refine br (br (br (br (br ?_))))
  refine aA w5 1 λH6 w6 s6=>?_
  refine aA w6 1 λH7 w7 s7=>?_
  refine lI w7 1 ?_
  refine lSl w7 1 ?_
  obtain ⟨w8,s8⟩:=w7.pp [0] 4
  exact aw hp ⟨_,_,_,_,rfl,rfl,w8,(s0.trans (s1.trans (s2.trans (s3.trans (s5.trans (s6.trans (s7.trans s8))))))),(f5_0.step (s6.trans (s7.trans s8)))⟩
 ·refine lSl w3 1 ?_
  refine ax hp (λhp=>?_) λhp=>?_
  ·refine lI w3 2 ?_
   refine lSl w3 2 ?_
   obtain ⟨r9,e9,hp⟩:=ah hp
   refine aI (aP.P rfl ⟨w3,(eM.step (s1.trans (s2.trans s3)))⟩ e9) ?_
   rintro _ H10 ⟨o1a_10,o1n_10,o1c_10,o1k_10,rfl,rfl,w10,s10,f10_0⟩
   refine br (br (br (br (br ?_))))
   refine aA w10 1 λH11 w11 s11=>?_
   refine aA w11 1 λH12 w12 s12=>?_
   refine lI w12 1 ?_
   refine lSl w12 1 ?_
   obtain ⟨w13,s13⟩:=w12.pp [0] 4
   exact aw hp ⟨_,_,_,_,rfl,rfl,w13,(s0.trans (s1.trans (s2.trans (s3.trans (s10.trans (s11.trans (s12.trans s13))))))),(f10_0.step (s11.trans (s12.trans s13)))⟩
  ·refine lI w3 2 ?_
   refine lI w3 1 ?_
   refine lI w3 2 ?_
   refine lSl w3 2 ?_
   refine lI w3 1 ?_
   refine lSl w3 1 ?_
   obtain ⟨l14,e14,hp⟩:=ah hp
   refine mN eI (0:Int) w3 rfl rfl rfl e14 λH15 k15 w15 s15 c15=>?_
   obtain ⟨w16,s16⟩:=w15.nilS eI.z (by decide)
   obtain ⟨w17,s17⟩:=w16.pp [4,3,0,2,1] 5
   exact aJ.l509_P F rfl rfl rfl rfl ⟨w17,(s0.trans (s1.trans (s2.trans (s3.trans (s15.trans (s16.trans s17)))))),(eM.step (s1.trans (s2.trans (s3.trans (s15.trans (s16.trans s17)))))),(gC.step (s1.trans (s2.trans (s3.trans (s15.trans (s16.trans s17)))))),((CR.empty:CR eI _ _ [] []).step s17),(c15.step (s16.trans s17))⟩ hp
def aK.Q (H0:Hp) (Ri R0:abR)  (r:abZ) (v:AV) (H':Hp):Prop:=∃ o1a:ON,∃ o1n:Nat,∃ o1c:Cap,∃ o1k:List AV,v=(.agg [(.i r.1),(.sl ⟨o1a,o1n,o1c⟩)])/\o1n=(r.2).length/\Out H0 Ri H' (Rs.own ⟨o1a,o1n,o1c⟩ eI.z o1k::R0) λR=>CR eI H' R o1k (r.2)
def aK.S61 (H0:Hp) (Ri R0:abR)  (C:acr) (pC:acx):Prop:=∀ {DC DE DF yb yc jc yd ia DH DI DJ kD DK mv bV L_ nZ iB gR DL DM},∀ {H:Hp},yb=kD.length->yc=DK.length->yd=mv.length->(Out H0 Ri H (Rs.own ⟨DE,yc,DI⟩ eI.z DL::Rs.blk jc [.i L_,.sl ⟨DE,yc,DI⟩]::Rs.own ⟨DF,yd,DJ⟩ eI.z DM::Rs.blk ia [.i nZ,.sl ⟨DF,yd,DJ⟩]::R0) λR=>ROs eI H R ⟨DC,yb,DH⟩ kD/\CR eI H R DL DK/\CR eI H R DM mv)->∀ {r:abZ},pC kD bV nZ mv iB gR=some r->Rt (C ⟨DC,yb,DH⟩ bV jc 0 ia 0 iB gR H) (aK.Q H0 Ri R0  r)
def aK.pj4 (F:Nat) (az:acx) (uu:abU) (qh:Int) (ye:Int) (uv:abU) (lZ:Int) (iA:Int):Option (Int×List Int):=az uu qh ye uv lZ (wrap .i64 (iA+1))
theorem aK.j4_P  {C61_:acr} {az:acx} (hC61:aK.S61 H0 Ri R0  C61_ az) {Ma Mb Mc DN DO vU DP js Md Me Mf uu Mg uv qh Wu ye lZ iA Mh Mi} (Wv:DN=uu.length) (Ww:DO=Mg.length) (Wx:DP=uv.length) (h0:Out H0 Ri H (Rs.own ⟨Mb,DO,Me⟩ eI.z Mh::Rs.blk vU [.i Wu,.sl ⟨Mb,DO,Me⟩]::Rs.own ⟨Mc,DP,Mf⟩ eI.z Mi::Rs.blk js [.i ye,.sl ⟨Mc,DP,Mf⟩]::R0) λR=>ROs eI H R ⟨Ma,DN,Md⟩ uu/\CR eI H R Mh Mg/\CR eI H R Mi uv) {r:abZ} (hp:aK.pj4 F az uu qh ye uv lZ iA=some r):Rt (aK.j4 F (aJ.tw F) C61_ ⟨Ma,DN,Md⟩ qh vU 0 js 0 lZ iA H) (aK.Q H0 Ri R0  r):=by
 obtain ⟨w0,s0,Wy,Wz,WA⟩:=h0
 subst Wv
 subst Ww
 subst Wx
 unfold aK.pj4 at hp
 unfold aK.j4
 exact hC61 rfl rfl rfl ⟨w0,s0,Wy,Wz,WA⟩ hp
def aK.pj5 (F:Nat) (az:acx) (mw:abU) (gI:Int) (uw:Int) (rT:abU) (l_:Int) (kr:Int):Option (Int×List Int):=(ix mw kr).bind λn1=>(bif (decide ((gt mw n1)>0)) then (aK.pj4 F az mw gI uw rT (wrap .i64 (l_+1)) kr) else (aK.pj4 F az mw gI uw rT (wrap .i64 (l_ - 1)) kr))
theorem aK.j5_P  {C61_:acr} {az:acx} (hC61:aK.S61 H0 Ri R0  C61_ az) {Mj Ml Mm DQ DR sX DS sY Mn Mo Mp mw Mq rT gI WB uw l_ kr Mr Ms} (WC:DQ=mw.length) (WD:DR=Mq.length) (WE:DS=rT.length) (h0:Out H0 Ri H (Rs.own ⟨Ml,DR,Mo⟩ eI.z Mr::Rs.blk sX [.i WB,.sl ⟨Ml,DR,Mo⟩]::Rs.own ⟨Mm,DS,Mp⟩ eI.z Ms::Rs.blk sY [.i uw,.sl ⟨Mm,DS,Mp⟩]::R0) λR=>ROs eI H R ⟨Mj,DQ,Mn⟩ mw/\CR eI H R Mr Mq/\CR eI H R Ms rT) {r:abZ} (hp:aK.pj5 F az mw gI uw rT l_ kr=some r):Rt (aK.j5 F (aJ.tw F) C61_ ⟨Mj,DQ,Mn⟩ gI sX 0 sY 0 l_ kr H) (aK.Q H0 Ri R0  r):=by
 obtain ⟨w0,s0,DT,Mt,Mu⟩:=h0
 subst WC
 subst WD
 subst WE
 unfold aK.pj5 at hp
 unfold aK.j5
 obtain ⟨n1,g1,hp⟩:=ah hp
 obtain ⟨p1,q1,i1,h1,j1⟩:=ROs.ixr DT rfl g1
 refine ai i1 ?_
 have h1:_=[_]:=h1
 subst h1
 refine ai (aH (j1 0 _ rfl)) ?_
 refine ax hp (λhp=>?_) λhp=>?_
 ·exact aK.j4_P (@hC61) rfl rfl rfl ⟨w0,s0,DT,Mt,Mu⟩ hp
 ·exact aK.j4_P (@hC61) rfl rfl rfl ⟨w0,s0,DT,Mt,Mu⟩ hp
def aK.pj6 (F:Nat) (az:acx) (mz:abU) (eY:Int) (ux:Int) (rU:abU) (gj:Int) (kt:Int):Option (Int×List Int):=(ix mz kt).bind λn1=>(bif ((gt mz n1)==(wrap .i64 (0 - eY))) then ((aJ.p F ux rU (wrap .i64 (gj - 1)) ([(-1)]:List Int)).bind λr6=>aK.pj5 F az mz eY r6.1 r6.2 gj kt) else (aK.pj5 F az mz eY ux rU gj kt))
theorem aK.j6_P  {C61_:acr} {az:acx} (hC61:aK.S61 H0 Ri R0  C61_ az) {Mv Mw Mx DU DV sZ DW kT My Mz MA mz MB rU eY WG ux gj kt MC MD} (WH:DU=mz.length) (WI:DV=MB.length) (WJ:DW=rU.length) (h0:Out H0 Ri H (Rs.own ⟨Mw,DV,Mz⟩ eI.z MC::Rs.blk sZ [.i WG,.sl ⟨Mw,DV,Mz⟩]::Rs.own ⟨Mx,DW,MA⟩ eI.z MD::Rs.blk kT [.i ux,.sl ⟨Mx,DW,MA⟩]::R0) λR=>ROs eI H R ⟨Mv,DU,My⟩ mz/\CR eI H R MC MB/\CR eI H R MD rU) {r:abZ} (hp:aK.pj6 F az mz eY ux rU gj kt=some r):Rt (aK.j6 F (aJ.tw F) C61_ ⟨Mv,DU,My⟩ eY sZ 0 kT 0 gj kt H) (aK.Q H0 Ri R0  r):=by
 obtain ⟨w0,s0,DX,ME,MF⟩:=h0
 subst WH
 subst WI
 subst WJ
 unfold aK.pj6 at hp
 unfold aK.j6
 obtain ⟨n1,g1,hp⟩:=ah hp
 obtain ⟨p1,q1,i1,h1,j1⟩:=ROs.ixr DX rfl g1
 refine ai i1 ?_
 have h1:_=[_]:=h1
 subst h1
 refine ai (aH (j1 0 _ rfl)) ?_
 refine ax hp (λhp=>?_) λhp=>?_
 ·refine lI w0 3 ?_
  refine lSl w0 3 ?_
  refine cI eI w0 (n:=1) (l:=([(-1)]:List Int)) rfl (CR.cons1 rfl CR.empty) rfl λH2 w2 s2 c2=>?_
  obtain ⟨w3,s3⟩:=w2.pp [3,0,1,2,4] 5
  have f4:=W.borrow1 eI w3 (MF.step (s2.trans s3))
  obtain ⟨w4,s4⟩:=w3.right1
  have f5:=W.borrow1 eI w4 ((c2.step s3).step s4)
  obtain ⟨w5,s5⟩:=w4.right1
  obtain ⟨r6,e6,hp⟩:=ah hp
  refine aI (aJ.P rfl (show 1=List.length ([(-1)]:List Int) from rfl) ⟨w5,(f4.step s5),f5⟩ e6) ?_
  rintro _ H7 ⟨o1a_7,o1n_7,o1c_7,o1k_7,rfl,rfl,w7,s7,f7_0⟩
  obtain ⟨w8,s8⟩:=W.frame1 w4 w7 s7
  obtain ⟨w9,s9⟩:=W.frame1 w3 w8 s8
  refine br (br (br (br (br ?_))))
  refine aA w9 5 λH10 w10 s10=>?_
  refine aA w10 5 λH11 w11 s11=>?_
  obtain ⟨w12,s12⟩:=w11.pp [3,4,2,5] 6
  exact aK.j5_P (@hC61) rfl rfl rfl ⟨w12,(s0.trans (s2.trans (s3.trans (s9.trans (s10.trans (s11.trans s12)))))),(DX.step (s2.trans (s3.trans (s9.trans (s10.trans (s11.trans s12)))))),(ME.step (s2.trans (s3.trans (s9.trans (s10.trans (s11.trans s12)))))),((CR.flat (gE .i64) f7_0).step (s10.trans (s11.trans s12)))⟩ hp
 ·exact aK.j5_P (@hC61) rfl rfl rfl ⟨w0,s0,DX,ME,MF⟩ hp
def aK.pl61 (F:Nat) :Nat->List Int->Int->Int->List Int->Int->Int->Option (Int×List Int)
 | 0,_,_,_,_,_,_=>none
 | k+1,kD,bV,nZ,mv,iB,gR=>(bif (decide (gR<(kD.length:Int))) then ((ix kD gR).bind λn1=>(bif ((gt kD n1)==bV) then ((aJ.p F nZ mv iB ([1]:List Int)).bind λr6=>aK.pj6 F (aK.pl61 F k) kD bV r6.1 r6.2 iB gR) else (aK.pj6 F (aK.pl61 F k) kD bV nZ mv iB gR))) else (some (nZ,mv)))
theorem aK.l61_P  :∀ k,aK.S61 H0 Ri R0  (aK.l61 F (aJ.tw F)  k) (aK.pl61 F  k):=by
 intro k
 induction k with
 | zero=>unfold aK.S61;intros;rename_i hp;cases hp
 | succ k ih=>
  intro DC DE DF yb yc jc yd ia DH DI DJ kD DK mv bV L_ nZ iB gR DL DM H WK WL WM h0 r hp
  obtain ⟨w0,s0,DY,MG,DZ⟩:=h0
  subst WK
  subst WL
  subst WM
  unfold aK.pl61 at hp
  unfold aK.l61
  refine ax hp (λhp=>?_) λhp=>?_
  ·obtain ⟨n1,g1,hp⟩:=ah hp
   obtain ⟨p1,q1,i1,h1,j1⟩:=ROs.ixr DY rfl g1
   refine ai i1 ?_
   have h1:_=[_]:=h1
   subst h1
   refine ai (aH (j1 0 _ rfl)) ?_
   refine ax hp (λhp=>?_) λhp=>?_
   ·refine lI w0 3 ?_
    refine lSl w0 3 ?_
    refine cI eI w0 (n:=1) (l:=([1]:List Int)) rfl (CR.cons1 rfl CR.empty) rfl λH2 w2 s2 c2=>?_
    obtain ⟨w3,s3⟩:=w2.pp [3,0,1,2,4] 5
    have f4:=W.borrow1 eI w3 (DZ.step (s2.trans s3))
    obtain ⟨w4,s4⟩:=w3.right1
    have f5:=W.borrow1 eI w4 ((c2.step s3).step s4)
    obtain ⟨w5,s5⟩:=w4.right1
    obtain ⟨r6,e6,hp⟩:=ah hp
    refine aI (aJ.P rfl (show 1=List.length ([1]:List Int) from rfl) ⟨w5,(f4.step s5),f5⟩ e6) ?_
    rintro _ H7 ⟨o1a_7,o1n_7,o1c_7,o1k_7,rfl,rfl,w7,s7,f7_0⟩
    obtain ⟨w8,s8⟩:=W.frame1 w4 w7 s7
    obtain ⟨w9,s9⟩:=W.frame1 w3 w8 s8
    refine br (br (br (br (br ?_))))
    refine aA w9 5 λH10 w10 s10=>?_
    refine aA w10 5 λH11 w11 s11=>?_
    obtain ⟨w12,s12⟩:=w11.pp [3,4,2,5] 6
    exact aK.j6_P (@ih) rfl rfl rfl ⟨w12,(s0.trans (s2.trans (s3.trans (s9.trans (s10.trans (s11.trans s12)))))),(DY.step (s2.trans (s3.trans (s9.trans (s10.trans (s11.trans s12)))))),(MG.step (s2.trans (s3.trans (s9.trans (s10.trans (s11.trans s12)))))),((CR.flat (gE .i64) f7_0).step (s10.trans (s11.trans s12)))⟩ hp
   ·exact aK.j6_P (@ih) rfl rfl rfl ⟨w0,s0,DY,MG,DZ⟩ hp
  ·refine lI w0 3 ?_
   refine lSl w0 3 ?_
   refine aA w0 1 λH13 w13 s13=>?_
   refine aA w13 1 λH14 w14 s14=>?_
   refine lI w14 1 ?_
   refine lSl w14 1 ?_
   obtain ⟨w15,s15⟩:=w14.pp [2] 4
   exact aw hp ⟨_,_,_,_,rfl,rfl,w15,(s0.trans (s13.trans (s14.trans s15))),(DZ.step (s13.trans (s14.trans s15)))⟩
def aK.p (F:Nat) (af:abU) (aq:Int):Option (Int×List Int):=aK.pl61 F F af aq 0 ([]:List Int) 0 0
theorem aK.P {ar aj au af aq} (aN:aj=af.length) (h0:Inn H R0 λR=>ROs eI H R ⟨ar,aj,au⟩ af) {r:abZ} (hp:aK.p F af aq=some r):Rt (aK.tw F ⟨ar,aj,au⟩ aq H) (aK.Q H R0 R0  r):=by
 obtain ⟨w0,aG⟩:=h0
 subst aN
 unfold aK.p at hp
 unfold aK.tw aK.twX
 have s0:=w0.rf
 refine a_ w0 λH1 w1 s1=>?_
 refine a_ w1 λH2 w2 s2=>?_
 refine aA w2 0 λH3 w3 s3=>?_
 refine aA w3 0 λH4 w4 s4=>?_
 obtain ⟨w5,s5⟩:=w4.nilS eI.z (by decide)
 obtain ⟨w6,s6⟩:=w5.nilS eI.z (by decide)
 obtain ⟨w7,s7⟩:=w6.pp [1,3,0,2] 4
 exact aK.l61_P F rfl rfl rfl ⟨w7,(s0.trans (s1.trans (s2.trans (s3.trans (s4.trans (s5.trans (s6.trans s7))))))),(aG.step (s1.trans (s2.trans (s3.trans (s4.trans (s5.trans (s6.trans s7))))))),((CR.empty:CR eI _ _ [] []).step (s6.trans s7)),((CR.empty:CR eI _ _ [] []).step s7)⟩ hp
def aQ.Q (H0:Hp) (Ri R0:abR)  (r:(List ((List (Int×List Int))))) (v:AV) (H':Hp):Prop:=∃ o0a:ON,∃ o0n:Nat,∃ o0c:Cap,∃ o0k:List AV,v=(.sl ⟨o0a,o0n,o0c⟩)/\o0n=(r).length/\Out H0 Ri H' (Rs.own ⟨o0a,o0n,o0c⟩ (eSl (aa eI (eSl eI))).z o0k::R0) λR=>CR (eSl (aa eI (eSl eI))) H' R o0k (r)
def aQ.S125 (H0:Hp) (Ri R0:abR)  (C:ace) (pC:acy):Prop:=∀ {D_ Ea yf yg Eb Ec n_ Ed Ee kU jw oa},∀ {H:Hp},yf=n_.length->yg=oa.length->(Out H0 Ri H (Rs.own ⟨D_,yf,Eb⟩ (eSl (aa eI (eSl eI))).z Ed::Rs.own ⟨Ea,yg,Ec⟩ (eSl eI).z Ee::R0) λR=>CR (eSl (aa eI (eSl eI))) H R Ed n_/\CR (eSl eI) H R Ee oa)->∀ {r:(List ((List (Int×List Int))))},pC n_ kU oa jw=some r->Rt (C ⟨D_,yf,Eb⟩ kU ⟨Ea,yg,Ec⟩ jw H) (aQ.Q H0 Ri R0  r)
def aQ.S8021 (H0:Hp) (Ri R0:abR)  (C:Sl->Int->Sl->Int->Sl->Int->Hp->OA) (pC:List ((List (Int×List Int)))->Int->List (List Int)->Int->List (Int×List Int)->Int->Option ((List ((List (Int×List Int)))))):Prop:=∀ {Ef Eg Eh yh yi yj Ei Ej Ek ob El Em En iC iD iE lz oc},∀ {H:Hp},yh=ob.length->yi=lz.length->yj=oc.length->(Out H0 Ri H (Rs.own ⟨Ef,yh,Ei⟩ (eSl (aa eI (eSl eI))).z El::Rs.own ⟨Eg,yi,Ej⟩ (eSl eI).z Em::Rs.own ⟨Eh,yj,Ek⟩ (aa eI (eSl eI)).z En::R0) λR=>CR (eSl (aa eI (eSl eI))) H R El ob/\CR (eSl eI) H R Em lz/\CR (aa eI (eSl eI)) H R En oc)->∀ {r:(List ((List (Int×List Int))))},pC ob iC lz iD oc iE=some r->Rt (C ⟨Ef,yh,Ei⟩ iC ⟨Eg,yi,Ej⟩ iD ⟨Eh,yj,Ek⟩ iE H) (aQ.Q H0 Ri R0  r)
def aQ.pj3 (F:Nat) (dv:acy) (uy:acp) (lY:Int) (uz:ab2) (iA:Int):Option ((List ((List (Int×List Int))))):=dv uy lY uz (wrap .i64 (iA+1))
theorem aQ.j3_P  {C125_:ace} {dv:acy} (hC125:aQ.S125 H0 Ri R0  C125_ dv) {MH MI Er Es MJ MK uy ML MM lY iA uz} (WN:Er=uy.length) (WO:Es=uz.length) (h0:Out H0 Ri H (Rs.own ⟨MH,Er,MJ⟩ (eSl (aa eI (eSl eI))).z ML::Rs.own ⟨MI,Es,MK⟩ (eSl eI).z MM::R0) λR=>CR (eSl (aa eI (eSl eI))) H R ML uy/\CR (eSl eI) H R MM uz) {r:(List ((List (Int×List Int))))} (hp:aQ.pj3 F dv uy lY uz iA=some r):Rt (aQ.j3 F (ak.tw F) (bc.tw F) (aK.tw F) C125_ ⟨MH,Er,MJ⟩ lY ⟨MI,Es,MK⟩ iA H) (aQ.Q H0 Ri R0  r):=by
 obtain ⟨w0,s0,WP,WQ⟩:=h0
 subst WN
 subst WO
 unfold aQ.pj3 at hp
 unfold aQ.j3
 exact hC125 rfl rfl ⟨w0,s0,WP,WQ⟩ hp
def aQ.pj4 (F:Nat) (dv:acy) (uA:acp) (iz:Int) (uB:ab2) (lU:Int) (od:acg):Option ((List ((List (Int×List Int))))):=(apn uA ([od]:List ((List (Int×List Int))))).bind λl3=>aQ.pj3 F dv l3 iz uB lU
theorem aQ.j4_P  {C125_:ace} {dv:acy} (hC125:aQ.S125 H0 Ri R0  C125_ dv) {MN MO MP Et Eu Ev MQ MR MS uA MT MU MV iz lU uB od} (WR:Et=uA.length) (WS:Eu=uB.length) (WT:Ev=od.length) (h0:Out H0 Ri H (Rs.own ⟨MN,Et,MQ⟩ (eSl (aa eI (eSl eI))).z MT::Rs.own ⟨MO,Eu,MR⟩ (eSl eI).z MU::Rs.own ⟨MP,Ev,MS⟩ (aa eI (eSl eI)).z MV::R0) λR=>CR (eSl (aa eI (eSl eI))) H R MT uA/\CR (eSl eI) H R MU uB/\CR (aa eI (eSl eI)) H R MV od) {r:(List ((List (Int×List Int))))} (hp:aQ.pj4 F dv uA iz uB lU od=some r):Rt (aQ.j4 F (ak.tw F) (bc.tw F) (aK.tw F) C125_ ⟨MN,Et,MQ⟩ iz ⟨MO,Eu,MR⟩ lU ⟨MP,Ev,MS⟩ H) (aQ.Q H0 Ri R0  r):=by
 obtain ⟨w0,s0,WU,WV,WW⟩:=h0
 subst WR
 subst WS
 subst WT
 unfold aQ.pj4 at hp
 unfold aQ.j4
 obtain ⟨w1,s1,f1⟩:=w0.frz (i:=2) (aa eI (eSl eI)) rfl WW
 refine cI (eSl (aa eI (eSl eI))) w1 (n:=1) (l:=([od]:List ((List (Int×List Int))))) rfl (CR.cons1 ⟨_,rfl,f1⟩ CR.empty) rfl λH2 w2 s2 c2=>?_
 refine ai (w2.rowo (i:=0) rfl) ?_
 obtain ⟨l3,e3,hp⟩:=ah hp
 refine gD (eSl (aa eI (eSl eI))) w2 (i:=1) rfl rfl (WU.step (s1.trans s2)) c2 (show 1=List.length ([od]:List ((List (Int×List Int)))) from rfl) rfl e3 λa4 d4 H4 w4 s4 c4 x4=>?_
 obtain ⟨w5,s5⟩:=w4.pp [1,2] 3
 exact aQ.j3_P (@hC125) rfl rfl ⟨w5,(s0.trans (s1.trans (s2.trans (s4.trans s5)))),(c4.step s5),(WV.step (s1.trans (s2.trans (s4.trans s5))))⟩ hp
def aQ.pl8021 (F:Nat) (dv:acy):Nat->List ((List (Int×List Int)))->Int->List (List Int)->Int->List (Int×List Int)->Int->Option ((List ((List (Int×List Int)))))
 | 0,_,_,_,_,_,_=>none
 | k+1,ob,iC,lz,iD,oc,iE=>(bif (decide (iE<=iC)) then ((ix lz iD).bind λn1=>(aK.p F (gt lz n1) iE).bind λr2=>(apn oc ([(r2.1,r2.2)]:List (Int×List Int))).bind λl6=>aQ.pl8021 F dv k ob iC lz iD l6 (wrap .i64 (iE+1))) else (aQ.pj4 F dv ob iC lz iD oc))
theorem aQ.l8021_P  {C125_:ace} {dv:acy} (hC125:aQ.S125 H0 Ri R0  C125_ dv):∀ k,aQ.S8021 H0 Ri R0  (aQ.l8021 F (ak.tw F) (bc.tw F) (aK.tw F) C125_ k) (aQ.pl8021 F dv k):=by
 intro k
 induction k with
 | zero=>unfold aQ.S8021;intros;rename_i hp;cases hp
 | succ k ih=>
  intro Ef Eg Eh yh yi yj Ei Ej Ek ob El Em En iC iD iE lz oc H WX WY WZ h0 r hp
  obtain ⟨w0,s0,MW,Ew,MX⟩:=h0
  subst WX
  subst WY
  subst WZ
  unfold aQ.pl8021 at hp
  unfold aQ.l8021
  refine ax hp (λhp=>?_) λhp=>?_
  ·obtain ⟨n1,g1,hp⟩:=ah hp
   obtain ⟨p1,q1,i1,h1,j1⟩:=W.ixo (E:=(eSl eI)) w0 (i:=1) rfl rfl Ew g1
   refine ai i1 ?_
   obtain ⟨⟨Ex,m1_0,c1_0⟩,rfl,f1_0⟩:=h1
   obtain rfl:m1_0=_:=f1_0.n
   refine ai (il (j1 0 _ rfl)) ?_
   obtain ⟨r2,e2,hp⟩:=ah hp
   refine aI (aK.P rfl ⟨w0,f1_0⟩ e2) ?_
   rintro _ H3 ⟨o1a_3,o1n_3,o1c_3,o1k_3,rfl,rfl,w3,s3,f3_0⟩
   refine br (br (br (br (br ?_))))
   obtain ⟨w4,s4,f4⟩:=w3.frz (i:=0) eI rfl f3_0
   refine cI (aa eI (eSl eI)) w4 (n:=1) (l:=([(r2.1,r2.2)]:List (Int×List Int))) rfl (CR.cons (c:=[_,_]) ⟨[_],_,rfl,rfl,⟨_,rfl,f4⟩⟩ CR.empty) rfl λH5 w5 s5 c5=>?_
   refine ai (w5.rowo (i:=0) rfl) ?_
   obtain ⟨l6,e6,hp⟩:=ah hp
   refine gD (aa eI (eSl eI)) w5 (i:=3) rfl rfl (MX.step (s3.trans (s4.trans s5))) c5 (show 1=List.length ([(r2.1,r2.2)]:List (Int×List Int)) from rfl) rfl e6 λa7 d7 H7 w7 s7 c7 x7=>?_
   obtain ⟨w8,s8⟩:=w7.pp [1,2,3] 4
   exact ih rfl rfl rfl ⟨w8,(s0.trans (s3.trans (s4.trans (s5.trans (s7.trans s8))))),(MW.step (s3.trans (s4.trans (s5.trans (s7.trans s8))))),(Ew.step (s3.trans (s4.trans (s5.trans (s7.trans s8))))),(c7.step s8)⟩ hp
  ·exact aQ.j4_P (@hC125) rfl rfl rfl ⟨w0,s0,MW,Ew,MX⟩ hp
def aQ.pl125 (F:Nat) :Nat->List ((List (Int×List Int)))->Int->List (List Int)->Int->Option ((List ((List (Int×List Int)))))
 | 0,_,_,_,_=>none
 | k+1,n_,kU,oa,jw=>(bif (decide (jw<(oa.length:Int))) then (aQ.pl8021 F (aQ.pl125 F k) F n_ kU oa jw ([]:List (Int×List Int)) 1) else (some n_))
theorem aQ.l125_P  :∀ k,aQ.S125 H0 Ri R0  (aQ.l125 F (ak.tw F) (bc.tw F) (aK.tw F)  k) (aQ.pl125 F  k):=by
 intro k
 induction k with
 | zero=>unfold aQ.S125;intros;rename_i hp;cases hp
 | succ k ih=>
  intro D_ Ea yf yg Eb Ec n_ Ed Ee kU jw oa H W_ Xa h0 r hp
  obtain ⟨w0,s0,MY,Xb⟩:=h0
  subst W_
  subst Xa
  unfold aQ.pl125 at hp
  unfold aQ.l125
  refine ax hp (λhp=>?_) λhp=>?_
  ·refine cI (aa eI (eSl eI)) w0 (n:=0) (l:=([]:List (Int×List Int))) rfl CR.empty rfl λH1 w1 s1 c1=>?_
   obtain ⟨w2,s2⟩:=w1.pp [1,2,0] 3
   exact aQ.l8021_P (@ih) F rfl rfl (show 0=List.length ([]:List (Int×List Int)) from rfl) ⟨w2,(s0.trans (s1.trans s2)),(MY.step (s1.trans s2)),(Xb.step (s1.trans s2)),(c1.step s2)⟩ hp
  ·obtain ⟨w3,s3⟩:=w0.pp [0] 2
   exact aw hp ⟨_,_,_,_,rfl,rfl,w3,(s0.trans s3),(MY.step s3)⟩
def aQ.p (F:Nat) (af:abX) (ag:Int):Option ((List ((List (Int×List Int))))):=(ak.p F af ag).bind λr3=>(bc.p F af ag).bind λr5=>aQ.pl125 F F ([]:List ((List (Int×List Int)))) r3.2 r5 0
theorem aQ.P {ar aj au af ag} (aN:aj=af.length) (h0:Inn H R0 λR=>ROs (aa eI (aa eI (aa eI (aa eI eI)))) H R ⟨ar,aj,au⟩ af) {r:(List ((List (Int×List Int))))} (hp:aQ.p F af ag=some r):Rt (aQ.tw F ⟨ar,aj,au⟩ ag H) (aQ.Q H R0 R0  r):=by
 obtain ⟨w0,aG⟩:=h0
 subst aN
 unfold aQ.p at hp
 unfold aQ.tw aQ.twX
 have s0:=w0.rf
 refine a_ w0 λH1 w1 s1=>?_
 refine cI (eSl (aa eI (eSl eI))) w1 (n:=0) (l:=([]:List ((List (Int×List Int))))) rfl CR.empty rfl λH2 w2 s2 c2=>?_
 refine lSl w2 1 ?_
 refine lI w2 1 ?_
 obtain ⟨r3,e3,hp⟩:=ah hp
 refine aI (ak.P rfl ⟨w2,(aG.step (s1.trans s2))⟩ e3) ?_
 rintro _ H4 ⟨o0a_4,o0n_4,o0c_4,o0k_4,rfl,rfl,w4,s4,f4_0⟩
 refine br (br (br (br (br ?_))))
 refine lSl w4 2 ?_
 refine lI w4 2 ?_
 obtain ⟨r5,e5,hp⟩:=ah hp
 refine aI (bc.P rfl ⟨w4,(aG.step (s1.trans (s2.trans s4)))⟩ e5) ?_
 rintro _ H6 ⟨o0a_6,o0n_6,o0c_6,o0k_6,rfl,rfl,w6,s6,f6_0⟩
 refine br ?_
 obtain ⟨w7,s7⟩:=w6.pp [2,0] 4
 exact aQ.l125_P F (show 0=List.length ([]:List ((List (Int×List Int)))) from rfl) rfl ⟨w7,(s0.trans (s1.trans (s2.trans (s4.trans (s6.trans s7))))),(c2.step (s4.trans (s6.trans s7))),(f6_0.step s7)⟩ hp
def es.Q (H0:Hp) (Ri R0:abR)  (r:(List ((List (Int×List Int))))×Bool) (v:AV) (H':Hp):Prop:=∃ o0a:ON,∃ o0n:Nat,∃ o0c:Cap,∃ o0k:List AV,v=(.tup [(.sl ⟨o0a,o0n,o0c⟩),(.bool r.2)])/\o0n=(r.1).length/\Out H0 Ri H' (Rs.own ⟨o0a,o0n,o0c⟩ (eSl (aa eI (eSl eI))).z o0k::R0) λR=>CR (eSl (aa eI (eSl eI))) H' R o0k (r.1)
def es.p (F:Nat) (af:abX) (ag:Int):Option ((List ((List (Int×List Int))))×Bool):=(dz.p F af ag).bind λr2=>(bif (!r2) then (some (([]:List ((List (Int×List Int)))),false)) else ((aQ.p F af ag).bind λr6=>some (r6,true)))
theorem es.P {ar aj au af ag} (aN:aj=af.length) (h0:Inn H R0 λR=>ROs (aa eI (aa eI (aa eI (aa eI eI)))) H R ⟨ar,aj,au⟩ af) {r:(List ((List (Int×List Int))))×Bool} (hp:es.p F af ag=some r):Rt (es.tw F ⟨ar,aj,au⟩ ag H) (es.Q H R0 R0  r):=by
 obtain ⟨w0,aG⟩:=h0
 subst aN
 unfold es.p at hp
 unfold es.tw es.twX
 have s0:=w0.rf
 refine a_ w0 λH1 w1 s1=>?_
 refine lSl w1 0 ?_
 refine lI w1 0 ?_
 obtain ⟨r2,e2,hp⟩:=ah hp
 refine aI (dz.P rfl ⟨w1,(aG.step s1)⟩ e2) ?_
 rintro _ H3 ⟨rfl,w3,s3,_⟩
 refine br ?_
 refine ax hp (λhp=>?_) λhp=>?_
 ·refine cI (eSl (aa eI (eSl eI))) w3 (n:=0) (l:=([]:List ((List (Int×List Int))))) rfl CR.empty rfl λH4 w4 s4 c4=>?_
  obtain ⟨w5,s5⟩:=w4.pp [0] 2
  exact aw hp ⟨_,_,_,_,rfl,(show 0=List.length ([]:List ((List (Int×List Int)))) from rfl),w5,(s0.trans (s1.trans (s3.trans (s4.trans s5)))),(c4.step s5)⟩
 ·refine lSl w3 0 ?_
  refine lI w3 0 ?_
  obtain ⟨r6,e6,hp⟩:=ah hp
  refine aI (aQ.P rfl ⟨w3,(aG.step (s1.trans s3))⟩ e6) ?_
  rintro _ H7 ⟨o0a_7,o0n_7,o0c_7,o0k_7,rfl,rfl,w7,s7,f7_0⟩
  refine br ?_
  obtain ⟨w8,s8⟩:=w7.pp [0] 2
  exact aw hp ⟨_,_,_,_,rfl,rfl,w8,(s0.trans (s1.trans (s3.trans (s7.trans s8)))),(f7_0.step s8)⟩
def cl.Q (H0:Hp) (Ri R0:abR)  (r:Int) (v:AV) (H':Hp):Prop:=v=(.i r)/\Out H0 Ri H' (R0) λR=>True
def cl.p (F:Nat) (af:abX):Option (Int):=some (af.length:Int)
theorem cl.P {ar aj au af} (aN:aj=af.length) (h0:Inn H R0 λR=>ROs (aa eI (aa eI (aa eI (aa eI eI)))) H R ⟨ar,aj,au⟩ af) {r:Int} (hp:cl.p F af=some r):Rt (cl.tw F ⟨ar,aj,au⟩ H) (cl.Q H R0 R0  r):=by
 obtain ⟨w0,aG⟩:=h0
 subst aN
 unfold cl.p at hp
 unfold cl.tw cl.twX
 have s0:=w0.rf
 exact aw hp ⟨rfl,w0,s0,trivial⟩
def de.Q (H0:Hp) (Ri R0:abR)  (r:Bool) (v:AV) (H':Hp):Prop:=v=(.bool r)/\Out H0 Ri H' (R0) λR=>True
def de.p (F:Nat) (ac:Int) (aq:Int) (dy:Int):Option (Bool):=(bif (decide (aq<=ac)) then (some (decide (ac<=dy))) else (some false))
theorem de.P {ac aq dy}  (h0:Inn H R0 λR=>True) {r:Bool} (hp:de.p F ac aq dy=some r):Rt (de.tw F ac aq dy H) (de.Q H R0 R0  r):=by
 obtain ⟨w0,_⟩:=h0
 unfold de.p at hp
 unfold de.tw de.twX
 have s0:=w0.rf
 refine ax hp (λhp=>?_) λhp=>?_
 ·exact aw hp ⟨rfl,w0,s0,trivial⟩
 ·exact aw hp ⟨rfl,w0,s0,trivial⟩
def eT.Q (H0:Hp) (Ri R0:abR)  (r:Bool) (v:AV) (H':Hp):Prop:=v=(.bool r)/\Out H0 Ri H' (R0) λR=>True
def eT.p (F:Nat) (bz:Int):Option (Bool):=(bif (bz != 1) then (some (bz != (-1))) else (some false))
theorem eT.P {ac ag bG bH bz}  (h0:Inn H R0 λR=>True) {r:Bool} (hp:eT.p F bz=some r):Rt (eT.tw F ac ag bG bH bz H) (eT.Q H R0 R0  r):=by
 obtain ⟨w0,_⟩:=h0
 unfold eT.p at hp
 unfold eT.tw eT.twX
 have s0:=w0.rf
 refine a_ w0 λH1 w1 s1=>?_
 refine lI w1 0 ?_
 refine ax hp (λhp=>?_) λhp=>?_
 ·refine lI w1 0 ?_
  obtain ⟨w2,s2⟩:=w1.pp [] 1
  exact aw hp ⟨rfl,w2,(s0.trans (s1.trans s2)),trivial⟩
 ·obtain ⟨w3,s3⟩:=w1.pp [] 1
  exact aw hp ⟨rfl,w3,(s0.trans (s1.trans s3)),trivial⟩
def bJ.Q (H0:Hp) (Ri R0:abR)  (r:Int) (v:AV) (H':Hp):Prop:=v=(.i r)/\Out H0 Ri H' (R0) λR=>True
def bJ.S13 (H0:Hp) (Ri R0:abR)  (C:abY) (pC:List (Int×Int×Int×Int×Int)->Int->Int->Option (Int)):Prop:=∀ {kd ij ke ed cN bW},∀ {H:Hp},ij=ed.length->(Out H0 Ri H R0 λR=>ROs (aa eI (aa eI (aa eI (aa eI eI)))) H R ⟨kd,ij,ke⟩ ed)->∀ {r:Int},pC ed cN bW=some r->Rt (C ⟨kd,ij,ke⟩ cN bW H) (bJ.Q H0 Ri R0  r)
def bJ.pl13 (F:Nat) :Nat->List (Int×Int×Int×Int×Int)->Int->Int->Option (Int)
 | 0,_,_,_=>none
 | k+1,ed,cN,bW=>(bif (decide (bW<cN)) then ((ix ed bW).bind λn1=>(eT.p F ((gt ed n1).2.2.2.2)).bind λr2=>(bif r2 then (some bW) else (bJ.pl13 F k ed cN (wrap .i64 (bW+1))))) else (some (-1)))
theorem bJ.l13_P  :∀ k,bJ.S13 H0 Ri R0  (bJ.l13 F (eT.tw F)  k) (bJ.pl13 F  k):=by
 intro k
 induction k with
 | zero=>unfold bJ.S13;intros;rename_i hp;cases hp
 | succ k ih=>
  intro kd ij ke ed cN bW H uC h0 r hp
  obtain ⟨w0,s0,mA⟩:=h0
  subst uC
  unfold bJ.pl13 at hp
  unfold bJ.l13
  refine ax hp (λhp=>?_) λhp=>?_
  ·obtain ⟨n1,g1,hp⟩:=ah hp
   obtain ⟨p1,q1,i1,h1,j1⟩:=ROs.ixr mA rfl g1
   refine ai i1 ?_
   obtain ⟨_,_,rfl,rfl,_,_,rfl,rfl,_,_,rfl,rfl,_,_,rfl,rfl,rfl⟩:=h1
   refine ai (aH (j1 0 _ rfl)) ?_
   refine ai (aH (j1 1 _ rfl)) ?_
   refine ai (aH (j1 2 _ rfl)) ?_
   refine ai (aH (j1 3 _ rfl)) ?_
   refine ai (aH (j1 4 _ rfl)) ?_
   obtain ⟨r2,e2,hp⟩:=ah hp
   refine aI (eT.P ⟨w0,trivial⟩ e2) ?_
   rintro _ H3 ⟨rfl,w3,s3,_⟩
   refine br ?_
   refine ax hp (λhp=>?_) λhp=>?_
   ·exact aw hp ⟨rfl,w3,(s0.trans s3),trivial⟩
   ·exact ih rfl ⟨w3,(s0.trans s3),(mA.step s3)⟩ hp
  ·exact aw hp ⟨rfl,w0,s0,trivial⟩
def bJ.p (F:Nat) (af:abX):Option (Int):=bJ.pl13 F F af (af.length:Int) 0
theorem bJ.P {ar aj au af} (aN:aj=af.length) (h0:Inn H R0 λR=>ROs (aa eI (aa eI (aa eI (aa eI eI)))) H R ⟨ar,aj,au⟩ af) {r:Int} (hp:bJ.p F af=some r):Rt (bJ.tw F ⟨ar,aj,au⟩ H) (bJ.Q H R0 R0  r):=by
 obtain ⟨w0,aG⟩:=h0
 subst aN
 unfold bJ.p at hp
 unfold bJ.tw bJ.twX
 have s0:=w0.rf
 exact bJ.l13_P F rfl ⟨w0,s0,aG⟩ hp
def et.Q (H0:Hp) (Ri R0:abR)  (r:Bool) (v:AV) (H':Hp):Prop:=v=(.bool r)/\Out H0 Ri H' (R0) λR=>True
def et.p (F:Nat) (af:abX):Option (Bool):=(bJ.p F af).bind λr1=>some (decide (r1>=0))
theorem et.P {ar aj au af} (aN:aj=af.length) (h0:Inn H R0 λR=>ROs (aa eI (aa eI (aa eI (aa eI eI)))) H R ⟨ar,aj,au⟩ af) {r:Bool} (hp:et.p F af=some r):Rt (et.tw F ⟨ar,aj,au⟩ H) (et.Q H R0 R0  r):=by
 obtain ⟨w0,aG⟩:=h0
 subst aN
 unfold et.p at hp
 unfold et.tw et.twX
 have s0:=w0.rf
 obtain ⟨r1,e1,hp⟩:=ah hp
 refine aI (bJ.P rfl ⟨w0,aG⟩ e1) ?_
 rintro _ H2 ⟨rfl,w2,s2,_⟩
 refine br ?_
 exact aw hp ⟨rfl,w2,(s0.trans s2),trivial⟩
def bits_Mul64.Q (H0:Hp) (Ri R0:abR)  (r:acf) (v:AV) (H':Hp):Prop:=v=(.tup [(.int .u64 r.1),(.int .u64 r.2)])/\Out H0 Ri H' (R0) λR=>True
def bits_Mul64.p (F:Nat) (ac:Int) (aq:Int):Option (Int×Int):=some ((IntKind.u64.wrap ((IntKind.u64.wrap ((IntKind.u64.wrap ((Int.fdiv ac (2 ^ (min (32:Int).toNat (IntKind.u64).bits))) * (Int.fdiv aq (2 ^ (min (32:Int).toNat (IntKind.u64).bits)))))+(Int.fdiv (IntKind.u64.wrap ((IntKind.u64.wrap ((Int.fdiv ac (2 ^ (min (32:Int).toNat (IntKind.u64).bits))) * (Go.bits .and .u64 aq 4294967295)))+(Int.fdiv (IntKind.u64.wrap ((Go.bits .and .u64 ac 4294967295) * (Go.bits .and .u64 aq 4294967295))) (2 ^ (min (32:Int).toNat (IntKind.u64).bits))))) (2 ^ (min (32:Int).toNat (IntKind.u64).bits)))))+(Int.fdiv (IntKind.u64.wrap ((Go.bits .and .u64 (IntKind.u64.wrap ((IntKind.u64.wrap ((Int.fdiv ac (2 ^ (min (32:Int).toNat (IntKind.u64).bits))) * (Go.bits .and .u64 aq 4294967295)))+(Int.fdiv (IntKind.u64.wrap ((Go.bits .and .u64 ac 4294967295) * (Go.bits .and .u64 aq 4294967295))) (2 ^ (min (32:Int).toNat (IntKind.u64).bits))))) 4294967295)+(IntKind.u64.wrap ((Go.bits .and .u64 ac 4294967295) * (Int.fdiv aq (2 ^ (min (32:Int).toNat (IntKind.u64).bits))))))) (2 ^ (min (32:Int).toNat (IntKind.u64).bits))))),(IntKind.u64.wrap (ac * aq)))
theorem bits_Mul64.P {ac aq}  (h0:Inn H R0 λR=>True) {r:acf} (hp:bits_Mul64.p F ac aq=some r):Rt (bits_Mul64.tw F ac aq H) (bits_Mul64.Q H R0 R0  r):=by
 obtain ⟨w0,_⟩:=h0
 unfold bits_Mul64.p at hp
 unfold bits_Mul64.tw bits_Mul64.twX
 have s0:=w0.rf
 exact aw hp ⟨rfl,w0,s0,trivial⟩
def bits_Mul.Q (H0:Hp) (Ri R0:abR)  (r:acf) (v:AV) (H':Hp):Prop:=v=(.tup [(.int .u64 r.1),(.int .u64 r.2)])/\Out H0 Ri H' (R0) λR=>True
def bits_Mul.p (F:Nat) (ac:Int) (aq:Int):Option (Int×Int):=(bits_Mul64.p F ac aq).bind λr1=>some (r1.1,r1.2)
theorem bits_Mul.P {ac aq}  (h0:Inn H R0 λR=>True) {r:acf} (hp:bits_Mul.p F ac aq=some r):Rt (bits_Mul.tw F ac aq H) (bits_Mul.Q H R0 R0  r):=by
 obtain ⟨w0,_⟩:=h0
 unfold bits_Mul.p at hp
 unfold bits_Mul.tw bits_Mul.twX
 have s0:=w0.rf
 obtain ⟨r1,e1,hp⟩:=ah hp
 refine aI (bits_Mul64.P ⟨w0,trivial⟩ e1) ?_
 rintro _ H2 ⟨rfl,w2,s2,_⟩
 refine br (br (br (br (br ?_))))
 exact aw hp ⟨rfl,w2,(s0.trans s2),trivial⟩
def bi.Q (H0:Hp) (Ri R0:abR)  (r:(List (Int×Int))) (v:AV) (H':Hp):Prop:=∃ o0a:ON,∃ o0n:Nat,∃ o0k:List AV,v=(.sl ⟨o0a,o0n,.ex o0n⟩)/\o0n=(r).length/\Out H0 Ri H' (Rs.own ⟨o0a,o0n,.ex o0n⟩ (aa eI eI).z o0k::R0) λR=>CR (aa eI eI) H' R o0k (r)
def bi.pj1 (F:Nat)  (rV:ab_) (nj:Int):Option ((List (Int×Int))):=(mkn (wrap .i64 nj) ((0:Int),(0:Int))).bind λl1=>(some (cpl l1 rV)).bind λl3=>(sx F l3 ((min rV.length l1.length:Nat):Int)).bind λl5=>some l5
theorem bi.j1_P   {MZ Ey M_ rV nj} (Xc:Ey=rV.length) (h0:Out H0 Ri H R0 λR=>ROs (aa eI eI) H R ⟨MZ,Ey,M_⟩ rV) {r:(List (Int×Int))} (hp:bi.pj1 F  rV nj=some r):Rt (bi.j1 F (bits_Mul.tw F)  ⟨MZ,Ey,M_⟩ nj H) (bi.Q H0 Ri R0  r):=by
 obtain ⟨w0,s0,Xd⟩:=h0
 subst Xc
 unfold bi.pj1 at hp
 unfold bi.j1
 obtain ⟨l1,e1,hp⟩:=ah hp
 refine mN (aa eI eI) ((0:Int),(0:Int)) w0 ⟨[_],_,rfl,rfl,rfl⟩ rfl rfl e1 λH2 k2 w2 s2 c2=>?_
 obtain ⟨x3,h3,c3⟩:=(Xd.step s2).row (z:=(aa eI eI).z) rfl
 obtain ⟨l3,e3,hp⟩:=ah hp
 refine aac (aa eI eI) w2 (i:=0) rfl rfl c2 h3 c3 rfl rfl e3 λk4 H4 w4 s4 c4=>?_
 obtain ⟨l5,e5,hp⟩:=ah hp
 refine aad (aa eI eI) rfl (L:=bi.l254 F (bits_Mul.tw F)) (λ_ _ _ _=>rfl) w4 (i:=0) rfl c4 e5 λH6 k6 w6 s6 c6=>?_
 dsimp only [List.set] at w6 s6 c6
 exact aw hp ⟨_,_,_,rfl,((aae e3).symm.trans (aaf e5).symm),w6,(s0.trans (s2.trans (s4.trans s6))),c6⟩
def bi.pj2 (F:Nat)  (rW:ab_) (qq:Int):Option ((List (Int×Int))):=(bits_Mul.p F (IntKind.u64.wrap (rW.length:Int)) (IntKind.u64.wrap qq)).bind λr1=>(bif (decide (r1.1>0)) then (none) else ((bif (decide (r1.2>9223372036854775807)) then (none) else (bi.pj1 F rW r1.2))))
theorem bi.j2_P   {Na Ez Nb rW qq} (Xe:Ez=rW.length) (h0:Out H0 Ri H R0 λR=>ROs (aa eI eI) H R ⟨Na,Ez,Nb⟩ rW) {r:(List (Int×Int))} (hp:bi.pj2 F  rW qq=some r):Rt (bi.j2 F (bits_Mul.tw F)  ⟨Na,Ez,Nb⟩ qq H) (bi.Q H0 Ri R0  r):=by
 obtain ⟨w0,s0,Xf⟩:=h0
 subst Xe
 unfold bi.pj2 at hp
 unfold bi.j2
 obtain ⟨r1,e1,hp⟩:=ah hp
 refine aI (bits_Mul.P ⟨w0,trivial⟩ e1) ?_
 rintro _ H2 ⟨rfl,w2,s2,_⟩
 refine br (br (br (br (br ?_))))
 refine ax hp (λhp=>?_) λhp=>?_
 ·cases hp
 ·refine ax hp (λhp=>?_) λhp=>?_
  ·cases hp
  ·exact bi.j1_P rfl ⟨w2,(s0.trans s2),(Xf.step s2)⟩ hp
def bi.p (F:Nat) (af:ab_) (aq:Int):Option ((List (Int×Int))):=(bif (decide (aq<0)) then (none) else (bi.pj2 F af aq))
theorem bi.P {ar aj au af aq} (aN:aj=af.length) (h0:Inn H R0 λR=>ROs (aa eI eI) H R ⟨ar,aj,au⟩ af) {r:(List (Int×Int))} (hp:bi.p F af aq=some r):Rt (bi.tw F ⟨ar,aj,au⟩ aq H) (bi.Q H R0 R0  r):=by
 obtain ⟨w0,aG⟩:=h0
 subst aN
 unfold bi.p at hp
 unfold bi.tw bi.twX
 have s0:=w0.rf
 refine ax hp (λhp=>?_) λhp=>?_
 ·cases hp
 ·exact bi.j2_P rfl ⟨w0,s0,aG⟩ hp
def dM.Q (H0:Hp) (Ri R0:abR)  (r:Int×Int×Int×Int) (v:AV) (H':Hp):Prop:=v=(.agg [(.i r.1),(.i r.2.1),(.i r.2.2.1),(.i r.2.2.2)])/\Out H0 Ri H' (R0) λR=>True
def dM.p (F:Nat) (ac:Int) (ag:Int) (bG:Int) (bH:Int):Option (Int×Int×Int×Int):=some (ac,ag,bG,bH)
theorem dM.P {ac ag bG bH bz}  (h0:Inn H R0 λR=>True) {r:Int×Int×Int×Int} (hp:dM.p F ac ag bG bH=some r):Rt (dM.tw F ac ag bG bH bz H) (dM.Q H R0 R0  r):=by
 obtain ⟨w0,_⟩:=h0
 unfold dM.p at hp
 unfold dM.tw dM.twX
 have s0:=w0.rf
 refine a_ w0 λH1 w1 s1=>?_
 refine a_ w1 λH2 w2 s2=>?_
 refine lI w2 1 ?_
 refine lI w2 1 ?_
 refine lI w2 1 ?_
 refine lI w2 1 ?_
 refine aA w2 0 λH3 w3 s3=>?_
 refine aA w3 0 λH4 w4 s4=>?_
 refine aA w4 0 λH5 w5 s5=>?_
 refine aA w5 0 λH6 w6 s6=>?_
 refine lI w6 0 ?_
 refine lI w6 0 ?_
 refine lI w6 0 ?_
 refine lI w6 0 ?_
 obtain ⟨w7,s7⟩:=w6.pp [] 2
 exact aw hp ⟨rfl,w7,(s0.trans (s1.trans (s2.trans (s3.trans (s4.trans (s5.trans (s6.trans s7))))))),trivial⟩
def dN.Q (H0:Hp) (Ri R0:abR)  (r:Bool) (v:AV) (H':Hp):Prop:=v=(.bool r)/\Out H0 Ri H' (R0) λR=>True
def dN.p (F:Nat) (bz:Int) (cf:Int):Option (Bool):=(bif (cf==0) then (some true) else (some (cf==(wrap .i64 (2+bz)))))
theorem dN.P {ac ag bG bH bz cf}  (h0:Inn H R0 λR=>True) {r:Bool} (hp:dN.p F bz cf=some r):Rt (dN.tw F ac ag bG bH bz cf H) (dN.Q H R0 R0  r):=by
 obtain ⟨w0,_⟩:=h0
 unfold dN.p at hp
 unfold dN.tw dN.twX
 have s0:=w0.rf
 refine a_ w0 λH1 w1 s1=>?_
 refine ax hp (λhp=>?_) λhp=>?_
 ·obtain ⟨w2,s2⟩:=w1.pp [] 1
  exact aw hp ⟨rfl,w2,(s0.trans (s1.trans s2)),trivial⟩
 ·refine lI w1 0 ?_
  obtain ⟨w3,s3⟩:=w1.pp [] 1
  exact aw hp ⟨rfl,w3,(s0.trans (s1.trans s3)),trivial⟩
def fu.Q (H0:Hp) (Ri R0:abR)  (r:Int) (v:AV) (H':Hp):Prop:=v=(.i r)/\Out H0 Ri H' (R0) λR=>True
def fu.p (F:Nat) (af:ab_):Option (Int):=some (af.length:Int)
theorem fu.P {ar aj au af} (aN:aj=af.length) (h0:Inn H R0 λR=>ROs (aa eI eI) H R ⟨ar,aj,au⟩ af) {r:Int} (hp:fu.p F af=some r):Rt (fu.tw F ⟨ar,aj,au⟩ H) (fu.Q H R0 R0  r):=by
 obtain ⟨w0,aG⟩:=h0
 subst aN
 unfold fu.p at hp
 unfold fu.tw fu.twX
 have s0:=w0.rf
 exact aw hp ⟨rfl,w0,s0,trivial⟩
def dC.Q (H0:Hp) (Ri R0:abR)  (r:Bool) (v:AV) (H':Hp):Prop:=v=(.bool r)/\Out H0 Ri H' (R0) λR=>True
def dC.p (F:Nat) (af:ab_) (aq:Int):Option (Bool):=(fu.p F af).bind λr1=>(de.p F aq 0 (wrap .i64 (r1 - 1))).bind λr3=>some r3
theorem dC.P {ar aj au af aq} (aN:aj=af.length) (h0:Inn H R0 λR=>ROs (aa eI eI) H R ⟨ar,aj,au⟩ af) {r:Bool} (hp:dC.p F af aq=some r):Rt (dC.tw F ⟨ar,aj,au⟩ aq H) (dC.Q H R0 R0  r):=by
 obtain ⟨w0,aG⟩:=h0
 subst aN
 unfold dC.p at hp
 unfold dC.tw dC.twX
 have s0:=w0.rf
 obtain ⟨r1,e1,hp⟩:=ah hp
 refine aI (fu.P rfl ⟨w0,aG⟩ e1) ?_
 rintro _ H2 ⟨rfl,w2,s2,_⟩
 refine br ?_
 obtain ⟨r3,e3,hp⟩:=ah hp
 refine aI (de.P ⟨w2,trivial⟩ e3) ?_
 rintro _ H4 ⟨rfl,w4,s4,_⟩
 refine br ?_
 exact aw hp ⟨rfl,w4,(s0.trans (s2.trans s4)),trivial⟩
def aX.Q (H0:Hp) (Ri R0:abR)  (r:(List (Int×Int))×(List (Int×Int))×Bool) (v:AV) (H':Hp):Prop:=∃ o0a:ON,∃ o0n:Nat,∃ o0c:Cap,∃ o0k:List AV,∃ o1a:ON,∃ o1n:Nat,∃ o1c:Cap,∃ o1k:List AV,v=(.tup [(.agg [(.sl ⟨o0a,o0n,o0c⟩),(.sl ⟨o1a,o1n,o1c⟩)]),(.bool r.2.2)])/\o0n=(r.1).length/\o1n=(r.2.1).length/\Out H0 Ri H' (Rs.own ⟨o0a,o0n,o0c⟩ (aa eI eI).z o0k::Rs.own ⟨o1a,o1n,o1c⟩ (aa eI eI).z o1k::R0) λR=>CR (aa eI eI) H' R o0k (r.1)/\CR (aa eI eI) H' R o1k (r.2.1)
def aX.S61 (H0:Hp) (Ri R0:abR)  (C:acJ) (pC:acR):Prop:=∀ {EA EB EC ED EE yk yl jx ym yn kW yo EF EG EH EI EJ EK EL oe og EM EN EO EP ji jy gU},∀ {H:Hp},yk=EK.length->yl=EL.length->ym=oe.length->yn=og.length->yo=ji.length->(Out H0 Ri H (Rs.own ⟨EA,yk,EF⟩ (aa eI eI).z EM::Rs.own ⟨EB,yl,EG⟩ (aa eI eI).z EN::Rs.blk jx [.sl ⟨EA,yk,EF⟩,.sl ⟨EB,yl,EG⟩]::Rs.own ⟨EC,ym,EH⟩ (aa eI eI).z EO::Rs.own ⟨ED,yn,EI⟩ (aa eI eI).z EP::Rs.blk kW [.sl ⟨EC,ym,EH⟩,.sl ⟨ED,yn,EI⟩]::R0) λR=>CR (aa eI eI) H R EM EK/\CR (aa eI eI) H R EN EL/\CR (aa eI eI) H R EO oe/\CR (aa eI eI) H R EP og/\ROs (aa eI (aa eI (aa eI (aa eI eI)))) H R ⟨EE,yo,EJ⟩ ji)->∀ {r:(List (Int×Int))×(List (Int×Int))×Bool},pC oe og ji jy gU=some r->Rt (C jx 0 kW 0 ⟨EE,yo,EJ⟩ jy gU H) (aX.Q H0 Ri R0  r)
def aX.S3931 (H0:Hp) (Ri R0:abR)  (C:Nat->Nat->Nat->Nat->Sl->Int->Int->Nat->Nat->Int->Int->Int->Int->Int->Int->Hp->OA) (pC:List (Int×Int)->List (Int×Int)->List (Int×Int×Int×Int×Int)->Int->Int->Int->Int->Int->Int->Int->Int->Int->Option ((List (Int×Int))×(List (Int×Int))×Bool)):Prop:=∀ {EQ ER ES ET EU yp yq eu yr yt fv yu iH EV EW EY EZ E_ Fa Fb gw gy Fc Fe Ff Fg mB iF iG Nc Nd Nf Ng oh gT fa fb fc fd dl},∀ {H:Hp},yp=Fa.length->yq=Fb.length->yr=gw.length->yt=gy.length->yu=mB.length->(Out H0 Ri H (Rs.own ⟨EQ,yp,EV⟩ (aa eI eI).z Fc::Rs.own ⟨ER,yq,EW⟩ (aa eI eI).z Fe::Rs.blk eu [.sl ⟨EQ,yp,EV⟩,.sl ⟨ER,yq,EW⟩]::Rs.own ⟨ES,yr,EY⟩ (aa eI eI).z Ff::Rs.own ⟨ET,yt,EZ⟩ (aa eI eI).z Fg::Rs.blk fv [.sl ⟨ES,yr,EY⟩,.sl ⟨ET,yt,EZ⟩]::Rs.blk iH [.i Nc,.i Nd,.i Nf,.i Ng,.i oh]::R0) λR=>CR (aa eI eI) H R Fc Fa/\CR (aa eI eI) H R Fe Fb/\CR (aa eI eI) H R Ff gw/\CR (aa eI eI) H R Fg gy/\ROs (aa eI (aa eI (aa eI (aa eI eI)))) H R ⟨EU,yu,E_⟩ mB)->∀ {r:(List (Int×Int))×(List (Int×Int))×Bool},pC gw gy mB iF iG oh gT fa fb fc fd dl=some r->Rt (C eu 0 fv 0 ⟨EU,yu,E_⟩ iF iG iH 0 gT fa fb fc fd dl H) (aX.Q H0 Ri R0  r)
def aX.pl3931 (F:Nat) (az:acR):Nat->List (Int×Int)->List (Int×Int)->List (Int×Int×Int×Int×Int)->Int->Int->Int->Int->Int->Int->Int->Int->Int->Option ((List (Int×Int))×(List (Int×Int))×Bool)
 | 0,_,_,_,_,_,_,_,_,_,_,_,_=>none
 | k+1,gw,gy,mB,iF,iG,oh,gT,fa,fb,fc,fd,dl=>(bif (decide (dl<4)) then ((if 0<=dl/\dl<(4:Int) then ((dN.p F oh dl).bind λr2=>(bif r2 then ((dC.p F gy (gt ([fa,fb,fc,fd]:List Int) (dl:Int).toNat)).bind λr6=>(bif (!r6) then (some (gw,gy,false)) else ((ix gy (gt ([fa,fb,fc,fd]:List Int) (dl:Int).toNat)).bind λn12=>(bif (decide (((gt gy n12).1)>=0)) then (some (gw,gy,false)) else ((ix gy (gt ([fa,fb,fc,fd]:List Int) (dl:Int).toNat)).bind λn16=>(some (gy.set n16 (gT,(gt gy n16).2))).bind λl17=>(some (l17.set n16 ((gt l17 n16).1,dl))).bind λl19=>aX.pl3931 F az k gw l19 mB iF iG oh gT fa fb fc fd (wrap .i64 (dl+1))))))) else ((dC.p F gw (gt ([fa,fb,fc,fd]:List Int) (dl:Int).toNat)).bind λr24=>(bif (!r24) then (some (gw,gy,false)) else ((ix gw (gt ([fa,fb,fc,fd]:List Int) (dl:Int).toNat)).bind λn30=>(bif (decide (((gt gw n30).1)>=0)) then (some (gw,gy,false)) else ((ix gw (gt ([fa,fb,fc,fd]:List Int) (dl:Int).toNat)).bind λn34=>(some (gw.set n34 (gT,(gt gw n34).2))).bind λl35=>(some (l35.set n34 ((gt l35 n34).1,dl))).bind λl37=>aX.pl3931 F az k l37 gy mB iF iG oh gT fa fb fc fd (wrap .i64 (dl+1))))))))) else none)) else (az gw gy mB iF (wrap .i64 (iG+1))))
theorem aX.l3931_P  {C61_:acJ} {az:acR} (hC61:aX.S61 H0 Ri R0  C61_ az):∀ k,aX.S3931 H0 Ri R0  (aX.l3931 F (bi.tw F) (dM.tw F) (dN.tw F) (dC.tw F) C61_ k) (aX.pl3931 F az k):=by
 intro k
 induction k with
 | zero=>unfold aX.S3931;intros;rename_i hp;cases hp
 | succ k ih=>
  intro EQ ER ES ET EU yp yq eu yr yt fv yu iH EV EW EY EZ E_ Fa Fb gw gy Fc Fe Ff Fg mB iF iG Nc Nd Nf Ng oh gT fa fb fc fd dl H Xg Xh Xi Xj Xk h0 r hp
  obtain ⟨w0,s0,Fh,Fi,kE,kF,Fj⟩:=h0
  subst Xg
  subst Xh
  subst Xi
  subst Xj
  subst Xk
  unfold aX.pl3931 at hp
  unfold aX.l3931
  refine ax hp (λhp=>?_) λhp=>?_
  ·obtain ⟨g1,hp⟩:=eW hp
   refine fY g1 ?_
   refine ai (a:=AV.int .i64 (gt ([fa,fb,fc,fd]:List Int) (dl:Int).toNat)) (by rw [Nat.mul_one];exact QK (k:=.i64) (l:=[fa,fb,fc,fd]) rfl (by have:=g1;simp only [List.length_cons,List.length_nil];omega)) ?_
   refine br ?_
   refine lSl w0 5 ?_
   refine lI w0 6 ?_
   refine lI w0 6 ?_
   refine lI w0 6 ?_
   refine lI w0 6 ?_
   refine lI w0 6 ?_
   obtain ⟨r2,e2,hp⟩:=ah hp
   refine aI (dN.P ⟨w0,trivial⟩ e2) ?_
   rintro _ H3 ⟨rfl,w3,s3,_⟩
   refine br ?_
   refine ax hp (λhp=>?_) λhp=>?_
   ·refine lSl w3 5 ?_
    obtain ⟨w4,s4⟩:=w3.pp [4,0,1,2,3,5,6] 7
    have f5:=W.borrow1 (aa eI eI) w4 (kF.step (s3.trans s4))
    obtain ⟨w5,s5⟩:=w4.right1
    obtain ⟨r6,e6,hp⟩:=ah hp
    refine aI (dC.P rfl ⟨w5,f5⟩ e6) ?_
    rintro _ H7 ⟨rfl,w7,s7,_⟩
    obtain ⟨w8,s8⟩:=W.frame1 w4 w7 s7
    refine br ?_
    refine ax hp (λhp=>?_) λhp=>?_
    ·refine lSl w8 5 ?_
     refine lSl w8 5 ?_
     refine aA w8 3 λH9 w9 s9=>?_
     refine aA w9 3 λH10 w10 s10=>?_
     refine lSl w10 3 ?_
     refine lSl w10 3 ?_
     obtain ⟨w11,s11⟩:=w10.pp [4,0] 7
     exact aw hp ⟨_,_,_,_,_,_,_,_,rfl,rfl,rfl,w11,(s0.trans (s3.trans (s4.trans (s8.trans (s9.trans (s10.trans s11)))))),(kE.step (s3.trans (s4.trans (s8.trans (s9.trans (s10.trans s11)))))),(kF.step (s3.trans (s4.trans (s8.trans (s9.trans (s10.trans s11))))))⟩
    ·obtain ⟨n12,g12,hp⟩:=ah hp
     obtain ⟨p12,q12,i12,h12,j12⟩:=W.ixo (E:=(aa eI eI)) w8 (i:=0) rfl rfl (kF.step (s3.trans (s4.trans s8))) g12
     refine ai i12 ?_
     obtain ⟨_,_,rfl,rfl,rfl⟩:=h12
     refine ai (aH (j12 0 _ rfl)) ?_
     refine ax hp (λhp=>?_) λhp=>?_
     ·refine lSl w8 5 ?_
      refine lSl w8 5 ?_
      refine aA w8 3 λH13 w13 s13=>?_
      refine aA w13 3 λH14 w14 s14=>?_
      refine lSl w14 3 ?_
      refine lSl w14 3 ?_
      obtain ⟨w15,s15⟩:=w14.pp [4,0] 7
      exact aw hp ⟨_,_,_,_,_,_,_,_,rfl,rfl,rfl,w15,(s0.trans (s3.trans (s4.trans (s8.trans (s13.trans (s14.trans s15)))))),(kE.step (s3.trans (s4.trans (s8.trans (s13.trans (s14.trans s15)))))),(kF.step (s3.trans (s4.trans (s8.trans (s13.trans (s14.trans s15))))))⟩
     ·obtain ⟨n16,g16,hp⟩:=ah hp
      obtain ⟨p16,q16,i16,h16,j16⟩:=W.ixo (E:=(aa eI eI)) w8 (i:=0) rfl rfl (kF.step (s3.trans (s4.trans s8))) g16
      refine ai i16 ?_
      obtain ⟨l17,e17,hp⟩:=ah hp
      refine eA (aa eI eI) w8 (i:=0) (j:=0) (p:=p16) rfl rfl (kF.step (s3.trans (s4.trans s8))) g16 i16 e17 rfl rfl (λ_ h=>by obtain ⟨_,_,rfl,rfl,rfl⟩:=h;exact ⟨[_],_,rfl,rfl,rfl⟩) λH18 k18 w18 s18 c18=>?_
      obtain ⟨l19,e19,hp⟩:=ah hp
      refine eA (aa eI eI) w18 (i:=0) (j:=1) (p:=p16) rfl rfl c18 (sv g16 (cE e17)) i16 e19 rfl rfl (λ_ h=>by obtain ⟨_,_,rfl,rfl,rfl⟩:=h;exact ⟨[_],_,rfl,rfl,rfl⟩) λH20 k20 w20 s20 c20=>?_
      obtain ⟨w21,s21⟩:=w20.pp [1,2,3,4,0,5,6] 7
      exact ih rfl rfl rfl ((cE e17).symm.trans (cE e19).symm) rfl ⟨w21,(s0.trans (s3.trans (s4.trans (s8.trans (s18.trans (s20.trans s21)))))),(Fh.step (s3.trans (s4.trans (s8.trans (s18.trans (s20.trans s21)))))),(Fi.step (s3.trans (s4.trans (s8.trans (s18.trans (s20.trans s21)))))),(kE.step (s3.trans (s4.trans (s8.trans (s18.trans (s20.trans s21)))))),(c20.step s21),(Fj.step (s3.trans (s4.trans (s8.trans (s18.trans (s20.trans s21))))))⟩ hp
   ·obtain ⟨w22,s22⟩:=w3.pp [3,0,1,2,4,5,6] 7
    have f23:=W.borrow1 (aa eI eI) w22 (kE.step (s3.trans s22))
    obtain ⟨w23,s23⟩:=w22.right1
    obtain ⟨r24,e24,hp⟩:=ah hp
    refine aI (dC.P rfl ⟨w23,f23⟩ e24) ?_
    rintro _ H25 ⟨rfl,w25,s25,_⟩
    obtain ⟨w26,s26⟩:=W.frame1 w22 w25 s25
    refine br ?_
    refine ax hp (λhp=>?_) λhp=>?_
    ·refine lSl w26 5 ?_
     refine lSl w26 5 ?_
     refine aA w26 3 λH27 w27 s27=>?_
     refine aA w27 3 λH28 w28 s28=>?_
     refine lSl w28 3 ?_
     refine lSl w28 3 ?_
     obtain ⟨w29,s29⟩:=w28.pp [0,4] 7
     exact aw hp ⟨_,_,_,_,_,_,_,_,rfl,rfl,rfl,w29,(s0.trans (s3.trans (s22.trans (s26.trans (s27.trans (s28.trans s29)))))),(kE.step (s3.trans (s22.trans (s26.trans (s27.trans (s28.trans s29)))))),(kF.step (s3.trans (s22.trans (s26.trans (s27.trans (s28.trans s29))))))⟩
    ·obtain ⟨n30,g30,hp⟩:=ah hp
     obtain ⟨p30,q30,i30,h30,j30⟩:=W.ixo (E:=(aa eI eI)) w26 (i:=0) rfl rfl (kE.step (s3.trans (s22.trans s26))) g30
     refine ai i30 ?_
     obtain ⟨_,_,rfl,rfl,rfl⟩:=h30
     refine ai (aH (j30 0 _ rfl)) ?_
     refine ax hp (λhp=>?_) λhp=>?_
     ·refine lSl w26 5 ?_
      refine lSl w26 5 ?_
      refine aA w26 3 λH31 w31 s31=>?_
      refine aA w31 3 λH32 w32 s32=>?_
      refine lSl w32 3 ?_
      refine lSl w32 3 ?_
      obtain ⟨w33,s33⟩:=w32.pp [0,4] 7
      exact aw hp ⟨_,_,_,_,_,_,_,_,rfl,rfl,rfl,w33,(s0.trans (s3.trans (s22.trans (s26.trans (s31.trans (s32.trans s33)))))),(kE.step (s3.trans (s22.trans (s26.trans (s31.trans (s32.trans s33)))))),(kF.step (s3.trans (s22.trans (s26.trans (s31.trans (s32.trans s33))))))⟩
     ·obtain ⟨n34,g34,hp⟩:=ah hp
      obtain ⟨p34,q34,i34,h34,j34⟩:=W.ixo (E:=(aa eI eI)) w26 (i:=0) rfl rfl (kE.step (s3.trans (s22.trans s26))) g34
      refine ai i34 ?_
      obtain ⟨l35,e35,hp⟩:=ah hp
      refine eA (aa eI eI) w26 (i:=0) (j:=0) (p:=p34) rfl rfl (kE.step (s3.trans (s22.trans s26))) g34 i34 e35 rfl rfl (λ_ h=>by obtain ⟨_,_,rfl,rfl,rfl⟩:=h;exact ⟨[_],_,rfl,rfl,rfl⟩) λH36 k36 w36 s36 c36=>?_
      obtain ⟨l37,e37,hp⟩:=ah hp
      refine eA (aa eI eI) w36 (i:=0) (j:=1) (p:=p34) rfl rfl c36 (sv g34 (cE e35)) i34 e37 rfl rfl (λ_ h=>by obtain ⟨_,_,rfl,rfl,rfl⟩:=h;exact ⟨[_],_,rfl,rfl,rfl⟩) λH38 k38 w38 s38 c38=>?_
      obtain ⟨w39,s39⟩:=w38.pp [1,2,3,0,4,5,6] 7
      exact ih rfl rfl ((cE e35).symm.trans (cE e37).symm) rfl rfl ⟨w39,(s0.trans (s3.trans (s22.trans (s26.trans (s36.trans (s38.trans s39)))))),(Fh.step (s3.trans (s22.trans (s26.trans (s36.trans (s38.trans s39)))))),(Fi.step (s3.trans (s22.trans (s26.trans (s36.trans (s38.trans s39)))))),(c38.step s39),(kF.step (s3.trans (s22.trans (s26.trans (s36.trans (s38.trans s39)))))),(Fj.step (s3.trans (s22.trans (s26.trans (s36.trans (s38.trans s39))))))⟩ hp
  ·obtain ⟨w40,s40⟩:=w0.pp [0,1,2,3,4,5] 7
   exact hC61 rfl rfl rfl rfl rfl ⟨w40,(s0.trans s40),(Fh.step s40),(Fi.step s40),(kE.step s40),(kF.step s40),(Fj.step s40)⟩ hp
def aX.pl61 (F:Nat) :Nat->List (Int×Int)->List (Int×Int)->List (Int×Int×Int×Int×Int)->Int->Int->Option ((List (Int×Int))×(List (Int×Int))×Bool)
 | 0,_,_,_,_,_=>none
 | k+1,oe,og,ji,jy,gU=>(bif (decide (gU<jy)) then ((ix ji gU).bind λn1=>(dM.p F ((gt ji n1).1) ((gt ji n1).2.1) ((gt ji n1).2.2.1) ((gt ji n1).2.2.2.1)).bind λr8=>aX.pl3931 F (aX.pl61 F k) F oe og ji jy gU ((gt ji n1).2.2.2.2) gU r8.1 r8.2.1 r8.2.2.1 r8.2.2.2 0) else (some (oe,og,true)))
theorem aX.l61_P  :∀ k,aX.S61 H0 Ri R0  (aX.l61 F (bi.tw F) (dM.tw F) (dN.tw F) (dC.tw F)  k) (aX.pl61 F  k):=by
 intro k
 induction k with
 | zero=>unfold aX.S61;intros;rename_i hp;cases hp
 | succ k ih=>
  intro EA EB EC ED EE yk yl jx ym yn kW yo EF EG EH EI EJ EK EL oe og EM EN EO EP ji jy gU H Xl Xm Xn Xo Xp h0 r hp
  obtain ⟨w0,s0,Xq,Xr,Nh,Ni,Nj⟩:=h0
  subst Xl
  subst Xm
  subst Xn
  subst Xo
  subst Xp
  unfold aX.pl61 at hp
  unfold aX.l61
  refine ax hp (λhp=>?_) λhp=>?_
  ·obtain ⟨n1,g1,hp⟩:=ah hp
   obtain ⟨p1,q1,i1,h1,j1⟩:=ROs.ixr Nj rfl g1
   refine ai i1 ?_
   obtain ⟨_,_,rfl,rfl,_,_,rfl,rfl,_,_,rfl,rfl,_,_,rfl,rfl,rfl⟩:=h1
   refine ai (aH (j1 0 _ rfl)) ?_
   refine ai (aH (j1 1 _ rfl)) ?_
   refine ai (aH (j1 2 _ rfl)) ?_
   refine ai (aH (j1 3 _ rfl)) ?_
   refine ai (aH (j1 4 _ rfl)) ?_
   refine a_ w0 λH2 w2 s2=>?_
   refine aA w2 0 λH3 w3 s3=>?_
   refine aA w3 0 λH4 w4 s4=>?_
   refine aA w4 0 λH5 w5 s5=>?_
   refine aA w5 0 λH6 w6 s6=>?_
   refine aA w6 0 λH7 w7 s7=>?_
   refine lI w7 0 ?_
   refine lI w7 0 ?_
   refine lI w7 0 ?_
   refine lI w7 0 ?_
   refine lI w7 0 ?_
   obtain ⟨r8,e8,hp⟩:=ah hp
   refine aI (dM.P ⟨w7,trivial⟩ e8) ?_
   rintro _ H9 ⟨rfl,w9,s9,_⟩
   refine br (br (br (br (br (br (br (br (br ?_))))))))
   obtain ⟨w10,s10⟩:=w9.pp [1,2,3,4,5,6,0] 7
   exact aX.l3931_P (@ih) F rfl rfl rfl rfl rfl ⟨w10,(s0.trans (s2.trans (s3.trans (s4.trans (s5.trans (s6.trans (s7.trans (s9.trans s10)))))))),(Xq.step (s2.trans (s3.trans (s4.trans (s5.trans (s6.trans (s7.trans (s9.trans s10)))))))),(Xr.step (s2.trans (s3.trans (s4.trans (s5.trans (s6.trans (s7.trans (s9.trans s10)))))))),(Nh.step (s2.trans (s3.trans (s4.trans (s5.trans (s6.trans (s7.trans (s9.trans s10)))))))),(Ni.step (s2.trans (s3.trans (s4.trans (s5.trans (s6.trans (s7.trans (s9.trans s10)))))))),(Nj.step (s2.trans (s3.trans (s4.trans (s5.trans (s6.trans (s7.trans (s9.trans s10))))))))⟩ hp
  ·refine lSl w0 5 ?_
   refine lSl w0 5 ?_
   refine aA w0 2 λH11 w11 s11=>?_
   refine aA w11 2 λH12 w12 s12=>?_
   refine lSl w12 2 ?_
   refine lSl w12 2 ?_
   obtain ⟨w13,s13⟩:=w12.pp [3,4] 6
   exact aw hp ⟨_,_,_,_,_,_,_,_,rfl,rfl,rfl,w13,(s0.trans (s11.trans (s12.trans s13))),(Nh.step (s11.trans (s12.trans s13))),(Ni.step (s11.trans (s12.trans s13)))⟩
def aX.p (F:Nat) (af:abX):Option ((List (Int×Int))×(List (Int×Int))×Bool):=(bi.p F ([((-1),0)]:List (Int×Int)) (wrap .i64 (2 * (af.length:Int)))).bind λr5=>(bi.p F ([((-1),0)]:List (Int×Int)) (wrap .i64 (2 * (af.length:Int)))).bind λr10=>aX.pl61 F F r5 r10 af (af.length:Int) 0
theorem aX.P {ar aj au af ag} (aN:aj=af.length) (h0:Inn H R0 λR=>ROs (aa eI (aa eI (aa eI (aa eI eI)))) H R ⟨ar,aj,au⟩ af) {r:(List (Int×Int))×(List (Int×Int))×Bool} (hp:aX.p F af=some r):Rt (aX.tw F ⟨ar,aj,au⟩ ag H) (aX.Q H R0 R0  r):=by
 obtain ⟨w0,aG⟩:=h0
 subst aN
 unfold aX.p at hp
 unfold aX.tw aX.twX
 have s0:=w0.rf
 refine a_ w0 λH1 w1 s1=>?_
 refine a_ w1 λH2 w2 s2=>?_
 refine lSl w2 1 ?_
 refine cI (aa eI eI) w2 (n:=1) (l:=([((-1),0)]:List (Int×Int))) rfl (CR.cons (c:=[_,_]) ⟨[_],_,rfl,rfl,rfl⟩ CR.empty) rfl λH3 w3 s3 c3=>?_
 have f4:=W.borrow1 (aa eI eI) w3 c3
 obtain ⟨w4,s4⟩:=w3.right1
 obtain ⟨r5,e5,hp⟩:=ah hp
 refine aI (bi.P (show 1=List.length ([((-1),0)]:List (Int×Int)) from rfl) ⟨w4,f4⟩ e5) ?_
 rintro _ H6 ⟨o0a_6,o0n_6,o0k_6,rfl,rfl,w6,s6,f6_0⟩
 obtain ⟨w7,s7⟩:=W.frame1 w3 w6 s6
 refine br ?_
 refine cI (aa eI eI) w7 (n:=1) (l:=([((-1),0)]:List (Int×Int))) rfl (CR.cons (c:=[_,_]) ⟨[_],_,rfl,rfl,rfl⟩ CR.empty) rfl λH8 w8 s8 c8=>?_
 have f9:=W.borrow1 (aa eI eI) w8 c8
 obtain ⟨w9,s9⟩:=w8.right1
 obtain ⟨r10,e10,hp⟩:=ah hp
 refine aI (bi.P (show 1=List.length ([((-1),0)]:List (Int×Int)) from rfl) ⟨w9,f9⟩ e10) ?_
 rintro _ H11 ⟨o0a_11,o0n_11,o0k_11,rfl,rfl,w11,s11,f11_0⟩
 obtain ⟨w12,s12⟩:=W.frame1 w8 w11 s11
 refine br ?_
 refine a_ w12 λH13 w13 s13=>?_
 refine aA w13 0 λH14 w14 s14=>?_
 refine aA w14 0 λH15 w15 s15=>?_
 refine lSl w15 6 ?_
 obtain ⟨w16,s16⟩:=w15.nilS (aa eI eI).z (by decide)
 obtain ⟨w17,s17⟩:=w16.nilS (aa eI eI).z (by decide)
 obtain ⟨w18,s18⟩:=w17.pp [1,0,7,6,4,2] 9
 exact aX.l61_P F rfl rfl rfl rfl rfl ⟨w18,(s0.trans (s1.trans (s2.trans (s3.trans (s7.trans (s8.trans (s12.trans (s13.trans (s14.trans (s15.trans (s16.trans (s17.trans s18)))))))))))),((CR.empty:CR (aa eI eI) _ _ [] []).step (s17.trans s18)),((CR.empty:CR (aa eI eI) _ _ [] []).step s18),((CR.flat (QL (gE .i64) (gE .i64)) f6_0).step (s8.trans (s12.trans (s13.trans (s14.trans (s15.trans (s16.trans (s17.trans s18)))))))),((CR.flat (QL (gE .i64) (gE .i64)) f11_0).step (s13.trans (s14.trans (s15.trans (s16.trans (s17.trans s18)))))),(aG.step (s1.trans (s2.trans (s3.trans (s7.trans (s8.trans (s12.trans (s13.trans (s14.trans (s15.trans (s16.trans (s17.trans s18))))))))))))⟩ hp
def cV.Q (H0:Hp) (Ri R0:abR)  (r:acf) (v:AV) (H':Hp):Prop:=v=(.agg [(.i r.1),(.i r.2)])/\Out H0 Ri H' (R0) λR=>True
def cV.p (F:Nat) (af:abX) (eo:ab_) (bP:ab_) (ic:Int) (fw:Int):Option (Int×Int):=(ix af ic).bind λn5=>(dM.p F ((gt af n5).1) ((gt af n5).2.1) ((gt af n5).2.2.1) ((gt af n5).2.2.2.1)).bind λr12=>(if 0<=fw/\fw<(4:Int) then ((dN.p F ((gt af n5).2.2.2.2) fw).bind λr16=>(bif r16 then ((ix eo (gt ([r12.1,r12.2.1,r12.2.2.1,r12.2.2.2]:List Int) (fw:Int).toNat)).bind λn18=>some (((gt eo n18).1),((gt eo n18).2))) else ((ix bP (gt ([r12.1,r12.2.1,r12.2.2.1,r12.2.2.2]:List Int) (fw:Int).toNat)).bind λn22=>some (((gt bP n22).1),((gt bP n22).2))))) else none)
theorem cV.P {ar kf ff aj hG ec au kg fg af ag ic fw eo bP} (aN:aj=af.length) (oq:hG=eo.length) (iV:ec=bP.length) (h0:Inn H R0 λR=>ROs (aa eI (aa eI (aa eI (aa eI eI)))) H R ⟨ar,aj,au⟩ af/\ROs (aa eI eI) H R ⟨kf,hG,kg⟩ eo/\ROs (aa eI eI) H R ⟨ff,ec,fg⟩ bP) {r:acf} (hp:cV.p F af eo bP ic fw=some r):Rt (cV.tw F ⟨ar,aj,au⟩ ag ⟨kf,hG,kg⟩ ⟨ff,ec,fg⟩ ic fw H) (cV.Q H R0 R0  r):=by
 obtain ⟨w0,aG,ou,gC⟩:=h0
 subst aN
 subst oq
 subst iV
 unfold cV.p at hp
 unfold cV.tw cV.twX
 have s0:=w0.rf
 refine a_ w0 λH1 w1 s1=>?_
 refine a_ w1 λH2 w2 s2=>?_
 refine a_ w2 λH3 w3 s3=>?_
 refine a_ w3 λH4 w4 s4=>?_
 refine lSl w4 3 ?_
 refine lI w4 1 ?_
 obtain ⟨n5,g5,hp⟩:=ah hp
 obtain ⟨p5,q5,i5,h5,j5⟩:=ROs.ixr (aG.step (s1.trans (s2.trans (s3.trans s4)))) rfl g5
 refine ai i5 ?_
 obtain ⟨_,_,rfl,rfl,_,_,rfl,rfl,_,_,rfl,rfl,_,_,rfl,rfl,rfl⟩:=h5
 refine ai (aH (j5 0 _ rfl)) ?_
 refine ai (aH (j5 1 _ rfl)) ?_
 refine ai (aH (j5 2 _ rfl)) ?_
 refine ai (aH (j5 3 _ rfl)) ?_
 refine ai (aH (j5 4 _ rfl)) ?_
 refine a_ w4 λH6 w6 s6=>?_
 refine aA w6 0 λH7 w7 s7=>?_
 refine aA w7 0 λH8 w8 s8=>?_
 refine aA w8 0 λH9 w9 s9=>?_
 refine aA w9 0 λH10 w10 s10=>?_
 refine aA w10 0 λH11 w11 s11=>?_
 refine lI w11 0 ?_
 refine lI w11 0 ?_
 refine lI w11 0 ?_
 refine lI w11 0 ?_
 refine lI w11 0 ?_
 obtain ⟨r12,e12,hp⟩:=ah hp
 refine aI (dM.P ⟨w11,trivial⟩ e12) ?_
 rintro _ H13 ⟨rfl,w13,s13,_⟩
 refine br (br (br (br (br (br (br (br (br ?_))))))))
 refine fY (W.cons_of (Rn:=[]) w11 w13 s13) ?_
 refine lI w13 2 ?_
 obtain ⟨g15,hp⟩:=eW hp
 refine fY g15 ?_
 refine ai (a:=AV.int .i64 (gt ([r12.1,r12.2.1,r12.2.2.1,r12.2.2.2]:List Int) (fw:Int).toNat)) (by rw [Nat.mul_one];exact QK (k:=.i64) (l:=[r12.1,r12.2.1,r12.2.2.1,r12.2.2.2]) rfl (by have:=g15;simp only [List.length_cons,List.length_nil];omega)) ?_
 refine br ?_
 refine lI w13 0 ?_
 refine lI w13 0 ?_
 refine lI w13 0 ?_
 refine lI w13 0 ?_
 refine lI w13 0 ?_
 refine lI w13 2 ?_
 obtain ⟨r16,e16,hp⟩:=ah hp
 refine aI (dN.P ⟨w13,trivial⟩ e16) ?_
 rintro _ H17 ⟨rfl,w17,s17,_⟩
 refine br ?_
 refine ax hp (λhp=>?_) λhp=>?_
 ·refine lSl w17 3 ?_
  obtain ⟨n18,g18,hp⟩:=ah hp
  obtain ⟨p18,q18,i18,h18,j18⟩:=ROs.ixr (ou.step (s1.trans (s2.trans (s3.trans (s4.trans (s6.trans (s7.trans (s8.trans (s9.trans (s10.trans (s11.trans (s13.trans s17)))))))))))) rfl g18
  refine ai i18 ?_
  obtain ⟨_,_,rfl,rfl,rfl⟩:=h18
  refine ai (aH (j18 0 _ rfl)) ?_
  refine ai (aH (j18 1 _ rfl)) ?_
  refine aA w17 1 λH19 w19 s19=>?_
  refine aA w19 1 λH20 w20 s20=>?_
  refine lI w20 1 ?_
  refine lI w20 1 ?_
  obtain ⟨w21,s21⟩:=w20.pp [] 5
  exact aw hp ⟨rfl,w21,(s0.trans (s1.trans (s2.trans (s3.trans (s4.trans (s6.trans (s7.trans (s8.trans (s9.trans (s10.trans (s11.trans (s13.trans (s17.trans (s19.trans (s20.trans s21))))))))))))))),trivial⟩
 ·refine lSl w17 3 ?_
  obtain ⟨n22,g22,hp⟩:=ah hp
  obtain ⟨p22,q22,i22,h22,j22⟩:=ROs.ixr (gC.step (s1.trans (s2.trans (s3.trans (s4.trans (s6.trans (s7.trans (s8.trans (s9.trans (s10.trans (s11.trans (s13.trans s17)))))))))))) rfl g22
  refine ai i22 ?_
  obtain ⟨_,_,rfl,rfl,rfl⟩:=h22
  refine ai (aH (j22 0 _ rfl)) ?_
  refine ai (aH (j22 1 _ rfl)) ?_
  refine aA w17 1 λH23 w23 s23=>?_
  refine aA w23 1 λH24 w24 s24=>?_
  refine lI w24 1 ?_
  refine lI w24 1 ?_
  obtain ⟨w25,s25⟩:=w24.pp [] 5
  exact aw hp ⟨rfl,w25,(s0.trans (s1.trans (s2.trans (s3.trans (s4.trans (s6.trans (s7.trans (s8.trans (s9.trans (s10.trans (s11.trans (s13.trans (s17.trans (s23.trans (s24.trans s25))))))))))))))),trivial⟩
def aD.Q (H0:Hp) (Ri R0:abR)  (r:ab2) (v:AV) (H':Hp):Prop:=∃ o0a:ON,∃ o0n:Nat,∃ o0c:Cap,∃ o0k:List AV,v=(.sl ⟨o0a,o0n,o0c⟩)/\o0n=(r).length/\Out H0 Ri H' (Rs.own ⟨o0a,o0n,o0c⟩ (eSl eI).z o0k::R0) λR=>CR (eSl eI) H' R o0k (r)
def aD.S61 (H0:Hp) (Ri R0:abR)  (C:ach) (pC:ack):Prop:=∀ {Fk Fl Fm Fo Fp yv nl yw yx nm yy yz Fq Fs Ft Fu Fv rX Nk gA ev rY rZ ov Fw Fx r_},∀ {H:Hp},yv=rX.length->yw=rY.length->yx=rZ.length->yy=ov.length->yz=r_.length->(Out H0 Ri H (Rs.blk nl [.sl ⟨Fk,yv,Fq⟩,.i Nk]::Rs.blk nm [.sl ⟨Fl,yw,Fs⟩,.sl ⟨Fm,yx,Ft⟩]::Rs.own ⟨Fo,yy,Fu⟩ (eSl eI).z Fw::Rs.own ⟨Fp,yz,Fv⟩ b_.z Fx::R0) λR=>ROs (aa eI (aa eI (aa eI (aa eI eI)))) H R ⟨Fk,yv,Fq⟩ rX/\ROs (aa eI eI) H R ⟨Fl,yw,Fs⟩ rY/\ROs (aa eI eI) H R ⟨Fm,yx,Ft⟩ rZ/\CR (eSl eI) H R Fw ov/\CR b_ H R Fx r_)->∀ {r:ab2},pC rX rY rZ ov r_ gA ev=some r->Rt (C nl 0 nm 0 ⟨Fo,yy,Fu⟩ ⟨Fp,yz,Fv⟩ gA ev H) (aD.Q H0 Ri R0  r)
def aD.S15725 (H0:Hp) (Ri R0:abR)  (C:Nat->Nat->Nat->Nat->Sl->Sl->Int->Int->Sl->Int->Hp->OA) (pC:List (Int×Int×Int×Int×Int)->List (Int×Int)->List (Int×Int)->List (List Int)->List Bool->Int->Int->List Int->Int->Option (List (List Int))):Prop:=∀ {Fy Fz FA FB FC FD yA ku yB yC kv yD yE yF FE FG FH FI FJ FK mC Nl jz jA fx mD mE ox FL FM FN kG oy},∀ {H:Hp},yA=mC.length->yB=mD.length->yC=mE.length->yD=ox.length->yE=kG.length->yF=oy.length->(Out H0 Ri H (Rs.blk ku [.sl ⟨Fy,yA,FE⟩,.i Nl]::Rs.blk kv [.sl ⟨Fz,yB,FG⟩,.sl ⟨FA,yC,FH⟩]::Rs.own ⟨FB,yD,FI⟩ (eSl eI).z FL::Rs.own ⟨FC,yE,FJ⟩ b_.z FM::Rs.own ⟨FD,yF,FK⟩ eI.z FN::R0) λR=>ROs (aa eI (aa eI (aa eI (aa eI eI)))) H R ⟨Fy,yA,FE⟩ mC/\ROs (aa eI eI) H R ⟨Fz,yB,FG⟩ mD/\ROs (aa eI eI) H R ⟨FA,yC,FH⟩ mE/\CR (eSl eI) H R FL ox/\CR b_ H R FM kG/\CR eI H R FN oy)->∀ {r:ab2},pC mC mD mE ox kG jz jA oy fx=some r->Rt (C ku 0 kv 0 ⟨FB,yD,FI⟩ ⟨FC,yE,FJ⟩ jz jA ⟨FD,yF,FK⟩ fx H) (aD.Q H0 Ri R0  r)
def aD.pj4 (F:Nat) (az:ack) (uD:abX) (uE:ab_) (uF:ab_) (uG:ab2) (uH:acD) (qt:Int) (qu:Int):Option (List (List Int)):=az uD uE uF uG uH qt (wrap .i64 (qu+1))
theorem aD.j4_P  {C61_:ach} {az:ack} (hC61:aD.S61 H0 Ri R0  C61_ az) {Nm Nn No Np Nq FO v_ FP FQ wa FR FS Nr Ns Nt Nu Nv uD Xs qt qu uE uF uG Nw Nx uH} (Xt:FO=uD.length) (Xu:FP=uE.length) (Xv:FQ=uF.length) (Xw:FR=uG.length) (Xx:FS=uH.length) (h0:Out H0 Ri H (Rs.blk v_ [.sl ⟨Nm,FO,Nr⟩,.i Xs]::Rs.blk wa [.sl ⟨Nn,FP,Ns⟩,.sl ⟨No,FQ,Nt⟩]::Rs.own ⟨Np,FR,Nu⟩ (eSl eI).z Nw::Rs.own ⟨Nq,FS,Nv⟩ b_.z Nx::R0) λR=>ROs (aa eI (aa eI (aa eI (aa eI eI)))) H R ⟨Nm,FO,Nr⟩ uD/\ROs (aa eI eI) H R ⟨Nn,FP,Ns⟩ uE/\ROs (aa eI eI) H R ⟨No,FQ,Nt⟩ uF/\CR (eSl eI) H R Nw uG/\CR b_ H R Nx uH) {r:ab2} (hp:aD.pj4 F az uD uE uF uG uH qt qu=some r):Rt (aD.j4 F (cV.tw F) C61_ v_ 0 wa 0 ⟨Np,FR,Nu⟩ ⟨Nq,FS,Nv⟩ qt qu H) (aD.Q H0 Ri R0  r):=by
 obtain ⟨w0,s0,Xy,Xz,XA,XB,XC⟩:=h0
 subst Xt
 subst Xu
 subst Xv
 subst Xw
 subst Xx
 unfold aD.pj4 at hp
 unfold aD.j4
 exact hC61 rfl rfl rfl rfl rfl ⟨w0,s0,Xy,Xz,XA,XB,XC⟩ hp
def aD.pj5 (F:Nat) (az:ack) (uI:abX) (uJ:ab_) (uK:ab_) (uL:ab2) (uM:acD) (qv:Int) (qw:Int):Option (List (List Int)):=aD.pj4 F az uI uJ uK uL uM qv qw
theorem aD.j5_P  {C61_:ach} {az:ack} (hC61:aD.S61 H0 Ri R0  C61_ az) {Ny Nz NA NB NC FT wb FU FV pm FW FX NE NF NG NH NI uI XD qv qw uJ uK uL NJ NK uM} (XE:FT=uI.length) (XF:FU=uJ.length) (XG:FV=uK.length) (XH:FW=uL.length) (XI:FX=uM.length) (h0:Out H0 Ri H (Rs.blk wb [.sl ⟨Ny,FT,NE⟩,.i XD]::Rs.blk pm [.sl ⟨Nz,FU,NF⟩,.sl ⟨NA,FV,NG⟩]::Rs.own ⟨NB,FW,NH⟩ (eSl eI).z NJ::Rs.own ⟨NC,FX,NI⟩ b_.z NK::R0) λR=>ROs (aa eI (aa eI (aa eI (aa eI eI)))) H R ⟨Ny,FT,NE⟩ uI/\ROs (aa eI eI) H R ⟨Nz,FU,NF⟩ uJ/\ROs (aa eI eI) H R ⟨NA,FV,NG⟩ uK/\CR (eSl eI) H R NJ uL/\CR b_ H R NK uM) {r:ab2} (hp:aD.pj5 F az uI uJ uK uL uM qv qw=some r):Rt (aD.j5 F (cV.tw F) C61_ wb 0 pm 0 ⟨NB,FW,NH⟩ ⟨NC,FX,NI⟩ qv qw H) (aD.Q H0 Ri R0  r):=by
 obtain ⟨w0,s0,XJ,XK,XL,XM,XN⟩:=h0
 subst XE
 subst XF
 subst XG
 subst XH
 subst XI
 unfold aD.pj5 at hp
 unfold aD.j5
 exact aD.j4_P (@hC61) rfl rfl rfl rfl rfl ⟨w0,s0,XJ,XK,XL,XM,XN⟩ hp
def aD.pj6 (F:Nat) (az:ack) (sb:abX) (sd:ab_) (sf:ab_) (si:ab2) (sj:acD) (mF:abU) (mc:Int) (md:Int):Option (List (List Int)):=(bif (decide ((mF.length:Int)>0)) then ((apn si ([mF]:List (List Int))).bind λl3=>aD.pj5 F az sb sd sf l3 sj mc md) else (aD.pj5 F az sb sd sf si sj mc md))
theorem aD.j6_P  {C61_:ach} {az:ack} (hC61:aD.S61 H0 Ri R0  C61_ az) {NL NM NN NO NP NQ FY tc FZ F_ td Ga Gb Gc NR NS NT NU NV NW sb XO mc md sd sf si NX NY NZ sj mF} (XP:FY=sb.length) (XQ:FZ=sd.length) (XR:F_=sf.length) (XS:Ga=si.length) (XT:Gb=sj.length) (XU:Gc=mF.length) (h0:Out H0 Ri H (Rs.blk tc [.sl ⟨NL,FY,NR⟩,.i XO]::Rs.blk td [.sl ⟨NM,FZ,NS⟩,.sl ⟨NN,F_,NT⟩]::Rs.own ⟨NO,Ga,NU⟩ (eSl eI).z NX::Rs.own ⟨NP,Gb,NV⟩ b_.z NY::Rs.own ⟨NQ,Gc,NW⟩ eI.z NZ::R0) λR=>ROs (aa eI (aa eI (aa eI (aa eI eI)))) H R ⟨NL,FY,NR⟩ sb/\ROs (aa eI eI) H R ⟨NM,FZ,NS⟩ sd/\ROs (aa eI eI) H R ⟨NN,F_,NT⟩ sf/\CR (eSl eI) H R NX si/\CR b_ H R NY sj/\CR eI H R NZ mF) {r:ab2} (hp:aD.pj6 F az sb sd sf si sj mF mc md=some r):Rt (aD.j6 F (cV.tw F) C61_ tc 0 td 0 ⟨NO,Ga,NU⟩ ⟨NP,Gb,NV⟩ ⟨NQ,Gc,NW⟩ mc md H) (aD.Q H0 Ri R0  r):=by
 obtain ⟨w0,s0,N_,Oa,Ob,Oc,Od,XV⟩:=h0
 subst XP
 subst XQ
 subst XR
 subst XS
 subst XT
 subst XU
 unfold aD.pj6 at hp
 unfold aD.j6
 refine ax hp (λhp=>?_) λhp=>?_
 ·obtain ⟨w1,s1,f1⟩:=w0.frz (i:=4) eI rfl XV
  refine cI (eSl eI) w1 (n:=1) (l:=([mF]:List (List Int))) rfl (CR.cons1 ⟨_,rfl,f1⟩ CR.empty) rfl λH2 w2 s2 c2=>?_
  refine ai (w2.rowo (i:=0) rfl) ?_
  obtain ⟨l3,e3,hp⟩:=ah hp
  refine gD (eSl eI) w2 (i:=3) rfl rfl (Oc.step (s1.trans s2)) c2 (show 1=List.length ([mF]:List (List Int)) from rfl) rfl e3 λa4 d4 H4 w4 s4 c4 x4=>?_
  obtain ⟨w5,s5⟩:=w4.pp [1,2,3,4] 5
  exact aD.j5_P (@hC61) rfl rfl rfl rfl rfl ⟨w5,(s0.trans (s1.trans (s2.trans (s4.trans s5)))),(N_.step (s1.trans (s2.trans (s4.trans s5)))),(Oa.step (s1.trans (s2.trans (s4.trans s5)))),(Ob.step (s1.trans (s2.trans (s4.trans s5)))),(c4.step s5),(Od.step (s1.trans (s2.trans (s4.trans s5))))⟩ hp
 ·obtain ⟨w6,s6⟩:=w0.pp [0,1,2,3] 5
  exact aD.j5_P (@hC61) rfl rfl rfl rfl rfl ⟨w6,(s0.trans s6),(N_.step s6),(Oa.step s6),(Ob.step s6),(Oc.step s6),(Od.step s6)⟩ hp
def aD.pl15725 (F:Nat) (az:ack):Nat->List (Int×Int×Int×Int×Int)->List (Int×Int)->List (Int×Int)->List (List Int)->List Bool->Int->Int->List Int->Int->Option (List (List Int))
 | 0,_,_,_,_,_,_,_,_,_=>none
 | k+1,mC,mD,mE,ox,kG,jz,jA,oy,fx=>(ix kG fx).bind λn1=>(bif (!(gt kG n1)) then ((ix kG fx).bind λn2=>(some (kG.set n2 true)).bind λl3=>(apn oy ([fx]:List Int)).bind λl6=>(cV.p F mC mD mE (wrap .i64 (Int.tdiv fx 4)) (Int.tmod (wrap .i64 (fx+1)) 4)).bind λr8=>aD.pl15725 F az k mC mD mE ox l3 jz jA l6 (wrap .i64 ((wrap .i64 (4 * r8.1))+r8.2))) else (aD.pj6 F az mC mD mE ox kG oy jz jA))
theorem aD.l15725_P  {C61_:ach} {az:ack} (hC61:aD.S61 H0 Ri R0  C61_ az):∀ k,aD.S15725 H0 Ri R0  (aD.l15725 F (cV.tw F) C61_ k) (aD.pl15725 F az k):=by
 intro k
 induction k with
 | zero=>unfold aD.S15725;intros;rename_i hp;cases hp
 | succ k ih=>
  intro Fy Fz FA FB FC FD yA ku yB yC kv yD yE yF FE FG FH FI FJ FK mC Nl jz jA fx mD mE ox FL FM FN kG oy H XW XX XY XZ X_ Ya h0 r hp
  obtain ⟨w0,s0,Gd,Ge,Gf,Oe,yG,Of⟩:=h0
  subst XW
  subst XX
  subst XY
  subst XZ
  subst X_
  subst Ya
  unfold aD.pl15725 at hp
  unfold aD.l15725
  obtain ⟨n1,g1,hp⟩:=ah hp
  obtain ⟨p1,q1,i1,h1,j1⟩:=W.ixo (E:=b_) w0 (i:=3) rfl rfl yG g1
  refine ai i1 ?_
  have h1:_=[_]:=h1
  subst h1
  refine ai (sw (j1 0 _ rfl)) ?_
  refine ax hp (λhp=>?_) λhp=>?_
  ·obtain ⟨n2,g2,hp⟩:=ah hp
   obtain ⟨p2,q2,i2,h2,j2⟩:=W.ixo (E:=b_) w0 (i:=3) rfl rfl yG g2
   refine ai i2 ?_
   obtain ⟨l3,e3,hp⟩:=ah hp
   refine eA b_ w0 (i:=3) (j:=0) (p:=p2) rfl rfl yG g2 i2 e3 rfl rfl (λ_ h=>by have h:_=[_]:=h;subst h;exact rfl) λH4 k4 w4 s4 c4=>?_
   refine cI eI w4 (n:=1) (l:=([fx]:List Int)) rfl (CR.cons1 rfl CR.empty) rfl λH5 w5 s5 c5=>?_
   refine ai (w5.rowo (i:=0) rfl) ?_
   obtain ⟨l6,e6,hp⟩:=ah hp
   refine gD eI w5 (i:=5) rfl rfl (Of.step (s4.trans s5)) c5 (show 1=List.length ([fx]:List Int) from rfl) rfl e6 λa7 d7 H7 w7 s7 c7 x7=>?_
   refine lSl w7 1 ?_
   refine lI w7 1 ?_
   refine lSl w7 2 ?_
   refine lSl w7 2 ?_
   obtain ⟨r8,e8,hp⟩:=ah hp
   refine aI (cV.P rfl rfl rfl ⟨w7,(Gd.step (s4.trans (s5.trans s7))),(Ge.step (s4.trans (s5.trans s7))),(Gf.step (s4.trans (s5.trans s7)))⟩ e8) ?_
   rintro _ H9 ⟨rfl,w9,s9,_⟩
   refine br (br (br (br (br ?_))))
   refine a_ w9 λH10 w10 s10=>?_
   refine aA w10 0 λH11 w11 s11=>?_
   refine aA w11 0 λH12 w12 s12=>?_
   refine lI w12 0 ?_
   refine lI w12 0 ?_
   obtain ⟨w13,s13⟩:=w12.pp [2,3,4,5,6] 7
   exact ih rfl rfl rfl rfl ((cE e3).symm) rfl ⟨w13,(s0.trans (s4.trans (s5.trans (s7.trans (s9.trans (s10.trans (s11.trans (s12.trans s13)))))))),(Gd.step (s4.trans (s5.trans (s7.trans (s9.trans (s10.trans (s11.trans (s12.trans s13)))))))),(Ge.step (s4.trans (s5.trans (s7.trans (s9.trans (s10.trans (s11.trans (s12.trans s13)))))))),(Gf.step (s4.trans (s5.trans (s7.trans (s9.trans (s10.trans (s11.trans (s12.trans s13)))))))),(Oe.step (s4.trans (s5.trans (s7.trans (s9.trans (s10.trans (s11.trans (s12.trans s13)))))))),(c4.step (s5.trans (s7.trans (s9.trans (s10.trans (s11.trans (s12.trans s13))))))),(c7.step (s9.trans (s10.trans (s11.trans (s12.trans s13)))))⟩ hp
  ·exact aD.j6_P (@hC61) rfl rfl rfl rfl rfl rfl ⟨w0,s0,Gd,Ge,Gf,Oe,yG,Of⟩ hp
def aD.pl61 (F:Nat) :Nat->List (Int×Int×Int×Int×Int)->List (Int×Int)->List (Int×Int)->List (List Int)->List Bool->Int->Int->Option (List (List Int))
 | 0,_,_,_,_,_,_,_=>none
 | k+1,rX,rY,rZ,ov,r_,gA,ev=>(bif (decide (ev<gA)) then (aD.pl15725 F (aD.pl61 F k) F rX rY rZ ov r_ gA ev ([]:List Int) ev) else (some ov))
theorem aD.l61_P  :∀ k,aD.S61 H0 Ri R0  (aD.l61 F (cV.tw F)  k) (aD.pl61 F  k):=by
 intro k
 induction k with
 | zero=>unfold aD.S61;intros;rename_i hp;cases hp
 | succ k ih=>
  intro Fk Fl Fm Fo Fp yv nl yw yx nm yy yz Fq Fs Ft Fu Fv rX Nk gA ev rY rZ ov Fw Fx r_ H Yb Yc Yd Ye Yf h0 r hp
  obtain ⟨w0,s0,Yg,Yh,Yi,Og,Yj⟩:=h0
  subst Yb
  subst Yc
  subst Yd
  subst Ye
  subst Yf
  unfold aD.pl61 at hp
  unfold aD.l61
  refine ax hp (λhp=>?_) λhp=>?_
  ·obtain ⟨w1,s1⟩:=w0.nilS eI.z (by decide)
   obtain ⟨w2,s2⟩:=w1.pp [1,2,3,4,0] 5
   exact aD.l15725_P (@ih) F rfl rfl rfl rfl rfl rfl ⟨w2,(s0.trans (s1.trans s2)),(Yg.step (s1.trans s2)),(Yh.step (s1.trans s2)),(Yi.step (s1.trans s2)),(Og.step (s1.trans s2)),(Yj.step (s1.trans s2)),((CR.empty:CR eI _ _ [] []).step s2)⟩ hp
  ·obtain ⟨w3,s3⟩:=w0.pp [2] 4
   exact aw hp ⟨_,_,_,_,rfl,rfl,w3,(s0.trans s3),(Og.step s3)⟩
def aD.p (F:Nat) (af:abX) (eo:ab_) (bP:ab_):Option (List (List Int)):=(mkn (wrap .i64 (4 * (af.length:Int))) false).bind λl3=>aD.pl61 F F af eo bP ([]:List (List Int)) l3 (l3.length:Int) 0
theorem aD.P {ar kf ff aj hG ec au kg fg af ag eo bP} (aN:aj=af.length) (oq:hG=eo.length) (iV:ec=bP.length) (h0:Inn H R0 λR=>ROs (aa eI (aa eI (aa eI (aa eI eI)))) H R ⟨ar,aj,au⟩ af/\ROs (aa eI eI) H R ⟨kf,hG,kg⟩ eo/\ROs (aa eI eI) H R ⟨ff,ec,fg⟩ bP) {r:ab2} (hp:aD.p F af eo bP=some r):Rt (aD.tw F ⟨ar,aj,au⟩ ag ⟨kf,hG,kg⟩ ⟨ff,ec,fg⟩ H) (aD.Q H R0 R0  r):=by
 obtain ⟨w0,aG,ou,gC⟩:=h0
 subst aN
 subst oq
 subst iV
 unfold aD.p at hp
 unfold aD.tw aD.twX
 have s0:=w0.rf
 refine a_ w0 λH1 w1 s1=>?_
 refine a_ w1 λH2 w2 s2=>?_
 refine lSl w2 1 ?_
 obtain ⟨l3,e3,hp⟩:=ah hp
 refine mN b_ false w2 rfl rfl rfl e3 λH4 k4 w4 s4 c4=>?_
 obtain ⟨w5,s5⟩:=w4.nilS (eSl eI).z (by decide)
 obtain ⟨w6,s6⟩:=w5.pp [3,2,0,1] 4
 exact aD.l61_P F rfl rfl rfl rfl rfl ⟨w6,(s0.trans (s1.trans (s2.trans (s4.trans (s5.trans s6))))),(aG.step (s1.trans (s2.trans (s4.trans (s5.trans s6))))),(ou.step (s1.trans (s2.trans (s4.trans (s5.trans s6))))),(gC.step (s1.trans (s2.trans (s4.trans (s5.trans s6))))),((CR.empty:CR (eSl eI) _ _ [] []).step s6),(c4.step (s5.trans s6))⟩ hp
def fy.Q (H0:Hp) (Ri R0:abR)  (r:Int) (v:AV) (H':Hp):Prop:=v=(.i r)/\Out H0 Ri H' (R0) λR=>True
def fy.p (F:Nat) (af:ab2):Option (Int):=some (af.length:Int)
theorem fy.P {ar aj au af} (aN:aj=af.length) (h0:Inn H R0 λR=>ROs (eSl eI) H R ⟨ar,aj,au⟩ af) {r:Int} (hp:fy.p F af=some r):Rt (fy.tw F ⟨ar,aj,au⟩ H) (fy.Q H R0 R0  r):=by
 obtain ⟨w0,aG⟩:=h0
 subst aN
 unfold fy.p at hp
 unfold fy.tw fy.twX
 have s0:=w0.rf
 exact aw hp ⟨rfl,w0,s0,trivial⟩
def bB.Q (H0:Hp) (Ri R0:abR)  (r:abU) (v:AV) (H':Hp):Prop:=∃ o0a:ON,∃ o0n:Nat,∃ o0c:Cap,∃ o0k:List AV,v=(.sl ⟨o0a,o0n,o0c⟩)/\o0n=(r).length/\Out H0 Ri H' (Rs.own ⟨o0a,o0n,o0c⟩ eI.z o0k::R0) λR=>CR eI H' R o0k (r)
def bB.S29 (H0:Hp) (Ri R0:abR)  (C:abY) (pC:List Int->Int->Int->Option (List Int)):Prop:=∀ {Gg yH Gh oz Gi jB gV},∀ {H:Hp},yH=oz.length->(Out H0 Ri H (Rs.own ⟨Gg,yH,Gh⟩ eI.z Gi::R0) λR=>CR eI H R Gi oz)->∀ {r:abU},pC oz jB gV=some r->Rt (C ⟨Gg,yH,Gh⟩ jB gV H) (bB.Q H0 Ri R0  r)
def bB.pl29 (F:Nat) :Nat->List Int->Int->Int->Option (List Int)
 | 0,_,_,_=>none
 | k+1,oz,jB,gV=>(bif (decide (gV<jB)) then ((apn oz ([gV]:List Int)).bind λl2=>bB.pl29 F k l2 jB (wrap .i64 (gV+1))) else (some oz))
theorem bB.l29_P  :∀ k,bB.S29 H0 Ri R0  (bB.l29 F   k) (bB.pl29 F  k):=by
 intro k
 induction k with
 | zero=>unfold bB.S29;intros;rename_i hp;cases hp
 | succ k ih=>
  intro Gg yH Gh oz Gi jB gV H Yk h0 r hp
  obtain ⟨w0,s0,Oh⟩:=h0
  subst Yk
  unfold bB.pl29 at hp
  unfold bB.l29
  refine ax hp (λhp=>?_) λhp=>?_
  ·refine cI eI w0 (n:=1) (l:=([gV]:List Int)) rfl (CR.cons1 rfl CR.empty) rfl λH1 w1 s1 c1=>?_
   refine ai (w1.rowo (i:=0) rfl) ?_
   obtain ⟨l2,e2,hp⟩:=ah hp
   refine gD eI w1 (i:=1) rfl rfl (Oh.step s1) c1 (show 1=List.length ([gV]:List Int) from rfl) rfl e2 λa3 d3 H3 w3 s3 c3 x3=>?_
   obtain ⟨w4,s4⟩:=w3.pp [1] 2
   exact ih rfl ⟨w4,(s0.trans (s1.trans (s3.trans s4))),(c3.step s4)⟩ hp
  ·exact aw hp ⟨_,_,_,_,rfl,rfl,w0,s0,Oh⟩
def bB.p (F:Nat) (ac:Int):Option (List Int):=bB.pl29 F F ([]:List Int) ac 0
theorem bB.P {ac}  (h0:Inn H R0 λR=>True) {r:abU} (hp:bB.p F ac=some r):Rt (bB.tw F ac H) (bB.Q H R0 R0  r):=by
 obtain ⟨w0,_⟩:=h0
 unfold bB.p at hp
 unfold bB.tw bB.twX
 have s0:=w0.rf
 obtain ⟨w1,s1⟩:=w0.nilS eI.z (by decide)
 exact bB.l29_P F rfl ⟨w1,(s0.trans s1),(CR.empty:CR eI _ _ [] [])⟩ hp
def bf.Q (H0:Hp) (Ri R0:abR) (ar:ON) (aj:Nat) (au:Cap) (cP:Bool) (cQ cR:ab0) (r:abU) (v:AV) (H':Hp):Prop:=∃ gz:List AV,v=(.tup [])/\aj=(r).length/\Out H0 Ri H' (Rs.ow cP ⟨ar,aj,au⟩ eI.z cQ gz cR::R0) λR=>CR eI H' R gz (r)
def bf.S7 (H0:Hp) (Ri R0:abR) (eE:ON) (dU:Nat) (eF:Cap) (fU:Bool) (fV fW:ab0) (C:acK) (pC:acS):Prop:=∀ {eP Gj dp iI iJ gn},∀ {H:Hp},dU=eP.length->(Out H0 Ri H (Rs.ow fU ⟨eE,dU,eF⟩ eI.z fV Gj fW::R0) λR=>CR eI H R Gj eP)->∀ {r:abU},pC eP dp iI iJ gn=some r->Rt (C ⟨eE,dU,eF⟩ dp iI ⟨eE,dU,eF⟩ iJ gn H) (bf.Q H0 Ri R0 eE dU eF fU fV fW r)
def bf.pj2 (F:Nat) (yI:acS) (uN:abU) (qA:Int) (qB:Int) (qC:Int) (qD:Int):Option (List Int):=yI uN qA qB qC (wrap .i64 (qD+1))
theorem bf.j2_P {eE dU eF fU fV fW} {C7_:acK} {yI:acS} (hC7:bf.S7 H0 Ri R0 eE dU eF fU fV fW C7_ yI) {uN Oi qA qB qC qD} (Yl:dU=uN.length) (h0:Out H0 Ri H (Rs.ow fU ⟨eE,dU,eF⟩ eI.z fV Oi fW::R0) λR=>CR eI H R Oi uN) {r:abU} (hp:bf.pj2 F yI uN qA qB qC qD=some r):Rt (bf.j2 F  C7_ ⟨eE,dU,eF⟩ qA qB ⟨eE,dU,eF⟩ qC qD H) (bf.Q H0 Ri R0 eE dU eF fU fV fW r):=by
 obtain ⟨w0,s0,Ym⟩:=h0
 subst Yl
 unfold bf.pj2 at hp
 unfold bf.j2
 exact hC7 rfl ⟨w0,s0,Ym⟩ hp
def bf.pl7 (F:Nat) :Nat->List Int->Int->Int->Int->Int->Option (List Int)
 | 0,_,_,_,_,_=>none
 | k+1,eP,dp,iI,iJ,gn=>(bif (decide (gn<iJ)) then ((ix eP gn).bind λn1=>(bif ((gt eP n1)==dp) then ((ix eP gn).bind λn2=>(some (eP.set n2 iI)).bind λl3=>bf.pj2 F (bf.pl7 F k) l3 dp iI iJ gn) else (bf.pj2 F (bf.pl7 F k) eP dp iI iJ gn))) else (some eP))
theorem bf.l7_P {eE dU eF fU fV fW} :∀ k,bf.S7 H0 Ri R0 eE dU eF fU fV fW (bf.l7 F   k) (bf.pl7 F  k):=by
 intro k
 induction k with
 | zero=>unfold bf.S7;intros;rename_i hp;cases hp
 | succ k ih=>
  intro eP Gj dp iI iJ gn H Gk h0 r hp
  obtain ⟨w0,s0,mG⟩:=h0
  subst Gk
  unfold bf.pl7 at hp
  unfold bf.l7
  refine ax hp (λhp=>?_) λhp=>?_
  ·obtain ⟨n1,g1,hp⟩:=ah hp
   obtain ⟨p1,q1,i1,h1,j1⟩:=W.ixo (E:=eI) w0 (i:=0) rfl rfl mG g1
   refine ai i1 ?_
   have h1:_=[_]:=h1
   subst h1
   refine ai (aH (j1 0 _ rfl)) ?_
   refine ax hp (λhp=>?_) λhp=>?_
   ·obtain ⟨n2,g2,hp⟩:=ah hp
    obtain ⟨p2,q2,i2,h2,j2⟩:=W.ixo (E:=eI) w0 (i:=0) rfl rfl mG g2
    refine ai i2 ?_
    obtain ⟨l3,e3,hp⟩:=ah hp
    refine eA eI w0 (i:=0) (j:=0) (p:=p2) rfl rfl mG g2 i2 e3 rfl rfl (λ_ h=>by have h:_=[_]:=h;subst h;exact rfl) λH4 k4 w4 s4 c4=>?_
    exact bf.j2_P (@ih) ((cE e3).symm) ⟨w4,(s0.trans s4),c4⟩ hp
   ·exact bf.j2_P (@ih) rfl ⟨w0,s0,mG⟩ hp
  ·exact aw hp ⟨_,rfl,rfl,w0,s0,mG⟩
def bf.p (F:Nat) (af:abU) (aq:Int) (dy:Int):Option (List Int):=(ix af dy).bind λn1=>(ix af aq).bind λn2=>bf.pl7 F F af (gt af n1) (gt af n2) (af.length:Int) 0
theorem bf.P {ar aj au af cP cQ cR ez aq dy} (aN:aj=af.length) (h0:Inn H (Rs.ow cP ⟨ar,aj,au⟩ eI.z cQ ez cR::R0) λR=>CR eI H R ez af) {r:abU} (hp:bf.p F af aq dy=some r):Rt (bf.tw F ⟨ar,aj,au⟩ aq dy H) (bf.Q H (Rs.ow cP ⟨ar,aj,au⟩ eI.z cQ ez cR::R0) R0 ar aj au cP cQ cR r):=by
 obtain ⟨w0,aG⟩:=h0
 subst aN
 unfold bf.p at hp
 unfold bf.tw bf.twX
 have s0:=w0.rf
 obtain ⟨n1,g1,hp⟩:=ah hp
 obtain ⟨p1,q1,i1,h1,j1⟩:=W.ixo (E:=eI) w0 (i:=0) rfl rfl aG g1
 refine ai i1 ?_
 have h1:_=[_]:=h1
 subst h1
 refine ai (aH (j1 0 _ rfl)) ?_
 obtain ⟨n2,g2,hp⟩:=ah hp
 obtain ⟨p2,q2,i2,h2,j2⟩:=W.ixo (E:=eI) w0 (i:=0) rfl rfl aG g2
 refine ai i2 ?_
 have h2:_=[_]:=h2
 subst h2
 refine ai (aH (j2 0 _ rfl)) ?_
 exact bf.l7_P F rfl ⟨w0,s0,aG⟩ hp
def ct.Q (H0:Hp) (Ri R0:abR)  (r:abU) (v:AV) (H':Hp):Prop:=∃ o0a:ON,∃ o0n:Nat,∃ o0c:Cap,∃ o0k:List AV,v=(.sl ⟨o0a,o0n,o0c⟩)/\o0n=(r).length/\Out H0 Ri H' (Rs.own ⟨o0a,o0n,o0c⟩ eI.z o0k::R0) λR=>CR eI H' R o0k (r)
def ct.p (F:Nat) (af:abU):Option (List Int):=(if af.length<=4294967296/\wfs af=true then some (jl af) else none)
theorem ct.P {ar aj au af} (aN:aj=af.length) (h0:Inn H R0 λR=>ROs eI H R ⟨ar,aj,au⟩ af) {r:abU} (hp:ct.p F af=some r):Rt (ct.tw F ⟨ar,aj,au⟩ H) (ct.Q H R0 R0  r):=by
 obtain ⟨w0,f0⟩:=h0
 subst aN
 unfold ct.p at hp
 unfold ct.tw vm
 have s0:=w0.rf
 obtain ⟨hc,hp⟩:=eW hp
 have hp:=Option.some.inj hp
 obtain ⟨xs,hx,cx⟩:=f0.row rfl
 refine ai hx ?_
 obtain rfl:=cx.ints_eq
 refine ai (QM _) ?_
 refine fY hc ?_
 by_cases hz:af.length=0
 ·rw [if_pos hz]
  obtain ⟨w1,s1⟩:=w0.nilS eI.z (by decide)
  obtain rfl:r=[]:=List.length_eq_zero_iff.1 (by rw [<- hp,It,hz])
  exact ⟨_,_,rfl,none,0,.ex 0,[],rfl,rfl,w1,s0.trans s1,CR.empty⟩
 ·rw [if_neg hz]
  obtain ⟨H2,e2,w2,s2⟩:=w0.newF ((jl af).map (AV.int .i64)) af.length eI.z (by rw [List.length_map,It];exact (Nat.mul_one _).symm) (by decide)
  subst e2
  subst hp
  exact ⟨_,_,rfl,some (_,0),_,.full 1,_,rfl,(It _).symm,w2,s0.trans s2,CR.ints _ _ _ _⟩
def bx.Q (H0:Hp) (Ri R0:abR)  (r:abU) (v:AV) (H':Hp):Prop:=∃ o0a:ON,∃ o0n:Nat,∃ o0c:Cap,∃ o0k:List AV,v=(.sl ⟨o0a,o0n,o0c⟩)/\o0n=(r).length/\Out H0 Ri H' (Rs.own ⟨o0a,o0n,o0c⟩ eI.z o0k::R0) λR=>CR eI H' R o0k (r)
def bx.S29 (H0:Hp) (Ri R0:abR)  (C:acE) (pC:List (Int×Int)->List (Int×Int)->List Int->Int->Int->Option (List Int)):Prop:=∀ {yJ Gl oA uO yK mf lA yL Gm oB mH mI hJ oC jD gW},∀ {H:Hp},uO=mH.length->yK=mI.length->lA=hJ.length->(Out H0 Ri H (Rs.blk mf [.sl ⟨yJ,uO,yL⟩,.sl ⟨Gl,yK,Gm⟩]::Rs.own ⟨oA,lA,oB⟩ eI.z oC::R0) λR=>ROs (aa eI eI) H R ⟨yJ,uO,yL⟩ mH/\ROs (aa eI eI) H R ⟨Gl,yK,Gm⟩ mI/\CR eI H R oC hJ)->∀ {r:abU},pC mH mI hJ jD gW=some r->Rt (C mf 0 ⟨oA,lA,oB⟩ ⟨yJ,uO,yL⟩ jD gW H) (bx.Q H0 Ri R0  r)
def bx.pl29 (F:Nat) :Nat->List (Int×Int)->List (Int×Int)->List Int->Int->Int->Option (List Int)
 | 0,_,_,_,_,_=>none
 | k+1,mH,mI,hJ,jD,gW=>(bif (decide (gW<jD)) then ((ix mH gW).bind λn1=>(ix mI gW).bind λn5=>(bf.p F hJ ((gt mH n1).1) ((gt mI n5).1)).bind λr7=>bx.pl29 F k mH mI r7 jD (wrap .i64 (gW+1))) else ((ct.p F hJ).bind λr12=>some r12))
theorem bx.l29_P  :∀ k,bx.S29 H0 Ri R0  (bx.l29 F (cl.tw F) (bB.tw F) (bf.tw F) (ct.tw F)  k) (bx.pl29 F  k):=by
 intro k
 induction k with
 | zero=>unfold bx.S29;intros;rename_i hp;cases hp
 | succ k ih=>
  intro yJ Gl oA uO yK mf lA yL Gm oB mH mI hJ oC jD gW H Yn Yo Gn h0 r hp
  obtain ⟨w0,s0,Oj,Ol,uP⟩:=h0
  subst Yn
  subst Yo
  subst Gn
  unfold bx.pl29 at hp
  unfold bx.l29
  refine ax hp (λhp=>?_) λhp=>?_
  ·obtain ⟨n1,g1,hp⟩:=ah hp
   obtain ⟨p1,q1,i1,h1,j1⟩:=ROs.ixr Oj rfl g1
   refine ai i1 ?_
   obtain ⟨_,_,rfl,rfl,rfl⟩:=h1
   refine ai (aH (j1 0 _ rfl)) ?_
   refine ai (aH (j1 1 _ rfl)) ?_
   refine a_ w0 λH2 w2 s2=>?_
   refine aA w2 0 λH3 w3 s3=>?_
   refine aA w3 0 λH4 w4 s4=>?_
   refine lI w4 0 ?_
   refine lSl w4 1 ?_
   obtain ⟨n5,g5,hp⟩:=ah hp
   obtain ⟨p5,q5,i5,h5,j5⟩:=ROs.ixr (Ol.step (s2.trans (s3.trans s4))) rfl g5
   refine ai i5 ?_
   obtain ⟨_,_,rfl,rfl,rfl⟩:=h5
   refine ai (aH (j5 0 _ rfl)) ?_
   obtain ⟨w6,s6⟩:=w4.pp [2,0,1] 3
   obtain ⟨r7,e7,hp⟩:=ah hp
   refine aI (bf.P rfl ⟨w6,(uP.step (s2.trans (s3.trans (s4.trans s6))))⟩ e7) ?_
   rintro _ H8 ⟨abj,rfl,hl8_0,w8,s8,f8_0⟩
   obtain ⟨w9,s9⟩:=w8.pp [2,0] 3
   exact ih rfl rfl hl8_0 ⟨w9,(s0.trans (s2.trans (s3.trans (s4.trans (s6.trans (s8.trans s9)))))),(Oj.step (s2.trans (s3.trans (s4.trans (s6.trans (s8.trans s9)))))),(Ol.step (s2.trans (s3.trans (s4.trans (s6.trans (s8.trans s9)))))),(f8_0.step s9)⟩ hp
  ·obtain ⟨w10,s10⟩:=w0.pp [1,0] 2
   have f11:=W.borrow1 eI w10 (uP.step s10)
   obtain ⟨w11,s11⟩:=w10.right1
   obtain ⟨r12,e12,hp⟩:=ah hp
   refine aI (ct.P rfl ⟨w11,f11⟩ e12) ?_
   rintro _ H13 ⟨o0a_13,o0n_13,o0c_13,o0k_13,rfl,rfl,w13,s13,f13_0⟩
   obtain ⟨w14,s14⟩:=W.frame1 w10 w13 s13
   refine br ?_
   obtain ⟨w15,s15⟩:=w14.pp [1] 3
   exact aw hp ⟨_,_,_,_,rfl,rfl,w15,(s0.trans (s10.trans (s14.trans s15))),((CR.flat (gE .i64) f13_0).step s15)⟩
def bx.p (F:Nat) (af:abX) (eo:ab_) (bP:ab_):Option (List Int):=(cl.p F af).bind λr3=>(bB.p F r3).bind λr5=>bx.pl29 F F eo bP r5 (eo.length:Int) 0
theorem bx.P {ar kf ff aj hG ec au kg fg af ag eo bP} (aN:aj=af.length) (oq:hG=eo.length) (iV:ec=bP.length) (h0:Inn H R0 λR=>ROs (aa eI (aa eI (aa eI (aa eI eI)))) H R ⟨ar,aj,au⟩ af/\ROs (aa eI eI) H R ⟨kf,hG,kg⟩ eo/\ROs (aa eI eI) H R ⟨ff,ec,fg⟩ bP) {r:abU} (hp:bx.p F af eo bP=some r):Rt (bx.tw F ⟨ar,aj,au⟩ ag ⟨kf,hG,kg⟩ ⟨ff,ec,fg⟩ H) (bx.Q H R0 R0  r):=by
 obtain ⟨w0,aG,ou,gC⟩:=h0
 subst aN
 subst oq
 subst iV
 unfold bx.p at hp
 unfold bx.tw bx.twX
 have s0:=w0.rf
 refine a_ w0 λH1 w1 s1=>?_
 refine a_ w1 λH2 w2 s2=>?_
 refine lSl w2 1 ?_
 obtain ⟨r3,e3,hp⟩:=ah hp
 refine aI (cl.P rfl ⟨w2,(aG.step (s1.trans s2))⟩ e3) ?_
 rintro _ H4 ⟨rfl,w4,s4,_⟩
 refine br ?_
 obtain ⟨r5,e5,hp⟩:=ah hp
 refine aI (bB.P ⟨w4,trivial⟩ e5) ?_
 rintro _ H6 ⟨o0a_6,o0n_6,o0c_6,o0k_6,rfl,rfl,w6,s6,f6_0⟩
 refine br ?_
 refine lSl w6 1 ?_
 obtain ⟨w7,s7⟩:=w6.pp [1,0] 3
 exact bx.l29_P F rfl rfl rfl ⟨w7,(s0.trans (s1.trans (s2.trans (s4.trans (s6.trans s7))))),(ou.step (s1.trans (s2.trans (s4.trans (s6.trans s7))))),(gC.step (s1.trans (s2.trans (s4.trans (s6.trans s7))))),(f6_0.step s7)⟩ hp
def bu.Q (H0:Hp) (Ri R0:abR)  (r:Int) (v:AV) (H':Hp):Prop:=v=(.i r)/\Out H0 Ri H' (R0) λR=>True
def bu.S61 (H0:Hp) (Ri R0:abR)  (C:abY) (pC:acT):Prop:=∀ {Gp yM Gq eP fI iK},∀ {H:Hp},yM=eP.length->(Out H0 Ri H R0 λR=>ROs eI H R ⟨Gp,yM,Gq⟩ eP)->∀ {r:Int},pC eP fI iK=some r->Rt (C ⟨Gp,yM,Gq⟩ fI iK H) (bu.Q H0 Ri R0  r)
def bu.pl61 (F:Nat) :Nat->List Int->Int->Int->Option (Int)
 | 0,_,_,_=>none
 | k+1,eP,fI,iK=>(bif (decide (iK<(eP.length:Int))) then ((ix eP iK).bind λn1=>bu.pl61 F k eP (if (gt eP n1)>fI then (gt eP n1) else fI) (wrap .i64 (iK+1))) else (some fI))
theorem bu.l61_P  :∀ k,bu.S61 H0 Ri R0  (bu.l61 F   k) (bu.pl61 F  k):=by
 intro k
 induction k with
 | zero=>unfold bu.S61;intros;rename_i hp;cases hp
 | succ k ih=>
  intro Gp yM Gq eP fI iK H Gk h0 r hp
  obtain ⟨w0,s0,mG⟩:=h0
  subst Gk
  unfold bu.pl61 at hp
  unfold bu.l61
  refine ax hp (λhp=>?_) λhp=>?_
  ·obtain ⟨n1,g1,hp⟩:=ah hp
   obtain ⟨p1,q1,i1,h1,j1⟩:=ROs.ixr mG rfl g1
   refine ai i1 ?_
   have h1:_=[_]:=h1
   subst h1
   refine ai (aH (j1 0 _ rfl)) ?_
   exact ih rfl ⟨w0,s0,mG⟩ hp
  ·exact aw hp ⟨rfl,w0,s0,trivial⟩
def bu.pj1 (F:Nat)  (oD:abU):Option (Int):=(ix oD 0).bind λn1=>bu.pl61 F F oD (gt oD n1) 1
theorem bu.j1_P   {Om Gr On oD} (Yp:Gr=oD.length) (h0:Out H0 Ri H R0 λR=>ROs eI H R ⟨Om,Gr,On⟩ oD) {r:Int} (hp:bu.pj1 F  oD=some r):Rt (bu.j1 F   ⟨Om,Gr,On⟩ H) (bu.Q H0 Ri R0  r):=by
 obtain ⟨w0,s0,Oo⟩:=h0
 subst Yp
 unfold bu.pj1 at hp
 unfold bu.j1
 obtain ⟨n1,g1,hp⟩:=ah hp
 obtain ⟨p1,q1,i1,h1,j1⟩:=ROs.ixr Oo rfl g1
 refine ai i1 ?_
 have h1:_=[_]:=h1
 subst h1
 refine ai (aH (j1 0 _ rfl)) ?_
 exact bu.l61_P F rfl ⟨w0,s0,Oo⟩ hp
def bu.p (F:Nat) (af:abU):Option (Int):=(bif (decide ((af.length:Int)<1)) then (none) else (bu.pj1 F af))
theorem bu.P {ar aj au af} (aN:aj=af.length) (h0:Inn H R0 λR=>ROs eI H R ⟨ar,aj,au⟩ af) {r:Int} (hp:bu.p F af=some r):Rt (bu.tw F ⟨ar,aj,au⟩ H) (bu.Q H R0 R0  r):=by
 obtain ⟨w0,aG⟩:=h0
 subst aN
 unfold bu.p at hp
 unfold bu.tw bu.twX
 have s0:=w0.rf
 refine ax hp (λhp=>?_) λhp=>?_
 ·cases hp
 ·exact bu.j1_P rfl ⟨w0,s0,aG⟩ hp
def da.Q (H0:Hp) (Ri R0:abR)  (r:Int) (v:AV) (H':Hp):Prop:=v=(.i r)/\Out H0 Ri H' (R0) λR=>True
def da.p (F:Nat) (af:abU):Option (Int):=(bif ((af.length:Int)==0) then (some 0) else ((bu.p F af).bind λr1=>some (wrap .i64 (r1+1))))
theorem da.P {ar aj au af} (aN:aj=af.length) (h0:Inn H R0 λR=>ROs eI H R ⟨ar,aj,au⟩ af) {r:Int} (hp:da.p F af=some r):Rt (da.tw F ⟨ar,aj,au⟩ H) (da.Q H R0 R0  r):=by
 obtain ⟨w0,aG⟩:=h0
 subst aN
 unfold da.p at hp
 unfold da.tw da.twX
 have s0:=w0.rf
 refine ax hp (λhp=>?_) λhp=>?_
 ·exact aw hp ⟨rfl,w0,s0,trivial⟩
 ·obtain ⟨r1,e1,hp⟩:=ah hp
  refine aI (bu.P rfl ⟨w0,aG⟩ e1) ?_
  rintro _ H2 ⟨rfl,w2,s2,_⟩
  refine br ?_
  exact aw hp ⟨rfl,w2,(s0.trans s2),trivial⟩
def cH.Q (H0:Hp) (Ri R0:abR)  (r:(List (Int×Int))×(List (Int×Int))×Bool) (v:AV) (H':Hp):Prop:=∃ o0a:ON,∃ o0n:Nat,∃ o0c:Cap,∃ o1a:ON,∃ o1n:Nat,∃ o1c:Cap,v=(.tup [(.agg [(.sl ⟨o0a,o0n,o0c⟩),(.sl ⟨o1a,o1n,o1c⟩)]),(.bool r.2.2)])/\o0n=(r.1).length/\o1n=(r.2.1).length/\Out H0 Ri H' (R0) λR=>ROs (aa eI eI) H' R ⟨o0a,o0n,o0c⟩ (r.1)/\ROs (aa eI eI) H' R ⟨o1a,o1n,o1c⟩ (r.2.1)
def cH.p (F:Nat) (af:abX) (ag:Int):Option ((List (Int×Int))×(List (Int×Int))×Bool):=(cl.p F af).bind λr3=>(bif (decide (r3>10)) then (some (([]:List (Int×Int)),([]:List (Int×Int)),false)) else ((de.p F ag 0 8).bind λr12=>(bif (!r12) then (some (([]:List (Int×Int)),([]:List (Int×Int)),false)) else ((et.p F af).bind λr21=>(bif r21 then (some (([]:List (Int×Int)),([]:List (Int×Int)),false)) else ((aX.p F af).bind λr30=>(bif (!r30.2.2) then (some (([]:List (Int×Int)),([]:List (Int×Int)),false)) else ((aD.p F af r30.1 r30.2.1).bind λr44=>(fy.p F r44).bind λr48=>(bx.p F af r30.1 r30.2.1).bind λr52=>(da.p F r52).bind λr55=>(bif (r48 != (wrap .i64 (r3+(wrap .i64 (2 * r55))))) then (some (([]:List (Int×Int)),([]:List (Int×Int)),false)) else (some (r30.1,r30.2.1,true)))))))))))
theorem cH.P {ar aj au af ag} (aN:aj=af.length) (h0:Inn H R0 λR=>ROs (aa eI (aa eI (aa eI (aa eI eI)))) H R ⟨ar,aj,au⟩ af) {r:(List (Int×Int))×(List (Int×Int))×Bool} (hp:cH.p F af ag=some r):Rt (cH.tw F ⟨ar,aj,au⟩ ag H) (cH.Q H R0 R0  r):=by
 obtain ⟨w0,aG⟩:=h0
 subst aN
 unfold cH.p at hp
 unfold cH.tw cH.twX
 have s0:=w0.rf
 refine a_ w0 λH1 w1 s1=>?_
 refine a_ w1 λH2 w2 s2=>?_
 refine lSl w2 1 ?_
 obtain ⟨r3,e3,hp⟩:=ah hp
 refine aI (cl.P rfl ⟨w2,(aG.step (s1.trans s2))⟩ e3) ?_
 rintro _ H4 ⟨rfl,w4,s4,_⟩
 refine br ?_
 refine ax hp (λhp=>?_) λhp=>?_
 ·refine aA w4 0 λH5 w5 s5=>?_
  refine aA w5 0 λH6 w6 s6=>?_
  refine lSl w6 0 ?_
  refine lSl w6 0 ?_
  obtain ⟨w7,s7⟩:=w6.nilS (aa eI eI).z (by decide)
  obtain ⟨w8,s8⟩:=w7.nilS (aa eI eI).z (by decide)
  obtain ⟨w9,s9,f9⟩:=w8.frz (i:=1) (aa eI eI) rfl ((CR.empty:CR (aa eI eI) _ _ [] []).step s8)
  obtain ⟨w10,s10,f10⟩:=w9.frz (i:=0) (aa eI eI) rfl ((CR.empty:CR (aa eI eI) _ _ [] []).step s9)
  obtain ⟨w11,s11⟩:=w10.pp [] 2
  exact aw hp ⟨_,_,_,_,_,_,rfl,rfl,rfl,w11,(s0.trans (s1.trans (s2.trans (s4.trans (s5.trans (s6.trans (s7.trans (s8.trans (s9.trans (s10.trans s11)))))))))),(f9.step (s10.trans s11)),(f10.step s11)⟩
 ·refine lI w4 1 ?_
  obtain ⟨r12,e12,hp⟩:=ah hp
  refine aI (de.P ⟨w4,trivial⟩ e12) ?_
  rintro _ H13 ⟨rfl,w13,s13,_⟩
  refine br ?_
  refine ax hp (λhp=>?_) λhp=>?_
  ·refine aA w13 0 λH14 w14 s14=>?_
   refine aA w14 0 λH15 w15 s15=>?_
   refine lSl w15 0 ?_
   refine lSl w15 0 ?_
   obtain ⟨w16,s16⟩:=w15.nilS (aa eI eI).z (by decide)
   obtain ⟨w17,s17⟩:=w16.nilS (aa eI eI).z (by decide)
   obtain ⟨w18,s18,f18⟩:=w17.frz (i:=1) (aa eI eI) rfl ((CR.empty:CR (aa eI eI) _ _ [] []).step s17)
   obtain ⟨w19,s19,f19⟩:=w18.frz (i:=0) (aa eI eI) rfl ((CR.empty:CR (aa eI eI) _ _ [] []).step s18)
   obtain ⟨w20,s20⟩:=w19.pp [] 2
   exact aw hp ⟨_,_,_,_,_,_,rfl,rfl,rfl,w20,(s0.trans (s1.trans (s2.trans (s4.trans (s13.trans (s14.trans (s15.trans (s16.trans (s17.trans (s18.trans (s19.trans s20))))))))))),(f18.step (s19.trans s20)),(f19.step s20)⟩
  ·refine lSl w13 1 ?_
   obtain ⟨r21,e21,hp⟩:=ah hp
   refine aI (et.P rfl ⟨w13,(aG.step (s1.trans (s2.trans (s4.trans s13))))⟩ e21) ?_
   rintro _ H22 ⟨rfl,w22,s22,_⟩
   refine br ?_
   refine ax hp (λhp=>?_) λhp=>?_
   ·refine aA w22 0 λH23 w23 s23=>?_
    refine aA w23 0 λH24 w24 s24=>?_
    refine lSl w24 0 ?_
    refine lSl w24 0 ?_
    obtain ⟨w25,s25⟩:=w24.nilS (aa eI eI).z (by decide)
    obtain ⟨w26,s26⟩:=w25.nilS (aa eI eI).z (by decide)
    obtain ⟨w27,s27,f27⟩:=w26.frz (i:=1) (aa eI eI) rfl ((CR.empty:CR (aa eI eI) _ _ [] []).step s26)
    obtain ⟨w28,s28,f28⟩:=w27.frz (i:=0) (aa eI eI) rfl ((CR.empty:CR (aa eI eI) _ _ [] []).step s27)
    obtain ⟨w29,s29⟩:=w28.pp [] 2
    exact aw hp ⟨_,_,_,_,_,_,rfl,rfl,rfl,w29,(s0.trans (s1.trans (s2.trans (s4.trans (s13.trans (s22.trans (s23.trans (s24.trans (s25.trans (s26.trans (s27.trans (s28.trans s29)))))))))))),(f27.step (s28.trans s29)),(f28.step s29)⟩
   ·refine lSl w22 1 ?_
    refine lI w22 1 ?_
    obtain ⟨r30,e30,hp⟩:=ah hp
    refine aI (aX.P rfl ⟨w22,(aG.step (s1.trans (s2.trans (s4.trans (s13.trans s22)))))⟩ e30) ?_
    rintro _ H31 ⟨o0a_31,o0n_31,o0c_31,o0k_31,o1a_31,o1n_31,o1c_31,o1k_31,rfl,rfl,rfl,w31,s31,f31_0,f31_1⟩
    refine br (br (br (br (br (br (br (br (br ?_))))))))
    refine a_ w31 λH32 w32 s32=>?_
    refine aA w32 0 λH33 w33 s33=>?_
    refine aA w33 0 λH34 w34 s34=>?_
    refine ax hp (λhp=>?_) λhp=>?_
    ·refine aA w34 3 λH35 w35 s35=>?_
     refine aA w35 3 λH36 w36 s36=>?_
     refine lSl w36 3 ?_
     refine lSl w36 3 ?_
     obtain ⟨w37,s37⟩:=w36.nilS (aa eI eI).z (by decide)
     obtain ⟨w38,s38⟩:=w37.nilS (aa eI eI).z (by decide)
     obtain ⟨w39,s39,f39⟩:=w38.frz (i:=1) (aa eI eI) rfl ((CR.empty:CR (aa eI eI) _ _ [] []).step s38)
     obtain ⟨w40,s40,f40⟩:=w39.frz (i:=0) (aa eI eI) rfl ((CR.empty:CR (aa eI eI) _ _ [] []).step s39)
     obtain ⟨w41,s41⟩:=w40.pp [] 5
     exact aw hp ⟨_,_,_,_,_,_,rfl,rfl,rfl,w41,(s0.trans (s1.trans (s2.trans (s4.trans (s13.trans (s22.trans (s31.trans (s32.trans (s33.trans (s34.trans (s35.trans (s36.trans (s37.trans (s38.trans (s39.trans (s40.trans s41)))))))))))))))),(f39.step (s40.trans s41)),(f40.step s41)⟩
    ·refine lSl w34 4 ?_
     refine lI w34 4 ?_
     refine lSl w34 0 ?_
     refine lSl w34 0 ?_
     obtain ⟨w42,s42,f42⟩:=w34.frz (i:=1) (aa eI eI) rfl (f31_0.step (s32.trans (s33.trans s34)))
     obtain ⟨w43,s43,f43⟩:=w42.frz (i:=1) (aa eI eI) rfl (f31_1.step (s32.trans (s33.trans (s34.trans s42))))
     obtain ⟨r44,e44,hp⟩:=ah hp
     refine aI (aD.P rfl rfl rfl ⟨w43,(aG.step (s1.trans (s2.trans (s4.trans (s13.trans (s22.trans (s31.trans (s32.trans (s33.trans (s34.trans (s42.trans s43))))))))))),(f42.step s43),f43⟩ e44) ?_
     rintro _ H45 ⟨o0a_45,o0n_45,o0c_45,o0k_45,rfl,rfl,w45,s45,f45_0⟩
     refine br ?_
     refine fY (aV.tr (aV.refl _) s42 (aV.tr (aV.refl _) s43 (W.cons_of (Rn:=[_]) w43 w45 s45))) ?_
     have f47:=W.borrow1 (eSl eI) w45 f45_0
     obtain ⟨w47,s47⟩:=w45.right1
     obtain ⟨r48,e48,hp⟩:=ah hp
     refine aI (fy.P rfl ⟨w47,f47⟩ e48) ?_
     rintro _ H49 ⟨rfl,w49,s49,_⟩
     obtain ⟨w50,s50⟩:=W.frame1 w45 w49 s49
     refine br ?_
     refine fY (W.cons_of (Rn:=[]) w47 w49 s49) ?_
     refine lSl w50 3 ?_
     refine lI w50 3 ?_
     refine lSl w50 1 ?_
     refine lSl w50 1 ?_
     obtain ⟨r52,e52,hp⟩:=ah hp
     refine aI (bx.P rfl rfl rfl ⟨w50,(aG.step (s1.trans (s2.trans (s4.trans (s13.trans (s22.trans (s31.trans (s32.trans (s33.trans (s34.trans (s42.trans (s43.trans (s45.trans s50))))))))))))),(f42.step (s43.trans (s45.trans s50))),(f43.step (s45.trans s50))⟩ e52) ?_
     rintro _ H53 ⟨o0a_53,o0n_53,o0c_53,o0k_53,rfl,rfl,w53,s53,f53_0⟩
     refine br ?_
     have f54:=W.borrow1 eI w53 f53_0
     obtain ⟨w54,s54⟩:=w53.right1
     obtain ⟨r55,e55,hp⟩:=ah hp
     refine aI (da.P rfl ⟨w54,f54⟩ e55) ?_
     rintro _ H56 ⟨rfl,w56,s56,_⟩
     obtain ⟨w57,s57⟩:=W.frame1 w53 w56 s56
     refine br ?_
     refine ax hp (λhp=>?_) λhp=>?_
     ·refine aA w57 3 λH58 w58 s58=>?_
      refine aA w58 3 λH59 w59 s59=>?_
      refine lSl w59 3 ?_
      refine lSl w59 3 ?_
      obtain ⟨w60,s60⟩:=w59.nilS (aa eI eI).z (by decide)
      obtain ⟨w61,s61⟩:=w60.nilS (aa eI eI).z (by decide)
      obtain ⟨w62,s62,f62⟩:=w61.frz (i:=1) (aa eI eI) rfl ((CR.empty:CR (aa eI eI) _ _ [] []).step s61)
      obtain ⟨w63,s63,f63⟩:=w62.frz (i:=0) (aa eI eI) rfl ((CR.empty:CR (aa eI eI) _ _ [] []).step s62)
      obtain ⟨w64,s64⟩:=w63.pp [] 5
      dsimp only [pk,pks,nth,List.drop,List.set,List.eraseIdx] at w64 s33 s34 s42 f42 s43 f43 s58 s59 s60 s61 s62 f62 s63 f63 s64
      exact aw hp ⟨_,_,_,_,_,_,rfl,rfl,rfl,w64,(s0.trans (s1.trans (s2.trans (s4.trans (s13.trans (s22.trans (s31.trans (s32.trans (s33.trans (s34.trans (s42.trans (s43.trans (s45.trans (s50.trans (s53.trans (s57.trans (s58.trans (s59.trans (s60.trans (s61.trans (s62.trans (s63.trans s64)))))))))))))))))))))),(f62.step (s63.trans s64)),(f63.step s64)⟩
     ·refine lSl w57 2 ?_
      refine lSl w57 2 ?_
      refine aA w57 3 λH65 w65 s65=>?_
      refine aA w65 3 λH66 w66 s66=>?_
      refine lSl w66 3 ?_
      refine lSl w66 3 ?_
      obtain ⟨w67,s67⟩:=w66.pp [] 5
      exact aw hp ⟨_,_,_,_,_,_,rfl,rfl,rfl,w67,(s0.trans (s1.trans (s2.trans (s4.trans (s13.trans (s22.trans (s31.trans (s32.trans (s33.trans (s34.trans (s42.trans (s43.trans (s45.trans (s50.trans (s53.trans (s57.trans (s65.trans (s66.trans s67)))))))))))))))))),(f42.step (s43.trans (s45.trans (s50.trans (s53.trans (s57.trans (s65.trans (s66.trans s67)))))))),(f43.step (s45.trans (s50.trans (s53.trans (s57.trans (s65.trans (s66.trans s67)))))))⟩
def dX.Q (H0:Hp) (Ri R0:abR)  (r:Bool) (v:AV) (H':Hp):Prop:=v=(.bool r)/\Out H0 Ri H' (R0) λR=>True
def dX.p (F:Nat) (af:abX) (ag:Int):Option (Bool):=(cH.p F af ag).bind λr2=>some r2.2.2
theorem dX.P {ar aj au af ag} (aN:aj=af.length) (h0:Inn H R0 λR=>ROs (aa eI (aa eI (aa eI (aa eI eI)))) H R ⟨ar,aj,au⟩ af) {r:Bool} (hp:dX.p F af ag=some r):Rt (dX.tw F ⟨ar,aj,au⟩ ag H) (dX.Q H R0 R0  r):=by
 obtain ⟨w0,aG⟩:=h0
 subst aN
 unfold dX.p at hp
 unfold dX.tw dX.twX
 have s0:=w0.rf
 refine a_ w0 λH1 w1 s1=>?_
 refine lSl w1 0 ?_
 refine lI w1 0 ?_
 obtain ⟨r2,e2,hp⟩:=ah hp
 refine aI (cH.P rfl ⟨w1,(aG.step s1)⟩ e2) ?_
 rintro _ H3 ⟨o0a_3,o0n_3,o0c_3,o1a_3,o1n_3,o1c_3,rfl,rfl,rfl,w3,s3,f3_0,f3_1⟩
 refine br (br (br (br (br (br (br (br (br ?_))))))))
 refine a_ w3 λH4 w4 s4=>?_
 refine aA w4 0 λH5 w5 s5=>?_
 refine aA w5 0 λH6 w6 s6=>?_
 obtain ⟨w7,s7⟩:=w6.pp [] 2
 exact aw hp ⟨rfl,w7,(s0.trans (s1.trans (s3.trans (s4.trans (s5.trans (s6.trans s7)))))),trivial⟩
def ba.Q (H0:Hp) (Ri R0:abR)  (r:ab9) (v:AV) (H':Hp):Prop:=∃ o0a:ON,∃ o0n:Nat,∃ o0c:Cap,∃ o0k:List AV,v=(.tup [(.sl ⟨o0a,o0n,o0c⟩),(.i r.2)])/\o0n=(r.1).length/\Out H0 Ri H' (Rs.own ⟨o0a,o0n,o0c⟩ eI.z o0k::R0) λR=>CR eI H' R o0k (r.1)
def ba.S29 (H0:Hp) (Ri R0:abR)  (C:acE) (pC:List (Int×Int×Int×Int×Int)->Int->List Int->Int->Int->Option (List Int×Int)):Prop:=∀ {yN Gs uQ mg yO yP Gt lC sk jE iL oE Gu},∀ {H:Hp},uQ=lC.length->yO=oE.length->(Out H0 Ri H (Rs.blk mg [.sl ⟨yN,uQ,yP⟩,.i sk]::Rs.own ⟨Gs,yO,Gt⟩ eI.z Gu::R0) λR=>ROs (aa eI (aa eI (aa eI (aa eI eI)))) H R ⟨yN,uQ,yP⟩ lC/\CR eI H R Gu oE)->∀ {r:ab9},pC lC sk oE jE iL=some r->Rt (C mg 0 ⟨Gs,yO,Gt⟩ ⟨yN,uQ,yP⟩ jE iL H) (ba.Q H0 Ri R0  r)
def ba.pj1 (F:Nat)  (yQ:Int) (uR:abU):Option (List Int×Int):=(ct.p F uR).bind λr3=>(da.p F r3).bind λr8=>some (r3,(wrap .i64 (r8+yQ)))
theorem ba.j1_P   {Oq Ot Gv wk Gw Ou Ov Ox yQ uR Oy} (Yq:Gv=Ox.length) (Yr:Gw=uR.length) (h0:Out H0 Ri H (Rs.blk wk [.sl ⟨Oq,Gv,Ou⟩,.i yQ]::Rs.own ⟨Ot,Gw,Ov⟩ eI.z Oy::R0) λR=>ROs (aa eI (aa eI (aa eI (aa eI eI)))) H R ⟨Oq,Gv,Ou⟩ Ox/\CR eI H R Oy uR) {r:ab9} (hp:ba.pj1 F  yQ uR=some r):Rt (ba.j1 F (cl.tw F) (bB.tw F) (bf.tw F) (ct.tw F) (da.tw F)  wk 0 ⟨Ot,Gw,Ov⟩ H) (ba.Q H0 Ri R0  r):=by
 obtain ⟨w0,s0,abk,Ys⟩:=h0
 subst Yq
 subst Yr
 unfold ba.pj1 at hp
 unfold ba.j1
 obtain ⟨w1,s1⟩:=w0.pp [1,0] 2
 have f2:=W.borrow1 eI w1 (Ys.step s1)
 obtain ⟨w2,s2⟩:=w1.right1
 obtain ⟨r3,e3,hp⟩:=ah hp
 refine aI (ct.P rfl ⟨w2,f2⟩ e3) ?_
 rintro _ H4 ⟨o0a_4,o0n_4,o0c_4,o0k_4,rfl,rfl,w4,s4,f4_0⟩
 obtain ⟨w5,s5⟩:=W.frame1 w1 w4 s4
 refine br ?_
 obtain ⟨w6,s6⟩:=w5.pp [1,0,2] 3
 have f7:=W.borrow1 eI w6 ((CR.flat (gE .i64) f4_0).step s6)
 obtain ⟨w7,s7⟩:=w6.right1
 obtain ⟨r8,e8,hp⟩:=ah hp
 refine aI (da.P rfl ⟨w7,f7⟩ e8) ?_
 rintro _ H9 ⟨rfl,w9,s9,_⟩
 obtain ⟨w10,s10⟩:=W.frame1 w6 w9 s9
 refine br ?_
 refine fY (aV.tr (aV.refl _) s6 (W.cons_of (Rn:=[]) w7 w9 s9)) ?_
 refine lI w10 2 ?_
 obtain ⟨w12,s12⟩:=w10.pp [0] 3
 exact aw hp ⟨_,_,_,_,rfl,rfl,w12,(s0.trans (s1.trans (s5.trans (s6.trans (s10.trans s12))))),((CR.flat (gE .i64) f4_0).step (s6.trans (s10.trans s12)))⟩
def ba.pl29 (F:Nat) :Nat->List (Int×Int×Int×Int×Int)->Int->List Int->Int->Int->Option (List Int×Int)
 | 0,_,_,_,_,_=>none
 | k+1,lC,sk,oE,jE,iL=>(bif (decide (iL<jE)) then ((ix lC iL).bind λn1=>(bf.p F oE ((gt lC n1).2.1) ((gt lC n1).2.2.2.1)).bind λr9=>ba.pl29 F k lC sk r9 jE (wrap .i64 (iL+1))) else (ba.pj1 F sk oE))
theorem ba.l29_P  :∀ k,ba.S29 H0 Ri R0  (ba.l29 F (cl.tw F) (bB.tw F) (bf.tw F) (ct.tw F) (da.tw F)  k) (ba.pl29 F  k):=by
 intro k
 induction k with
 | zero=>unfold ba.S29;intros;rename_i hp;cases hp
 | succ k ih=>
  intro yN Gs uQ mg yO yP Gt lC sk jE iL oE Gu H Yt Yu h0 r hp
  obtain ⟨w0,s0,Gx,Oz⟩:=h0
  subst Yt
  subst Yu
  unfold ba.pl29 at hp
  unfold ba.l29
  refine ax hp (λhp=>?_) λhp=>?_
  ·obtain ⟨n1,g1,hp⟩:=ah hp
   obtain ⟨p1,q1,i1,h1,j1⟩:=ROs.ixr Gx rfl g1
   refine ai i1 ?_
   obtain ⟨_,_,rfl,rfl,_,_,rfl,rfl,_,_,rfl,rfl,_,_,rfl,rfl,rfl⟩:=h1
   refine ai (aH (j1 0 _ rfl)) ?_
   refine ai (aH (j1 1 _ rfl)) ?_
   refine ai (aH (j1 2 _ rfl)) ?_
   refine ai (aH (j1 3 _ rfl)) ?_
   refine ai (aH (j1 4 _ rfl)) ?_
   refine a_ w0 λH2 w2 s2=>?_
   refine aA w2 0 λH3 w3 s3=>?_
   refine aA w3 0 λH4 w4 s4=>?_
   refine aA w4 0 λH5 w5 s5=>?_
   refine aA w5 0 λH6 w6 s6=>?_
   refine aA w6 0 λH7 w7 s7=>?_
   refine lI w7 0 ?_
   refine lI w7 0 ?_
   obtain ⟨w8,s8⟩:=w7.pp [2,0,1] 3
   obtain ⟨r9,e9,hp⟩:=ah hp
   refine aI (bf.P rfl ⟨w8,(Oz.step (s2.trans (s3.trans (s4.trans (s5.trans (s6.trans (s7.trans s8)))))))⟩ e9) ?_
   rintro _ H10 ⟨abl,rfl,hl10_0,w10,s10,f10_0⟩
   obtain ⟨w11,s11⟩:=w10.pp [2,0] 3
   exact ih rfl hl10_0 ⟨w11,(s0.trans (s2.trans (s3.trans (s4.trans (s5.trans (s6.trans (s7.trans (s8.trans (s10.trans s11))))))))),(Gx.step (s2.trans (s3.trans (s4.trans (s5.trans (s6.trans (s7.trans (s8.trans (s10.trans s11))))))))),(f10_0.step s11)⟩ hp
  ·exact ba.j1_P rfl rfl ⟨w0,s0,Gx,Oz⟩ hp
def ba.p (F:Nat) (af:abX) (ag:Int):Option (List Int×Int):=(cl.p F af).bind λr2=>(bB.p F (wrap .i64 (2 * r2))).bind λr4=>ba.pl29 F F af ag r4 (af.length:Int) 0
theorem ba.P {ar aj au af ag} (aN:aj=af.length) (h0:Inn H R0 λR=>ROs (aa eI (aa eI (aa eI (aa eI eI)))) H R ⟨ar,aj,au⟩ af) {r:ab9} (hp:ba.p F af ag=some r):Rt (ba.tw F ⟨ar,aj,au⟩ ag H) (ba.Q H R0 R0  r):=by
 obtain ⟨w0,aG⟩:=h0
 subst aN
 unfold ba.p at hp
 unfold ba.tw ba.twX
 have s0:=w0.rf
 refine a_ w0 λH1 w1 s1=>?_
 refine lSl w1 0 ?_
 obtain ⟨r2,e2,hp⟩:=ah hp
 refine aI (cl.P rfl ⟨w1,(aG.step s1)⟩ e2) ?_
 rintro _ H3 ⟨rfl,w3,s3,_⟩
 refine br ?_
 obtain ⟨r4,e4,hp⟩:=ah hp
 refine aI (bB.P ⟨w3,trivial⟩ e4) ?_
 rintro _ H5 ⟨o0a_5,o0n_5,o0c_5,o0k_5,rfl,rfl,w5,s5,f5_0⟩
 refine br ?_
 refine lSl w5 1 ?_
 obtain ⟨w6,s6⟩:=w5.pp [1,0] 2
 exact ba.l29_P F rfl rfl ⟨w6,(s0.trans (s1.trans (s3.trans (s5.trans s6)))),(aG.step (s1.trans (s3.trans (s5.trans s6)))),(f5_0.step s6)⟩ hp
def bv.Q (H0:Hp) (Ri R0:abR)  (r:ab2) (v:AV) (H':Hp):Prop:=∃ o0a:ON,∃ o0n:Nat,∃ o0c:Cap,∃ o0k:List AV,v=(.sl ⟨o0a,o0n,o0c⟩)/\o0n=(r).length/\Out H0 Ri H' (Rs.own ⟨o0a,o0n,o0c⟩ (eSl eI).z o0k::R0) λR=>CR (eSl eI) H' R o0k (r)
def bv.S61 (H0:Hp) (Ri R0:abR)  (C:Sl->Sl->Sl->Int->Int->Hp->OA) (pC:List Int->List (List Int)->List (Int×Int×Int×Int×Int)->Int->Int->Option (List (List Int))):Prop:=∀ {nT Gy Gz lq yR yS nU GA GB cW nV GC oF fX ev iM},∀ {H:Hp},lq=cW.length->yR=oF.length->yS=fX.length->(Out H0 Ri H (Rs.own ⟨nT,lq,nU⟩ eI.z nV::Rs.own ⟨Gy,yR,GA⟩ (eSl eI).z GC::R0) λR=>CR eI H R nV cW/\CR (eSl eI) H R GC oF/\ROs (aa eI (aa eI (aa eI (aa eI eI)))) H R ⟨Gz,yS,GB⟩ fX)->∀ {r:ab2},pC cW oF fX ev iM=some r->Rt (C ⟨nT,lq,nU⟩ ⟨Gy,yR,GA⟩ ⟨Gz,yS,GB⟩ ev iM H) (bv.Q H0 Ri R0  r)
def bv.pl61 (F:Nat) :Nat->List Int->List (List Int)->List (Int×Int×Int×Int×Int)->Int->Int->Option (List (List Int))
 | 0,_,_,_,_,_=>none
 | k+1,cW,oF,fX,ev,iM=>(bif (decide (iM<ev)) then ((ix fX iM).bind λn1=>(ix cW ((gt fX n1).1)).bind λn8=>(ix cW ((gt fX n1).2.2.1)).bind λn9=>(ix cW ((gt fX n1).2.1)).bind λn10=>(apn oF ([([(wrap .i64 ((gt cW n9)+1)),(wrap .i64 (((gt fX n1).2.2.2.2) * (wrap .i64 ((gt cW n10)+1)))),(wrap .i64 (0 - (wrap .i64 ((gt cW n8)+1)))),(wrap .i64 ((wrap .i64 (0 - ((gt fX n1).2.2.2.2))) * (wrap .i64 ((gt cW n10)+1))))]:List Int)]:List (List Int))).bind λl14=>bv.pl61 F k cW l14 fX ev (wrap .i64 (iM+1))) else (some oF))
theorem bv.l61_P  :∀ k,bv.S61 H0 Ri R0  (bv.l61 F (ba.tw F)  k) (bv.pl61 F  k):=by
 intro k
 induction k with
 | zero=>unfold bv.S61;intros;rename_i hp;cases hp
 | succ k ih=>
  intro nT Gy Gz lq yR yS nU GA GB cW nV GC oF fX ev iM H CI Yv Yw h0 r hp
  obtain ⟨w0,s0,mu,OB,OC⟩:=h0
  subst CI
  subst Yv
  subst Yw
  unfold bv.pl61 at hp
  unfold bv.l61
  refine ax hp (λhp=>?_) λhp=>?_
  ·obtain ⟨n1,g1,hp⟩:=ah hp
   obtain ⟨p1,q1,i1,h1,j1⟩:=ROs.ixr OC rfl g1
   refine ai i1 ?_
   obtain ⟨_,_,rfl,rfl,_,_,rfl,rfl,_,_,rfl,rfl,_,_,rfl,rfl,rfl⟩:=h1
   refine ai (aH (j1 0 _ rfl)) ?_
   refine ai (aH (j1 1 _ rfl)) ?_
   refine ai (aH (j1 2 _ rfl)) ?_
   refine ai (aH (j1 3 _ rfl)) ?_
   refine ai (aH (j1 4 _ rfl)) ?_
   refine a_ w0 λH2 w2 s2=>?_
   refine aA w2 0 λH3 w3 s3=>?_
   refine aA w3 0 λH4 w4 s4=>?_
   refine aA w4 0 λH5 w5 s5=>?_
   refine aA w5 0 λH6 w6 s6=>?_
   refine aA w6 0 λH7 w7 s7=>?_
   refine lI w7 0 ?_
   obtain ⟨n8,g8,hp⟩:=ah hp
   obtain ⟨p8,q8,i8,h8,j8⟩:=W.ixo (E:=eI) w7 (i:=1) rfl rfl (mu.step (s2.trans (s3.trans (s4.trans (s5.trans (s6.trans s7)))))) g8
   refine ai i8 ?_
   have h8:_=[_]:=h8
   subst h8
   refine ai (aH (j8 0 _ rfl)) ?_
   refine lI w7 0 ?_
   obtain ⟨n9,g9,hp⟩:=ah hp
   obtain ⟨p9,q9,i9,h9,j9⟩:=W.ixo (E:=eI) w7 (i:=1) rfl rfl (mu.step (s2.trans (s3.trans (s4.trans (s5.trans (s6.trans s7)))))) g9
   refine ai i9 ?_
   have h9:_=[_]:=h9
   subst h9
   refine ai (aH (j9 0 _ rfl)) ?_
   refine lI w7 0 ?_
   obtain ⟨n10,g10,hp⟩:=ah hp
   obtain ⟨p10,q10,i10,h10,j10⟩:=W.ixo (E:=eI) w7 (i:=1) rfl rfl (mu.step (s2.trans (s3.trans (s4.trans (s5.trans (s6.trans s7)))))) g10
   refine ai i10 ?_
   have h10:_=[_]:=h10
   subst h10
   refine ai (aH (j10 0 _ rfl)) ?_
   refine lI w7 0 ?_
   refine lI w7 0 ?_
   refine cI eI w7 (n:=4) (l:=([(wrap .i64 ((gt cW n9)+1)),(wrap .i64 (((gt fX n1).2.2.2.2) * (wrap .i64 ((gt cW n10)+1)))),(wrap .i64 (0 - (wrap .i64 ((gt cW n8)+1)))),(wrap .i64 ((wrap .i64 (0 - ((gt fX n1).2.2.2.2))) * (wrap .i64 ((gt cW n10)+1))))]:List Int)) rfl (CR.cons1 rfl (CR.cons1 rfl (CR.cons1 rfl (CR.cons1 rfl CR.empty)))) rfl λH11 w11 s11 c11=>?_
   obtain ⟨w12,s12,f12⟩:=w11.frz (i:=0) eI rfl c11
   refine cI (eSl eI) w12 (n:=1) (l:=([([(wrap .i64 ((gt cW n9)+1)),(wrap .i64 (((gt fX n1).2.2.2.2) * (wrap .i64 ((gt cW n10)+1)))),(wrap .i64 (0 - (wrap .i64 ((gt cW n8)+1)))),(wrap .i64 ((wrap .i64 (0 - ((gt fX n1).2.2.2.2))) * (wrap .i64 ((gt cW n10)+1))))]:List Int)]:List (List Int))) rfl (CR.cons1 ⟨_,rfl,f12⟩ CR.empty) rfl λH13 w13 s13 c13=>?_
   refine ai (w13.rowo (i:=0) rfl) ?_
   obtain ⟨l14,e14,hp⟩:=ah hp
   refine gD (eSl eI) w13 (i:=3) rfl rfl (OB.step (s2.trans (s3.trans (s4.trans (s5.trans (s6.trans (s7.trans (s11.trans (s12.trans s13))))))))) c13 (show 1=List.length ([([(wrap .i64 ((gt cW n9)+1)),(wrap .i64 (((gt fX n1).2.2.2.2) * (wrap .i64 ((gt cW n10)+1)))),(wrap .i64 (0 - (wrap .i64 ((gt cW n8)+1)))),(wrap .i64 ((wrap .i64 (0 - ((gt fX n1).2.2.2.2))) * (wrap .i64 ((gt cW n10)+1))))]:List Int)]:List (List Int)) from rfl) rfl e14 λa15 d15 H15 w15 s15 c15 x15=>?_
   obtain ⟨w16,s16⟩:=w15.pp [2,3] 4
   exact ih rfl rfl rfl ⟨w16,(s0.trans (s2.trans (s3.trans (s4.trans (s5.trans (s6.trans (s7.trans (s11.trans (s12.trans (s13.trans (s15.trans s16))))))))))),(mu.step (s2.trans (s3.trans (s4.trans (s5.trans (s6.trans (s7.trans (s11.trans (s12.trans (s13.trans (s15.trans s16))))))))))),(c15.step s16),(OC.step (s2.trans (s3.trans (s4.trans (s5.trans (s6.trans (s7.trans (s11.trans (s12.trans (s13.trans (s15.trans s16)))))))))))⟩ hp
  ·obtain ⟨w17,s17⟩:=w0.pp [1] 2
   exact aw hp ⟨_,_,_,_,rfl,rfl,w17,(s0.trans s17),(OB.step s17)⟩
def bv.p (F:Nat) (af:abX) (ag:Int):Option (List (List Int)):=(ba.p F af ag).bind λr2=>bv.pl61 F F r2.1 ([]:List (List Int)) af (af.length:Int) 0
theorem bv.P {ar aj au af ag} (aN:aj=af.length) (h0:Inn H R0 λR=>ROs (aa eI (aa eI (aa eI (aa eI eI)))) H R ⟨ar,aj,au⟩ af) {r:ab2} (hp:bv.p F af ag=some r):Rt (bv.tw F ⟨ar,aj,au⟩ ag H) (bv.Q H R0 R0  r):=by
 obtain ⟨w0,aG⟩:=h0
 subst aN
 unfold bv.p at hp
 unfold bv.tw bv.twX
 have s0:=w0.rf
 refine a_ w0 λH1 w1 s1=>?_
 refine lSl w1 0 ?_
 refine lI w1 0 ?_
 obtain ⟨r2,e2,hp⟩:=ah hp
 refine aI (ba.P rfl ⟨w1,(aG.step s1)⟩ e2) ?_
 rintro _ H3 ⟨o0a_3,o0n_3,o0c_3,o0k_3,rfl,rfl,w3,s3,f3_0⟩
 refine br (br (br (br (br ?_))))
 refine lSl w3 1 ?_
 obtain ⟨w4,s4⟩:=w3.nilS (eSl eI).z (by decide)
 obtain ⟨w5,s5⟩:=w4.pp [1,0] 3
 exact bv.l61_P F rfl rfl rfl ⟨w5,(s0.trans (s1.trans (s3.trans (s4.trans s5)))),(f3_0.step (s4.trans s5)),((CR.empty:CR (eSl eI) _ _ [] []).step s5),(aG.step (s1.trans (s3.trans (s4.trans s5))))⟩ hp
def eB.Q (H0:Hp) (Ri R0:abR)  (r:abU) (v:AV) (H':Hp):Prop:=∃ o0a:ON,∃ o0n:Nat,∃ o0c:Cap,∃ o0k:List AV,v=(.sl ⟨o0a,o0n,o0c⟩)/\o0n=(r).length/\Out H0 Ri H' (Rs.own ⟨o0a,o0n,o0c⟩ eI.z o0k::R0) λR=>CR eI H' R o0k (r)
def eB.p (F:Nat) (af:abU):Option (List Int):=apn ([]:List Int) af
theorem eB.P {ar aj au af} (aN:aj=af.length) (h0:Inn H R0 λR=>ROs eI H R ⟨ar,aj,au⟩ af) {r:abU} (hp:eB.p F af=some r):Rt (eB.tw F ⟨ar,aj,au⟩ H) (eB.Q H R0 R0  r):=by
 obtain ⟨w0,f0⟩:=h0
 subst aN
 unfold eB.p at hp
 unfold eB.tw eB.twX
 have s0:=w0.rf
 refine aag (λhb=>?_) (λhb=>?_)
 ·obtain ⟨w1,s1⟩:=w0.nilS eI.z (by decide)
  obtain rfl:=ROs.none_nil f0 (Option.isNone_iff_eq_none.1 hb)
  obtain rfl:r=[]:=(Iu hp).2
  exact ⟨_,_,rfl,none,0,.ex 0,[],rfl,rfl,w1,s0.trans s1,CR.empty⟩
 ·refine cI eI w0 (n:=0) (l:=[]) rfl CR.empty rfl λH2 w2 s2 c2=>?_
  obtain ⟨xs,hx,cx⟩:=(f0.step s2).row rfl
  refine ai hx ?_
  refine gD eI w2 (i:=0) rfl rfl c2 cx rfl rfl hp λa d H3 w3 s3 c3 _=>?_
  dsimp only [List.set] at w3 s3 c3
  exact ⟨_,_,rfl,_,_,_,_,rfl,rfl,w3,s0.trans (s2.trans s3),c3⟩
def aL.Q (H0:Hp) (Ri R0:abR)  (r:abZ) (v:AV) (H':Hp):Prop:=∃ o1a:ON,∃ o1n:Nat,∃ o1c:Cap,∃ o1k:List AV,v=(.agg [(.i r.1),(.sl ⟨o1a,o1n,o1c⟩)])/\o1n=(r.2).length/\Out H0 Ri H' (Rs.own ⟨o1a,o1n,o1c⟩ eI.z o1k::R0) λR=>CR eI H' R o1k (r.2)
def aL.S6 (H0:Hp) (Ri R0:abR)  (C:acY) (pC:acZ):Prop:=∀ {oG OD GD GE yT cK yU fk GF GG jj GH GI},∀ {H:Hp},yT=jj.length->yU=GH.length->(Out H0 Ri H (Rs.blk cK [.i oG,.sl ⟨GD,yT,GF⟩]::Rs.own ⟨GE,yU,GG⟩ eI.z GI::Rs.blk fk [.i OD,.sl ⟨GE,yU,GG⟩]::R0) λR=>ROs eI H R ⟨GD,yT,GF⟩ jj/\CR eI H R GI GH)->∀ {r:abZ},pC oG jj=some r->Rt (C cK 0 fk 0 H) (aL.Q H0 Ri R0  r)
def aL.S14 (H0:Hp) (Ri R0:abR)  (C:acY) (pC:acZ):Prop:=∀ {oH OE GJ GK yV eL yW kX GL GM iW GN GO},∀ {H:Hp},yV=iW.length->yW=GN.length->(Out H0 Ri H (Rs.blk eL [.i oH,.sl ⟨GJ,yV,GL⟩]::Rs.own ⟨GK,yW,GM⟩ eI.z GO::Rs.blk kX [.i OE,.sl ⟨GK,yW,GM⟩]::R0) λR=>ROs eI H R ⟨GJ,yV,GL⟩ iW/\CR eI H R GO GN)->∀ {r:abZ},pC oH iW=some r->Rt (C eL 0 kX 0 H) (aL.Q H0 Ri R0  r)
def aL.pj1 (F:Nat)  (yX:Int) (sp:abU):Option (Int×List Int):=(bif ((sp.length:Int)==0) then (some (0,([]:List Int))) else ((eB.p F sp).bind λr5=>some (yX,r5)))
theorem aL.j1_P   {yX Yx OF OG GP qL GQ jF OH OI sp OJ OK} (Yy:GP=sp.length) (Yz:GQ=OJ.length) (h0:Out H0 Ri H (Rs.blk qL [.i yX,.sl ⟨OF,GP,OH⟩]::Rs.own ⟨OG,GQ,OI⟩ eI.z OK::Rs.blk jF [.i Yx,.sl ⟨OG,GQ,OI⟩]::R0) λR=>ROs eI H R ⟨OF,GP,OH⟩ sp/\CR eI H R OK OJ) {r:abZ} (hp:aL.pj1 F  yX sp=some r):Rt (aL.j1 F (eB.tw F)  qL 0 jF 0 H) (aL.Q H0 Ri R0  r):=by
 obtain ⟨w0,s0,YA,abm⟩:=h0
 subst Yy
 subst Yz
 unfold aL.pj1 at hp
 unfold aL.j1
 refine lSl w0 0 ?_
 refine ax hp (λhp=>?_) λhp=>?_
 ·refine aA w0 2 λH1 w1 s1=>?_
  refine aA w1 2 λH2 w2 s2=>?_
  refine lI w2 2 ?_
  refine lSl w2 2 ?_
  obtain ⟨w3,s3⟩:=w2.nilS eI.z (by decide)
  obtain ⟨w4,s4⟩:=w3.pp [0] 4
  exact aw hp ⟨_,_,_,_,rfl,rfl,w4,(s0.trans (s1.trans (s2.trans (s3.trans s4)))),((CR.empty:CR eI _ _ [] []).step s4)⟩
 ·refine lI w0 0 ?_
  refine lSl w0 0 ?_
  obtain ⟨r5,e5,hp⟩:=ah hp
  refine aI (eB.P rfl ⟨w0,YA⟩ e5) ?_
  rintro _ H6 ⟨o0a_6,o0n_6,o0c_6,o0k_6,rfl,rfl,w6,s6,f6_0⟩
  refine br ?_
  refine fY (W.cons_of (Rn:=[_]) w0 w6 s6) ?_
  refine aA w6 3 λH8 w8 s8=>?_
  refine aA w8 3 λH9 w9 s9=>?_
  refine lI w9 3 ?_
  refine lSl w9 3 ?_
  obtain ⟨w10,s10⟩:=w9.pp [0] 4
  exact aw hp ⟨_,_,_,_,rfl,rfl,w10,(s0.trans (s6.trans (s8.trans (s9.trans s10)))),(f6_0.step (s8.trans (s9.trans s10)))⟩
def aL.pl14 (F:Nat) :Nat->Int->List Int->Option (Int×List Int)
 | 0,_,_=>none
 | k+1,oH,iW=>(bif (decide ((iW.length:Int)>0)) then ((ix iW (wrap .i64 ((iW.length:Int) - 1))).bind λn1=>(bif ((gt iW n1)==0) then ((cutf iW 0 (wrap .i64 ((iW.length:Int) - 1))).bind λl2=>aL.pl14 F k oH l2) else (aL.pj1 F oH iW))) else (aL.pj1 F oH iW))
theorem aL.l14_P  :∀ k,aL.S14 H0 Ri R0  (aL.l14 F (eB.tw F)  k) (aL.pl14 F  k):=by
 intro k
 induction k with
 | zero=>unfold aL.S14;intros;rename_i hp;cases hp
 | succ k ih=>
  intro oH OE GJ GK yV eL yW kX GL GM iW GN GO H YB YC h0 r hp
  obtain ⟨w0,s0,yY,GR⟩:=h0
  subst YB
  subst YC
  unfold aL.pl14 at hp
  unfold aL.l14
  refine lSl w0 0 ?_
  refine ax hp (λhp=>?_) λhp=>?_
  ·refine lSl w0 0 ?_
   refine lSl w0 0 ?_
   obtain ⟨n1,g1,hp⟩:=ah hp
   obtain ⟨p1,q1,i1,h1,j1⟩:=ROs.ixr yY rfl g1
   refine ai i1 ?_
   have h1:_=[_]:=h1
   subst h1
   refine ai (aH (j1 0 _ rfl)) ?_
   refine ax hp (λhp=>?_) λhp=>?_
   ·refine lSl w0 0 ?_
    refine lSl w0 0 ?_
    obtain ⟨l2,e2,hp⟩:=ah hp
    obtain ⟨a2,d2,h2,f2⟩:=ROs.cutf yY rfl e2
    refine ai h2 ?_
    refine aA w0 0 λH3 w3 s3=>?_
    exact ih rfl rfl ⟨w3,(s0.trans s3),(f2.step s3),(GR.step s3)⟩ hp
   ·exact aL.j1_P rfl rfl ⟨w0,s0,yY,GR⟩ hp
  ·exact aL.j1_P rfl rfl ⟨w0,s0,yY,GR⟩ hp
def aL.pj2 (F:Nat)  (yZ:Int) (uS:abU):Option (Int×List Int):=aL.pl14 F F yZ uS
theorem aL.j2_P   {yZ YD OM OO GS wu GT wv OP OQ uS OR OS} (YE:GS=uS.length) (YF:GT=OR.length) (h0:Out H0 Ri H (Rs.blk wu [.i yZ,.sl ⟨OM,GS,OP⟩]::Rs.own ⟨OO,GT,OQ⟩ eI.z OS::Rs.blk wv [.i YD,.sl ⟨OO,GT,OQ⟩]::R0) λR=>ROs eI H R ⟨OM,GS,OP⟩ uS/\CR eI H R OS OR) {r:abZ} (hp:aL.pj2 F  yZ uS=some r):Rt (aL.j2 F (eB.tw F)  wu 0 wv 0 H) (aL.Q H0 Ri R0  r):=by
 obtain ⟨w0,s0,YG,YH⟩:=h0
 subst YE
 subst YF
 unfold aL.pj2 at hp
 unfold aL.j2
 exact aL.l14_P F rfl rfl ⟨w0,s0,YG,YH⟩ hp
def aL.pl6 (F:Nat) :Nat->Int->List Int->Option (Int×List Int)
 | 0,_,_=>none
 | k+1,oG,jj=>(bif (decide ((jj.length:Int)>0)) then ((ix jj 0).bind λn1=>(bif ((gt jj n1)==0) then ((cutf jj 1 (jj.length:Int)).bind λl3=>aL.pl6 F k (wrap .i64 (oG+1)) l3) else (aL.pj2 F oG jj))) else (aL.pj2 F oG jj))
theorem aL.l6_P  :∀ k,aL.S6 H0 Ri R0  (aL.l6 F (eB.tw F)  k) (aL.pl6 F  k):=by
 intro k
 induction k with
 | zero=>unfold aL.S6;intros;rename_i hp;cases hp
 | succ k ih=>
  intro oG OD GD GE yT cK yU fk GF GG jj GH GI H YI YJ h0 r hp
  obtain ⟨w0,s0,y_,GU⟩:=h0
  subst YI
  subst YJ
  unfold aL.pl6 at hp
  unfold aL.l6
  refine lSl w0 0 ?_
  refine ax hp (λhp=>?_) λhp=>?_
  ·refine lSl w0 0 ?_
   obtain ⟨n1,g1,hp⟩:=ah hp
   obtain ⟨p1,q1,i1,h1,j1⟩:=ROs.ixr y_ rfl g1
   refine ai i1 ?_
   have h1:_=[_]:=h1
   subst h1
   refine ai (aH (j1 0 _ rfl)) ?_
   refine ax hp (λhp=>?_) λhp=>?_
   ·refine lI w0 0 ?_
    refine aA w0 0 λH2 w2 s2=>?_
    refine lSl w2 0 ?_
    obtain ⟨l3,e3,hp⟩:=ah hp
    obtain ⟨a3,d3,h3,f3⟩:=ROs.cutf (y_.step s2) rfl e3
    refine ai h3 ?_
    refine aA w2 0 λH4 w4 s4=>?_
    exact ih rfl rfl ⟨w4,(s0.trans (s2.trans s4)),(f3.step s4),(GU.step (s2.trans s4))⟩ hp
   ·exact aL.j2_P rfl rfl ⟨w0,s0,y_,GU⟩ hp
  ·exact aL.j2_P rfl rfl ⟨w0,s0,y_,GU⟩ hp
def aL.p (F:Nat) (ac:Int) (bk:abU):Option (Int×List Int):=aL.pl6 F F ac bk
theorem aL.P {ac eg cO el bk} (gv:cO=bk.length) (h0:Inn H R0 λR=>ROs eI H R ⟨eg,cO,el⟩ bk) {r:abZ} (hp:aL.p F ac bk=some r):Rt (aL.tw F ac ⟨eg,cO,el⟩ H) (aL.Q H R0 R0  r):=by
 obtain ⟨w0,eM⟩:=h0
 subst gv
 unfold aL.p at hp
 unfold aL.tw aL.twX
 have s0:=w0.rf
 refine a_ w0 λH1 w1 s1=>?_
 refine a_ w1 λH2 w2 s2=>?_
 obtain ⟨w3,s3⟩:=w2.nilS eI.z (by decide)
 obtain ⟨w4,s4⟩:=w3.pp [2,0,1] 3
 exact aL.l6_P F rfl rfl ⟨w4,(s0.trans (s1.trans (s2.trans (s3.trans s4)))),(eM.step (s1.trans (s2.trans (s3.trans s4)))),((CR.empty:CR eI _ _ [] []).step s4)⟩ hp
def db.Q (H0:Hp) (Ri R0:abR)  (r:abZ) (v:AV) (H':Hp):Prop:=∃ o1a:ON,∃ o1n:Nat,∃ o1c:Cap,∃ o1k:List AV,v=(.agg [(.i r.1),(.sl ⟨o1a,o1n,o1c⟩)])/\o1n=(r.2).length/\Out H0 Ri H' (Rs.own ⟨o1a,o1n,o1c⟩ eI.z o1k::R0) λR=>CR eI H' R o1k (r.2)
def db.p (F:Nat) (ac:Int) (aq:Int):Option (Int×List Int):=(aL.p F aq ([ac]:List Int)).bind λr4=>some (r4.1,r4.2)
theorem db.P {ac aq}  (h0:Inn H R0 λR=>True) {r:abZ} (hp:db.p F ac aq=some r):Rt (db.tw F ac aq H) (db.Q H R0 R0  r):=by
 obtain ⟨w0,_⟩:=h0
 unfold db.p at hp
 unfold db.tw db.twX
 have s0:=w0.rf
 refine a_ w0 λH1 w1 s1=>?_
 refine cI eI w1 (n:=1) (l:=([ac]:List Int)) rfl (CR.cons1 rfl CR.empty) rfl λH2 w2 s2 c2=>?_
 have f3:=W.borrow1 eI w2 c2
 obtain ⟨w3,s3⟩:=w2.right1
 obtain ⟨r4,e4,hp⟩:=ah hp
 refine aI (aL.P (show 1=List.length ([ac]:List Int) from rfl) ⟨w3,f3⟩ e4) ?_
 rintro _ H5 ⟨o1a_5,o1n_5,o1c_5,o1k_5,rfl,rfl,w5,s5,f5_0⟩
 obtain ⟨w6,s6⟩:=W.frame1 w2 w5 s5
 refine br (br (br (br (br ?_))))
 refine aA w6 2 λH7 w7 s7=>?_
 refine aA w7 2 λH8 w8 s8=>?_
 refine lI w8 2 ?_
 refine lSl w8 2 ?_
 obtain ⟨w9,s9⟩:=w8.pp [1] 3
 exact aw hp ⟨_,_,_,_,rfl,rfl,w9,(s0.trans (s1.trans (s2.trans (s6.trans (s7.trans (s8.trans s9)))))),((CR.flat (gE .i64) f5_0).step (s7.trans (s8.trans s9)))⟩
def fz.Q (H0:Hp) (Ri R0:abR)  (r:Int) (v:AV) (H':Hp):Prop:=v=(.i r)/\Out H0 Ri H' (R0) λR=>True
def fz.p (F:Nat) (af:abU):Option (Int):=some (af.length:Int)
theorem fz.P {ar aj au af} (aN:aj=af.length) (h0:Inn H R0 λR=>ROs eI H R ⟨ar,aj,au⟩ af) {r:Int} (hp:fz.p F af=some r):Rt (fz.tw F ⟨ar,aj,au⟩ H) (fz.Q H R0 R0  r):=by
 obtain ⟨w0,aG⟩:=h0
 subst aN
 unfold fz.p at hp
 unfold fz.tw fz.twX
 have s0:=w0.rf
 exact aw hp ⟨rfl,w0,s0,trivial⟩
def cn.Q (H0:Hp) (Ri R0:abR)  (r:Int) (v:AV) (H':Hp):Prop:=v=(.i r)/\Out H0 Ri H' (R0) λR=>True
def cn.p (F:Nat) (ac:Int) (bk:abU):Option (Int):=(fz.p F bk).bind λr2=>some (wrap .i64 ((wrap .i64 (ac+r2)) - 1))
theorem cn.P {ac eg cO el bk} (gv:cO=bk.length) (h0:Inn H R0 λR=>ROs eI H R ⟨eg,cO,el⟩ bk) {r:Int} (hp:cn.p F ac bk=some r):Rt (cn.tw F ac ⟨eg,cO,el⟩ H) (cn.Q H R0 R0  r):=by
 obtain ⟨w0,eM⟩:=h0
 subst gv
 unfold cn.p at hp
 unfold cn.tw cn.twX
 have s0:=w0.rf
 refine a_ w0 λH1 w1 s1=>?_
 refine lI w1 0 ?_
 refine lSl w1 0 ?_
 obtain ⟨r2,e2,hp⟩:=ah hp
 refine aI (fz.P rfl ⟨w1,(eM.step s1)⟩ e2) ?_
 rintro _ H3 ⟨rfl,w3,s3,_⟩
 refine br ?_
 refine fY (W.cons_of (Rn:=[]) w1 w3 s3) ?_
 obtain ⟨w5,s5⟩:=w3.pp [] 1
 exact aw hp ⟨rfl,w5,(s0.trans (s1.trans (s3.trans s5))),trivial⟩
def ef.Q (H0:Hp) (Ri R0:abR)  (r:Bool) (v:AV) (H':Hp):Prop:=v=(.bool r)/\Out H0 Ri H' (R0) λR=>True
def ef.p (F:Nat) (ac:Int):Option (Bool):=(de.p F ac (-1000000000000) 1000000000000).bind λr1=>some (!r1)
theorem ef.P {ac}  (h0:Inn H R0 λR=>True) {r:Bool} (hp:ef.p F ac=some r):Rt (ef.tw F ac H) (ef.Q H R0 R0  r):=by
 obtain ⟨w0,_⟩:=h0
 unfold ef.p at hp
 unfold ef.tw ef.twX
 have s0:=w0.rf
 obtain ⟨r1,e1,hp⟩:=ah hp
 refine aI (de.P ⟨w0,trivial⟩ e1) ?_
 rintro _ H2 ⟨rfl,w2,s2,_⟩
 refine br ?_
 exact aw hp ⟨rfl,w2,(s0.trans s2),trivial⟩
def bN.Q (H0:Hp) (Ri R0:abR)  (r:Int) (v:AV) (H':Hp):Prop:=v=(.i r)/\Out H0 Ri H' (R0) λR=>True
def bN.S13 (H0:Hp) (Ri R0:abR)  (C:abY) (pC:acT):Prop:=∀ {kd ij ke ed cN bW},∀ {H:Hp},ij=ed.length->(Out H0 Ri H R0 λR=>ROs eI H R ⟨kd,ij,ke⟩ ed)->∀ {r:Int},pC ed cN bW=some r->Rt (C ⟨kd,ij,ke⟩ cN bW H) (bN.Q H0 Ri R0  r)
def bN.pl13 (F:Nat) :Nat->List Int->Int->Int->Option (Int)
 | 0,_,_,_=>none
 | k+1,ed,cN,bW=>(bif (decide (bW<cN)) then ((ix ed bW).bind λn1=>(ef.p F (gt ed n1)).bind λr2=>(bif r2 then (some bW) else (bN.pl13 F k ed cN (wrap .i64 (bW+1))))) else (some (-1)))
theorem bN.l13_P  :∀ k,bN.S13 H0 Ri R0  (bN.l13 F (ef.tw F)  k) (bN.pl13 F  k):=by
 intro k
 induction k with
 | zero=>unfold bN.S13;intros;rename_i hp;cases hp
 | succ k ih=>
  intro kd ij ke ed cN bW H uC h0 r hp
  obtain ⟨w0,s0,mA⟩:=h0
  subst uC
  unfold bN.pl13 at hp
  unfold bN.l13
  refine ax hp (λhp=>?_) λhp=>?_
  ·obtain ⟨n1,g1,hp⟩:=ah hp
   obtain ⟨p1,q1,i1,h1,j1⟩:=ROs.ixr mA rfl g1
   refine ai i1 ?_
   have h1:_=[_]:=h1
   subst h1
   refine ai (aH (j1 0 _ rfl)) ?_
   obtain ⟨r2,e2,hp⟩:=ah hp
   refine aI (ef.P ⟨w0,trivial⟩ e2) ?_
   rintro _ H3 ⟨rfl,w3,s3,_⟩
   refine br ?_
   refine ax hp (λhp=>?_) λhp=>?_
   ·exact aw hp ⟨rfl,w3,(s0.trans s3),trivial⟩
   ·exact ih rfl ⟨w3,(s0.trans s3),(mA.step s3)⟩ hp
  ·exact aw hp ⟨rfl,w0,s0,trivial⟩
def bN.p (F:Nat) (af:abU):Option (Int):=bN.pl13 F F af (af.length:Int) 0
theorem bN.P {ar aj au af} (aN:aj=af.length) (h0:Inn H R0 λR=>ROs eI H R ⟨ar,aj,au⟩ af) {r:Int} (hp:bN.p F af=some r):Rt (bN.tw F ⟨ar,aj,au⟩ H) (bN.Q H R0 R0  r):=by
 obtain ⟨w0,aG⟩:=h0
 subst aN
 unfold bN.p at hp
 unfold bN.tw bN.twX
 have s0:=w0.rf
 exact bN.l13_P F rfl ⟨w0,s0,aG⟩ hp
def eC.Q (H0:Hp) (Ri R0:abR)  (r:Bool) (v:AV) (H':Hp):Prop:=v=(.bool r)/\Out H0 Ri H' (R0) λR=>True
def eC.p (F:Nat) (af:abU):Option (Bool):=(bN.p F af).bind λr1=>some (decide (r1>=0))
theorem eC.P {ar aj au af} (aN:aj=af.length) (h0:Inn H R0 λR=>ROs eI H R ⟨ar,aj,au⟩ af) {r:Bool} (hp:eC.p F af=some r):Rt (eC.tw F ⟨ar,aj,au⟩ H) (eC.Q H R0 R0  r):=by
 obtain ⟨w0,aG⟩:=h0
 subst aN
 unfold eC.p at hp
 unfold eC.tw eC.twX
 have s0:=w0.rf
 obtain ⟨r1,e1,hp⟩:=ah hp
 refine aI (bN.P rfl ⟨w0,aG⟩ e1) ?_
 rintro _ H2 ⟨rfl,w2,s2,_⟩
 refine br ?_
 exact aw hp ⟨rfl,w2,(s0.trans s2),trivial⟩
def dD.Q (H0:Hp) (Ri R0:abR)  (r:Bool) (v:AV) (H':Hp):Prop:=v=(.bool r)/\Out H0 Ri H' (R0) λR=>True
def dD.p (F:Nat) (ac:Int) (bk:abU):Option (Bool):=(bif ((bk.length:Int)==0) then (some (ac==0)) else ((bif (decide ((bk.length:Int)<=160)) then ((ix bk 0).bind λn3=>(bif ((gt bk n3) != 0) then ((ix bk (wrap .i64 ((bk.length:Int) - 1))).bind λn4=>(bif ((gt bk n4) != 0) then ((bif (decide (ac>=(-240))) then ((cn.p F ac bk).bind λr5=>(bif (decide (r5<=240)) then ((bif (decide (ac<=240)) then ((eC.p F bk).bind λr7=>some (!r7)) else (some false))) else (some false))) else (some false))) else (some false))) else (some false))) else (some false))))
theorem dD.P {ac eg cO el bk} (gv:cO=bk.length) (h0:Inn H R0 λR=>ROs eI H R ⟨eg,cO,el⟩ bk) {r:Bool} (hp:dD.p F ac bk=some r):Rt (dD.tw F ac ⟨eg,cO,el⟩ H) (dD.Q H R0 R0  r):=by
 obtain ⟨w0,eM⟩:=h0
 subst gv
 unfold dD.p at hp
 unfold dD.tw dD.twX
 have s0:=w0.rf
 refine a_ w0 λH1 w1 s1=>?_
 refine lSl w1 0 ?_
 refine ax hp (λhp=>?_) λhp=>?_
 ·refine lI w1 0 ?_
  obtain ⟨w2,s2⟩:=w1.pp [] 1
  exact aw hp ⟨rfl,w2,(s0.trans (s1.trans s2)),trivial⟩
 ·refine ax hp (λhp=>?_) λhp=>?_
  ·refine lSl w1 0 ?_
   obtain ⟨n3,g3,hp⟩:=ah hp
   obtain ⟨p3,q3,i3,h3,j3⟩:=ROs.ixr (eM.step s1) rfl g3
   refine ai i3 ?_
   have h3:_=[_]:=h3
   subst h3
   refine ai (aH (j3 0 _ rfl)) ?_
   refine ax hp (λhp=>?_) λhp=>?_
   ·refine lSl w1 0 ?_
    obtain ⟨n4,g4,hp⟩:=ah hp
    obtain ⟨p4,q4,i4,h4,j4⟩:=ROs.ixr (eM.step s1) rfl g4
    refine ai i4 ?_
    have h4:_=[_]:=h4
    subst h4
    refine ai (aH (j4 0 _ rfl)) ?_
    refine ax hp (λhp=>?_) λhp=>?_
    ·refine lI w1 0 ?_
     refine ax hp (λhp=>?_) λhp=>?_
     ·refine lI w1 0 ?_
      refine lSl w1 0 ?_
      obtain ⟨r5,e5,hp⟩:=ah hp
      refine aI (cn.P rfl ⟨w1,(eM.step s1)⟩ e5) ?_
      rintro _ H6 ⟨rfl,w6,s6,_⟩
      refine br ?_
      refine ax hp (λhp=>?_) λhp=>?_
      ·refine lI w6 0 ?_
       refine ax hp (λhp=>?_) λhp=>?_
       ·refine lSl w6 0 ?_
        obtain ⟨r7,e7,hp⟩:=ah hp
        refine aI (eC.P rfl ⟨w6,(eM.step (s1.trans s6))⟩ e7) ?_
        rintro _ H8 ⟨rfl,w8,s8,_⟩
        refine br ?_
        obtain ⟨w9,s9⟩:=w8.pp [] 1
        exact aw hp ⟨rfl,w9,(s0.trans (s1.trans (s6.trans (s8.trans s9)))),trivial⟩
       ·obtain ⟨w10,s10⟩:=w6.pp [] 1
        exact aw hp ⟨rfl,w10,(s0.trans (s1.trans (s6.trans s10))),trivial⟩
      ·obtain ⟨w11,s11⟩:=w6.pp [] 1
       exact aw hp ⟨rfl,w11,(s0.trans (s1.trans (s6.trans s11))),trivial⟩
     ·obtain ⟨w12,s12⟩:=w1.pp [] 1
      exact aw hp ⟨rfl,w12,(s0.trans (s1.trans s12)),trivial⟩
    ·obtain ⟨w13,s13⟩:=w1.pp [] 1
     exact aw hp ⟨rfl,w13,(s0.trans (s1.trans s13)),trivial⟩
   ·obtain ⟨w14,s14⟩:=w1.pp [] 1
    exact aw hp ⟨rfl,w14,(s0.trans (s1.trans s14)),trivial⟩
  ·obtain ⟨w15,s15⟩:=w1.pp [] 1
   exact aw hp ⟨rfl,w15,(s0.trans (s1.trans s15)),trivial⟩
def dY.Q (H0:Hp) (Ri R0:abR)  (r:Bool) (v:AV) (H':Hp):Prop:=v=(.bool r)/\Out H0 Ri H' (R0) λR=>True
def dY.p (F:Nat) (ac:Int) (bk:abU):Option (Bool):=(dD.p F ac bk).bind λr2=>some (!r2)
theorem dY.P {ac eg cO el bk} (gv:cO=bk.length) (h0:Inn H R0 λR=>ROs eI H R ⟨eg,cO,el⟩ bk) {r:Bool} (hp:dY.p F ac bk=some r):Rt (dY.tw F ac ⟨eg,cO,el⟩ H) (dY.Q H R0 R0  r):=by
 obtain ⟨w0,eM⟩:=h0
 subst gv
 unfold dY.p at hp
 unfold dY.tw dY.twX
 have s0:=w0.rf
 refine a_ w0 λH1 w1 s1=>?_
 refine lI w1 0 ?_
 refine lSl w1 0 ?_
 obtain ⟨r2,e2,hp⟩:=ah hp
 refine aI (dD.P rfl ⟨w1,(eM.step s1)⟩ e2) ?_
 rintro _ H3 ⟨rfl,w3,s3,_⟩
 refine br ?_
 obtain ⟨w4,s4⟩:=w3.pp [] 1
 exact aw hp ⟨rfl,w4,(s0.trans (s1.trans (s3.trans s4))),trivial⟩
def bK.Q (H0:Hp) (Ri R0:abR)  (r:Int) (v:AV) (H':Hp):Prop:=v=(.i r)/\Out H0 Ri H' (R0) λR=>True
def bK.S13 (H0:Hp) (Ri R0:abR)  (C:abY) (pC:ac0):Prop:=∀ {kd ij ke ed cN bW},∀ {H:Hp},ij=ed.length->(Out H0 Ri H R0 λR=>ROs (aa eI (eSl eI)) H R ⟨kd,ij,ke⟩ ed)->∀ {r:Int},pC ed cN bW=some r->Rt (C ⟨kd,ij,ke⟩ cN bW H) (bK.Q H0 Ri R0  r)
def bK.pl13 (F:Nat) :Nat->List (Int×List Int)->Int->Int->Option (Int)
 | 0,_,_,_=>none
 | k+1,ed,cN,bW=>(bif (decide (bW<cN)) then ((ix ed bW).bind λn1=>(dY.p F ((gt ed n1).1) ((gt ed n1).2)).bind λr2=>(bif r2 then (some bW) else (bK.pl13 F k ed cN (wrap .i64 (bW+1))))) else (some (-1)))
theorem bK.l13_P  :∀ k,bK.S13 H0 Ri R0  (bK.l13 F (dY.tw F)  k) (bK.pl13 F  k):=by
 intro k
 induction k with
 | zero=>unfold bK.S13;intros;rename_i hp;cases hp
 | succ k ih=>
  intro kd ij ke ed cN bW H uC h0 r hp
  obtain ⟨w0,s0,mA⟩:=h0
  subst uC
  unfold bK.pl13 at hp
  unfold bK.l13
  refine ax hp (λhp=>?_) λhp=>?_
  ·obtain ⟨n1,g1,hp⟩:=ah hp
   obtain ⟨p1,q1,i1,h1,j1⟩:=ROs.ixr mA rfl g1
   refine ai i1 ?_
   obtain ⟨_,_,rfl,rfl,⟨⟨GV,m1_1,c1_1⟩,rfl,f1_1⟩⟩:=h1
   obtain rfl:m1_1=_:=f1_1.n
   refine ai (aH (j1 0 _ rfl)) ?_
   refine ai (il (j1 1 _ rfl)) ?_
   obtain ⟨r2,e2,hp⟩:=ah hp
   refine aI (dY.P rfl ⟨w0,f1_1⟩ e2) ?_
   rintro _ H3 ⟨rfl,w3,s3,_⟩
   refine br ?_
   refine ax hp (λhp=>?_) λhp=>?_
   ·exact aw hp ⟨rfl,w3,(s0.trans s3),trivial⟩
   ·exact ih rfl ⟨w3,(s0.trans s3),(mA.step s3)⟩ hp
  ·exact aw hp ⟨rfl,w0,s0,trivial⟩
def bK.p (F:Nat) (af:acg):Option (Int):=bK.pl13 F F af (af.length:Int) 0
theorem bK.P {ar aj au af} (aN:aj=af.length) (h0:Inn H R0 λR=>ROs (aa eI (eSl eI)) H R ⟨ar,aj,au⟩ af) {r:Int} (hp:bK.p F af=some r):Rt (bK.tw F ⟨ar,aj,au⟩ H) (bK.Q H R0 R0  r):=by
 obtain ⟨w0,aG⟩:=h0
 subst aN
 unfold bK.p at hp
 unfold bK.tw bK.twX
 have s0:=w0.rf
 exact bK.l13_P F rfl ⟨w0,s0,aG⟩ hp
def eD.Q (H0:Hp) (Ri R0:abR)  (r:Bool) (v:AV) (H':Hp):Prop:=v=(.bool r)/\Out H0 Ri H' (R0) λR=>True
def eD.p (F:Nat) (af:acg):Option (Bool):=(bK.p F af).bind λr1=>some (decide (r1>=0))
theorem eD.P {ar aj au af} (aN:aj=af.length) (h0:Inn H R0 λR=>ROs (aa eI (eSl eI)) H R ⟨ar,aj,au⟩ af) {r:Bool} (hp:eD.p F af=some r):Rt (eD.tw F ⟨ar,aj,au⟩ H) (eD.Q H R0 R0  r):=by
 obtain ⟨w0,aG⟩:=h0
 subst aN
 unfold eD.p at hp
 unfold eD.tw eD.twX
 have s0:=w0.rf
 obtain ⟨r1,e1,hp⟩:=ah hp
 refine aI (bK.P rfl ⟨w0,aG⟩ e1) ?_
 rintro _ H2 ⟨rfl,w2,s2,_⟩
 refine br ?_
 exact aw hp ⟨rfl,w2,(s0.trans s2),trivial⟩
def dr.Q (H0:Hp) (Ri R0:abR)  (r:Bool) (v:AV) (H':Hp):Prop:=v=(.bool r)/\Out H0 Ri H' (R0) λR=>True
def dr.p (F:Nat) (af:acg):Option (Bool):=(eD.p F af).bind λr1=>some (!r1)
theorem dr.P {ar aj au af} (aN:aj=af.length) (h0:Inn H R0 λR=>ROs (aa eI (eSl eI)) H R ⟨ar,aj,au⟩ af) {r:Bool} (hp:dr.p F af=some r):Rt (dr.tw F ⟨ar,aj,au⟩ H) (dr.Q H R0 R0  r):=by
 obtain ⟨w0,aG⟩:=h0
 subst aN
 unfold dr.p at hp
 unfold dr.tw dr.twX
 have s0:=w0.rf
 obtain ⟨r1,e1,hp⟩:=ah hp
 refine aI (eD.P rfl ⟨w0,aG⟩ e1) ?_
 rintro _ H2 ⟨rfl,w2,s2,_⟩
 refine br ?_
 exact aw hp ⟨rfl,w2,(s0.trans s2),trivial⟩
def dE.Q (H0:Hp) (Ri R0:abR)  (r:acl) (v:AV) (H':Hp):Prop:=∃ o1a:ON,∃ o1n:Nat,∃ o1c:Cap,∃ o1k:List AV,v=(.tup [(.agg [(.i r.1),(.sl ⟨o1a,o1n,o1c⟩)]),(.i r.2.2)])/\o1n=(r.2.1).length/\Out H0 Ri H' (Rs.own ⟨o1a,o1n,o1c⟩ eI.z o1k::R0) λR=>CR eI H' R o1k (r.2.1)
def dE.p (F:Nat) (ac:Int) (bk:abU):Option (Int×List Int×Int):=(aL.p F ac bk).bind λr3=>(dD.p F r3.1 r3.2).bind λr8=>(bif (!r8) then (some (0,([]:List Int),3)) else (some (r3.1,r3.2,0)))
theorem dE.P {ac eg cO el bk} (gv:cO=bk.length) (h0:Inn H R0 λR=>ROs eI H R ⟨eg,cO,el⟩ bk) {r:acl} (hp:dE.p F ac bk=some r):Rt (dE.tw F ac ⟨eg,cO,el⟩ H) (dE.Q H R0 R0  r):=by
 obtain ⟨w0,eM⟩:=h0
 subst gv
 unfold dE.p at hp
 unfold dE.tw dE.twX
 have s0:=w0.rf
 refine a_ w0 λH1 w1 s1=>?_
 refine a_ w1 λH2 w2 s2=>?_
 refine lI w2 1 ?_
 refine lSl w2 1 ?_
 obtain ⟨r3,e3,hp⟩:=ah hp
 refine aI (aL.P rfl ⟨w2,(eM.step (s1.trans s2))⟩ e3) ?_
 rintro _ H4 ⟨o1a_4,o1n_4,o1c_4,o1k_4,rfl,rfl,w4,s4,f4_0⟩
 refine br (br (br (br (br ?_))))
 refine aA w4 2 λH5 w5 s5=>?_
 refine aA w5 2 λH6 w6 s6=>?_
 refine lI w6 2 ?_
 refine lSl w6 2 ?_
 have f7:=W.borrow1 eI w6 (f4_0.step (s5.trans s6))
 obtain ⟨w7,s7⟩:=w6.right1
 obtain ⟨r8,e8,hp⟩:=ah hp
 refine aI (dD.P rfl ⟨w7,f7⟩ e8) ?_
 rintro _ H9 ⟨rfl,w9,s9,_⟩
 obtain ⟨w10,s10⟩:=W.frame1 w6 w9 s9
 refine br ?_
 refine ax hp (λhp=>?_) λhp=>?_
 ·refine aA w10 1 λH11 w11 s11=>?_
  refine aA w11 1 λH12 w12 s12=>?_
  refine lI w12 1 ?_
  refine lSl w12 1 ?_
  obtain ⟨w13,s13⟩:=w12.nilS eI.z (by decide)
  obtain ⟨w14,s14⟩:=w13.pp [0] 4
  exact aw hp ⟨_,_,_,_,rfl,rfl,w14,(s0.trans (s1.trans (s2.trans (s4.trans (s5.trans (s6.trans (s10.trans (s11.trans (s12.trans (s13.trans s14)))))))))),((CR.empty:CR eI _ _ [] []).step s14)⟩
 ·refine lI w10 2 ?_
  refine lSl w10 2 ?_
  refine aA w10 1 λH15 w15 s15=>?_
  refine aA w15 1 λH16 w16 s16=>?_
  refine lI w16 1 ?_
  refine lSl w16 1 ?_
  obtain ⟨w17,s17⟩:=w16.pp [0] 3
  exact aw hp ⟨_,_,_,_,rfl,rfl,w17,(s0.trans (s1.trans (s2.trans (s4.trans (s5.trans (s6.trans (s10.trans (s15.trans (s16.trans s17))))))))),(f4_0.step (s5.trans (s6.trans (s10.trans (s15.trans (s16.trans s17))))))⟩
def aE.Q (H0:Hp) (Ri R0:abR)  (r:acl) (v:AV) (H':Hp):Prop:=∃ o1a:ON,∃ o1n:Nat,∃ o1c:Cap,∃ o1k:List AV,v=(.tup [(.agg [(.i r.1),(.sl ⟨o1a,o1n,o1c⟩)]),(.i r.2.2)])/\o1n=(r.2.1).length/\Out H0 Ri H' (Rs.own ⟨o1a,o1n,o1c⟩ eI.z o1k::R0) λR=>CR eI H' R o1k (r.2.1)
def aE.S125 (H0:Hp) (Ri R0:abR)  (C:acs) (pC:acz):Prop:=∀ {OU kZ sq jK iQ GW GX GY za ml zb mm zd GZ G_ Ha Hb oI Hc Hd He kH},∀ {H:Hp},za=Hb.length->zb=oI.length->zd=kH.length->(Out H0 Ri H (Rs.own ⟨GW,za,GZ⟩ eI.z Hc::Rs.blk ml [.i OU,.sl ⟨GW,za,GZ⟩]::Rs.own ⟨GX,zb,G_⟩ eI.z Hd::Rs.blk mm [.i sq,.sl ⟨GX,zb,G_⟩]::Rs.own ⟨GY,zd,Ha⟩ (aa eI (eSl eI)).z He::R0) λR=>CR eI H R Hc Hb/\CR eI H R Hd oI/\CR (aa eI (eSl eI)) H R He kH)->∀ {r:acl},pC kZ sq oI kH jK iQ=some r->Rt (C ml 0 kZ mm 0 ⟨GY,zd,Ha⟩ jK iQ H) (aE.Q H0 Ri R0  r)
def aE.S8027 (H0:Hp) (Ri R0:abR)  (C:Nat->Nat->Int->Nat->Nat->Sl->Int->Int->Nat->Nat->Sl->Int->Int->Hp->OA) (pC:Int->Int->List Int->List (Int×List Int)->Int->Int->Int->List Int->Int->Int->Option (Int×List Int×Int)):Prop:=∀ {OW gX su jH jI oJ jJ gp Hf Hg Hh ze zf mi zg kY zh uT mj Hj Hk Hl zi Hm kI mJ Hn Ho Hq oK},∀ {H:Hp},zf=Hm.length->zg=kI.length->zh=oK.length->uT=mJ.length->(Out H0 Ri H (Rs.own ⟨Hf,zf,Hj⟩ eI.z Hn::Rs.blk mi [.i OW,.sl ⟨Hf,zf,Hj⟩]::Rs.own ⟨Hg,zg,Hk⟩ eI.z Ho::Rs.blk kY [.i su,.sl ⟨Hg,zg,Hk⟩]::Rs.own ⟨Hh,zh,Hl⟩ (aa eI (eSl eI)).z Hq::Rs.blk mj [.i oJ,.sl ⟨ze,uT,zi⟩]::R0) λR=>CR eI H R Hn Hm/\CR eI H R Ho kI/\CR (aa eI (eSl eI)) H R Hq oK/\ROs eI H R ⟨ze,uT,zi⟩ mJ)->∀ {r:acl},pC gX su kI oK jH jI oJ mJ jJ gp=some r->Rt (C mi 0 gX kY 0 ⟨Hh,zh,Hl⟩ jH jI mj 0 ⟨ze,uT,zi⟩ jJ gp H) (aE.Q H0 Ri R0  r)
def aE.pj4 (F:Nat) (dv:acz) (qR:Int) (zj:Int) (uU:abU) (uV:acg) (qS:Int) (qT:Int):Option (Int×List Int×Int):=dv qR zj uU uV qS (wrap .i64 (qT+1))
theorem aE.j4_P  {C125_:acs} {dv:acz} (hC125:aE.S125 H0 Ri R0  C125_ dv) {YK qR zj qS qT OX OY OZ Hr wx Hs wy Ht O_ Pa Pb Pc uU Pd Pe Pf uV} (YL:Hr=Pc.length) (YM:Hs=uU.length) (YN:Ht=uV.length) (h0:Out H0 Ri H (Rs.own ⟨OX,Hr,O_⟩ eI.z Pd::Rs.blk wx [.i YK,.sl ⟨OX,Hr,O_⟩]::Rs.own ⟨OY,Hs,Pa⟩ eI.z Pe::Rs.blk wy [.i zj,.sl ⟨OY,Hs,Pa⟩]::Rs.own ⟨OZ,Ht,Pb⟩ (aa eI (eSl eI)).z Pf::R0) λR=>CR eI H R Pd Pc/\CR eI H R Pe uU/\CR (aa eI (eSl eI)) H R Pf uV) {r:acl} (hp:aE.pj4 F dv qR zj uU uV qS qT=some r):Rt (aE.j4 F (dr.tw F) (cn.tw F) (dE.tw F) C125_ wx 0 qR wy 0 ⟨OZ,Ht,Pb⟩ qS qT H) (aE.Q H0 Ri R0  r):=by
 obtain ⟨w0,s0,YO,YP,YQ⟩:=h0
 subst YL
 subst YM
 subst YN
 unfold aE.pj4 at hp
 unfold aE.j4
 exact hC125 rfl rfl rfl ⟨w0,s0,YO,YP,YQ⟩ hp
def aE.pj5 (F:Nat) (dv:acz) (qU:Int) (zk:Int) (uW:abU) (uX:acg) (qV:Int) (qW:Int):Option (Int×List Int×Int):=aE.pj4 F dv qU zk uW uX qV qW
theorem aE.j5_P  {C125_:acs} {dv:acz} (hC125:aE.S125 H0 Ri R0  C125_ dv) {YR qU zk qV qW Pg Ph Pi Hu wz Hv wA Hw Pj Pm Pn Pp uW Pq Pr Ps uX} (YS:Hu=Pp.length) (YT:Hv=uW.length) (YU:Hw=uX.length) (h0:Out H0 Ri H (Rs.own ⟨Pg,Hu,Pj⟩ eI.z Pq::Rs.blk wz [.i YR,.sl ⟨Pg,Hu,Pj⟩]::Rs.own ⟨Ph,Hv,Pm⟩ eI.z Pr::Rs.blk wA [.i zk,.sl ⟨Ph,Hv,Pm⟩]::Rs.own ⟨Pi,Hw,Pn⟩ (aa eI (eSl eI)).z Ps::R0) λR=>CR eI H R Pq Pp/\CR eI H R Pr uW/\CR (aa eI (eSl eI)) H R Ps uX) {r:acl} (hp:aE.pj5 F dv qU zk uW uX qV qW=some r):Rt (aE.j5 F (dr.tw F) (cn.tw F) (dE.tw F) C125_ wz 0 qU wA 0 ⟨Pi,Hw,Pn⟩ qV qW H) (aE.Q H0 Ri R0  r):=by
 obtain ⟨w0,s0,YV,YW,YX⟩:=h0
 subst YS
 subst YT
 subst YU
 unfold aE.pj5 at hp
 unfold aE.j5
 exact aE.j4_P (@hC125) rfl rfl rfl ⟨w0,s0,YV,YW,YX⟩ hp
def aE.pl8027 (F:Nat) (dv:acz):Nat->Int->Int->List Int->List (Int×List Int)->Int->Int->Int->List Int->Int->Int->Option (Int×List Int×Int)
 | 0,_,_,_,_,_,_,_,_,_,_=>none
 | k+1,gX,su,kI,oK,jH,jI,oJ,mJ,jJ,gp=>(bif (decide (gp<jJ)) then ((ix mJ gp).bind λn1=>(ix kI (wrap .i64 ((wrap .i64 (oJ - gX))+gp))).bind λn2=>(ix kI (wrap .i64 ((wrap .i64 (oJ - gX))+gp))).bind λn3=>(some (kI.set n3 (wrap .i64 ((gt kI n2)+(gt mJ n1))))).bind λl4=>aE.pl8027 F dv k gX su l4 oK jH jI oJ mJ jJ (wrap .i64 (gp+1))) else (aE.pj5 F dv gX su kI oK jH jI))
theorem aE.l8027_P  {C125_:acs} {dv:acz} (hC125:aE.S125 H0 Ri R0  C125_ dv):∀ k,aE.S8027 H0 Ri R0  (aE.l8027 F (dr.tw F) (cn.tw F) (dE.tw F) C125_ k) (aE.pl8027 F dv k):=by
 intro k
 induction k with
 | zero=>unfold aE.S8027;intros;rename_i hp;cases hp
 | succ k ih=>
  intro OW gX su jH jI oJ jJ gp Hf Hg Hh ze zf mi zg kY zh uT mj Hj Hk Hl zi Hm kI mJ Hn Ho Hq oK H YY YZ Y_ Za h0 r hp
  obtain ⟨w0,s0,Pt,zm,Pu,Pv⟩:=h0
  subst YY
  subst YZ
  subst Y_
  subst Za
  unfold aE.pl8027 at hp
  unfold aE.l8027
  refine ax hp (λhp=>?_) λhp=>?_
  ·obtain ⟨n1,g1,hp⟩:=ah hp
   obtain ⟨p1,q1,i1,h1,j1⟩:=ROs.ixr Pv rfl g1
   refine ai i1 ?_
   have h1:_=[_]:=h1
   subst h1
   refine ai (aH (j1 0 _ rfl)) ?_
   refine lSl w0 3 ?_
   refine lI w0 5 ?_
   obtain ⟨n2,g2,hp⟩:=ah hp
   obtain ⟨p2,q2,i2,h2,j2⟩:=W.ixo (E:=eI) w0 (i:=2) rfl rfl zm g2
   refine ai i2 ?_
   have h2:_=[_]:=h2
   subst h2
   refine ai (aH (j2 0 _ rfl)) ?_
   obtain ⟨n3,g3,hp⟩:=ah hp
   obtain ⟨p3,q3,i3,h3,j3⟩:=W.ixo (E:=eI) w0 (i:=2) rfl rfl zm g3
   refine ai i3 ?_
   obtain ⟨l4,e4,hp⟩:=ah hp
   refine eA eI w0 (i:=2) (j:=0) (p:=p3) rfl rfl zm g3 i3 e4 rfl rfl (λ_ h=>by have h:_=[_]:=h;subst h;exact rfl) λH5 k5 w5 s5 c5=>?_
   exact ih rfl ((cE e4).symm) rfl rfl ⟨w5,(s0.trans s5),(Pt.step s5),c5,(Pu.step s5),(Pv.step s5)⟩ hp
  ·obtain ⟨w6,s6⟩:=w0.pp [0,1,2,3,4] 6
   exact aE.j5_P (@hC125) rfl rfl rfl ⟨w6,(s0.trans s6),(Pt.step s6),(zm.step s6),(Pu.step s6)⟩ hp
def aE.pj3 (F:Nat)  (zn:Int) (uY:abU):Option (Int×List Int×Int):=(dE.p F zn uY).bind λr3=>some (r3.1,r3.2.1,r3.2.2)
theorem aE.j3_P   {Zb zn Pw Px Hy nn Hz ti Py Pz PA uY PB PC} (Zc:Hy=PA.length) (Zd:Hz=uY.length) (h0:Out H0 Ri H (Rs.own ⟨Pw,Hy,Py⟩ eI.z PB::Rs.blk nn [.i Zb,.sl ⟨Pw,Hy,Py⟩]::Rs.own ⟨Px,Hz,Pz⟩ eI.z PC::Rs.blk ti [.i zn,.sl ⟨Px,Hz,Pz⟩]::R0) λR=>CR eI H R PB PA/\CR eI H R PC uY) {r:acl} (hp:aE.pj3 F  zn uY=some r):Rt (aE.j3 F (dr.tw F) (cn.tw F) (dE.tw F)  nn 0 ti 0 H) (aE.Q H0 Ri R0  r):=by
 obtain ⟨w0,s0,abn,Ze⟩:=h0
 subst Zc
 subst Zd
 unfold aE.pj3 at hp
 unfold aE.j3
 refine lI w0 3 ?_
 refine lSl w0 3 ?_
 obtain ⟨w1,s1⟩:=w0.pp [2,0,1,3] 4
 have f2:=W.borrow1 eI w1 (Ze.step s1)
 obtain ⟨w2,s2⟩:=w1.right1
 obtain ⟨r3,e3,hp⟩:=ah hp
 refine aI (dE.P rfl ⟨w2,f2⟩ e3) ?_
 rintro _ H4 ⟨o1a_4,o1n_4,o1c_4,o1k_4,rfl,rfl,w4,s4,f4_0⟩
 obtain ⟨w5,s5⟩:=W.frame1 w1 w4 s4
 refine br (br (br (br (br (br (br (br (br ?_))))))))
 refine aA w5 3 λH6 w6 s6=>?_
 refine aA w6 3 λH7 w7 s7=>?_
 refine lI w7 3 ?_
 refine lSl w7 3 ?_
 obtain ⟨w8,s8⟩:=w7.pp [1] 5
 exact aw hp ⟨_,_,_,_,rfl,rfl,w8,(s0.trans (s1.trans (s5.trans (s6.trans (s7.trans s8))))),((CR.flat (gE .i64) f4_0).step (s6.trans (s7.trans s8)))⟩
def aE.pl125 (F:Nat) :Nat->Int->Int->List Int->List (Int×List Int)->Int->Int->Option (Int×List Int×Int)
 | 0,_,_,_,_,_,_=>none
 | k+1,kZ,sq,oI,kH,jK,iQ=>(bif (decide (iQ<jK)) then ((ix kH iQ).bind λn1=>aE.pl8027 F (aE.pl125 F k) F kZ sq oI kH jK iQ ((gt kH n1).1) ((gt kH n1).2) ((((gt kH n1).2).length):Int) 0) else (aE.pj3 F sq oI))
theorem aE.l125_P  :∀ k,aE.S125 H0 Ri R0  (aE.l125 F (dr.tw F) (cn.tw F) (dE.tw F)  k) (aE.pl125 F  k):=by
 intro k
 induction k with
 | zero=>unfold aE.S125;intros;rename_i hp;cases hp
 | succ k ih=>
  intro OU kZ sq jK iQ GW GX GY za ml zb mm zd GZ G_ Ha Hb oI Hc Hd He kH H Zf Zg Zh h0 r hp
  obtain ⟨w0,s0,PD,PE,PF⟩:=h0
  subst Zf
  subst Zg
  subst Zh
  unfold aE.pl125 at hp
  unfold aE.l125
  refine ax hp (λhp=>?_) λhp=>?_
  ·obtain ⟨n1,g1,hp⟩:=ah hp
   obtain ⟨p1,q1,i1,h1,j1⟩:=W.ixo (E:=(aa eI (eSl eI))) w0 (i:=4) rfl rfl PF g1
   refine ai i1 ?_
   obtain ⟨_,_,rfl,rfl,⟨⟨GV,m1_1,c1_1⟩,rfl,f1_1⟩⟩:=h1
   obtain rfl:m1_1=_:=f1_1.n
   refine ai (aH (j1 0 _ rfl)) ?_
   refine ai (il (j1 1 _ rfl)) ?_
   refine a_ w0 λH2 w2 s2=>?_
   refine aA w2 0 λH3 w3 s3=>?_
   refine aA w3 0 λH4 w4 s4=>?_
   refine lSl w4 0 ?_
   obtain ⟨w5,s5⟩:=w4.pp [1,2,3,4,5,0] 6
   exact aE.l8027_P (@ih) F rfl rfl rfl rfl ⟨w5,(s0.trans (s2.trans (s3.trans (s4.trans s5)))),(PD.step (s2.trans (s3.trans (s4.trans s5)))),(PE.step (s2.trans (s3.trans (s4.trans s5)))),(PF.step (s2.trans (s3.trans (s4.trans s5)))),(f1_1.step (s2.trans (s3.trans (s4.trans s5))))⟩ hp
  ·obtain ⟨w6,s6⟩:=w0.pp [0,1,2,3] 5
   exact aE.j3_P rfl rfl ⟨w6,(s0.trans s6),(PD.step s6),(PE.step s6)⟩ hp
def aE.p (F:Nat) (ac:Int) (bk:abU) (ay:Int) (bP:abU):Option (Int×List Int×Int):=(dr.p F ([(ac,bk),(ay,bP)]:List (Int×List Int))).bind λr6=>(bif (!r6) then (some (0,([]:List Int),1)) else ((cn.p F ac bk).bind λr13=>(cn.p F ay bP).bind λr16=>(mkn (wrap .i64 ((wrap .i64 ((if (if ay<ac then ay else ac)>(if r16>r13 then r16 else r13) then (if ay<ac then ay else ac) else (if r16>r13 then r16 else r13)) - (if ay<ac then ay else ac)))+1)) (0:Int)).bind λl19=>aE.pl125 F F (if ay<ac then ay else ac) (if ay<ac then ay else ac) l19 ([(ac,bk),(ay,bP)]:List (Int×List Int)) (2:Int) 0))
theorem aE.P {ac ay eg ff cO ec el fg bk bP} (gv:cO=bk.length) (iV:ec=bP.length) (h0:Inn H R0 λR=>ROs eI H R ⟨eg,cO,el⟩ bk/\ROs eI H R ⟨ff,ec,fg⟩ bP) {r:acl} (hp:aE.p F ac bk ay bP=some r):Rt (aE.tw F ac ⟨eg,cO,el⟩ ay ⟨ff,ec,fg⟩ H) (aE.Q H R0 R0  r):=by
 obtain ⟨w0,eM,gC⟩:=h0
 subst gv
 subst iV
 unfold aE.p at hp
 unfold aE.tw aE.twX
 have s0:=w0.rf
 refine a_ w0 λH1 w1 s1=>?_
 refine a_ w1 λH2 w2 s2=>?_
 refine a_ w2 λH3 w3 s3=>?_
 refine lI w3 2 ?_
 refine lSl w3 2 ?_
 refine lI w3 1 ?_
 refine lSl w3 1 ?_
 refine cI (aa eI (eSl eI)) w3 (n:=2) (l:=([(ac,bk),(ay,bP)]:List (Int×List Int))) rfl (CR.cons (c:=[_,_]) ⟨[_],_,rfl,rfl,⟨_,rfl,(eM.step (s1.trans (s2.trans s3)))⟩⟩ (CR.cons (c:=[_,_]) ⟨[_],_,rfl,rfl,⟨_,rfl,(gC.step (s1.trans (s2.trans s3)))⟩⟩ CR.empty)) rfl λH4 w4 s4 c4=>?_
 have f5:=W.borrow1 (aa eI (eSl eI)) w4 c4
 obtain ⟨w5,s5⟩:=w4.right1
 obtain ⟨r6,e6,hp⟩:=ah hp
 refine aI (dr.P (show 2=List.length ([(ac,bk),(ay,bP)]:List (Int×List Int)) from rfl) ⟨w5,f5⟩ e6) ?_
 rintro _ H7 ⟨rfl,w7,s7,_⟩
 obtain ⟨w8,s8⟩:=W.frame1 w4 w7 s7
 refine br ?_
 refine ax hp (λhp=>?_) λhp=>?_
 ·refine aA w8 1 λH9 w9 s9=>?_
  refine aA w9 1 λH10 w10 s10=>?_
  refine lI w10 1 ?_
  refine lSl w10 1 ?_
  obtain ⟨w11,s11⟩:=w10.nilS eI.z (by decide)
  obtain ⟨w12,s12⟩:=w11.pp [0] 5
  exact aw hp ⟨_,_,_,_,rfl,rfl,w12,(s0.trans (s1.trans (s2.trans (s3.trans (s4.trans (s8.trans (s9.trans (s10.trans (s11.trans s12))))))))),((CR.empty:CR eI _ _ [] []).step s12)⟩
 ·refine lI w8 3 ?_
  refine lI w8 2 ?_
  refine lI w8 3 ?_
  refine lSl w8 3 ?_
  obtain ⟨r13,e13,hp⟩:=ah hp
  refine aI (cn.P rfl ⟨w8,(eM.step (s1.trans (s2.trans (s3.trans (s4.trans s8)))))⟩ e13) ?_
  rintro _ H14 ⟨rfl,w14,s14,_⟩
  refine br ?_
  refine fY (W.cons_of (Rn:=[]) w8 w14 s14) ?_
  refine lI w14 2 ?_
  refine lSl w14 2 ?_
  obtain ⟨r16,e16,hp⟩:=ah hp
  refine aI (cn.P rfl ⟨w14,(gC.step (s1.trans (s2.trans (s3.trans (s4.trans (s8.trans s14))))))⟩ e16) ?_
  rintro _ H17 ⟨rfl,w17,s17,_⟩
  refine br ?_
  refine fY (W.cons_of (Rn:=[]) w14 w17 s17) ?_
  obtain ⟨l19,e19,hp⟩:=ah hp
  refine mN eI (0:Int) w17 rfl rfl rfl e19 λH20 k20 w20 s20 c20=>?_
  refine a_ w20 λH21 w21 s21=>?_
  refine aA w21 0 λH22 w22 s22=>?_
  refine aA w22 0 λH23 w23 s23=>?_
  refine lI w23 5 ?_
  refine lSl w23 5 ?_
  refine lI w23 4 ?_
  refine lSl w23 4 ?_
  refine cI (aa eI (eSl eI)) w23 (n:=2) (l:=([(ac,bk),(ay,bP)]:List (Int×List Int))) rfl (CR.cons (c:=[_,_]) ⟨[_],_,rfl,rfl,⟨_,rfl,(eM.step (s1.trans (s2.trans (s3.trans (s4.trans (s8.trans (s14.trans (s17.trans (s20.trans (s21.trans (s22.trans s23)))))))))))⟩⟩ (CR.cons (c:=[_,_]) ⟨[_],_,rfl,rfl,⟨_,rfl,(gC.step (s1.trans (s2.trans (s3.trans (s4.trans (s8.trans (s14.trans (s17.trans (s20.trans (s21.trans (s22.trans s23)))))))))))⟩⟩ CR.empty)) rfl λH24 w24 s24 c24=>?_
  obtain ⟨w25,s25⟩:=w24.nilS eI.z (by decide)
  obtain ⟨w26,s26⟩:=w25.pp [0,5,3,2,1] 8
  exact aE.l125_P F rfl rfl (show 2=List.length ([(ac,bk),(ay,bP)]:List (Int×List Int)) from rfl) ⟨w26,(s0.trans (s1.trans (s2.trans (s3.trans (s4.trans (s8.trans (s14.trans (s17.trans (s20.trans (s21.trans (s22.trans (s23.trans (s24.trans (s25.trans s26)))))))))))))),((CR.empty:CR eI _ _ [] []).step s26),(c20.step (s21.trans (s22.trans (s23.trans (s24.trans (s25.trans s26)))))),(c24.step (s25.trans s26))⟩ hp
def dc.Q (H0:Hp) (Ri R0:abR)  (r:abZ) (v:AV) (H':Hp):Prop:=∃ o1a:ON,∃ o1n:Nat,∃ o1c:Cap,∃ o1k:List AV,v=(.agg [(.i r.1),(.sl ⟨o1a,o1n,o1c⟩)])/\o1n=(r.2).length/\Out H0 Ri H' (Rs.own ⟨o1a,o1n,o1c⟩ eI.z o1k::R0) λR=>CR eI H' R o1k (r.2)
def dc.p (F:Nat) (ac:Int) (bk:abU) (ay:Int) (bP:abU):Option (Int×List Int):=(aE.p F ac bk ay bP).bind λr4=>some (r4.1,r4.2.1)
theorem dc.P {ac ay eg ff cO ec el fg bk bP} (gv:cO=bk.length) (iV:ec=bP.length) (h0:Inn H R0 λR=>ROs eI H R ⟨eg,cO,el⟩ bk/\ROs eI H R ⟨ff,ec,fg⟩ bP) {r:abZ} (hp:dc.p F ac bk ay bP=some r):Rt (dc.tw F ac ⟨eg,cO,el⟩ ay ⟨ff,ec,fg⟩ H) (dc.Q H R0 R0  r):=by
 obtain ⟨w0,eM,gC⟩:=h0
 subst gv
 subst iV
 unfold dc.p at hp
 unfold dc.tw dc.twX
 have s0:=w0.rf
 refine a_ w0 λH1 w1 s1=>?_
 refine a_ w1 λH2 w2 s2=>?_
 refine a_ w2 λH3 w3 s3=>?_
 refine lI w3 2 ?_
 refine lSl w3 2 ?_
 refine lI w3 1 ?_
 refine lSl w3 1 ?_
 obtain ⟨r4,e4,hp⟩:=ah hp
 refine aI (aE.P rfl rfl ⟨w3,(eM.step (s1.trans (s2.trans s3))),(gC.step (s1.trans (s2.trans s3)))⟩ e4) ?_
 rintro _ H5 ⟨o1a_5,o1n_5,o1c_5,o1k_5,rfl,rfl,w5,s5,f5_0⟩
 refine br (br (br (br (br (br (br (br (br ?_))))))))
 refine a_ w5 λH6 w6 s6=>?_
 refine aA w6 0 λH7 w7 s7=>?_
 refine aA w7 0 λH8 w8 s8=>?_
 refine lI w8 0 ?_
 refine lSl w8 0 ?_
 refine aA w8 2 λH9 w9 s9=>?_
 refine aA w9 2 λH10 w10 s10=>?_
 refine lI w10 2 ?_
 refine lSl w10 2 ?_
 obtain ⟨w11,s11⟩:=w10.pp [1] 5
 exact aw hp ⟨_,_,_,_,rfl,rfl,w11,(s0.trans (s1.trans (s2.trans (s3.trans (s5.trans (s6.trans (s7.trans (s8.trans (s9.trans (s10.trans s11)))))))))),(f5_0.step (s6.trans (s7.trans (s8.trans (s9.trans (s10.trans s11))))))⟩
def dZ.Q (H0:Hp) (Ri R0:abR)  (r:Int) (v:AV) (H':Hp):Prop:=v=(.i r)/\Out H0 Ri H' (R0) λR=>True
def dZ.p (F:Nat) (ac:Int):Option (Int):=(bif (decide (ac<0)) then (some (-1)) else (some 1))
theorem dZ.P {ac}  (h0:Inn H R0 λR=>True) {r:Int} (hp:dZ.p F ac=some r):Rt (dZ.tw F ac H) (dZ.Q H R0 R0  r):=by
 obtain ⟨w0,_⟩:=h0
 unfold dZ.p at hp
 unfold dZ.tw dZ.twX
 have s0:=w0.rf
 refine ax hp (λhp=>?_) λhp=>?_
 ·exact aw hp ⟨rfl,w0,s0,trivial⟩
 ·exact aw hp ⟨rfl,w0,s0,trivial⟩
def aM.Q (H0:Hp) (Ri R0:abR)  (r:abZ) (v:AV) (H':Hp):Prop:=∃ o1a:ON,∃ o1n:Nat,∃ o1c:Cap,∃ o1k:List AV,v=(.agg [(.i r.1),(.sl ⟨o1a,o1n,o1c⟩)])/\o1n=(r.2).length/\Out H0 Ri H' (Rs.own ⟨o1a,o1n,o1c⟩ eI.z o1k::R0) λR=>CR eI H' R o1k (r.2)
def aM.S61 (H0:Hp) (Ri R0:abR)  (C:acu) (pC:acA):Prop:=∀ {gq PG mK dp gZ gr HA HB HC zo ft zp fA zq HD HE HF HG lD ik HI HJ},∀ {H:Hp},zo=HG.length->zp=lD.length->zq=ik.length->(Out H0 Ri H (Rs.own ⟨HA,zo,HD⟩ eI.z HI::Rs.blk ft [.i PG,.sl ⟨HA,zo,HD⟩]::Rs.own ⟨HB,zp,HE⟩ eI.z HJ::Rs.blk fA [.i mK,.sl ⟨HB,zp,HE⟩]::R0) λR=>CR eI H R HI HG/\CR eI H R HJ lD/\ROs eI H R ⟨HC,zq,HF⟩ ik)->∀ {r:abZ},pC gq mK lD dp ik gZ gr=some r->Rt (C gq ft 0 fA 0 dp ⟨HC,zq,HF⟩ gZ gr H) (aM.Q H0 Ri R0  r)
def aM.pj4 (F:Nat) (az:acA) (qY:Int) (zr:Int) (uZ:abU) (qZ:Int) (q_:Int) (u_:abU) (rc:Int) (rh:Int):Option (Int×List Int):=(dZ.p F q_).bind λr1=>az qY zr uZ (wrap .i64 (qZ+r1)) u_ rc (wrap .i64 (rh+1))
theorem aM.j4_P  {C61_:acu} {az:acA} (hC61:aM.S61 H0 Ri R0  C61_ az) {qY Zi zr qZ q_ rc rh PH PI PJ HK wI HL wJ HM PK PL PM PO uZ u_ PP PQ} (Zj:HK=PO.length) (Zk:HL=uZ.length) (Zl:HM=u_.length) (h0:Out H0 Ri H (Rs.own ⟨PH,HK,PK⟩ eI.z PP::Rs.blk wI [.i Zi,.sl ⟨PH,HK,PK⟩]::Rs.own ⟨PI,HL,PL⟩ eI.z PQ::Rs.blk wJ [.i zr,.sl ⟨PI,HL,PL⟩]::R0) λR=>CR eI H R PP PO/\CR eI H R PQ uZ/\ROs eI H R ⟨PJ,HM,PM⟩ u_) {r:abZ} (hp:aM.pj4 F az qY zr uZ qZ q_ u_ rc rh=some r):Rt (aM.j4 F (db.tw F) (dc.tw F) (dZ.tw F) C61_ qY wI 0 wJ 0 qZ q_ ⟨PJ,HM,PM⟩ rc rh H) (aM.Q H0 Ri R0  r):=by
 obtain ⟨w0,s0,Zm,Zn,Zo⟩:=h0
 subst Zj
 subst Zk
 subst Zl
 unfold aM.pj4 at hp
 unfold aM.j4
 obtain ⟨r1,e1,hp⟩:=ah hp
 refine aI (dZ.P ⟨w0,trivial⟩ e1) ?_
 rintro _ H2 ⟨rfl,w2,s2,_⟩
 refine br ?_
 exact hC61 rfl rfl rfl ⟨w2,(s0.trans s2),(Zm.step s2),(Zn.step s2),(Zo.step s2)⟩ hp
def aM.pj5 (F:Nat) (az:acA) (ri:Int) (zt:Int) (vd:abU) (rj:Int) (rl:Int) (ve:abU) (rm:Int) (rn:Int):Option (Int×List Int):=(dZ.p F rl).bind λr1=>az ri zt vd (wrap .i64 (rj+r1)) ve rm (wrap .i64 (rn+1))
theorem aM.j5_P  {C61_:acu} {az:acA} (hC61:aM.S61 H0 Ri R0  C61_ az) {ri Zp zt rj rl rm rn PR PU PW HN wK HO wL HP PX PY PZ P_ vd ve Qa Qb} (Zq:HN=P_.length) (Zr:HO=vd.length) (Zs:HP=ve.length) (h0:Out H0 Ri H (Rs.own ⟨PR,HN,PX⟩ eI.z Qa::Rs.blk wK [.i Zp,.sl ⟨PR,HN,PX⟩]::Rs.own ⟨PU,HO,PY⟩ eI.z Qb::Rs.blk wL [.i zt,.sl ⟨PU,HO,PY⟩]::R0) λR=>CR eI H R Qa P_/\CR eI H R Qb vd/\ROs eI H R ⟨PW,HP,PZ⟩ ve) {r:abZ} (hp:aM.pj5 F az ri zt vd rj rl ve rm rn=some r):Rt (aM.j5 F (db.tw F) (dc.tw F) (dZ.tw F) C61_ ri wK 0 wL 0 rj rl ⟨PW,HP,PZ⟩ rm rn H) (aM.Q H0 Ri R0  r):=by
 obtain ⟨w0,s0,Zt,Zu,Zv⟩:=h0
 subst Zq
 subst Zr
 subst Zs
 unfold aM.pj5 at hp
 unfold aM.j5
 obtain ⟨r1,e1,hp⟩:=ah hp
 refine aI (dZ.P ⟨w0,trivial⟩ e1) ?_
 rintro _ H2 ⟨rfl,w2,s2,_⟩
 refine br ?_
 exact hC61 rfl rfl rfl ⟨w2,(s0.trans s2),(Zt.step s2),(Zu.step s2),(Zv.step s2)⟩ hp
def aM.pj6 (F:Nat) (az:acA) (rp:Int) (zu:Int) (vf:abU) (rq:Int) (ru:Int) (vg:abU) (rv:Int) (rx:Int):Option (Int×List Int):=aM.pj5 F az rp zu vf rq ru vg rv rx
theorem aM.j6_P  {C61_:acu} {az:acA} (hC61:aM.S61 H0 Ri R0  C61_ az) {rp Zw zu rq ru rv rx Qc Qd Qe HQ wM HR wN HS Qf Qg Qh Qi vf vg Qj Qk} (Zx:HQ=Qi.length) (Zy:HR=vf.length) (Zz:HS=vg.length) (h0:Out H0 Ri H (Rs.own ⟨Qc,HQ,Qf⟩ eI.z Qj::Rs.blk wM [.i Zw,.sl ⟨Qc,HQ,Qf⟩]::Rs.own ⟨Qd,HR,Qg⟩ eI.z Qk::Rs.blk wN [.i zu,.sl ⟨Qd,HR,Qg⟩]::R0) λR=>CR eI H R Qj Qi/\CR eI H R Qk vf/\ROs eI H R ⟨Qe,HS,Qh⟩ vg) {r:abZ} (hp:aM.pj6 F az rp zu vf rq ru vg rv rx=some r):Rt (aM.j6 F (db.tw F) (dc.tw F) (dZ.tw F) C61_ rp wM 0 wN 0 rq ru ⟨Qe,HS,Qh⟩ rv rx H) (aM.Q H0 Ri R0  r):=by
 obtain ⟨w0,s0,ZA,ZB,ZC⟩:=h0
 subst Zx
 subst Zy
 subst Zz
 unfold aM.pj6 at hp
 unfold aM.j6
 exact aM.j5_P (@hC61) rfl rfl rfl ⟨w0,s0,ZA,ZB,ZC⟩ hp
def aM.pl61 (F:Nat) :Nat->Int->Int->List Int->Int->List Int->Int->Int->Option (Int×List Int)
 | 0,_,_,_,_,_,_,_=>none
 | k+1,gq,mK,lD,dp,ik,gZ,gr=>(bif (decide (gr<gZ)) then ((ix ik gr).bind λn1=>(bif ((gt ik n1)==gq) then ((db.p F 1 dp).bind λr2=>(dc.p F mK lD r2.1 r2.2).bind λr8=>aM.pj4 F (aM.pl61 F k) gq r8.1 r8.2 dp (gt ik n1) ik gZ gr) else ((bif ((gt ik n1)==(wrap .i64 (0 - gq))) then ((db.p F (-1) (wrap .i64 (dp - 1))).bind λr15=>(dc.p F mK lD r15.1 r15.2).bind λr21=>aM.pj6 F (aM.pl61 F k) gq r21.1 r21.2 dp (gt ik n1) ik gZ gr) else (aM.pj6 F (aM.pl61 F k) gq mK lD dp (gt ik n1) ik gZ gr))))) else (some (mK,lD)))
theorem aM.l61_P  :∀ k,aM.S61 H0 Ri R0  (aM.l61 F (db.tw F) (dc.tw F) (dZ.tw F)  k) (aM.pl61 F  k):=by
 intro k
 induction k with
 | zero=>unfold aM.S61;intros;rename_i hp;cases hp
 | succ k ih=>
  intro gq PG mK dp gZ gr HA HB HC zo ft zp fA zq HD HE HF HG lD ik HI HJ H ZD ZE ZF h0 r hp
  obtain ⟨w0,s0,HT,zw,zx⟩:=h0
  subst ZD
  subst ZE
  subst ZF
  unfold aM.pl61 at hp
  unfold aM.l61
  refine ax hp (λhp=>?_) λhp=>?_
  ·obtain ⟨n1,g1,hp⟩:=ah hp
   obtain ⟨p1,q1,i1,h1,j1⟩:=ROs.ixr zx rfl g1
   refine ai i1 ?_
   have h1:_=[_]:=h1
   subst h1
   refine ai (aH (j1 0 _ rfl)) ?_
   refine ax hp (λhp=>?_) λhp=>?_
   ·refine lI w0 3 ?_
    refine lSl w0 3 ?_
    obtain ⟨r2,e2,hp⟩:=ah hp
    refine aI (db.P ⟨w0,trivial⟩ e2) ?_
    rintro _ H3 ⟨o1a_3,o1n_3,o1c_3,o1k_3,rfl,rfl,w3,s3,f3_0⟩
    refine br (br (br (br (br ?_))))
    refine fY (W.cons_of (Rn:=[_]) w0 w3 s3) ?_
    obtain ⟨w5,s5⟩:=w3.pp [3,0,1,2,4] 5
    have f6:=W.borrow1 eI w5 (zw.step (s3.trans s5))
    obtain ⟨w6,s6⟩:=w5.right1
    have f7:=W.borrow1 eI w6 ((f3_0.step s5).step s6)
    obtain ⟨w7,s7⟩:=w6.right1
    obtain ⟨r8,e8,hp⟩:=ah hp
    refine aI (dc.P rfl rfl ⟨w7,(f6.step s7),f7⟩ e8) ?_
    rintro _ H9 ⟨o1a_9,o1n_9,o1c_9,o1k_9,rfl,rfl,w9,s9,f9_0⟩
    obtain ⟨w10,s10⟩:=W.frame1 w6 w9 s9
    obtain ⟨w11,s11⟩:=W.frame1 w5 w10 s10
    refine br (br (br (br (br ?_))))
    refine aA w11 5 λH12 w12 s12=>?_
    refine aA w12 5 λH13 w13 s13=>?_
    obtain ⟨w14,s14⟩:=w13.pp [3,4,2,5] 6
    exact aM.j4_P (@ih) rfl rfl rfl ⟨w14,(s0.trans (s3.trans (s5.trans (s11.trans (s12.trans (s13.trans s14)))))),(HT.step (s3.trans (s5.trans (s11.trans (s12.trans (s13.trans s14)))))),((CR.flat (gE .i64) f9_0).step (s12.trans (s13.trans s14))),(zx.step (s3.trans (s5.trans (s11.trans (s12.trans (s13.trans s14))))))⟩ hp
   ·refine ax hp (λhp=>?_) λhp=>?_
    ·refine lI w0 3 ?_
     refine lSl w0 3 ?_
     obtain ⟨r15,e15,hp⟩:=ah hp
     refine aI (db.P ⟨w0,trivial⟩ e15) ?_
     rintro _ H16 ⟨o1a_16,o1n_16,o1c_16,o1k_16,rfl,rfl,w16,s16,f16_0⟩
     refine br (br (br (br (br ?_))))
     refine fY (W.cons_of (Rn:=[_]) w0 w16 s16) ?_
     obtain ⟨w18,s18⟩:=w16.pp [3,0,1,2,4] 5
     have f19:=W.borrow1 eI w18 (zw.step (s16.trans s18))
     obtain ⟨w19,s19⟩:=w18.right1
     have f20:=W.borrow1 eI w19 ((f16_0.step s18).step s19)
     obtain ⟨w20,s20⟩:=w19.right1
     obtain ⟨r21,e21,hp⟩:=ah hp
     refine aI (dc.P rfl rfl ⟨w20,(f19.step s20),f20⟩ e21) ?_
     rintro _ H22 ⟨o1a_22,o1n_22,o1c_22,o1k_22,rfl,rfl,w22,s22,f22_0⟩
     obtain ⟨w23,s23⟩:=W.frame1 w19 w22 s22
     obtain ⟨w24,s24⟩:=W.frame1 w18 w23 s23
     refine br (br (br (br (br ?_))))
     refine aA w24 5 λH25 w25 s25=>?_
     refine aA w25 5 λH26 w26 s26=>?_
     obtain ⟨w27,s27⟩:=w26.pp [3,4,2,5] 6
     exact aM.j6_P (@ih) rfl rfl rfl ⟨w27,(s0.trans (s16.trans (s18.trans (s24.trans (s25.trans (s26.trans s27)))))),(HT.step (s16.trans (s18.trans (s24.trans (s25.trans (s26.trans s27)))))),((CR.flat (gE .i64) f22_0).step (s25.trans (s26.trans s27))),(zx.step (s16.trans (s18.trans (s24.trans (s25.trans (s26.trans s27))))))⟩ hp
    ·exact aM.j6_P (@ih) rfl rfl rfl ⟨w0,s0,HT,zw,zx⟩ hp
  ·refine lI w0 3 ?_
   refine lSl w0 3 ?_
   refine aA w0 1 λH28 w28 s28=>?_
   refine aA w28 1 λH29 w29 s29=>?_
   refine lI w29 1 ?_
   refine lSl w29 1 ?_
   obtain ⟨w30,s30⟩:=w29.pp [2] 4
   exact aw hp ⟨_,_,_,_,rfl,rfl,w30,(s0.trans (s28.trans (s29.trans s30))),(zw.step (s28.trans (s29.trans s30)))⟩
def aM.p (F:Nat) (af:abU) (aq:Int):Option (Int×List Int):=aM.pl61 F F aq 0 ([]:List Int) 0 af (af.length:Int) 0
theorem aM.P {ar aj au af aq} (aN:aj=af.length) (h0:Inn H R0 λR=>ROs eI H R ⟨ar,aj,au⟩ af) {r:abZ} (hp:aM.p F af aq=some r):Rt (aM.tw F ⟨ar,aj,au⟩ aq H) (aM.Q H R0 R0  r):=by
 obtain ⟨w0,aG⟩:=h0
 subst aN
 unfold aM.p at hp
 unfold aM.tw aM.twX
 have s0:=w0.rf
 refine a_ w0 λH1 w1 s1=>?_
 refine a_ w1 λH2 w2 s2=>?_
 obtain ⟨w3,s3⟩:=w2.nilS eI.z (by decide)
 obtain ⟨w4,s4⟩:=w3.nilS eI.z (by decide)
 obtain ⟨w5,s5⟩:=w4.pp [1,3,0,2] 4
 exact aM.l61_P F rfl rfl rfl ⟨w5,(s0.trans (s1.trans (s2.trans (s3.trans (s4.trans s5))))),((CR.empty:CR eI _ _ [] []).step (s4.trans s5)),((CR.empty:CR eI _ _ [] []).step s5),(aG.step (s1.trans (s2.trans (s3.trans (s4.trans s5)))))⟩ hp
def aR.Q (H0:Hp) (Ri R0:abR)  (r:(List ((List (Int×List Int))))) (v:AV) (H':Hp):Prop:=∃ o0a:ON,∃ o0n:Nat,∃ o0c:Cap,∃ o0k:List AV,∃ o0m:List Ow,v=(.sl ⟨o0a,o0n,o0c⟩)/\o0n=(r).length/\Out H0 Ri H' (Rs.own ⟨o0a,o0n,o0c⟩ (eSl (aa eI (eSl eI))).z o0k::Rs.many o0m::R0) λR=>OL (oSl (cC (aZ eI) (oSl (aZ eI)))) o0m o0k (r)
def aR.S61 (H0:Hp) (Ri R0:abR)  (C:acv) (pC:acB):Prop:=∀ {jQ jR iT oA HU lA zy oB HV hJ oC HW HX mL},∀ {H:Hp},lA=hJ.length->zy=mL.length->(Out H0 Ri H (Rs.own ⟨oA,lA,oB⟩ (eSl (aa eI (eSl eI))).z oC::Rs.many HX::Rs.own ⟨HU,zy,HV⟩ (eSl eI).z HW::R0) λR=>OL (oSl (cC (aZ eI) (oSl (aZ eI)))) HX oC hJ/\CR (eSl eI) H R HW mL)->∀ {r:(List ((List (Int×List Int))))},pC jQ hJ mL jR iT=some r->Rt (C jQ ⟨oA,lA,oB⟩ ⟨HU,zy,HV⟩ jR iT H) (aR.Q H0 Ri R0  r)
def aR.S15725 (H0:Hp) (Ri R0:abR)  (C:Int->Sl->Sl->Int->Int->Sl->Sl->Int->Int->Hp->OA) (pC:Int->List ((List (Int×List Int)))->List (List Int)->Int->Int->List Int->List (Int×List Int)->Int->Int->Option ((List ((List (Int×List Int)))))):Prop:=∀ {jL jN jO jP iS HY HZ H_ Ia zA zB zC zD Ib Ic Ie If oL Ig Ih Ii Ij Ik oM oN oO},∀ {H:Hp},zA=oL.length->zB=oM.length->zC=oN.length->zD=oO.length->(Out H0 Ri H (Rs.own ⟨HY,zA,Ib⟩ (eSl (aa eI (eSl eI))).z Ig::Rs.many Ij::Rs.own ⟨HZ,zB,Ic⟩ (eSl eI).z Ih::Rs.own ⟨Ia,zD,If⟩ (aa eI (eSl eI)).z Ii::Rs.many Ik::R0) λR=>OL (oSl (cC (aZ eI) (oSl (aZ eI)))) Ij Ig oL/\CR (eSl eI) H R Ih oM/\ROs eI H R ⟨H_,zC,Ie⟩ oN/\OL (cC (aZ eI) (oSl (aZ eI))) Ik Ii oO)->∀ {r:(List ((List (Int×List Int))))},pC jL oL oM jN jO oN oO jP iS=some r->Rt (C jL ⟨HY,zA,Ib⟩ ⟨HZ,zB,Ic⟩ jN jO ⟨H_,zC,Ie⟩ ⟨Ia,zD,If⟩ jP iS H) (aR.Q H0 Ri R0  r)
def aR.pj3 (F:Nat) (az:acB) (rz:Int) (vh:acp) (vi:ab2) (rA:Int) (rB:Int):Option ((List ((List (Int×List Int))))):=az rz vh vi rA (wrap .i64 (rB+1))
theorem aR.j3_P  {C61_:acv} {az:acB} (hC61:aR.S61 H0 Ri R0  C61_ az) {rz rA rB Ql Qm Il Im Qn Qo vh Qp Qq Qr vi} (ZG:Il=vh.length) (ZH:Im=vi.length) (h0:Out H0 Ri H (Rs.own ⟨Ql,Il,Qn⟩ (eSl (aa eI (eSl eI))).z Qp::Rs.many Qr::Rs.own ⟨Qm,Im,Qo⟩ (eSl eI).z Qq::R0) λR=>OL (oSl (cC (aZ eI) (oSl (aZ eI)))) Qr Qp vh/\CR (eSl eI) H R Qq vi) {r:(List ((List (Int×List Int))))} (hp:aR.pj3 F az rz vh vi rA rB=some r):Rt (aR.j3 F (ba.tw F) (bv.tw F) (aM.tw F) C61_ rz ⟨Ql,Il,Qn⟩ ⟨Qm,Im,Qo⟩ rA rB H) (aR.Q H0 Ri R0  r):=by
 obtain ⟨w0,s0,ZI,ZJ⟩:=h0
 subst ZG
 subst ZH
 unfold aR.pj3 at hp
 unfold aR.j3
 exact hC61 rfl rfl ⟨w0,s0,ZI,ZJ⟩ hp
def aR.pj4 (F:Nat) (az:acB) (rC:Int) (vj:acp) (mM:acg) (vk:ab2) (rD:Int) (rE:Int):Option ((List ((List (Int×List Int))))):=(apn vj ([mM]:List ((List (Int×List Int))))).bind λl6=>aR.pj3 F az rC l6 vk rD rE
theorem aR.j4_P  {C61_:acv} {az:acB} (hC61:aR.S61 H0 Ri R0  C61_ az) {rC rD rE Qs Qt Qu Io Ip Iq Qv Qw Qx vj Qy Qz QA QB QC mM vk} (ZK:Io=vj.length) (ZL:Ip=mM.length) (ZM:Iq=vk.length) (h0:Out H0 Ri H (Rs.own ⟨Qs,Io,Qv⟩ (eSl (aa eI (eSl eI))).z Qy::Rs.many QB::Rs.own ⟨Qt,Ip,Qw⟩ (aa eI (eSl eI)).z Qz::Rs.many QC::Rs.own ⟨Qu,Iq,Qx⟩ (eSl eI).z QA::R0) λR=>OL (oSl (cC (aZ eI) (oSl (aZ eI)))) QB Qy vj/\OL (cC (aZ eI) (oSl (aZ eI))) QC Qz mM/\CR (eSl eI) H R QA vk) {r:(List ((List (Int×List Int))))} (hp:aR.pj4 F az rC vj mM vk rD rE=some r):Rt (aR.j4 F (ba.tw F) (bv.tw F) (aM.tw F) C61_ rC ⟨Qs,Io,Qv⟩ ⟨Qt,Ip,Qw⟩ ⟨Qu,Iq,Qx⟩ rD rE H) (aR.Q H0 Ri R0  r):=by
 obtain ⟨w0,s0,ZN,ZO,ZP⟩:=h0
 subst ZK
 subst ZL
 subst ZM
 unfold aR.pj4 at hp
 unfold aR.j4
 obtain ⟨w1,s1⟩:=w0.pp [2,3,0,1,4] 5
 dsimp only [pk,pks,nth,List.drop,List.set,List.eraseIdx] at w1 s1
 obtain ⟨w2,s2,g2⟩:=w1.p2o (cC (aZ eI) (oSl (aZ eI))) ZO
 have f3:=OL.one (o:=(oSl (cC (aZ eI) (oSl (aZ eI))))) (x:=mM) g2
 refine QN (oSl (cC (aZ eI) (oSl (aZ eI)))) w2 (n:=1) (l:=([mM]:List ((List (Int×List Int))))) rfl f3 rfl λH3 w3 s3=>?_
 refine ai (w3.rowo (i:=0) rfl) ?_
 obtain ⟨w4,s4⟩:=w3.pp [3,1,0,2,4] 5
 dsimp only [pk,pks,nth,List.drop,List.set,List.eraseIdx] at w4 s4
 obtain ⟨w5,s5⟩:=w4.jM
 obtain ⟨l6,e6,hp⟩:=ah hp
 refine QO (oSl (cC (aZ eI) (oSl (aZ eI)))) w5 (i:=2) rfl rfl ZN f3 (show 1=List.length ([mM]:List ((List (Int×List Int)))) from rfl) rfl e6 λa7 d7 H7 w7 s7 f7 x7=>?_
 obtain ⟨w8,s8⟩:=w7.pp [2,0,3] 4
 exact aR.j3_P (@hC61) rfl rfl ⟨w8,(s0.trans (s1.trans (s2.trans (s3.trans (s4.trans (s5.trans (s7.trans s8))))))),f7,(ZP.step (s1.trans (s2.trans (s3.trans (s4.trans (s5.trans (s7.trans s8)))))))⟩ hp
def aR.pl15725 (F:Nat) (az:acB):Nat->Int->List ((List (Int×List Int)))->List (List Int)->Int->Int->List Int->List (Int×List Int)->Int->Int->Option ((List ((List (Int×List Int)))))
 | 0,_,_,_,_,_,_,_,_,_=>none
 | k+1,jL,oL,oM,jN,jO,oN,oO,jP,iS=>(bif (decide (iS<jP)) then ((aM.p F oN (wrap .i64 (iS+1))).bind λr1=>(apn oO ([(r1.1,r1.2)]:List (Int×List Int))).bind λl7=>aR.pl15725 F az k jL oL oM jN jO oN l7 jP (wrap .i64 (iS+1))) else (aR.pj4 F az jL oL oO oM jN jO))
theorem aR.l15725_P  {C61_:acv} {az:acB} (hC61:aR.S61 H0 Ri R0  C61_ az):∀ k,aR.S15725 H0 Ri R0  (aR.l15725 F (ba.tw F) (bv.tw F) (aM.tw F) C61_ k) (aR.pl15725 F az k):=by
 intro k
 induction k with
 | zero=>unfold aR.S15725;intros;rename_i hp;cases hp
 | succ k ih=>
  intro jL jN jO jP iS HY HZ H_ Ia zA zB zC zD Ib Ic Ie If oL Ig Ih Ii Ij Ik oM oN oO H ZQ ZR ZS ZT h0 r hp
  obtain ⟨w0,s0,QD,QE,QF,QG⟩:=h0
  subst ZQ
  subst ZR
  subst ZS
  subst ZT
  unfold aR.pl15725 at hp
  unfold aR.l15725
  refine ax hp (λhp=>?_) λhp=>?_
  ·obtain ⟨r1,e1,hp⟩:=ah hp
   refine aI (aM.P rfl ⟨w0,QF⟩ e1) ?_
   rintro _ H2 ⟨o1a_2,o1n_2,o1c_2,o1k_2,rfl,rfl,w2,s2,f2_0⟩
   refine br (br (br (br (br ?_))))
   obtain ⟨w3,s3,g3⟩:=w2.p1o (gE .i64) f2_0
   have f4:=OL.one (o:=(cC (aZ eI) (oSl (aZ eI)))) (x:=(r1.1,r1.2)) ⟨[],_,[_],_,rfl,rfl,⟨rfl,λ_ _=>rfl⟩,g3⟩
   refine QN (cC (aZ eI) (oSl (aZ eI))) w3 (n:=1) (l:=([(r1.1,r1.2)]:List (Int×List Int))) rfl f4 rfl λH4 w4 s4=>?_
   refine ai (w4.rowo (i:=0) rfl) ?_
   obtain ⟨w5,s5⟩:=w4.pp [6,1,0,2,3,4,5] 7
   dsimp only [pk,pks,nth,List.drop,List.set,List.eraseIdx] at w5 s5
   obtain ⟨w6,s6⟩:=w5.jM
   obtain ⟨l7,e7,hp⟩:=ah hp
   refine QO (cC (aZ eI) (oSl (aZ eI))) w6 (i:=5) rfl rfl QG f4 (show 1=List.length ([(r1.1,r1.2)]:List (Int×List Int)) from rfl) rfl e7 λa8 d8 H8 w8 s8 f8 x8=>?_
   obtain ⟨w9,s9⟩:=w8.pp [2,3,4,5,0] 6
   exact ih rfl rfl rfl rfl ⟨w9,(s0.trans (s2.trans (s3.trans (s4.trans (s5.trans (s6.trans (s8.trans s9))))))),QD,(QE.step (s2.trans (s3.trans (s4.trans (s5.trans (s6.trans (s8.trans s9))))))),(QF.step (s2.trans (s3.trans (s4.trans (s5.trans (s6.trans (s8.trans s9))))))),f8⟩ hp
  ·obtain ⟨w10,s10⟩:=w0.pp [0,1,3,4,2] 5
   exact aR.j4_P (@hC61) rfl rfl rfl ⟨w10,(s0.trans s10),QD,QG,(QE.step s10)⟩ hp
def aR.pl61 (F:Nat) :Nat->Int->List ((List (Int×List Int)))->List (List Int)->Int->Int->Option ((List ((List (Int×List Int)))))
 | 0,_,_,_,_,_=>none
 | k+1,jQ,hJ,mL,jR,iT=>(bif (decide (iT<jR)) then ((ix mL iT).bind λn1=>aR.pl15725 F (aR.pl61 F k) F jQ hJ mL jR iT (gt mL n1) ([]:List (Int×List Int)) jQ 0) else (some hJ))
theorem aR.l61_P  :∀ k,aR.S61 H0 Ri R0  (aR.l61 F (ba.tw F) (bv.tw F) (aM.tw F)  k) (aR.pl61 F  k):=by
 intro k
 induction k with
 | zero=>unfold aR.S61;intros;rename_i hp;cases hp
 | succ k ih=>
  intro jQ jR iT oA HU lA zy oB HV hJ oC HW HX mL H Gn ZU h0 r hp
  obtain ⟨w0,s0,uP,QH⟩:=h0
  subst Gn
  subst ZU
  unfold aR.pl61 at hp
  unfold aR.l61
  refine ax hp (λhp=>?_) λhp=>?_
  ·obtain ⟨n1,g1,hp⟩:=ah hp
   obtain ⟨p1,q1,i1,h1,j1⟩:=W.ixo (E:=(eSl eI)) w0 (i:=2) rfl rfl QH g1
   refine ai i1 ?_
   obtain ⟨⟨Ex,m1_0,c1_0⟩,rfl,f1_0⟩:=h1
   obtain rfl:m1_0=_:=f1_0.n
   refine ai (il (j1 0 _ rfl)) ?_
   obtain ⟨w2,s2⟩:=w0.nilS (aa eI (eSl eI)).z (by decide)
   obtain ⟨w3,s3⟩:=w2.nM
   obtain ⟨w4,s4⟩:=w3.pp [2,3,4,1,0] 5
   exact aR.l15725_P (@ih) F rfl rfl rfl rfl ⟨w4,(s0.trans (s2.trans (s3.trans s4))),uP,(QH.step (s2.trans (s3.trans s4))),(f1_0.step (s2.trans (s3.trans s4))),(OL.nil:OL (cC (aZ eI) (oSl (aZ eI))) [] [] [])⟩ hp
  ·obtain ⟨w5,s5⟩:=w0.pp [0,1] 3
   exact aw hp ⟨_,_,_,_,_,rfl,rfl,w5,(s0.trans s5),uP⟩
def aR.p (F:Nat) (af:abX) (ag:Int):Option ((List ((List (Int×List Int))))):=(ba.p F af ag).bind λr2=>(bv.p F af ag).bind λr4=>aR.pl61 F F r2.2 ([]:List ((List (Int×List Int)))) r4 (r4.length:Int) 0
theorem aR.P {ar aj au af ag} (aN:aj=af.length) (h0:Inn H R0 λR=>ROs (aa eI (aa eI (aa eI (aa eI eI)))) H R ⟨ar,aj,au⟩ af) {r:(List ((List (Int×List Int))))} (hp:aR.p F af ag=some r):Rt (aR.tw F ⟨ar,aj,au⟩ ag H) (aR.Q H R0 R0  r):=by
 obtain ⟨w0,aG⟩:=h0
 subst aN
 unfold aR.p at hp
 unfold aR.tw aR.twX
 have s0:=w0.rf
 refine a_ w0 λH1 w1 s1=>?_
 refine lSl w1 0 ?_
 refine lI w1 0 ?_
 obtain ⟨r2,e2,hp⟩:=ah hp
 refine aI (ba.P rfl ⟨w1,(aG.step s1)⟩ e2) ?_
 rintro _ H3 ⟨o0a_3,o0n_3,o0c_3,o0k_3,rfl,rfl,w3,s3,f3_0⟩
 refine br (br (br (br (br ?_))))
 refine lSl w3 1 ?_
 refine lI w3 1 ?_
 obtain ⟨r4,e4,hp⟩:=ah hp
 refine aI (bv.P rfl ⟨w3,(aG.step (s1.trans s3))⟩ e4) ?_
 rintro _ H5 ⟨o0a_5,o0n_5,o0c_5,o0k_5,rfl,rfl,w5,s5,f5_0⟩
 refine br ?_
 obtain ⟨w6,s6⟩:=w5.nilS (eSl (aa eI (eSl eI))).z (by decide)
 obtain ⟨w7,s7⟩:=w6.nM
 obtain ⟨w8,s8⟩:=w7.pp [1,0,2] 5
 exact aR.l61_P F rfl rfl ⟨w8,(s0.trans (s1.trans (s3.trans (s5.trans (s6.trans (s7.trans s8)))))),(OL.nil:OL (oSl (cC (aZ eI) (oSl (aZ eI)))) [] [] []),(f5_0.step (s6.trans (s7.trans s8)))⟩ hp
def d_.Q (H0:Hp) (Ri R0:abR)  (r:(List ((List (Int×List Int))))×Bool) (v:AV) (H':Hp):Prop:=∃ o0a:ON,∃ o0n:Nat,∃ o0c:Cap,∃ o0k:List AV,∃ o0m:List Ow,v=(.tup [(.sl ⟨o0a,o0n,o0c⟩),(.bool r.2)])/\o0n=(r.1).length/\Out H0 Ri H' (Rs.own ⟨o0a,o0n,o0c⟩ (eSl (aa eI (eSl eI))).z o0k::Rs.many o0m::R0) λR=>OL (oSl (cC (aZ eI) (oSl (aZ eI)))) o0m o0k (r.1)
def d_.p (F:Nat) (af:abX) (ag:Int):Option ((List ((List (Int×List Int))))×Bool):=(dX.p F af ag).bind λr2=>(bif (!r2) then (some (([]:List ((List (Int×List Int)))),false)) else ((aR.p F af ag).bind λr7=>some (r7,true)))
theorem d_.P {ar aj au af ag} (aN:aj=af.length) (h0:Inn H R0 λR=>ROs (aa eI (aa eI (aa eI (aa eI eI)))) H R ⟨ar,aj,au⟩ af) {r:(List ((List (Int×List Int))))×Bool} (hp:d_.p F af ag=some r):Rt (d_.tw F ⟨ar,aj,au⟩ ag H) (d_.Q H R0 R0  r):=by
 obtain ⟨w0,aG⟩:=h0
 subst aN
 unfold d_.p at hp
 unfold d_.tw d_.twX
 have s0:=w0.rf
 refine a_ w0 λH1 w1 s1=>?_
 refine lSl w1 0 ?_
 refine lI w1 0 ?_
 obtain ⟨r2,e2,hp⟩:=ah hp
 refine aI (dX.P rfl ⟨w1,(aG.step s1)⟩ e2) ?_
 rintro _ H3 ⟨rfl,w3,s3,_⟩
 refine br ?_
 refine ax hp (λhp=>?_) λhp=>?_
 ·obtain ⟨w4,s4⟩:=w3.nilS (eSl (aa eI (eSl eI))).z (by decide)
  obtain ⟨w5,s5⟩:=w4.nM
  obtain ⟨w6,s6⟩:=w5.pp [1,0] 3
  exact aw hp ⟨_,_,_,_,_,rfl,rfl,w6,(s0.trans (s1.trans (s3.trans (s4.trans (s5.trans s6))))),(OL.nil:OL (oSl (cC (aZ eI) (oSl (aZ eI)))) [] [] [])⟩
 ·refine lSl w3 0 ?_
  refine lI w3 0 ?_
  obtain ⟨r7,e7,hp⟩:=ah hp
  refine aI (aR.P rfl ⟨w3,(aG.step (s1.trans s3))⟩ e7) ?_
  rintro _ H8 ⟨o0a_8,o0n_8,o0c_8,o0k_8,o0m_8,rfl,rfl,w8,s8,f8_0⟩
  refine br ?_
  obtain ⟨w9,s9⟩:=w8.pp [0,1] 3
  exact aw hp ⟨_,_,_,_,_,rfl,rfl,w9,(s0.trans (s1.trans (s3.trans (s8.trans s9)))),f8_0⟩
def bR.Q (H0:Hp) (Ri R0:abR)  (r:Bool) (v:AV) (H':Hp):Prop:=v=(.bool r)/\Out H0 Ri H' (R0) λR=>True
def bR.S29 (H0:Hp) (Ri R0:abR)  (C:acF) (pC:List Int->List Int->Int->Option (Bool)):Prop:=∀ {dt hO cz fD du hP aO cq bs},∀ {H:Hp},cz=aO.length->fD=cq.length->(Out H0 Ri H R0 λR=>ROs eI H R ⟨dt,cz,du⟩ aO/\ROs eI H R ⟨hO,fD,hP⟩ cq)->∀ {r:Bool},pC aO cq bs=some r->Rt (C ⟨dt,cz,du⟩ ⟨hO,fD,hP⟩ bs H) (bR.Q H0 Ri R0  r)
def bR.pl29 (F:Nat) :Nat->List Int->List Int->Int->Option (Bool)
 | 0,_,_,_=>none
 | k+1,aO,cq,bs=>(bif (decide (bs<(aO.length:Int))) then ((ix aO bs).bind λn1=>(ix cq bs).bind λn2=>(bif ((gt aO n1) != (gt cq n2)) then (some false) else (bR.pl29 F k aO cq (wrap .i64 (bs+1))))) else (some true))
theorem bR.l29_P  :∀ k,bR.S29 H0 Ri R0  (bR.l29 F   k) (bR.pl29 F  k):=by
 intro k
 induction k with
 | zero=>unfold bR.S29;intros;rename_i hp;cases hp
 | succ k ih=>
  intro dt hO cz fD du hP aO cq bs H fB oP h0 r hp
  obtain ⟨w0,s0,dh,ki⟩:=h0
  subst fB
  subst oP
  unfold bR.pl29 at hp
  unfold bR.l29
  refine ax hp (λhp=>?_) λhp=>?_
  ·obtain ⟨n1,g1,hp⟩:=ah hp
   obtain ⟨p1,q1,i1,h1,j1⟩:=ROs.ixr dh rfl g1
   refine ai i1 ?_
   have h1:_=[_]:=h1
   subst h1
   refine ai (aH (j1 0 _ rfl)) ?_
   obtain ⟨n2,g2,hp⟩:=ah hp
   obtain ⟨p2,q2,i2,h2,j2⟩:=ROs.ixr ki rfl g2
   refine ai i2 ?_
   have h2:_=[_]:=h2
   subst h2
   refine ai (aH (j2 0 _ rfl)) ?_
   refine ax hp (λhp=>?_) λhp=>?_
   ·exact aw hp ⟨rfl,w0,s0,trivial⟩
   ·exact ih rfl rfl ⟨w0,s0,dh,ki⟩ hp
  ·exact aw hp ⟨rfl,w0,s0,trivial⟩
def bR.p (F:Nat) (af:abU) (cX:abU):Option (Bool):=(bif ((af.length:Int) != (cX.length:Int)) then (some false) else (bR.pl29 F F af cX 0))
theorem bR.P {ar ig aj fC au ii af cX} (aN:aj=af.length) (lr:fC=cX.length) (h0:Inn H R0 λR=>ROs eI H R ⟨ar,aj,au⟩ af/\ROs eI H R ⟨ig,fC,ii⟩ cX) {r:Bool} (hp:bR.p F af cX=some r):Rt (bR.tw F ⟨ar,aj,au⟩ ⟨ig,fC,ii⟩ H) (bR.Q H R0 R0  r):=by
 obtain ⟨w0,aG,lu⟩:=h0
 subst aN
 subst lr
 unfold bR.p at hp
 unfold bR.tw bR.twX
 have s0:=w0.rf
 refine ax hp (λhp=>?_) λhp=>?_
 ·exact aw hp ⟨rfl,w0,s0,trivial⟩
 ·exact bR.l29_P F rfl rfl ⟨w0,s0,aG,lu⟩ hp
def eb.Q (H0:Hp) (Ri R0:abR)  (r:Bool) (v:AV) (H':Hp):Prop:=v=(.bool r)/\Out H0 Ri H' (R0) λR=>True
def eb.p (F:Nat) (ac:Int) (bk:abU) (ay:Int) (bP:abU):Option (Bool):=(bif (ac != ay) then (some false) else ((bR.p F bk bP).bind λr4=>(bif (!r4) then (some false) else (some true))))
theorem eb.P {ac ay eg ff cO ec el fg bk bP} (gv:cO=bk.length) (iV:ec=bP.length) (h0:Inn H R0 λR=>ROs eI H R ⟨eg,cO,el⟩ bk/\ROs eI H R ⟨ff,ec,fg⟩ bP) {r:Bool} (hp:eb.p F ac bk ay bP=some r):Rt (eb.tw F ac ⟨eg,cO,el⟩ ay ⟨ff,ec,fg⟩ H) (eb.Q H R0 R0  r):=by
 obtain ⟨w0,eM,gC⟩:=h0
 subst gv
 subst iV
 unfold eb.p at hp
 unfold eb.tw eb.twX
 have s0:=w0.rf
 refine a_ w0 λH1 w1 s1=>?_
 refine a_ w1 λH2 w2 s2=>?_
 refine lI w2 1 ?_
 refine lI w2 0 ?_
 refine ax hp (λhp=>?_) λhp=>?_
 ·obtain ⟨w3,s3⟩:=w2.pp [] 2
  exact aw hp ⟨rfl,w3,(s0.trans (s1.trans (s2.trans s3))),trivial⟩
 ·refine lSl w2 1 ?_
  refine lSl w2 0 ?_
  obtain ⟨r4,e4,hp⟩:=ah hp
  refine aI (bR.P rfl rfl ⟨w2,(eM.step (s1.trans s2)),(gC.step (s1.trans s2))⟩ e4) ?_
  rintro _ H5 ⟨rfl,w5,s5,_⟩
  refine br ?_
  refine ax hp (λhp=>?_) λhp=>?_
  ·obtain ⟨w6,s6⟩:=w5.pp [] 2
   exact aw hp ⟨rfl,w6,(s0.trans (s1.trans (s2.trans (s5.trans s6)))),trivial⟩
  ·obtain ⟨w7,s7⟩:=w5.pp [] 2
   exact aw hp ⟨rfl,w7,(s0.trans (s1.trans (s2.trans (s5.trans s7)))),trivial⟩
def bw.Q (H0:Hp) (Ri R0:abR)  (r:Bool) (v:AV) (H':Hp):Prop:=v=(.bool r)/\Out H0 Ri H' (R0) λR=>True
def bw.S29 (H0:Hp) (Ri R0:abR)  (C:acF) (pC:List (Int×List Int)->List (Int×List Int)->Int->Option (Bool)):Prop:=∀ {dt hO cz fD du hP aO cq bs},∀ {H:Hp},cz=aO.length->fD=cq.length->(Out H0 Ri H R0 λR=>ROs (aa eI (eSl eI)) H R ⟨dt,cz,du⟩ aO/\ROs (aa eI (eSl eI)) H R ⟨hO,fD,hP⟩ cq)->∀ {r:Bool},pC aO cq bs=some r->Rt (C ⟨dt,cz,du⟩ ⟨hO,fD,hP⟩ bs H) (bw.Q H0 Ri R0  r)
def bw.pl29 (F:Nat) :Nat->List (Int×List Int)->List (Int×List Int)->Int->Option (Bool)
 | 0,_,_,_=>none
 | k+1,aO,cq,bs=>(bif (decide (bs<(aO.length:Int))) then ((ix aO bs).bind λn1=>(ix cq bs).bind λn2=>(eb.p F ((gt aO n1).1) ((gt aO n1).2) ((gt cq n2).1) ((gt cq n2).2)).bind λr3=>(bif (!r3) then (some false) else (bw.pl29 F k aO cq (wrap .i64 (bs+1))))) else (some true))
theorem bw.l29_P  :∀ k,bw.S29 H0 Ri R0  (bw.l29 F (eb.tw F)  k) (bw.pl29 F  k):=by
 intro k
 induction k with
 | zero=>unfold bw.S29;intros;rename_i hp;cases hp
 | succ k ih=>
  intro dt hO cz fD du hP aO cq bs H fB oP h0 r hp
  obtain ⟨w0,s0,dh,ki⟩:=h0
  subst fB
  subst oP
  unfold bw.pl29 at hp
  unfold bw.l29
  refine ax hp (λhp=>?_) λhp=>?_
  ·obtain ⟨n1,g1,hp⟩:=ah hp
   obtain ⟨p1,q1,i1,h1,j1⟩:=ROs.ixr dh rfl g1
   refine ai i1 ?_
   obtain ⟨_,_,rfl,rfl,⟨⟨GV,m1_1,c1_1⟩,rfl,f1_1⟩⟩:=h1
   obtain rfl:m1_1=_:=f1_1.n
   refine ai (aH (j1 0 _ rfl)) ?_
   refine ai (il (j1 1 _ rfl)) ?_
   obtain ⟨n2,g2,hp⟩:=ah hp
   obtain ⟨p2,q2,i2,h2,j2⟩:=ROs.ixr ki rfl g2
   refine ai i2 ?_
   obtain ⟨_,_,rfl,rfl,⟨⟨ZV,m2_1,c2_1⟩,rfl,f2_1⟩⟩:=h2
   obtain rfl:m2_1=_:=f2_1.n
   refine ai (aH (j2 0 _ rfl)) ?_
   refine ai (il (j2 1 _ rfl)) ?_
   obtain ⟨r3,e3,hp⟩:=ah hp
   refine aI (eb.P rfl rfl ⟨w0,f1_1,f2_1⟩ e3) ?_
   rintro _ H4 ⟨rfl,w4,s4,_⟩
   refine br ?_
   refine ax hp (λhp=>?_) λhp=>?_
   ·exact aw hp ⟨rfl,w4,(s0.trans s4),trivial⟩
   ·exact ih rfl rfl ⟨w4,(s0.trans s4),(dh.step s4),(ki.step s4)⟩ hp
  ·exact aw hp ⟨rfl,w0,s0,trivial⟩
def bw.p (F:Nat) (af:acg) (cX:acg):Option (Bool):=(bif ((af.length:Int) != (cX.length:Int)) then (some false) else (bw.pl29 F F af cX 0))
theorem bw.P {ar ig aj fC au ii af cX} (aN:aj=af.length) (lr:fC=cX.length) (h0:Inn H R0 λR=>ROs (aa eI (eSl eI)) H R ⟨ar,aj,au⟩ af/\ROs (aa eI (eSl eI)) H R ⟨ig,fC,ii⟩ cX) {r:Bool} (hp:bw.p F af cX=some r):Rt (bw.tw F ⟨ar,aj,au⟩ ⟨ig,fC,ii⟩ H) (bw.Q H R0 R0  r):=by
 obtain ⟨w0,aG,lu⟩:=h0
 subst aN
 subst lr
 unfold bw.p at hp
 unfold bw.tw bw.twX
 have s0:=w0.rf
 refine ax hp (λhp=>?_) λhp=>?_
 ·exact aw hp ⟨rfl,w0,s0,trivial⟩
 ·exact bw.l29_P F rfl rfl ⟨w0,s0,aG,lu⟩ hp
def bq.Q (H0:Hp) (Ri R0:abR)  (r:Bool) (v:AV) (H':Hp):Prop:=v=(.bool r)/\Out H0 Ri H' (R0) λR=>True
def bq.S29 (H0:Hp) (Ri R0:abR)  (C:acF) (pC:List ((List (Int×List Int)))->List ((List (Int×List Int)))->Int->Option (Bool)):Prop:=∀ {dt hO cz fD du hP aO cq bs},∀ {H:Hp},cz=aO.length->fD=cq.length->(Out H0 Ri H R0 λR=>ROs (eSl (aa eI (eSl eI))) H R ⟨dt,cz,du⟩ aO/\ROs (eSl (aa eI (eSl eI))) H R ⟨hO,fD,hP⟩ cq)->∀ {r:Bool},pC aO cq bs=some r->Rt (C ⟨dt,cz,du⟩ ⟨hO,fD,hP⟩ bs H) (bq.Q H0 Ri R0  r)
def bq.pl29 (F:Nat) :Nat->List ((List (Int×List Int)))->List ((List (Int×List Int)))->Int->Option (Bool)
 | 0,_,_,_=>none
 | k+1,aO,cq,bs=>(bif (decide (bs<(aO.length:Int))) then ((ix aO bs).bind λn1=>(ix cq bs).bind λn2=>(bw.p F (gt aO n1) (gt cq n2)).bind λr3=>(bif (!r3) then (some false) else (bq.pl29 F k aO cq (wrap .i64 (bs+1))))) else (some true))
theorem bq.l29_P  :∀ k,bq.S29 H0 Ri R0  (bq.l29 F (bw.tw F)  k) (bq.pl29 F  k):=by
 intro k
 induction k with
 | zero=>unfold bq.S29;intros;rename_i hp;cases hp
 | succ k ih=>
  intro dt hO cz fD du hP aO cq bs H fB oP h0 r hp
  obtain ⟨w0,s0,dh,ki⟩:=h0
  subst fB
  subst oP
  unfold bq.pl29 at hp
  unfold bq.l29
  refine ax hp (λhp=>?_) λhp=>?_
  ·obtain ⟨n1,g1,hp⟩:=ah hp
   obtain ⟨p1,q1,i1,h1,j1⟩:=ROs.ixr dh rfl g1
   refine ai i1 ?_
   obtain ⟨⟨Ex,m1_0,c1_0⟩,rfl,f1_0⟩:=h1
   obtain rfl:m1_0=_:=f1_0.n
   refine ai (il (j1 0 _ rfl)) ?_
   obtain ⟨n2,g2,hp⟩:=ah hp
   obtain ⟨p2,q2,i2,h2,j2⟩:=ROs.ixr ki rfl g2
   refine ai i2 ?_
   obtain ⟨⟨abo,m2_0,c2_0⟩,rfl,f2_0⟩:=h2
   obtain rfl:m2_0=_:=f2_0.n
   refine ai (il (j2 0 _ rfl)) ?_
   obtain ⟨r3,e3,hp⟩:=ah hp
   refine aI (bw.P rfl rfl ⟨w0,f1_0,f2_0⟩ e3) ?_
   rintro _ H4 ⟨rfl,w4,s4,_⟩
   refine br ?_
   refine ax hp (λhp=>?_) λhp=>?_
   ·exact aw hp ⟨rfl,w4,(s0.trans s4),trivial⟩
   ·exact ih rfl rfl ⟨w4,(s0.trans s4),(dh.step s4),(ki.step s4)⟩ hp
  ·exact aw hp ⟨rfl,w0,s0,trivial⟩
def bq.p (F:Nat) (af:acp) (cX:acp):Option (Bool):=(bif ((af.length:Int) != (cX.length:Int)) then (some false) else (bq.pl29 F F af cX 0))
theorem bq.P {ar ig aj fC au ii af cX} (aN:aj=af.length) (lr:fC=cX.length) (h0:Inn H R0 λR=>ROs (eSl (aa eI (eSl eI))) H R ⟨ar,aj,au⟩ af/\ROs (eSl (aa eI (eSl eI))) H R ⟨ig,fC,ii⟩ cX) {r:Bool} (hp:bq.p F af cX=some r):Rt (bq.tw F ⟨ar,aj,au⟩ ⟨ig,fC,ii⟩ H) (bq.Q H R0 R0  r):=by
 obtain ⟨w0,aG,lu⟩:=h0
 subst aN
 subst lr
 unfold bq.p at hp
 unfold bq.tw bq.twX
 have s0:=w0.rf
 refine ax hp (λhp=>?_) λhp=>?_
 ·exact aw hp ⟨rfl,w0,s0,trivial⟩
 ·exact bq.l29_P F rfl rfl ⟨w0,s0,aG,lu⟩ hp
def eV.Q (H0:Hp) (Ri R0:abR)  (r:Bool) (v:AV) (H':Hp):Prop:=v=(.bool r)/\Out H0 Ri H' (R0) λR=>True
def eV.p (F:Nat) (ac:Int) (ag:Int) (bG:Int) (bH:Int) (bz:Int) (cf:Int) (jS:Int) (jT:Int) (jU:Int) (jV:Int):Option (Bool):=(bif (ac != cf) then (some false) else ((bif (ag != jS) then (some false) else ((bif (bG != jT) then (some false) else ((bif (bH != jU) then (some false) else ((bif (bz != jV) then (some false) else (some true))))))))))
theorem eV.P {ac ag bG bH bz cf jS jT jU jV}  (h0:Inn H R0 λR=>True) {r:Bool} (hp:eV.p F ac ag bG bH bz cf jS jT jU jV=some r):Rt (eV.tw F ac ag bG bH bz cf jS jT jU jV H) (eV.Q H R0 R0  r):=by
 obtain ⟨w0,_⟩:=h0
 unfold eV.p at hp
 unfold eV.tw eV.twX
 have s0:=w0.rf
 refine a_ w0 λH1 w1 s1=>?_
 refine a_ w1 λH2 w2 s2=>?_
 refine lI w2 1 ?_
 refine lI w2 0 ?_
 refine ax hp (λhp=>?_) λhp=>?_
 ·obtain ⟨w3,s3⟩:=w2.pp [] 2
  exact aw hp ⟨rfl,w3,(s0.trans (s1.trans (s2.trans s3))),trivial⟩
 ·refine lI w2 1 ?_
  refine lI w2 0 ?_
  refine ax hp (λhp=>?_) λhp=>?_
  ·obtain ⟨w4,s4⟩:=w2.pp [] 2
   exact aw hp ⟨rfl,w4,(s0.trans (s1.trans (s2.trans s4))),trivial⟩
  ·refine lI w2 1 ?_
   refine lI w2 0 ?_
   refine ax hp (λhp=>?_) λhp=>?_
   ·obtain ⟨w5,s5⟩:=w2.pp [] 2
    exact aw hp ⟨rfl,w5,(s0.trans (s1.trans (s2.trans s5))),trivial⟩
   ·refine lI w2 1 ?_
    refine lI w2 0 ?_
    refine ax hp (λhp=>?_) λhp=>?_
    ·obtain ⟨w6,s6⟩:=w2.pp [] 2
     exact aw hp ⟨rfl,w6,(s0.trans (s1.trans (s2.trans s6))),trivial⟩
    ·refine lI w2 1 ?_
     refine lI w2 0 ?_
     refine ax hp (λhp=>?_) λhp=>?_
     ·obtain ⟨w7,s7⟩:=w2.pp [] 2
      exact aw hp ⟨rfl,w7,(s0.trans (s1.trans (s2.trans s7))),trivial⟩
     ·obtain ⟨w8,s8⟩:=w2.pp [] 2
      exact aw hp ⟨rfl,w8,(s0.trans (s1.trans (s2.trans s8))),trivial⟩
def bC.Q (H0:Hp) (Ri R0:abR)  (r:Bool) (v:AV) (H':Hp):Prop:=v=(.bool r)/\Out H0 Ri H' (R0) λR=>True
def bC.S29 (H0:Hp) (Ri R0:abR)  (C:acF) (pC:List (Int×Int×Int×Int×Int)->List (Int×Int×Int×Int×Int)->Int->Option (Bool)):Prop:=∀ {dt hO cz fD du hP aO cq bs},∀ {H:Hp},cz=aO.length->fD=cq.length->(Out H0 Ri H R0 λR=>ROs (aa eI (aa eI (aa eI (aa eI eI)))) H R ⟨dt,cz,du⟩ aO/\ROs (aa eI (aa eI (aa eI (aa eI eI)))) H R ⟨hO,fD,hP⟩ cq)->∀ {r:Bool},pC aO cq bs=some r->Rt (C ⟨dt,cz,du⟩ ⟨hO,fD,hP⟩ bs H) (bC.Q H0 Ri R0  r)
def bC.pl29 (F:Nat) :Nat->List (Int×Int×Int×Int×Int)->List (Int×Int×Int×Int×Int)->Int->Option (Bool)
 | 0,_,_,_=>none
 | k+1,aO,cq,bs=>(bif (decide (bs<(aO.length:Int))) then ((ix aO bs).bind λn1=>(ix cq bs).bind λn2=>(eV.p F ((gt aO n1).1) ((gt aO n1).2.1) ((gt aO n1).2.2.1) ((gt aO n1).2.2.2.1) ((gt aO n1).2.2.2.2) ((gt cq n2).1) ((gt cq n2).2.1) ((gt cq n2).2.2.1) ((gt cq n2).2.2.2.1) ((gt cq n2).2.2.2.2)).bind λr3=>(bif (!r3) then (some false) else (bC.pl29 F k aO cq (wrap .i64 (bs+1))))) else (some true))
theorem bC.l29_P  :∀ k,bC.S29 H0 Ri R0  (bC.l29 F (eV.tw F)  k) (bC.pl29 F  k):=by
 intro k
 induction k with
 | zero=>unfold bC.S29;intros;rename_i hp;cases hp
 | succ k ih=>
  intro dt hO cz fD du hP aO cq bs H fB oP h0 r hp
  obtain ⟨w0,s0,dh,ki⟩:=h0
  subst fB
  subst oP
  unfold bC.pl29 at hp
  unfold bC.l29
  refine ax hp (λhp=>?_) λhp=>?_
  ·obtain ⟨n1,g1,hp⟩:=ah hp
   obtain ⟨p1,q1,i1,h1,j1⟩:=ROs.ixr dh rfl g1
   refine ai i1 ?_
   obtain ⟨_,_,rfl,rfl,_,_,rfl,rfl,_,_,rfl,rfl,_,_,rfl,rfl,rfl⟩:=h1
   refine ai (aH (j1 0 _ rfl)) ?_
   refine ai (aH (j1 1 _ rfl)) ?_
   refine ai (aH (j1 2 _ rfl)) ?_
   refine ai (aH (j1 3 _ rfl)) ?_
   refine ai (aH (j1 4 _ rfl)) ?_
   obtain ⟨n2,g2,hp⟩:=ah hp
   obtain ⟨p2,q2,i2,h2,j2⟩:=ROs.ixr ki rfl g2
   refine ai i2 ?_
   obtain ⟨_,_,rfl,rfl,_,_,rfl,rfl,_,_,rfl,rfl,_,_,rfl,rfl,rfl⟩:=h2
   refine ai (aH (j2 0 _ rfl)) ?_
   refine ai (aH (j2 1 _ rfl)) ?_
   refine ai (aH (j2 2 _ rfl)) ?_
   refine ai (aH (j2 3 _ rfl)) ?_
   refine ai (aH (j2 4 _ rfl)) ?_
   obtain ⟨r3,e3,hp⟩:=ah hp
   refine aI (eV.P ⟨w0,trivial⟩ e3) ?_
   rintro _ H4 ⟨rfl,w4,s4,_⟩
   refine br ?_
   refine ax hp (λhp=>?_) λhp=>?_
   ·exact aw hp ⟨rfl,w4,(s0.trans s4),trivial⟩
   ·exact ih rfl rfl ⟨w4,(s0.trans s4),(dh.step s4),(ki.step s4)⟩ hp
  ·exact aw hp ⟨rfl,w0,s0,trivial⟩
def bC.p (F:Nat) (af:abX) (cX:abX):Option (Bool):=(bif ((af.length:Int) != (cX.length:Int)) then (some false) else (bC.pl29 F F af cX 0))
theorem bC.P {ar ig aj fC au ii af cX} (aN:aj=af.length) (lr:fC=cX.length) (h0:Inn H R0 λR=>ROs (aa eI (aa eI (aa eI (aa eI eI)))) H R ⟨ar,aj,au⟩ af/\ROs (aa eI (aa eI (aa eI (aa eI eI)))) H R ⟨ig,fC,ii⟩ cX) {r:Bool} (hp:bC.p F af cX=some r):Rt (bC.tw F ⟨ar,aj,au⟩ ⟨ig,fC,ii⟩ H) (bC.Q H R0 R0  r):=by
 obtain ⟨w0,aG,lu⟩:=h0
 subst aN
 subst lr
 unfold bC.p at hp
 unfold bC.tw bC.twX
 have s0:=w0.rf
 refine ax hp (λhp=>?_) λhp=>?_
 ·exact aw hp ⟨rfl,w0,s0,trivial⟩
 ·exact bC.l29_P F rfl rfl ⟨w0,s0,aG,lu⟩ hp
def ew.Q (H0:Hp) (Ri R0:abR)  (r:Bool) (v:AV) (H':Hp):Prop:=v=(.bool r)/\Out H0 Ri H' (R0) λR=>True
def ew.p (F:Nat) (af:abX) (ag:Int) (eo:abX) (bp:Int):Option (Bool):=(bC.p F af eo).bind λr3=>(bif (!r3) then (some false) else ((bif (ag != bp) then (some false) else (some true))))
theorem ew.P {ar kf aj hG au kg af eo ag bp} (aN:aj=af.length) (oq:hG=eo.length) (h0:Inn H R0 λR=>ROs (aa eI (aa eI (aa eI (aa eI eI)))) H R ⟨ar,aj,au⟩ af/\ROs (aa eI (aa eI (aa eI (aa eI eI)))) H R ⟨kf,hG,kg⟩ eo) {r:Bool} (hp:ew.p F af ag eo bp=some r):Rt (ew.tw F ⟨ar,aj,au⟩ ag ⟨kf,hG,kg⟩ bp H) (ew.Q H R0 R0  r):=by
 obtain ⟨w0,aG,ou⟩:=h0
 subst aN
 subst oq
 unfold ew.p at hp
 unfold ew.tw ew.twX
 have s0:=w0.rf
 refine a_ w0 λH1 w1 s1=>?_
 refine a_ w1 λH2 w2 s2=>?_
 refine lSl w2 1 ?_
 refine lSl w2 0 ?_
 obtain ⟨r3,e3,hp⟩:=ah hp
 refine aI (bC.P rfl rfl ⟨w2,(aG.step (s1.trans s2)),(ou.step (s1.trans s2))⟩ e3) ?_
 rintro _ H4 ⟨rfl,w4,s4,_⟩
 refine br ?_
 refine ax hp (λhp=>?_) λhp=>?_
 ·obtain ⟨w5,s5⟩:=w4.pp [] 2
  exact aw hp ⟨rfl,w5,(s0.trans (s1.trans (s2.trans (s4.trans s5)))),trivial⟩
 ·refine lI w4 1 ?_
  refine lI w4 0 ?_
  refine ax hp (λhp=>?_) λhp=>?_
  ·obtain ⟨w6,s6⟩:=w4.pp [] 2
   exact aw hp ⟨rfl,w6,(s0.trans (s1.trans (s2.trans (s4.trans s6)))),trivial⟩
  ·obtain ⟨w7,s7⟩:=w4.pp [] 2
   exact aw hp ⟨rfl,w7,(s0.trans (s1.trans (s2.trans (s4.trans s7)))),trivial⟩
def bU.Q (H0:Hp) (Ri R0:abR) (ar:ON) (aj:Nat) (au:Cap) (cP:Bool) (cQ cR:ab0) (r:acG) (v:AV) (H':Hp):Prop:=∃ gz:List AV,v=(.i r.1)/\aj=(r.2).length/\Out H0 Ri H' (Rs.ow cP ⟨ar,aj,au⟩ (aa eI (aa eI (aa eI (aa eI eI)))).z cQ gz cR::R0) λR=>CR (aa eI (aa eI (aa eI (aa eI eI)))) H' R gz (r.2)
def bU.S13 (H0:Hp) (Ri R0:abR) (eE:ON) (dU:Nat) (eF:Cap) (fU:Bool) (fV fW:ab0) (C:abY) (pC:List (Int×Int×Int×Int×Int)->Int->Int->Option (Int×(List (Int×Int×Int×Int×Int)))):Prop:=∀ {aO oQ aS aY},∀ {H:Hp},dU=aO.length->(Out H0 Ri H (Rs.ow fU ⟨eE,dU,eF⟩ (aa eI (aa eI (aa eI (aa eI eI)))).z fV oQ fW::R0) λR=>CR (aa eI (aa eI (aa eI (aa eI eI)))) H R oQ aO)->∀ {r:acG},pC aO aS aY=some r->Rt (C ⟨eE,dU,eF⟩ aS aY H) (bU.Q H0 Ri R0 eE dU eF fU fV fW r)
def bU.pl13 (F:Nat) :Nat->List (Int×Int×Int×Int×Int)->Int->Int->Option (Int×(List (Int×Int×Int×Int×Int)))
 | 0,_,_,_=>none
 | k+1,aO,aS,aY=>(bif (decide (aY<(aO.length:Int))) then ((ix aO aY).bind λn1=>(some (aO.set n1 (aS,(gt aO n1).2.1,(gt aO n1).2.2.1,(gt aO n1).2.2.2.1,(gt aO n1).2.2.2.2))).bind λl2=>(ix l2 aY).bind λn4=>(some (l2.set n4 ((gt l2 n4).1,(wrap .i64 (aS+1)),(gt l2 n4).2.2.1,(gt l2 n4).2.2.2.1,(gt l2 n4).2.2.2.2))).bind λl5=>(ix l5 aY).bind λn7=>(some (l5.set n7 ((gt l5 n7).1,(gt l5 n7).2.1,(wrap .i64 ((wrap .i64 (aS+1))+1)),(gt l5 n7).2.2.2.1,(gt l5 n7).2.2.2.2))).bind λl8=>(ix l8 aY).bind λn10=>(some (l8.set n10 ((gt l8 n10).1,(gt l8 n10).2.1,(gt l8 n10).2.2.1,(wrap .i64 ((wrap .i64 ((wrap .i64 (aS+1))+1))+1)),(gt l8 n10).2.2.2.2))).bind λl11=>(ix l11 aY).bind λn13=>(some (l11.set n13 ((gt l11 n13).1,(gt l11 n13).2.1,(gt l11 n13).2.2.1,(gt l11 n13).2.2.2.1,(wrap .i64 ((wrap .i64 ((wrap .i64 ((wrap .i64 (aS+1))+1))+1))+1))))).bind λl14=>bU.pl13 F k l14 (wrap .i64 ((wrap .i64 ((wrap .i64 ((wrap .i64 ((wrap .i64 (aS+1))+1))+1))+1))+1)) (wrap .i64 (aY+1))) else (some (aS,aO)))
theorem bU.l13_P {eE dU eF fU fV fW} :∀ k,bU.S13 H0 Ri R0 eE dU eF fU fV fW (bU.l13 F   k) (bU.pl13 F  k):=by
 intro k
 induction k with
 | zero=>unfold bU.S13;intros;rename_i hp;cases hp
 | succ k ih=>
  intro aO oQ aS aY H fB h0 r hp
  obtain ⟨w0,s0,dh⟩:=h0
  subst fB
  unfold bU.pl13 at hp
  unfold bU.l13
  refine ax hp (λhp=>?_) λhp=>?_
  ·obtain ⟨n1,g1,hp⟩:=ah hp
   obtain ⟨p1,q1,i1,h1,j1⟩:=W.ixo (E:=(aa eI (aa eI (aa eI (aa eI eI))))) w0 (i:=0) rfl rfl dh g1
   refine ai i1 ?_
   obtain ⟨l2,e2,hp⟩:=ah hp
   refine eA (aa eI (aa eI (aa eI (aa eI eI)))) w0 (i:=0) (j:=0) (p:=p1) rfl rfl dh g1 i1 e2 rfl rfl (λ_ h=>by obtain ⟨_,_,rfl,rfl,_,_,rfl,rfl,_,_,rfl,rfl,_,_,rfl,rfl,rfl⟩:=h;exact ⟨[_],_,rfl,rfl,[_],_,rfl,rfl,[_],_,rfl,rfl,[_],_,rfl,rfl,rfl⟩) λH3 k3 w3 s3 c3=>?_
   obtain ⟨n4,g4,hp⟩:=ah hp
   obtain ⟨p4,q4,i4,h4,j4⟩:=W.ixo (E:=(aa eI (aa eI (aa eI (aa eI eI))))) w3 (i:=0) rfl rfl c3 g4
   refine ai i4 ?_
   obtain ⟨l5,e5,hp⟩:=ah hp
   refine eA (aa eI (aa eI (aa eI (aa eI eI)))) w3 (i:=0) (j:=1) (p:=p4) rfl rfl c3 g4 i4 e5 rfl rfl (λ_ h=>by obtain ⟨_,_,rfl,rfl,_,_,rfl,rfl,_,_,rfl,rfl,_,_,rfl,rfl,rfl⟩:=h;exact ⟨[_],_,rfl,rfl,[_],_,rfl,rfl,[_],_,rfl,rfl,[_],_,rfl,rfl,rfl⟩) λH6 k6 w6 s6 c6=>?_
   obtain ⟨n7,g7,hp⟩:=ah hp
   obtain ⟨p7,q7,i7,h7,j7⟩:=W.ixo (E:=(aa eI (aa eI (aa eI (aa eI eI))))) w6 (i:=0) rfl rfl c6 g7
   refine ai i7 ?_
   obtain ⟨l8,e8,hp⟩:=ah hp
   refine eA (aa eI (aa eI (aa eI (aa eI eI)))) w6 (i:=0) (j:=2) (p:=p7) rfl rfl c6 g7 i7 e8 rfl rfl (λ_ h=>by obtain ⟨_,_,rfl,rfl,_,_,rfl,rfl,_,_,rfl,rfl,_,_,rfl,rfl,rfl⟩:=h;exact ⟨[_],_,rfl,rfl,[_],_,rfl,rfl,[_],_,rfl,rfl,[_],_,rfl,rfl,rfl⟩) λH9 k9 w9 s9 c9=>?_
   obtain ⟨n10,g10,hp⟩:=ah hp
   obtain ⟨p10,q10,i10,h10,j10⟩:=W.ixo (E:=(aa eI (aa eI (aa eI (aa eI eI))))) w9 (i:=0) rfl rfl c9 g10
   refine ai i10 ?_
   obtain ⟨l11,e11,hp⟩:=ah hp
   refine eA (aa eI (aa eI (aa eI (aa eI eI)))) w9 (i:=0) (j:=3) (p:=p10) rfl rfl c9 g10 i10 e11 rfl rfl (λ_ h=>by obtain ⟨_,_,rfl,rfl,_,_,rfl,rfl,_,_,rfl,rfl,_,_,rfl,rfl,rfl⟩:=h;exact ⟨[_],_,rfl,rfl,[_],_,rfl,rfl,[_],_,rfl,rfl,[_],_,rfl,rfl,rfl⟩) λH12 k12 w12 s12 c12=>?_
   obtain ⟨n13,g13,hp⟩:=ah hp
   obtain ⟨p13,q13,i13,h13,j13⟩:=W.ixo (E:=(aa eI (aa eI (aa eI (aa eI eI))))) w12 (i:=0) rfl rfl c12 g13
   refine ai i13 ?_
   obtain ⟨l14,e14,hp⟩:=ah hp
   refine eA (aa eI (aa eI (aa eI (aa eI eI)))) w12 (i:=0) (j:=4) (p:=p13) rfl rfl c12 g13 i13 e14 rfl rfl (λ_ h=>by obtain ⟨_,_,rfl,rfl,_,_,rfl,rfl,_,_,rfl,rfl,_,_,rfl,rfl,rfl⟩:=h;exact ⟨[_],_,rfl,rfl,[_],_,rfl,rfl,[_],_,rfl,rfl,[_],_,rfl,rfl,rfl⟩) λH15 k15 w15 s15 c15=>?_
   exact ih (((((cE e2).symm.trans (cE e5).symm).trans (cE e8).symm).trans (cE e11).symm).trans (cE e14).symm) ⟨w15,(s0.trans (s3.trans (s6.trans (s9.trans (s12.trans s15))))),c15⟩ hp
  ·exact aw hp ⟨_,rfl,rfl,w0,s0,dh⟩
def bU.p (F:Nat) (af:abX) (aq:Int):Option (Int×(List (Int×Int×Int×Int×Int))):=bU.pl13 F F af aq 0
theorem bU.P {ar aj au af cP cQ cR ez aq} (aN:aj=af.length) (h0:Inn H (Rs.ow cP ⟨ar,aj,au⟩ (aa eI (aa eI (aa eI (aa eI eI)))).z cQ ez cR::R0) λR=>CR (aa eI (aa eI (aa eI (aa eI eI)))) H R ez af) {r:acG} (hp:bU.p F af aq=some r):Rt (bU.tw F ⟨ar,aj,au⟩ aq H) (bU.Q H (Rs.ow cP ⟨ar,aj,au⟩ (aa eI (aa eI (aa eI (aa eI eI)))).z cQ ez cR::R0) R0 ar aj au cP cQ cR r):=by
 obtain ⟨w0,aG⟩:=h0
 subst aN
 unfold bU.p at hp
 unfold bU.tw bU.twX
 have s0:=w0.rf
 exact bU.l13_P F rfl ⟨w0,s0,aG⟩ hp
def ey.Q (H0:Hp) (Ri R0:abR) (ar:ON) (aj:Nat) (au:Cap) (cP:Bool) (cQ cR:ab0) (r:acG) (v:AV) (H':Hp):Prop:=∃ gz:List AV,v=(.i r.1)/\aj=(r.2).length/\Out H0 Ri H' (Rs.ow cP ⟨ar,aj,au⟩ (aa eI (aa eI (aa eI (aa eI eI)))).z cQ gz cR::R0) λR=>CR (aa eI (aa eI (aa eI (aa eI eI)))) H' R gz (r.2)
def ey.p (F:Nat) (af:abX) (ay:Int):Option (Int×(List (Int×Int×Int×Int×Int))):=(bU.p F af ay).bind λr3=>some (r3.1,r3.2)
theorem ey.P {ar aj au af cP cQ cR ez ag ay} (aN:aj=af.length) (h0:Inn H (Rs.ow cP ⟨ar,aj,au⟩ (aa eI (aa eI (aa eI (aa eI eI)))).z cQ ez cR::R0) λR=>CR (aa eI (aa eI (aa eI (aa eI eI)))) H R ez af) {r:acG} (hp:ey.p F af ay=some r):Rt (ey.tw F ⟨ar,aj,au⟩ ag ay H) (ey.Q H (Rs.ow cP ⟨ar,aj,au⟩ (aa eI (aa eI (aa eI (aa eI eI)))).z cQ ez cR::R0) R0 ar aj au cP cQ cR r):=by
 obtain ⟨w0,aG⟩:=h0
 subst aN
 unfold ey.p at hp
 unfold ey.tw ey.twX
 have s0:=w0.rf
 refine a_ w0 λH1 w1 s1=>?_
 refine lSl w1 0 ?_
 obtain ⟨w2,s2⟩:=w1.pp [1,0] 2
 obtain ⟨r3,e3,hp⟩:=ah hp
 refine aI (bU.P rfl ⟨w2,(aG.step (s1.trans s2))⟩ e3) ?_
 rintro _ H4 ⟨abp,rfl,hl4_0,w4,s4,f4_0⟩
 refine br ?_
 obtain ⟨w5,s5⟩:=w4.pp [0] 2
 exact aw hp ⟨_,rfl,hl4_0,w5,(s0.trans (s1.trans (s2.trans (s4.trans s5)))),(f4_0.step s5)⟩
def bL.Q (H0:Hp) (Ri R0:abR) (ar:ON) (aj:Nat) (au:Cap) (cP:Bool) (cQ cR:ab0) (r:abZ) (v:AV) (H':Hp):Prop:=∃ gz:List AV,v=(.i r.1)/\aj=(r.2).length/\Out H0 Ri H' (Rs.ow cP ⟨ar,aj,au⟩ eI.z cQ gz cR::R0) λR=>CR eI H' R gz (r.2)
def bL.S13 (H0:Hp) (Ri R0:abR) (eE:ON) (dU:Nat) (eF:Cap) (fU:Bool) (fV fW:ab0) (C:abY) (pC:List Int->Int->Int->Option (Int×List Int)):Prop:=∀ {aO oQ aS aY},∀ {H:Hp},dU=aO.length->(Out H0 Ri H (Rs.ow fU ⟨eE,dU,eF⟩ eI.z fV oQ fW::R0) λR=>CR eI H R oQ aO)->∀ {r:abZ},pC aO aS aY=some r->Rt (C ⟨eE,dU,eF⟩ aS aY H) (bL.Q H0 Ri R0 eE dU eF fU fV fW r)
def bL.pl13 (F:Nat) :Nat->List Int->Int->Int->Option (Int×List Int)
 | 0,_,_,_=>none
 | k+1,aO,aS,aY=>(bif (decide (aY<(aO.length:Int))) then ((ix aO aY).bind λn1=>(some (aO.set n1 aS)).bind λl2=>bL.pl13 F k l2 (wrap .i64 (aS+1)) (wrap .i64 (aY+1))) else (some (aS,aO)))
theorem bL.l13_P {eE dU eF fU fV fW} :∀ k,bL.S13 H0 Ri R0 eE dU eF fU fV fW (bL.l13 F   k) (bL.pl13 F  k):=by
 intro k
 induction k with
 | zero=>unfold bL.S13;intros;rename_i hp;cases hp
 | succ k ih=>
  intro aO oQ aS aY H fB h0 r hp
  obtain ⟨w0,s0,dh⟩:=h0
  subst fB
  unfold bL.pl13 at hp
  unfold bL.l13
  refine ax hp (λhp=>?_) λhp=>?_
  ·obtain ⟨n1,g1,hp⟩:=ah hp
   obtain ⟨p1,q1,i1,h1,j1⟩:=W.ixo (E:=eI) w0 (i:=0) rfl rfl dh g1
   refine ai i1 ?_
   obtain ⟨l2,e2,hp⟩:=ah hp
   refine eA eI w0 (i:=0) (j:=0) (p:=p1) rfl rfl dh g1 i1 e2 rfl rfl (λ_ h=>by have h:_=[_]:=h;subst h;exact rfl) λH3 k3 w3 s3 c3=>?_
   exact ih ((cE e2).symm) ⟨w3,(s0.trans s3),c3⟩ hp
  ·exact aw hp ⟨_,rfl,rfl,w0,s0,dh⟩
def bL.p (F:Nat) (af:abU) (aq:Int):Option (Int×List Int):=bL.pl13 F F af aq 0
theorem bL.P {ar aj au af cP cQ cR ez aq} (aN:aj=af.length) (h0:Inn H (Rs.ow cP ⟨ar,aj,au⟩ eI.z cQ ez cR::R0) λR=>CR eI H R ez af) {r:abZ} (hp:bL.p F af aq=some r):Rt (bL.tw F ⟨ar,aj,au⟩ aq H) (bL.Q H (Rs.ow cP ⟨ar,aj,au⟩ eI.z cQ ez cR::R0) R0 ar aj au cP cQ cR r):=by
 obtain ⟨w0,aG⟩:=h0
 subst aN
 unfold bL.p at hp
 unfold bL.tw bL.twX
 have s0:=w0.rf
 exact bL.l13_P F rfl ⟨w0,s0,aG⟩ hp
def bX.Q (H0:Hp) (Ri R0:abR) (ar:ON) (aj:Nat) (au:Cap) (cP:Bool) (cQ cR:ab0) (r:acU) (v:AV) (H':Hp):Prop:=∃ gz:List AV,∃ vl:List Ow,v=(.i r.1)/\aj=(r.2).length/\Out H0 Ri H' (Rs.ow cP ⟨ar,aj,au⟩ (aa eI (eSl eI)).z cQ gz cR::Rs.many vl::R0) λR=>OL (cC (aZ eI) (oSl (aZ eI))) vl gz (r.2)
def bX.p (F:Nat) (af:acg) (aq:Int):Option (Int×(List (Int×List Int))):=(if af.length<F/\af.length<=4294967296 then mls (bL.p F) af aq else none)
theorem bX.P {ar aj au af cP cQ cR ez lE aq} (aN:aj=af.length) (h0:Inn H (Rs.ow cP ⟨ar,aj,au⟩ (aa eI (eSl eI)).z cQ ez cR::Rs.many lE::R0) λR=>OL (cC (aZ eI) (oSl (aZ eI))) lE ez af) {r:acU} (hp:bX.p F af aq=some r):Rt (bX.tw F ⟨ar,aj,au⟩ aq H) (bX.Q H (Rs.ow cP ⟨ar,aj,au⟩ (aa eI (eSl eI)).z cQ ez cR::Rs.many lE::R0) R0 ar aj au cP cQ cR r):=by
 obtain ⟨w0,f0⟩:=h0
 subst aN
 unfold bX.p at hp
 unfold bX.tw bX.twX
 obtain ⟨⟨hF,hc⟩,hp⟩:=eW hp
 have hin:∀ {H:Hp} {R:abR} {q:Ow} {rr:List Ow} {x:abU} {k:Int} {res:abZ},W H (q.rs::.many rr::R)->q.z=(aZ eI).E.z->OL (aZ eI) rr q.cells x->bL.p F x k=some res->∃ H' c' rr',bL.tw F q.s k H=some (.i res.1,H')/\W H' (Ow.rs ⟨q.t,q.s,q.z,q.pre,c',q.rest⟩::.many rr'::R)/\Fr H (q.rs::.many rr::R) H' (Ow.rs ⟨q.t,q.s,q.z,q.pre,c',q.rest⟩::.many rr'::R)/\OL (aZ eI) rr' c' res.2:=by
  intro H R q rr x k res w hz ho e
  obtain ⟨t,⟨a,n,c⟩,z,pre,cells,rest⟩:=q
  obtain rfl:z=(aZ eI).E.z:=hz
  obtain ⟨rfl,hcr⟩:=ho.flat_nil
  obtain ⟨v,H',e1,k',rfl,hn',w1,s1,f1⟩:=bL.P (F:=F) (R0:=.many []::R) (W.own_n (E:=eI) w (i:=0) rfl (hcr _ _)) ⟨w,hcr _ _⟩ e
  exact ⟨H',k',[],e1,w1,s1,OL.of_flat (gE .i64) f1⟩
 obtain ⟨H2,r',c',e,w2,s2,f2⟩:=aah (tw:=bL.tw F) (f:=bL.p F) (Lp:=λg k i H=>bX.l13 F (bL.tw F) g ⟨ar,af.length,au⟩ k i H) (λ_ _ _ _=>rfl) hin af [] F H aq r [] lE [] ez hF rfl hc w0 .nil f0 hp
 exact ⟨_,_,e,_,_,rfl,QP hp,w2,s2,f2⟩
def ck.Q (H0:Hp) (Ri R0:abR) (ar:ON) (aj:Nat) (au:Cap) (cP:Bool) (cQ cR:ab0) (r:ac1) (v:AV) (H':Hp):Prop:=∃ gz:List AV,∃ vl:List Ow,v=(.i r.1)/\aj=(r.2).length/\Out H0 Ri H' (Rs.ow cP ⟨ar,aj,au⟩ (eSl (aa eI (eSl eI))).z cQ gz cR::Rs.many vl::R0) λR=>OL (oSl (cC (aZ eI) (oSl (aZ eI)))) vl gz (r.2)
def ck.p (F:Nat) (af:acp) (aq:Int):Option (Int×(List ((List (Int×List Int))))):=(if af.length<F/\af.length<=4294967296 then mss (bX.p F) af aq else none)
theorem ck.P {ar aj au af cP cQ cR ez lE aq} (aN:aj=af.length) (h0:Inn H (Rs.ow cP ⟨ar,aj,au⟩ (eSl (aa eI (eSl eI))).z cQ ez cR::Rs.many lE::R0) λR=>OL (oSl (cC (aZ eI) (oSl (aZ eI)))) lE ez af) {r:ac1} (hp:ck.p F af aq=some r):Rt (ck.tw F ⟨ar,aj,au⟩ aq H) (ck.Q H (Rs.ow cP ⟨ar,aj,au⟩ (eSl (aa eI (eSl eI))).z cQ ez cR::Rs.many lE::R0) R0 ar aj au cP cQ cR r):=by
 obtain ⟨w0,f0⟩:=h0
 subst aN
 unfold ck.p at hp
 unfold ck.tw ck.twX
 obtain ⟨⟨hF,hc⟩,hp⟩:=eW hp
 have hin:∀ {H:Hp} {R:abR} {q:Ow} {rr:List Ow} {x:(List (Int×List Int))} {k:Int} {res:acU},W H (q.rs::.many rr::R)->q.z=(cC (aZ eI) (oSl (aZ eI))).E.z->OL (cC (aZ eI) (oSl (aZ eI))) rr q.cells x->bX.p F x k=some res->∃ H' c' rr',bX.tw F q.s k H=some (.i res.1,H')/\W H' (Ow.rs ⟨q.t,q.s,q.z,q.pre,c',q.rest⟩::.many rr'::R)/\Fr H (q.rs::.many rr::R) H' (Ow.rs ⟨q.t,q.s,q.z,q.pre,c',q.rest⟩::.many rr'::R)/\OL (cC (aZ eI) (oSl (aZ eI))) rr' c' res.2:=by
  intro H R q rr x k res w hz ho e
  obtain ⟨t,⟨a,n,c⟩,z,pre,cells,rest⟩:=q
  obtain rfl:z=(cC (aZ eI) (oSl (aZ eI))).E.z:=hz
  obtain ⟨v,H',e1,k',m',rfl,hn',w1,s1,f1⟩:=bX.P (F:=F) (R0:=R) (W.nN (o:=(cC (aZ eI) (oSl (aZ eI)))) w (i:=0) rfl ho) ⟨w,ho⟩ e
  exact ⟨H',k',m',e1,w1,s1,f1⟩
 obtain ⟨H2,r',e,w2,s2,f2⟩:=aai (cC (aZ eI) (oSl (aZ eI))) (tw:=bX.tw F) (f:=bX.p F) (Lp:=λg k i H=>ck.l13 F (bX.tw F) g ⟨ar,af.length,au⟩ k i H) (λ_ _ _ _=>rfl) hin af [] F H aq r [] lE [] ez hF rfl hc w0 .nil f0 hp
 exact ⟨_,_,e,_,_,rfl,QQ hp,w2,s2,f2⟩
def bS.Q (H0:Hp) (Ri R0:abR)  (r:Int) (v:AV) (H':Hp):Prop:=v=(.i r)/\Out H0 Ri H' (R0) λR=>True
def bS.S13 (H0:Hp) (Ri R0:abR)  (C:abY) (pC:acT):Prop:=∀ {dt cz du aO aS aY},∀ {H:Hp},cz=aO.length->(Out H0 Ri H R0 λR=>ROs eI H R ⟨dt,cz,du⟩ aO)->∀ {r:Int},pC aO aS aY=some r->Rt (C ⟨dt,cz,du⟩ aS aY H) (bS.Q H0 Ri R0  r)
def bS.pl13 (F:Nat) :Nat->List Int->Int->Int->Option (Int)
 | 0,_,_,_=>none
 | k+1,aO,aS,aY=>(bif (decide (aY<(aO.length:Int))) then ((ix aO aY).bind λn1=>(bif ((gt aO n1) != aS) then (some (-1)) else (bS.pl13 F k aO (wrap .i64 (aS+1)) (wrap .i64 (aY+1))))) else (some aS))
theorem bS.l13_P  :∀ k,bS.S13 H0 Ri R0  (bS.l13 F   k) (bS.pl13 F  k):=by
 intro k
 induction k with
 | zero=>unfold bS.S13;intros;rename_i hp;cases hp
 | succ k ih=>
  intro dt cz du aO aS aY H fB h0 r hp
  obtain ⟨w0,s0,dh⟩:=h0
  subst fB
  unfold bS.pl13 at hp
  unfold bS.l13
  refine ax hp (λhp=>?_) λhp=>?_
  ·obtain ⟨n1,g1,hp⟩:=ah hp
   obtain ⟨p1,q1,i1,h1,j1⟩:=ROs.ixr dh rfl g1
   refine ai i1 ?_
   have h1:_=[_]:=h1
   subst h1
   refine ai (aH (j1 0 _ rfl)) ?_
   refine ax hp (λhp=>?_) λhp=>?_
   ·exact aw hp ⟨rfl,w0,s0,trivial⟩
   ·exact ih rfl ⟨w0,s0,dh⟩ hp
  ·exact aw hp ⟨rfl,w0,s0,trivial⟩
def bS.p (F:Nat) (af:abU) (aq:Int):Option (Int):=bS.pl13 F F af aq 0
theorem bS.P {ar aj au af aq} (aN:aj=af.length) (h0:Inn H R0 λR=>ROs eI H R ⟨ar,aj,au⟩ af) {r:Int} (hp:bS.p F af aq=some r):Rt (bS.tw F ⟨ar,aj,au⟩ aq H) (bS.Q H R0 R0  r):=by
 obtain ⟨w0,aG⟩:=h0
 subst aN
 unfold bS.p at hp
 unfold bS.tw bS.twX
 have s0:=w0.rf
 exact bS.l13_P F rfl ⟨w0,s0,aG⟩ hp
def bE.Q (H0:Hp) (Ri R0:abR)  (r:Int) (v:AV) (H':Hp):Prop:=v=(.i r)/\Out H0 Ri H' (R0) λR=>True
def bE.S13 (H0:Hp) (Ri R0:abR)  (C:abY) (pC:ac0):Prop:=∀ {dt cz du aO aS aY},∀ {H:Hp},cz=aO.length->(Out H0 Ri H R0 λR=>ROs (aa eI (eSl eI)) H R ⟨dt,cz,du⟩ aO)->∀ {r:Int},pC aO aS aY=some r->Rt (C ⟨dt,cz,du⟩ aS aY H) (bE.Q H0 Ri R0  r)
def bE.pl13 (F:Nat) :Nat->List (Int×List Int)->Int->Int->Option (Int)
 | 0,_,_,_=>none
 | k+1,aO,aS,aY=>(bif (decide (aY<(aO.length:Int))) then ((ix aO aY).bind λn1=>(bif (((gt aO n1).1) != aS) then (some (-1)) else ((ix aO aY).bind λn2=>(bS.p F ((gt aO n2).2) (wrap .i64 (aS+1))).bind λr3=>(bif (decide (r3<0)) then (some (-1)) else (bE.pl13 F k aO r3 (wrap .i64 (aY+1))))))) else (some aS))
theorem bE.l13_P  :∀ k,bE.S13 H0 Ri R0  (bE.l13 F (bS.tw F)  k) (bE.pl13 F  k):=by
 intro k
 induction k with
 | zero=>unfold bE.S13;intros;rename_i hp;cases hp
 | succ k ih=>
  intro dt cz du aO aS aY H fB h0 r hp
  obtain ⟨w0,s0,dh⟩:=h0
  subst fB
  unfold bE.pl13 at hp
  unfold bE.l13
  refine ax hp (λhp=>?_) λhp=>?_
  ·obtain ⟨n1,g1,hp⟩:=ah hp
   obtain ⟨p1,q1,i1,h1,j1⟩:=ROs.ixr dh rfl g1
   refine ai i1 ?_
   obtain ⟨_,_,rfl,rfl,⟨⟨GV,m1_1,c1_1⟩,rfl,f1_1⟩⟩:=h1
   obtain rfl:m1_1=_:=f1_1.n
   refine ai (aH (j1 0 _ rfl)) ?_
   refine ax hp (λhp=>?_) λhp=>?_
   ·exact aw hp ⟨rfl,w0,s0,trivial⟩
   ·obtain ⟨n2,g2,hp⟩:=ah hp
    obtain ⟨p2,q2,i2,h2,j2⟩:=ROs.ixr dh rfl g2
    refine ai i2 ?_
    obtain ⟨_,_,rfl,rfl,⟨⟨ZV,m2_1,c2_1⟩,rfl,f2_1⟩⟩:=h2
    obtain rfl:m2_1=_:=f2_1.n
    refine ai (il (j2 1 _ rfl)) ?_
    obtain ⟨r3,e3,hp⟩:=ah hp
    refine aI (bS.P rfl ⟨w0,f2_1⟩ e3) ?_
    rintro _ H4 ⟨rfl,w4,s4,_⟩
    refine br ?_
    refine ax hp (λhp=>?_) λhp=>?_
    ·exact aw hp ⟨rfl,w4,(s0.trans s4),trivial⟩
    ·exact ih rfl ⟨w4,(s0.trans s4),(dh.step s4)⟩ hp
  ·exact aw hp ⟨rfl,w0,s0,trivial⟩
def bE.p (F:Nat) (af:acg) (aq:Int):Option (Int):=bE.pl13 F F af aq 0
theorem bE.P {ar aj au af aq} (aN:aj=af.length) (h0:Inn H R0 λR=>ROs (aa eI (eSl eI)) H R ⟨ar,aj,au⟩ af) {r:Int} (hp:bE.p F af aq=some r):Rt (bE.tw F ⟨ar,aj,au⟩ aq H) (bE.Q H R0 R0  r):=by
 obtain ⟨w0,aG⟩:=h0
 subst aN
 unfold bE.p at hp
 unfold bE.tw bE.twX
 have s0:=w0.rf
 exact bE.l13_P F rfl ⟨w0,s0,aG⟩ hp
def bD.Q (H0:Hp) (Ri R0:abR)  (r:Int) (v:AV) (H':Hp):Prop:=v=(.i r)/\Out H0 Ri H' (R0) λR=>True
def bD.S13 (H0:Hp) (Ri R0:abR)  (C:abY) (pC:List ((List (Int×List Int)))->Int->Int->Option (Int)):Prop:=∀ {dt cz du aO aS aY},∀ {H:Hp},cz=aO.length->(Out H0 Ri H R0 λR=>ROs (eSl (aa eI (eSl eI))) H R ⟨dt,cz,du⟩ aO)->∀ {r:Int},pC aO aS aY=some r->Rt (C ⟨dt,cz,du⟩ aS aY H) (bD.Q H0 Ri R0  r)
def bD.pl13 (F:Nat) :Nat->List ((List (Int×List Int)))->Int->Int->Option (Int)
 | 0,_,_,_=>none
 | k+1,aO,aS,aY=>(bif (decide (aY<(aO.length:Int))) then ((ix aO aY).bind λn1=>(bE.p F (gt aO n1) aS).bind λr2=>(bif (decide (r2<0)) then (some (-1)) else (bD.pl13 F k aO r2 (wrap .i64 (aY+1))))) else (some aS))
theorem bD.l13_P  :∀ k,bD.S13 H0 Ri R0  (bD.l13 F (bE.tw F)  k) (bD.pl13 F  k):=by
 intro k
 induction k with
 | zero=>unfold bD.S13;intros;rename_i hp;cases hp
 | succ k ih=>
  intro dt cz du aO aS aY H fB h0 r hp
  obtain ⟨w0,s0,dh⟩:=h0
  subst fB
  unfold bD.pl13 at hp
  unfold bD.l13
  refine ax hp (λhp=>?_) λhp=>?_
  ·obtain ⟨n1,g1,hp⟩:=ah hp
   obtain ⟨p1,q1,i1,h1,j1⟩:=ROs.ixr dh rfl g1
   refine ai i1 ?_
   obtain ⟨⟨Ex,m1_0,c1_0⟩,rfl,f1_0⟩:=h1
   obtain rfl:m1_0=_:=f1_0.n
   refine ai (il (j1 0 _ rfl)) ?_
   obtain ⟨r2,e2,hp⟩:=ah hp
   refine aI (bE.P rfl ⟨w0,f1_0⟩ e2) ?_
   rintro _ H3 ⟨rfl,w3,s3,_⟩
   refine br ?_
   refine ax hp (λhp=>?_) λhp=>?_
   ·exact aw hp ⟨rfl,w3,(s0.trans s3),trivial⟩
   ·exact ih rfl ⟨w3,(s0.trans s3),(dh.step s3)⟩ hp
  ·exact aw hp ⟨rfl,w0,s0,trivial⟩
def bD.p (F:Nat) (af:acp) (aq:Int):Option (Int):=bD.pl13 F F af aq 0
theorem bD.P {ar aj au af aq} (aN:aj=af.length) (h0:Inn H R0 λR=>ROs (eSl (aa eI (eSl eI))) H R ⟨ar,aj,au⟩ af) {r:Int} (hp:bD.p F af aq=some r):Rt (bD.tw F ⟨ar,aj,au⟩ aq H) (bD.Q H R0 R0  r):=by
 obtain ⟨w0,aG⟩:=h0
 subst aN
 unfold bD.p at hp
 unfold bD.tw bD.twX
 have s0:=w0.rf
 exact bD.l13_P F rfl ⟨w0,s0,aG⟩ hp
def dI.Q (H0:Hp) (Ri R0:abR)  (r:Bool) (v:AV) (H':Hp):Prop:=v=(.bool r)/\Out H0 Ri H' (R0) λR=>True
end
end Go.Proofs.Ytodfdhnlhiaohaa.AE
