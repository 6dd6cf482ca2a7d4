import Derived.Test.YtppbogklbhfboaaT1
import Derived.Test.YtppbogklbhfboaaE2
set_option linter.unusedVariables false
set_option linter.unusedSimpArgs false
namespace Go.Proofs.Ytppbogklbhfboaa.AE
open Go Go.AE Go.Proofs IntKind
set_option linter.unusedVariables false
variable {F:Nat} {H H0:Hp} {Ri R0:asp}
set_option maxHeartbeats 4000000
set_option maxRecDepth 100000
noncomputable section
def fD.Q (H0:Hp) (Ri R0:asp)  (r:Int) (v:AV) (H':Hp):Prop:=v=(.i r)/\Out H0 Ri H' (R0) λR=>True
def fD.p (F:Nat) (ah:asy) (au:Int):Option (Int):=(bif (decide ((wrap .i64 (au - (ah.length:Int)))<0)) then (some (-1)) else (some (wrap .i64 (au - (ah.length:Int)))))
theorem fD.P {az aj aA ah au} (aT:aj=ah.length) (h0:Inn H R0 λR=>ROs (ac eI (ac eI (ac eI (ac eI eI)))) H R ⟨az,aj,aA⟩ ah) {r:Int} (hp:fD.p F ah au=some r):Rt (fD.tw F ⟨az,aj,aA⟩ au H) (fD.Q H R0 R0  r):=by
 obtain ⟨w0,aK⟩:=h0
 subst aT
 unfold fD.p at hp
 unfold fD.tw fD.twX
 have s0:=w0.rf
 refine aB hp (λhp=>?_) λhp=>?_
 ·exact aw hp ⟨rfl,w0,s0,trivial⟩
 ·exact aw hp ⟨rfl,w0,s0,trivial⟩
def el.Q (H0:Hp) (Ri R0:asp)  (r:Int) (v:AV) (H':Hp):Prop:=v=(.i r)/\Out H0 Ri H' (R0) λR=>True
def el.p (F:Nat) (ah:asy) (ar:Int):Option (Int):=(fD.p F ah ar).bind λr2=>(bif (decide (r2<0)) then (some (-1)) else (some r2))
theorem el.P {az aj aA ah af ar} (aT:aj=ah.length) (h0:Inn H R0 λR=>ROs (ac eI (ac eI (ac eI (ac eI eI)))) H R ⟨az,aj,aA⟩ ah) {r:Int} (hp:el.p F ah ar=some r):Rt (el.tw F ⟨az,aj,aA⟩ af ar H) (el.Q H R0 R0  r):=by
 obtain ⟨w0,aK⟩:=h0
 subst aT
 unfold el.p at hp
 unfold el.tw el.twX
 have s0:=w0.rf
 refine aR w0 λH1 w1 s1=>?_
 refine lSl w1 0 ?_
 obtain ⟨r2,e2,hp⟩:=ag hp
 refine aE (fD.P rfl ⟨w1,(aK.step s1)⟩ e2) ?_
 rintro _ H3 ⟨rfl,w3,s3,_⟩
 refine br ?_
 refine aB hp (λhp=>?_) λhp=>?_
 ·obtain ⟨w4,s4⟩:=w3.pp [] 1
  exact aw hp ⟨rfl,w4,(s0.trans (s1.trans (s3.trans s4))),trivial⟩
 ·obtain ⟨w5,s5⟩:=w3.pp [] 1
  exact aw hp ⟨rfl,w5,(s0.trans (s1.trans (s3.trans s5))),trivial⟩
def fu.Q (H0:Hp) (Ri R0:asp)  (r:atI) (v:AV) (H':Hp):Prop:=v=(.agg [(.i r.1),(.i r.2.1),(.i r.2.2.1),(.i r.2.2.2.1),(.i r.2.2.2.2)])/\Out H0 Ri H' (R0) λR=>True
def fu.p (F:Nat) (aa:Int) (af:Int) (bX:Int) (bY:Int) (bN:Int):Option (Int×Int×Int×Int×Int):=some (aa,af,bX,bY,bN)
theorem fu.P {aa af bX bY bN}  (h0:Inn H R0 λR=>True) {r:atI} (hp:fu.p F aa af bX bY bN=some r):Rt (fu.tw F aa af bX bY bN H) (fu.Q H R0 R0  r):=by
 obtain ⟨w0,_⟩:=h0
 unfold fu.p at hp
 unfold fu.tw fu.twX
 have s0:=w0.rf
 refine aR w0 λH1 w1 s1=>?_
 refine aR w1 λH2 w2 s2=>?_
 refine aR w2 λH3 w3 s3=>?_
 refine lI w3 2 ?_
 refine aq w3 0 λH4 w4 s4=>?_
 refine lI w4 2 ?_
 refine aq w4 0 λH5 w5 s5=>?_
 refine lI w5 2 ?_
 refine aq w5 0 λH6 w6 s6=>?_
 refine lI w6 2 ?_
 refine aq w6 0 λH7 w7 s7=>?_
 refine lI w7 2 ?_
 refine aq w7 0 λH8 w8 s8=>?_
 refine lI w8 0 ?_
 refine lI w8 0 ?_
 refine lI w8 0 ?_
 refine lI w8 0 ?_
 refine lI w8 0 ?_
 refine aq w8 1 λH9 w9 s9=>?_
 refine aq w9 1 λH10 w10 s10=>?_
 refine aq w10 1 λH11 w11 s11=>?_
 refine aq w11 1 λH12 w12 s12=>?_
 dsimp only [pk,pks,nth,List.drop,List.set,List.eraseIdx] at w12 s4 s5 s6 s7 s8 s9 s10 s11 s12
 refine aq w12 1 λH13 w13 s13=>?_
 refine lI w13 1 ?_
 refine lI w13 1 ?_
 refine lI w13 1 ?_
 refine lI w13 1 ?_
 refine lI w13 1 ?_
 obtain ⟨w14,s14⟩:=w13.pp [] 3
 exact aw hp ⟨rfl,w14,(s0.trans (s1.trans (s2.trans (s3.trans (s4.trans (s5.trans (s6.trans (s7.trans (s8.trans (s9.trans (s10.trans (s11.trans (s12.trans (s13.trans s14)))))))))))))),trivial⟩
def ch.Q (H0:Hp) (Ri R0:asp)  (r:(List (Int×Int×Int×Int×Int))) (v:AV) (H':Hp):Prop:=∃ o0a:ON,∃ o0n:Nat,∃ o0c:Cap,∃ o0k:List AV,v=(.sl ⟨o0a,o0n,o0c⟩)/\o0n=(r).length/\Out H0 Ri H' (Rs.own ⟨o0a,o0n,o0c⟩ (ac eI (ac eI (ac eI (ac eI eI)))).z o0k::R0) λR=>CR (ac eI (ac eI (ac eI (ac eI eI)))) H' R o0k (r)
def ch.S29 (H0:Hp) (Ri R0:asp)  (C:atv) (pC:List (Int×Int×Int×Int×Int)->List (Int×Int×Int×Int×Int)->Int->Option ((List (Int×Int×Int×Int×Int)))):Prop:=∀ {iL Ht gh CO iM Hu bA j_ Hv eH},∀ {H:Hp},gh=bA.length->CO=j_.length->(Out H0 Ri H (Rs.own ⟨Ht,CO,Hu⟩ (ac eI (ac eI (ac eI (ac eI eI)))).z Hv::R0) λR=>ROs (ac eI (ac eI (ac eI (ac eI eI)))) H R ⟨iL,gh,iM⟩ bA/\CR (ac eI (ac eI (ac eI (ac eI eI)))) H R Hv j_)->∀ {r:(List (Int×Int×Int×Int×Int))},pC bA j_ eH=some r->Rt (C ⟨iL,gh,iM⟩ ⟨Ht,CO,Hu⟩ eH H) (ch.Q H0 Ri R0  r)
def ch.pl29 (F:Nat) :Nat->List (Int×Int×Int×Int×Int)->List (Int×Int×Int×Int×Int)->Int->Option ((List (Int×Int×Int×Int×Int)))
 | 0,_,_,_=>none
 | k+1,bA,j_,eH=>(bif (decide (eH<(bA.length:Int))) then ((ix bA eH).bind λn1=>(fu.p F ((gt bA n1).1) ((gt bA n1).2.1) ((gt bA n1).2.2.1) ((gt bA n1).2.2.2.1) ((gt bA n1).2.2.2.2)).bind λr2=>(ix j_ eH).bind λn4=>(some (j_.set n4 (r2.1,(gt j_ n4).2.1,(gt j_ n4).2.2.1,(gt j_ n4).2.2.2.1,(gt j_ n4).2.2.2.2))).bind λl5=>(some (l5.set n4 ((gt l5 n4).1,r2.2.1,(gt l5 n4).2.2.1,(gt l5 n4).2.2.2.1,(gt l5 n4).2.2.2.2))).bind λl7=>(some (l7.set n4 ((gt l7 n4).1,(gt l7 n4).2.1,r2.2.2.1,(gt l7 n4).2.2.2.1,(gt l7 n4).2.2.2.2))).bind λl9=>(some (l9.set n4 ((gt l9 n4).1,(gt l9 n4).2.1,(gt l9 n4).2.2.1,r2.2.2.2.1,(gt l9 n4).2.2.2.2))).bind λl11=>(some (l11.set n4 ((gt l11 n4).1,(gt l11 n4).2.1,(gt l11 n4).2.2.1,(gt l11 n4).2.2.2.1,r2.2.2.2.2))).bind λl13=>ch.pl29 F k bA l13 (wrap .i64 (eH+1))) else (some j_))
theorem ch.l29_P  :∀ k,ch.S29 H0 Ri R0  (ch.l29 F (fu.tw F)  k) (ch.pl29 F  k):=by
 intro k
 induction k with
 | zero=>unfold ch.S29;intros;rename_i hp;cases hp
 | succ k ih=>
  intro iL Ht gh CO iM Hu bA j_ Hv eH H lz aih h0 r hp
  obtain ⟨w0,s0,gj,Hw⟩:=h0
  subst lz
  subst aih
  unfold ch.pl29 at hp
  unfold ch.l29
  refine aB hp (λhp=>?_) λhp=>?_
  ·obtain ⟨n1,g1,hp⟩:=ag hp
   obtain ⟨p1,q1,i1,h1,j1⟩:=ROs.ixr gj rfl g1
   refine ai i1 ?_
   obtain ⟨_,_,rfl,rfl,_,_,rfl,rfl,_,_,rfl,rfl,_,_,rfl,rfl,rfl⟩:=h1
   refine ai (aG (j1 0 _ rfl)) ?_
   refine ai (aG (j1 1 _ rfl)) ?_
   refine ai (aG (j1 2 _ rfl)) ?_
   refine ai (aG (j1 3 _ rfl)) ?_
   refine ai (aG (j1 4 _ rfl)) ?_
   obtain ⟨r2,e2,hp⟩:=ag hp
   refine aE (fu.P ⟨w0,trivial⟩ e2) ?_
   rintro _ H3 ⟨rfl,w3,s3,_⟩
   refine br (br (br (br (br (br (br (br (br (br (br ?_))))))))))
   obtain ⟨n4,g4,hp⟩:=ag hp
   obtain ⟨p4,q4,i4,h4,j4⟩:=W.ixo (E:=(ac eI (ac eI (ac eI (ac eI eI))))) w3 (i:=0) rfl rfl (Hw.step s3) g4
   refine ai i4 ?_
   obtain ⟨l5,e5,hp⟩:=ag hp
   refine de (ac eI (ac eI (ac eI (ac eI eI)))) w3 (i:=0) (j:=0) (p:=p4) rfl rfl (Hw.step s3) g4 i4 e5 rfl rfl (λ_ h=>by obtain ⟨_,_,rfl,rfl,_,_,rfl,rfl,_,_,rfl,rfl,_,_,rfl,rfl,rfl⟩:=h;exact ⟨[_],_,rfl,rfl,[_],_,rfl,rfl,[_],_,rfl,rfl,[_],_,rfl,rfl,rfl⟩) λH6 k6 w6 s6 c6=>?_
   obtain ⟨l7,e7,hp⟩:=ag hp
   refine de (ac eI (ac eI (ac eI (ac eI eI)))) w6 (i:=0) (j:=1) (p:=p4) rfl rfl c6 (mG g4 (cj e5)) i4 e7 rfl rfl (λ_ h=>by obtain ⟨_,_,rfl,rfl,_,_,rfl,rfl,_,_,rfl,rfl,_,_,rfl,rfl,rfl⟩:=h;exact ⟨[_],_,rfl,rfl,[_],_,rfl,rfl,[_],_,rfl,rfl,[_],_,rfl,rfl,rfl⟩) λH8 k8 w8 s8 c8=>?_
   obtain ⟨l9,e9,hp⟩:=ag hp
   refine de (ac eI (ac eI (ac eI (ac eI eI)))) w8 (i:=0) (j:=2) (p:=p4) rfl rfl c8 (mG g4 ((cj e7).trans (cj e5))) i4 e9 rfl rfl (λ_ h=>by obtain ⟨_,_,rfl,rfl,_,_,rfl,rfl,_,_,rfl,rfl,_,_,rfl,rfl,rfl⟩:=h;exact ⟨[_],_,rfl,rfl,[_],_,rfl,rfl,[_],_,rfl,rfl,[_],_,rfl,rfl,rfl⟩) λH10 k10 w10 s10 c10=>?_
   obtain ⟨l11,e11,hp⟩:=ag hp
   refine de (ac eI (ac eI (ac eI (ac eI eI)))) w10 (i:=0) (j:=3) (p:=p4) rfl rfl c10 (mG g4 (((cj e9).trans (cj e7)).trans (cj e5))) i4 e11 rfl rfl (λ_ h=>by obtain ⟨_,_,rfl,rfl,_,_,rfl,rfl,_,_,rfl,rfl,_,_,rfl,rfl,rfl⟩:=h;exact ⟨[_],_,rfl,rfl,[_],_,rfl,rfl,[_],_,rfl,rfl,[_],_,rfl,rfl,rfl⟩) λH12 k12 w12 s12 c12=>?_
   obtain ⟨l13,e13,hp⟩:=ag hp
   refine de (ac eI (ac eI (ac eI (ac eI eI)))) w12 (i:=0) (j:=4) (p:=p4) rfl rfl c12 (mG g4 ((((cj e11).trans (cj e9)).trans (cj e7)).trans (cj e5))) i4 e13 rfl rfl (λ_ h=>by obtain ⟨_,_,rfl,rfl,_,_,rfl,rfl,_,_,rfl,rfl,_,_,rfl,rfl,rfl⟩:=h;exact ⟨[_],_,rfl,rfl,[_],_,rfl,rfl,[_],_,rfl,rfl,[_],_,rfl,rfl,rfl⟩) λH14 k14 w14 s14 c14=>?_
   exact ih rfl (((((cj e5).symm.trans (cj e7).symm).trans (cj e9).symm).trans (cj e11).symm).trans (cj e13).symm) ⟨w14,(s0.trans (s3.trans (s6.trans (s8.trans (s10.trans (s12.trans s14)))))),(gj.step (s3.trans (s6.trans (s8.trans (s10.trans (s12.trans s14)))))),c14⟩ hp
  ·exact aw hp ⟨_,_,_,_,rfl,rfl,w0,s0,Hw⟩
def ch.p (F:Nat) (ah:asy):Option ((List (Int×Int×Int×Int×Int))):=(mkn (ah.length:Int) ((0:Int),(0:Int),(0:Int),(0:Int),(0:Int))).bind λl1=>ch.pl29 F F ah l1 0
theorem ch.P {az aj aA ah} (aT:aj=ah.length) (h0:Inn H R0 λR=>ROs (ac eI (ac eI (ac eI (ac eI eI)))) H R ⟨az,aj,aA⟩ ah) {r:(List (Int×Int×Int×Int×Int))} (hp:ch.p F ah=some r):Rt (ch.tw F ⟨az,aj,aA⟩ H) (ch.Q H R0 R0  r):=by
 obtain ⟨w0,aK⟩:=h0
 subst aT
 unfold ch.p at hp
 unfold ch.tw ch.twX
 have s0:=w0.rf
 obtain ⟨l1,e1,hp⟩:=ag hp
 refine kj (ac eI (ac eI (ac eI (ac eI eI)))) ((0:Int),(0:Int),(0:Int),(0:Int),(0:Int)) w0 ⟨[_],_,rfl,rfl,⟨[_],_,rfl,rfl,⟨[_],_,rfl,rfl,⟨[_],_,rfl,rfl,rfl⟩⟩⟩⟩ rfl rfl e1 λH2 k2 w2 s2 c2=>?_
 exact ch.l29_P F rfl rfl ⟨w2,(s0.trans s2),(aK.step s2),c2⟩ hp
def dC.Q (H0:Hp) (Ri R0:asp)  (r:(List (Int×Int×Int×Int×Int))×Int) (v:AV) (H':Hp):Prop:=∃ o0a:ON,∃ o0n:Nat,∃ o0c:Cap,∃ o0k:List AV,v=(.agg [(.sl ⟨o0a,o0n,o0c⟩),(.i r.2)])/\o0n=(r.1).length/\Out H0 Ri H' (Rs.own ⟨o0a,o0n,o0c⟩ (ac eI (ac eI (ac eI (ac eI eI)))).z o0k::R0) λR=>CR (ac eI (ac eI (ac eI (ac eI eI)))) H' R o0k (r.1)
def dC.p (F:Nat) (ah:asy) (af:Int):Option ((List (Int×Int×Int×Int×Int))×Int):=(ch.p F ah).bind λr4=>some (r4,af)
theorem dC.P {az aj aA ah af} (aT:aj=ah.length) (h0:Inn H R0 λR=>ROs (ac eI (ac eI (ac eI (ac eI eI)))) H R ⟨az,aj,aA⟩ ah) {r:(List (Int×Int×Int×Int×Int))×Int} (hp:dC.p F ah af=some r):Rt (dC.tw F ⟨az,aj,aA⟩ af H) (dC.Q H R0 R0  r):=by
 obtain ⟨w0,aK⟩:=h0
 subst aT
 unfold dC.p at hp
 unfold dC.tw dC.twX
 have s0:=w0.rf
 refine aR w0 λH1 w1 s1=>?_
 refine aR w1 λH2 w2 s2=>?_
 refine aR w2 λH3 w3 s3=>?_
 refine lSl w3 2 ?_
 obtain ⟨r4,e4,hp⟩:=ag hp
 refine aE (ch.P rfl ⟨w3,(aK.step (s1.trans (s2.trans s3)))⟩ e4) ?_
 rintro _ H5 ⟨o0a_5,o0n_5,o0c_5,o0k_5,rfl,rfl,w5,s5,f5_0⟩
 refine br ?_
 refine aq w5 1 λH6 w6 s6=>?_
 refine lI w6 3 ?_
 refine aq w6 1 λH7 w7 s7=>?_
 refine lSl w7 1 ?_
 refine lI w7 1 ?_
 refine aq w7 2 λH8 w8 s8=>?_
 refine aq w8 2 λH9 w9 s9=>?_
 refine lSl w9 2 ?_
 refine lI w9 2 ?_
 obtain ⟨w10,s10⟩:=w9.pp [0] 4
 exact aw hp ⟨_,_,_,_,rfl,rfl,w10,(s0.trans (s1.trans (s2.trans (s3.trans (s5.trans (s6.trans (s7.trans (s8.trans (s9.trans s10))))))))),(f5_0.step (s6.trans (s7.trans (s8.trans (s9.trans s10)))))⟩
def cV.Q (H0:Hp) (Ri R0:asp)  (r:Bool) (v:AV) (H':Hp):Prop:=v=(.bool r)/\Out H0 Ri H' (R0) λR=>True
def cV.p (F:Nat) (aa:Int) (au:Int) (cQ:Int):Option (Bool):=(bif (decide (aa>=au)) then (some (decide (aa<=cQ))) else (some false))
theorem cV.P {aa au cQ}  (h0:Inn H R0 λR=>True) {r:Bool} (hp:cV.p F aa au cQ=some r):Rt (cV.tw F aa au cQ H) (cV.Q H R0 R0  r):=by
 obtain ⟨w0,_⟩:=h0
 unfold cV.p at hp
 unfold cV.tw cV.twX
 have s0:=w0.rf
 refine aB hp (λhp=>?_) λhp=>?_
 ·exact aw hp ⟨rfl,w0,s0,trivial⟩
 ·exact aw hp ⟨rfl,w0,s0,trivial⟩
def da.Q (H0:Hp) (Ri R0:asp)  (r:Int) (v:AV) (H':Hp):Prop:=v=(.i r)/\Out H0 Ri H' (R0) λR=>True
def da.p (F:Nat) (aa:Int) (af:Int) (bX:Int) (bY:Int) (cH:Int):Option (Int):=(ix ([aa,af,bX,bY]:List Int) cH).bind λn3=>some (gt ([aa,af,bX,bY]:List Int) n3)
theorem da.P {aa af bX bY bN cH}  (h0:Inn H R0 λR=>True) {r:Int} (hp:da.p F aa af bX bY cH=some r):Rt (da.tw F aa af bX bY bN cH H) (da.Q H R0 R0  r):=by
 obtain ⟨w0,_⟩:=h0
 unfold da.p at hp
 unfold da.tw da.twX
 have s0:=w0.rf
 refine aR w0 λH1 w1 s1=>?_
 refine lI w1 0 ?_
 refine lI w1 0 ?_
 refine lI w1 0 ?_
 refine lI w1 0 ?_
 refine cO eI w1 (n:=4) (l:=([aa,af,bX,bY]:List Int)) rfl (CR.cons1 rfl (CR.cons1 rfl (CR.cons1 rfl (CR.cons1 rfl CR.empty)))) rfl λH2 w2 s2 c2=>?_
 obtain ⟨n3,g3,hp⟩:=ag hp
 obtain ⟨p3,q3,i3,h3,j3⟩:=W.ixo (E:=eI) w2 (i:=0) rfl rfl c2 g3
 refine ai i3 ?_
 have h3:_=[_]:=h3
 subst h3
 refine ai (aG (j3 0 _ rfl)) ?_
 obtain ⟨w4,s4⟩:=w2.pp [] 2
 exact aw hp ⟨rfl,w4,(s0.trans (s1.trans (s2.trans s4))),trivial⟩
def db.Q (H0:Hp) (Ri R0:asp)  (r:Bool) (v:AV) (H':Hp):Prop:=v=(.bool r)/\Out H0 Ri H' (R0) λR=>True
def db.p (F:Nat) (bN:Int) (cH:Int):Option (Bool):=(bif (cH==0) then (some true) else ((bif (cH==3) then ((bif (bN==1) then (some true) else ((bif (cH==1) then (some (bN==(-1))) else (some false))))) else ((bif (cH==1) then (some (bN==(-1))) else (some false))))))
theorem db.P {aa af bX bY bN cH}  (h0:Inn H R0 λR=>True) {r:Bool} (hp:db.p F bN cH=some r):Rt (db.tw F aa af bX bY bN cH H) (db.Q H R0 R0  r):=by
 obtain ⟨w0,_⟩:=h0
 unfold db.p at hp
 unfold db.tw db.twX
 have s0:=w0.rf
 refine aR w0 λH1 w1 s1=>?_
 refine aB hp (λhp=>?_) λhp=>?_
 ·obtain ⟨w2,s2⟩:=w1.pp [] 1
  exact aw hp ⟨rfl,w2,(s0.trans (s1.trans s2)),trivial⟩
 ·refine aB hp (λhp=>?_) λhp=>?_
  ·refine lI w1 0 ?_
   refine aB hp (λhp=>?_) λhp=>?_
   ·obtain ⟨w3,s3⟩:=w1.pp [] 1
    exact aw hp ⟨rfl,w3,(s0.trans (s1.trans s3)),trivial⟩
   ·refine aB hp (λhp=>?_) λhp=>?_
    ·refine lI w1 0 ?_
     obtain ⟨w4,s4⟩:=w1.pp [] 1
     exact aw hp ⟨rfl,w4,(s0.trans (s1.trans s4)),trivial⟩
    ·obtain ⟨w5,s5⟩:=w1.pp [] 1
     exact aw hp ⟨rfl,w5,(s0.trans (s1.trans s5)),trivial⟩
  ·refine aB hp (λhp=>?_) λhp=>?_
   ·refine lI w1 0 ?_
    obtain ⟨w6,s6⟩:=w1.pp [] 1
    exact aw hp ⟨rfl,w6,(s0.trans (s1.trans s6)),trivial⟩
   ·obtain ⟨w7,s7⟩:=w1.pp [] 1
    exact aw hp ⟨rfl,w7,(s0.trans (s1.trans s7)),trivial⟩
def bc.Q (H0:Hp) (Ri R0:asp)  (r:Bool) (v:AV) (H':Hp):Prop:=v=(.bool r)/\Out H0 Ri H' (R0) λR=>True
def bc.S61 (H0:Hp) (Ri R0:asp)  (C:atq) (pC:atw):Prop:=∀ {qf qg Hy nj fN nk CP qh qi Hz dV xy gI h_ gA qj qk HA},∀ {H:Hp},nj=dV.length->nk=gA.length->CP=qj.length->(Out H0 Ri H (Rs.blk fN [.sl ⟨qf,nj,qh⟩,.i xy]::Rs.own ⟨qg,nk,qi⟩ cG.z qk::Rs.own ⟨Hy,CP,Hz⟩ cG.z HA::R0) λR=>ROs (ac eI (ac eI (ac eI (ac eI eI)))) H R ⟨qf,nj,qh⟩ dV/\CR cG H R qk gA/\CR cG H R HA qj)->∀ {r:Bool},pC dV gI gA qj h_=some r->Rt (C fN 0 gI ⟨qg,nk,qi⟩ ⟨Hy,CP,Hz⟩ h_ H) (bc.Q H0 Ri R0  r)
def bc.S3927 (H0:Hp) (Ri R0:asp)  (C:Nat->Nat->Int->Sl->Sl->Int->Nat->Nat->Int->Hp->OA) (pC:List (Int×Int×Int×Int×Int)->Int->List Bool->List Bool->Int->Int->Int->Int->Int->Int->Int->Option (Bool)):Prop:=∀ {HB HC HD CQ mM CS CT gq HE HF HG oM UM hZ gp qn qo qp qq qr gH lA lC HI HJ},∀ {H:Hp},CQ=oM.length->CS=lA.length->CT=lC.length->(Out H0 Ri H (Rs.blk mM [.sl ⟨HB,CQ,HE⟩,.i UM]::Rs.own ⟨HC,CS,HF⟩ cG.z HI::Rs.own ⟨HD,CT,HG⟩ cG.z HJ::Rs.blk gq [.i qn,.i qo,.i qp,.i qq,.i qr]::R0) λR=>ROs (ac eI (ac eI (ac eI (ac eI eI)))) H R ⟨HB,CQ,HE⟩ oM/\CR cG H R HI lA/\CR cG H R HJ lC)->∀ {r:Bool},pC oM hZ lA lC gp qn qo qp qq qr gH=some r->Rt (C mM 0 hZ ⟨HC,CS,HF⟩ ⟨HD,CT,HG⟩ gp gq 0 gH H) (bc.Q H0 Ri R0  r)
def bc.pl3927 (F:Nat) (ay:atw):Nat->List (Int×Int×Int×Int×Int)->Int->List Bool->List Bool->Int->Int->Int->Int->Int->Int->Int->Option (Bool)
 | 0,_,_,_,_,_,_,_,_,_,_,_=>none
 | k+1,oM,hZ,lA,lC,gp,qn,qo,qp,qq,qr,gH=>(bif (decide (gH<4)) then ((da.p F qn qo qp qq gH).bind λr1=>(cV.p F r1 0 (wrap .i64 (hZ - 1))).bind λr3=>(bif (!r3) then (some false) else ((db.p F qr gH).bind λr6=>(bif r6 then ((ix lA r1).bind λn8=>(bif (gt lA n8) then (some false) else ((ix lA r1).bind λn10=>(some (lA.set n10 true)).bind λl11=>bc.pl3927 F ay k oM hZ l11 lC gp qn qo qp qq qr (wrap .i64 (gH+1))))) else ((ix lC r1).bind λn13=>(bif (gt lC n13) then (some false) else ((ix lC r1).bind λn15=>(some (lC.set n15 true)).bind λl16=>bc.pl3927 F ay k oM hZ lA l16 gp qn qo qp qq qr (wrap .i64 (gH+1))))))))) else (ay oM hZ lA lC (wrap .i64 (gp+1))))
theorem bc.l3927_P  {C61_:atq} {ay:atw} (hC61:bc.S61 H0 Ri R0  C61_ ay):∀ k,bc.S3927 H0 Ri R0  (bc.l3927 F (da.tw F) (cV.tw F) (db.tw F) C61_ k) (bc.pl3927 F ay k):=by
 intro k
 induction k with
 | zero=>unfold bc.S3927;intros;rename_i hp;cases hp
 | succ k ih=>
  intro HB HC HD CQ mM CS CT gq HE HF HG oM UM hZ gp qn qo qp qq qr gH lA lC HI HJ H aii aij aik h0 r hp
  obtain ⟨w0,s0,HK,xz,xA⟩:=h0
  subst aii
  subst aij
  subst aik
  unfold bc.pl3927 at hp
  unfold bc.l3927
  refine aB hp (λhp=>?_) λhp=>?_
  ·refine lI w0 3 ?_
   refine lI w0 3 ?_
   refine lI w0 3 ?_
   refine lI w0 3 ?_
   refine lI w0 3 ?_
   obtain ⟨r1,e1,hp⟩:=ag hp
   refine aE (da.P ⟨w0,trivial⟩ e1) ?_
   rintro _ H2 ⟨rfl,w2,s2,_⟩
   refine br ?_
   obtain ⟨r3,e3,hp⟩:=ag hp
   refine aE (cV.P ⟨w2,trivial⟩ e3) ?_
   rintro _ H4 ⟨rfl,w4,s4,_⟩
   refine br ?_
   refine aB hp (λhp=>?_) λhp=>?_
   ·obtain ⟨w5,s5⟩:=w4.pp [] 4
    exact aw hp ⟨rfl,w5,(s0.trans (s2.trans (s4.trans s5))),trivial⟩
   ·refine lI w4 3 ?_
    refine lI w4 3 ?_
    refine lI w4 3 ?_
    refine lI w4 3 ?_
    refine lI w4 3 ?_
    obtain ⟨r6,e6,hp⟩:=ag hp
    refine aE (db.P ⟨w4,trivial⟩ e6) ?_
    rintro _ H7 ⟨rfl,w7,s7,_⟩
    refine br ?_
    refine aB hp (λhp=>?_) λhp=>?_
    ·obtain ⟨n8,g8,hp⟩:=ag hp
     obtain ⟨p8,q8,i8,h8,j8⟩:=W.ixo (E:=cG) w7 (i:=1) rfl rfl (xz.step (s2.trans (s4.trans s7))) g8
     refine ai i8 ?_
     have h8:_=[_]:=h8
     subst h8
     refine ai (wF (j8 0 _ rfl)) ?_
     refine aB hp (λhp=>?_) λhp=>?_
     ·obtain ⟨w9,s9⟩:=w7.pp [] 4
      exact aw hp ⟨rfl,w9,(s0.trans (s2.trans (s4.trans (s7.trans s9)))),trivial⟩
     ·obtain ⟨n10,g10,hp⟩:=ag hp
      obtain ⟨p10,q10,i10,h10,j10⟩:=W.ixo (E:=cG) w7 (i:=1) rfl rfl (xz.step (s2.trans (s4.trans s7))) g10
      refine ai i10 ?_
      obtain ⟨l11,e11,hp⟩:=ag hp
      refine de cG w7 (i:=1) (j:=0) (p:=p10) rfl rfl (xz.step (s2.trans (s4.trans s7))) g10 i10 e11 rfl rfl (λ_ h=>by have h:_=[_]:=h;subst h;exact rfl) λH12 k12 w12 s12 c12=>?_
      exact ih rfl ((cj e11).symm) rfl ⟨w12,(s0.trans (s2.trans (s4.trans (s7.trans s12)))),(HK.step (s2.trans (s4.trans (s7.trans s12)))),c12,(xA.step (s2.trans (s4.trans (s7.trans s12))))⟩ hp
    ·obtain ⟨n13,g13,hp⟩:=ag hp
     obtain ⟨p13,q13,i13,h13,j13⟩:=W.ixo (E:=cG) w7 (i:=2) rfl rfl (xA.step (s2.trans (s4.trans s7))) g13
     refine ai i13 ?_
     have h13:_=[_]:=h13
     subst h13
     refine ai (wF (j13 0 _ rfl)) ?_
     refine aB hp (λhp=>?_) λhp=>?_
     ·obtain ⟨w14,s14⟩:=w7.pp [] 4
      exact aw hp ⟨rfl,w14,(s0.trans (s2.trans (s4.trans (s7.trans s14)))),trivial⟩
     ·obtain ⟨n15,g15,hp⟩:=ag hp
      obtain ⟨p15,q15,i15,h15,j15⟩:=W.ixo (E:=cG) w7 (i:=2) rfl rfl (xA.step (s2.trans (s4.trans s7))) g15
      refine ai i15 ?_
      obtain ⟨l16,e16,hp⟩:=ag hp
      refine de cG w7 (i:=2) (j:=0) (p:=p15) rfl rfl (xA.step (s2.trans (s4.trans s7))) g15 i15 e16 rfl rfl (λ_ h=>by have h:_=[_]:=h;subst h;exact rfl) λH17 k17 w17 s17 c17=>?_
      exact ih rfl rfl ((cj e16).symm) ⟨w17,(s0.trans (s2.trans (s4.trans (s7.trans s17)))),(HK.step (s2.trans (s4.trans (s7.trans s17)))),(xz.step (s2.trans (s4.trans (s7.trans s17)))),c17⟩ hp
  ·obtain ⟨w18,s18⟩:=w0.pp [0,1,2] 4
   exact hC61 rfl rfl rfl ⟨w18,(s0.trans s18),(HK.step s18),(xz.step s18),(xA.step s18)⟩ hp
def bc.pl61 (F:Nat) :Nat->List (Int×Int×Int×Int×Int)->Int->List Bool->List Bool->Int->Option (Bool)
 | 0,_,_,_,_,_=>none
 | k+1,dV,gI,gA,qj,h_=>(bif (decide (h_<(dV.length:Int))) then ((ix dV h_).bind λn1=>(bif (((gt dV n1).2.2.2.2) != 1) then ((bif (((gt dV n1).2.2.2.2) != (-1)) then (some false) else (bc.pl3927 F (bc.pl61 F k) F dV gI gA qj h_ ((gt dV n1).1) ((gt dV n1).2.1) ((gt dV n1).2.2.1) ((gt dV n1).2.2.2.1) ((gt dV n1).2.2.2.2) 0))) else (bc.pl3927 F (bc.pl61 F k) F dV gI gA qj h_ ((gt dV n1).1) ((gt dV n1).2.1) ((gt dV n1).2.2.1) ((gt dV n1).2.2.2.1) ((gt dV n1).2.2.2.2) 0))) else (some true))
theorem bc.l61_P  :∀ k,bc.S61 H0 Ri R0  (bc.l61 F (da.tw F) (cV.tw F) (db.tw F)  k) (bc.pl61 F  k):=by
 intro k
 induction k with
 | zero=>unfold bc.S61;intros;rename_i hp;cases hp
 | succ k ih=>
  intro qf qg Hy nj fN nk CP qh qi Hz dV xy gI h_ gA qj qk HA H HL HM ail h0 r hp
  obtain ⟨w0,s0,vR,vS,UN⟩:=h0
  subst HL
  subst HM
  subst ail
  unfold bc.pl61 at hp
  unfold bc.l61
  refine lSl w0 0 ?_
  refine aB hp (λhp=>?_) λhp=>?_
  ·refine lSl w0 0 ?_
   obtain ⟨n1,g1,hp⟩:=ag hp
   obtain ⟨p1,q1,i1,h1,j1⟩:=ROs.ixr vR rfl g1
   refine ai i1 ?_
   obtain ⟨_,_,rfl,rfl,_,_,rfl,rfl,_,_,rfl,rfl,_,_,rfl,rfl,rfl⟩:=h1
   refine ai (aG (j1 0 _ rfl)) ?_
   refine ai (aG (j1 1 _ rfl)) ?_
   refine ai (aG (j1 2 _ rfl)) ?_
   refine ai (aG (j1 3 _ rfl)) ?_
   refine ai (aG (j1 4 _ rfl)) ?_
   refine aR w0 λH2 w2 s2=>?_
   refine aq w2 0 λH3 w3 s3=>?_
   refine aq w3 0 λH4 w4 s4=>?_
   refine aq w4 0 λH5 w5 s5=>?_
   refine aq w5 0 λH6 w6 s6=>?_
   refine aq w6 0 λH7 w7 s7=>?_
   refine lI w7 0 ?_
   refine aB hp (λhp=>?_) λhp=>?_
   ·refine lI w7 0 ?_
    refine aB hp (λhp=>?_) λhp=>?_
    ·obtain ⟨w8,s8⟩:=w7.pp [] 4
     exact aw hp ⟨rfl,w8,(s0.trans (s2.trans (s3.trans (s4.trans (s5.trans (s6.trans (s7.trans s8))))))),trivial⟩
    ·obtain ⟨w9,s9⟩:=w7.pp [1,2,3,0] 4
     exact bc.l3927_P (@ih) F rfl rfl rfl ⟨w9,(s0.trans (s2.trans (s3.trans (s4.trans (s5.trans (s6.trans (s7.trans s9))))))),(vR.step (s2.trans (s3.trans (s4.trans (s5.trans (s6.trans (s7.trans s9))))))),(vS.step (s2.trans (s3.trans (s4.trans (s5.trans (s6.trans (s7.trans s9))))))),(UN.step (s2.trans (s3.trans (s4.trans (s5.trans (s6.trans (s7.trans s9)))))))⟩ hp
   ·obtain ⟨w10,s10⟩:=w7.pp [1,2,3,0] 4
    exact bc.l3927_P (@ih) F rfl rfl rfl ⟨w10,(s0.trans (s2.trans (s3.trans (s4.trans (s5.trans (s6.trans (s7.trans s10))))))),(vR.step (s2.trans (s3.trans (s4.trans (s5.trans (s6.trans (s7.trans s10))))))),(vS.step (s2.trans (s3.trans (s4.trans (s5.trans (s6.trans (s7.trans s10))))))),(UN.step (s2.trans (s3.trans (s4.trans (s5.trans (s6.trans (s7.trans s10)))))))⟩ hp
  ·obtain ⟨w11,s11⟩:=w0.pp [] 3
   exact aw hp ⟨rfl,w11,(s0.trans s11),trivial⟩
def bc.p (F:Nat) (ah:asy):Option (Bool):=(mkn (wrap .i64 (2 * (ah.length:Int))) false).bind λl2=>(mkn (wrap .i64 (2 * (ah.length:Int))) false).bind λl4=>bc.pl61 F F ah (wrap .i64 (2 * (ah.length:Int))) l2 l4 0
theorem bc.P {az aj aA ah af} (aT:aj=ah.length) (h0:Inn H R0 λR=>ROs (ac eI (ac eI (ac eI (ac eI eI)))) H R ⟨az,aj,aA⟩ ah) {r:Bool} (hp:bc.p F ah=some r):Rt (bc.tw F ⟨az,aj,aA⟩ af H) (bc.Q H R0 R0  r):=by
 obtain ⟨w0,aK⟩:=h0
 subst aT
 unfold bc.p at hp
 unfold bc.tw bc.twX
 have s0:=w0.rf
 refine aR w0 λH1 w1 s1=>?_
 refine lSl w1 0 ?_
 obtain ⟨l2,e2,hp⟩:=ag hp
 refine kj cG false w1 rfl rfl rfl e2 λH3 k3 w3 s3 c3=>?_
 obtain ⟨l4,e4,hp⟩:=ag hp
 refine kj cG false w3 rfl rfl rfl e4 λH5 k5 w5 s5 c5=>?_
 obtain ⟨w6,s6⟩:=w5.pp [2,1,0] 3
 exact bc.l61_P F rfl rfl rfl ⟨w6,(s0.trans (s1.trans (s3.trans (s5.trans s6)))),(aK.step (s1.trans (s3.trans (s5.trans s6)))),(c3.step (s5.trans s6)),(c5.step s6)⟩ hp
def aL.Q (H0:Hp) (Ri R0:asp)  (r:asU) (v:AV) (H':Hp):Prop:=v=(.tup [(.i r.1),(.i r.2)])/\Out H0 Ri H' (R0) λR=>True
def aL.S13 (H0:Hp) (Ri R0:asp)  (C:as7) (pC:atc):Prop:=∀ {cA UO ku fP HN CU eJ HO qs},∀ {H:Hp},CU=qs.length->(Out H0 Ri H (Rs.blk eJ [.sl ⟨HN,CU,HO⟩,.i UO]::R0) λR=>ROs (ac eI (ac eI (ac eI (ac eI eI)))) H R ⟨HN,CU,HO⟩ qs)->∀ {r:asU},pC cA fP qs ku=some r->Rt (C cA fP eJ 0 ku H) (aL.Q H0 Ri R0  r)
def aL.S213 (H0:Hp) (Ri R0:asp)  (C:Int->Bool->Nat->Nat->Int->Int->Hp->OA) (pC:Int->Bool->List (Int×Int×Int×Int×Int)->Int->Int->Option (Int×Int)):Prop:=∀ {ib UP fO dd ic HP CV kt HQ iN},∀ {H:Hp},CV=iN.length->(Out H0 Ri H (Rs.blk kt [.sl ⟨HP,CV,HQ⟩,.i UP]::R0) λR=>ROs (ac eI (ac eI (ac eI (ac eI eI)))) H R ⟨HP,CV,HQ⟩ iN)->∀ {r:asU},pC ib ic iN fO dd=some r->Rt (C ib ic kt 0 fO dd H) (aL.Q H0 Ri R0  r)
def aL.pj3 (F:Nat) (hU:atc) (nK:Int) (sk:Bool) (xB:asy) (su:Int):Option (Int×Int):=hU nK sk xB (wrap .i64 (su+1))
theorem aL.j3_P  {C13_:as7} {hU:atc} (hC13:aL.S13 H0 Ri R0  C13_ hU) {nK aim su sk UQ HR sq UR xB} (ain:HR=xB.length) (h0:Out H0 Ri H (Rs.blk sq [.sl ⟨UQ,HR,UR⟩,.i aim]::R0) λR=>ROs (ac eI (ac eI (ac eI (ac eI eI)))) H R ⟨UQ,HR,UR⟩ xB) {r:asU} (hp:aL.pj3 F hU nK sk xB su=some r):Rt (aL.j3 F (da.tw F) (db.tw F) C13_ nK sk sq 0 su H) (aL.Q H0 Ri R0  r):=by
 obtain ⟨w0,s0,aio⟩:=h0
 subst ain
 unfold aL.pj3 at hp
 unfold aL.j3
 exact hC13 rfl ⟨w0,s0,aio⟩ hp
def aL.pj4 (F:Nat) (hU:atc) (ia:Int) (sv:Bool) (xC:asy) (sw:Int):Option (Int×Int):=aL.pj3 F hU ia sv xC sw
theorem aL.j4_P  {C13_:as7} {hU:atc} (hC13:aL.S13 H0 Ri R0  C13_ hU) {ia aip sw sv US HS AA UT xC} (aiq:HS=xC.length) (h0:Out H0 Ri H (Rs.blk AA [.sl ⟨US,HS,UT⟩,.i aip]::R0) λR=>ROs (ac eI (ac eI (ac eI (ac eI eI)))) H R ⟨US,HS,UT⟩ xC) {r:asU} (hp:aL.pj4 F hU ia sv xC sw=some r):Rt (aL.j4 F (da.tw F) (db.tw F) C13_ ia sv AA 0 sw H) (aL.Q H0 Ri R0  r):=by
 obtain ⟨w0,s0,air⟩:=h0
 subst aiq
 unfold aL.pj4 at hp
 unfold aL.j4
 exact aL.j3_P (@hC13) rfl ⟨w0,s0,air⟩ hp
def aL.pl213 (F:Nat) (hU:atc):Nat->Int->Bool->List (Int×Int×Int×Int×Int)->Int->Int->Option (Int×Int)
 | 0,_,_,_,_,_=>none
 | k+1,ib,ic,iN,fO,dd=>(bif (decide (dd<4)) then ((ix iN fO).bind λn1=>(da.p F ((gt iN n1).1) ((gt iN n1).2.1) ((gt iN n1).2.2.1) ((gt iN n1).2.2.2.1) dd).bind λr2=>(bif (r2==ib) then ((ix iN fO).bind λn4=>(db.p F ((gt iN n4).2.2.2.2) dd).bind λr5=>(bif (r5==ic) then (some (fO,dd)) else (aL.pl213 F hU k ib ic iN fO (wrap .i64 (dd+1))))) else (aL.pl213 F hU k ib ic iN fO (wrap .i64 (dd+1))))) else (aL.pj4 F hU ib ic iN fO))
theorem aL.l213_P  {C13_:as7} {hU:atc} (hC13:aL.S13 H0 Ri R0  C13_ hU):∀ k,aL.S213 H0 Ri R0  (aL.l213 F (da.tw F) (db.tw F) C13_ k) (aL.pl213 F hU k):=by
 intro k
 induction k with
 | zero=>unfold aL.S213;intros;rename_i hp;cases hp
 | succ k ih=>
  intro ib UP fO dd ic HP CV kt HQ iN H ais h0 r hp
  obtain ⟨w0,s0,xD⟩:=h0
  subst ais
  unfold aL.pl213 at hp
  unfold aL.l213
  refine aB hp (λhp=>?_) λhp=>?_
  ·refine lSl w0 0 ?_
   obtain ⟨n1,g1,hp⟩:=ag hp
   obtain ⟨p1,q1,i1,h1,j1⟩:=ROs.ixr xD rfl g1
   refine ai i1 ?_
   obtain ⟨_,_,rfl,rfl,_,_,rfl,rfl,_,_,rfl,rfl,_,_,rfl,rfl,rfl⟩:=h1
   refine ai (aG (j1 0 _ rfl)) ?_
   refine ai (aG (j1 1 _ rfl)) ?_
   refine ai (aG (j1 2 _ rfl)) ?_
   refine ai (aG (j1 3 _ rfl)) ?_
   refine ai (aG (j1 4 _ rfl)) ?_
   obtain ⟨r2,e2,hp⟩:=ag hp
   refine aE (da.P ⟨w0,trivial⟩ e2) ?_
   rintro _ H3 ⟨rfl,w3,s3,_⟩
   refine br ?_
   refine aB hp (λhp=>?_) λhp=>?_
   ·refine lSl w3 0 ?_
    obtain ⟨n4,g4,hp⟩:=ag hp
    obtain ⟨p4,q4,i4,h4,j4⟩:=ROs.ixr (xD.step s3) rfl g4
    refine ai i4 ?_
    obtain ⟨_,_,rfl,rfl,_,_,rfl,rfl,_,_,rfl,rfl,_,_,rfl,rfl,rfl⟩:=h4
    refine ai (aG (j4 0 _ rfl)) ?_
    refine ai (aG (j4 1 _ rfl)) ?_
    refine ai (aG (j4 2 _ rfl)) ?_
    refine ai (aG (j4 3 _ rfl)) ?_
    refine ai (aG (j4 4 _ rfl)) ?_
    obtain ⟨r5,e5,hp⟩:=ag hp
    refine aE (db.P ⟨w3,trivial⟩ e5) ?_
    rintro _ H6 ⟨rfl,w6,s6,_⟩
    refine br ?_
    refine aB hp (λhp=>?_) λhp=>?_
    ·obtain ⟨w7,s7⟩:=w6.pp [] 1
     exact aw hp ⟨rfl,w7,(s0.trans (s3.trans (s6.trans s7))),trivial⟩
    ·exact ih rfl ⟨w6,(s0.trans (s3.trans s6)),(xD.step (s3.trans s6))⟩ hp
   ·exact ih rfl ⟨w3,(s0.trans s3),(xD.step s3)⟩ hp
  ·exact aL.j4_P (@hC13) rfl ⟨w0,s0,xD⟩ hp
def aL.pl13 (F:Nat) :Nat->Int->Bool->List (Int×Int×Int×Int×Int)->Int->Option (Int×Int)
 | 0,_,_,_,_=>none
 | k+1,cA,fP,qs,ku=>(bif (decide (ku<(qs.length:Int))) then (aL.pl213 F (aL.pl13 F k) F cA fP qs ku 0) else (some ((-1),(-1))))
theorem aL.l13_P  :∀ k,aL.S13 H0 Ri R0  (aL.l13 F (da.tw F) (db.tw F)  k) (aL.pl13 F  k):=by
 intro k
 induction k with
 | zero=>unfold aL.S13;intros;rename_i hp;cases hp
 | succ k ih=>
  intro cA UO ku fP HN CU eJ HO qs H ait h0 r hp
  obtain ⟨w0,s0,aiu⟩:=h0
  subst ait
  unfold aL.pl13 at hp
  unfold aL.l13
  refine lSl w0 0 ?_
  refine aB hp (λhp=>?_) λhp=>?_
  ·exact aL.l213_P (@ih) F rfl ⟨w0,s0,aiu⟩ hp
  ·obtain ⟨w1,s1⟩:=w0.pp [] 1
   exact aw hp ⟨rfl,w1,(s0.trans s1),trivial⟩
def aL.p (F:Nat) (ah:asy) (ar:Int) (ja:Bool):Option (Int×Int):=aL.pl13 F F ar ja ah 0
theorem aL.P {az aj aA ah af ar ja} (aT:aj=ah.length) (h0:Inn H R0 λR=>ROs (ac eI (ac eI (ac eI (ac eI eI)))) H R ⟨az,aj,aA⟩ ah) {r:asU} (hp:aL.p F ah ar ja=some r):Rt (aL.tw F ⟨az,aj,aA⟩ af ar ja H) (aL.Q H R0 R0  r):=by
 obtain ⟨w0,aK⟩:=h0
 subst aT
 unfold aL.p at hp
 unfold aL.tw aL.twX
 have s0:=w0.rf
 refine aR w0 λH1 w1 s1=>?_
 exact aL.l13_P F rfl ⟨w1,(s0.trans s1),(aK.step s1)⟩ hp
def dh.Q (H0:Hp) (Ri R0:asp)  (r:Int) (v:AV) (H':Hp):Prop:=v=(.i r)/\Out H0 Ri H' (R0) λR=>True
def dh.p (F:Nat) (ah:asy) (ar:Int):Option (Int):=(ix ah (wrap .i64 (Int.tdiv ar 4))).bind λn2=>(da.p F ((gt ah n2).1) ((gt ah n2).2.1) ((gt ah n2).2.2.1) ((gt ah n2).2.2.2.1) (Int.tmod (wrap .i64 ((Int.tmod ar 4)+1)) 4)).bind λr9=>(db.p F ((gt ah n2).2.2.2.2) (Int.tmod (wrap .i64 ((Int.tmod ar 4)+1)) 4)).bind λr12=>(aL.p F ah r9 (!r12)).bind λr15=>some (wrap .i64 ((wrap .i64 (4 * r15.1))+r15.2))
theorem dh.P {az aj aA ah af ar} (aT:aj=ah.length) (h0:Inn H R0 λR=>ROs (ac eI (ac eI (ac eI (ac eI eI)))) H R ⟨az,aj,aA⟩ ah) {r:Int} (hp:dh.p F ah ar=some r):Rt (dh.tw F ⟨az,aj,aA⟩ af ar H) (dh.Q H R0 R0  r):=by
 obtain ⟨w0,aK⟩:=h0
 subst aT
 unfold dh.p at hp
 unfold dh.tw dh.twX
 have s0:=w0.rf
 refine aR w0 λH1 w1 s1=>?_
 refine lSl w1 0 ?_
 obtain ⟨n2,g2,hp⟩:=ag hp
 obtain ⟨p2,q2,i2,h2,j2⟩:=ROs.ixr (aK.step s1) rfl g2
 refine ai i2 ?_
 obtain ⟨_,_,rfl,rfl,_,_,rfl,rfl,_,_,rfl,rfl,_,_,rfl,rfl,rfl⟩:=h2
 refine ai (aG (j2 0 _ rfl)) ?_
 refine ai (aG (j2 1 _ rfl)) ?_
 refine ai (aG (j2 2 _ rfl)) ?_
 refine ai (aG (j2 3 _ rfl)) ?_
 refine ai (aG (j2 4 _ rfl)) ?_
 refine aR w1 λH3 w3 s3=>?_
 refine aq w3 0 λH4 w4 s4=>?_
 refine aq w4 0 λH5 w5 s5=>?_
 refine aq w5 0 λH6 w6 s6=>?_
 refine aq w6 0 λH7 w7 s7=>?_
 refine aq w7 0 λH8 w8 s8=>?_
 refine lSl w8 1 ?_
 refine lI w8 1 ?_
 refine lI w8 0 ?_
 refine lI w8 0 ?_
 refine lI w8 0 ?_
 refine lI w8 0 ?_
 refine lI w8 0 ?_
 obtain ⟨r9,e9,hp⟩:=ag hp
 refine aE (da.P ⟨w8,trivial⟩ e9) ?_
 rintro _ H10 ⟨rfl,w10,s10,_⟩
 refine br ?_
 refine eQ (W.cons_of (Rn:=[]) w8 w10 s10) ?_
 refine lI w10 0 ?_
 refine lI w10 0 ?_
 refine lI w10 0 ?_
 refine lI w10 0 ?_
 refine lI w10 0 ?_
 obtain ⟨r12,e12,hp⟩:=ag hp
 refine aE (db.P ⟨w10,trivial⟩ e12) ?_
 rintro _ H13 ⟨rfl,w13,s13,_⟩
 refine br ?_
 refine eQ (W.cons_of (Rn:=[]) w10 w13 s13) ?_
 obtain ⟨r15,e15,hp⟩:=ag hp
 refine aE (aL.P rfl ⟨w13,(aK.step (s1.trans (s3.trans (s4.trans (s5.trans (s6.trans (s7.trans (s8.trans (s10.trans s13)))))))))⟩ e15) ?_
 rintro _ H16 ⟨rfl,w16,s16,_⟩
 refine br (br (br (br (br ?_))))
 obtain ⟨w17,s17⟩:=w16.pp [] 2
 exact aw hp ⟨rfl,w17,(s0.trans (s1.trans (s3.trans (s4.trans (s5.trans (s6.trans (s7.trans (s8.trans (s10.trans (s13.trans (s16.trans s17))))))))))),trivial⟩
def aP.Q (H0:Hp) (Ri R0:asp)  (r:asE) (v:AV) (H':Hp):Prop:=∃ o0a:ON,∃ o0n:Nat,∃ o0c:Cap,∃ o0k:List AV,v=(.sl ⟨o0a,o0n,o0c⟩)/\o0n=(r).length/\Out H0 Ri H' (Rs.own ⟨o0a,o0n,o0c⟩ (eSl eI).z o0k::R0) λR=>CR (eSl eI) H' R o0k (r)
def aP.S61 (H0:Hp) (Ri R0:asp)  (C:asR) (pC:as0):Prop:=∀ {qf HT qg nj fN CW nk qh HU qi dV xy fk oN HV qk gA},∀ {H:Hp},nj=dV.length->CW=oN.length->nk=gA.length->(Out H0 Ri H (Rs.blk fN [.sl ⟨qf,nj,qh⟩,.i xy]::Rs.own ⟨HT,CW,HU⟩ (eSl eI).z HV::Rs.own ⟨qg,nk,qi⟩ cG.z qk::R0) λR=>ROs (ac eI (ac eI (ac eI (ac eI eI)))) H R ⟨qf,nj,qh⟩ dV/\CR (eSl eI) H R HV oN/\CR cG H R qk gA)->∀ {r:asE},pC dV oN gA fk=some r->Rt (C fN 0 ⟨HT,CW,HU⟩ ⟨qg,nk,qi⟩ fk H) (aP.Q H0 Ri R0  r)
def aP.pj4 (F:Nat) (ay:as0) (lD:asy) (lE:asE) (lF:atl) (sx:Int):Option (List (List Int)):=ay lD lE lF (wrap .i64 (sx+1))
theorem aP.j4_P  {C61_:asR} {ay:as0} (hC61:aP.S61 H0 Ri R0  C61_ ay) {xE xF xG qt fE qu qv xH xI xJ lD HW sx lE xK xL lF} (HX:qt=lD.length) (HY:qu=lE.length) (HZ:qv=lF.length) (h0:Out H0 Ri H (Rs.blk fE [.sl ⟨xE,qt,xH⟩,.i HW]::Rs.own ⟨xF,qu,xI⟩ (eSl eI).z xK::Rs.own ⟨xG,qv,xJ⟩ cG.z xL::R0) λR=>ROs (ac eI (ac eI (ac eI (ac eI eI)))) H R ⟨xE,qt,xH⟩ lD/\CR (eSl eI) H R xK lE/\CR cG H R xL lF) {r:asE} (hp:aP.pj4 F ay lD lE lF sx=some r):Rt (aP.j4 F (dh.tw F) C61_ fE 0 ⟨xF,qu,xI⟩ ⟨xG,qv,xJ⟩ sx H) (aP.Q H0 Ri R0  r):=by
 obtain ⟨w0,s0,H_,Ia,Ib⟩:=h0
 subst HX
 subst HY
 subst HZ
 unfold aP.pj4 at hp
 unfold aP.j4
 exact hC61 rfl rfl rfl ⟨w0,s0,H_,Ia,Ib⟩ hp
def aP.S7853 (H0:Hp) (Ri R0:asp)  (C:Nat->Nat->Sl->Sl->Int->Sl->Int->Hp->OA) (pC:List (Int×Int×Int×Int×Int)->List (List Int)->List Bool->Int->List Int->Int->Option (List (List Int))):Prop:=∀ {Ic Id Ie If CX lX CY CZ C_ Ig Ih Ii Ij oO UU kw gJ qw Ik Il Im ml qx},∀ {H:Hp},CX=oO.length->CY=qw.length->CZ=ml.length->C_=qx.length->(Out H0 Ri H (Rs.blk lX [.sl ⟨Ic,CX,Ig⟩,.i UU]::Rs.own ⟨Id,CY,Ih⟩ (eSl eI).z Ik::Rs.own ⟨Ie,CZ,Ii⟩ cG.z Il::Rs.own ⟨If,C_,Ij⟩ eI.z Im::R0) λR=>ROs (ac eI (ac eI (ac eI (ac eI eI)))) H R ⟨Ic,CX,Ig⟩ oO/\CR (eSl eI) H R Ik qw/\CR cG H R Il ml/\CR eI H R Im qx)->∀ {r:asE},pC oO qw ml kw qx gJ=some r->Rt (C lX 0 ⟨Id,CY,Ih⟩ ⟨Ie,CZ,Ii⟩ kw ⟨If,C_,Ij⟩ gJ H) (aP.Q H0 Ri R0  r)
def aP.pj5 (F:Nat) (ay:as0) (xM:asy) (xN:asE) (xO:atl) (sy:Int):Option (List (List Int)):=ay xM xN xO (wrap .i64 (sy+1))
theorem aP.j5_P  {C61_:asR} {ay:as0} (hC61:aP.S61 H0 Ri R0  C61_ ay) {UV UW UX In AB Io Ip UY UZ U_ xM aiv sy xN Va Vb xO} (aiw:In=xM.length) (aix:Io=xN.length) (aiy:Ip=xO.length) (h0:Out H0 Ri H (Rs.blk AB [.sl ⟨UV,In,UY⟩,.i aiv]::Rs.own ⟨UW,Io,UZ⟩ (eSl eI).z Va::Rs.own ⟨UX,Ip,U_⟩ cG.z Vb::R0) λR=>ROs (ac eI (ac eI (ac eI (ac eI eI)))) H R ⟨UV,In,UY⟩ xM/\CR (eSl eI) H R Va xN/\CR cG H R Vb xO) {r:asE} (hp:aP.pj5 F ay xM xN xO sy=some r):Rt (aP.j5 F (dh.tw F) C61_ AB 0 ⟨UW,Io,UZ⟩ ⟨UX,Ip,U_⟩ sy H) (aP.Q H0 Ri R0  r):=by
 obtain ⟨w0,s0,aiz,aiA,aiB⟩:=h0
 subst aiw
 subst aix
 subst aiy
 unfold aP.pj5 at hp
 unfold aP.j5
 exact hC61 rfl rfl rfl ⟨w0,s0,aiz,aiA,aiB⟩ hp
def aP.pj6 (F:Nat) (ay:as0) (xP:asy) (xQ:asE) (xR:atl) (kv:Int) (qy:asr):Option (List (List Int)):=(apn xQ ([qy]:List (List Int))).bind λl3=>aP.pj5 F ay xP l3 xR kv
theorem aP.j6_P  {C61_:asR} {ay:as0} (hC61:aP.S61 H0 Ri R0  C61_ ay) {Vc Vd Ve Vf Iq AC Ir Is It Vg Vh Vi Vj xP aiC kv xQ Vk Vl Vm xR qy} (aiD:Iq=xP.length) (aiE:Ir=xQ.length) (aiF:Is=xR.length) (aiG:It=qy.length) (h0:Out H0 Ri H (Rs.blk AC [.sl ⟨Vc,Iq,Vg⟩,.i aiC]::Rs.own ⟨Vd,Ir,Vh⟩ (eSl eI).z Vk::Rs.own ⟨Ve,Is,Vi⟩ cG.z Vl::Rs.own ⟨Vf,It,Vj⟩ eI.z Vm::R0) λR=>ROs (ac eI (ac eI (ac eI (ac eI eI)))) H R ⟨Vc,Iq,Vg⟩ xP/\CR (eSl eI) H R Vk xQ/\CR cG H R Vl xR/\CR eI H R Vm qy) {r:asE} (hp:aP.pj6 F ay xP xQ xR kv qy=some r):Rt (aP.j6 F (dh.tw F) C61_ AC 0 ⟨Vd,Ir,Vh⟩ ⟨Ve,Is,Vi⟩ kv ⟨Vf,It,Vj⟩ H) (aP.Q H0 Ri R0  r):=by
 obtain ⟨w0,s0,aiH,aiI,aiJ,aiK⟩:=h0
 subst aiD
 subst aiE
 subst aiF
 subst aiG
 unfold aP.pj6 at hp
 unfold aP.j6
 obtain ⟨w1,s1,f1⟩:=w0.frz (i:=3) eI rfl aiK
 refine cO (eSl eI) w1 (n:=1) (l:=([qy]:List (List Int))) rfl (CR.cons1 ⟨_,rfl,f1⟩ CR.empty) rfl λH2 w2 s2 c2=>?_
 refine ai (w2.rowo (i:=0) rfl) ?_
 obtain ⟨l3,e3,hp⟩:=ag hp
 refine fM (eSl eI) w2 (i:=2) rfl rfl (aiI.step (s1.trans s2)) c2 (show 1=List.length ([qy]:List (List Int)) from rfl) rfl e3 λa4 d4 H4 w4 s4 c4 x4=>?_
 obtain ⟨w5,s5⟩:=w4.pp [1,2,3] 4
 exact aP.j5_P (@hC61) rfl rfl rfl ⟨w5,(s0.trans (s1.trans (s2.trans (s4.trans s5)))),(aiH.step (s1.trans (s2.trans (s4.trans s5)))),(c4.step s5),(aiJ.step (s1.trans (s2.trans (s4.trans s5))))⟩ hp
def aP.pl7853 (F:Nat) (ay:as0):Nat->List (Int×Int×Int×Int×Int)->List (List Int)->List Bool->Int->List Int->Int->Option (List (List Int))
 | 0,_,_,_,_,_,_=>none
 | k+1,oO,qw,ml,kw,qx,gJ=>(ix ml gJ).bind λn1=>(bif (!(gt ml n1)) then ((ix ml gJ).bind λn2=>(some (ml.set n2 true)).bind λl3=>(apn qx ([gJ]:List Int)).bind λl6=>(dh.p F oO gJ).bind λr8=>aP.pl7853 F ay k oO qw l3 kw l6 r8) else (aP.pj6 F ay oO qw ml kw qx))
theorem aP.l7853_P  {C61_:asR} {ay:as0} (hC61:aP.S61 H0 Ri R0  C61_ ay):∀ k,aP.S7853 H0 Ri R0  (aP.l7853 F (dh.tw F) C61_ k) (aP.pl7853 F ay k):=by
 intro k
 induction k with
 | zero=>unfold aP.S7853;intros;rename_i hp;cases hp
 | succ k ih=>
  intro Ic Id Ie If CX lX CY CZ C_ Ig Ih Ii Ij oO UU kw gJ qw Ik Il Im ml qx H aiL aiM aiN aiO h0 r hp
  obtain ⟨w0,s0,Iu,Vn,Da,Vo⟩:=h0
  subst aiL
  subst aiM
  subst aiN
  subst aiO
  unfold aP.pl7853 at hp
  unfold aP.l7853
  obtain ⟨n1,g1,hp⟩:=ag hp
  obtain ⟨p1,q1,i1,h1,j1⟩:=W.ixo (E:=cG) w0 (i:=2) rfl rfl Da g1
  refine ai i1 ?_
  have h1:_=[_]:=h1
  subst h1
  refine ai (wF (j1 0 _ rfl)) ?_
  refine aB hp (λhp=>?_) λhp=>?_
  ·obtain ⟨n2,g2,hp⟩:=ag hp
   obtain ⟨p2,q2,i2,h2,j2⟩:=W.ixo (E:=cG) w0 (i:=2) rfl rfl Da g2
   refine ai i2 ?_
   obtain ⟨l3,e3,hp⟩:=ag hp
   refine de cG w0 (i:=2) (j:=0) (p:=p2) rfl rfl Da g2 i2 e3 rfl rfl (λ_ h=>by have h:_=[_]:=h;subst h;exact rfl) λH4 k4 w4 s4 c4=>?_
   refine cO eI w4 (n:=1) (l:=([gJ]:List Int)) rfl (CR.cons1 rfl CR.empty) rfl λH5 w5 s5 c5=>?_
   refine ai (w5.rowo (i:=0) rfl) ?_
   obtain ⟨l6,e6,hp⟩:=ag hp
   refine fM eI w5 (i:=4) rfl rfl (Vo.step (s4.trans s5)) c5 (show 1=List.length ([gJ]:List Int) from rfl) rfl e6 λa7 d7 H7 w7 s7 c7 x7=>?_
   refine lSl w7 1 ?_
   refine lI w7 1 ?_
   obtain ⟨r8,e8,hp⟩:=ag hp
   refine aE (dh.P rfl ⟨w7,(Iu.step (s4.trans (s5.trans s7)))⟩ e8) ?_
   rintro _ H9 ⟨rfl,w9,s9,_⟩
   refine br ?_
   obtain ⟨w10,s10⟩:=w9.pp [1,2,3,4] 5
   exact ih rfl rfl ((cj e3).symm) rfl ⟨w10,(s0.trans (s4.trans (s5.trans (s7.trans (s9.trans s10))))),(Iu.step (s4.trans (s5.trans (s7.trans (s9.trans s10))))),(Vn.step (s4.trans (s5.trans (s7.trans (s9.trans s10))))),(c4.step (s5.trans (s7.trans (s9.trans s10)))),(c7.step (s9.trans s10))⟩ hp
  ·exact aP.j6_P (@hC61) rfl rfl rfl rfl ⟨w0,s0,Iu,Vn,Da,Vo⟩ hp
def aP.pl61 (F:Nat) :Nat->List (Int×Int×Int×Int×Int)->List (List Int)->List Bool->Int->Option (List (List Int))
 | 0,_,_,_,_=>none
 | k+1,dV,oN,gA,fk=>(bif (decide (fk<(gA.length:Int))) then ((ix gA fk).bind λn1=>(bif (gt gA n1) then (aP.pj4 F (aP.pl61 F k) dV oN gA fk) else (aP.pl7853 F (aP.pl61 F k) F dV oN gA fk ([]:List Int) fk))) else (some oN))
theorem aP.l61_P  :∀ k,aP.S61 H0 Ri R0  (aP.l61 F (dh.tw F)  k) (aP.pl61 F  k):=by
 intro k
 induction k with
 | zero=>unfold aP.S61;intros;rename_i hp;cases hp
 | succ k ih=>
  intro qf HT qg nj fN CW nk qh HU qi dV xy fk oN HV qk gA H HL aiP HM h0 r hp
  obtain ⟨w0,s0,vR,Iv,vS⟩:=h0
  subst HL
  subst aiP
  subst HM
  unfold aP.pl61 at hp
  unfold aP.l61
  refine aB hp (λhp=>?_) λhp=>?_
  ·obtain ⟨n1,g1,hp⟩:=ag hp
   obtain ⟨p1,q1,i1,h1,j1⟩:=W.ixo (E:=cG) w0 (i:=2) rfl rfl vS g1
   refine ai i1 ?_
   have h1:_=[_]:=h1
   subst h1
   refine ai (wF (j1 0 _ rfl)) ?_
   refine aB hp (λhp=>?_) λhp=>?_
   ·exact aP.j4_P (@ih) rfl rfl rfl ⟨w0,s0,vR,Iv,vS⟩ hp
   ·refine cO eI w0 (n:=0) (l:=([]:List Int)) rfl CR.empty rfl λH2 w2 s2 c2=>?_
    obtain ⟨w3,s3⟩:=w2.pp [1,2,3,0] 4
    exact aP.l7853_P (@ih) F rfl rfl rfl (show 0=List.length ([]:List Int) from rfl) ⟨w3,(s0.trans (s2.trans s3)),(vR.step (s2.trans s3)),(Iv.step (s2.trans s3)),(vS.step (s2.trans s3)),(c2.step s3)⟩ hp
  ·obtain ⟨w4,s4⟩:=w0.pp [1] 3
   exact aw hp ⟨_,_,_,_,rfl,rfl,w4,(s0.trans s4),(Iv.step s4)⟩
def aP.p (F:Nat) (ah:asy):Option (List (List Int)):=(mkn (wrap .i64 (4 * (ah.length:Int))) false).bind λl3=>aP.pl61 F F ah ([]:List (List Int)) l3 0
theorem aP.P {az aj aA ah af} (aT:aj=ah.length) (h0:Inn H R0 λR=>ROs (ac eI (ac eI (ac eI (ac eI eI)))) H R ⟨az,aj,aA⟩ ah) {r:asE} (hp:aP.p F ah=some r):Rt (aP.tw F ⟨az,aj,aA⟩ af H) (aP.Q H R0 R0  r):=by
 obtain ⟨w0,aK⟩:=h0
 subst aT
 unfold aP.p at hp
 unfold aP.tw aP.twX
 have s0:=w0.rf
 refine aR w0 λH1 w1 s1=>?_
 refine cO (eSl eI) w1 (n:=0) (l:=([]:List (List Int))) rfl CR.empty rfl λH2 w2 s2 c2=>?_
 refine lSl w2 1 ?_
 obtain ⟨l3,e3,hp⟩:=ag hp
 refine kj cG false w2 rfl rfl rfl e3 λH4 k4 w4 s4 c4=>?_
 obtain ⟨w5,s5⟩:=w4.pp [2,1,0] 3
 exact aP.l61_P F rfl (show 0=List.length ([]:List (List Int)) from rfl) rfl ⟨w5,(s0.trans (s1.trans (s2.trans (s4.trans s5)))),(aK.step (s1.trans (s2.trans (s4.trans s5)))),(c2.step (s4.trans s5)),(c4.step s5)⟩ hp
def aD.Q (H0:Hp) (Ri R0:asp)  (r:asr) (v:AV) (H':Hp):Prop:=∃ o0a:ON,∃ o0n:Nat,∃ o0c:Cap,∃ o0k:List AV,v=(.sl ⟨o0a,o0n,o0c⟩)/\o0n=(r).length/\Out H0 Ri H' (Rs.own ⟨o0a,o0n,o0c⟩ eI.z o0k::R0) λR=>CR eI H' R o0k (r)
def aD.S29 (H0:Hp) (Ri R0:asp)  (C:asO) (pC:as5):Prop:=∀ {qz Iw nl di Db qA Ix hG nm dQ qB Iy},∀ {H:Hp},nl=hG.length->Db=qB.length->(Out H0 Ri H (Rs.blk di [.sl ⟨qz,nl,qA⟩,.i nm]::Rs.own ⟨Iw,Db,Ix⟩ eI.z Iy::R0) λR=>ROs (ac eI (ac eI (ac eI (ac eI eI)))) H R ⟨qz,nl,qA⟩ hG/\CR eI H R Iy qB)->∀ {r:asr},pC hG qB dQ=some r->Rt (C di 0 ⟨Iw,Db,Ix⟩ dQ H) (aD.Q H0 Ri R0  r)
def aD.S61 (H0:Hp) (Ri R0:asp)  (C:asO) (pC:as5):Prop:=∀ {Iz IA Dc jV Dd IB IC nn Vp ii lG ID},∀ {H:Hp},Dc=nn.length->Dd=lG.length->(Out H0 Ri H (Rs.blk jV [.sl ⟨Iz,Dc,IB⟩,.i Vp]::Rs.own ⟨IA,Dd,IC⟩ eI.z ID::R0) λR=>ROs (ac eI (ac eI (ac eI (ac eI eI)))) H R ⟨Iz,Dc,IB⟩ nn/\CR eI H R ID lG)->∀ {r:asr},pC nn lG ii=some r->Rt (C jV 0 ⟨IA,Dd,IC⟩ ii H) (aD.Q H0 Ri R0  r)
def aD.S7855 (H0:Hp) (Ri R0:asp)  (C:atk) (pC:atx):Prop:=∀ {IE IF De mN Df IG IH oP Vq ji fQ fR gK ka II},∀ {H:Hp},De=oP.length->Df=ka.length->(Out H0 Ri H (Rs.blk mN [.sl ⟨IE,De,IG⟩,.i Vq]::Rs.own ⟨IF,Df,IH⟩ eI.z II::R0) λR=>ROs (ac eI (ac eI (ac eI (ac eI eI)))) H R ⟨IE,De,IG⟩ oP/\CR eI H R II ka)->∀ {r:asr},pC oP ka ji fQ fR gK=some r->Rt (C mN 0 ⟨IF,Df,IH⟩ ji fQ fR gK H) (aD.Q H0 Ri R0  r)
def aD.pj8 (F:Nat) (Dg:atx) (xS:asy) (xT:asr) (sF:Int) (sG:Int) (sH:Int) (sI:Int):Option (List Int):=Dg xS xT sF sG sH (wrap .i64 (sI+1))
theorem aD.j8_P  {C7855_:atk} {Dg:atx} (hC7855:aD.S7855 H0 Ri R0  C7855_ Dg) {Vr Vs IJ AH IK Vt Vu xS aiQ sF sG sH sI xT Vv} (aiR:IJ=xS.length) (aiS:IK=xT.length) (h0:Out H0 Ri H (Rs.blk AH [.sl ⟨Vr,IJ,Vt⟩,.i aiQ]::Rs.own ⟨Vs,IK,Vu⟩ eI.z Vv::R0) λR=>ROs (ac eI (ac eI (ac eI (ac eI eI)))) H R ⟨Vr,IJ,Vt⟩ xS/\CR eI H R Vv xT) {r:asr} (hp:aD.pj8 F Dg xS xT sF sG sH sI=some r):Rt (aD.j8 F (aL.tw F) C7855_ AH 0 ⟨Vs,IK,Vu⟩ sF sG sH sI H) (aD.Q H0 Ri R0  r):=by
 obtain ⟨w0,s0,aiT,aiU⟩:=h0
 subst aiR
 subst aiS
 unfold aD.pj8 at hp
 unfold aD.j8
 exact hC7855 rfl rfl ⟨w0,s0,aiT,aiU⟩ hp
def aD.pj6 (F:Nat) (ay:as5) (xU:asy) (xV:asr) (sD:Int):Option (List Int):=ay xU xV (wrap .i64 (sD+1))
theorem aD.j6_P  {C61_:asO} {ay:as5} (hC61:aD.S61 H0 Ri R0  C61_ ay) {Vw Vx IL AF IM Vy Vz xU aiV sD xV VA} (aiW:IL=xU.length) (aiX:IM=xV.length) (h0:Out H0 Ri H (Rs.blk AF [.sl ⟨Vw,IL,Vy⟩,.i aiV]::Rs.own ⟨Vx,IM,Vz⟩ eI.z VA::R0) λR=>ROs (ac eI (ac eI (ac eI (ac eI eI)))) H R ⟨Vw,IL,Vy⟩ xU/\CR eI H R VA xV) {r:asr} (hp:aD.pj6 F ay xU xV sD=some r):Rt (aD.j6 F (aL.tw F) C61_ AF 0 ⟨Vx,IM,Vz⟩ sD H) (aD.Q H0 Ri R0  r):=by
 obtain ⟨w0,s0,aiY,aiZ⟩:=h0
 subst aiW
 subst aiX
 unfold aD.pj6 at hp
 unfold aD.j6
 exact hC61 rfl rfl ⟨w0,s0,aiY,aiZ⟩ hp
def aD.pj7 (F:Nat) (ay:as5) (xW:asy) (xX:asr) (nL:Int):Option (List Int):=aD.pj6 F ay xW xX nL
theorem aD.j7_P  {C61_:asO} {ay:as5} (hC61:aD.S61 H0 Ri R0  C61_ ay) {VB VC IN AG IP VD VE xW ai0 nL xX VF} (ai1:IN=xW.length) (ai2:IP=xX.length) (h0:Out H0 Ri H (Rs.blk AG [.sl ⟨VB,IN,VD⟩,.i ai0]::Rs.own ⟨VC,IP,VE⟩ eI.z VF::R0) λR=>ROs (ac eI (ac eI (ac eI (ac eI eI)))) H R ⟨VB,IN,VD⟩ xW/\CR eI H R VF xX) {r:asr} (hp:aD.pj7 F ay xW xX nL=some r):Rt (aD.j7 F (aL.tw F) C61_ AG 0 ⟨VC,IP,VE⟩ nL H) (aD.Q H0 Ri R0  r):=by
 obtain ⟨w0,s0,ai3,ai4⟩:=h0
 subst ai1
 subst ai2
 unfold aD.pj7 at hp
 unfold aD.j7
 exact aD.j6_P (@hC61) rfl rfl ⟨w0,s0,ai3,ai4⟩ hp
def aD.pl7855 (F:Nat) (ay:as5):Nat->List (Int×Int×Int×Int×Int)->List Int->Int->Int->Int->Int->Option (List Int)
 | 0,_,_,_,_,_,_=>none
 | k+1,oP,ka,ji,fQ,fR,gK=>(bif (decide (gK<(ka.length:Int))) then ((ix ka gK).bind λn1=>(bif ((gt ka n1)==(if fR>fQ then fR else fQ)) then ((ix ka gK).bind λn2=>(some (ka.set n2 (if fR<fQ then fR else fQ))).bind λl3=>aD.pj8 F (aD.pl7855 F ay k) oP l3 ji fQ fR gK) else (aD.pj8 F (aD.pl7855 F ay k) oP ka ji fQ fR gK))) else (aD.pj7 F ay oP ka ji))
theorem aD.l7855_P  {C61_:asO} {ay:as5} (hC61:aD.S61 H0 Ri R0  C61_ ay):∀ k,aD.S7855 H0 Ri R0  (aD.l7855 F (aL.tw F) C61_ k) (aD.pl7855 F ay k):=by
 intro k
 induction k with
 | zero=>unfold aD.S7855;intros;rename_i hp;cases hp
 | succ k ih=>
  intro IE IF De mN Df IG IH oP Vq ji fQ fR gK ka II H ai5 ai6 h0 r hp
  obtain ⟨w0,s0,IQ,xY⟩:=h0
  subst ai5
  subst ai6
  unfold aD.pl7855 at hp
  unfold aD.l7855
  refine aB hp (λhp=>?_) λhp=>?_
  ·obtain ⟨n1,g1,hp⟩:=ag hp
   obtain ⟨p1,q1,i1,h1,j1⟩:=W.ixo (E:=eI) w0 (i:=1) rfl rfl xY g1
   refine ai i1 ?_
   have h1:_=[_]:=h1
   subst h1
   refine ai (aG (j1 0 _ rfl)) ?_
   refine aB hp (λhp=>?_) λhp=>?_
   ·obtain ⟨n2,g2,hp⟩:=ag hp
    obtain ⟨p2,q2,i2,h2,j2⟩:=W.ixo (E:=eI) w0 (i:=1) rfl rfl xY g2
    refine ai i2 ?_
    obtain ⟨l3,e3,hp⟩:=ag hp
    refine de eI w0 (i:=1) (j:=0) (p:=p2) rfl rfl xY g2 i2 e3 rfl rfl (λ_ h=>by have h:_=[_]:=h;subst h;exact rfl) λH4 k4 w4 s4 c4=>?_
    exact aD.j8_P (@ih) rfl ((cj e3).symm) ⟨w4,(s0.trans s4),(IQ.step s4),c4⟩ hp
   ·exact aD.j8_P (@ih) rfl rfl ⟨w0,s0,IQ,xY⟩ hp
  ·exact aD.j7_P (@hC61) rfl rfl ⟨w0,s0,IQ,xY⟩ hp
def aD.pl61 (F:Nat) :Nat->List (Int×Int×Int×Int×Int)->List Int->Int->Option (List Int)
 | 0,_,_,_=>none
 | k+1,nn,lG,ii=>(bif (decide (ii<(wrap .i64 (2 * (nn.length:Int))))) then ((aL.p F nn ii true).bind λr1=>(aL.p F nn ii false).bind λr3=>(ix lG r1.1).bind λn5=>(ix lG r3.1).bind λn6=>aD.pl7855 F (aD.pl61 F k) F nn lG ii (gt lG n5) (gt lG n6) 0) else (some lG))
theorem aD.l61_P  :∀ k,aD.S61 H0 Ri R0  (aD.l61 F (aL.tw F)  k) (aD.pl61 F  k):=by
 intro k
 induction k with
 | zero=>unfold aD.S61;intros;rename_i hp;cases hp
 | succ k ih=>
  intro Iz IA Dc jV Dd IB IC nn Vp ii lG ID H ai7 ai8 h0 r hp
  obtain ⟨w0,s0,IR,Dh⟩:=h0
  subst ai7
  subst ai8
  unfold aD.pl61 at hp
  unfold aD.l61
  refine lSl w0 0 ?_
  refine aB hp (λhp=>?_) λhp=>?_
  ·refine lSl w0 0 ?_
   refine lI w0 0 ?_
   obtain ⟨r1,e1,hp⟩:=ag hp
   refine aE (aL.P rfl ⟨w0,IR⟩ e1) ?_
   rintro _ H2 ⟨rfl,w2,s2,_⟩
   refine br (br (br (br (br ?_))))
   refine lSl w2 0 ?_
   refine lI w2 0 ?_
   obtain ⟨r3,e3,hp⟩:=ag hp
   refine aE (aL.P rfl ⟨w2,(IR.step s2)⟩ e3) ?_
   rintro _ H4 ⟨rfl,w4,s4,_⟩
   refine br (br (br (br (br ?_))))
   obtain ⟨n5,g5,hp⟩:=ag hp
   obtain ⟨p5,q5,i5,h5,j5⟩:=W.ixo (E:=eI) w4 (i:=1) rfl rfl (Dh.step (s2.trans s4)) g5
   refine ai i5 ?_
   have h5:_=[_]:=h5
   subst h5
   refine ai (aG (j5 0 _ rfl)) ?_
   obtain ⟨n6,g6,hp⟩:=ag hp
   obtain ⟨p6,q6,i6,h6,j6⟩:=W.ixo (E:=eI) w4 (i:=1) rfl rfl (Dh.step (s2.trans s4)) g6
   refine ai i6 ?_
   have h6:_=[_]:=h6
   subst h6
   refine ai (aG (j6 0 _ rfl)) ?_
   exact aD.l7855_P (@ih) F rfl rfl ⟨w4,(s0.trans (s2.trans s4)),(IR.step (s2.trans s4)),(Dh.step (s2.trans s4))⟩ hp
  ·obtain ⟨w7,s7⟩:=w0.pp [1] 2
   exact aw hp ⟨_,_,_,_,rfl,rfl,w7,(s0.trans s7),(Dh.step s7)⟩
def aD.pj9 (F:Nat)  (xZ:asy) (x_:asr):Option (List Int):=aD.pl61 F F xZ x_ 0
theorem aD.j9_P   {VG VH IS AI IT VI VJ xZ ai9 x_ VK} (ai_:IS=xZ.length) (aja:IT=x_.length) (h0:Out H0 Ri H (Rs.blk AI [.sl ⟨VG,IS,VI⟩,.i ai9]::Rs.own ⟨VH,IT,VJ⟩ eI.z VK::R0) λR=>ROs (ac eI (ac eI (ac eI (ac eI eI)))) H R ⟨VG,IS,VI⟩ xZ/\CR eI H R VK x_) {r:asr} (hp:aD.pj9 F  xZ x_=some r):Rt (aD.j9 F (aL.tw F)  AI 0 ⟨VH,IT,VJ⟩ H) (aD.Q H0 Ri R0  r):=by
 obtain ⟨w0,s0,ajb,ajc⟩:=h0
 subst ai_
 subst aja
 unfold aD.pj9 at hp
 unfold aD.j9
 exact aD.l61_P F rfl rfl ⟨w0,s0,ajb,ajc⟩ hp
def aD.pl29 (F:Nat) :Nat->List (Int×Int×Int×Int×Int)->List Int->Int->Option (List Int)
 | 0,_,_,_=>none
 | k+1,hG,qB,dQ=>(bif (decide (dQ<(hG.length:Int))) then ((apn qB ([dQ]:List Int)).bind λl2=>aD.pl29 F k hG l2 (wrap .i64 (dQ+1))) else (aD.pj9 F hG qB))
theorem aD.l29_P  :∀ k,aD.S29 H0 Ri R0  (aD.l29 F (aL.tw F)  k) (aD.pl29 F  k):=by
 intro k
 induction k with
 | zero=>unfold aD.S29;intros;rename_i hp;cases hp
 | succ k ih=>
  intro qz Iw nl di Db qA Ix hG nm dQ qB Iy H IU ajd h0 r hp
  obtain ⟨w0,s0,ya,VL⟩:=h0
  subst IU
  subst ajd
  unfold aD.pl29 at hp
  unfold aD.l29
  refine lSl w0 0 ?_
  refine aB hp (λhp=>?_) λhp=>?_
  ·refine cO eI w0 (n:=1) (l:=([dQ]:List Int)) rfl (CR.cons1 rfl CR.empty) rfl λH1 w1 s1 c1=>?_
   refine ai (w1.rowo (i:=0) rfl) ?_
   obtain ⟨l2,e2,hp⟩:=ag hp
   refine fM eI w1 (i:=2) rfl rfl (VL.step s1) c1 (show 1=List.length ([dQ]:List Int) from rfl) rfl e2 λa3 d3 H3 w3 s3 c3 x3=>?_
   obtain ⟨w4,s4⟩:=w3.pp [1,2] 3
   exact ih rfl rfl ⟨w4,(s0.trans (s1.trans (s3.trans s4))),(ya.step (s1.trans (s3.trans s4))),(c3.step s4)⟩ hp
  ·exact aD.j9_P rfl rfl ⟨w0,s0,ya,VL⟩ hp
def aD.p (F:Nat) (ah:asy):Option (List Int):=aD.pl29 F F ah ([]:List Int) 0
theorem aD.P {az aj aA ah af} (aT:aj=ah.length) (h0:Inn H R0 λR=>ROs (ac eI (ac eI (ac eI (ac eI eI)))) H R ⟨az,aj,aA⟩ ah) {r:asr} (hp:aD.p F ah=some r):Rt (aD.tw F ⟨az,aj,aA⟩ af H) (aD.Q H R0 R0  r):=by
 obtain ⟨w0,aK⟩:=h0
 subst aT
 unfold aD.p at hp
 unfold aD.tw aD.twX
 have s0:=w0.rf
 refine aR w0 λH1 w1 s1=>?_
 refine cO eI w1 (n:=0) (l:=([]:List Int)) rfl CR.empty rfl λH2 w2 s2 c2=>?_
 obtain ⟨w3,s3⟩:=w2.pp [1,0] 2
 exact aD.l29_P F rfl (show 0=List.length ([]:List Int) from rfl) ⟨w3,(s0.trans (s1.trans (s2.trans s3))),(aK.step (s1.trans (s2.trans s3))),(c2.step s3)⟩ hp
def bx.Q (H0:Hp) (Ri R0:asp)  (r:Int) (v:AV) (H':Hp):Prop:=v=(.i r)/\Out H0 Ri H' (R0) λR=>True
def bx.S61 (H0:Hp) (Ri R0:asp)  (C:asV) (pC:aty):Prop:=∀ {jj gL IV Di IW mm IX},∀ {H:Hp},Di=mm.length->(Out H0 Ri H (Rs.own ⟨IV,Di,IW⟩ eI.z IX::R0) λR=>CR eI H R IX mm)->∀ {r:Int},pC jj mm gL=some r->Rt (C jj ⟨IV,Di,IW⟩ gL H) (bx.Q H0 Ri R0  r)
def bx.pj2 (F:Nat) (ay:aty) (sL:Int) (yb:asr) (sM:Int):Option (Int):=ay sL yb (wrap .i64 (sM+1))
theorem bx.j2_P  {C61_:asV} {ay:aty} (hC61:bx.S61 H0 Ri R0  C61_ ay) {sL sM VM IY VN yb VO} (aje:IY=yb.length) (h0:Out H0 Ri H (Rs.own ⟨VM,IY,VN⟩ eI.z VO::R0) λR=>CR eI H R VO yb) {r:Int} (hp:bx.pj2 F ay sL yb sM=some r):Rt (bx.j2 F (aD.tw F) C61_ sL ⟨VM,IY,VN⟩ sM H) (bx.Q H0 Ri R0  r):=by
 obtain ⟨w0,s0,ajf⟩:=h0
 subst aje
 unfold bx.pj2 at hp
 unfold bx.j2
 exact hC61 rfl ⟨w0,s0,ajf⟩ hp
def bx.pl61 (F:Nat) :Nat->Int->List Int->Int->Option (Int)
 | 0,_,_,_=>none
 | k+1,jj,mm,gL=>(bif (decide (gL<(mm.length:Int))) then ((ix mm gL).bind λn1=>(bif ((gt mm n1)==gL) then (bx.pj2 F (bx.pl61 F k) (wrap .i64 (jj+1)) mm gL) else (bx.pj2 F (bx.pl61 F k) jj mm gL))) else (some jj))
theorem bx.l61_P  :∀ k,bx.S61 H0 Ri R0  (bx.l61 F (aD.tw F)  k) (bx.pl61 F  k):=by
 intro k
 induction k with
 | zero=>unfold bx.S61;intros;rename_i hp;cases hp
 | succ k ih=>
  intro jj gL IV Di IW mm IX H ajg h0 r hp
  obtain ⟨w0,s0,IZ⟩:=h0
  subst ajg
  unfold bx.pl61 at hp
  unfold bx.l61
  refine aB hp (λhp=>?_) λhp=>?_
  ·obtain ⟨n1,g1,hp⟩:=ag hp
   obtain ⟨p1,q1,i1,h1,j1⟩:=W.ixo (E:=eI) w0 (i:=0) rfl rfl IZ g1
   refine ai i1 ?_
   have h1:_=[_]:=h1
   subst h1
   refine ai (aG (j1 0 _ rfl)) ?_
   refine aB hp (λhp=>?_) λhp=>?_
   ·exact bx.j2_P (@ih) rfl ⟨w0,s0,IZ⟩ hp
   ·exact bx.j2_P (@ih) rfl ⟨w0,s0,IZ⟩ hp
  ·obtain ⟨w2,s2⟩:=w0.pp [] 1
   exact aw hp ⟨rfl,w2,(s0.trans s2),trivial⟩
def bx.p (F:Nat) (ah:asy):Option (Int):=(aD.p F ah).bind λr2=>bx.pl61 F F 0 r2 0
theorem bx.P {az aj aA ah af} (aT:aj=ah.length) (h0:Inn H R0 λR=>ROs (ac eI (ac eI (ac eI (ac eI eI)))) H R ⟨az,aj,aA⟩ ah) {r:Int} (hp:bx.p F ah=some r):Rt (bx.tw F ⟨az,aj,aA⟩ af H) (bx.Q H R0 R0  r):=by
 obtain ⟨w0,aK⟩:=h0
 subst aT
 unfold bx.p at hp
 unfold bx.tw bx.twX
 have s0:=w0.rf
 refine aR w0 λH1 w1 s1=>?_
 refine lSl w1 0 ?_
 refine lI w1 0 ?_
 obtain ⟨r2,e2,hp⟩:=ag hp
 refine aE (aD.P rfl ⟨w1,(aK.step s1)⟩ e2) ?_
 rintro _ H3 ⟨o0a_3,o0n_3,o0c_3,o0k_3,rfl,rfl,w3,s3,f3_0⟩
 refine br ?_
 obtain ⟨w4,s4⟩:=w3.pp [0] 2
 exact bx.l61_P F rfl ⟨w4,(s0.trans (s1.trans (s3.trans s4))),(f3_0.step s4)⟩ hp
def dJ.Q (H0:Hp) (Ri R0:asp)  (r:Bool) (v:AV) (H':Hp):Prop:=v=(.bool r)/\Out H0 Ri H' (R0) λR=>True
def dJ.p (F:Nat) (ah:asy) (af:Int):Option (Bool):=(bif (decide ((ah.length:Int)>10)) then (some false) else ((cV.p F af 0 8).bind λr3=>(bif (!r3) then (some false) else ((bc.p F ah).bind λr6=>(bif (!r6) then (some false) else ((aP.p F ah).bind λr9=>(bx.p F ah).bind λr12=>some ((r9.length:Int)==(wrap .i64 ((ah.length:Int)+(wrap .i64 (2 * r12)))))))))))
theorem dJ.P {az aj aA ah af} (aT:aj=ah.length) (h0:Inn H R0 λR=>ROs (ac eI (ac eI (ac eI (ac eI eI)))) H R ⟨az,aj,aA⟩ ah) {r:Bool} (hp:dJ.p F ah af=some r):Rt (dJ.tw F ⟨az,aj,aA⟩ af H) (dJ.Q H R0 R0  r):=by
 obtain ⟨w0,aK⟩:=h0
 subst aT
 unfold dJ.p at hp
 unfold dJ.tw dJ.twX
 have s0:=w0.rf
 refine aR w0 λH1 w1 s1=>?_
 refine lSl w1 0 ?_
 refine aB hp (λhp=>?_) λhp=>?_
 ·obtain ⟨w2,s2⟩:=w1.pp [] 1
  exact aw hp ⟨rfl,w2,(s0.trans (s1.trans s2)),trivial⟩
 ·refine lI w1 0 ?_
  obtain ⟨r3,e3,hp⟩:=ag hp
  refine aE (cV.P ⟨w1,trivial⟩ e3) ?_
  rintro _ H4 ⟨rfl,w4,s4,_⟩
  refine br ?_
  refine aB hp (λhp=>?_) λhp=>?_
  ·obtain ⟨w5,s5⟩:=w4.pp [] 1
   exact aw hp ⟨rfl,w5,(s0.trans (s1.trans (s4.trans s5))),trivial⟩
  ·refine lSl w4 0 ?_
   refine lI w4 0 ?_
   obtain ⟨r6,e6,hp⟩:=ag hp
   refine aE (bc.P rfl ⟨w4,(aK.step (s1.trans s4))⟩ e6) ?_
   rintro _ H7 ⟨rfl,w7,s7,_⟩
   refine br ?_
   refine aB hp (λhp=>?_) λhp=>?_
   ·obtain ⟨w8,s8⟩:=w7.pp [] 1
    exact aw hp ⟨rfl,w8,(s0.trans (s1.trans (s4.trans (s7.trans s8)))),trivial⟩
   ·refine lSl w7 0 ?_
    refine lI w7 0 ?_
    obtain ⟨r9,e9,hp⟩:=ag hp
    refine aE (aP.P rfl ⟨w7,(aK.step (s1.trans (s4.trans s7)))⟩ e9) ?_
    rintro _ H10 ⟨o0a_10,o0n_10,o0c_10,o0k_10,rfl,rfl,w10,s10,f10_0⟩
    refine br ?_
    refine eQ (W.cons_of (Rn:=[_]) w7 w10 s10) ?_
    refine lSl w10 1 ?_
    refine lSl w10 1 ?_
    refine lI w10 1 ?_
    obtain ⟨r12,e12,hp⟩:=ag hp
    refine aE (bx.P rfl ⟨w10,(aK.step (s1.trans (s4.trans (s7.trans s10))))⟩ e12) ?_
    rintro _ H13 ⟨rfl,w13,s13,_⟩
    refine br ?_
    refine eQ (W.cons_of (Rn:=[]) w10 w13 s13) ?_
    obtain ⟨w15,s15⟩:=w13.pp [] 2
    exact aw hp ⟨rfl,w15,(s0.trans (s1.trans (s4.trans (s7.trans (s10.trans (s13.trans s15)))))),trivial⟩
def ak.Q (H0:Hp) (Ri R0:asp)  (r:asM) (v:AV) (H':Hp):Prop:=∃ o0a:ON,∃ o0n:Nat,∃ o0c:Cap,∃ o0k:List AV,v=(.tup [(.sl ⟨o0a,o0n,o0c⟩),(.i r.2)])/\o0n=(r.1).length/\Out H0 Ri H' (Rs.own ⟨o0a,o0n,o0c⟩ eI.z o0k::R0) λR=>CR eI H' R o0k (r.1)
def ak.S29 (H0:Hp) (Ri R0:asp)  (C:asO) (pC:as6):Prop:=∀ {qz I_ nl di Dj qA Ja hG nm eB qC Jb},∀ {H:Hp},nl=hG.length->Dj=qC.length->(Out H0 Ri H (Rs.blk di [.sl ⟨qz,nl,qA⟩,.i nm]::Rs.own ⟨I_,Dj,Ja⟩ eI.z Jb::R0) λR=>ROs (ac eI (ac eI (ac eI (ac eI eI)))) H R ⟨qz,nl,qA⟩ hG/\CR eI H R Jb qC)->∀ {r:asM},pC hG nm qC eB=some r->Rt (C di 0 ⟨I_,Dj,Ja⟩ eB H) (ak.Q H0 Ri R0  r)
def ak.S61 (H0:Hp) (Ri R0:asp)  (C:asO) (pC:as6):Prop:=∀ {Jc Jd Dk kx Dl Je Jf lH vT ij lJ Jg},∀ {H:Hp},Dk=lH.length->Dl=lJ.length->(Out H0 Ri H (Rs.blk kx [.sl ⟨Jc,Dk,Je⟩,.i vT]::Rs.own ⟨Jd,Dl,Jf⟩ eI.z Jg::R0) λR=>ROs (ac eI (ac eI (ac eI (ac eI eI)))) H R ⟨Jc,Dk,Je⟩ lH/\CR eI H R Jg lJ)->∀ {r:asM},pC lH vT lJ ij=some r->Rt (C kx 0 ⟨Jd,Dl,Jf⟩ ij H) (ak.Q H0 Ri R0  r)
def ak.S1963 (H0:Hp) (Ri R0:asp)  (C:atk) (pC:atz):Prop:=∀ {Jh Ji Dm mP Dn Jj Jk oQ qD jk fU fV gN kb Jl},∀ {H:Hp},Dm=oQ.length->Dn=kb.length->(Out H0 Ri H (Rs.blk mP [.sl ⟨Jh,Dm,Jj⟩,.i qD]::Rs.own ⟨Ji,Dn,Jk⟩ eI.z Jl::R0) λR=>ROs (ac eI (ac eI (ac eI (ac eI eI)))) H R ⟨Jh,Dm,Jj⟩ oQ/\CR eI H R Jl kb)->∀ {r:asM},pC oQ qD kb jk fU fV gN=some r->Rt (C mP 0 ⟨Ji,Dn,Jk⟩ jk fU fV gN H) (ak.Q H0 Ri R0  r)
def ak.pj12 (F:Nat) (Do:atz) (yc:asy) (Dp:Int) (yd:asr) (s_:Int) (ta:Int) (tc:Int) (td:Int):Option (List Int×Int):=Do yc Dp yd s_ ta tc (wrap .i64 (td+1))
theorem ak.j12_P  {C1963_:atk} {Do:atz} (hC1963:ak.S1963 H0 Ri R0  C1963_ Do) {VP VQ Jm AQ Jn VR VS yc Dp s_ ta tc td yd VT} (ajh:Jm=yc.length) (aji:Jn=yd.length) (h0:Out H0 Ri H (Rs.blk AQ [.sl ⟨VP,Jm,VR⟩,.i Dp]::Rs.own ⟨VQ,Jn,VS⟩ eI.z VT::R0) λR=>ROs (ac eI (ac eI (ac eI (ac eI eI)))) H R ⟨VP,Jm,VR⟩ yc/\CR eI H R VT yd) {r:asM} (hp:ak.pj12 F Do yc Dp yd s_ ta tc td=some r):Rt (ak.j12 F  C1963_ AQ 0 ⟨VQ,Jn,VS⟩ s_ ta tc td H) (ak.Q H0 Ri R0  r):=by
 obtain ⟨w0,s0,ajj,ajk⟩:=h0
 subst ajh
 subst aji
 unfold ak.pj12 at hp
 unfold ak.j12
 exact hC1963 rfl rfl ⟨w0,s0,ajj,ajk⟩ hp
def ak.pj10 (F:Nat) (ay:as6) (ye:asy) (Dq:Int) (yf:asr) (sY:Int):Option (List Int×Int):=ay ye Dq yf (wrap .i64 (sY+1))
theorem ak.j10_P  {C61_:asO} {ay:as6} (hC61:ak.S61 H0 Ri R0  C61_ ay) {VU VV Jo AO Jp VW VX ye Dq sY yf VY} (ajl:Jo=ye.length) (ajm:Jp=yf.length) (h0:Out H0 Ri H (Rs.blk AO [.sl ⟨VU,Jo,VW⟩,.i Dq]::Rs.own ⟨VV,Jp,VX⟩ eI.z VY::R0) λR=>ROs (ac eI (ac eI (ac eI (ac eI eI)))) H R ⟨VU,Jo,VW⟩ ye/\CR eI H R VY yf) {r:asM} (hp:ak.pj10 F ay ye Dq yf sY=some r):Rt (ak.j10 F  C61_ AO 0 ⟨VV,Jp,VX⟩ sY H) (ak.Q H0 Ri R0  r):=by
 obtain ⟨w0,s0,ajn,ajo⟩:=h0
 subst ajl
 subst ajm
 unfold ak.pj10 at hp
 unfold ak.j10
 exact hC61 rfl rfl ⟨w0,s0,ajn,ajo⟩ hp
def ak.pj11 (F:Nat) (ay:as6) (yg:asy) (Dr:Int) (yh:asr) (sZ:Int):Option (List Int×Int):=ak.pj10 F ay yg Dr yh sZ
theorem ak.j11_P  {C61_:asO} {ay:as6} (hC61:ak.S61 H0 Ri R0  C61_ ay) {VZ V_ Jq AP Jr Wa Wb yg Dr sZ yh Wc} (ajp:Jq=yg.length) (ajq:Jr=yh.length) (h0:Out H0 Ri H (Rs.blk AP [.sl ⟨VZ,Jq,Wa⟩,.i Dr]::Rs.own ⟨V_,Jr,Wb⟩ eI.z Wc::R0) λR=>ROs (ac eI (ac eI (ac eI (ac eI eI)))) H R ⟨VZ,Jq,Wa⟩ yg/\CR eI H R Wc yh) {r:asM} (hp:ak.pj11 F ay yg Dr yh sZ=some r):Rt (ak.j11 F  C61_ AP 0 ⟨V_,Jr,Wb⟩ sZ H) (ak.Q H0 Ri R0  r):=by
 obtain ⟨w0,s0,ajr,ajs⟩:=h0
 subst ajp
 subst ajq
 unfold ak.pj11 at hp
 unfold ak.j11
 exact ak.j10_P (@hC61) rfl rfl ⟨w0,s0,ajr,ajs⟩ hp
def ak.pl1963 (F:Nat) (ay:as6):Nat->List (Int×Int×Int×Int×Int)->Int->List Int->Int->Int->Int->Int->Option (List Int×Int)
 | 0,_,_,_,_,_,_,_=>none
 | k+1,oQ,qD,kb,jk,fU,fV,gN=>(bif (decide (gN<(kb.length:Int))) then ((ix kb gN).bind λn1=>(bif ((gt kb n1)==(if fV>fU then fV else fU)) then ((ix kb gN).bind λn2=>(some (kb.set n2 (if fV<fU then fV else fU))).bind λl3=>ak.pj12 F (ak.pl1963 F ay k) oQ qD l3 jk fU fV gN) else (ak.pj12 F (ak.pl1963 F ay k) oQ qD kb jk fU fV gN))) else (ak.pj11 F ay oQ qD kb jk))
theorem ak.l1963_P  {C61_:asO} {ay:as6} (hC61:ak.S61 H0 Ri R0  C61_ ay):∀ k,ak.S1963 H0 Ri R0  (ak.l1963 F  C61_ k) (ak.pl1963 F ay k):=by
 intro k
 induction k with
 | zero=>unfold ak.S1963;intros;rename_i hp;cases hp
 | succ k ih=>
  intro Jh Ji Dm mP Dn Jj Jk oQ qD jk fU fV gN kb Jl H ajt aju h0 r hp
  obtain ⟨w0,s0,Js,yi⟩:=h0
  subst ajt
  subst aju
  unfold ak.pl1963 at hp
  unfold ak.l1963
  refine aB hp (λhp=>?_) λhp=>?_
  ·obtain ⟨n1,g1,hp⟩:=ag hp
   obtain ⟨p1,q1,i1,h1,j1⟩:=W.ixo (E:=eI) w0 (i:=1) rfl rfl yi g1
   refine ai i1 ?_
   have h1:_=[_]:=h1
   subst h1
   refine ai (aG (j1 0 _ rfl)) ?_
   refine aB hp (λhp=>?_) λhp=>?_
   ·obtain ⟨n2,g2,hp⟩:=ag hp
    obtain ⟨p2,q2,i2,h2,j2⟩:=W.ixo (E:=eI) w0 (i:=1) rfl rfl yi g2
    refine ai i2 ?_
    obtain ⟨l3,e3,hp⟩:=ag hp
    refine de eI w0 (i:=1) (j:=0) (p:=p2) rfl rfl yi g2 i2 e3 rfl rfl (λ_ h=>by have h:_=[_]:=h;subst h;exact rfl) λH4 k4 w4 s4 c4=>?_
    exact ak.j12_P (@ih) rfl ((cj e3).symm) ⟨w4,(s0.trans s4),(Js.step s4),c4⟩ hp
   ·exact ak.j12_P (@ih) rfl rfl ⟨w0,s0,Js,yi⟩ hp
  ·exact ak.j11_P (@hC61) rfl rfl ⟨w0,s0,Js,yi⟩ hp
def ak.S509 (H0:Hp) (Ri R0:asp)  (C:atm) (pC:atA):Prop:=∀ {Jt Ju Jv Ds mO Dt Du Jw Jx Jy Jz qE gM fS kc kd JA JB},∀ {H:Hp},Ds=Jz.length->Dt=kc.length->Du=kd.length->(Out H0 Ri H (Rs.blk mO [.sl ⟨Jt,Ds,Jw⟩,.i qE]::Rs.own ⟨Ju,Dt,Jx⟩ eI.z JA::Rs.own ⟨Jv,Du,Jy⟩ eI.z JB::R0) λR=>ROs (ac eI (ac eI (ac eI (ac eI eI)))) H R ⟨Jt,Ds,Jw⟩ Jz/\CR eI H R JA kc/\CR eI H R JB kd)->∀ {r:asM},pC qE kc kd gM fS=some r->Rt (C mO 0 ⟨Ju,Dt,Jx⟩ ⟨Jv,Du,Jy⟩ gM fS H) (ak.Q H0 Ri R0  r)
def ak.pj7 (F:Nat) (Dv:atA) (Dw:Int) (yj:asr) (yk:asr) (sV:Int) (sW:Int):Option (List Int×Int):=Dv Dw yj yk sV (wrap .i64 (sW+1))
theorem ak.j7_P  {C509_:atm} {Dv:atA} (hC509:ak.S509 H0 Ri R0  C509_ Dv) {Wd We Wf JC AK JD JE Wg Wh Wi Wj Dw sV sW yj yk Wk Wl} (ajv:JC=Wj.length) (ajw:JD=yj.length) (ajx:JE=yk.length) (h0:Out H0 Ri H (Rs.blk AK [.sl ⟨Wd,JC,Wg⟩,.i Dw]::Rs.own ⟨We,JD,Wh⟩ eI.z Wk::Rs.own ⟨Wf,JE,Wi⟩ eI.z Wl::R0) λR=>ROs (ac eI (ac eI (ac eI (ac eI eI)))) H R ⟨Wd,JC,Wg⟩ Wj/\CR eI H R Wk yj/\CR eI H R Wl yk) {r:asM} (hp:ak.pj7 F Dv Dw yj yk sV sW=some r):Rt (ak.j7 F  C509_ AK 0 ⟨We,JD,Wh⟩ ⟨Wf,JE,Wi⟩ sV sW H) (ak.Q H0 Ri R0  r):=by
 obtain ⟨w0,s0,ajy,ajz,ajA⟩:=h0
 subst ajv
 subst ajw
 subst ajx
 unfold ak.pj7 at hp
 unfold ak.j7
 exact hC509 rfl rfl rfl ⟨w0,s0,ajy,ajz,ajA⟩ hp
def ak.pj6 (F:Nat)  (Dx:Int) (yl:asr) (sU:Int):Option (List Int×Int):=some (yl,(wrap .i64 (sU+Dx)))
theorem ak.j6_P   {Wm Wn JF AJ JG Wo Wp Wq Dx sU yl Wr} (ajB:JF=Wq.length) (ajC:JG=yl.length) (h0:Out H0 Ri H (Rs.blk AJ [.sl ⟨Wm,JF,Wo⟩,.i Dx]::Rs.own ⟨Wn,JG,Wp⟩ eI.z Wr::R0) λR=>ROs (ac eI (ac eI (ac eI (ac eI eI)))) H R ⟨Wm,JF,Wo⟩ Wq/\CR eI H R Wr yl) {r:asM} (hp:ak.pj6 F  Dx yl sU=some r):Rt (ak.j6 F   AJ 0 ⟨Wn,JG,Wp⟩ sU H) (ak.Q H0 Ri R0  r):=by
 obtain ⟨w0,s0,arO,ajD⟩:=h0
 subst ajB
 subst ajC
 unfold ak.pj6 at hp
 unfold ak.j6
 refine lI w0 0 ?_
 obtain ⟨w1,s1⟩:=w0.pp [1] 2
 exact aw hp ⟨_,_,_,_,rfl,rfl,w1,(s0.trans s1),(ajD.step s1)⟩
def ak.pl509 (F:Nat) :Nat->Int->List Int->List Int->Int->Int->Option (List Int×Int)
 | 0,_,_,_,_,_=>none
 | k+1,qE,kc,kd,gM,fS=>(bif (decide (fS<(kc.length:Int))) then ((ix kc fS).bind λn1=>(bif ((gt kc n1)==fS) then ((apn kd ([gM]:List Int)).bind λl3=>ak.pj7 F (ak.pl509 F k) qE kc l3 (wrap .i64 (gM+1)) fS) else ((ix kc fS).bind λn6=>(ix kd (gt kc n6)).bind λn7=>(apn kd ([(gt kd n7)]:List Int)).bind λl9=>ak.pj7 F (ak.pl509 F k) qE kc l9 gM fS))) else (ak.pj6 F qE kd gM))
theorem ak.l509_P  :∀ k,ak.S509 H0 Ri R0  (ak.l509 F   k) (ak.pl509 F  k):=by
 intro k
 induction k with
 | zero=>unfold ak.S509;intros;rename_i hp;cases hp
 | succ k ih=>
  intro Jt Ju Jv Ds mO Dt Du Jw Jx Jy Jz qE gM fS kc kd JA JB H ajE ajF ajG h0 r hp
  obtain ⟨w0,s0,JH,Dy,Dz⟩:=h0
  subst ajE
  subst ajF
  subst ajG
  unfold ak.pl509 at hp
  unfold ak.l509
  refine aB hp (λhp=>?_) λhp=>?_
  ·obtain ⟨n1,g1,hp⟩:=ag hp
   obtain ⟨p1,q1,i1,h1,j1⟩:=W.ixo (E:=eI) w0 (i:=1) rfl rfl Dy g1
   refine ai i1 ?_
   have h1:_=[_]:=h1
   subst h1
   refine ai (aG (j1 0 _ rfl)) ?_
   refine aB hp (λhp=>?_) λhp=>?_
   ·refine cO eI w0 (n:=1) (l:=([gM]:List Int)) rfl (CR.cons1 rfl CR.empty) rfl λH2 w2 s2 c2=>?_
    refine ai (w2.rowo (i:=0) rfl) ?_
    obtain ⟨l3,e3,hp⟩:=ag hp
    refine fM eI w2 (i:=3) rfl rfl (Dz.step s2) c2 (show 1=List.length ([gM]:List Int) from rfl) rfl e3 λa4 d4 H4 w4 s4 c4 x4=>?_
    obtain ⟨w5,s5⟩:=w4.pp [1,2,3] 4
    exact ak.j7_P (@ih) rfl rfl rfl ⟨w5,(s0.trans (s2.trans (s4.trans s5))),(JH.step (s2.trans (s4.trans s5))),(Dy.step (s2.trans (s4.trans s5))),(c4.step s5)⟩ hp
   ·obtain ⟨n6,g6,hp⟩:=ag hp
    obtain ⟨p6,q6,i6,h6,j6⟩:=W.ixo (E:=eI) w0 (i:=1) rfl rfl Dy g6
    refine ai i6 ?_
    have h6:_=[_]:=h6
    subst h6
    refine ai (aG (j6 0 _ rfl)) ?_
    obtain ⟨n7,g7,hp⟩:=ag hp
    obtain ⟨p7,q7,i7,h7,j7⟩:=W.ixo (E:=eI) w0 (i:=2) rfl rfl Dz g7
    refine ai i7 ?_
    have h7:_=[_]:=h7
    subst h7
    refine ai (aG (j7 0 _ rfl)) ?_
    refine cO eI w0 (n:=1) (l:=([(gt kd n7)]:List Int)) rfl (CR.cons1 rfl CR.empty) rfl λH8 w8 s8 c8=>?_
    refine ai (w8.rowo (i:=0) rfl) ?_
    obtain ⟨l9,e9,hp⟩:=ag hp
    refine fM eI w8 (i:=3) rfl rfl (Dz.step s8) c8 (show 1=List.length ([(gt kd n7)]:List Int) from rfl) rfl e9 λa10 d10 H10 w10 s10 c10 x10=>?_
    obtain ⟨w11,s11⟩:=w10.pp [1,2,3] 4
    exact ak.j7_P (@ih) rfl rfl rfl ⟨w11,(s0.trans (s8.trans (s10.trans s11))),(JH.step (s8.trans (s10.trans s11))),(Dy.step (s8.trans (s10.trans s11))),(c10.step s11)⟩ hp
  ·obtain ⟨w12,s12⟩:=w0.pp [0,2] 3
   exact ak.j6_P rfl rfl ⟨w12,(s0.trans s12),(JH.step s12),(Dz.step s12)⟩ hp
def ak.pj8 (F:Nat)  (DA:Int) (ym:asr):Option (List Int×Int):=ak.pl509 F F DA ym ([]:List Int) 0 0
theorem ak.j8_P   {Ws Wt JI AN JJ Wu Wv Ww DA ym Wx} (ajH:JI=Ww.length) (ajI:JJ=ym.length) (h0:Out H0 Ri H (Rs.blk AN [.sl ⟨Ws,JI,Wu⟩,.i DA]::Rs.own ⟨Wt,JJ,Wv⟩ eI.z Wx::R0) λR=>ROs (ac eI (ac eI (ac eI (ac eI eI)))) H R ⟨Ws,JI,Wu⟩ Ww/\CR eI H R Wx ym) {r:asM} (hp:ak.pj8 F  DA ym=some r):Rt (ak.j8 F   AN 0 ⟨Wt,JJ,Wv⟩ H) (ak.Q H0 Ri R0  r):=by
 obtain ⟨w0,s0,ajJ,ajK⟩:=h0
 subst ajH
 subst ajI
 unfold ak.pj8 at hp
 unfold ak.j8
 refine cO eI w0 (n:=0) (l:=([]:List Int)) rfl CR.empty rfl λH1 w1 s1 c1=>?_
 obtain ⟨w2,s2⟩:=w1.pp [1,2,0] 3
 exact ak.l509_P F rfl rfl (show 0=List.length ([]:List Int) from rfl) ⟨w2,(s0.trans (s1.trans s2)),(ajJ.step (s1.trans s2)),(ajK.step (s1.trans s2)),(c1.step s2)⟩ hp
def ak.pl61 (F:Nat) :Nat->List (Int×Int×Int×Int×Int)->Int->List Int->Int->Option (List Int×Int)
 | 0,_,_,_,_=>none
 | k+1,lH,vT,lJ,ij=>(bif (decide (ij<(lH.length:Int))) then ((ix lH ij).bind λn1=>(ix lJ ((gt lH n1).2.1)).bind λn2=>(ix lH ij).bind λn3=>(ix lJ ((gt lH n3).2.2.2.1)).bind λn4=>ak.pl1963 F (ak.pl61 F k) F lH vT lJ ij (gt lJ n2) (gt lJ n4) 0) else (ak.pj8 F vT lJ))
theorem ak.l61_P  :∀ k,ak.S61 H0 Ri R0  (ak.l61 F   k) (ak.pl61 F  k):=by
 intro k
 induction k with
 | zero=>unfold ak.S61;intros;rename_i hp;cases hp
 | succ k ih=>
  intro Jc Jd Dk kx Dl Je Jf lH vT ij lJ Jg H ajL ajM h0 r hp
  obtain ⟨w0,s0,DB,DC⟩:=h0
  subst ajL
  subst ajM
  unfold ak.pl61 at hp
  unfold ak.l61
  refine lSl w0 0 ?_
  refine aB hp (λhp=>?_) λhp=>?_
  ·refine lSl w0 0 ?_
   obtain ⟨n1,g1,hp⟩:=ag hp
   obtain ⟨p1,q1,i1,h1,j1⟩:=ROs.ixr DB rfl g1
   refine ai i1 ?_
   obtain ⟨_,_,rfl,rfl,_,_,rfl,rfl,_,_,rfl,rfl,_,_,rfl,rfl,rfl⟩:=h1
   refine ai (aG (j1 1 _ rfl)) ?_
   obtain ⟨n2,g2,hp⟩:=ag hp
   obtain ⟨p2,q2,i2,h2,j2⟩:=W.ixo (E:=eI) w0 (i:=1) rfl rfl DC g2
   refine ai i2 ?_
   have h2:_=[_]:=h2
   subst h2
   refine ai (aG (j2 0 _ rfl)) ?_
   refine lSl w0 0 ?_
   obtain ⟨n3,g3,hp⟩:=ag hp
   obtain ⟨p3,q3,i3,h3,j3⟩:=ROs.ixr DB rfl g3
   refine ai i3 ?_
   obtain ⟨_,_,rfl,rfl,_,_,rfl,rfl,_,_,rfl,rfl,_,_,rfl,rfl,rfl⟩:=h3
   refine ai (aG (j3 3 _ rfl)) ?_
   obtain ⟨n4,g4,hp⟩:=ag hp
   obtain ⟨p4,q4,i4,h4,j4⟩:=W.ixo (E:=eI) w0 (i:=1) rfl rfl DC g4
   refine ai i4 ?_
   have h4:_=[_]:=h4
   subst h4
   refine ai (aG (j4 0 _ rfl)) ?_
   exact ak.l1963_P (@ih) F rfl rfl ⟨w0,s0,DB,DC⟩ hp
  ·exact ak.j8_P rfl rfl ⟨w0,s0,DB,DC⟩ hp
def ak.pj13 (F:Nat)  (yn:asy) (DE:Int) (yo:asr):Option (List Int×Int):=ak.pl61 F F yn DE yo 0
theorem ak.j13_P   {Wy Wz JK sK JL WA WB yn DE yo WC} (ajN:JK=yn.length) (ajO:JL=yo.length) (h0:Out H0 Ri H (Rs.blk sK [.sl ⟨Wy,JK,WA⟩,.i DE]::Rs.own ⟨Wz,JL,WB⟩ eI.z WC::R0) λR=>ROs (ac eI (ac eI (ac eI (ac eI eI)))) H R ⟨Wy,JK,WA⟩ yn/\CR eI H R WC yo) {r:asM} (hp:ak.pj13 F  yn DE yo=some r):Rt (ak.j13 F   sK 0 ⟨Wz,JL,WB⟩ H) (ak.Q H0 Ri R0  r):=by
 obtain ⟨w0,s0,ajP,ajQ⟩:=h0
 subst ajN
 subst ajO
 unfold ak.pj13 at hp
 unfold ak.j13
 exact ak.l61_P F rfl rfl ⟨w0,s0,ajP,ajQ⟩ hp
def ak.pl29 (F:Nat) :Nat->List (Int×Int×Int×Int×Int)->Int->List Int->Int->Option (List Int×Int)
 | 0,_,_,_,_=>none
 | k+1,hG,nm,qC,eB=>(bif (decide (eB<(wrap .i64 (2 * (hG.length:Int))))) then ((apn qC ([eB]:List Int)).bind λl2=>ak.pl29 F k hG nm l2 (wrap .i64 (eB+1))) else (ak.pj13 F hG nm qC))
theorem ak.l29_P  :∀ k,ak.S29 H0 Ri R0  (ak.l29 F   k) (ak.pl29 F  k):=by
 intro k
 induction k with
 | zero=>unfold ak.S29;intros;rename_i hp;cases hp
 | succ k ih=>
  intro qz I_ nl di Dj qA Ja hG nm eB qC Jb H IU ajR h0 r hp
  obtain ⟨w0,s0,ya,WD⟩:=h0
  subst IU
  subst ajR
  unfold ak.pl29 at hp
  unfold ak.l29
  refine lSl w0 0 ?_
  refine aB hp (λhp=>?_) λhp=>?_
  ·refine cO eI w0 (n:=1) (l:=([eB]:List Int)) rfl (CR.cons1 rfl CR.empty) rfl λH1 w1 s1 c1=>?_
   refine ai (w1.rowo (i:=0) rfl) ?_
   obtain ⟨l2,e2,hp⟩:=ag hp
   refine fM eI w1 (i:=2) rfl rfl (WD.step s1) c1 (show 1=List.length ([eB]:List Int) from rfl) rfl e2 λa3 d3 H3 w3 s3 c3 x3=>?_
   obtain ⟨w4,s4⟩:=w3.pp [1,2] 3
   exact ih rfl rfl ⟨w4,(s0.trans (s1.trans (s3.trans s4))),(ya.step (s1.trans (s3.trans s4))),(c3.step s4)⟩ hp
  ·exact ak.j13_P rfl rfl ⟨w0,s0,ya,WD⟩ hp
def ak.p (F:Nat) (ah:asy) (af:Int):Option (List Int×Int):=ak.pl29 F F ah af ([]:List Int) 0
theorem ak.P {az aj aA ah af} (aT:aj=ah.length) (h0:Inn H R0 λR=>ROs (ac eI (ac eI (ac eI (ac eI eI)))) H R ⟨az,aj,aA⟩ ah) {r:asM} (hp:ak.p F ah af=some r):Rt (ak.tw F ⟨az,aj,aA⟩ af H) (ak.Q H R0 R0  r):=by
 obtain ⟨w0,aK⟩:=h0
 subst aT
 unfold ak.p at hp
 unfold ak.tw ak.twX
 have s0:=w0.rf
 refine aR w0 λH1 w1 s1=>?_
 refine cO eI w1 (n:=0) (l:=([]:List Int)) rfl CR.empty rfl λH2 w2 s2 c2=>?_
 obtain ⟨w3,s3⟩:=w2.pp [1,0] 2
 exact ak.l29_P F rfl (show 0=List.length ([]:List Int) from rfl) ⟨w3,(s0.trans (s1.trans (s2.trans s3))),(aK.step (s1.trans (s2.trans s3))),(c2.step s3)⟩ hp
def bi.Q (H0:Hp) (Ri R0:asp)  (r:asE) (v:AV) (H':Hp):Prop:=∃ o0a:ON,∃ o0n:Nat,∃ o0c:Cap,∃ o0k:List AV,v=(.sl ⟨o0a,o0n,o0c⟩)/\o0n=(r).length/\Out H0 Ri H' (Rs.own ⟨o0a,o0n,o0c⟩ (eSl eI).z o0k::R0) λR=>CR (eSl eI) H' R o0k (r)
def bi.S61 (H0:Hp) (Ri R0:asp)  (C:asR) (pC:atB):Prop:=∀ {JM qF JN DF lY np DH JO qG JP jP WE ik dr qH JQ cN},∀ {H:Hp},DF=jP.length->np=dr.length->DH=cN.length->(Out H0 Ri H (Rs.blk lY [.sl ⟨JM,DF,JO⟩,.i WE]::Rs.own ⟨qF,np,qG⟩ (eSl eI).z qH::Rs.own ⟨JN,DH,JP⟩ eI.z JQ::R0) λR=>ROs (ac eI (ac eI (ac eI (ac eI eI)))) H R ⟨JM,DF,JO⟩ jP/\CR (eSl eI) H R qH dr/\CR eI H R JQ cN)->∀ {r:asE},pC jP dr cN ik=some r->Rt (C lY 0 ⟨qF,np,qG⟩ ⟨JN,DH,JP⟩ ik H) (bi.Q H0 Ri R0  r)
def bi.pj2 (F:Nat) (ay:atB) (lD:asy) (lE:asE) (lF:asr) (gO:Int):Option (List (List Int)):=ay lD lE lF (wrap .i64 (gO+1))
theorem bi.j2_P  {C61_:asR} {ay:atB} (hC61:bi.S61 H0 Ri R0  C61_ ay) {xE xF xG qt fE qu qv xH xI xJ lD HW gO lE xK xL lF} (HX:qt=lD.length) (HY:qu=lE.length) (HZ:qv=lF.length) (h0:Out H0 Ri H (Rs.blk fE [.sl ⟨xE,qt,xH⟩,.i HW]::Rs.own ⟨xF,qu,xI⟩ (eSl eI).z xK::Rs.own ⟨xG,qv,xJ⟩ eI.z xL::R0) λR=>ROs (ac eI (ac eI (ac eI (ac eI eI)))) H R ⟨xE,qt,xH⟩ lD/\CR (eSl eI) H R xK lE/\CR eI H R xL lF) {r:asE} (hp:bi.pj2 F ay lD lE lF gO=some r):Rt (bi.j2 F (ak.tw F) C61_ fE 0 ⟨xF,qu,xI⟩ ⟨xG,qv,xJ⟩ gO H) (bi.Q H0 Ri R0  r):=by
 obtain ⟨w0,s0,H_,Ia,Ib⟩:=h0
 subst HX
 subst HY
 subst HZ
 unfold bi.pj2 at hp
 unfold bi.j2
 exact hC61 rfl rfl rfl ⟨w0,s0,H_,Ia,Ib⟩ hp
def bi.pl61 (F:Nat) :Nat->List (Int×Int×Int×Int×Int)->List (List Int)->List Int->Int->Option (List (List Int))
 | 0,_,_,_,_=>none
 | k+1,jP,dr,cN,ik=>(bif (decide (ik<(jP.length:Int))) then ((ix jP ik).bind λn1=>(ix cN ((gt jP n1).1)).bind λn8=>(ix cN ((gt jP n1).2.2.1)).bind λn9=>(ix cN ((gt jP n1).2.1)).bind λn10=>(bif (((gt jP n1).2.2.2.2)==1) then ((apn dr ([([(wrap .i64 ((gt cN n9)+1)),(wrap .i64 ((gt cN n10)+1)),(wrap .i64 (0 - (wrap .i64 ((gt cN n8)+1)))),(wrap .i64 (0 - (wrap .i64 ((gt cN n10)+1))))]:List Int)]:List (List Int))).bind λl14=>bi.pj2 F (bi.pl61 F k) jP l14 cN ik) else ((apn dr ([([(wrap .i64 ((gt cN n9)+1)),(wrap .i64 (0 - (wrap .i64 ((gt cN n10)+1)))),(wrap .i64 (0 - (wrap .i64 ((gt cN n8)+1)))),(wrap .i64 ((gt cN n10)+1))]:List Int)]:List (List Int))).bind λl20=>bi.pj2 F (bi.pl61 F k) jP l20 cN ik))) else (some dr))
theorem bi.l61_P  :∀ k,bi.S61 H0 Ri R0  (bi.l61 F (ak.tw F)  k) (bi.pl61 F  k):=by
 intro k
 induction k with
 | zero=>unfold bi.S61;intros;rename_i hp;cases hp
 | succ k ih=>
  intro JM qF JN DF lY np DH JO qG JP jP WE ik dr qH JQ cN H ajS JR ajT h0 r hp
  obtain ⟨w0,s0,JS,oR,yp⟩:=h0
  subst ajS
  subst JR
  subst ajT
  unfold bi.pl61 at hp
  unfold bi.l61
  refine lSl w0 0 ?_
  refine aB hp (λhp=>?_) λhp=>?_
  ·refine lSl w0 0 ?_
   obtain ⟨n1,g1,hp⟩:=ag hp
   obtain ⟨p1,q1,i1,h1,j1⟩:=ROs.ixr JS rfl g1
   refine ai i1 ?_
   obtain ⟨_,_,rfl,rfl,_,_,rfl,rfl,_,_,rfl,rfl,_,_,rfl,rfl,rfl⟩:=h1
   refine ai (aG (j1 0 _ rfl)) ?_
   refine ai (aG (j1 1 _ rfl)) ?_
   refine ai (aG (j1 2 _ rfl)) ?_
   refine ai (aG (j1 3 _ rfl)) ?_
   refine ai (aG (j1 4 _ rfl)) ?_
   refine aR w0 λH2 w2 s2=>?_
   refine aq w2 0 λH3 w3 s3=>?_
   refine aq w3 0 λH4 w4 s4=>?_
   refine aq w4 0 λH5 w5 s5=>?_
   refine aq w5 0 λH6 w6 s6=>?_
   refine aq w6 0 λH7 w7 s7=>?_
   refine lI w7 0 ?_
   obtain ⟨n8,g8,hp⟩:=ag hp
   obtain ⟨p8,q8,i8,h8,j8⟩:=W.ixo (E:=eI) w7 (i:=3) rfl rfl (yp.step (s2.trans (s3.trans (s4.trans (s5.trans (s6.trans s7)))))) g8
   refine ai i8 ?_
   have h8:_=[_]:=h8
   subst h8
   refine ai (aG (j8 0 _ rfl)) ?_
   refine lI w7 0 ?_
   obtain ⟨n9,g9,hp⟩:=ag hp
   obtain ⟨p9,q9,i9,h9,j9⟩:=W.ixo (E:=eI) w7 (i:=3) rfl rfl (yp.step (s2.trans (s3.trans (s4.trans (s5.trans (s6.trans s7)))))) g9
   refine ai i9 ?_
   have h9:_=[_]:=h9
   subst h9
   refine ai (aG (j9 0 _ rfl)) ?_
   refine lI w7 0 ?_
   obtain ⟨n10,g10,hp⟩:=ag hp
   obtain ⟨p10,q10,i10,h10,j10⟩:=W.ixo (E:=eI) w7 (i:=3) rfl rfl (yp.step (s2.trans (s3.trans (s4.trans (s5.trans (s6.trans s7)))))) g10
   refine ai i10 ?_
   have h10:_=[_]:=h10
   subst h10
   refine ai (aG (j10 0 _ rfl)) ?_
   refine lI w7 0 ?_
   refine aB hp (λhp=>?_) λhp=>?_
   ·refine cO eI w7 (n:=4) (l:=([(wrap .i64 ((gt cN n9)+1)),(wrap .i64 ((gt cN n10)+1)),(wrap .i64 (0 - (wrap .i64 ((gt cN n8)+1)))),(wrap .i64 (0 - (wrap .i64 ((gt cN n10)+1))))]:List Int)) rfl (CR.cons1 rfl (CR.cons1 rfl (CR.cons1 rfl (CR.cons1 rfl CR.empty)))) rfl λH11 w11 s11 c11=>?_
    obtain ⟨w12,s12,f12⟩:=w11.frz (i:=0) eI rfl c11
    refine cO (eSl eI) w12 (n:=1) (l:=([([(wrap .i64 ((gt cN n9)+1)),(wrap .i64 ((gt cN n10)+1)),(wrap .i64 (0 - (wrap .i64 ((gt cN n8)+1)))),(wrap .i64 (0 - (wrap .i64 ((gt cN n10)+1))))]:List Int)]:List (List Int))) rfl (CR.cons1 ⟨_,rfl,f12⟩ CR.empty) rfl λH13 w13 s13 c13=>?_
    refine ai (w13.rowo (i:=0) rfl) ?_
    obtain ⟨l14,e14,hp⟩:=ag hp
    refine fM (eSl eI) w13 (i:=3) rfl rfl (oR.step (s2.trans (s3.trans (s4.trans (s5.trans (s6.trans (s7.trans (s11.trans (s12.trans s13))))))))) c13 (show 1=List.length ([([(wrap .i64 ((gt cN n9)+1)),(wrap .i64 ((gt cN n10)+1)),(wrap .i64 (0 - (wrap .i64 ((gt cN n8)+1)))),(wrap .i64 (0 - (wrap .i64 ((gt cN n10)+1))))]:List Int)]:List (List Int)) from rfl) rfl e14 λa15 d15 H15 w15 s15 c15 x15=>?_
    obtain ⟨w16,s16⟩:=w15.pp [2,3,4] 5
    exact bi.j2_P (@ih) rfl rfl rfl ⟨w16,(s0.trans (s2.trans (s3.trans (s4.trans (s5.trans (s6.trans (s7.trans (s11.trans (s12.trans (s13.trans (s15.trans s16))))))))))),(JS.step (s2.trans (s3.trans (s4.trans (s5.trans (s6.trans (s7.trans (s11.trans (s12.trans (s13.trans (s15.trans s16))))))))))),(c15.step s16),(yp.step (s2.trans (s3.trans (s4.trans (s5.trans (s6.trans (s7.trans (s11.trans (s12.trans (s13.trans (s15.trans s16)))))))))))⟩ hp
   ·refine cO eI w7 (n:=4) (l:=([(wrap .i64 ((gt cN n9)+1)),(wrap .i64 (0 - (wrap .i64 ((gt cN n10)+1)))),(wrap .i64 (0 - (wrap .i64 ((gt cN n8)+1)))),(wrap .i64 ((gt cN n10)+1))]:List Int)) rfl (CR.cons1 rfl (CR.cons1 rfl (CR.cons1 rfl (CR.cons1 rfl CR.empty)))) rfl λH17 w17 s17 c17=>?_
    obtain ⟨w18,s18,f18⟩:=w17.frz (i:=0) eI rfl c17
    refine cO (eSl eI) w18 (n:=1) (l:=([([(wrap .i64 ((gt cN n9)+1)),(wrap .i64 (0 - (wrap .i64 ((gt cN n10)+1)))),(wrap .i64 (0 - (wrap .i64 ((gt cN n8)+1)))),(wrap .i64 ((gt cN n10)+1))]:List Int)]:List (List Int))) rfl (CR.cons1 ⟨_,rfl,f18⟩ CR.empty) rfl λH19 w19 s19 c19=>?_
    refine ai (w19.rowo (i:=0) rfl) ?_
    obtain ⟨l20,e20,hp⟩:=ag hp
    refine fM (eSl eI) w19 (i:=3) rfl rfl (oR.step (s2.trans (s3.trans (s4.trans (s5.trans (s6.trans (s7.trans (s17.trans (s18.trans s19))))))))) c19 (show 1=List.length ([([(wrap .i64 ((gt cN n9)+1)),(wrap .i64 (0 - (wrap .i64 ((gt cN n10)+1)))),(wrap .i64 (0 - (wrap .i64 ((gt cN n8)+1)))),(wrap .i64 ((gt cN n10)+1))]:List Int)]:List (List Int)) from rfl) rfl e20 λa21 d21 H21 w21 s21 c21 x21=>?_
    obtain ⟨w22,s22⟩:=w21.pp [2,3,4] 5
    exact bi.j2_P (@ih) rfl rfl rfl ⟨w22,(s0.trans (s2.trans (s3.trans (s4.trans (s5.trans (s6.trans (s7.trans (s17.trans (s18.trans (s19.trans (s21.trans s22))))))))))),(JS.step (s2.trans (s3.trans (s4.trans (s5.trans (s6.trans (s7.trans (s17.trans (s18.trans (s19.trans (s21.trans s22))))))))))),(c21.step s22),(yp.step (s2.trans (s3.trans (s4.trans (s5.trans (s6.trans (s7.trans (s17.trans (s18.trans (s19.trans (s21.trans s22)))))))))))⟩ hp
  ·obtain ⟨w23,s23⟩:=w0.pp [1] 3
   exact aw hp ⟨_,_,_,_,rfl,rfl,w23,(s0.trans s23),(oR.step s23)⟩
def bi.p (F:Nat) (ah:asy) (af:Int):Option (List (List Int)):=(ak.p F ah af).bind λr3=>bi.pl61 F F ah ([]:List (List Int)) r3.1 0
theorem bi.P {az aj aA ah af} (aT:aj=ah.length) (h0:Inn H R0 λR=>ROs (ac eI (ac eI (ac eI (ac eI eI)))) H R ⟨az,aj,aA⟩ ah) {r:asE} (hp:bi.p F ah af=some r):Rt (bi.tw F ⟨az,aj,aA⟩ af H) (bi.Q H R0 R0  r):=by
 obtain ⟨w0,aK⟩:=h0
 subst aT
 unfold bi.p at hp
 unfold bi.tw bi.twX
 have s0:=w0.rf
 refine aR w0 λH1 w1 s1=>?_
 refine cO (eSl eI) w1 (n:=0) (l:=([]:List (List Int))) rfl CR.empty rfl λH2 w2 s2 c2=>?_
 refine lSl w2 1 ?_
 refine lI w2 1 ?_
 obtain ⟨r3,e3,hp⟩:=ag hp
 refine aE (ak.P rfl ⟨w2,(aK.step (s1.trans s2))⟩ e3) ?_
 rintro _ H4 ⟨o0a_4,o0n_4,o0c_4,o0k_4,rfl,rfl,w4,s4,f4_0⟩
 refine br (br (br (br (br ?_))))
 obtain ⟨w5,s5⟩:=w4.pp [2,1,0] 3
 exact bi.l61_P F rfl (show 0=List.length ([]:List (List Int)) from rfl) rfl ⟨w5,(s0.trans (s1.trans (s2.trans (s4.trans s5)))),(aK.step (s1.trans (s2.trans (s4.trans s5)))),(c2.step (s4.trans s5)),(f4_0.step s5)⟩ hp
def aS.Q (H0:Hp) (Ri R0:asp)  (r:asv) (v:AV) (H':Hp):Prop:=∃ o1a:ON,∃ o1n:Nat,∃ o1c:Cap,∃ o1k:List AV,v=(.agg [(.i r.1),(.sl ⟨o1a,o1n,o1c⟩)])/\o1n=(r.2).length/\Out H0 Ri H' (Rs.own ⟨o1a,o1n,o1c⟩ eI.z o1k::R0) λR=>CR eI H' R o1k (r.2)
def aS.S14 (H0:Hp) (Ri R0:asp)  (C:atJ) (pC:atC):Prop:=∀ {jm WG gQ il JT JU DI DJ eH JV JW mn JX JY},∀ {H:Hp},DI=mn.length->DJ=JX.length->(Out H0 Ri H (Rs.own ⟨JU,DJ,JW⟩ eI.z JY::Rs.blk eH [.i WG,.sl ⟨JU,DJ,JW⟩]::R0) λR=>ROs eI H R ⟨JT,DI,JV⟩ mn/\CR eI H R JY JX)->∀ {r:asv},pC jm mn gQ il=some r->Rt (C jm ⟨JT,DI,JV⟩ eH 0 gQ il H) (aS.Q H0 Ri R0  r)
def aS.S30 (H0:Hp) (Ri R0:asp)  (C:atJ) (pC:atC):Prop:=∀ {jl WH fv gP JZ J_ DK DL mQ Ka Kb mo Kc Kd},∀ {H:Hp},DK=mo.length->DL=Kc.length->(Out H0 Ri H (Rs.own ⟨J_,DL,Kb⟩ eI.z Kd::Rs.blk mQ [.i WH,.sl ⟨J_,DL,Kb⟩]::R0) λR=>ROs eI H R ⟨JZ,DK,Ka⟩ mo/\CR eI H R Kd Kc)->∀ {r:asv},pC jl mo fv gP=some r->Rt (C jl ⟨JZ,DK,Ka⟩ mQ 0 fv gP H) (aS.Q H0 Ri R0  r)
def aS.pj1 (F:Nat)  (tg:Int) (yq:asr) (lZ:Int) (nQ:Int):Option (Int×List Int):=(bif (lZ==nQ) then (some (0,([]:List Int))) else ((cutf yq lZ nQ).bind λl6=>(apn ([]:List Int) l6).bind λl8=>some ((wrap .i64 (tg+lZ)),l8)))
theorem aS.j1_P   {tg ajU lZ nQ WI WJ Ke Kf ky WK WL yq WM WN} (ajV:Ke=yq.length) (ajW:Kf=WM.length) (h0:Out H0 Ri H (Rs.own ⟨WJ,Kf,WL⟩ eI.z WN::Rs.blk ky [.i ajU,.sl ⟨WJ,Kf,WL⟩]::R0) λR=>ROs eI H R ⟨WI,Ke,WK⟩ yq/\CR eI H R WN WM) {r:asv} (hp:aS.pj1 F  tg yq lZ nQ=some r):Rt (aS.j1 F   tg ⟨WI,Ke,WK⟩ ky 0 lZ nQ H) (aS.Q H0 Ri R0  r):=by
 obtain ⟨w0,s0,ajX,arP⟩:=h0
 subst ajV
 subst ajW
 unfold aS.pj1 at hp
 unfold aS.j1
 refine aB hp (λhp=>?_) λhp=>?_
 ·refine aq w0 1 λH1 w1 s1=>?_
  refine aq w1 1 λH2 w2 s2=>?_
  refine lI w2 1 ?_
  refine lSl w2 1 ?_
  obtain ⟨w3,s3⟩:=w2.nilS eI.z (by decide)
  obtain ⟨w4,s4⟩:=w3.pp [0] 3
  exact aw hp ⟨_,_,_,_,rfl,rfl,w4,(s0.trans (s1.trans (s2.trans (s3.trans s4)))),((CR.empty:CR eI _ _ [] []).step s4)⟩
 ·refine cO eI w0 (n:=0) (l:=([]:List Int)) rfl CR.empty rfl λH5 w5 s5 c5=>?_
  obtain ⟨l6,e6,hp⟩:=ag hp
  obtain ⟨a6,d6,h6,f6⟩:=ROs.cutf (ajX.step s5) rfl e6
  refine ai h6 ?_
  obtain ⟨x7,h7,c7⟩:=f6.row rfl
  refine ai h7 ?_
  obtain ⟨l8,e8,hp⟩:=ag hp
  refine fM eI w5 (i:=0) rfl rfl c5 c7 rfl rfl e8 λa9 d9 H9 w9 s9 c9 x9=>?_
  refine aq w9 2 λH10 w10 s10=>?_
  refine aq w10 2 λH11 w11 s11=>?_
  refine lI w11 2 ?_
  refine lSl w11 2 ?_
  obtain ⟨w12,s12⟩:=w11.pp [0] 3
  exact aw hp ⟨_,_,_,_,rfl,rfl,w12,(s0.trans (s5.trans (s9.trans (s10.trans (s11.trans s12))))),(c9.step (s10.trans (s11.trans s12)))⟩
def aS.pl30 (F:Nat) :Nat->Int->List Int->Int->Int->Option (Int×List Int)
 | 0,_,_,_,_=>none
 | k+1,jl,mo,fv,gP=>(bif (decide (fv<gP)) then ((ix mo (wrap .i64 (gP - 1))).bind λn1=>(bif ((gt mo n1)==0) then (aS.pl30 F k jl mo fv (wrap .i64 (gP - 1))) else (aS.pj1 F jl mo fv gP))) else (aS.pj1 F jl mo fv gP))
theorem aS.l30_P  :∀ k,aS.S30 H0 Ri R0  (aS.l30 F   k) (aS.pl30 F  k):=by
 intro k
 induction k with
 | zero=>unfold aS.S30;intros;rename_i hp;cases hp
 | succ k ih=>
  intro jl WH fv gP JZ J_ DK DL mQ Ka Kb mo Kc Kd H ajY ajZ h0 r hp
  obtain ⟨w0,s0,DM,Kg⟩:=h0
  subst ajY
  subst ajZ
  unfold aS.pl30 at hp
  unfold aS.l30
  refine aB hp (λhp=>?_) λhp=>?_
  ·obtain ⟨n1,g1,hp⟩:=ag hp
   obtain ⟨p1,q1,i1,h1,j1⟩:=ROs.ixr DM rfl g1
   refine ai i1 ?_
   have h1:_=[_]:=h1
   subst h1
   refine ai (aG (j1 0 _ rfl)) ?_
   refine aB hp (λhp=>?_) λhp=>?_
   ·exact ih rfl rfl ⟨w0,s0,DM,Kg⟩ hp
   ·exact aS.j1_P rfl rfl ⟨w0,s0,DM,Kg⟩ hp
  ·exact aS.j1_P rfl rfl ⟨w0,s0,DM,Kg⟩ hp
def aS.pj2 (F:Nat)  (ti:Int) (yr:asr) (tj:Int) (tl:Int):Option (Int×List Int):=aS.pl30 F F ti yr tj tl
theorem aS.j2_P   {ti aj0 tj tl WO WP Kh Ki AR WQ WR yr WS WT} (aj1:Kh=yr.length) (aj2:Ki=WS.length) (h0:Out H0 Ri H (Rs.own ⟨WP,Ki,WR⟩ eI.z WT::Rs.blk AR [.i aj0,.sl ⟨WP,Ki,WR⟩]::R0) λR=>ROs eI H R ⟨WO,Kh,WQ⟩ yr/\CR eI H R WT WS) {r:asv} (hp:aS.pj2 F  ti yr tj tl=some r):Rt (aS.j2 F   ti ⟨WO,Kh,WQ⟩ AR 0 tj tl H) (aS.Q H0 Ri R0  r):=by
 obtain ⟨w0,s0,aj3,aj4⟩:=h0
 subst aj1
 subst aj2
 unfold aS.pj2 at hp
 unfold aS.j2
 exact aS.l30_P F rfl rfl ⟨w0,s0,aj3,aj4⟩ hp
def aS.pl14 (F:Nat) :Nat->Int->List Int->Int->Int->Option (Int×List Int)
 | 0,_,_,_,_=>none
 | k+1,jm,mn,gQ,il=>(bif (decide (gQ<il)) then ((ix mn gQ).bind λn1=>(bif ((gt mn n1)==0) then (aS.pl14 F k jm mn (wrap .i64 (gQ+1)) il) else (aS.pj2 F jm mn gQ il))) else (aS.pj2 F jm mn gQ il))
theorem aS.l14_P  :∀ k,aS.S14 H0 Ri R0  (aS.l14 F   k) (aS.pl14 F  k):=by
 intro k
 induction k with
 | zero=>unfold aS.S14;intros;rename_i hp;cases hp
 | succ k ih=>
  intro jm WG gQ il JT JU DI DJ eH JV JW mn JX JY H aj5 aj6 h0 r hp
  obtain ⟨w0,s0,DN,Kj⟩:=h0
  subst aj5
  subst aj6
  unfold aS.pl14 at hp
  unfold aS.l14
  refine aB hp (λhp=>?_) λhp=>?_
  ·obtain ⟨n1,g1,hp⟩:=ag hp
   obtain ⟨p1,q1,i1,h1,j1⟩:=ROs.ixr DN rfl g1
   refine ai i1 ?_
   have h1:_=[_]:=h1
   subst h1
   refine ai (aG (j1 0 _ rfl)) ?_
   refine aB hp (λhp=>?_) λhp=>?_
   ·exact ih rfl rfl ⟨w0,s0,DN,Kj⟩ hp
   ·exact aS.j2_P rfl rfl ⟨w0,s0,DN,Kj⟩ hp
  ·exact aS.j2_P rfl rfl ⟨w0,s0,DN,Kj⟩ hp
def aS.p (F:Nat) (aa:Int) (fL:asr):Option (Int×List Int):=aS.pl14 F F aa fL 0 (fL.length:Int)
theorem aS.P {aa oS lK oT fL} (yt:lK=fL.length) (h0:Inn H R0 λR=>ROs eI H R ⟨oS,lK,oT⟩ fL) {r:asv} (hp:aS.p F aa fL=some r):Rt (aS.tw F aa ⟨oS,lK,oT⟩ H) (aS.Q H R0 R0  r):=by
 obtain ⟨w0,yu⟩:=h0
 subst yt
 unfold aS.p at hp
 unfold aS.tw aS.twX
 have s0:=w0.rf
 refine aR w0 λH1 w1 s1=>?_
 obtain ⟨w2,s2⟩:=w1.nilS eI.z (by decide)
 exact aS.l14_P F rfl rfl ⟨w2,(s0.trans (s1.trans s2)),(yu.step (s1.trans s2)),(CR.empty:CR eI _ _ [] [])⟩ hp
def aJ.Q (H0:Hp) (Ri R0:asp)  (r:asv) (v:AV) (H':Hp):Prop:=∃ o1a:ON,∃ o1n:Nat,∃ o1c:Cap,∃ o1k:List AV,v=(.agg [(.i r.1),(.sl ⟨o1a,o1n,o1c⟩)])/\o1n=(r.2).length/\Out H0 Ri H' (Rs.own ⟨o1a,o1n,o1c⟩ eI.z o1k::R0) λR=>CR eI H' R o1k (r.2)
def aJ.S509 (H0:Hp) (Ri R0:asp)  (C:Nat->Nat->Nat->Nat->Nat->Nat->Int->Sl->Int->Hp->OA) (pC:Int->List Int->Int->List Int->Int->List Int->Int->Option (Int×List Int)):Prop:=∀ {qI vU WU ip gR Kk Kl Km Ko DO ma DP nT DQ nU DR Kp Kq Ks Kt nq qJ Ku mp Kv Kw},∀ {H:Hp},DO=nq.length->DP=qJ.length->DQ=Ku.length->DR=mp.length->(Out H0 Ri H (Rs.blk ma [.i qI,.sl ⟨Kk,DO,Kp⟩]::Rs.blk nT [.i vU,.sl ⟨Kl,DP,Kq⟩]::Rs.own ⟨Km,DQ,Ks⟩ eI.z Kv::Rs.blk nU [.i WU,.sl ⟨Km,DQ,Ks⟩]::Rs.own ⟨Ko,DR,Kt⟩ eI.z Kw::R0) λR=>ROs eI H R ⟨Kk,DO,Kp⟩ nq/\ROs eI H R ⟨Kl,DP,Kq⟩ qJ/\CR eI H R Kv Ku/\CR eI H R Kw mp)->∀ {r:asv},pC qI nq vU qJ ip mp gR=some r->Rt (C ma 0 nT 0 nU 0 ip ⟨Ko,DR,Kt⟩ gR H) (aJ.Q H0 Ri R0  r)
def aJ.S1021 (H0:Hp) (Ri R0:asp)  (C:Nat->Nat->Nat->Nat->Int->Sl->Int->Hp->OA) (pC:Int->List Int->Int->List Int->Int->Option (Int×List Int)):Prop:=∀ {qK WV im dd Ky Kz KA DS l_ DT nS DU KB KC KD nr KE mq KF KG},∀ {H:Hp},DS=nr.length->DT=KE.length->DU=mq.length->(Out H0 Ri H (Rs.blk l_ [.i qK,.sl ⟨Ky,DS,KB⟩]::Rs.own ⟨Kz,DT,KC⟩ eI.z KF::Rs.blk nS [.i WV,.sl ⟨Kz,DT,KC⟩]::Rs.own ⟨KA,DU,KD⟩ eI.z KG::R0) λR=>ROs eI H R ⟨Ky,DS,KB⟩ nr/\CR eI H R KF KE/\CR eI H R KG mq)->∀ {r:asv},pC qK nr im mq dd=some r->Rt (C l_ 0 nS 0 im ⟨KA,DU,KD⟩ dd H) (aJ.Q H0 Ri R0  r)
def aJ.pj1 (F:Nat)  (jn:Int) (yv:asr):Option (Int×List Int):=(aS.p F jn yv).bind λr3=>some (r3.1,r3.2)
theorem aJ.j1_P   {aj7 jn WW WX KH pK KI WY WZ W_ yv Xa Xb} (aj8:KH=W_.length) (aj9:KI=yv.length) (h0:Out H0 Ri H (Rs.own ⟨WW,KH,WY⟩ eI.z Xa::Rs.blk pK [.i aj7,.sl ⟨WW,KH,WY⟩]::Rs.own ⟨WX,KI,WZ⟩ eI.z Xb::R0) λR=>CR eI H R Xa W_/\CR eI H R Xb yv) {r:asv} (hp:aJ.pj1 F  jn yv=some r):Rt (aJ.j1 F (aS.tw F)  pK 0 jn ⟨WX,KI,WZ⟩ H) (aJ.Q H0 Ri R0  r):=by
 obtain ⟨w0,s0,arQ,aj_⟩:=h0
 subst aj8
 subst aj9
 unfold aJ.pj1 at hp
 unfold aJ.j1
 obtain ⟨w1,s1⟩:=w0.pp [2,0,1] 3
 have f2:=W.borrow1 eI w1 (aj_.step s1)
 obtain ⟨w2,s2⟩:=w1.right1
 obtain ⟨r3,e3,hp⟩:=ag hp
 refine aE (aS.P rfl ⟨w2,f2⟩ e3) ?_
 rintro _ H4 ⟨o1a_4,o1n_4,o1c_4,o1k_4,rfl,rfl,w4,s4,f4_0⟩
 obtain ⟨w5,s5⟩:=W.frame1 w1 w4 s4
 refine br (br (br (br (br ?_))))
 refine aq w5 3 λH6 w6 s6=>?_
 refine aq w6 3 λH7 w7 s7=>?_
 refine lI w7 3 ?_
 refine lSl w7 3 ?_
 obtain ⟨w8,s8⟩:=w7.pp [1] 4
 exact aw hp ⟨_,_,_,_,rfl,rfl,w8,(s0.trans (s1.trans (s5.trans (s6.trans (s7.trans s8))))),((CR.flat (eA .i64) f4_0).step (s6.trans (s7.trans s8)))⟩
def aJ.pl1021 (F:Nat) :Nat->Int->List Int->Int->List Int->Int->Option (Int×List Int)
 | 0,_,_,_,_,_=>none
 | k+1,qK,nr,im,mq,dd=>(bif (decide (dd<(nr.length:Int))) then ((ix mq (wrap .i64 ((wrap .i64 (qK - im))+dd))).bind λn1=>(ix nr dd).bind λn2=>(ix mq (wrap .i64 ((wrap .i64 (qK - im))+dd))).bind λn3=>(some (mq.set n3 (wrap .i64 ((gt mq n1)+(gt nr n2))))).bind λl4=>aJ.pl1021 F k qK nr im l4 (wrap .i64 (dd+1))) else (aJ.pj1 F im mq))
theorem aJ.l1021_P  :∀ k,aJ.S1021 H0 Ri R0  (aJ.l1021 F (aS.tw F)  k) (aJ.pl1021 F  k):=by
 intro k
 induction k with
 | zero=>unfold aJ.S1021;intros;rename_i hp;cases hp
 | succ k ih=>
  intro qK WV im dd Ky Kz KA DS l_ DT nS DU KB KC KD nr KE mq KF KG H aka akb akc h0 r hp
  obtain ⟨w0,s0,Xc,Xd,DV⟩:=h0
  subst aka
  subst akb
  subst akc
  unfold aJ.pl1021 at hp
  unfold aJ.l1021
  refine lSl w0 0 ?_
  refine aB hp (λhp=>?_) λhp=>?_
  ·refine lI w0 0 ?_
   obtain ⟨n1,g1,hp⟩:=ag hp
   obtain ⟨p1,q1,i1,h1,j1⟩:=W.ixo (E:=eI) w0 (i:=3) rfl rfl DV g1
   refine ai i1 ?_
   have h1:_=[_]:=h1
   subst h1
   refine ai (aG (j1 0 _ rfl)) ?_
   refine lSl w0 0 ?_
   obtain ⟨n2,g2,hp⟩:=ag hp
   obtain ⟨p2,q2,i2,h2,j2⟩:=ROs.ixr Xc rfl g2
   refine ai i2 ?_
   have h2:_=[_]:=h2
   subst h2
   refine ai (aG (j2 0 _ rfl)) ?_
   obtain ⟨n3,g3,hp⟩:=ag hp
   obtain ⟨p3,q3,i3,h3,j3⟩:=W.ixo (E:=eI) w0 (i:=3) rfl rfl DV g3
   refine ai i3 ?_
   obtain ⟨l4,e4,hp⟩:=ag hp
   refine de eI w0 (i:=3) (j:=0) (p:=p3) rfl rfl DV g3 i3 e4 rfl rfl (λ_ h=>by have h:_=[_]:=h;subst h;exact rfl) λH5 k5 w5 s5 c5=>?_
   exact ih rfl rfl ((cj e4).symm) ⟨w5,(s0.trans s5),(Xc.step s5),(Xd.step s5),c5⟩ hp
  ·obtain ⟨w6,s6⟩:=w0.pp [1,2,3] 4
   exact aJ.j1_P rfl rfl ⟨w6,(s0.trans s6),(Xd.step s6),(DV.step s6)⟩ hp
def aJ.pj2 (F:Nat)  (DW:Int) (yw:asr) (tt:Int) (yx:asr):Option (Int×List Int):=aJ.pl1021 F F DW yw tt yx 0
theorem aJ.j2_P   {DW akd tt Xe Xf Xg KJ AU KK AW KL Xh Xi Xj yw Xk yx Xl Xm} (ake:KJ=yw.length) (akf:KK=Xk.length) (akg:KL=yx.length) (h0:Out H0 Ri H (Rs.blk AU [.i DW,.sl ⟨Xe,KJ,Xh⟩]::Rs.own ⟨Xf,KK,Xi⟩ eI.z Xl::Rs.blk AW [.i akd,.sl ⟨Xf,KK,Xi⟩]::Rs.own ⟨Xg,KL,Xj⟩ eI.z Xm::R0) λR=>ROs eI H R ⟨Xe,KJ,Xh⟩ yw/\CR eI H R Xl Xk/\CR eI H R Xm yx) {r:asv} (hp:aJ.pj2 F  DW yw tt yx=some r):Rt (aJ.j2 F (aS.tw F)  AU 0 AW 0 tt ⟨Xg,KL,Xj⟩ H) (aJ.Q H0 Ri R0  r):=by
 obtain ⟨w0,s0,akh,aki,akj⟩:=h0
 subst ake
 subst akf
 subst akg
 unfold aJ.pj2 at hp
 unfold aJ.j2
 exact aJ.l1021_P F rfl rfl rfl ⟨w0,s0,akh,aki,akj⟩ hp
def aJ.pl509 (F:Nat) :Nat->Int->List Int->Int->List Int->Int->List Int->Int->Option (Int×List Int)
 | 0,_,_,_,_,_,_,_=>none
 | k+1,qI,nq,vU,qJ,ip,mp,gR=>(bif (decide (gR<(nq.length:Int))) then ((ix mp (wrap .i64 ((wrap .i64 (qI - ip))+gR))).bind λn1=>(ix nq gR).bind λn2=>(ix mp (wrap .i64 ((wrap .i64 (qI - ip))+gR))).bind λn3=>(some (mp.set n3 (wrap .i64 ((gt mp n1)+(gt nq n2))))).bind λl4=>aJ.pl509 F k qI nq vU qJ ip l4 (wrap .i64 (gR+1))) else (aJ.pj2 F vU qJ ip mp))
theorem aJ.l509_P  :∀ k,aJ.S509 H0 Ri R0  (aJ.l509 F (aS.tw F)  k) (aJ.pl509 F  k):=by
 intro k
 induction k with
 | zero=>unfold aJ.S509;intros;rename_i hp;cases hp
 | succ k ih=>
  intro qI vU WU ip gR Kk Kl Km Ko DO ma DP nT DQ nU DR Kp Kq Ks Kt nq qJ Ku mp Kv Kw H akk akl akm akn h0 r hp
  obtain ⟨w0,s0,Xn,Xo,Xp,DX⟩:=h0
  subst akk
  subst akl
  subst akm
  subst akn
  unfold aJ.pl509 at hp
  unfold aJ.l509
  refine lSl w0 0 ?_
  refine aB hp (λhp=>?_) λhp=>?_
  ·refine lI w0 0 ?_
   obtain ⟨n1,g1,hp⟩:=ag hp
   obtain ⟨p1,q1,i1,h1,j1⟩:=W.ixo (E:=eI) w0 (i:=4) rfl rfl DX g1
   refine ai i1 ?_
   have h1:_=[_]:=h1
   subst h1
   refine ai (aG (j1 0 _ rfl)) ?_
   refine lSl w0 0 ?_
   obtain ⟨n2,g2,hp⟩:=ag hp
   obtain ⟨p2,q2,i2,h2,j2⟩:=ROs.ixr Xn rfl g2
   refine ai i2 ?_
   have h2:_=[_]:=h2
   subst h2
   refine ai (aG (j2 0 _ rfl)) ?_
   obtain ⟨n3,g3,hp⟩:=ag hp
   obtain ⟨p3,q3,i3,h3,j3⟩:=W.ixo (E:=eI) w0 (i:=4) rfl rfl DX g3
   refine ai i3 ?_
   obtain ⟨l4,e4,hp⟩:=ag hp
   refine de eI w0 (i:=4) (j:=0) (p:=p3) rfl rfl DX g3 i3 e4 rfl rfl (λ_ h=>by have h:_=[_]:=h;subst h;exact rfl) λH5 k5 w5 s5 c5=>?_
   exact ih rfl rfl rfl ((cj e4).symm) ⟨w5,(s0.trans s5),(Xn.step s5),(Xo.step s5),(Xp.step s5),c5⟩ hp
  ·obtain ⟨w6,s6⟩:=w0.pp [1,2,3,4] 5
   exact aJ.j2_P rfl rfl rfl ⟨w6,(s0.trans s6),(Xo.step s6),(Xp.step s6),(DX.step s6)⟩ hp
def aJ.p (F:Nat) (aa:Int) (aF:asr) (ar:Int) (bl:asr):Option (Int×List Int):=(bif ((aF.length:Int)==0) then ((aS.p F ar bl).bind λr4=>some (r4.1,r4.2)) else ((bif ((bl.length:Int)==0) then ((aS.p F aa aF).bind λr9=>some (r9.1,r9.2)) else ((mkn (wrap .i64 ((if (wrap .i64 (ar+(bl.length:Int)))>(wrap .i64 (aa+(aF.length:Int))) then (wrap .i64 (ar+(bl.length:Int))) else (wrap .i64 (aa+(aF.length:Int)))) - (if ar<aa then ar else aa))) (0:Int)).bind λl14=>aJ.pl509 F F aa aF ar bl (if ar<aa then ar else aa) l14 0))))
theorem aJ.P {aa ar bV dW bq c_ bW dX aF bl} (dk:bq=aF.length) (gk:c_=bl.length) (h0:Inn H R0 λR=>ROs eI H R ⟨bV,bq,bW⟩ aF/\ROs eI H R ⟨dW,c_,dX⟩ bl) {r:asv} (hp:aJ.p F aa aF ar bl=some r):Rt (aJ.tw F aa ⟨bV,bq,bW⟩ ar ⟨dW,c_,dX⟩ H) (aJ.Q H R0 R0  r):=by
 obtain ⟨w0,cF,eW⟩:=h0
 subst dk
 subst gk
 unfold aJ.p at hp
 unfold aJ.tw aJ.twX
 have s0:=w0.rf
 refine aR w0 λH1 w1 s1=>?_
 refine aR w1 λH2 w2 s2=>?_
 refine aR w2 λH3 w3 s3=>?_
 refine lSl w3 2 ?_
 refine aB hp (λhp=>?_) λhp=>?_
 ·refine lI w3 1 ?_
  refine lSl w3 1 ?_
  obtain ⟨r4,e4,hp⟩:=ag hp
  refine aE (aS.P rfl ⟨w3,(eW.step (s1.trans (s2.trans s3)))⟩ e4) ?_
  rintro _ H5 ⟨o1a_5,o1n_5,o1c_5,o1k_5,rfl,rfl,w5,s5,f5_0⟩
  refine br (br (br (br (br ?_))))
  refine aq w5 1 λH6 w6 s6=>?_
  refine aq w6 1 λH7 w7 s7=>?_
  refine lI w7 1 ?_
  refine lSl w7 1 ?_
  obtain ⟨w8,s8⟩:=w7.pp [0] 4
  exact aw hp ⟨_,_,_,_,rfl,rfl,w8,(s0.trans (s1.trans (s2.trans (s3.trans (s5.trans (s6.trans (s7.trans s8))))))),(f5_0.step (s6.trans (s7.trans s8)))⟩
 ·refine lSl w3 1 ?_
  refine aB hp (λhp=>?_) λhp=>?_
  ·refine lI w3 2 ?_
   refine lSl w3 2 ?_
   obtain ⟨r9,e9,hp⟩:=ag hp
   refine aE (aS.P rfl ⟨w3,(cF.step (s1.trans (s2.trans s3)))⟩ e9) ?_
   rintro _ H10 ⟨o1a_10,o1n_10,o1c_10,o1k_10,rfl,rfl,w10,s10,f10_0⟩
   refine br (br (br (br (br ?_))))
   refine aq w10 1 λH11 w11 s11=>?_
   refine aq w11 1 λH12 w12 s12=>?_
   refine lI w12 1 ?_
   refine lSl w12 1 ?_
   obtain ⟨w13,s13⟩:=w12.pp [0] 4
   exact aw hp ⟨_,_,_,_,rfl,rfl,w13,(s0.trans (s1.trans (s2.trans (s3.trans (s10.trans (s11.trans (s12.trans s13))))))),(f10_0.step (s11.trans (s12.trans s13)))⟩
  ·refine lI w3 2 ?_
   refine lI w3 1 ?_
   refine lI w3 2 ?_
   refine lSl w3 2 ?_
   refine lI w3 1 ?_
   refine lSl w3 1 ?_
   obtain ⟨l14,e14,hp⟩:=ag hp
   refine kj eI (0:Int) w3 rfl rfl rfl e14 λH15 k15 w15 s15 c15=>?_
   obtain ⟨w16,s16⟩:=w15.nilS eI.z (by decide)
   obtain ⟨w17,s17⟩:=w16.pp [4,3,0,2,1] 5
   exact aJ.l509_P F rfl rfl rfl rfl ⟨w17,(s0.trans (s1.trans (s2.trans (s3.trans (s15.trans (s16.trans s17)))))),(cF.step (s1.trans (s2.trans (s3.trans (s15.trans (s16.trans s17)))))),(eW.step (s1.trans (s2.trans (s3.trans (s15.trans (s16.trans s17)))))),((CR.empty:CR eI _ _ [] []).step s17),(c15.step (s16.trans s17))⟩ hp
def aU.Q (H0:Hp) (Ri R0:asp)  (r:asv) (v:AV) (H':Hp):Prop:=∃ o1a:ON,∃ o1n:Nat,∃ o1c:Cap,∃ o1k:List AV,v=(.agg [(.i r.1),(.sl ⟨o1a,o1n,o1c⟩)])/\o1n=(r.2).length/\Out H0 Ri H' (Rs.own ⟨o1a,o1n,o1c⟩ eI.z o1k::R0) λR=>CR eI H' R o1k (r.2)
def aU.S61 (H0:Hp) (Ri R0:asp)  (C:as8) (pC:atd):Prop:=∀ {KM KN KO DY DZ jX D_ jb KP KQ KR mr KS oU cA Xq qL jp iq KT KU},∀ {H:Hp},DY=mr.length->DZ=KS.length->D_=oU.length->(Out H0 Ri H (Rs.own ⟨KN,DZ,KQ⟩ eI.z KT::Rs.blk jX [.i Xq,.sl ⟨KN,DZ,KQ⟩]::Rs.own ⟨KO,D_,KR⟩ eI.z KU::Rs.blk jb [.i qL,.sl ⟨KO,D_,KR⟩]::R0) λR=>ROs eI H R ⟨KM,DY,KP⟩ mr/\CR eI H R KT KS/\CR eI H R KU oU)->∀ {r:asv},pC mr cA qL oU jp iq=some r->Rt (C ⟨KM,DY,KP⟩ cA jX 0 jb 0 jp iq H) (aU.Q H0 Ri R0  r)
def aU.pj4 (F:Nat) (ay:atd) (yy:asr) (tz:Int) (Ea:Int) (yz:asr) (nW:Int) (jo:Int):Option (Int×List Int):=ay yy tz Ea yz nW (wrap .i64 (jo+1))
theorem aU.j4_P  {C61_:as8} {ay:atd} (hC61:aU.S61 H0 Ri R0  C61_ ay) {Xr Xs Xt KV KW A_ KX kv Xu Xv Xw yy Xx yz tz ako Ea nW jo Xy Xz} (akp:KV=yy.length) (akq:KW=Xx.length) (akr:KX=yz.length) (h0:Out H0 Ri H (Rs.own ⟨Xs,KW,Xv⟩ eI.z Xy::Rs.blk A_ [.i ako,.sl ⟨Xs,KW,Xv⟩]::Rs.own ⟨Xt,KX,Xw⟩ eI.z Xz::Rs.blk kv [.i Ea,.sl ⟨Xt,KX,Xw⟩]::R0) λR=>ROs eI H R ⟨Xr,KV,Xu⟩ yy/\CR eI H R Xy Xx/\CR eI H R Xz yz) {r:asv} (hp:aU.pj4 F ay yy tz Ea yz nW jo=some r):Rt (aU.j4 F (aJ.tw F) C61_ ⟨Xr,KV,Xu⟩ tz A_ 0 kv 0 nW jo H) (aU.Q H0 Ri R0  r):=by
 obtain ⟨w0,s0,aks,akt,aku⟩:=h0
 subst akp
 subst akq
 subst akr
 unfold aU.pj4 at hp
 unfold aU.j4
 exact hC61 rfl rfl rfl ⟨w0,s0,aks,akt,aku⟩ hp
def aU.pj5 (F:Nat) (ay:atd) (oV:asr) (ia:Int) (yA:Int) (vV:asr) (nX:Int) (mb:Int):Option (Int×List Int):=(ix oV mb).bind λn1=>(bif (decide ((gt oV n1)>0)) then (aU.pj4 F ay oV ia yA vV (wrap .i64 (nX+1)) mb) else (aU.pj4 F ay oV ia yA vV (wrap .i64 (nX - 1)) mb))
theorem aU.j5_P  {C61_:as8} {ay:atd} (hC61:aU.S61 H0 Ri R0  C61_ ay) {XA XB XC KY KZ w_ K_ xa XD XE XF oV XG vV ia akv yA nX mb XH XI} (akw:KY=oV.length) (akx:KZ=XG.length) (aky:K_=vV.length) (h0:Out H0 Ri H (Rs.own ⟨XB,KZ,XE⟩ eI.z XH::Rs.blk w_ [.i akv,.sl ⟨XB,KZ,XE⟩]::Rs.own ⟨XC,K_,XF⟩ eI.z XI::Rs.blk xa [.i yA,.sl ⟨XC,K_,XF⟩]::R0) λR=>ROs eI H R ⟨XA,KY,XD⟩ oV/\CR eI H R XH XG/\CR eI H R XI vV) {r:asv} (hp:aU.pj5 F ay oV ia yA vV nX mb=some r):Rt (aU.j5 F (aJ.tw F) C61_ ⟨XA,KY,XD⟩ ia w_ 0 xa 0 nX mb H) (aU.Q H0 Ri R0  r):=by
 obtain ⟨w0,s0,La,XJ,XK⟩:=h0
 subst akw
 subst akx
 subst aky
 unfold aU.pj5 at hp
 unfold aU.j5
 obtain ⟨n1,g1,hp⟩:=ag hp
 obtain ⟨p1,q1,i1,h1,j1⟩:=ROs.ixr La rfl g1
 refine ai i1 ?_
 have h1:_=[_]:=h1
 subst h1
 refine ai (aG (j1 0 _ rfl)) ?_
 refine aB hp (λhp=>?_) λhp=>?_
 ·exact aU.j4_P (@hC61) rfl rfl rfl ⟨w0,s0,La,XJ,XK⟩ hp
 ·exact aU.j4_P (@hC61) rfl rfl rfl ⟨w0,s0,La,XJ,XK⟩ hp
def aU.pj6 (F:Nat) (ay:atd) (oW:asr) (fE:Int) (yB:Int) (vW:asr) (gO:Int) (mc:Int):Option (Int×List Int):=(ix oW mc).bind λn1=>(bif ((gt oW n1)==(wrap .i64 (0 - fE))) then ((aJ.p F yB vW (wrap .i64 (gO - 1)) ([(-1)]:List Int)).bind λr6=>aU.pj5 F ay oW fE r6.1 r6.2 gO mc) else (aU.pj5 F ay oW fE yB vW gO mc))
theorem aU.j6_P  {C61_:as8} {ay:atd} (hC61:aU.S61 H0 Ri R0  C61_ ay) {XL XM XN Lb Lc xb Ld mR XO XP XQ oW XR vW fE akz yB gO mc XS XT} (akA:Lb=oW.length) (akB:Lc=XR.length) (akC:Ld=vW.length) (h0:Out H0 Ri H (Rs.own ⟨XM,Lc,XP⟩ eI.z XS::Rs.blk xb [.i akz,.sl ⟨XM,Lc,XP⟩]::Rs.own ⟨XN,Ld,XQ⟩ eI.z XT::Rs.blk mR [.i yB,.sl ⟨XN,Ld,XQ⟩]::R0) λR=>ROs eI H R ⟨XL,Lb,XO⟩ oW/\CR eI H R XS XR/\CR eI H R XT vW) {r:asv} (hp:aU.pj6 F ay oW fE yB vW gO mc=some r):Rt (aU.j6 F (aJ.tw F) C61_ ⟨XL,Lb,XO⟩ fE xb 0 mR 0 gO mc H) (aU.Q H0 Ri R0  r):=by
 obtain ⟨w0,s0,Le,XU,XV⟩:=h0
 subst akA
 subst akB
 subst akC
 unfold aU.pj6 at hp
 unfold aU.j6
 obtain ⟨n1,g1,hp⟩:=ag hp
 obtain ⟨p1,q1,i1,h1,j1⟩:=ROs.ixr Le rfl g1
 refine ai i1 ?_
 have h1:_=[_]:=h1
 subst h1
 refine ai (aG (j1 0 _ rfl)) ?_
 refine aB hp (λhp=>?_) λhp=>?_
 ·refine lI w0 3 ?_
  refine lSl w0 3 ?_
  refine cO eI w0 (n:=1) (l:=([(-1)]:List Int)) rfl (CR.cons1 rfl CR.empty) rfl λH2 w2 s2 c2=>?_
  obtain ⟨w3,s3⟩:=w2.pp [3,0,1,2,4] 5
  have f4:=W.borrow1 eI w3 (XV.step (s2.trans s3))
  obtain ⟨w4,s4⟩:=w3.right1
  have f5:=W.borrow1 eI w4 ((c2.step s3).step s4)
  obtain ⟨w5,s5⟩:=w4.right1
  obtain ⟨r6,e6,hp⟩:=ag hp
  refine aE (aJ.P rfl (show 1=List.length ([(-1)]:List Int) from rfl) ⟨w5,(f4.step s5),f5⟩ e6) ?_
  rintro _ H7 ⟨o1a_7,o1n_7,o1c_7,o1k_7,rfl,rfl,w7,s7,f7_0⟩
  obtain ⟨w8,s8⟩:=W.frame1 w4 w7 s7
  obtain ⟨w9,s9⟩:=W.frame1 w3 w8 s8
  refine br (br (br (br (br ?_))))
  refine aq w9 5 λH10 w10 s10=>?_
  refine aq w10 5 λH11 w11 s11=>?_
  obtain ⟨w12,s12⟩:=w11.pp [3,4,2,5] 6
  exact aU.j5_P (@hC61) rfl rfl rfl ⟨w12,(s0.trans (s2.trans (s3.trans (s9.trans (s10.trans (s11.trans s12)))))),(Le.step (s2.trans (s3.trans (s9.trans (s10.trans (s11.trans s12)))))),(XU.step (s2.trans (s3.trans (s9.trans (s10.trans (s11.trans s12)))))),((CR.flat (eA .i64) f7_0).step (s10.trans (s11.trans s12)))⟩ hp
 ·exact aU.j5_P (@hC61) rfl rfl rfl ⟨w0,s0,Le,XU,XV⟩ hp
def aU.pl61 (F:Nat) :Nat->List Int->Int->Int->List Int->Int->Int->Option (Int×List Int)
 | 0,_,_,_,_,_,_=>none
 | k+1,mr,cA,qL,oU,jp,iq=>(bif (decide (iq<(mr.length:Int))) then ((ix mr iq).bind λn1=>(bif ((gt mr n1)==cA) then ((aJ.p F qL oU jp ([1]:List Int)).bind λr6=>aU.pj6 F (aU.pl61 F k) mr cA r6.1 r6.2 jp iq) else (aU.pj6 F (aU.pl61 F k) mr cA qL oU jp iq))) else (some (qL,oU)))
theorem aU.l61_P  :∀ k,aU.S61 H0 Ri R0  (aU.l61 F (aJ.tw F)  k) (aU.pl61 F  k):=by
 intro k
 induction k with
 | zero=>unfold aU.S61;intros;rename_i hp;cases hp
 | succ k ih=>
  intro KM KN KO DY DZ jX D_ jb KP KQ KR mr KS oU cA Xq qL jp iq KT KU H akD akE akF h0 r hp
  obtain ⟨w0,s0,Lf,XW,Lg⟩:=h0
  subst akD
  subst akE
  subst akF
  unfold aU.pl61 at hp
  unfold aU.l61
  refine aB hp (λhp=>?_) λhp=>?_
  ·obtain ⟨n1,g1,hp⟩:=ag hp
   obtain ⟨p1,q1,i1,h1,j1⟩:=ROs.ixr Lf rfl g1
   refine ai i1 ?_
   have h1:_=[_]:=h1
   subst h1
   refine ai (aG (j1 0 _ rfl)) ?_
   refine aB hp (λhp=>?_) λhp=>?_
   ·refine lI w0 3 ?_
    refine lSl w0 3 ?_
    refine cO eI w0 (n:=1) (l:=([1]:List Int)) rfl (CR.cons1 rfl CR.empty) rfl λH2 w2 s2 c2=>?_
    obtain ⟨w3,s3⟩:=w2.pp [3,0,1,2,4] 5
    have f4:=W.borrow1 eI w3 (Lg.step (s2.trans s3))
    obtain ⟨w4,s4⟩:=w3.right1
    have f5:=W.borrow1 eI w4 ((c2.step s3).step s4)
    obtain ⟨w5,s5⟩:=w4.right1
    obtain ⟨r6,e6,hp⟩:=ag hp
    refine aE (aJ.P rfl (show 1=List.length ([1]:List Int) from rfl) ⟨w5,(f4.step s5),f5⟩ e6) ?_
    rintro _ H7 ⟨o1a_7,o1n_7,o1c_7,o1k_7,rfl,rfl,w7,s7,f7_0⟩
    obtain ⟨w8,s8⟩:=W.frame1 w4 w7 s7
    obtain ⟨w9,s9⟩:=W.frame1 w3 w8 s8
    refine br (br (br (br (br ?_))))
    refine aq w9 5 λH10 w10 s10=>?_
    refine aq w10 5 λH11 w11 s11=>?_
    obtain ⟨w12,s12⟩:=w11.pp [3,4,2,5] 6
    exact aU.j6_P (@ih) rfl rfl rfl ⟨w12,(s0.trans (s2.trans (s3.trans (s9.trans (s10.trans (s11.trans s12)))))),(Lf.step (s2.trans (s3.trans (s9.trans (s10.trans (s11.trans s12)))))),(XW.step (s2.trans (s3.trans (s9.trans (s10.trans (s11.trans s12)))))),((CR.flat (eA .i64) f7_0).step (s10.trans (s11.trans s12)))⟩ hp
   ·exact aU.j6_P (@ih) rfl rfl rfl ⟨w0,s0,Lf,XW,Lg⟩ hp
  ·refine lI w0 3 ?_
   refine lSl w0 3 ?_
   refine aq w0 1 λH13 w13 s13=>?_
   refine aq w13 1 λH14 w14 s14=>?_
   refine lI w14 1 ?_
   refine lSl w14 1 ?_
   obtain ⟨w15,s15⟩:=w14.pp [2] 4
   exact aw hp ⟨_,_,_,_,rfl,rfl,w15,(s0.trans (s13.trans (s14.trans s15))),(Lg.step (s13.trans (s14.trans s15)))⟩
def aU.p (F:Nat) (ah:asr) (au:Int):Option (Int×List Int):=aU.pl61 F F ah au 0 ([]:List Int) 0 0
theorem aU.P {az aj aA ah au} (aT:aj=ah.length) (h0:Inn H R0 λR=>ROs eI H R ⟨az,aj,aA⟩ ah) {r:asv} (hp:aU.p F ah au=some r):Rt (aU.tw F ⟨az,aj,aA⟩ au H) (aU.Q H R0 R0  r):=by
 obtain ⟨w0,aK⟩:=h0
 subst aT
 unfold aU.p at hp
 unfold aU.tw aU.twX
 have s0:=w0.rf
 refine aR w0 λH1 w1 s1=>?_
 refine aR w1 λH2 w2 s2=>?_
 refine aq w2 0 λH3 w3 s3=>?_
 refine aq w3 0 λH4 w4 s4=>?_
 obtain ⟨w5,s5⟩:=w4.nilS eI.z (by decide)
 obtain ⟨w6,s6⟩:=w5.nilS eI.z (by decide)
 obtain ⟨w7,s7⟩:=w6.pp [1,3,0,2] 4
 exact aU.l61_P F rfl rfl rfl ⟨w7,(s0.trans (s1.trans (s2.trans (s3.trans (s4.trans (s5.trans (s6.trans s7))))))),(aK.step (s1.trans (s2.trans (s3.trans (s4.trans (s5.trans (s6.trans s7))))))),((CR.empty:CR eI _ _ [] []).step (s6.trans s7)),((CR.empty:CR eI _ _ [] []).step s7)⟩ hp
def a_.Q (H0:Hp) (Ri R0:asp)  (r:(List ((List (Int×List Int))))) (v:AV) (H':Hp):Prop:=∃ o0a:ON,∃ o0n:Nat,∃ o0c:Cap,∃ o0k:List AV,v=(.sl ⟨o0a,o0n,o0c⟩)/\o0n=(r).length/\Out H0 Ri H' (Rs.own ⟨o0a,o0n,o0c⟩ (eSl (ac eI (eSl eI))).z o0k::R0) λR=>CR (eSl (ac eI (eSl eI))) H' R o0k (r)
def a_.S125 (H0:Hp) (Ri R0:asp)  (C:asT) (pC:ate):Prop:=∀ {Lh Li Eb Ec Lj Lk qM Ll Lm mS kz qN},∀ {H:Hp},Eb=qM.length->Ec=qN.length->(Out H0 Ri H (Rs.own ⟨Lh,Eb,Lj⟩ (eSl (ac eI (eSl eI))).z Ll::Rs.own ⟨Li,Ec,Lk⟩ (eSl eI).z Lm::R0) λR=>CR (eSl (ac eI (eSl eI))) H R Ll qM/\CR (eSl eI) H R Lm qN)->∀ {r:(List ((List (Int×List Int))))},pC qM mS qN kz=some r->Rt (C ⟨Lh,Eb,Lj⟩ mS ⟨Li,Ec,Lk⟩ kz H) (a_.Q H0 Ri R0  r)
def a_.S8021 (H0:Hp) (Ri R0:asp)  (C:Sl->Int->Sl->Int->Sl->Int->Hp->OA) (pC:List ((List (Int×List Int)))->Int->List (List Int)->Int->List (Int×List Int)->Int->Option ((List ((List (Int×List Int)))))):Prop:=∀ {Ln Lo Lp Ed Ee Ef Lq Lr Lt qO Lu Lv Lw jq jr js ns qP},∀ {H:Hp},Ed=qO.length->Ee=ns.length->Ef=qP.length->(Out H0 Ri H (Rs.own ⟨Ln,Ed,Lq⟩ (eSl (ac eI (eSl eI))).z Lu::Rs.own ⟨Lo,Ee,Lr⟩ (eSl eI).z Lv::Rs.own ⟨Lp,Ef,Lt⟩ (ac eI (eSl eI)).z Lw::R0) λR=>CR (eSl (ac eI (eSl eI))) H R Lu qO/\CR (eSl eI) H R Lv ns/\CR (ac eI (eSl eI)) H R Lw qP)->∀ {r:(List ((List (Int×List Int))))},pC qO jq ns jr qP js=some r->Rt (C ⟨Ln,Ed,Lq⟩ jq ⟨Lo,Ee,Lr⟩ jr ⟨Lp,Ef,Lt⟩ js H) (a_.Q H0 Ri R0  r)
def a_.pj3 (F:Nat) (bv:ate) (yC:asK) (nV:Int) (yD:asE) (jo:Int):Option ((List ((List (Int×List Int))))):=bv yC nV yD (wrap .i64 (jo+1))
theorem a_.j3_P  {C125_:asT} {bv:ate} (hC125:a_.S125 H0 Ri R0  C125_ bv) {XX XY Lx Ly XZ X_ yC Ya Yb nV jo yD} (akG:Lx=yC.length) (akH:Ly=yD.length) (h0:Out H0 Ri H (Rs.own ⟨XX,Lx,XZ⟩ (eSl (ac eI (eSl eI))).z Ya::Rs.own ⟨XY,Ly,X_⟩ (eSl eI).z Yb::R0) λR=>CR (eSl (ac eI (eSl eI))) H R Ya yC/\CR (eSl eI) H R Yb yD) {r:(List ((List (Int×List Int))))} (hp:a_.pj3 F bv yC nV yD jo=some r):Rt (a_.j3 F (ak.tw F) (bi.tw F) (aU.tw F) C125_ ⟨XX,Lx,XZ⟩ nV ⟨XY,Ly,X_⟩ jo H) (a_.Q H0 Ri R0  r):=by
 obtain ⟨w0,s0,akI,akJ⟩:=h0
 subst akG
 subst akH
 unfold a_.pj3 at hp
 unfold a_.j3
 exact hC125 rfl rfl ⟨w0,s0,akI,akJ⟩ hp
def a_.pj4 (F:Nat) (bv:ate) (yE:asK) (jn:Int) (yF:asE) (nR:Int) (qQ:asL):Option ((List ((List (Int×List Int))))):=(apn yE ([qQ]:List ((List (Int×List Int))))).bind λl3=>a_.pj3 F bv l3 jn yF nR
theorem a_.j4_P  {C125_:asT} {bv:ate} (hC125:a_.S125 H0 Ri R0  C125_ bv) {Yc Yd Ye Lz LA LB Yf Yg Yh yE Yi Yj Yk jn nR yF qQ} (akK:Lz=yE.length) (akL:LA=yF.length) (akM:LB=qQ.length) (h0:Out H0 Ri H (Rs.own ⟨Yc,Lz,Yf⟩ (eSl (ac eI (eSl eI))).z Yi::Rs.own ⟨Yd,LA,Yg⟩ (eSl eI).z Yj::Rs.own ⟨Ye,LB,Yh⟩ (ac eI (eSl eI)).z Yk::R0) λR=>CR (eSl (ac eI (eSl eI))) H R Yi yE/\CR (eSl eI) H R Yj yF/\CR (ac eI (eSl eI)) H R Yk qQ) {r:(List ((List (Int×List Int))))} (hp:a_.pj4 F bv yE jn yF nR qQ=some r):Rt (a_.j4 F (ak.tw F) (bi.tw F) (aU.tw F) C125_ ⟨Yc,Lz,Yf⟩ jn ⟨Yd,LA,Yg⟩ nR ⟨Ye,LB,Yh⟩ H) (a_.Q H0 Ri R0  r):=by
 obtain ⟨w0,s0,akN,akO,akP⟩:=h0
 subst akK
 subst akL
 subst akM
 unfold a_.pj4 at hp
 unfold a_.j4
 obtain ⟨w1,s1,f1⟩:=w0.frz (i:=2) (ac eI (eSl eI)) rfl akP
 refine cO (eSl (ac eI (eSl eI))) w1 (n:=1) (l:=([qQ]:List ((List (Int×List Int))))) rfl (CR.cons1 ⟨_,rfl,f1⟩ CR.empty) rfl λH2 w2 s2 c2=>?_
 refine ai (w2.rowo (i:=0) rfl) ?_
 obtain ⟨l3,e3,hp⟩:=ag hp
 refine fM (eSl (ac eI (eSl eI))) w2 (i:=1) rfl rfl (akN.step (s1.trans s2)) c2 (show 1=List.length ([qQ]:List ((List (Int×List Int)))) from rfl) rfl e3 λa4 d4 H4 w4 s4 c4 x4=>?_
 obtain ⟨w5,s5⟩:=w4.pp [1,2] 3
 exact a_.j3_P (@hC125) rfl rfl ⟨w5,(s0.trans (s1.trans (s2.trans (s4.trans s5)))),(c4.step s5),(akO.step (s1.trans (s2.trans (s4.trans s5))))⟩ hp
def a_.pl8021 (F:Nat) (bv:ate):Nat->List ((List (Int×List Int)))->Int->List (List Int)->Int->List (Int×List Int)->Int->Option ((List ((List (Int×List Int)))))
 | 0,_,_,_,_,_,_=>none
 | k+1,qO,jq,ns,jr,qP,js=>(bif (decide (js<=jq)) then ((ix ns jr).bind λn1=>(aU.p F (gt ns n1) js).bind λr2=>(apn qP ([(r2.1,r2.2)]:List (Int×List Int))).bind λl6=>a_.pl8021 F bv k qO jq ns jr l6 (wrap .i64 (js+1))) else (a_.pj4 F bv qO jq ns jr qP))
theorem a_.l8021_P  {C125_:asT} {bv:ate} (hC125:a_.S125 H0 Ri R0  C125_ bv):∀ k,a_.S8021 H0 Ri R0  (a_.l8021 F (ak.tw F) (bi.tw F) (aU.tw F) C125_ k) (a_.pl8021 F bv k):=by
 intro k
 induction k with
 | zero=>unfold a_.S8021;intros;rename_i hp;cases hp
 | succ k ih=>
  intro Ln Lo Lp Ed Ee Ef Lq Lr Lt qO Lu Lv Lw jq jr js ns qP H akQ akR akS h0 r hp
  obtain ⟨w0,s0,Yl,LC,Ym⟩:=h0
  subst akQ
  subst akR
  subst akS
  unfold a_.pl8021 at hp
  unfold a_.l8021
  refine aB hp (λhp=>?_) λhp=>?_
  ·obtain ⟨n1,g1,hp⟩:=ag hp
   obtain ⟨p1,q1,i1,h1,j1⟩:=W.ixo (E:=(eSl eI)) w0 (i:=1) rfl rfl LC g1
   refine ai i1 ?_
   obtain ⟨⟨Yn,m1_0,c1_0⟩,rfl,f1_0⟩:=h1
   obtain rfl:m1_0=_:=f1_0.n
   refine ai (iU (j1 0 _ rfl)) ?_
   obtain ⟨r2,e2,hp⟩:=ag hp
   refine aE (aU.P rfl ⟨w0,f1_0⟩ e2) ?_
   rintro _ H3 ⟨o1a_3,o1n_3,o1c_3,o1k_3,rfl,rfl,w3,s3,f3_0⟩
   refine br (br (br (br (br ?_))))
   obtain ⟨w4,s4,f4⟩:=w3.frz (i:=0) eI rfl f3_0
   refine cO (ac eI (eSl eI)) w4 (n:=1) (l:=([(r2.1,r2.2)]:List (Int×List Int))) rfl (CR.cons (c:=[_,_]) ⟨[_],_,rfl,rfl,⟨_,rfl,f4⟩⟩ CR.empty) rfl λH5 w5 s5 c5=>?_
   refine ai (w5.rowo (i:=0) rfl) ?_
   obtain ⟨l6,e6,hp⟩:=ag hp
   refine fM (ac eI (eSl eI)) w5 (i:=3) rfl rfl (Ym.step (s3.trans (s4.trans s5))) c5 (show 1=List.length ([(r2.1,r2.2)]:List (Int×List Int)) from rfl) rfl e6 λa7 d7 H7 w7 s7 c7 x7=>?_
   obtain ⟨w8,s8⟩:=w7.pp [1,2,3] 4
   exact ih rfl rfl rfl ⟨w8,(s0.trans (s3.trans (s4.trans (s5.trans (s7.trans s8))))),(Yl.step (s3.trans (s4.trans (s5.trans (s7.trans s8))))),(LC.step (s3.trans (s4.trans (s5.trans (s7.trans s8))))),(c7.step s8)⟩ hp
  ·exact a_.j4_P (@hC125) rfl rfl rfl ⟨w0,s0,Yl,LC,Ym⟩ hp
def a_.pl125 (F:Nat) :Nat->List ((List (Int×List Int)))->Int->List (List Int)->Int->Option ((List ((List (Int×List Int)))))
 | 0,_,_,_,_=>none
 | k+1,qM,mS,qN,kz=>(bif (decide (kz<(qN.length:Int))) then (a_.pl8021 F (a_.pl125 F k) F qM mS qN kz ([]:List (Int×List Int)) 1) else (some qM))
theorem a_.l125_P  :∀ k,a_.S125 H0 Ri R0  (a_.l125 F (ak.tw F) (bi.tw F) (aU.tw F)  k) (a_.pl125 F  k):=by
 intro k
 induction k with
 | zero=>unfold a_.S125;intros;rename_i hp;cases hp
 | succ k ih=>
  intro Lh Li Eb Ec Lj Lk qM Ll Lm mS kz qN H akT akU h0 r hp
  obtain ⟨w0,s0,Yo,akV⟩:=h0
  subst akT
  subst akU
  unfold a_.pl125 at hp
  unfold a_.l125
  refine aB hp (λhp=>?_) λhp=>?_
  ·refine cO (ac eI (eSl eI)) w0 (n:=0) (l:=([]:List (Int×List Int))) rfl CR.empty rfl λH1 w1 s1 c1=>?_
   obtain ⟨w2,s2⟩:=w1.pp [1,2,0] 3
   exact a_.l8021_P (@ih) F rfl rfl (show 0=List.length ([]:List (Int×List Int)) from rfl) ⟨w2,(s0.trans (s1.trans s2)),(Yo.step (s1.trans s2)),(akV.step (s1.trans s2)),(c1.step s2)⟩ hp
  ·obtain ⟨w3,s3⟩:=w0.pp [0] 2
   exact aw hp ⟨_,_,_,_,rfl,rfl,w3,(s0.trans s3),(Yo.step s3)⟩
def a_.p (F:Nat) (ah:asy) (af:Int):Option ((List ((List (Int×List Int))))):=(ak.p F ah af).bind λr3=>(bi.p F ah af).bind λr5=>a_.pl125 F F ([]:List ((List (Int×List Int)))) r3.2 r5 0
theorem a_.P {az aj aA ah af} (aT:aj=ah.length) (h0:Inn H R0 λR=>ROs (ac eI (ac eI (ac eI (ac eI eI)))) H R ⟨az,aj,aA⟩ ah) {r:(List ((List (Int×List Int))))} (hp:a_.p F ah af=some r):Rt (a_.tw F ⟨az,aj,aA⟩ af H) (a_.Q H R0 R0  r):=by
 obtain ⟨w0,aK⟩:=h0
 subst aT
 unfold a_.p at hp
 unfold a_.tw a_.twX
 have s0:=w0.rf
 refine aR w0 λH1 w1 s1=>?_
 refine cO (eSl (ac eI (eSl eI))) w1 (n:=0) (l:=([]:List ((List (Int×List Int))))) rfl CR.empty rfl λH2 w2 s2 c2=>?_
 refine lSl w2 1 ?_
 refine lI w2 1 ?_
 obtain ⟨r3,e3,hp⟩:=ag hp
 refine aE (ak.P rfl ⟨w2,(aK.step (s1.trans s2))⟩ e3) ?_
 rintro _ H4 ⟨o0a_4,o0n_4,o0c_4,o0k_4,rfl,rfl,w4,s4,f4_0⟩
 refine br (br (br (br (br ?_))))
 refine lSl w4 2 ?_
 refine lI w4 2 ?_
 obtain ⟨r5,e5,hp⟩:=ag hp
 refine aE (bi.P rfl ⟨w4,(aK.step (s1.trans (s2.trans s4)))⟩ e5) ?_
 rintro _ H6 ⟨o0a_6,o0n_6,o0c_6,o0k_6,rfl,rfl,w6,s6,f6_0⟩
 refine br ?_
 obtain ⟨w7,s7⟩:=w6.pp [2,0] 4
 exact a_.l125_P F (show 0=List.length ([]:List ((List (Int×List Int)))) from rfl) rfl ⟨w7,(s0.trans (s1.trans (s2.trans (s4.trans (s6.trans s7))))),(c2.step (s4.trans (s6.trans s7))),(f6_0.step s7)⟩ hp
def aI.Q (H0:Hp) (Ri R0:asp)  (r:asv) (v:AV) (H':Hp):Prop:=∃ o1a:ON,∃ o1n:Nat,∃ o1c:Cap,∃ o1k:List AV,v=(.agg [(.i r.1),(.sl ⟨o1a,o1n,o1c⟩)])/\o1n=(r.2).length/\Out H0 Ri H' (Rs.own ⟨o1a,o1n,o1c⟩ eI.z o1k::R0) λR=>CR eI H' R o1k (r.2)
def aI.S61 (H0:Hp) (Ri R0:asp)  (C:as9) (pC:atf):Prop:=∀ {nu vX Yp kA qR LD LE LF nv fm Eg n_ Eh oa Ei qS LG LI LJ lL vY LL qT LM LN},∀ {H:Hp},nv=lL.length->Eg=vY.length->Eh=LL.length->Ei=qT.length->(Out H0 Ri H (Rs.blk fm [.i nu,.sl ⟨qR,nv,qS⟩]::Rs.blk n_ [.i vX,.sl ⟨LD,Eg,LG⟩]::Rs.own ⟨LE,Eh,LI⟩ eI.z LM::Rs.blk oa [.i Yp,.sl ⟨LE,Eh,LI⟩]::Rs.own ⟨LF,Ei,LJ⟩ eI.z LN::R0) λR=>ROs eI H R ⟨qR,nv,qS⟩ lL/\ROs eI H R ⟨LD,Eg,LG⟩ vY/\CR eI H R LM LL/\CR eI H R LN qT)->∀ {r:asv},pC nu lL vX vY qT kA=some r->Rt (C fm 0 n_ 0 oa 0 ⟨LF,Ei,LJ⟩ kA H) (aI.Q H0 Ri R0  r)
def aI.S981 (H0:Hp) (Ri R0:asp)  (C:as3) (pC:Int->List Int->Int->List Int->List Int->Int->Int->Option (Int×List Int)):Prop:=∀ {vZ v_ Yq gS gT LP LQ LR LS Ej mT Ek md El nZ Em LT LU LV LW nw ms LX mu LY LZ},∀ {H:Hp},Ej=nw.length->Ek=ms.length->El=LX.length->Em=mu.length->(Out H0 Ri H (Rs.blk mT [.i vZ,.sl ⟨LP,Ej,LT⟩]::Rs.blk md [.i v_,.sl ⟨LQ,Ek,LU⟩]::Rs.own ⟨LR,El,LV⟩ eI.z LY::Rs.blk nZ [.i Yq,.sl ⟨LR,El,LV⟩]::Rs.own ⟨LS,Em,LW⟩ eI.z LZ::R0) λR=>ROs eI H R ⟨LP,Ej,LT⟩ nw/\ROs eI H R ⟨LQ,Ek,LU⟩ ms/\CR eI H R LY LX/\CR eI H R LZ mu)->∀ {r:asv},pC vZ nw v_ ms mu gS gT=some r->Rt (C mT 0 md 0 nZ 0 ⟨LS,Em,LW⟩ gS gT H) (aI.Q H0 Ri R0  r)
def aI.pj4 (F:Nat) (ay:atf) (En:Int) (yG:asr) (Er:Int) (yH:asr) (yI:asr) (tD:Int):Option (Int×List Int):=ay En yG Er yH yI (wrap .i64 (tD+1))
theorem aI.j4_P  {C61_:as9} {ay:atf} (hC61:aI.S61 H0 Ri R0  C61_ ay) {En Er akW tD Yr Ys Yt Yu L_ Bh Ma Bi Mb Bj Mc Yv Yw Yx Yy yG yH Yz yI YA YB} (akX:L_=yG.length) (akY:Ma=yH.length) (akZ:Mb=Yz.length) (ak0:Mc=yI.length) (h0:Out H0 Ri H (Rs.blk Bh [.i En,.sl ⟨Yr,L_,Yv⟩]::Rs.blk Bi [.i Er,.sl ⟨Ys,Ma,Yw⟩]::Rs.own ⟨Yt,Mb,Yx⟩ eI.z YA::Rs.blk Bj [.i akW,.sl ⟨Yt,Mb,Yx⟩]::Rs.own ⟨Yu,Mc,Yy⟩ eI.z YB::R0) λR=>ROs eI H R ⟨Yr,L_,Yv⟩ yG/\ROs eI H R ⟨Ys,Ma,Yw⟩ yH/\CR eI H R YA Yz/\CR eI H R YB yI) {r:asv} (hp:aI.pj4 F ay En yG Er yH yI tD=some r):Rt (aI.j4 F (aS.tw F) C61_ Bh 0 Bi 0 Bj 0 ⟨Yu,Mc,Yy⟩ tD H) (aI.Q H0 Ri R0  r):=by
 obtain ⟨w0,s0,ak1,ak2,ak3,ak4⟩:=h0
 subst akX
 subst akY
 subst akZ
 subst ak0
 unfold aI.pj4 at hp
 unfold aI.j4
 exact hC61 rfl rfl rfl rfl ⟨w0,s0,ak1,ak2,ak3,ak4⟩ hp
def aI.pj5 (F:Nat) (ay:atf) (Es:Int) (yJ:asr) (Et:Int) (yK:asr) (yL:asr) (tF:Int):Option (Int×List Int):=aI.pj4 F ay Es yJ Et yK yL tF
theorem aI.j5_P  {C61_:as9} {ay:atf} (hC61:aI.S61 H0 Ri R0  C61_ ay) {Es Et Md tF YC YD yM YE Me Bk Mf Bl qU jY Mg YF YG yN YH yJ yK yO yL yP YI} (ak5:Me=yJ.length) (ak6:Mf=yK.length) (Mh:qU=yO.length) (ak7:Mg=yL.length) (h0:Out H0 Ri H (Rs.blk Bk [.i Es,.sl ⟨YC,Me,YF⟩]::Rs.blk Bl [.i Et,.sl ⟨YD,Mf,YG⟩]::Rs.own ⟨yM,qU,yN⟩ eI.z yP::Rs.blk jY [.i Md,.sl ⟨yM,qU,yN⟩]::Rs.own ⟨YE,Mg,YH⟩ eI.z YI::R0) λR=>ROs eI H R ⟨YC,Me,YF⟩ yJ/\ROs eI H R ⟨YD,Mf,YG⟩ yK/\CR eI H R yP yO/\CR eI H R YI yL) {r:asv} (hp:aI.pj5 F ay Es yJ Et yK yL tF=some r):Rt (aI.j5 F (aS.tw F) C61_ Bk 0 Bl 0 jY 0 ⟨YE,Mg,YH⟩ tF H) (aI.Q H0 Ri R0  r):=by
 obtain ⟨w0,s0,ak8,ak9,YJ,ak_⟩:=h0
 subst ak5
 subst ak6
 subst Mh
 subst ak7
 unfold aI.pj5 at hp
 unfold aI.j5
 exact aI.j4_P (@hC61) rfl rfl rfl rfl ⟨w0,s0,ak8,ak9,YJ,ak_⟩ hp
def aI.pl981 (F:Nat) (ay:atf):Nat->Int->List Int->Int->List Int->List Int->Int->Int->Option (Int×List Int)
 | 0,_,_,_,_,_,_,_=>none
 | k+1,vZ,nw,v_,ms,mu,gS,gT=>(bif (decide (gT<(ms.length:Int))) then ((ix mu (wrap .i64 (gS+gT))).bind λn1=>(ix nw gS).bind λn2=>(ix ms gT).bind λn3=>(ix mu (wrap .i64 (gS+gT))).bind λn4=>(some (mu.set n4 (wrap .i64 ((gt mu n1)+(wrap .i64 ((gt nw n2) * (gt ms n3))))))).bind λl5=>aI.pl981 F ay k vZ nw v_ ms l5 gS (wrap .i64 (gT+1))) else (aI.pj5 F ay vZ nw v_ ms mu gS))
theorem aI.l981_P  {C61_:as9} {ay:atf} (hC61:aI.S61 H0 Ri R0  C61_ ay):∀ k,aI.S981 H0 Ri R0  (aI.l981 F (aS.tw F) C61_ k) (aI.pl981 F ay k):=by
 intro k
 induction k with
 | zero=>unfold aI.S981;intros;rename_i hp;cases hp
 | succ k ih=>
  intro vZ v_ Yq gS gT LP LQ LR LS Ej mT Ek md El nZ Em LT LU LV LW nw ms LX mu LY LZ H ala alb alc ald h0 r hp
  obtain ⟨w0,s0,Mi,Mj,YK,Eu⟩:=h0
  subst ala
  subst alb
  subst alc
  subst ald
  unfold aI.pl981 at hp
  unfold aI.l981
  refine lSl w0 1 ?_
  refine aB hp (λhp=>?_) λhp=>?_
  ·obtain ⟨n1,g1,hp⟩:=ag hp
   obtain ⟨p1,q1,i1,h1,j1⟩:=W.ixo (E:=eI) w0 (i:=4) rfl rfl Eu g1
   refine ai i1 ?_
   have h1:_=[_]:=h1
   subst h1
   refine ai (aG (j1 0 _ rfl)) ?_
   refine lSl w0 0 ?_
   obtain ⟨n2,g2,hp⟩:=ag hp
   obtain ⟨p2,q2,i2,h2,j2⟩:=ROs.ixr Mi rfl g2
   refine ai i2 ?_
   have h2:_=[_]:=h2
   subst h2
   refine ai (aG (j2 0 _ rfl)) ?_
   refine lSl w0 1 ?_
   obtain ⟨n3,g3,hp⟩:=ag hp
   obtain ⟨p3,q3,i3,h3,j3⟩:=ROs.ixr Mj rfl g3
   refine ai i3 ?_
   have h3:_=[_]:=h3
   subst h3
   refine ai (aG (j3 0 _ rfl)) ?_
   obtain ⟨n4,g4,hp⟩:=ag hp
   obtain ⟨p4,q4,i4,h4,j4⟩:=W.ixo (E:=eI) w0 (i:=4) rfl rfl Eu g4
   refine ai i4 ?_
   obtain ⟨l5,e5,hp⟩:=ag hp
   refine de eI w0 (i:=4) (j:=0) (p:=p4) rfl rfl Eu g4 i4 e5 rfl rfl (λ_ h=>by have h:_=[_]:=h;subst h;exact rfl) λH6 k6 w6 s6 c6=>?_
   exact ih rfl rfl rfl ((cj e5).symm) ⟨w6,(s0.trans s6),(Mi.step s6),(Mj.step s6),(YK.step s6),c6⟩ hp
  ·exact aI.j5_P (@hC61) rfl rfl rfl rfl ⟨w0,s0,Mi,Mj,YK,Eu⟩ hp
def aI.pj3 (F:Nat)  (Ev:Int) (Ew:Int) (yQ:asr):Option (Int×List Int):=(aS.p F (wrap .i64 (Ev+Ew)) yQ).bind λr3=>some (r3.1,r3.2)
theorem aI.j3_P   {Ev Ew ale YL YM YN YO Ml Be Mm Bf Mn pL Mo YP YQ YR YS YT YU YV yQ YW YX} (alf:Ml=YT.length) (alg:Mm=YU.length) (alh:Mn=YV.length) (ali:Mo=yQ.length) (h0:Out H0 Ri H (Rs.blk Be [.i Ev,.sl ⟨YL,Ml,YP⟩]::Rs.blk Bf [.i Ew,.sl ⟨YM,Mm,YQ⟩]::Rs.own ⟨YN,Mn,YR⟩ eI.z YW::Rs.blk pL [.i ale,.sl ⟨YN,Mn,YR⟩]::Rs.own ⟨YO,Mo,YS⟩ eI.z YX::R0) λR=>ROs eI H R ⟨YL,Ml,YP⟩ YT/\ROs eI H R ⟨YM,Mm,YQ⟩ YU/\CR eI H R YW YV/\CR eI H R YX yQ) {r:asv} (hp:aI.pj3 F  Ev Ew yQ=some r):Rt (aI.j3 F (aS.tw F)  Be 0 Bf 0 pL 0 ⟨YO,Mo,YS⟩ H) (aI.Q H0 Ri R0  r):=by
 obtain ⟨w0,s0,arR,arS,arT,alj⟩:=h0
 subst alf
 subst alg
 subst alh
 subst ali
 unfold aI.pj3 at hp
 unfold aI.j3
 refine lI w0 0 ?_
 refine lI w0 1 ?_
 obtain ⟨w1,s1⟩:=w0.pp [4,0,1,2,3] 5
 have f2:=W.borrow1 eI w1 (alj.step s1)
 obtain ⟨w2,s2⟩:=w1.right1
 obtain ⟨r3,e3,hp⟩:=ag hp
 refine aE (aS.P rfl ⟨w2,f2⟩ e3) ?_
 rintro _ H4 ⟨o1a_4,o1n_4,o1c_4,o1k_4,rfl,rfl,w4,s4,f4_0⟩
 obtain ⟨w5,s5⟩:=W.frame1 w1 w4 s4
 refine br (br (br (br (br ?_))))
 refine aq w5 5 λH6 w6 s6=>?_
 refine aq w6 5 λH7 w7 s7=>?_
 refine lI w7 5 ?_
 refine lSl w7 5 ?_
 obtain ⟨w8,s8⟩:=w7.pp [1] 6
 exact aw hp ⟨_,_,_,_,rfl,rfl,w8,(s0.trans (s1.trans (s5.trans (s6.trans (s7.trans s8))))),((CR.flat (eA .i64) f4_0).step (s6.trans (s7.trans s8)))⟩
def aI.pl61 (F:Nat) :Nat->Int->List Int->Int->List Int->List Int->Int->Option (Int×List Int)
 | 0,_,_,_,_,_,_=>none
 | k+1,nu,lL,vX,vY,qT,kA=>(bif (decide (kA<(lL.length:Int))) then (aI.pl981 F (aI.pl61 F k) F nu lL vX vY qT kA 0) else (aI.pj3 F nu vX qT))
theorem aI.l61_P  :∀ k,aI.S61 H0 Ri R0  (aI.l61 F (aS.tw F)  k) (aI.pl61 F  k):=by
 intro k
 induction k with
 | zero=>unfold aI.S61;intros;rename_i hp;cases hp
 | succ k ih=>
  intro nu vX Yp kA qR LD LE LF nv fm Eg n_ Eh oa Ei qS LG LI LJ lL vY LL qT LM LN H Mp alk alm aln h0 r hp
  obtain ⟨w0,s0,yR,YY,YZ,Y_⟩:=h0
  subst Mp
  subst alk
  subst alm
  subst aln
  unfold aI.pl61 at hp
  unfold aI.l61
  refine lSl w0 0 ?_
  refine aB hp (λhp=>?_) λhp=>?_
  ·exact aI.l981_P (@ih) F rfl rfl rfl rfl ⟨w0,s0,yR,YY,YZ,Y_⟩ hp
  ·exact aI.j3_P rfl rfl rfl rfl ⟨w0,s0,yR,YY,YZ,Y_⟩ hp
def aI.p (F:Nat) (aa:Int) (aF:asr) (ar:Int) (bl:asr):Option (Int×List Int):=(bif ((aF.length:Int)==0) then (some (0,([]:List Int))) else ((bif ((bl.length:Int)==0) then (some (0,([]:List Int))) else ((mkn (wrap .i64 ((wrap .i64 ((aF.length:Int)+(bl.length:Int))) - 1)) (0:Int)).bind λl12=>aI.pl61 F F aa aF ar bl l12 0))))
theorem aI.P {aa ar bV dW bq c_ bW dX aF bl} (dk:bq=aF.length) (gk:c_=bl.length) (h0:Inn H R0 λR=>ROs eI H R ⟨bV,bq,bW⟩ aF/\ROs eI H R ⟨dW,c_,dX⟩ bl) {r:asv} (hp:aI.p F aa aF ar bl=some r):Rt (aI.tw F aa ⟨bV,bq,bW⟩ ar ⟨dW,c_,dX⟩ H) (aI.Q H R0 R0  r):=by
 obtain ⟨w0,cF,eW⟩:=h0
 subst dk
 subst gk
 unfold aI.p at hp
 unfold aI.tw aI.twX
 have s0:=w0.rf
 refine aR w0 λH1 w1 s1=>?_
 refine aR w1 λH2 w2 s2=>?_
 refine aR w2 λH3 w3 s3=>?_
 refine lSl w3 2 ?_
 refine aB hp (λhp=>?_) λhp=>?_
 ·refine aq w3 0 λH4 w4 s4=>?_
  refine aq w4 0 λH5 w5 s5=>?_
  refine lI w5 0 ?_
  refine lSl w5 0 ?_
  obtain ⟨w6,s6⟩:=w5.nilS eI.z (by decide)
  obtain ⟨w7,s7⟩:=w6.pp [0] 4
  exact aw hp ⟨_,_,_,_,rfl,rfl,w7,(s0.trans (s1.trans (s2.trans (s3.trans (s4.trans (s5.trans (s6.trans s7))))))),((CR.empty:CR eI _ _ [] []).step s7)⟩
 ·refine lSl w3 1 ?_
  refine aB hp (λhp=>?_) λhp=>?_
  ·refine aq w3 0 λH8 w8 s8=>?_
   refine aq w8 0 λH9 w9 s9=>?_
   refine lI w9 0 ?_
   refine lSl w9 0 ?_
   obtain ⟨w10,s10⟩:=w9.nilS eI.z (by decide)
   obtain ⟨w11,s11⟩:=w10.pp [0] 4
   exact aw hp ⟨_,_,_,_,rfl,rfl,w11,(s0.trans (s1.trans (s2.trans (s3.trans (s8.trans (s9.trans (s10.trans s11))))))),((CR.empty:CR eI _ _ [] []).step s11)⟩
  ·refine lSl w3 2 ?_
   refine lSl w3 1 ?_
   obtain ⟨l12,e12,hp⟩:=ag hp
   refine kj eI (0:Int) w3 rfl rfl rfl e12 λH13 k13 w13 s13 c13=>?_
   obtain ⟨w14,s14⟩:=w13.nilS eI.z (by decide)
   obtain ⟨w15,s15⟩:=w14.pp [4,3,0,2,1] 5
   exact aI.l61_P F rfl rfl rfl rfl ⟨w15,(s0.trans (s1.trans (s2.trans (s3.trans (s13.trans (s14.trans s15)))))),(cF.step (s1.trans (s2.trans (s3.trans (s13.trans (s14.trans s15)))))),(eW.step (s1.trans (s2.trans (s3.trans (s13.trans (s14.trans s15)))))),((CR.empty:CR eI _ _ [] []).step s15),(c13.step (s14.trans s15))⟩ hp
def av.Q (H0:Hp) (Ri R0:asp)  (r:asv) (v:AV) (H':Hp):Prop:=∃ o1a:ON,∃ o1n:Nat,∃ o1c:Cap,v=(.agg [(.i r.1),(.sl ⟨o1a,o1n,o1c⟩)])/\o1n=(r.2).length/\Out H0 Ri H' (R0) λR=>ROs eI H' R ⟨o1a,o1n,o1c⟩ (r.2)
def av.S61 (H0:Hp) (Ri R0:asp)  (C:asW) (pC:asG):Prop:=∀ {Mq Mr Ms Ex Ey dQ Ez Mt Mu Mv wb eo Za kC Mw Mx My qV},∀ {H:Hp},Ex=wb.length->Ey=Mw.length->Ez=qV.length->(Out H0 Ri H (Rs.own ⟨Mr,Ey,Mu⟩ eI.z Mx::Rs.blk dQ [.i Za,.sl ⟨Mr,Ey,Mu⟩]::Rs.own ⟨Ms,Ez,Mv⟩ (ac eI (eSl eI)).z My::R0) λR=>ROs (eSl (ac eI (eSl eI))) H R ⟨Mq,Ex,Mt⟩ wb/\CR eI H R Mx Mw/\CR (ac eI (eSl eI)) H R My qV)->∀ {r:asv},pC wb eo qV kC=some r->Rt (C ⟨Mq,Ex,Mt⟩ eo dQ 0 ⟨Ms,Ez,Mv⟩ kC H) (av.Q H0 Ri R0  r)
def av.S3925 (H0:Hp) (Ri R0:asp)  (C:Sl->Int->Nat->Nat->Sl->Int->Int->Int->Hp->OA) (pC:List ((List (Int×List Int)))->Int->List (Int×List Int)->Int->Int->Int->Option (Int×List Int)):Prop:=∀ {Mz MA MB EA EB oe EC MC MD ME qW jw Zb jx kB iv MF MG MH qX},∀ {H:Hp},EA=qW.length->EB=MF.length->EC=qX.length->(Out H0 Ri H (Rs.own ⟨MA,EB,MD⟩ eI.z MG::Rs.blk oe [.i Zb,.sl ⟨MA,EB,MD⟩]::Rs.own ⟨MB,EC,ME⟩ (ac eI (eSl eI)).z MH::R0) λR=>ROs (eSl (ac eI (eSl eI))) H R ⟨Mz,EA,MC⟩ qW/\CR eI H R MG MF/\CR (ac eI (eSl eI)) H R MH qX)->∀ {r:asv},pC qW jw qX jx kB iv=some r->Rt (C ⟨Mz,EA,MC⟩ jw oe 0 ⟨MB,EC,ME⟩ jx kB iv H) (av.Q H0 Ri R0  r)
def av.S31421 (H0:Hp) (Ri R0:asp)  (C:atn) (pC:ato):Prop:=∀ {MI MJ MK ML ED EE mU EF EG jv MM MN MO MP ke jt Zc gU ju qY iu fc MQ oX MR MS MT lM},∀ {H:Hp},ED=ke.length->EE=MQ.length->EF=lM.length->EG=oX.length->(Out H0 Ri H (Rs.own ⟨MJ,EE,MN⟩ eI.z MR::Rs.blk mU [.i Zc,.sl ⟨MJ,EE,MN⟩]::Rs.own ⟨MK,EF,MO⟩ (ac eI (eSl eI)).z MS::Rs.own ⟨ML,EG,MP⟩ eI.z MT::Rs.blk jv [.i qY,.sl ⟨ML,EG,MP⟩]::R0) λR=>ROs (eSl (ac eI (eSl eI))) H R ⟨MI,ED,MM⟩ ke/\CR eI H R MR MQ/\CR (ac eI (eSl eI)) H R MS lM/\CR eI H R MT oX)->∀ {r:asv},pC ke jt lM gU ju qY oX iu fc=some r->Rt (C ⟨MI,ED,MM⟩ jt mU 0 ⟨MK,EF,MO⟩ gU ju jv 0 iu fc H) (av.Q H0 Ri R0  r)
def av.pj13 (F:Nat) (nx:ato) (yS:asK) (tL:Int) (yT:asL) (tM:Int) (tO:Int) (EH:Int) (yU:asr) (tP:Int) (tQ:Int):Option (Int×List Int):=nx yS tL yT tM tO EH yU tP (wrap .i64 (tQ - 1))
theorem av.j13_P  {C31421_:atn} {nx:ato} (hC31421:av.S31421 H0 Ri R0  C31421_ nx) {Zd Ze Zf Zg MU MV Br MW MX Bs Zh Zi Zj Zk yS tL alo tM tO EH tP tQ Zl yU Zm Zn Zo yT} (alp:MU=yS.length) (alq:MV=Zl.length) (alr:MW=yT.length) (als:MX=yU.length) (h0:Out H0 Ri H (Rs.own ⟨Ze,MV,Zi⟩ eI.z Zm::Rs.blk Br [.i alo,.sl ⟨Ze,MV,Zi⟩]::Rs.own ⟨Zf,MW,Zj⟩ (ac eI (eSl eI)).z Zn::Rs.own ⟨Zg,MX,Zk⟩ eI.z Zo::Rs.blk Bs [.i EH,.sl ⟨Zg,MX,Zk⟩]::R0) λR=>ROs (eSl (ac eI (eSl eI))) H R ⟨Zd,MU,Zh⟩ yS/\CR eI H R Zm Zl/\CR (ac eI (eSl eI)) H R Zn yT/\CR eI H R Zo yU) {r:asv} (hp:av.pj13 F nx yS tL yT tM tO EH yU tP tQ=some r):Rt (av.j13 F (aI.tw F) (aJ.tw F) C31421_ ⟨Zd,MU,Zh⟩ tL Br 0 ⟨Zf,MW,Zj⟩ tM tO Bs 0 tP tQ H) (av.Q H0 Ri R0  r):=by
 obtain ⟨w0,s0,alu,alv,alw,alx⟩:=h0
 subst alp
 subst alq
 subst alr
 subst als
 unfold av.pj13 at hp
 unfold av.j13
 exact hC31421 rfl rfl rfl rfl ⟨w0,s0,alu,alv,alw,alx⟩ hp
def av.pj14 (F:Nat) (nx:ato) (yV:asK) (tR:Int) (yW:asL) (tS:Int) (tT:Int) (EI:Int) (yX:asr) (tU:Int) (tV:Int):Option (Int×List Int):=nx yV tR yW tS tT EI yX tU (wrap .i64 (tV - 1))
theorem av.j14_P  {C31421_:atn} {nx:ato} (hC31421:av.S31421 H0 Ri R0  C31421_ nx) {Zp Zq Zr Zs MY MZ Bt M_ Na Bu Zt Zu Zv Zw yV tR aly tS tT EI tU tV Zx yX Zy Zz ZA yW} (alz:MY=yV.length) (alA:MZ=Zx.length) (alB:M_=yW.length) (alC:Na=yX.length) (h0:Out H0 Ri H (Rs.own ⟨Zq,MZ,Zu⟩ eI.z Zy::Rs.blk Bt [.i aly,.sl ⟨Zq,MZ,Zu⟩]::Rs.own ⟨Zr,M_,Zv⟩ (ac eI (eSl eI)).z Zz::Rs.own ⟨Zs,Na,Zw⟩ eI.z ZA::Rs.blk Bu [.i EI,.sl ⟨Zs,Na,Zw⟩]::R0) λR=>ROs (eSl (ac eI (eSl eI))) H R ⟨Zp,MY,Zt⟩ yV/\CR eI H R Zy Zx/\CR (ac eI (eSl eI)) H R Zz yW/\CR eI H R ZA yX) {r:asv} (hp:av.pj14 F nx yV tR yW tS tT EI yX tU tV=some r):Rt (av.j14 F (aI.tw F) (aJ.tw F) C31421_ ⟨Zp,MY,Zt⟩ tR Bt 0 ⟨Zr,M_,Zv⟩ tS tT Bu 0 tU tV H) (av.Q H0 Ri R0  r):=by
 obtain ⟨w0,s0,alD,alE,alF,alG⟩:=h0
 subst alz
 subst alA
 subst alB
 subst alC
 unfold av.pj14 at hp
 unfold av.j14
 exact hC31421 rfl rfl rfl rfl ⟨w0,s0,alD,alE,alF,alG⟩ hp
def av.pj11 (F:Nat) (ay:asG) (yY:asK) (tI:Int) (yZ:asL) (tJ:Int):Option (Int×List Int):=ay yY tI yZ (wrap .i64 (tJ+1))
theorem av.j11_P  {C61_:asW} {ay:asG} (hC61:av.S61 H0 Ri R0  C61_ ay) {ZB ZC ZD Nb Nc Bp Nd ZE ZF ZG yY tI alH tJ ZH ZI ZJ yZ} (alI:Nb=yY.length) (alJ:Nc=ZH.length) (alK:Nd=yZ.length) (h0:Out H0 Ri H (Rs.own ⟨ZC,Nc,ZF⟩ eI.z ZI::Rs.blk Bp [.i alH,.sl ⟨ZC,Nc,ZF⟩]::Rs.own ⟨ZD,Nd,ZG⟩ (ac eI (eSl eI)).z ZJ::R0) λR=>ROs (eSl (ac eI (eSl eI))) H R ⟨ZB,Nb,ZE⟩ yY/\CR eI H R ZI ZH/\CR (ac eI (eSl eI)) H R ZJ yZ) {r:asv} (hp:av.pj11 F ay yY tI yZ tJ=some r):Rt (av.j11 F (aI.tw F) (aJ.tw F) C61_ ⟨ZB,Nb,ZE⟩ tI Bp 0 ⟨ZD,Nd,ZG⟩ tJ H) (av.Q H0 Ri R0  r):=by
 obtain ⟨w0,s0,alL,alM,alN⟩:=h0
 subst alI
 subst alJ
 subst alK
 unfold av.pj11 at hp
 unfold av.j11
 exact hC61 rfl rfl rfl ⟨w0,s0,alL,alM,alN⟩ hp
def av.pj12 (F:Nat) (ay:asG) (y_:asK) (tK:Int) (qZ:asL) (oc:Int) (EJ:Int) (za:asr):Option (Int×List Int):=(ix qZ oc).bind λn1=>(some (qZ.set n1 (EJ,(gt qZ n1).2))).bind λl2=>(some (l2.set n1 ((gt l2 n1).1,za))).bind λl5=>av.pj11 F ay y_ tK l5 oc
theorem av.j12_P  {C61_:asW} {ay:asG} (hC61:av.S61 H0 Ri R0  C61_ ay) {ZK ZL ZM ZN Nf Ng Bq Nh Ni xe ZO ZP ZQ ZR y_ tK alO oc EJ ZS za ZT ZU ZV qZ} (alP:Nf=y_.length) (alQ:Ng=ZS.length) (alR:Nh=qZ.length) (alS:Ni=za.length) (h0:Out H0 Ri H (Rs.own ⟨ZL,Ng,ZP⟩ eI.z ZT::Rs.blk Bq [.i alO,.sl ⟨ZL,Ng,ZP⟩]::Rs.own ⟨ZM,Nh,ZQ⟩ (ac eI (eSl eI)).z ZU::Rs.own ⟨ZN,Ni,ZR⟩ eI.z ZV::Rs.blk xe [.i EJ,.sl ⟨ZN,Ni,ZR⟩]::R0) λR=>ROs (eSl (ac eI (eSl eI))) H R ⟨ZK,Nf,ZO⟩ y_/\CR eI H R ZT ZS/\CR (ac eI (eSl eI)) H R ZU qZ/\CR eI H R ZV za) {r:asv} (hp:av.pj12 F ay y_ tK qZ oc EJ za=some r):Rt (av.j12 F (aI.tw F) (aJ.tw F) C61_ ⟨ZK,Nf,ZO⟩ tK Bq 0 ⟨ZM,Nh,ZQ⟩ oc xe 0 H) (av.Q H0 Ri R0  r):=by
 obtain ⟨w0,s0,alT,alU,ZW,alV⟩:=h0
 subst alP
 subst alQ
 subst alR
 subst alS
 unfold av.pj12 at hp
 unfold av.j12
 refine lI w0 4 ?_
 refine lSl w0 4 ?_
 obtain ⟨n1,g1,hp⟩:=ag hp
 obtain ⟨p1,q1,i1,h1,j1⟩:=W.ixo (E:=(ac eI (eSl eI))) w0 (i:=2) rfl rfl ZW g1
 refine ai i1 ?_
 obtain ⟨l2,e2,hp⟩:=ag hp
 refine de (ac eI (eSl eI)) w0 (i:=2) (j:=0) (p:=p1) rfl rfl ZW g1 i1 e2 rfl rfl (λ_ h=>by obtain ⟨_,_,rfl,rfl,⟨_,rfl,q1⟩⟩:=h;exact ⟨[_],_,rfl,rfl,⟨_,rfl,q1⟩⟩) λH3 k3 w3 s3 c3=>?_
 obtain ⟨w4,s4,f4⟩:=w3.frz (i:=3) eI rfl (alV.step s3)
 obtain ⟨l5,e5,hp⟩:=ag hp
 refine de (ac eI (eSl eI)) w4 (i:=2) (j:=1) (p:=p1) rfl rfl (c3.step s4) (mG g1 (cj e2)) i1 e5 rfl rfl (λ_ h=>by obtain ⟨_,_,rfl,rfl,⟨_,rfl,q1⟩⟩:=h;exact ⟨[_],_,rfl,rfl,⟨_,rfl,f4⟩⟩) λH6 k6 w6 s6 c6=>?_
 obtain ⟨w7,s7⟩:=w6.pp [0,1,2] 4
 exact av.j11_P (@hC61) rfl rfl ((cj e2).symm.trans (cj e5).symm) ⟨w7,(s0.trans (s3.trans (s4.trans (s6.trans s7)))),(alT.step (s3.trans (s4.trans (s6.trans s7)))),(alU.step (s3.trans (s4.trans (s6.trans s7)))),(c6.step s7)⟩ hp
def av.pl31421 (F:Nat) (ay:asG):Nat->List ((List (Int×List Int)))->Int->List (Int×List Int)->Int->Int->Int->List Int->Int->Int->Option (Int×List Int)
 | 0,_,_,_,_,_,_,_,_,_=>none
 | k+1,ke,jt,lM,gU,ju,qY,oX,iu,fc=>(bif (decide (fc>=0)) then ((if (IntKind.u64.wrap fc)<0 then none else ((bif ((Go.bits .and .i64 (Int.fdiv gU (2 ^ (min ((IntKind.u64.wrap fc):Int).toNat (IntKind.i64).bits))) 1)==0) then (av.pj13 F (av.pl31421 F ay k) ke jt lM gU ju qY oX iu fc) else ((ix ke ju).bind λn2=>(ix (gt ke n2) fc).bind λn3=>(if (IntKind.u64.wrap fc)<0 then none else ((ix lM (wrap .i64 (gU - (wrap .i64 (1 * 2 ^ (min ((IntKind.u64.wrap fc):Int).toNat (IntKind.i64).bits)))))).bind λn5=>(aI.p F ((gt (gt ke n2) n3).1) ((gt (gt ke n2) n3).2) ((gt lM n5).1) ((gt lM n5).2)).bind λr6=>(aI.p F r6.1 r6.2 0 ([iu]:List Int)).bind λr16=>(aJ.p F qY oX r16.1 r16.2).bind λr24=>av.pj14 F (av.pl31421 F ay k) ke jt lM gU ju r24.1 r24.2 (wrap .i64 (0 - iu)) fc))))))) else (av.pj12 F ay ke jt lM gU qY oX))
theorem av.l31421_P  {C61_:asW} {ay:asG} (hC61:av.S61 H0 Ri R0  C61_ ay):∀ k,av.S31421 H0 Ri R0  (av.l31421 F (aI.tw F) (aJ.tw F) C61_ k) (av.pl31421 F ay k):=by
 intro k
 induction k with
 | zero=>unfold av.S31421;intros;rename_i hp;cases hp
 | succ k ih=>
  intro MI MJ MK ML ED EE mU EF EG jv MM MN MO MP ke jt Zc gU ju qY iu fc MQ oX MR MS MT lM H alW alX alY alZ h0 r hp
  obtain ⟨w0,s0,EK,Nj,EL,Nk⟩:=h0
  subst alW
  subst alX
  subst alY
  subst alZ
  unfold av.pl31421 at hp
  unfold av.l31421
  refine aB hp (λhp=>?_) λhp=>?_
  ·obtain ⟨g1,hp⟩:=kl hp
   refine kn g1 ?_
   refine aB hp (λhp=>?_) λhp=>?_
   ·exact av.j13_P (@ih) rfl rfl rfl rfl ⟨w0,s0,EK,Nj,EL,Nk⟩ hp
   ·obtain ⟨n2,g2,hp⟩:=ag hp
    obtain ⟨p2,q2,i2,h2,j2⟩:=ROs.ixr EK rfl g2
    refine ai i2 ?_
    obtain ⟨⟨al0,m2_0,c2_0⟩,rfl,f2_0⟩:=h2
    obtain rfl:m2_0=_:=f2_0.n
    refine ai (iU (j2 0 _ rfl)) ?_
    obtain ⟨n3,g3,hp⟩:=ag hp
    obtain ⟨p3,q3,i3,h3,j3⟩:=ROs.ixr f2_0 rfl g3
    refine ai i3 ?_
    obtain ⟨_,_,rfl,rfl,⟨⟨al1,m3_1,c3_1⟩,rfl,f3_1⟩⟩:=h3
    obtain rfl:m3_1=_:=f3_1.n
    refine ai (aG (j3 0 _ rfl)) ?_
    refine ai (iU (j3 1 _ rfl)) ?_
    obtain ⟨g4,hp⟩:=kl hp
    refine kn g4 ?_
    obtain ⟨n5,g5,hp⟩:=ag hp
    obtain ⟨p5,q5,i5,h5,j5⟩:=W.ixo (E:=(ac eI (eSl eI))) w0 (i:=2) rfl rfl EL g5
    refine ai i5 ?_
    obtain ⟨_,_,rfl,rfl,⟨⟨al2,m5_1,c5_1⟩,rfl,f5_1⟩⟩:=h5
    obtain rfl:m5_1=_:=f5_1.n
    refine ai (aG (j5 0 _ rfl)) ?_
    refine ai (iU (j5 1 _ rfl)) ?_
    obtain ⟨r6,e6,hp⟩:=ag hp
    refine aE (aI.P rfl rfl ⟨w0,f3_1,f5_1⟩ e6) ?_
    rintro _ H7 ⟨o1a_7,o1n_7,o1c_7,o1k_7,rfl,rfl,w7,s7,f7_0⟩
    refine br (br (br (br (br ?_))))
    refine eQ (W.cons_of (Rn:=[_]) w0 w7 s7) ?_
    refine aR w7 λH9 w9 s9=>?_
    refine aq w9 0 λH10 w10 s10=>?_
    refine aq w10 0 λH11 w11 s11=>?_
    refine lI w11 6 ?_
    refine lSl w11 6 ?_
    refine lI w11 0 ?_
    refine lSl w11 0 ?_
    refine cO eI w11 (n:=1) (l:=([iu]:List Int)) rfl (CR.cons1 rfl CR.empty) rfl λH12 w12 s12 c12=>?_
    obtain ⟨w13,s13⟩:=w12.pp [2,0,1,3,4,5,6,7] 8
    have f14:=W.borrow1 eI w13 (f7_0.step (s9.trans (s10.trans (s11.trans (s12.trans s13)))))
    obtain ⟨w14,s14⟩:=w13.right1
    have f15:=W.borrow1 eI w14 ((c12.step s13).step s14)
    obtain ⟨w15,s15⟩:=w14.right1
    obtain ⟨r16,e16,hp⟩:=ag hp
    refine aE (aI.P rfl (show 1=List.length ([iu]:List Int) from rfl) ⟨w15,(f14.step s15),f15⟩ e16) ?_
    rintro _ H17 ⟨o1a_17,o1n_17,o1c_17,o1k_17,rfl,rfl,w17,s17,f17_0⟩
    obtain ⟨w18,s18⟩:=W.frame1 w14 w17 s17
    obtain ⟨w19,s19⟩:=W.frame1 w13 w18 s18
    refine br (br (br (br (br ?_))))
    refine eQ (aZ.tr (aZ.refl _) s13 (W.cons_of (Rn:=[_]) w15 w17 s17)) ?_
    obtain ⟨w21,s21⟩:=w19.pp [7,2,0,1,3,4,5,6,8] 9
    have f22:=W.borrow1 eI w21 (Nk.step (s7.trans (s9.trans (s10.trans (s11.trans (s12.trans (s13.trans (s19.trans s21))))))))
    obtain ⟨w22,s22⟩:=w21.right1
    have f23:=W.borrow1 eI w22 (((CR.flat (eA .i64) f17_0).step s21).step s22)
    obtain ⟨w23,s23⟩:=w22.right1
    obtain ⟨r24,e24,hp⟩:=ag hp
    refine aE (aJ.P rfl rfl ⟨w23,(f22.step s23),f23⟩ e24) ?_
    rintro _ H25 ⟨o1a_25,o1n_25,o1c_25,o1k_25,rfl,rfl,w25,s25,f25_0⟩
    obtain ⟨w26,s26⟩:=W.frame1 w22 w25 s25
    obtain ⟨w27,s27⟩:=W.frame1 w21 w26 s26
    refine br (br (br (br (br ?_))))
    refine aq w27 9 λH28 w28 s28=>?_
    refine aq w28 9 λH29 w29 s29=>?_
    obtain ⟨w30,s30⟩:=w29.pp [6,7,8,2,9] 10
    exact av.j14_P (@ih) rfl rfl rfl rfl ⟨w30,(s0.trans (s7.trans (s9.trans (s10.trans (s11.trans (s12.trans (s13.trans (s19.trans (s21.trans (s27.trans (s28.trans (s29.trans s30)))))))))))),(EK.step (s7.trans (s9.trans (s10.trans (s11.trans (s12.trans (s13.trans (s19.trans (s21.trans (s27.trans (s28.trans (s29.trans s30)))))))))))),(Nj.step (s7.trans (s9.trans (s10.trans (s11.trans (s12.trans (s13.trans (s19.trans (s21.trans (s27.trans (s28.trans (s29.trans s30)))))))))))),(EL.step (s7.trans (s9.trans (s10.trans (s11.trans (s12.trans (s13.trans (s19.trans (s21.trans (s27.trans (s28.trans (s29.trans s30)))))))))))),((CR.flat (eA .i64) f25_0).step (s28.trans (s29.trans s30)))⟩ hp
  ·exact av.j12_P (@hC61) rfl rfl rfl rfl ⟨w0,s0,EK,Nj,EL,Nk⟩ hp
def av.pj15 (F:Nat) (ay:asG) (zb:asK) (od:Int) (zd:asL) (tY:Int) (tZ:Int):Option (Int×List Int):=av.pl31421 F ay F zb od zd tY tZ 0 ([]:List Int) 1 (wrap .i64 (od - 1))
theorem av.j15_P  {C61_:asW} {ay:asG} (hC61:av.S61 H0 Ri R0  C61_ ay) {ZX ZY ZZ Nl Nm Bv Nn Z_ aaa aab zb od al3 tY tZ aac aad aae zd} (al4:Nl=zb.length) (al5:Nm=aac.length) (al6:Nn=zd.length) (h0:Out H0 Ri H (Rs.own ⟨ZY,Nm,aaa⟩ eI.z aad::Rs.blk Bv [.i al3,.sl ⟨ZY,Nm,aaa⟩]::Rs.own ⟨ZZ,Nn,aab⟩ (ac eI (eSl eI)).z aae::R0) λR=>ROs (eSl (ac eI (eSl eI))) H R ⟨ZX,Nl,Z_⟩ zb/\CR eI H R aad aac/\CR (ac eI (eSl eI)) H R aae zd) {r:asv} (hp:av.pj15 F ay zb od zd tY tZ=some r):Rt (av.j15 F (aI.tw F) (aJ.tw F) C61_ ⟨ZX,Nl,Z_⟩ od Bv 0 ⟨ZZ,Nn,aab⟩ tY tZ H) (av.Q H0 Ri R0  r):=by
 obtain ⟨w0,s0,al7,al8,al9⟩:=h0
 subst al4
 subst al5
 subst al6
 unfold av.pj15 at hp
 unfold av.j15
 refine aR w0 λH1 w1 s1=>?_
 refine aq w1 0 λH2 w2 s2=>?_
 refine aq w2 0 λH3 w3 s3=>?_
 obtain ⟨w4,s4⟩:=w3.nilS eI.z (by decide)
 obtain ⟨w5,s5⟩:=w4.pp [2,3,4,0,1] 5
 exact av.l31421_P (@hC61) F rfl rfl rfl rfl ⟨w5,(s0.trans (s1.trans (s2.trans (s3.trans (s4.trans s5))))),(al7.step (s1.trans (s2.trans (s3.trans (s4.trans s5))))),(al8.step (s1.trans (s2.trans (s3.trans (s4.trans s5))))),(al9.step (s1.trans (s2.trans (s3.trans (s4.trans s5))))),((CR.empty:CR eI _ _ [] []).step s5)⟩ hp
def av.pl3925 (F:Nat) (ay:asG):Nat->List ((List (Int×List Int)))->Int->List (Int×List Int)->Int->Int->Int->Option (Int×List Int)
 | 0,_,_,_,_,_,_=>none
 | k+1,qW,jw,qX,jx,kB,iv=>(bif (decide (iv<jw)) then ((if (IntKind.u64.wrap iv)<0 then none else (av.pl3925 F ay k qW jw qX jx (wrap .i64 (kB+(Go.bits .and .i64 (Int.fdiv jx (2 ^ (min ((IntKind.u64.wrap iv):Int).toNat (IntKind.i64).bits))) 1))) (wrap .i64 (iv+1))))) else (av.pj15 F ay qW jw qX jx kB))
theorem av.l3925_P  {C61_:asW} {ay:asG} (hC61:av.S61 H0 Ri R0  C61_ ay):∀ k,av.S3925 H0 Ri R0  (av.l3925 F (aI.tw F) (aJ.tw F) C61_ k) (av.pl3925 F ay k):=by
 intro k
 induction k with
 | zero=>unfold av.S3925;intros;rename_i hp;cases hp
 | succ k ih=>
  intro Mz MA MB EA EB oe EC MC MD ME qW jw Zb jx kB iv MF MG MH qX H al_ ama amb h0 r hp
  obtain ⟨w0,s0,aaf,aag,aah⟩:=h0
  subst al_
  subst ama
  subst amb
  unfold av.pl3925 at hp
  unfold av.l3925
  refine aB hp (λhp=>?_) λhp=>?_
  ·obtain ⟨g1,hp⟩:=kl hp
   refine kn g1 ?_
   exact ih rfl rfl rfl ⟨w0,s0,aaf,aag,aah⟩ hp
  ·exact av.j15_P (@hC61) rfl rfl rfl ⟨w0,s0,aaf,aag,aah⟩ hp
def av.pj8 (F:Nat)  (ob:Int) (q_:asL):Option (Int×List Int):=(if (IntKind.u64.wrap ob)<0 then none else ((ix q_ (wrap .i64 ((wrap .i64 (1 * 2 ^ (min ((IntKind.u64.wrap ob):Int).toNat (IntKind.i64).bits))) - 1))).bind λn2=>some (((gt q_ n2).1),(gt q_ n2).2)))
theorem av.j8_P   {ob amc aai aaj No pM Np aak aal aam aan aao q_} (amd:No=aam.length) (ame:Np=q_.length) (h0:Out H0 Ri H (Rs.own ⟨aai,No,aak⟩ eI.z aan::Rs.blk pM [.i amc,.sl ⟨aai,No,aak⟩]::Rs.own ⟨aaj,Np,aal⟩ (ac eI (eSl eI)).z aao::R0) λR=>CR eI H R aan aam/\CR (ac eI (eSl eI)) H R aao q_) {r:asv} (hp:av.pj8 F  ob q_=some r):Rt (av.j8 F (aI.tw F) (aJ.tw F)  ob pM 0 ⟨aaj,Np,aal⟩ H) (av.Q H0 Ri R0  r):=by
 obtain ⟨w0,s0,arU,amf⟩:=h0
 subst amd
 subst ame
 unfold av.pj8 at hp
 unfold av.j8
 obtain ⟨g1,hp⟩:=kl hp
 refine kn g1 ?_
 obtain ⟨n2,g2,hp⟩:=ag hp
 obtain ⟨p2,q2,i2,h2,j2⟩:=W.ixo (E:=(ac eI (eSl eI))) w0 (i:=2) rfl rfl amf g2
 refine ai i2 ?_
 obtain ⟨_,_,rfl,rfl,⟨⟨amg,m2_1,c2_1⟩,rfl,f2_1⟩⟩:=h2
 obtain rfl:m2_1=_:=f2_1.n
 refine ai (aG (j2 0 _ rfl)) ?_
 refine ai (iU (j2 1 _ rfl)) ?_
 refine aq w0 1 λH3 w3 s3=>?_
 refine aq w3 1 λH4 w4 s4=>?_
 refine lI w4 1 ?_
 refine lSl w4 1 ?_
 obtain ⟨w5,s5⟩:=w4.pp [] 3
 exact aw hp ⟨_,_,_,rfl,rfl,w5,(s0.trans (s3.trans (s4.trans s5))),(f2_1.step (s3.trans (s4.trans s5)))⟩
def av.pl61 (F:Nat) :Nat->List ((List (Int×List Int)))->Int->List (Int×List Int)->Int->Option (Int×List Int)
 | 0,_,_,_,_=>none
 | k+1,wb,eo,qV,kC=>(if (IntKind.u64.wrap eo)<0 then none else ((bif (decide (kC<(wrap .i64 (1 * 2 ^ (min ((IntKind.u64.wrap eo):Int).toNat (IntKind.i64).bits))))) then (av.pl3925 F (av.pl61 F k) F wb eo qV kC (-1) 0) else (av.pj8 F eo qV))))
theorem av.l61_P  :∀ k,av.S61 H0 Ri R0  (av.l61 F (aI.tw F) (aJ.tw F)  k) (av.pl61 F  k):=by
 intro k
 induction k with
 | zero=>unfold av.S61;intros;rename_i hp;cases hp
 | succ k ih=>
  intro Mq Mr Ms Ex Ey dQ Ez Mt Mu Mv wb eo Za kC Mw Mx My qV H amh ami amj h0 r hp
  obtain ⟨w0,s0,amk,aap,aaq⟩:=h0
  subst amh
  subst ami
  subst amj
  unfold av.pl61 at hp
  unfold av.l61
  obtain ⟨g1,hp⟩:=kl hp
  refine kn g1 ?_
  refine aB hp (λhp=>?_) λhp=>?_
  ·exact av.l3925_P (@ih) F rfl rfl rfl ⟨w0,s0,amk,aap,aaq⟩ hp
  ·exact av.j8_P rfl rfl ⟨w0,s0,aap,aaq⟩ hp
def av.p (F:Nat) (ah:asK) (au:Int):Option (Int×List Int):=(if (IntKind.u64.wrap au)<0 then none else ((mkn (wrap .i64 (1 * 2 ^ (min ((IntKind.u64.wrap au):Int).toNat (IntKind.i64).bits))) ((0:Int),([]:List Int))).bind λl3=>(ix l3 0).bind λn6=>(some (l3.set n6 (0,(gt l3 n6).2))).bind λl7=>(some (l7.set n6 ((gt l7 n6).1,([1]:List Int)))).bind λl10=>av.pl61 F F ah au l10 1))
theorem av.P {az aj aA ah au} (aT:aj=ah.length) (h0:Inn H R0 λR=>ROs (eSl (ac eI (eSl eI))) H R ⟨az,aj,aA⟩ ah) {r:asv} (hp:av.p F ah au=some r):Rt (av.tw F ⟨az,aj,aA⟩ au H) (av.Q H R0 R0  r):=by
 obtain ⟨w0,aK⟩:=h0
 subst aT
 unfold av.p at hp
 unfold av.tw av.twX
 have s0:=w0.rf
 refine aR w0 λH1 w1 s1=>?_
 obtain ⟨g2,hp⟩:=kl hp
 refine kn g2 ?_
 obtain ⟨l3,e3,hp⟩:=ag hp
 refine kj (ac eI (eSl eI)) ((0:Int),([]:List Int)) w1 ⟨[_],_,rfl,rfl,⟨_,rfl,ROs.nil⟩⟩ rfl rfl e3 λH4 k4 w4 s4 c4=>?_
 refine cO eI w4 (n:=1) (l:=([1]:List Int)) rfl (CR.cons1 rfl CR.empty) rfl λH5 w5 s5 c5=>?_
 obtain ⟨n6,g6,hp⟩:=ag hp
 obtain ⟨p6,q6,i6,h6,j6⟩:=W.ixo (E:=(ac eI (eSl eI))) w5 (i:=1) rfl rfl (c4.step s5) g6
 refine ai i6 ?_
 obtain ⟨l7,e7,hp⟩:=ag hp
 refine de (ac eI (eSl eI)) w5 (i:=1) (j:=0) (p:=p6) rfl rfl (c4.step s5) g6 i6 e7 rfl rfl (λ_ h=>by obtain ⟨_,_,rfl,rfl,⟨_,rfl,q1⟩⟩:=h;exact ⟨[_],_,rfl,rfl,⟨_,rfl,q1⟩⟩) λH8 k8 w8 s8 c8=>?_
 obtain ⟨w9,s9,f9⟩:=w8.frz (i:=0) eI rfl (c5.step s8)
 obtain ⟨l10,e10,hp⟩:=ag hp
 refine de (ac eI (eSl eI)) w9 (i:=0) (j:=1) (p:=p6) rfl rfl (c8.step s9) (mG g6 (cj e7)) i6 e10 rfl rfl (λ_ h=>by obtain ⟨_,_,rfl,rfl,⟨_,rfl,q1⟩⟩:=h;exact ⟨[_],_,rfl,rfl,⟨_,rfl,f9⟩⟩) λH11 k11 w11 s11 c11=>?_
 obtain ⟨w12,s12⟩:=w11.nilS eI.z (by decide)
 obtain ⟨w13,s13⟩:=w12.pp [0,2,1] 3
 exact av.l61_P F rfl rfl ((cj e7).symm.trans (cj e10).symm) ⟨w13,(s0.trans (s1.trans (s4.trans (s5.trans (s8.trans (s9.trans (s11.trans (s12.trans s13)))))))),(aK.step (s1.trans (s4.trans (s5.trans (s8.trans (s9.trans (s11.trans (s12.trans s13)))))))),((CR.empty:CR eI _ _ [] []).step s13),(c11.step (s12.trans s13))⟩ hp
def bU.Q (H0:Hp) (Ri R0:asp)  (r:Bool) (v:AV) (H':Hp):Prop:=v=(.bool r)/\Out H0 Ri H' (R0) λR=>True
def bU.S125 (H0:Hp) (Ri R0:asp)  (C:Nat->Nat->Int->Hp->OA) (pC:List Int->Int->Option (Bool)):Prop:=∀ {aar fW Nq EM mW Nr ny},∀ {H:Hp},EM=ny.length->(Out H0 Ri H (Rs.blk mW [.i aar,.sl ⟨Nq,EM,Nr⟩]::R0) λR=>ROs eI H R ⟨Nq,EM,Nr⟩ ny)->∀ {r:Bool},pC ny fW=some r->Rt (C mW 0 fW H) (bU.Q H0 Ri R0  r)
def bU.pl125 (F:Nat) :Nat->List Int->Int->Option (Bool)
 | 0,_,_=>none
 | k+1,ny,fW=>(bif (decide (fW<(ny.length:Int))) then ((ix ny fW).bind λn1=>(cV.p F (gt ny n1) (-1000000000000) 1000000000000).bind λr2=>(bif (!r2) then (some false) else (bU.pl125 F k ny (wrap .i64 (fW+1))))) else (some true))
theorem bU.l125_P  :∀ k,bU.S125 H0 Ri R0  (bU.l125 F (cV.tw F)  k) (bU.pl125 F  k):=by
 intro k
 induction k with
 | zero=>unfold bU.S125;intros;rename_i hp;cases hp
 | succ k ih=>
  intro aar fW Nq EM mW Nr ny H aml h0 r hp
  obtain ⟨w0,s0,aas⟩:=h0
  subst aml
  unfold bU.pl125 at hp
  unfold bU.l125
  refine lSl w0 0 ?_
  refine aB hp (λhp=>?_) λhp=>?_
  ·refine lSl w0 0 ?_
   obtain ⟨n1,g1,hp⟩:=ag hp
   obtain ⟨p1,q1,i1,h1,j1⟩:=ROs.ixr aas rfl g1
   refine ai i1 ?_
   have h1:_=[_]:=h1
   subst h1
   refine ai (aG (j1 0 _ rfl)) ?_
   obtain ⟨r2,e2,hp⟩:=ag hp
   refine aE (cV.P ⟨w0,trivial⟩ e2) ?_
   rintro _ H3 ⟨rfl,w3,s3,_⟩
   refine br ?_
   refine aB hp (λhp=>?_) λhp=>?_
   ·obtain ⟨w4,s4⟩:=w3.pp [] 1
    exact aw hp ⟨rfl,w4,(s0.trans (s3.trans s4)),trivial⟩
   ·exact ih rfl ⟨w3,(s0.trans s3),(aas.step s3)⟩ hp
  ·obtain ⟨w5,s5⟩:=w0.pp [] 1
   exact aw hp ⟨rfl,w5,(s0.trans s5),trivial⟩
def bU.p (F:Nat) (aa:Int) (aF:asr):Option (Bool):=(bif ((aF.length:Int)==0) then (some (aa==0)) else ((bif (decide ((aF.length:Int)>160)) then (some false) else ((cV.p F aa (-240) 240).bind λr4=>(bif (!r4) then (some false) else ((bif (decide ((wrap .i64 ((wrap .i64 (aa+(aF.length:Int))) - 1))>240)) then (some false) else ((ix aF 0).bind λn8=>(bif ((gt aF n8)==0) then (some false) else ((ix aF (wrap .i64 ((aF.length:Int) - 1))).bind λn10=>(bif ((gt aF n10)==0) then (some false) else (bU.pl125 F F aF 0))))))))))))
theorem bU.P {aa bV bq bW aF} (dk:bq=aF.length) (h0:Inn H R0 λR=>ROs eI H R ⟨bV,bq,bW⟩ aF) {r:Bool} (hp:bU.p F aa aF=some r):Rt (bU.tw F aa ⟨bV,bq,bW⟩ H) (bU.Q H R0 R0  r):=by
 obtain ⟨w0,cF⟩:=h0
 subst dk
 unfold bU.p at hp
 unfold bU.tw bU.twX
 have s0:=w0.rf
 refine aR w0 λH1 w1 s1=>?_
 refine lSl w1 0 ?_
 refine aB hp (λhp=>?_) λhp=>?_
 ·refine lI w1 0 ?_
  obtain ⟨w2,s2⟩:=w1.pp [] 1
  exact aw hp ⟨rfl,w2,(s0.trans (s1.trans s2)),trivial⟩
 ·refine aB hp (λhp=>?_) λhp=>?_
  ·obtain ⟨w3,s3⟩:=w1.pp [] 1
   exact aw hp ⟨rfl,w3,(s0.trans (s1.trans s3)),trivial⟩
  ·refine lI w1 0 ?_
   obtain ⟨r4,e4,hp⟩:=ag hp
   refine aE (cV.P ⟨w1,trivial⟩ e4) ?_
   rintro _ H5 ⟨rfl,w5,s5,_⟩
   refine br ?_
   refine aB hp (λhp=>?_) λhp=>?_
   ·obtain ⟨w6,s6⟩:=w5.pp [] 1
    exact aw hp ⟨rfl,w6,(s0.trans (s1.trans (s5.trans s6))),trivial⟩
   ·refine lI w5 0 ?_
    refine aB hp (λhp=>?_) λhp=>?_
    ·obtain ⟨w7,s7⟩:=w5.pp [] 1
     exact aw hp ⟨rfl,w7,(s0.trans (s1.trans (s5.trans s7))),trivial⟩
    ·refine lSl w5 0 ?_
     obtain ⟨n8,g8,hp⟩:=ag hp
     obtain ⟨p8,q8,i8,h8,j8⟩:=ROs.ixr (cF.step (s1.trans s5)) rfl g8
     refine ai i8 ?_
     have h8:_=[_]:=h8
     subst h8
     refine ai (aG (j8 0 _ rfl)) ?_
     refine aB hp (λhp=>?_) λhp=>?_
     ·obtain ⟨w9,s9⟩:=w5.pp [] 1
      exact aw hp ⟨rfl,w9,(s0.trans (s1.trans (s5.trans s9))),trivial⟩
     ·refine lSl w5 0 ?_
      obtain ⟨n10,g10,hp⟩:=ag hp
      obtain ⟨p10,q10,i10,h10,j10⟩:=ROs.ixr (cF.step (s1.trans s5)) rfl g10
      refine ai i10 ?_
      have h10:_=[_]:=h10
      subst h10
      refine ai (aG (j10 0 _ rfl)) ?_
      refine aB hp (λhp=>?_) λhp=>?_
      ·obtain ⟨w11,s11⟩:=w5.pp [] 1
       exact aw hp ⟨rfl,w11,(s0.trans (s1.trans (s5.trans s11))),trivial⟩
      ·exact bU.l125_P F rfl ⟨w5,(s0.trans (s1.trans s5)),(cF.step (s1.trans s5))⟩ hp
def bo.Q (H0:Hp) (Ri R0:asp)  (r:asv) (v:AV) (H':Hp):Prop:=∃ o1a:ON,∃ o1n:Nat,∃ o1c:Cap,∃ o1k:List AV,v=(.agg [(.i r.1),(.sl ⟨o1a,o1n,o1c⟩)])/\o1n=(r.2).length/\Out H0 Ri H' (Rs.own ⟨o1a,o1n,o1c⟩ eI.z o1k::R0) λR=>CR eI H' R o1k (r.2)
def bo.S61 (H0:Hp) (Ri R0:asp)  (C:atr) (pC:atD):Prop:=∀ {aat nu ra fF Ns qR Nt EN kD nv fm EO ir Nu qS Nv jQ lL oY Nw Nx},∀ {H:Hp},EN=jQ.length->nv=lL.length->EO=oY.length->(Out H0 Ri H (Rs.blk kD [.i aat,.sl ⟨Ns,EN,Nu⟩]::Rs.own ⟨qR,nv,qS⟩ eI.z Nw::Rs.blk fm [.i nu,.sl ⟨qR,nv,qS⟩]::Rs.own ⟨Nt,EO,Nv⟩ eI.z Nx::Rs.blk ir [.i ra,.sl ⟨Nt,EO,Nv⟩]::R0) λR=>ROs eI H R ⟨Ns,EN,Nu⟩ jQ/\CR eI H R Nw lL/\CR eI H R Nx oY)->∀ {r:asv},pC jQ ra oY fF=some r->Rt (C kD 0 fm 0 ir 0 fF H) (bo.Q H0 Ri R0  r)
def bo.pj2 (F:Nat) (ay:atD) (ze:asr) (EP:Int) (zf:asr) (ua:Int) (og:Int):Option (Int×List Int):=(apn zf ([og]:List Int)).bind λl2=>ay ze EP l2 (wrap .i64 (ua+1))
theorem bo.j2_P  {C61_:atr} {ay:atD} (hC61:bo.S61 H0 Ri R0  C61_ ay) {amm amn EP ua og aau aav aaw Ny BA Nz BB NA t_ aax aay aaz ze aaA zf aaB aaC} (amo:Ny=ze.length) (amp:Nz=aaA.length) (amq:NA=zf.length) (h0:Out H0 Ri H (Rs.blk BA [.i amm,.sl ⟨aau,Ny,aax⟩]::Rs.own ⟨aav,Nz,aay⟩ eI.z aaB::Rs.blk BB [.i amn,.sl ⟨aav,Nz,aay⟩]::Rs.own ⟨aaw,NA,aaz⟩ eI.z aaC::Rs.blk t_ [.i EP,.sl ⟨aaw,NA,aaz⟩]::R0) λR=>ROs eI H R ⟨aau,Ny,aax⟩ ze/\CR eI H R aaB aaA/\CR eI H R aaC zf) {r:asv} (hp:bo.pj2 F ay ze EP zf ua og=some r):Rt (bo.j2 F (bU.tw F) C61_ BA 0 BB 0 t_ 0 ua og H) (bo.Q H0 Ri R0  r):=by
 obtain ⟨w0,s0,amr,ams,amt⟩:=h0
 subst amo
 subst amp
 subst amq
 unfold bo.pj2 at hp
 unfold bo.j2
 refine lSl w0 4 ?_
 refine cO eI w0 (n:=1) (l:=([og]:List Int)) rfl (CR.cons1 rfl CR.empty) rfl λH1 w1 s1 c1=>?_
 refine ai (w1.rowo (i:=0) rfl) ?_
 obtain ⟨l2,e2,hp⟩:=ag hp
 refine fM eI w1 (i:=4) rfl rfl (amt.step s1) c1 (show 1=List.length ([og]:List Int) from rfl) rfl e2 λa3 d3 H3 w3 s3 c3 x3=>?_
 refine aq w3 5 λH4 w4 s4=>?_
 obtain ⟨w5,s5⟩:=w4.pp [1,2,3,4,5] 6
 exact hC61 rfl rfl rfl ⟨w5,(s0.trans (s1.trans (s3.trans (s4.trans s5)))),(amr.step (s1.trans (s3.trans (s4.trans s5)))),(ams.step (s1.trans (s3.trans (s4.trans s5)))),(c3.step (s4.trans s5))⟩ hp
def bo.pl61 (F:Nat) :Nat->List Int->Int->List Int->Int->Option (Int×List Int)
 | 0,_,_,_,_=>none
 | k+1,jQ,ra,oY,fF=>(bif (decide (fF<(jQ.length:Int))) then ((ix jQ fF).bind λn1=>(ix jQ 0).bind λn2=>(bif (decide ((gt jQ n2)<0)) then (bo.pj2 F (bo.pl61 F k) jQ ra oY fF (wrap .i64 (0 - (gt jQ n1)))) else (bo.pj2 F (bo.pl61 F k) jQ ra oY fF (gt jQ n1)))) else (some (ra,oY)))
theorem bo.l61_P  :∀ k,bo.S61 H0 Ri R0  (bo.l61 F (bU.tw F)  k) (bo.pl61 F  k):=by
 intro k
 induction k with
 | zero=>unfold bo.S61;intros;rename_i hp;cases hp
 | succ k ih=>
  intro aat nu ra fF Ns qR Nt EN kD nv fm EO ir Nu qS Nv jQ lL oY Nw Nx H amu Mp amv h0 r hp
  obtain ⟨w0,s0,EQ,yR,NB⟩:=h0
  subst amu
  subst Mp
  subst amv
  unfold bo.pl61 at hp
  unfold bo.l61
  refine lSl w0 0 ?_
  refine aB hp (λhp=>?_) λhp=>?_
  ·refine lSl w0 0 ?_
   obtain ⟨n1,g1,hp⟩:=ag hp
   obtain ⟨p1,q1,i1,h1,j1⟩:=ROs.ixr EQ rfl g1
   refine ai i1 ?_
   have h1:_=[_]:=h1
   subst h1
   refine ai (aG (j1 0 _ rfl)) ?_
   refine lSl w0 0 ?_
   obtain ⟨n2,g2,hp⟩:=ag hp
   obtain ⟨p2,q2,i2,h2,j2⟩:=ROs.ixr EQ rfl g2
   refine ai i2 ?_
   have h2:_=[_]:=h2
   subst h2
   refine ai (aG (j2 0 _ rfl)) ?_
   refine aB hp (λhp=>?_) λhp=>?_
   ·exact bo.j2_P (@ih) rfl rfl rfl ⟨w0,s0,EQ,yR,NB⟩ hp
   ·exact bo.j2_P (@ih) rfl rfl rfl ⟨w0,s0,EQ,yR,NB⟩ hp
  ·refine lI w0 4 ?_
   refine lSl w0 4 ?_
   refine aq w0 2 λH3 w3 s3=>?_
   refine aq w3 2 λH4 w4 s4=>?_
   refine lI w4 2 ?_
   refine lSl w4 2 ?_
   obtain ⟨w5,s5⟩:=w4.pp [3] 5
   exact aw hp ⟨_,_,_,_,rfl,rfl,w5,(s0.trans (s3.trans (s4.trans s5))),(NB.step (s3.trans (s4.trans s5)))⟩
def bo.p (F:Nat) (aa:Int) (aF:asr):Option (Int×List Int):=(bU.p F aa aF).bind λr3=>(bif (!r3) then (some (0,([]:List Int))) else ((bif ((aF.length:Int)==0) then (some (0,([]:List Int))) else (bo.pl61 F F aF 0 ([]:List Int) 0))))
theorem bo.P {aa bV bq bW aF} (dk:bq=aF.length) (h0:Inn H R0 λR=>ROs eI H R ⟨bV,bq,bW⟩ aF) {r:asv} (hp:bo.p F aa aF=some r):Rt (bo.tw F aa ⟨bV,bq,bW⟩ H) (bo.Q H R0 R0  r):=by
 obtain ⟨w0,cF⟩:=h0
 subst dk
 unfold bo.p at hp
 unfold bo.tw bo.twX
 have s0:=w0.rf
 refine aR w0 λH1 w1 s1=>?_
 refine aR w1 λH2 w2 s2=>?_
 refine lI w2 1 ?_
 refine lSl w2 1 ?_
 obtain ⟨r3,e3,hp⟩:=ag hp
 refine aE (bU.P rfl ⟨w2,(cF.step (s1.trans s2))⟩ e3) ?_
 rintro _ H4 ⟨rfl,w4,s4,_⟩
 refine br ?_
 refine aB hp (λhp=>?_) λhp=>?_
 ·refine aq w4 0 λH5 w5 s5=>?_
  refine aq w5 0 λH6 w6 s6=>?_
  refine lI w6 0 ?_
  refine lSl w6 0 ?_
  obtain ⟨w7,s7⟩:=w6.nilS eI.z (by decide)
  obtain ⟨w8,s8⟩:=w7.pp [0] 3
  exact aw hp ⟨_,_,_,_,rfl,rfl,w8,(s0.trans (s1.trans (s2.trans (s4.trans (s5.trans (s6.trans (s7.trans s8))))))),((CR.empty:CR eI _ _ [] []).step s8)⟩
 ·refine lSl w4 1 ?_
  refine aB hp (λhp=>?_) λhp=>?_
  ·refine aq w4 0 λH9 w9 s9=>?_
   refine aq w9 0 λH10 w10 s10=>?_
   refine lI w10 0 ?_
   refine lSl w10 0 ?_
   obtain ⟨w11,s11⟩:=w10.nilS eI.z (by decide)
   obtain ⟨w12,s12⟩:=w11.pp [0] 3
   exact aw hp ⟨_,_,_,_,rfl,rfl,w12,(s0.trans (s1.trans (s2.trans (s4.trans (s9.trans (s10.trans (s11.trans s12))))))),((CR.empty:CR eI _ _ [] []).step s12)⟩
  ·refine aR w4 λH13 w13 s13=>?_
   refine aq w13 0 λH14 w14 s14=>?_
   refine aq w14 0 λH15 w15 s15=>?_
   obtain ⟨w16,s16⟩:=w15.nilS eI.z (by decide)
   obtain ⟨w17,s17⟩:=w16.nilS eI.z (by decide)
   obtain ⟨w18,s18⟩:=w17.pp [4,1,3,0,2] 5
   exact bo.l61_P F rfl rfl rfl ⟨w18,(s0.trans (s1.trans (s2.trans (s4.trans (s13.trans (s14.trans (s15.trans (s16.trans (s17.trans s18))))))))),(cF.step (s1.trans (s2.trans (s4.trans (s13.trans (s14.trans (s15.trans (s16.trans (s17.trans s18))))))))),((CR.empty:CR eI _ _ [] []).step (s17.trans s18)),((CR.empty:CR eI _ _ [] []).step s18)⟩ hp
def er.Q (H0:Hp) (Ri R0:asp)  (r:asv) (v:AV) (H':Hp):Prop:=∃ o1a:ON,∃ o1n:Nat,∃ o1c:Cap,∃ o1k:List AV,v=(.agg [(.i r.1),(.sl ⟨o1a,o1n,o1c⟩)])/\o1n=(r.2).length/\Out H0 Ri H' (Rs.own ⟨o1a,o1n,o1c⟩ eI.z o1k::R0) λR=>CR eI H' R o1k (r.2)
def er.p (F:Nat) (ah:asy) (af:Int):Option (Int×List Int):=(ak.p F ah af).bind λr3=>(bif ((ah.length:Int) != r3.2) then ((bif ((ah.length:Int) != (wrap .i64 (r3.2 - 1))) then (some (0,([]:List Int))) else ((a_.p F ah af).bind λr9=>(av.p F r9 (wrap .i64 (r3.2 - 1))).bind λr12=>(bo.p F r12.1 r12.2).bind λr14=>some (r14.1,r14.2)))) else ((a_.p F ah af).bind λr19=>(av.p F r19 (wrap .i64 (r3.2 - 1))).bind λr22=>(bo.p F r22.1 r22.2).bind λr24=>some (r24.1,r24.2)))
theorem er.P {az aj aA ah af} (aT:aj=ah.length) (h0:Inn H R0 λR=>ROs (ac eI (ac eI (ac eI (ac eI eI)))) H R ⟨az,aj,aA⟩ ah) {r:asv} (hp:er.p F ah af=some r):Rt (er.tw F ⟨az,aj,aA⟩ af H) (er.Q H R0 R0  r):=by
 obtain ⟨w0,aK⟩:=h0
 subst aT
 unfold er.p at hp
 unfold er.tw er.twX
 have s0:=w0.rf
 refine aR w0 λH1 w1 s1=>?_
 refine aR w1 λH2 w2 s2=>?_
 refine lSl w2 1 ?_
 refine lI w2 1 ?_
 obtain ⟨r3,e3,hp⟩:=ag hp
 refine aE (ak.P rfl ⟨w2,(aK.step (s1.trans s2))⟩ e3) ?_
 rintro _ H4 ⟨o0a_4,o0n_4,o0c_4,o0k_4,rfl,rfl,w4,s4,f4_0⟩
 refine br (br (br (br (br ?_))))
 refine lSl w4 2 ?_
 refine aB hp (λhp=>?_) λhp=>?_
 ·refine aB hp (λhp=>?_) λhp=>?_
  ·refine aq w4 1 λH5 w5 s5=>?_
   refine aq w5 1 λH6 w6 s6=>?_
   refine lI w6 1 ?_
   refine lSl w6 1 ?_
   obtain ⟨w7,s7⟩:=w6.nilS eI.z (by decide)
   obtain ⟨w8,s8⟩:=w7.pp [0] 4
   exact aw hp ⟨_,_,_,_,rfl,rfl,w8,(s0.trans (s1.trans (s2.trans (s4.trans (s5.trans (s6.trans (s7.trans s8))))))),((CR.empty:CR eI _ _ [] []).step s8)⟩
  ·refine lSl w4 2 ?_
   refine lI w4 2 ?_
   obtain ⟨r9,e9,hp⟩:=ag hp
   refine aE (a_.P rfl ⟨w4,(aK.step (s1.trans (s2.trans s4)))⟩ e9) ?_
   rintro _ H10 ⟨o0a_10,o0n_10,o0c_10,o0k_10,rfl,rfl,w10,s10,f10_0⟩
   refine br ?_
   obtain ⟨w11,s11,f11⟩:=w10.frz (i:=0) (eSl (ac eI (eSl eI))) rfl f10_0
   obtain ⟨r12,e12,hp⟩:=ag hp
   refine aE (av.P rfl ⟨w11,f11⟩ e12) ?_
   rintro _ H13 ⟨o1a_13,o1n_13,o1c_13,rfl,rfl,w13,s13,f13_0⟩
   refine br (br (br (br (br ?_))))
   obtain ⟨r14,e14,hp⟩:=ag hp
   refine aE (bo.P rfl ⟨w13,f13_0⟩ e14) ?_
   rintro _ H15 ⟨o1a_15,o1n_15,o1c_15,o1k_15,rfl,rfl,w15,s15,f15_0⟩
   refine br (br (br (br (br ?_))))
   refine aq w15 2 λH16 w16 s16=>?_
   refine aq w16 2 λH17 w17 s17=>?_
   refine lI w17 2 ?_
   refine lSl w17 2 ?_
   obtain ⟨w18,s18⟩:=w17.pp [0] 4
   exact aw hp ⟨_,_,_,_,rfl,rfl,w18,(s0.trans (s1.trans (s2.trans (s4.trans (s10.trans (s11.trans (s13.trans (s15.trans (s16.trans (s17.trans s18)))))))))),(f15_0.step (s16.trans (s17.trans s18)))⟩
 ·refine lSl w4 2 ?_
  refine lI w4 2 ?_
  obtain ⟨r19,e19,hp⟩:=ag hp
  refine aE (a_.P rfl ⟨w4,(aK.step (s1.trans (s2.trans s4)))⟩ e19) ?_
  rintro _ H20 ⟨o0a_20,o0n_20,o0c_20,o0k_20,rfl,rfl,w20,s20,f20_0⟩
  refine br ?_
  obtain ⟨w21,s21,f21⟩:=w20.frz (i:=0) (eSl (ac eI (eSl eI))) rfl f20_0
  obtain ⟨r22,e22,hp⟩:=ag hp
  refine aE (av.P rfl ⟨w21,f21⟩ e22) ?_
  rintro _ H23 ⟨o1a_23,o1n_23,o1c_23,rfl,rfl,w23,s23,f23_0⟩
  refine br (br (br (br (br ?_))))
  obtain ⟨r24,e24,hp⟩:=ag hp
  refine aE (bo.P rfl ⟨w23,f23_0⟩ e24) ?_
  rintro _ H25 ⟨o1a_25,o1n_25,o1c_25,o1k_25,rfl,rfl,w25,s25,f25_0⟩
  refine br (br (br (br (br ?_))))
  refine aq w25 2 λH26 w26 s26=>?_
  refine aq w26 2 λH27 w27 s27=>?_
  refine lI w27 2 ?_
  refine lSl w27 2 ?_
  obtain ⟨w28,s28⟩:=w27.pp [0] 4
  exact aw hp ⟨_,_,_,_,rfl,rfl,w28,(s0.trans (s1.trans (s2.trans (s4.trans (s20.trans (s21.trans (s23.trans (s25.trans (s26.trans (s27.trans s28)))))))))),(f25_0.step (s26.trans (s27.trans s28)))⟩
def eK.Q (H0:Hp) (Ri R0:asp)  (r:asJ) (v:AV) (H':Hp):Prop:=∃ o1a:ON,∃ o1n:Nat,∃ o1c:Cap,∃ o1k:List AV,v=(.tup [(.agg [(.i r.1),(.sl ⟨o1a,o1n,o1c⟩)]),(.i r.2.2)])/\o1n=(r.2.1).length/\Out H0 Ri H' (Rs.own ⟨o1a,o1n,o1c⟩ eI.z o1k::R0) λR=>CR eI H' R o1k (r.2.1)
def eK.p (F:Nat) (ah:asy) (af:Int):Option (Int×List Int×Int):=(dJ.p F ah af).bind λr3=>(bif (!r3) then (some (0,([]:List Int),1)) else ((bif ((ah.length:Int)==0) then ((bif (af==0) then (some (0,([]:List Int),5)) else ((er.p F ah af).bind λr13=>some (r13.1,r13.2,0)))) else ((er.p F ah af).bind λr18=>some (r18.1,r18.2,0)))))
theorem eK.P {az aj aA ah af} (aT:aj=ah.length) (h0:Inn H R0 λR=>ROs (ac eI (ac eI (ac eI (ac eI eI)))) H R ⟨az,aj,aA⟩ ah) {r:asJ} (hp:eK.p F ah af=some r):Rt (eK.tw F ⟨az,aj,aA⟩ af H) (eK.Q H R0 R0  r):=by
 obtain ⟨w0,aK⟩:=h0
 subst aT
 unfold eK.p at hp
 unfold eK.tw eK.twX
 have s0:=w0.rf
 refine aR w0 λH1 w1 s1=>?_
 refine aR w1 λH2 w2 s2=>?_
 refine lSl w2 1 ?_
 refine lI w2 1 ?_
 obtain ⟨r3,e3,hp⟩:=ag hp
 refine aE (dJ.P rfl ⟨w2,(aK.step (s1.trans s2))⟩ e3) ?_
 rintro _ H4 ⟨rfl,w4,s4,_⟩
 refine br ?_
 refine aB hp (λhp=>?_) λhp=>?_
 ·refine aq w4 0 λH5 w5 s5=>?_
  refine aq w5 0 λH6 w6 s6=>?_
  refine lI w6 0 ?_
  refine lSl w6 0 ?_
  obtain ⟨w7,s7⟩:=w6.nilS eI.z (by decide)
  obtain ⟨w8,s8⟩:=w7.pp [0] 3
  exact aw hp ⟨_,_,_,_,rfl,rfl,w8,(s0.trans (s1.trans (s2.trans (s4.trans (s5.trans (s6.trans (s7.trans s8))))))),((CR.empty:CR eI _ _ [] []).step s8)⟩
 ·refine lSl w4 1 ?_
  refine aB hp (λhp=>?_) λhp=>?_
  ·refine lI w4 1 ?_
   refine aB hp (λhp=>?_) λhp=>?_
   ·refine aq w4 0 λH9 w9 s9=>?_
    refine aq w9 0 λH10 w10 s10=>?_
    refine lI w10 0 ?_
    refine lSl w10 0 ?_
    obtain ⟨w11,s11⟩:=w10.nilS eI.z (by decide)
    obtain ⟨w12,s12⟩:=w11.pp [0] 3
    exact aw hp ⟨_,_,_,_,rfl,rfl,w12,(s0.trans (s1.trans (s2.trans (s4.trans (s9.trans (s10.trans (s11.trans s12))))))),((CR.empty:CR eI _ _ [] []).step s12)⟩
   ·refine lSl w4 1 ?_
    refine lI w4 1 ?_
    obtain ⟨r13,e13,hp⟩:=ag hp
    refine aE (er.P rfl ⟨w4,(aK.step (s1.trans (s2.trans s4)))⟩ e13) ?_
    rintro _ H14 ⟨o1a_14,o1n_14,o1c_14,o1k_14,rfl,rfl,w14,s14,f14_0⟩
    refine br (br (br (br (br ?_))))
    refine aq w14 1 λH15 w15 s15=>?_
    refine aq w15 1 λH16 w16 s16=>?_
    refine lI w16 1 ?_
    refine lSl w16 1 ?_
    obtain ⟨w17,s17⟩:=w16.pp [0] 3
    exact aw hp ⟨_,_,_,_,rfl,rfl,w17,(s0.trans (s1.trans (s2.trans (s4.trans (s14.trans (s15.trans (s16.trans s17))))))),(f14_0.step (s15.trans (s16.trans s17)))⟩
  ·refine lSl w4 1 ?_
   refine lI w4 1 ?_
   obtain ⟨r18,e18,hp⟩:=ag hp
   refine aE (er.P rfl ⟨w4,(aK.step (s1.trans (s2.trans s4)))⟩ e18) ?_
   rintro _ H19 ⟨o1a_19,o1n_19,o1c_19,o1k_19,rfl,rfl,w19,s19,f19_0⟩
   refine br (br (br (br (br ?_))))
   refine aq w19 1 λH20 w20 s20=>?_
   refine aq w20 1 λH21 w21 s21=>?_
   refine lI w21 1 ?_
   refine lSl w21 1 ?_
   obtain ⟨w22,s22⟩:=w21.pp [0] 3
   exact aw hp ⟨_,_,_,_,rfl,rfl,w22,(s0.trans (s1.trans (s2.trans (s4.trans (s19.trans (s20.trans (s21.trans s22))))))),(f19_0.step (s20.trans (s21.trans s22)))⟩
def cR.Q (H0:Hp) (Ri R0:asp)  (r:Int) (v:AV) (H':Hp):Prop:=v=(.i r)/\Out H0 Ri H' (R0) λR=>True
def cR.p (F:Nat) (ah:asy):Option (Int):=some (ah.length:Int)
theorem cR.P {az aj aA ah} (aT:aj=ah.length) (h0:Inn H R0 λR=>ROs (ac eI (ac eI (ac eI (ac eI eI)))) H R ⟨az,aj,aA⟩ ah) {r:Int} (hp:cR.p F ah=some r):Rt (cR.tw F ⟨az,aj,aA⟩ H) (cR.Q H R0 R0  r):=by
 obtain ⟨w0,aK⟩:=h0
 subst aT
 unfold cR.p at hp
 unfold cR.tw cR.twX
 have s0:=w0.rf
 exact aw hp ⟨rfl,w0,s0,trivial⟩
def dy.Q (H0:Hp) (Ri R0:asp)  (r:Bool) (v:AV) (H':Hp):Prop:=v=(.bool r)/\Out H0 Ri H' (R0) λR=>True
def dy.p (F:Nat) (aa:Int) (au:Int) (cQ:Int):Option (Bool):=(bif (decide (au<=aa)) then (some (decide (aa<=cQ))) else (some false))
theorem dy.P {aa au cQ}  (h0:Inn H R0 λR=>True) {r:Bool} (hp:dy.p F aa au cQ=some r):Rt (dy.tw F aa au cQ H) (dy.Q H R0 R0  r):=by
 obtain ⟨w0,_⟩:=h0
 unfold dy.p at hp
 unfold dy.tw dy.twX
 have s0:=w0.rf
 refine aB hp (λhp=>?_) λhp=>?_
 ·exact aw hp ⟨rfl,w0,s0,trivial⟩
 ·exact aw hp ⟨rfl,w0,s0,trivial⟩
def fx.Q (H0:Hp) (Ri R0:asp)  (r:Bool) (v:AV) (H':Hp):Prop:=v=(.bool r)/\Out H0 Ri H' (R0) λR=>True
def fx.p (F:Nat) (bN:Int):Option (Bool):=(bif (bN != 1) then (some (bN != (-1))) else (some false))
theorem fx.P {aa af bX bY bN}  (h0:Inn H R0 λR=>True) {r:Bool} (hp:fx.p F bN=some r):Rt (fx.tw F aa af bX bY bN H) (fx.Q H R0 R0  r):=by
 obtain ⟨w0,_⟩:=h0
 unfold fx.p at hp
 unfold fx.tw fx.twX
 have s0:=w0.rf
 refine aR w0 λH1 w1 s1=>?_
 refine lI w1 0 ?_
 refine aB hp (λhp=>?_) λhp=>?_
 ·refine lI w1 0 ?_
  obtain ⟨w2,s2⟩:=w1.pp [] 1
  exact aw hp ⟨rfl,w2,(s0.trans (s1.trans s2)),trivial⟩
 ·obtain ⟨w3,s3⟩:=w1.pp [] 1
  exact aw hp ⟨rfl,w3,(s0.trans (s1.trans s3)),trivial⟩
def b_.Q (H0:Hp) (Ri R0:asp)  (r:Int) (v:AV) (H':Hp):Prop:=v=(.i r)/\Out H0 Ri H' (R0) λR=>True
def b_.S13 (H0:Hp) (Ri R0:asp)  (C:asz) (pC:List (Int×Int×Int×Int×Int)->Int->Int->Option (Int)):Prop:=∀ {lN jf lO ez dj cB},∀ {H:Hp},jf=ez.length->(Out H0 Ri H R0 λR=>ROs (ac eI (ac eI (ac eI (ac eI eI)))) H R ⟨lN,jf,lO⟩ ez)->∀ {r:Int},pC ez dj cB=some r->Rt (C ⟨lN,jf,lO⟩ dj cB H) (b_.Q H0 Ri R0  r)
def b_.pl13 (F:Nat) :Nat->List (Int×Int×Int×Int×Int)->Int->Int->Option (Int)
 | 0,_,_,_=>none
 | k+1,ez,dj,cB=>(bif (decide (cB<dj)) then ((ix ez cB).bind λn1=>(fx.p F ((gt ez n1).2.2.2.2)).bind λr2=>(bif r2 then (some cB) else (b_.pl13 F k ez dj (wrap .i64 (cB+1))))) else (some (-1)))
theorem b_.l13_P  :∀ k,b_.S13 H0 Ri R0  (b_.l13 F (fx.tw F)  k) (b_.pl13 F  k):=by
 intro k
 induction k with
 | zero=>unfold b_.S13;intros;rename_i hp;cases hp
 | succ k ih=>
  intro lN jf lO ez dj cB H zg h0 r hp
  obtain ⟨w0,s0,oZ⟩:=h0
  subst zg
  unfold b_.pl13 at hp
  unfold b_.l13
  refine aB hp (λhp=>?_) λhp=>?_
  ·obtain ⟨n1,g1,hp⟩:=ag hp
   obtain ⟨p1,q1,i1,h1,j1⟩:=ROs.ixr oZ rfl g1
   refine ai i1 ?_
   obtain ⟨_,_,rfl,rfl,_,_,rfl,rfl,_,_,rfl,rfl,_,_,rfl,rfl,rfl⟩:=h1
   refine ai (aG (j1 0 _ rfl)) ?_
   refine ai (aG (j1 1 _ rfl)) ?_
   refine ai (aG (j1 2 _ rfl)) ?_
   refine ai (aG (j1 3 _ rfl)) ?_
   refine ai (aG (j1 4 _ rfl)) ?_
   obtain ⟨r2,e2,hp⟩:=ag hp
   refine aE (fx.P ⟨w0,trivial⟩ e2) ?_
   rintro _ H3 ⟨rfl,w3,s3,_⟩
   refine br ?_
   refine aB hp (λhp=>?_) λhp=>?_
   ·exact aw hp ⟨rfl,w3,(s0.trans s3),trivial⟩
   ·exact ih rfl ⟨w3,(s0.trans s3),(oZ.step s3)⟩ hp
  ·exact aw hp ⟨rfl,w0,s0,trivial⟩
def b_.p (F:Nat) (ah:asy):Option (Int):=b_.pl13 F F ah (ah.length:Int) 0
theorem b_.P {az aj aA ah} (aT:aj=ah.length) (h0:Inn H R0 λR=>ROs (ac eI (ac eI (ac eI (ac eI eI)))) H R ⟨az,aj,aA⟩ ah) {r:Int} (hp:b_.p F ah=some r):Rt (b_.tw F ⟨az,aj,aA⟩ H) (b_.Q H R0 R0  r):=by
 obtain ⟨w0,aK⟩:=h0
 subst aT
 unfold b_.p at hp
 unfold b_.tw b_.twX
 have s0:=w0.rf
 exact b_.l13_P F rfl ⟨w0,s0,aK⟩ hp
def eL.Q (H0:Hp) (Ri R0:asp)  (r:Bool) (v:AV) (H':Hp):Prop:=v=(.bool r)/\Out H0 Ri H' (R0) λR=>True
def eL.p (F:Nat) (ah:asy):Option (Bool):=(b_.p F ah).bind λr1=>some (decide (r1>=0))
theorem eL.P {az aj aA ah} (aT:aj=ah.length) (h0:Inn H R0 λR=>ROs (ac eI (ac eI (ac eI (ac eI eI)))) H R ⟨az,aj,aA⟩ ah) {r:Bool} (hp:eL.p F ah=some r):Rt (eL.tw F ⟨az,aj,aA⟩ H) (eL.Q H R0 R0  r):=by
 obtain ⟨w0,aK⟩:=h0
 subst aT
 unfold eL.p at hp
 unfold eL.tw eL.twX
 have s0:=w0.rf
 obtain ⟨r1,e1,hp⟩:=ag hp
 refine aE (b_.P rfl ⟨w0,aK⟩ e1) ?_
 rintro _ H2 ⟨rfl,w2,s2,_⟩
 refine br ?_
 exact aw hp ⟨rfl,w2,(s0.trans s2),trivial⟩
def bits_Mul64.Q (H0:Hp) (Ri R0:asp)  (r:asU) (v:AV) (H':Hp):Prop:=v=(.tup [(.int .u64 r.1),(.int .u64 r.2)])/\Out H0 Ri H' (R0) λR=>True
def bits_Mul64.p (F:Nat) (aa:Int) (au:Int):Option (Int×Int):=some ((IntKind.u64.wrap ((IntKind.u64.wrap ((IntKind.u64.wrap ((Int.fdiv aa (2 ^ (min (32:Int).toNat (IntKind.u64).bits))) * (Int.fdiv au (2 ^ (min (32:Int).toNat (IntKind.u64).bits)))))+(Int.fdiv (IntKind.u64.wrap ((IntKind.u64.wrap ((Int.fdiv aa (2 ^ (min (32:Int).toNat (IntKind.u64).bits))) * (Go.bits .and .u64 au 4294967295)))+(Int.fdiv (IntKind.u64.wrap ((Go.bits .and .u64 aa 4294967295) * (Go.bits .and .u64 au 4294967295))) (2 ^ (min (32:Int).toNat (IntKind.u64).bits))))) (2 ^ (min (32:Int).toNat (IntKind.u64).bits)))))+(Int.fdiv (IntKind.u64.wrap ((Go.bits .and .u64 (IntKind.u64.wrap ((IntKind.u64.wrap ((Int.fdiv aa (2 ^ (min (32:Int).toNat (IntKind.u64).bits))) * (Go.bits .and .u64 au 4294967295)))+(Int.fdiv (IntKind.u64.wrap ((Go.bits .and .u64 aa 4294967295) * (Go.bits .and .u64 au 4294967295))) (2 ^ (min (32:Int).toNat (IntKind.u64).bits))))) 4294967295)+(IntKind.u64.wrap ((Go.bits .and .u64 aa 4294967295) * (Int.fdiv au (2 ^ (min (32:Int).toNat (IntKind.u64).bits))))))) (2 ^ (min (32:Int).toNat (IntKind.u64).bits))))),(IntKind.u64.wrap (aa * au)))
theorem bits_Mul64.P {aa au}  (h0:Inn H R0 λR=>True) {r:asU} (hp:bits_Mul64.p F aa au=some r):Rt (bits_Mul64.tw F aa au H) (bits_Mul64.Q H R0 R0  r):=by
 obtain ⟨w0,_⟩:=h0
 unfold bits_Mul64.p at hp
 unfold bits_Mul64.tw bits_Mul64.twX
 have s0:=w0.rf
 exact aw hp ⟨rfl,w0,s0,trivial⟩
def bits_Mul.Q (H0:Hp) (Ri R0:asp)  (r:asU) (v:AV) (H':Hp):Prop:=v=(.tup [(.int .u64 r.1),(.int .u64 r.2)])/\Out H0 Ri H' (R0) λR=>True
def bits_Mul.p (F:Nat) (aa:Int) (au:Int):Option (Int×Int):=(bits_Mul64.p F aa au).bind λr1=>some (r1.1,r1.2)
theorem bits_Mul.P {aa au}  (h0:Inn H R0 λR=>True) {r:asU} (hp:bits_Mul.p F aa au=some r):Rt (bits_Mul.tw F aa au H) (bits_Mul.Q H R0 R0  r):=by
 obtain ⟨w0,_⟩:=h0
 unfold bits_Mul.p at hp
 unfold bits_Mul.tw bits_Mul.twX
 have s0:=w0.rf
 obtain ⟨r1,e1,hp⟩:=ag hp
 refine aE (bits_Mul64.P ⟨w0,trivial⟩ e1) ?_
 rintro _ H2 ⟨rfl,w2,s2,_⟩
 refine br (br (br (br (br ?_))))
 exact aw hp ⟨rfl,w2,(s0.trans s2),trivial⟩
def bw.Q (H0:Hp) (Ri R0:asp)  (r:(List (Int×Int))) (v:AV) (H':Hp):Prop:=∃ o0a:ON,∃ o0n:Nat,∃ o0k:List AV,v=(.sl ⟨o0a,o0n,.ex o0n⟩)/\o0n=(r).length/\Out H0 Ri H' (Rs.own ⟨o0a,o0n,.ex o0n⟩ (ac eI eI).z o0k::R0) λR=>CR (ac eI eI) H' R o0k (r)
def bw.pj1 (F:Nat)  (wd:asN) (pT:Int):Option ((List (Int×Int))):=(mkn (wrap .i64 pT) ((0:Int),(0:Int))).bind λl1=>(some (cpl l1 wd)).bind λl3=>(wG F l3 ((min wd.length l1.length:Nat):Int)).bind λl5=>some l5
theorem bw.j1_P   {aaD NC aaE wd pT} (amw:NC=wd.length) (h0:Out H0 Ri H R0 λR=>ROs (ac eI eI) H R ⟨aaD,NC,aaE⟩ wd) {r:(List (Int×Int))} (hp:bw.pj1 F  wd pT=some r):Rt (bw.j1 F (bits_Mul.tw F)  ⟨aaD,NC,aaE⟩ pT H) (bw.Q H0 Ri R0  r):=by
 obtain ⟨w0,s0,amx⟩:=h0
 subst amw
 unfold bw.pj1 at hp
 unfold bw.j1
 obtain ⟨l1,e1,hp⟩:=ag hp
 refine kj (ac eI eI) ((0:Int),(0:Int)) w0 ⟨[_],_,rfl,rfl,rfl⟩ rfl rfl e1 λH2 k2 w2 s2 c2=>?_
 obtain ⟨x3,h3,c3⟩:=(amx.step s2).row (z:=(ac eI eI).z) rfl
 obtain ⟨l3,e3,hp⟩:=ag hp
 refine aqJ (ac eI eI) w2 (i:=0) rfl rfl c2 h3 c3 rfl rfl e3 λk4 H4 w4 s4 c4=>?_
 obtain ⟨l5,e5,hp⟩:=ag hp
 refine aqK (ac eI eI) rfl (L:=bw.l254 F (bits_Mul.tw F)) (λ_ _ _ _=>rfl) w4 (i:=0) rfl c4 e5 λH6 k6 w6 s6 c6=>?_
 dsimp only [List.set] at w6 s6 c6
 exact aw hp ⟨_,_,_,rfl,((aqL e3).symm.trans (aqM e5).symm),w6,(s0.trans (s2.trans (s4.trans s6))),c6⟩
def bw.pj2 (F:Nat)  (wg:asN) (ug:Int):Option ((List (Int×Int))):=(bits_Mul.p F (IntKind.u64.wrap (wg.length:Int)) (IntKind.u64.wrap ug)).bind λr1=>(bif (decide (r1.1>0)) then (none) else ((bif (decide (r1.2>9223372036854775807)) then (none) else (bw.pj1 F wg r1.2))))
theorem bw.j2_P   {aaF NE aaG wg ug} (amy:NE=wg.length) (h0:Out H0 Ri H R0 λR=>ROs (ac eI eI) H R ⟨aaF,NE,aaG⟩ wg) {r:(List (Int×Int))} (hp:bw.pj2 F  wg ug=some r):Rt (bw.j2 F (bits_Mul.tw F)  ⟨aaF,NE,aaG⟩ ug H) (bw.Q H0 Ri R0  r):=by
 obtain ⟨w0,s0,amz⟩:=h0
 subst amy
 unfold bw.pj2 at hp
 unfold bw.j2
 obtain ⟨r1,e1,hp⟩:=ag hp
 refine aE (bits_Mul.P ⟨w0,trivial⟩ e1) ?_
 rintro _ H2 ⟨rfl,w2,s2,_⟩
 refine br (br (br (br (br ?_))))
 refine aB hp (λhp=>?_) λhp=>?_
 ·cases hp
 ·refine aB hp (λhp=>?_) λhp=>?_
  ·cases hp
  ·exact bw.j1_P rfl ⟨w2,(s0.trans s2),(amz.step s2)⟩ hp
def bw.p (F:Nat) (ah:asN) (au:Int):Option ((List (Int×Int))):=(bif (decide (au<0)) then (none) else (bw.pj2 F ah au))
theorem bw.P {az aj aA ah au} (aT:aj=ah.length) (h0:Inn H R0 λR=>ROs (ac eI eI) H R ⟨az,aj,aA⟩ ah) {r:(List (Int×Int))} (hp:bw.p F ah au=some r):Rt (bw.tw F ⟨az,aj,aA⟩ au H) (bw.Q H R0 R0  r):=by
 obtain ⟨w0,aK⟩:=h0
 subst aT
 unfold bw.p at hp
 unfold bw.tw bw.twX
 have s0:=w0.rf
 refine aB hp (λhp=>?_) λhp=>?_
 ·cases hp
 ·exact bw.j2_P rfl ⟨w0,s0,aK⟩ hp
def dZ.Q (H0:Hp) (Ri R0:asp)  (r:Int×Int×Int×Int) (v:AV) (H':Hp):Prop:=v=(.agg [(.i r.1),(.i r.2.1),(.i r.2.2.1),(.i r.2.2.2)])/\Out H0 Ri H' (R0) λR=>True
def dZ.p (F:Nat) (aa:Int) (af:Int) (bX:Int) (bY:Int):Option (Int×Int×Int×Int):=some (aa,af,bX,bY)
theorem dZ.P {aa af bX bY bN}  (h0:Inn H R0 λR=>True) {r:Int×Int×Int×Int} (hp:dZ.p F aa af bX bY=some r):Rt (dZ.tw F aa af bX bY bN H) (dZ.Q H R0 R0  r):=by
 obtain ⟨w0,_⟩:=h0
 unfold dZ.p at hp
 unfold dZ.tw dZ.twX
 have s0:=w0.rf
 refine aR w0 λH1 w1 s1=>?_
 refine aR w1 λH2 w2 s2=>?_
 refine lI w2 1 ?_
 refine lI w2 1 ?_
 refine lI w2 1 ?_
 refine lI w2 1 ?_
 refine aq w2 0 λH3 w3 s3=>?_
 refine aq w3 0 λH4 w4 s4=>?_
 refine aq w4 0 λH5 w5 s5=>?_
 refine aq w5 0 λH6 w6 s6=>?_
 refine lI w6 0 ?_
 refine lI w6 0 ?_
 refine lI w6 0 ?_
 refine lI w6 0 ?_
 obtain ⟨w7,s7⟩:=w6.pp [] 2
 exact aw hp ⟨rfl,w7,(s0.trans (s1.trans (s2.trans (s3.trans (s4.trans (s5.trans (s6.trans s7))))))),trivial⟩
def d_.Q (H0:Hp) (Ri R0:asp)  (r:Bool) (v:AV) (H':Hp):Prop:=v=(.bool r)/\Out H0 Ri H' (R0) λR=>True
def d_.p (F:Nat) (bN:Int) (cH:Int):Option (Bool):=(bif (cH==0) then (some true) else (some (cH==(wrap .i64 (2+bN)))))
theorem d_.P {aa af bX bY bN cH}  (h0:Inn H R0 λR=>True) {r:Bool} (hp:d_.p F bN cH=some r):Rt (d_.tw F aa af bX bY bN cH H) (d_.Q H R0 R0  r):=by
 obtain ⟨w0,_⟩:=h0
 unfold d_.p at hp
 unfold d_.tw d_.twX
 have s0:=w0.rf
 refine aR w0 λH1 w1 s1=>?_
 refine aB hp (λhp=>?_) λhp=>?_
 ·obtain ⟨w2,s2⟩:=w1.pp [] 1
  exact aw hp ⟨rfl,w2,(s0.trans (s1.trans s2)),trivial⟩
 ·refine lI w1 0 ?_
  obtain ⟨w3,s3⟩:=w1.pp [] 1
  exact aw hp ⟨rfl,w3,(s0.trans (s1.trans s3)),trivial⟩
def fZ.Q (H0:Hp) (Ri R0:asp)  (r:Int) (v:AV) (H':Hp):Prop:=v=(.i r)/\Out H0 Ri H' (R0) λR=>True
def fZ.p (F:Nat) (ah:asN):Option (Int):=some (ah.length:Int)
theorem fZ.P {az aj aA ah} (aT:aj=ah.length) (h0:Inn H R0 λR=>ROs (ac eI eI) H R ⟨az,aj,aA⟩ ah) {r:Int} (hp:fZ.p F ah=some r):Rt (fZ.tw F ⟨az,aj,aA⟩ H) (fZ.Q H R0 R0  r):=by
 obtain ⟨w0,aK⟩:=h0
 subst aT
 unfold fZ.p at hp
 unfold fZ.tw fZ.twX
 have s0:=w0.rf
 exact aw hp ⟨rfl,w0,s0,trivial⟩
def dM.Q (H0:Hp) (Ri R0:asp)  (r:Bool) (v:AV) (H':Hp):Prop:=v=(.bool r)/\Out H0 Ri H' (R0) λR=>True
def dM.p (F:Nat) (ah:asN) (au:Int):Option (Bool):=(fZ.p F ah).bind λr1=>(dy.p F au 0 (wrap .i64 (r1 - 1))).bind λr3=>some r3
theorem dM.P {az aj aA ah au} (aT:aj=ah.length) (h0:Inn H R0 λR=>ROs (ac eI eI) H R ⟨az,aj,aA⟩ ah) {r:Bool} (hp:dM.p F ah au=some r):Rt (dM.tw F ⟨az,aj,aA⟩ au H) (dM.Q H R0 R0  r):=by
 obtain ⟨w0,aK⟩:=h0
 subst aT
 unfold dM.p at hp
 unfold dM.tw dM.twX
 have s0:=w0.rf
 obtain ⟨r1,e1,hp⟩:=ag hp
 refine aE (fZ.P rfl ⟨w0,aK⟩ e1) ?_
 rintro _ H2 ⟨rfl,w2,s2,_⟩
 refine br ?_
 obtain ⟨r3,e3,hp⟩:=ag hp
 refine aE (dy.P ⟨w2,trivial⟩ e3) ?_
 rintro _ H4 ⟨rfl,w4,s4,_⟩
 refine br ?_
 exact aw hp ⟨rfl,w4,(s0.trans (s2.trans s4)),trivial⟩
def bf.Q (H0:Hp) (Ri R0:asp)  (r:(List (Int×Int))×(List (Int×Int))×Bool) (v:AV) (H':Hp):Prop:=∃ o0a:ON,∃ o0n:Nat,∃ o0c:Cap,∃ o0k:List AV,∃ o1a:ON,∃ o1n:Nat,∃ o1c:Cap,∃ o1k:List AV,v=(.tup [(.agg [(.sl ⟨o0a,o0n,o0c⟩),(.sl ⟨o1a,o1n,o1c⟩)]),(.bool r.2.2)])/\o0n=(r.1).length/\o1n=(r.2.1).length/\Out H0 Ri H' (Rs.own ⟨o0a,o0n,o0c⟩ (ac eI eI).z o0k::Rs.own ⟨o1a,o1n,o1c⟩ (ac eI eI).z o1k::R0) λR=>CR (ac eI eI) H' R o0k (r.1)/\CR (ac eI eI) H' R o1k (r.2.1)
def bf.S61 (H0:Hp) (Ri R0:asp)  (C:ats) (pC:atE):Prop:=∀ {NF rb NG NH NI ER nz fd ES ET mY EU NJ rc NK NL NM NN rd rh ri NO rj NP NQ kf kE iA},∀ {H:Hp},ER=NN.length->nz=rd.length->ES=rh.length->ET=ri.length->EU=kf.length->(Out H0 Ri H (Rs.own ⟨NF,ER,NJ⟩ (ac eI eI).z NO::Rs.own ⟨rb,nz,rc⟩ (ac eI eI).z rj::Rs.blk fd [.sl ⟨NF,ER,NJ⟩,.sl ⟨rb,nz,rc⟩]::Rs.own ⟨NG,ES,NK⟩ (ac eI eI).z NP::Rs.own ⟨NH,ET,NL⟩ (ac eI eI).z NQ::Rs.blk mY [.sl ⟨NG,ES,NK⟩,.sl ⟨NH,ET,NL⟩]::R0) λR=>CR (ac eI eI) H R NO NN/\CR (ac eI eI) H R rj rd/\CR (ac eI eI) H R NP rh/\CR (ac eI eI) H R NQ ri/\ROs (ac eI (ac eI (ac eI (ac eI eI)))) H R ⟨NI,EU,NM⟩ kf)->∀ {r:(List (Int×Int))×(List (Int×Int))×Bool},pC rh ri kf kE iA=some r->Rt (C fd 0 mY 0 ⟨NI,EU,NM⟩ kE iA H) (bf.Q H0 Ri R0  r)
def bf.S3931 (H0:Hp) (Ri R0:asp)  (C:Nat->Nat->Nat->Nat->Sl->Int->Int->Nat->Nat->Int->Int->Int->Int->Int->Int->Hp->OA) (pC:List (Int×Int)->List (Int×Int)->List (Int×Int×Int×Int×Int)->Int->Int->Int->Int->Int->Int->Int->Int->Int->Option ((List (Int×Int))×(List (Int×Int))×Bool)):Prop:=∀ {NR NS NT NU NV EV EW eM EY EZ f_ E_ jA NW NX NY NZ N_ Oa Ob hJ hK Oc Od Oe Of o_ jy jz aaH aaI aaJ aaK rm iy fH fI fJ fK dD},∀ {H:Hp},EV=Oa.length->EW=Ob.length->EY=hJ.length->EZ=hK.length->E_=o_.length->(Out H0 Ri H (Rs.own ⟨NR,EV,NW⟩ (ac eI eI).z Oc::Rs.own ⟨NS,EW,NX⟩ (ac eI eI).z Od::Rs.blk eM [.sl ⟨NR,EV,NW⟩,.sl ⟨NS,EW,NX⟩]::Rs.own ⟨NT,EY,NY⟩ (ac eI eI).z Oe::Rs.own ⟨NU,EZ,NZ⟩ (ac eI eI).z Of::Rs.blk f_ [.sl ⟨NT,EY,NY⟩,.sl ⟨NU,EZ,NZ⟩]::Rs.blk jA [.i aaH,.i aaI,.i aaJ,.i aaK,.i rm]::R0) λR=>CR (ac eI eI) H R Oc Oa/\CR (ac eI eI) H R Od Ob/\CR (ac eI eI) H R Oe hJ/\CR (ac eI eI) H R Of hK/\ROs (ac eI (ac eI (ac eI (ac eI eI)))) H R ⟨NV,E_,N_⟩ o_)->∀ {r:(List (Int×Int))×(List (Int×Int))×Bool},pC hJ hK o_ jy jz rm iy fH fI fJ fK dD=some r->Rt (C eM 0 f_ 0 ⟨NV,E_,N_⟩ jy jz jA 0 iy fH fI fJ fK dD H) (bf.Q H0 Ri R0  r)
def bf.pl3931 (F:Nat) (ay:atE):Nat->List (Int×Int)->List (Int×Int)->List (Int×Int×Int×Int×Int)->Int->Int->Int->Int->Int->Int->Int->Int->Int->Option ((List (Int×Int))×(List (Int×Int))×Bool)
 | 0,_,_,_,_,_,_,_,_,_,_,_,_=>none
 | k+1,hJ,hK,o_,jy,jz,rm,iy,fH,fI,fJ,fK,dD=>(bif (decide (dD<4)) then ((if 0<=dD/\dD<(4:Int) then ((d_.p F rm dD).bind λr2=>(bif r2 then ((dM.p F hK (gt ([fH,fI,fJ,fK]:List Int) (dD:Int).toNat)).bind λr6=>(bif (!r6) then (some (hJ,hK,false)) else ((ix hK (gt ([fH,fI,fJ,fK]:List Int) (dD:Int).toNat)).bind λn12=>(bif (decide (((gt hK n12).1)>=0)) then (some (hJ,hK,false)) else ((ix hK (gt ([fH,fI,fJ,fK]:List Int) (dD:Int).toNat)).bind λn16=>(some (hK.set n16 (iy,(gt hK n16).2))).bind λl17=>(some (l17.set n16 ((gt l17 n16).1,dD))).bind λl19=>bf.pl3931 F ay k hJ l19 o_ jy jz rm iy fH fI fJ fK (wrap .i64 (dD+1))))))) else ((dM.p F hJ (gt ([fH,fI,fJ,fK]:List Int) (dD:Int).toNat)).bind λr24=>(bif (!r24) then (some (hJ,hK,false)) else ((ix hJ (gt ([fH,fI,fJ,fK]:List Int) (dD:Int).toNat)).bind λn30=>(bif (decide (((gt hJ n30).1)>=0)) then (some (hJ,hK,false)) else ((ix hJ (gt ([fH,fI,fJ,fK]:List Int) (dD:Int).toNat)).bind λn34=>(some (hJ.set n34 (iy,(gt hJ n34).2))).bind λl35=>(some (l35.set n34 ((gt l35 n34).1,dD))).bind λl37=>bf.pl3931 F ay k l37 hK o_ jy jz rm iy fH fI fJ fK (wrap .i64 (dD+1))))))))) else none)) else (ay hJ hK o_ jy (wrap .i64 (jz+1))))
theorem bf.l3931_P  {C61_:ats} {ay:atE} (hC61:bf.S61 H0 Ri R0  C61_ ay):∀ k,bf.S3931 H0 Ri R0  (bf.l3931 F (bw.tw F) (dZ.tw F) (d_.tw F) (dM.tw F) C61_ k) (bf.pl3931 F ay k):=by
 intro k
 induction k with
 | zero=>unfold bf.S3931;intros;rename_i hp;cases hp
 | succ k ih=>
  intro NR NS NT NU NV EV EW eM EY EZ f_ E_ jA NW NX NY NZ N_ Oa Ob hJ hK Oc Od Oe Of o_ jy jz aaH aaI aaJ aaK rm iy fH fI fJ fK dD H amA amB amC amD amE h0 r hp
  obtain ⟨w0,s0,Og,Oh,mv,mw,Oi⟩:=h0
  subst amA
  subst amB
  subst amC
  subst amD
  subst amE
  unfold bf.pl3931 at hp
  unfold bf.l3931
  refine aB hp (λhp=>?_) λhp=>?_
  ·obtain ⟨g1,hp⟩:=gl hp
   refine eQ g1 ?_
   refine ai (a:=AV.int .i64 (gt ([fH,fI,fJ,fK]:List Int) (dD:Int).toNat)) (by rw [Nat.mul_one];exact afh (k:=.i64) (l:=[fH,fI,fJ,fK]) rfl (by have:=g1;simp only [List.length_cons,List.length_nil];omega)) ?_
   refine br ?_
   refine lSl w0 5 ?_
   refine lI w0 6 ?_
   refine lI w0 6 ?_
   refine lI w0 6 ?_
   refine lI w0 6 ?_
   refine lI w0 6 ?_
   obtain ⟨r2,e2,hp⟩:=ag hp
   refine aE (d_.P ⟨w0,trivial⟩ e2) ?_
   rintro _ H3 ⟨rfl,w3,s3,_⟩
   refine br ?_
   refine aB hp (λhp=>?_) λhp=>?_
   ·refine lSl w3 5 ?_
    obtain ⟨w4,s4⟩:=w3.pp [4,0,1,2,3,5,6] 7
    have f5:=W.borrow1 (ac eI eI) w4 (mw.step (s3.trans s4))
    obtain ⟨w5,s5⟩:=w4.right1
    obtain ⟨r6,e6,hp⟩:=ag hp
    refine aE (dM.P rfl ⟨w5,f5⟩ e6) ?_
    rintro _ H7 ⟨rfl,w7,s7,_⟩
    obtain ⟨w8,s8⟩:=W.frame1 w4 w7 s7
    refine br ?_
    refine aB hp (λhp=>?_) λhp=>?_
    ·refine lSl w8 5 ?_
     refine lSl w8 5 ?_
     refine aq w8 3 λH9 w9 s9=>?_
     refine aq w9 3 λH10 w10 s10=>?_
     refine lSl w10 3 ?_
     refine lSl w10 3 ?_
     obtain ⟨w11,s11⟩:=w10.pp [4,0] 7
     exact aw hp ⟨_,_,_,_,_,_,_,_,rfl,rfl,rfl,w11,(s0.trans (s3.trans (s4.trans (s8.trans (s9.trans (s10.trans s11)))))),(mv.step (s3.trans (s4.trans (s8.trans (s9.trans (s10.trans s11)))))),(mw.step (s3.trans (s4.trans (s8.trans (s9.trans (s10.trans s11))))))⟩
    ·obtain ⟨n12,g12,hp⟩:=ag hp
     obtain ⟨p12,q12,i12,h12,j12⟩:=W.ixo (E:=(ac eI eI)) w8 (i:=0) rfl rfl (mw.step (s3.trans (s4.trans s8))) g12
     refine ai i12 ?_
     obtain ⟨_,_,rfl,rfl,rfl⟩:=h12
     refine ai (aG (j12 0 _ rfl)) ?_
     refine aB hp (λhp=>?_) λhp=>?_
     ·refine lSl w8 5 ?_
      refine lSl w8 5 ?_
      refine aq w8 3 λH13 w13 s13=>?_
      refine aq w13 3 λH14 w14 s14=>?_
      refine lSl w14 3 ?_
      refine lSl w14 3 ?_
      obtain ⟨w15,s15⟩:=w14.pp [4,0] 7
      exact aw hp ⟨_,_,_,_,_,_,_,_,rfl,rfl,rfl,w15,(s0.trans (s3.trans (s4.trans (s8.trans (s13.trans (s14.trans s15)))))),(mv.step (s3.trans (s4.trans (s8.trans (s13.trans (s14.trans s15)))))),(mw.step (s3.trans (s4.trans (s8.trans (s13.trans (s14.trans s15))))))⟩
     ·obtain ⟨n16,g16,hp⟩:=ag hp
      obtain ⟨p16,q16,i16,h16,j16⟩:=W.ixo (E:=(ac eI eI)) w8 (i:=0) rfl rfl (mw.step (s3.trans (s4.trans s8))) g16
      refine ai i16 ?_
      obtain ⟨l17,e17,hp⟩:=ag hp
      refine de (ac eI eI) w8 (i:=0) (j:=0) (p:=p16) rfl rfl (mw.step (s3.trans (s4.trans s8))) g16 i16 e17 rfl rfl (λ_ h=>by obtain ⟨_,_,rfl,rfl,rfl⟩:=h;exact ⟨[_],_,rfl,rfl,rfl⟩) λH18 k18 w18 s18 c18=>?_
      obtain ⟨l19,e19,hp⟩:=ag hp
      refine de (ac eI eI) w18 (i:=0) (j:=1) (p:=p16) rfl rfl c18 (mG g16 (cj e17)) i16 e19 rfl rfl (λ_ h=>by obtain ⟨_,_,rfl,rfl,rfl⟩:=h;exact ⟨[_],_,rfl,rfl,rfl⟩) λH20 k20 w20 s20 c20=>?_
      obtain ⟨w21,s21⟩:=w20.pp [1,2,3,4,0,5,6] 7
      exact ih rfl rfl rfl ((cj e17).symm.trans (cj e19).symm) rfl ⟨w21,(s0.trans (s3.trans (s4.trans (s8.trans (s18.trans (s20.trans s21)))))),(Og.step (s3.trans (s4.trans (s8.trans (s18.trans (s20.trans s21)))))),(Oh.step (s3.trans (s4.trans (s8.trans (s18.trans (s20.trans s21)))))),(mv.step (s3.trans (s4.trans (s8.trans (s18.trans (s20.trans s21)))))),(c20.step s21),(Oi.step (s3.trans (s4.trans (s8.trans (s18.trans (s20.trans s21))))))⟩ hp
   ·obtain ⟨w22,s22⟩:=w3.pp [3,0,1,2,4,5,6] 7
    have f23:=W.borrow1 (ac eI eI) w22 (mv.step (s3.trans s22))
    obtain ⟨w23,s23⟩:=w22.right1
    obtain ⟨r24,e24,hp⟩:=ag hp
    refine aE (dM.P rfl ⟨w23,f23⟩ e24) ?_
    rintro _ H25 ⟨rfl,w25,s25,_⟩
    obtain ⟨w26,s26⟩:=W.frame1 w22 w25 s25
    refine br ?_
    refine aB hp (λhp=>?_) λhp=>?_
    ·refine lSl w26 5 ?_
     refine lSl w26 5 ?_
     refine aq w26 3 λH27 w27 s27=>?_
     refine aq w27 3 λH28 w28 s28=>?_
     refine lSl w28 3 ?_
     refine lSl w28 3 ?_
     obtain ⟨w29,s29⟩:=w28.pp [0,4] 7
     exact aw hp ⟨_,_,_,_,_,_,_,_,rfl,rfl,rfl,w29,(s0.trans (s3.trans (s22.trans (s26.trans (s27.trans (s28.trans s29)))))),(mv.step (s3.trans (s22.trans (s26.trans (s27.trans (s28.trans s29)))))),(mw.step (s3.trans (s22.trans (s26.trans (s27.trans (s28.trans s29))))))⟩
    ·obtain ⟨n30,g30,hp⟩:=ag hp
     obtain ⟨p30,q30,i30,h30,j30⟩:=W.ixo (E:=(ac eI eI)) w26 (i:=0) rfl rfl (mv.step (s3.trans (s22.trans s26))) g30
     refine ai i30 ?_
     obtain ⟨_,_,rfl,rfl,rfl⟩:=h30
     refine ai (aG (j30 0 _ rfl)) ?_
     refine aB hp (λhp=>?_) λhp=>?_
     ·refine lSl w26 5 ?_
      refine lSl w26 5 ?_
      refine aq w26 3 λH31 w31 s31=>?_
      refine aq w31 3 λH32 w32 s32=>?_
      refine lSl w32 3 ?_
      refine lSl w32 3 ?_
      obtain ⟨w33,s33⟩:=w32.pp [0,4] 7
      exact aw hp ⟨_,_,_,_,_,_,_,_,rfl,rfl,rfl,w33,(s0.trans (s3.trans (s22.trans (s26.trans (s31.trans (s32.trans s33)))))),(mv.step (s3.trans (s22.trans (s26.trans (s31.trans (s32.trans s33)))))),(mw.step (s3.trans (s22.trans (s26.trans (s31.trans (s32.trans s33))))))⟩
     ·obtain ⟨n34,g34,hp⟩:=ag hp
      obtain ⟨p34,q34,i34,h34,j34⟩:=W.ixo (E:=(ac eI eI)) w26 (i:=0) rfl rfl (mv.step (s3.trans (s22.trans s26))) g34
      refine ai i34 ?_
      obtain ⟨l35,e35,hp⟩:=ag hp
      refine de (ac eI eI) w26 (i:=0) (j:=0) (p:=p34) rfl rfl (mv.step (s3.trans (s22.trans s26))) g34 i34 e35 rfl rfl (λ_ h=>by obtain ⟨_,_,rfl,rfl,rfl⟩:=h;exact ⟨[_],_,rfl,rfl,rfl⟩) λH36 k36 w36 s36 c36=>?_
      obtain ⟨l37,e37,hp⟩:=ag hp
      refine de (ac eI eI) w36 (i:=0) (j:=1) (p:=p34) rfl rfl c36 (mG g34 (cj e35)) i34 e37 rfl rfl (λ_ h=>by obtain ⟨_,_,rfl,rfl,rfl⟩:=h;exact ⟨[_],_,rfl,rfl,rfl⟩) λH38 k38 w38 s38 c38=>?_
      obtain ⟨w39,s39⟩:=w38.pp [1,2,3,0,4,5,6] 7
      exact ih rfl rfl ((cj e35).symm.trans (cj e37).symm) rfl rfl ⟨w39,(s0.trans (s3.trans (s22.trans (s26.trans (s36.trans (s38.trans s39)))))),(Og.step (s3.trans (s22.trans (s26.trans (s36.trans (s38.trans s39)))))),(Oh.step (s3.trans (s22.trans (s26.trans (s36.trans (s38.trans s39)))))),(c38.step s39),(mw.step (s3.trans (s22.trans (s26.trans (s36.trans (s38.trans s39)))))),(Oi.step (s3.trans (s22.trans (s26.trans (s36.trans (s38.trans s39))))))⟩ hp
  ·obtain ⟨w40,s40⟩:=w0.pp [0,1,2,3,4,5] 7
   exact hC61 rfl rfl rfl rfl rfl ⟨w40,(s0.trans s40),(Og.step s40),(Oh.step s40),(mv.step s40),(mw.step s40),(Oi.step s40)⟩ hp
def bf.pl61 (F:Nat) :Nat->List (Int×Int)->List (Int×Int)->List (Int×Int×Int×Int×Int)->Int->Int->Option ((List (Int×Int))×(List (Int×Int))×Bool)
 | 0,_,_,_,_,_=>none
 | k+1,rh,ri,kf,kE,iA=>(bif (decide (iA<kE)) then ((ix kf iA).bind λn1=>(dZ.p F ((gt kf n1).1) ((gt kf n1).2.1) ((gt kf n1).2.2.1) ((gt kf n1).2.2.2.1)).bind λr8=>bf.pl3931 F (bf.pl61 F k) F rh ri kf kE iA ((gt kf n1).2.2.2.2) iA r8.1 r8.2.1 r8.2.2.1 r8.2.2.2 0) else (some (rh,ri,true)))
theorem bf.l61_P  :∀ k,bf.S61 H0 Ri R0  (bf.l61 F (bw.tw F) (dZ.tw F) (d_.tw F) (dM.tw F)  k) (bf.pl61 F  k):=by
 intro k
 induction k with
 | zero=>unfold bf.S61;intros;rename_i hp;cases hp
 | succ k ih=>
  intro NF rb NG NH NI ER nz fd ES ET mY EU NJ rc NK NL NM NN rd rh ri NO rj NP NQ kf kE iA H amF Oj amG amH amI h0 r hp
  obtain ⟨w0,s0,amJ,Ol,aaL,aaM,aaN⟩:=h0
  subst amF
  subst Oj
  subst amG
  subst amH
  subst amI
  unfold bf.pl61 at hp
  unfold bf.l61
  refine aB hp (λhp=>?_) λhp=>?_
  ·obtain ⟨n1,g1,hp⟩:=ag hp
   obtain ⟨p1,q1,i1,h1,j1⟩:=ROs.ixr aaN rfl g1
   refine ai i1 ?_
   obtain ⟨_,_,rfl,rfl,_,_,rfl,rfl,_,_,rfl,rfl,_,_,rfl,rfl,rfl⟩:=h1
   refine ai (aG (j1 0 _ rfl)) ?_
   refine ai (aG (j1 1 _ rfl)) ?_
   refine ai (aG (j1 2 _ rfl)) ?_
   refine ai (aG (j1 3 _ rfl)) ?_
   refine ai (aG (j1 4 _ rfl)) ?_
   refine aR w0 λH2 w2 s2=>?_
   refine aq w2 0 λH3 w3 s3=>?_
   refine aq w3 0 λH4 w4 s4=>?_
   refine aq w4 0 λH5 w5 s5=>?_
   refine aq w5 0 λH6 w6 s6=>?_
   refine aq w6 0 λH7 w7 s7=>?_
   refine lI w7 0 ?_
   refine lI w7 0 ?_
   refine lI w7 0 ?_
   refine lI w7 0 ?_
   refine lI w7 0 ?_
   obtain ⟨r8,e8,hp⟩:=ag hp
   refine aE (dZ.P ⟨w7,trivial⟩ e8) ?_
   rintro _ H9 ⟨rfl,w9,s9,_⟩
   refine br (br (br (br (br (br (br (br (br ?_))))))))
   obtain ⟨w10,s10⟩:=w9.pp [1,2,3,4,5,6,0] 7
   exact bf.l3931_P (@ih) F rfl rfl rfl rfl rfl ⟨w10,(s0.trans (s2.trans (s3.trans (s4.trans (s5.trans (s6.trans (s7.trans (s9.trans s10)))))))),(amJ.step (s2.trans (s3.trans (s4.trans (s5.trans (s6.trans (s7.trans (s9.trans s10)))))))),(Ol.step (s2.trans (s3.trans (s4.trans (s5.trans (s6.trans (s7.trans (s9.trans s10)))))))),(aaL.step (s2.trans (s3.trans (s4.trans (s5.trans (s6.trans (s7.trans (s9.trans s10)))))))),(aaM.step (s2.trans (s3.trans (s4.trans (s5.trans (s6.trans (s7.trans (s9.trans s10)))))))),(aaN.step (s2.trans (s3.trans (s4.trans (s5.trans (s6.trans (s7.trans (s9.trans s10))))))))⟩ hp
  ·refine lSl w0 5 ?_
   refine lSl w0 5 ?_
   refine aq w0 2 λH11 w11 s11=>?_
   refine aq w11 2 λH12 w12 s12=>?_
   refine lSl w12 2 ?_
   refine lSl w12 2 ?_
   obtain ⟨w13,s13⟩:=w12.pp [3,4] 6
   exact aw hp ⟨_,_,_,_,_,_,_,_,rfl,rfl,rfl,w13,(s0.trans (s11.trans (s12.trans s13))),(aaL.step (s11.trans (s12.trans s13))),(aaM.step (s11.trans (s12.trans s13)))⟩
def bf.p (F:Nat) (ah:asy):Option ((List (Int×Int))×(List (Int×Int))×Bool):=(bw.p F ([((-1),0)]:List (Int×Int)) (wrap .i64 (2 * (ah.length:Int)))).bind λr5=>(bw.p F ([((-1),0)]:List (Int×Int)) (wrap .i64 (2 * (ah.length:Int)))).bind λr10=>bf.pl61 F F r5 r10 ah (ah.length:Int) 0
theorem bf.P {az aj aA ah af} (aT:aj=ah.length) (h0:Inn H R0 λR=>ROs (ac eI (ac eI (ac eI (ac eI eI)))) H R ⟨az,aj,aA⟩ ah) {r:(List (Int×Int))×(List (Int×Int))×Bool} (hp:bf.p F ah=some r):Rt (bf.tw F ⟨az,aj,aA⟩ af H) (bf.Q H R0 R0  r):=by
 obtain ⟨w0,aK⟩:=h0
 subst aT
 unfold bf.p at hp
 unfold bf.tw bf.twX
 have s0:=w0.rf
 refine aR w0 λH1 w1 s1=>?_
 refine aR w1 λH2 w2 s2=>?_
 refine lSl w2 1 ?_
 refine cO (ac eI eI) w2 (n:=1) (l:=([((-1),0)]:List (Int×Int))) rfl (CR.cons (c:=[_,_]) ⟨[_],_,rfl,rfl,rfl⟩ CR.empty) rfl λH3 w3 s3 c3=>?_
 have f4:=W.borrow1 (ac eI eI) w3 c3
 obtain ⟨w4,s4⟩:=w3.right1
 obtain ⟨r5,e5,hp⟩:=ag hp
 refine aE (bw.P (show 1=List.length ([((-1),0)]:List (Int×Int)) from rfl) ⟨w4,f4⟩ e5) ?_
 rintro _ H6 ⟨o0a_6,o0n_6,o0k_6,rfl,rfl,w6,s6,f6_0⟩
 obtain ⟨w7,s7⟩:=W.frame1 w3 w6 s6
 refine br ?_
 refine cO (ac eI eI) w7 (n:=1) (l:=([((-1),0)]:List (Int×Int))) rfl (CR.cons (c:=[_,_]) ⟨[_],_,rfl,rfl,rfl⟩ CR.empty) rfl λH8 w8 s8 c8=>?_
 have f9:=W.borrow1 (ac eI eI) w8 c8
 obtain ⟨w9,s9⟩:=w8.right1
 obtain ⟨r10,e10,hp⟩:=ag hp
 refine aE (bw.P (show 1=List.length ([((-1),0)]:List (Int×Int)) from rfl) ⟨w9,f9⟩ e10) ?_
 rintro _ H11 ⟨o0a_11,o0n_11,o0k_11,rfl,rfl,w11,s11,f11_0⟩
 obtain ⟨w12,s12⟩:=W.frame1 w8 w11 s11
 refine br ?_
 refine aR w12 λH13 w13 s13=>?_
 refine aq w13 0 λH14 w14 s14=>?_
 refine aq w14 0 λH15 w15 s15=>?_
 refine lSl w15 6 ?_
 obtain ⟨w16,s16⟩:=w15.nilS (ac eI eI).z (by decide)
 obtain ⟨w17,s17⟩:=w16.nilS (ac eI eI).z (by decide)
 obtain ⟨w18,s18⟩:=w17.pp [1,0,7,6,4,2] 9
 exact bf.l61_P F rfl rfl rfl rfl rfl ⟨w18,(s0.trans (s1.trans (s2.trans (s3.trans (s7.trans (s8.trans (s12.trans (s13.trans (s14.trans (s15.trans (s16.trans (s17.trans s18)))))))))))),((CR.empty:CR (ac eI eI) _ _ [] []).step (s17.trans s18)),((CR.empty:CR (ac eI eI) _ _ [] []).step s18),((CR.flat (afi (eA .i64) (eA .i64)) f6_0).step (s8.trans (s12.trans (s13.trans (s14.trans (s15.trans (s16.trans (s17.trans s18)))))))),((CR.flat (afi (eA .i64) (eA .i64)) f11_0).step (s13.trans (s14.trans (s15.trans (s16.trans (s17.trans s18)))))),(aK.step (s1.trans (s2.trans (s3.trans (s7.trans (s8.trans (s12.trans (s13.trans (s14.trans (s15.trans (s16.trans (s17.trans s18))))))))))))⟩ hp
def dq.Q (H0:Hp) (Ri R0:asp)  (r:asU) (v:AV) (H':Hp):Prop:=v=(.agg [(.i r.1),(.i r.2)])/\Out H0 Ri H' (R0) λR=>True
def dq.p (F:Nat) (ah:asy) (eF:asN) (bl:asN) (je:Int) (ga:Int):Option (Int×Int):=(ix ah je).bind λn5=>(dZ.p F ((gt ah n5).1) ((gt ah n5).2.1) ((gt ah n5).2.2.1) ((gt ah n5).2.2.2.1)).bind λr12=>(if 0<=ga/\ga<(4:Int) then ((d_.p F ((gt ah n5).2.2.2.2) ga).bind λr16=>(bif r16 then ((ix eF (gt ([r12.1,r12.2.1,r12.2.2.1,r12.2.2.2]:List Int) (ga:Int).toNat)).bind λn18=>some (((gt eF n18).1),((gt eF n18).2))) else ((ix bl (gt ([r12.1,r12.2.1,r12.2.2.1,r12.2.2.2]:List Int) (ga:Int).toNat)).bind λn22=>some (((gt bl n22).1),((gt bl n22).2))))) else none)
theorem dq.P {az lP dW aj iO c_ aA lQ dX ah af je ga eF bl} (aT:aj=ah.length) (rn:iO=eF.length) (gk:c_=bl.length) (h0:Inn H R0 λR=>ROs (ac eI (ac eI (ac eI (ac eI eI)))) H R ⟨az,aj,aA⟩ ah/\ROs (ac eI eI) H R ⟨lP,iO,lQ⟩ eF/\ROs (ac eI eI) H R ⟨dW,c_,dX⟩ bl) {r:asU} (hp:dq.p F ah eF bl je ga=some r):Rt (dq.tw F ⟨az,aj,aA⟩ af ⟨lP,iO,lQ⟩ ⟨dW,c_,dX⟩ je ga H) (dq.Q H R0 R0  r):=by
 obtain ⟨w0,aK,rp,eW⟩:=h0
 subst aT
 subst rn
 subst gk
 unfold dq.p at hp
 unfold dq.tw dq.twX
 have s0:=w0.rf
 refine aR w0 λH1 w1 s1=>?_
 refine aR w1 λH2 w2 s2=>?_
 refine aR w2 λH3 w3 s3=>?_
 refine aR w3 λH4 w4 s4=>?_
 refine lSl w4 3 ?_
 refine lI w4 1 ?_
 obtain ⟨n5,g5,hp⟩:=ag hp
 obtain ⟨p5,q5,i5,h5,j5⟩:=ROs.ixr (aK.step (s1.trans (s2.trans (s3.trans s4)))) rfl g5
 refine ai i5 ?_
 obtain ⟨_,_,rfl,rfl,_,_,rfl,rfl,_,_,rfl,rfl,_,_,rfl,rfl,rfl⟩:=h5
 refine ai (aG (j5 0 _ rfl)) ?_
 refine ai (aG (j5 1 _ rfl)) ?_
 refine ai (aG (j5 2 _ rfl)) ?_
 refine ai (aG (j5 3 _ rfl)) ?_
 refine ai (aG (j5 4 _ rfl)) ?_
 refine aR w4 λH6 w6 s6=>?_
 refine aq w6 0 λH7 w7 s7=>?_
 refine aq w7 0 λH8 w8 s8=>?_
 refine aq w8 0 λH9 w9 s9=>?_
 refine aq w9 0 λH10 w10 s10=>?_
 refine aq w10 0 λH11 w11 s11=>?_
 refine lI w11 0 ?_
 refine lI w11 0 ?_
 refine lI w11 0 ?_
 refine lI w11 0 ?_
 refine lI w11 0 ?_
 obtain ⟨r12,e12,hp⟩:=ag hp
 refine aE (dZ.P ⟨w11,trivial⟩ e12) ?_
 rintro _ H13 ⟨rfl,w13,s13,_⟩
 refine br (br (br (br (br (br (br (br (br ?_))))))))
 refine eQ (W.cons_of (Rn:=[]) w11 w13 s13) ?_
 refine lI w13 2 ?_
 obtain ⟨g15,hp⟩:=gl hp
 refine eQ g15 ?_
 refine ai (a:=AV.int .i64 (gt ([r12.1,r12.2.1,r12.2.2.1,r12.2.2.2]:List Int) (ga:Int).toNat)) (by rw [Nat.mul_one];exact afh (k:=.i64) (l:=[r12.1,r12.2.1,r12.2.2.1,r12.2.2.2]) rfl (by have:=g15;simp only [List.length_cons,List.length_nil];omega)) ?_
 refine br ?_
 refine lI w13 0 ?_
 refine lI w13 0 ?_
 refine lI w13 0 ?_
 refine lI w13 0 ?_
 refine lI w13 0 ?_
 refine lI w13 2 ?_
 obtain ⟨r16,e16,hp⟩:=ag hp
 refine aE (d_.P ⟨w13,trivial⟩ e16) ?_
 rintro _ H17 ⟨rfl,w17,s17,_⟩
 refine br ?_
 refine aB hp (λhp=>?_) λhp=>?_
 ·refine lSl w17 3 ?_
  obtain ⟨n18,g18,hp⟩:=ag hp
  obtain ⟨p18,q18,i18,h18,j18⟩:=ROs.ixr (rp.step (s1.trans (s2.trans (s3.trans (s4.trans (s6.trans (s7.trans (s8.trans (s9.trans (s10.trans (s11.trans (s13.trans s17)))))))))))) rfl g18
  refine ai i18 ?_
  obtain ⟨_,_,rfl,rfl,rfl⟩:=h18
  refine ai (aG (j18 0 _ rfl)) ?_
  refine ai (aG (j18 1 _ rfl)) ?_
  refine aq w17 1 λH19 w19 s19=>?_
  refine aq w19 1 λH20 w20 s20=>?_
  refine lI w20 1 ?_
  refine lI w20 1 ?_
  obtain ⟨w21,s21⟩:=w20.pp [] 5
  exact aw hp ⟨rfl,w21,(s0.trans (s1.trans (s2.trans (s3.trans (s4.trans (s6.trans (s7.trans (s8.trans (s9.trans (s10.trans (s11.trans (s13.trans (s17.trans (s19.trans (s20.trans s21))))))))))))))),trivial⟩
 ·refine lSl w17 3 ?_
  obtain ⟨n22,g22,hp⟩:=ag hp
  obtain ⟨p22,q22,i22,h22,j22⟩:=ROs.ixr (eW.step (s1.trans (s2.trans (s3.trans (s4.trans (s6.trans (s7.trans (s8.trans (s9.trans (s10.trans (s11.trans (s13.trans s17)))))))))))) rfl g22
  refine ai i22 ?_
  obtain ⟨_,_,rfl,rfl,rfl⟩:=h22
  refine ai (aG (j22 0 _ rfl)) ?_
  refine ai (aG (j22 1 _ rfl)) ?_
  refine aq w17 1 λH23 w23 s23=>?_
  refine aq w23 1 λH24 w24 s24=>?_
  refine lI w24 1 ?_
  refine lI w24 1 ?_
  obtain ⟨w25,s25⟩:=w24.pp [] 5
  exact aw hp ⟨rfl,w25,(s0.trans (s1.trans (s2.trans (s3.trans (s4.trans (s6.trans (s7.trans (s8.trans (s9.trans (s10.trans (s11.trans (s13.trans (s17.trans (s23.trans (s24.trans s25))))))))))))))),trivial⟩
def aM.Q (H0:Hp) (Ri R0:asp)  (r:asE) (v:AV) (H':Hp):Prop:=∃ o0a:ON,∃ o0n:Nat,∃ o0c:Cap,∃ o0k:List AV,v=(.sl ⟨o0a,o0n,o0c⟩)/\o0n=(r).length/\Out H0 Ri H' (Rs.own ⟨o0a,o0n,o0c⟩ (eSl eI).z o0k::R0) λR=>CR (eSl eI) H' R o0k (r)
def aM.S61 (H0:Hp) (Ri R0:asp)  (C:asY) (pC:as1):Prop:=∀ {Om On Oo Oq Ot Fa pU Fb Fc pV Fd Fe Ou Ov Ow Ox Oy wh aaO hQ eN wi wj rq Oz OB wk},∀ {H:Hp},Fa=wh.length->Fb=wi.length->Fc=wj.length->Fd=rq.length->Fe=wk.length->(Out H0 Ri H (Rs.blk pU [.sl ⟨Om,Fa,Ou⟩,.i aaO]::Rs.blk pV [.sl ⟨On,Fb,Ov⟩,.sl ⟨Oo,Fc,Ow⟩]::Rs.own ⟨Oq,Fd,Ox⟩ (eSl eI).z Oz::Rs.own ⟨Ot,Fe,Oy⟩ cG.z OB::R0) λR=>ROs (ac eI (ac eI (ac eI (ac eI eI)))) H R ⟨Om,Fa,Ou⟩ wh/\ROs (ac eI eI) H R ⟨On,Fb,Ov⟩ wi/\ROs (ac eI eI) H R ⟨Oo,Fc,Ow⟩ wj/\CR (eSl eI) H R Oz rq/\CR cG H R OB wk)->∀ {r:asE},pC wh wi wj rq wk hQ eN=some r->Rt (C pU 0 pV 0 ⟨Oq,Fd,Ox⟩ ⟨Ot,Fe,Oy⟩ hQ eN H) (aM.Q H0 Ri R0  r)
def aM.S15725 (H0:Hp) (Ri R0:asp)  (C:Nat->Nat->Nat->Nat->Sl->Sl->Int->Int->Sl->Int->Hp->OA) (pC:List (Int×Int×Int×Int×Int)->List (Int×Int)->List (Int×Int)->List (List Int)->List Bool->Int->Int->List Int->Int->Option (List (List Int))):Prop:=∀ {OC OD OE OF OG OH Ff mf Fg Fh mg Fi Fj Fk OI OJ OK OL OM OO pa aaP kF kG gb pb pc rr OP OQ OR mz ru},∀ {H:Hp},Ff=pa.length->Fg=pb.length->Fh=pc.length->Fi=rr.length->Fj=mz.length->Fk=ru.length->(Out H0 Ri H (Rs.blk mf [.sl ⟨OC,Ff,OI⟩,.i aaP]::Rs.blk mg [.sl ⟨OD,Fg,OJ⟩,.sl ⟨OE,Fh,OK⟩]::Rs.own ⟨OF,Fi,OL⟩ (eSl eI).z OP::Rs.own ⟨OG,Fj,OM⟩ cG.z OQ::Rs.own ⟨OH,Fk,OO⟩ eI.z OR::R0) λR=>ROs (ac eI (ac eI (ac eI (ac eI eI)))) H R ⟨OC,Ff,OI⟩ pa/\ROs (ac eI eI) H R ⟨OD,Fg,OJ⟩ pb/\ROs (ac eI eI) H R ⟨OE,Fh,OK⟩ pc/\CR (eSl eI) H R OP rr/\CR cG H R OQ mz/\CR eI H R OR ru)->∀ {r:asE},pC pa pb pc rr mz kF kG ru gb=some r->Rt (C mf 0 mg 0 ⟨OF,Fi,OL⟩ ⟨OG,Fj,OM⟩ kF kG ⟨OH,Fk,OO⟩ gb H) (aM.Q H0 Ri R0  r)
def aM.pj4 (F:Nat) (ay:as1) (zh:asy) (zi:asN) (zj:asN) (zk:asE) (zm:atl) (ui:Int) (uj:Int):Option (List (List Int)):=ay zh zi zj zk zm ui (wrap .i64 (uj+1))
theorem aM.j4_P  {C61_:asY} {ay:as1} (hC61:aM.S61 H0 Ri R0  C61_ ay) {aaQ aaR aaS aaT aaU OS BD OU OW BE OX OY aaV aaW aaX aaY aaZ zh amK ui uj zi zj zk aa0 aa1 zm} (amL:OS=zh.length) (amM:OU=zi.length) (amN:OW=zj.length) (amO:OX=zk.length) (amP:OY=zm.length) (h0:Out H0 Ri H (Rs.blk BD [.sl ⟨aaQ,OS,aaV⟩,.i amK]::Rs.blk BE [.sl ⟨aaR,OU,aaW⟩,.sl ⟨aaS,OW,aaX⟩]::Rs.own ⟨aaT,OX,aaY⟩ (eSl eI).z aa0::Rs.own ⟨aaU,OY,aaZ⟩ cG.z aa1::R0) λR=>ROs (ac eI (ac eI (ac eI (ac eI eI)))) H R ⟨aaQ,OS,aaV⟩ zh/\ROs (ac eI eI) H R ⟨aaR,OU,aaW⟩ zi/\ROs (ac eI eI) H R ⟨aaS,OW,aaX⟩ zj/\CR (eSl eI) H R aa0 zk/\CR cG H R aa1 zm) {r:asE} (hp:aM.pj4 F ay zh zi zj zk zm ui uj=some r):Rt (aM.j4 F (dq.tw F) C61_ BD 0 BE 0 ⟨aaT,OX,aaY⟩ ⟨aaU,OY,aaZ⟩ ui uj H) (aM.Q H0 Ri R0  r):=by
 obtain ⟨w0,s0,amQ,amR,amS,amT,amU⟩:=h0
 subst amL
 subst amM
 subst amN
 subst amO
 subst amP
 unfold aM.pj4 at hp
 unfold aM.j4
 exact hC61 rfl rfl rfl rfl rfl ⟨w0,s0,amQ,amR,amS,amT,amU⟩ hp
def aM.pj5 (F:Nat) (ay:as1) (zn:asy) (zo:asN) (zp:asN) (zq:asE) (zr:atl) (uk:Int) (ul:Int):Option (List (List Int)):=aM.pj4 F ay zn zo zp zq zr uk ul
theorem aM.j5_P  {C61_:asY} {ay:as1} (hC61:aM.S61 H0 Ri R0  C61_ ay) {aa2 aa3 aa4 aa5 aa6 OZ BF O_ Pa sE Pb Pc aa7 aa8 aa9 aa_ aba zn amV uk ul zo zp zq abb abc zr} (amW:OZ=zn.length) (amX:O_=zo.length) (amY:Pa=zp.length) (amZ:Pb=zq.length) (am0:Pc=zr.length) (h0:Out H0 Ri H (Rs.blk BF [.sl ⟨aa2,OZ,aa7⟩,.i amV]::Rs.blk sE [.sl ⟨aa3,O_,aa8⟩,.sl ⟨aa4,Pa,aa9⟩]::Rs.own ⟨aa5,Pb,aa_⟩ (eSl eI).z abb::Rs.own ⟨aa6,Pc,aba⟩ cG.z abc::R0) λR=>ROs (ac eI (ac eI (ac eI (ac eI eI)))) H R ⟨aa2,OZ,aa7⟩ zn/\ROs (ac eI eI) H R ⟨aa3,O_,aa8⟩ zo/\ROs (ac eI eI) H R ⟨aa4,Pa,aa9⟩ zp/\CR (eSl eI) H R abb zq/\CR cG H R abc zr) {r:asE} (hp:aM.pj5 F ay zn zo zp zq zr uk ul=some r):Rt (aM.j5 F (dq.tw F) C61_ BF 0 sE 0 ⟨aa5,Pb,aa_⟩ ⟨aa6,Pc,aba⟩ uk ul H) (aM.Q H0 Ri R0  r):=by
 obtain ⟨w0,s0,am1,am2,am3,am4,am5⟩:=h0
 subst amW
 subst amX
 subst amY
 subst amZ
 subst am0
 unfold aM.pj5 at hp
 unfold aM.j5
 exact aM.j4_P (@hC61) rfl rfl rfl rfl rfl ⟨w0,s0,am1,am2,am3,am4,am5⟩ hp
def aM.pj6 (F:Nat) (ay:as1) (wo:asy) (wq:asN) (wu:asN) (wv:asE) (ww:atl) (pd:asr) (ol:Int) (om:Int):Option (List (List Int)):=(bif (decide ((pd.length:Int)>0)) then ((apn wv ([pd]:List (List Int))).bind λl3=>aM.pj5 F ay wo wq wu l3 ww ol om) else (aM.pj5 F ay wo wq wu wv ww ol om))
theorem aM.j6_P  {C61_:asY} {ay:as1} (hC61:aM.S61 H0 Ri R0  C61_ ay) {abd abe abf abg abh abi Pd xi Pe Pf xj Pg Ph Pi abj abk abl abm abn abo wo am6 ol om wq wu wv abp abq abr ww pd} (am7:Pd=wo.length) (am8:Pe=wq.length) (am9:Pf=wu.length) (am_:Pg=wv.length) (ana:Ph=ww.length) (anb:Pi=pd.length) (h0:Out H0 Ri H (Rs.blk xi [.sl ⟨abd,Pd,abj⟩,.i am6]::Rs.blk xj [.sl ⟨abe,Pe,abk⟩,.sl ⟨abf,Pf,abl⟩]::Rs.own ⟨abg,Pg,abm⟩ (eSl eI).z abp::Rs.own ⟨abh,Ph,abn⟩ cG.z abq::Rs.own ⟨abi,Pi,abo⟩ eI.z abr::R0) λR=>ROs (ac eI (ac eI (ac eI (ac eI eI)))) H R ⟨abd,Pd,abj⟩ wo/\ROs (ac eI eI) H R ⟨abe,Pe,abk⟩ wq/\ROs (ac eI eI) H R ⟨abf,Pf,abl⟩ wu/\CR (eSl eI) H R abp wv/\CR cG H R abq ww/\CR eI H R abr pd) {r:asE} (hp:aM.pj6 F ay wo wq wu wv ww pd ol om=some r):Rt (aM.j6 F (dq.tw F) C61_ xi 0 xj 0 ⟨abg,Pg,abm⟩ ⟨abh,Ph,abn⟩ ⟨abi,Pi,abo⟩ ol om H) (aM.Q H0 Ri R0  r):=by
 obtain ⟨w0,s0,abt,abu,abv,abw,abx,anc⟩:=h0
 subst am7
 subst am8
 subst am9
 subst am_
 subst ana
 subst anb
 unfold aM.pj6 at hp
 unfold aM.j6
 refine aB hp (λhp=>?_) λhp=>?_
 ·obtain ⟨w1,s1,f1⟩:=w0.frz (i:=4) eI rfl anc
  refine cO (eSl eI) w1 (n:=1) (l:=([pd]:List (List Int))) rfl (CR.cons1 ⟨_,rfl,f1⟩ CR.empty) rfl λH2 w2 s2 c2=>?_
  refine ai (w2.rowo (i:=0) rfl) ?_
  obtain ⟨l3,e3,hp⟩:=ag hp
  refine fM (eSl eI) w2 (i:=3) rfl rfl (abw.step (s1.trans s2)) c2 (show 1=List.length ([pd]:List (List Int)) from rfl) rfl e3 λa4 d4 H4 w4 s4 c4 x4=>?_
  obtain ⟨w5,s5⟩:=w4.pp [1,2,3,4] 5
  exact aM.j5_P (@hC61) rfl rfl rfl rfl rfl ⟨w5,(s0.trans (s1.trans (s2.trans (s4.trans s5)))),(abt.step (s1.trans (s2.trans (s4.trans s5)))),(abu.step (s1.trans (s2.trans (s4.trans s5)))),(abv.step (s1.trans (s2.trans (s4.trans s5)))),(c4.step s5),(abx.step (s1.trans (s2.trans (s4.trans s5))))⟩ hp
 ·obtain ⟨w6,s6⟩:=w0.pp [0,1,2,3] 5
  exact aM.j5_P (@hC61) rfl rfl rfl rfl rfl ⟨w6,(s0.trans s6),(abt.step s6),(abu.step s6),(abv.step s6),(abw.step s6),(abx.step s6)⟩ hp
def aM.pl15725 (F:Nat) (ay:as1):Nat->List (Int×Int×Int×Int×Int)->List (Int×Int)->List (Int×Int)->List (List Int)->List Bool->Int->Int->List Int->Int->Option (List (List Int))
 | 0,_,_,_,_,_,_,_,_,_=>none
 | k+1,pa,pb,pc,rr,mz,kF,kG,ru,gb=>(ix mz gb).bind λn1=>(bif (!(gt mz n1)) then ((ix mz gb).bind λn2=>(some (mz.set n2 true)).bind λl3=>(apn ru ([gb]:List Int)).bind λl6=>(dq.p F pa pb pc (wrap .i64 (Int.tdiv gb 4)) (Int.tmod (wrap .i64 (gb+1)) 4)).bind λr8=>aM.pl15725 F ay k pa pb pc rr l3 kF kG l6 (wrap .i64 ((wrap .i64 (4 * r8.1))+r8.2))) else (aM.pj6 F ay pa pb pc rr mz ru kF kG))
theorem aM.l15725_P  {C61_:asY} {ay:as1} (hC61:aM.S61 H0 Ri R0  C61_ ay):∀ k,aM.S15725 H0 Ri R0  (aM.l15725 F (dq.tw F) C61_ k) (aM.pl15725 F ay k):=by
 intro k
 induction k with
 | zero=>unfold aM.S15725;intros;rename_i hp;cases hp
 | succ k ih=>
  intro OC OD OE OF OG OH Ff mf Fg Fh mg Fi Fj Fk OI OJ OK OL OM OO pa aaP kF kG gb pb pc rr OP OQ OR mz ru H ane anf ang anh ani anj h0 r hp
  obtain ⟨w0,s0,Pj,Pm,Pn,aby,Fl,abz⟩:=h0
  subst ane
  subst anf
  subst ang
  subst anh
  subst ani
  subst anj
  unfold aM.pl15725 at hp
  unfold aM.l15725
  obtain ⟨n1,g1,hp⟩:=ag hp
  obtain ⟨p1,q1,i1,h1,j1⟩:=W.ixo (E:=cG) w0 (i:=3) rfl rfl Fl g1
  refine ai i1 ?_
  have h1:_=[_]:=h1
  subst h1
  refine ai (wF (j1 0 _ rfl)) ?_
  refine aB hp (λhp=>?_) λhp=>?_
  ·obtain ⟨n2,g2,hp⟩:=ag hp
   obtain ⟨p2,q2,i2,h2,j2⟩:=W.ixo (E:=cG) w0 (i:=3) rfl rfl Fl g2
   refine ai i2 ?_
   obtain ⟨l3,e3,hp⟩:=ag hp
   refine de cG w0 (i:=3) (j:=0) (p:=p2) rfl rfl Fl g2 i2 e3 rfl rfl (λ_ h=>by have h:_=[_]:=h;subst h;exact rfl) λH4 k4 w4 s4 c4=>?_
   refine cO eI w4 (n:=1) (l:=([gb]:List Int)) rfl (CR.cons1 rfl CR.empty) rfl λH5 w5 s5 c5=>?_
   refine ai (w5.rowo (i:=0) rfl) ?_
   obtain ⟨l6,e6,hp⟩:=ag hp
   refine fM eI w5 (i:=5) rfl rfl (abz.step (s4.trans s5)) c5 (show 1=List.length ([gb]:List Int) from rfl) rfl e6 λa7 d7 H7 w7 s7 c7 x7=>?_
   refine lSl w7 1 ?_
   refine lI w7 1 ?_
   refine lSl w7 2 ?_
   refine lSl w7 2 ?_
   obtain ⟨r8,e8,hp⟩:=ag hp
   refine aE (dq.P rfl rfl rfl ⟨w7,(Pj.step (s4.trans (s5.trans s7))),(Pm.step (s4.trans (s5.trans s7))),(Pn.step (s4.trans (s5.trans s7)))⟩ e8) ?_
   rintro _ H9 ⟨rfl,w9,s9,_⟩
   refine br (br (br (br (br ?_))))
   refine aR w9 λH10 w10 s10=>?_
   refine aq w10 0 λH11 w11 s11=>?_
   refine aq w11 0 λH12 w12 s12=>?_
   refine lI w12 0 ?_
   refine lI w12 0 ?_
   obtain ⟨w13,s13⟩:=w12.pp [2,3,4,5,6] 7
   exact ih rfl rfl rfl rfl ((cj e3).symm) rfl ⟨w13,(s0.trans (s4.trans (s5.trans (s7.trans (s9.trans (s10.trans (s11.trans (s12.trans s13)))))))),(Pj.step (s4.trans (s5.trans (s7.trans (s9.trans (s10.trans (s11.trans (s12.trans s13)))))))),(Pm.step (s4.trans (s5.trans (s7.trans (s9.trans (s10.trans (s11.trans (s12.trans s13)))))))),(Pn.step (s4.trans (s5.trans (s7.trans (s9.trans (s10.trans (s11.trans (s12.trans s13)))))))),(aby.step (s4.trans (s5.trans (s7.trans (s9.trans (s10.trans (s11.trans (s12.trans s13)))))))),(c4.step (s5.trans (s7.trans (s9.trans (s10.trans (s11.trans (s12.trans s13))))))),(c7.step (s9.trans (s10.trans (s11.trans (s12.trans s13)))))⟩ hp
  ·exact aM.j6_P (@hC61) rfl rfl rfl rfl rfl rfl ⟨w0,s0,Pj,Pm,Pn,aby,Fl,abz⟩ hp
def aM.pl61 (F:Nat) :Nat->List (Int×Int×Int×Int×Int)->List (Int×Int)->List (Int×Int)->List (List Int)->List Bool->Int->Int->Option (List (List Int))
 | 0,_,_,_,_,_,_,_=>none
 | k+1,wh,wi,wj,rq,wk,hQ,eN=>(bif (decide (eN<hQ)) then (aM.pl15725 F (aM.pl61 F k) F wh wi wj rq wk hQ eN ([]:List Int) eN) else (some rq))
theorem aM.l61_P  :∀ k,aM.S61 H0 Ri R0  (aM.l61 F (dq.tw F)  k) (aM.pl61 F  k):=by
 intro k
 induction k with
 | zero=>unfold aM.S61;intros;rename_i hp;cases hp
 | succ k ih=>
  intro Om On Oo Oq Ot Fa pU Fb Fc pV Fd Fe Ou Ov Ow Ox Oy wh aaO hQ eN wi wj rq Oz OB wk H ank anl anm ann ano h0 r hp
  obtain ⟨w0,s0,anp,anq,anr,abA,ans⟩:=h0
  subst ank
  subst anl
  subst anm
  subst ann
  subst ano
  unfold aM.pl61 at hp
  unfold aM.l61
  refine aB hp (λhp=>?_) λhp=>?_
  ·obtain ⟨w1,s1⟩:=w0.nilS eI.z (by decide)
   obtain ⟨w2,s2⟩:=w1.pp [1,2,3,4,0] 5
   exact aM.l15725_P (@ih) F rfl rfl rfl rfl rfl rfl ⟨w2,(s0.trans (s1.trans s2)),(anp.step (s1.trans s2)),(anq.step (s1.trans s2)),(anr.step (s1.trans s2)),(abA.step (s1.trans s2)),(ans.step (s1.trans s2)),((CR.empty:CR eI _ _ [] []).step s2)⟩ hp
  ·obtain ⟨w3,s3⟩:=w0.pp [2] 4
   exact aw hp ⟨_,_,_,_,rfl,rfl,w3,(s0.trans s3),(abA.step s3)⟩
def aM.p (F:Nat) (ah:asy) (eF:asN) (bl:asN):Option (List (List Int)):=(mkn (wrap .i64 (4 * (ah.length:Int))) false).bind λl3=>aM.pl61 F F ah eF bl ([]:List (List Int)) l3 (l3.length:Int) 0
theorem aM.P {az lP dW aj iO c_ aA lQ dX ah af eF bl} (aT:aj=ah.length) (rn:iO=eF.length) (gk:c_=bl.length) (h0:Inn H R0 λR=>ROs (ac eI (ac eI (ac eI (ac eI eI)))) H R ⟨az,aj,aA⟩ ah/\ROs (ac eI eI) H R ⟨lP,iO,lQ⟩ eF/\ROs (ac eI eI) H R ⟨dW,c_,dX⟩ bl) {r:asE} (hp:aM.p F ah eF bl=some r):Rt (aM.tw F ⟨az,aj,aA⟩ af ⟨lP,iO,lQ⟩ ⟨dW,c_,dX⟩ H) (aM.Q H R0 R0  r):=by
 obtain ⟨w0,aK,rp,eW⟩:=h0
 subst aT
 subst rn
 subst gk
 unfold aM.p at hp
 unfold aM.tw aM.twX
 have s0:=w0.rf
 refine aR w0 λH1 w1 s1=>?_
 refine aR w1 λH2 w2 s2=>?_
 refine lSl w2 1 ?_
 obtain ⟨l3,e3,hp⟩:=ag hp
 refine kj cG false w2 rfl rfl rfl e3 λH4 k4 w4 s4 c4=>?_
 obtain ⟨w5,s5⟩:=w4.nilS (eSl eI).z (by decide)
 obtain ⟨w6,s6⟩:=w5.pp [3,2,0,1] 4
 exact aM.l61_P F rfl rfl rfl rfl rfl ⟨w6,(s0.trans (s1.trans (s2.trans (s4.trans (s5.trans s6))))),(aK.step (s1.trans (s2.trans (s4.trans (s5.trans s6))))),(rp.step (s1.trans (s2.trans (s4.trans (s5.trans s6))))),(eW.step (s1.trans (s2.trans (s4.trans (s5.trans s6))))),((CR.empty:CR (eSl eI) _ _ [] []).step s6),(c4.step (s5.trans s6))⟩ hp
def gc.Q (H0:Hp) (Ri R0:asp)  (r:Int) (v:AV) (H':Hp):Prop:=v=(.i r)/\Out H0 Ri H' (R0) λR=>True
def gc.p (F:Nat) (ah:asE):Option (Int):=some (ah.length:Int)
theorem gc.P {az aj aA ah} (aT:aj=ah.length) (h0:Inn H R0 λR=>ROs (eSl eI) H R ⟨az,aj,aA⟩ ah) {r:Int} (hp:gc.p F ah=some r):Rt (gc.tw F ⟨az,aj,aA⟩ H) (gc.Q H R0 R0  r):=by
 obtain ⟨w0,aK⟩:=h0
 subst aT
 unfold gc.p at hp
 unfold gc.tw gc.twX
 have s0:=w0.rf
 exact aw hp ⟨rfl,w0,s0,trivial⟩
def bR.Q (H0:Hp) (Ri R0:asp)  (r:asr) (v:AV) (H':Hp):Prop:=∃ o0a:ON,∃ o0n:Nat,∃ o0c:Cap,∃ o0k:List AV,v=(.sl ⟨o0a,o0n,o0c⟩)/\o0n=(r).length/\Out H0 Ri H' (Rs.own ⟨o0a,o0n,o0c⟩ eI.z o0k::R0) λR=>CR eI H' R o0k (r)
def bR.S29 (H0:Hp) (Ri R0:asp)  (C:asz) (pC:List Int->Int->Int->Option (List Int)):Prop:=∀ {Pp Fm Pq rv Pr kH iB},∀ {H:Hp},Fm=rv.length->(Out H0 Ri H (Rs.own ⟨Pp,Fm,Pq⟩ eI.z Pr::R0) λR=>CR eI H R Pr rv)->∀ {r:asr},pC rv kH iB=some r->Rt (C ⟨Pp,Fm,Pq⟩ kH iB H) (bR.Q H0 Ri R0  r)
def bR.pl29 (F:Nat) :Nat->List Int->Int->Int->Option (List Int)
 | 0,_,_,_=>none
 | k+1,rv,kH,iB=>(bif (decide (iB<kH)) then ((apn rv ([iB]:List Int)).bind λl2=>bR.pl29 F k l2 kH (wrap .i64 (iB+1))) else (some rv))
theorem bR.l29_P  :∀ k,bR.S29 H0 Ri R0  (bR.l29 F   k) (bR.pl29 F  k):=by
 intro k
 induction k with
 | zero=>unfold bR.S29;intros;rename_i hp;cases hp
 | succ k ih=>
  intro Pp Fm Pq rv Pr kH iB H ant h0 r hp
  obtain ⟨w0,s0,abB⟩:=h0
  subst ant
  unfold bR.pl29 at hp
  unfold bR.l29
  refine aB hp (λhp=>?_) λhp=>?_
  ·refine cO eI w0 (n:=1) (l:=([iB]:List Int)) rfl (CR.cons1 rfl CR.empty) rfl λH1 w1 s1 c1=>?_
   refine ai (w1.rowo (i:=0) rfl) ?_
   obtain ⟨l2,e2,hp⟩:=ag hp
   refine fM eI w1 (i:=1) rfl rfl (abB.step s1) c1 (show 1=List.length ([iB]:List Int) from rfl) rfl e2 λa3 d3 H3 w3 s3 c3 x3=>?_
   obtain ⟨w4,s4⟩:=w3.pp [1] 2
   exact ih rfl ⟨w4,(s0.trans (s1.trans (s3.trans s4))),(c3.step s4)⟩ hp
  ·exact aw hp ⟨_,_,_,_,rfl,rfl,w0,s0,abB⟩
def bR.p (F:Nat) (aa:Int):Option (List Int):=bR.pl29 F F ([]:List Int) aa 0
theorem bR.P {aa}  (h0:Inn H R0 λR=>True) {r:asr} (hp:bR.p F aa=some r):Rt (bR.tw F aa H) (bR.Q H R0 R0  r):=by
 obtain ⟨w0,_⟩:=h0
 unfold bR.p at hp
 unfold bR.tw bR.twX
 have s0:=w0.rf
 obtain ⟨w1,s1⟩:=w0.nilS eI.z (by decide)
 exact bR.l29_P F rfl ⟨w1,(s0.trans s1),(CR.empty:CR eI _ _ [] [])⟩ hp
def bk.Q (H0:Hp) (Ri R0:asp) (az:ON) (aj:Nat) (aA:Cap) (fh:Bool) (fi fj:asD) (r:asr) (v:AV) (H':Hp):Prop:=∃ lR:List AV,v=(.tup [])/\aj=(r).length/\Out H0 Ri H' (Rs.ow fh ⟨az,aj,aA⟩ eI.z fi lR fj::R0) λR=>CR eI H' R lR (r)
def bk.S7 (H0:Hp) (Ri R0:asp) (eX:ON) (eg:Nat) (eY:Cap) (gB:Bool) (gC gD:asD) (C:att) (pC:atF):Prop:=∀ {fp Ps dE jB jC gV},∀ {H:Hp},eg=fp.length->(Out H0 Ri H (Rs.ow gB ⟨eX,eg,eY⟩ eI.z gC Ps gD::R0) λR=>CR eI H R Ps fp)->∀ {r:asr},pC fp dE jB jC gV=some r->Rt (C ⟨eX,eg,eY⟩ dE jB ⟨eX,eg,eY⟩ jC gV H) (bk.Q H0 Ri R0 eX eg eY gB gC gD r)
def bk.pj2 (F:Nat) (Fn:atF) (zt:asr) (uq:Int) (ur:Int) (ut:Int) (uu:Int):Option (List Int):=Fn zt uq ur ut (wrap .i64 (uu+1))
theorem bk.j2_P {eX eg eY gB gC gD} {C7_:att} {Fn:atF} (hC7:bk.S7 H0 Ri R0 eX eg eY gB gC gD C7_ Fn) {zt abC uq ur ut uu} (anu:eg=zt.length) (h0:Out H0 Ri H (Rs.ow gB ⟨eX,eg,eY⟩ eI.z gC abC gD::R0) λR=>CR eI H R abC zt) {r:asr} (hp:bk.pj2 F Fn zt uq ur ut uu=some r):Rt (bk.j2 F  C7_ ⟨eX,eg,eY⟩ uq ur ⟨eX,eg,eY⟩ ut uu H) (bk.Q H0 Ri R0 eX eg eY gB gC gD r):=by
 obtain ⟨w0,s0,anv⟩:=h0
 subst anu
 unfold bk.pj2 at hp
 unfold bk.j2
 exact hC7 rfl ⟨w0,s0,anv⟩ hp
def bk.pl7 (F:Nat) :Nat->List Int->Int->Int->Int->Int->Option (List Int)
 | 0,_,_,_,_,_=>none
 | k+1,fp,dE,jB,jC,gV=>(bif (decide (gV<jC)) then ((ix fp gV).bind λn1=>(bif ((gt fp n1)==dE) then ((ix fp gV).bind λn2=>(some (fp.set n2 jB)).bind λl3=>bk.pj2 F (bk.pl7 F k) l3 dE jB jC gV) else (bk.pj2 F (bk.pl7 F k) fp dE jB jC gV))) else (some fp))
theorem bk.l7_P {eX eg eY gB gC gD} :∀ k,bk.S7 H0 Ri R0 eX eg eY gB gC gD (bk.l7 F   k) (bk.pl7 F  k):=by
 intro k
 induction k with
 | zero=>unfold bk.S7;intros;rename_i hp;cases hp
 | succ k ih=>
  intro fp Ps dE jB jC gV H Pt h0 r hp
  obtain ⟨w0,s0,pe⟩:=h0
  subst Pt
  unfold bk.pl7 at hp
  unfold bk.l7
  refine aB hp (λhp=>?_) λhp=>?_
  ·obtain ⟨n1,g1,hp⟩:=ag hp
   obtain ⟨p1,q1,i1,h1,j1⟩:=W.ixo (E:=eI) w0 (i:=0) rfl rfl pe g1
   refine ai i1 ?_
   have h1:_=[_]:=h1
   subst h1
   refine ai (aG (j1 0 _ rfl)) ?_
   refine aB hp (λhp=>?_) λhp=>?_
   ·obtain ⟨n2,g2,hp⟩:=ag hp
    obtain ⟨p2,q2,i2,h2,j2⟩:=W.ixo (E:=eI) w0 (i:=0) rfl rfl pe g2
    refine ai i2 ?_
    obtain ⟨l3,e3,hp⟩:=ag hp
    refine de eI w0 (i:=0) (j:=0) (p:=p2) rfl rfl pe g2 i2 e3 rfl rfl (λ_ h=>by have h:_=[_]:=h;subst h;exact rfl) λH4 k4 w4 s4 c4=>?_
    exact bk.j2_P (@ih) ((cj e3).symm) ⟨w4,(s0.trans s4),c4⟩ hp
   ·exact bk.j2_P (@ih) rfl ⟨w0,s0,pe⟩ hp
  ·exact aw hp ⟨_,rfl,rfl,w0,s0,pe⟩
def bk.p (F:Nat) (ah:asr) (au:Int) (cQ:Int):Option (List Int):=(ix ah cQ).bind λn1=>(ix ah au).bind λn2=>bk.pl7 F F ah (gt ah n1) (gt ah n2) (ah.length:Int) 0
theorem bk.P {az aj aA ah fh fi fj iQ au cQ} (aT:aj=ah.length) (h0:Inn H (Rs.ow fh ⟨az,aj,aA⟩ eI.z fi iQ fj::R0) λR=>CR eI H R iQ ah) {r:asr} (hp:bk.p F ah au cQ=some r):Rt (bk.tw F ⟨az,aj,aA⟩ au cQ H) (bk.Q H (Rs.ow fh ⟨az,aj,aA⟩ eI.z fi iQ fj::R0) R0 az aj aA fh fi fj r):=by
 obtain ⟨w0,aK⟩:=h0
 subst aT
 unfold bk.p at hp
 unfold bk.tw bk.twX
 have s0:=w0.rf
 obtain ⟨n1,g1,hp⟩:=ag hp
 obtain ⟨p1,q1,i1,h1,j1⟩:=W.ixo (E:=eI) w0 (i:=0) rfl rfl aK g1
 refine ai i1 ?_
 have h1:_=[_]:=h1
 subst h1
 refine ai (aG (j1 0 _ rfl)) ?_
 obtain ⟨n2,g2,hp⟩:=ag hp
 obtain ⟨p2,q2,i2,h2,j2⟩:=W.ixo (E:=eI) w0 (i:=0) rfl rfl aK g2
 refine ai i2 ?_
 have h2:_=[_]:=h2
 subst h2
 refine ai (aG (j2 0 _ rfl)) ?_
 exact bk.l7_P F rfl ⟨w0,s0,aK⟩ hp
def cW.Q (H0:Hp) (Ri R0:asp)  (r:asr) (v:AV) (H':Hp):Prop:=∃ o0a:ON,∃ o0n:Nat,∃ o0c:Cap,∃ o0k:List AV,v=(.sl ⟨o0a,o0n,o0c⟩)/\o0n=(r).length/\Out H0 Ri H' (Rs.own ⟨o0a,o0n,o0c⟩ eI.z o0k::R0) λR=>CR eI H' R o0k (r)
def cW.p (F:Nat) (ah:asr):Option (List Int):=(if ah.length<=4294967296/\wfs ah=true then some (ko ah) else none)
theorem cW.P {az aj aA ah} (aT:aj=ah.length) (h0:Inn H R0 λR=>ROs eI H R ⟨az,aj,aA⟩ ah) {r:asr} (hp:cW.p F ah=some r):Rt (cW.tw F ⟨az,aj,aA⟩ H) (cW.Q H R0 R0  r):=by
 obtain ⟨w0,f0⟩:=h0
 subst aT
 unfold cW.p at hp
 unfold cW.tw Ao
 have s0:=w0.rf
 obtain ⟨hc,hp⟩:=gl hp
 have hp:=Option.some.inj hp
 obtain ⟨xs,hx,cx⟩:=f0.row rfl
 refine ai hx ?_
 obtain rfl:=cx.ints_eq
 refine ai (afj _) ?_
 refine eQ hc ?_
 by_cases hz:ah.length=0
 ·rw [if_pos hz]
  obtain ⟨w1,s1⟩:=w0.nilS eI.z (by decide)
  obtain rfl:r=[]:=List.length_eq_zero_iff.1 (by rw [<- hp,TN,hz])
  exact ⟨_,_,rfl,none,0,.ex 0,[],rfl,rfl,w1,s0.trans s1,CR.empty⟩
 ·rw [if_neg hz]
  obtain ⟨H2,e2,w2,s2⟩:=w0.newF ((ko ah).map (AV.int .i64)) ah.length eI.z (by rw [List.length_map,TN];exact (Nat.mul_one _).symm) (by decide)
  subst e2
  subst hp
  exact ⟨_,_,rfl,some (_,0),_,.full 1,_,rfl,(TN _).symm,w2,s0.trans s2,CR.ints _ _ _ _⟩
def bM.Q (H0:Hp) (Ri R0:asp)  (r:asr) (v:AV) (H':Hp):Prop:=∃ o0a:ON,∃ o0n:Nat,∃ o0c:Cap,∃ o0k:List AV,v=(.sl ⟨o0a,o0n,o0c⟩)/\o0n=(r).length/\Out H0 Ri H' (Rs.own ⟨o0a,o0n,o0c⟩ eI.z o0k::R0) λR=>CR eI H' R o0k (r)
def bM.S29 (H0:Hp) (Ri R0:asp)  (C:atm) (pC:List (Int×Int)->List (Int×Int)->List Int->Int->Int->Option (List Int)):Prop:=∀ {Fo Pu rx zu Fp oq nA Fq Pv ry pf pg iS rz kJ iC},∀ {H:Hp},zu=pf.length->Fp=pg.length->nA=iS.length->(Out H0 Ri H (Rs.blk oq [.sl ⟨Fo,zu,Fq⟩,.sl ⟨Pu,Fp,Pv⟩]::Rs.own ⟨rx,nA,ry⟩ eI.z rz::R0) λR=>ROs (ac eI eI) H R ⟨Fo,zu,Fq⟩ pf/\ROs (ac eI eI) H R ⟨Pu,Fp,Pv⟩ pg/\CR eI H R rz iS)->∀ {r:asr},pC pf pg iS kJ iC=some r->Rt (C oq 0 ⟨rx,nA,ry⟩ ⟨Fo,zu,Fq⟩ kJ iC H) (bM.Q H0 Ri R0  r)
def bM.pl29 (F:Nat) :Nat->List (Int×Int)->List (Int×Int)->List Int->Int->Int->Option (List Int)
 | 0,_,_,_,_,_=>none
 | k+1,pf,pg,iS,kJ,iC=>(bif (decide (iC<kJ)) then ((ix pf iC).bind λn1=>(ix pg iC).bind λn5=>(bk.p F iS ((gt pf n1).1) ((gt pg n5).1)).bind λr7=>bM.pl29 F k pf pg r7 kJ (wrap .i64 (iC+1))) else ((cW.p F iS).bind λr12=>some r12))
theorem bM.l29_P  :∀ k,bM.S29 H0 Ri R0  (bM.l29 F (cR.tw F) (bR.tw F) (bk.tw F) (cW.tw F)  k) (bM.pl29 F  k):=by
 intro k
 induction k with
 | zero=>unfold bM.S29;intros;rename_i hp;cases hp
 | succ k ih=>
  intro Fo Pu rx zu Fp oq nA Fq Pv ry pf pg iS rz kJ iC H anw anx Pw h0 r hp
  obtain ⟨w0,s0,abD,abE,zw⟩:=h0
  subst anw
  subst anx
  subst Pw
  unfold bM.pl29 at hp
  unfold bM.l29
  refine aB hp (λhp=>?_) λhp=>?_
  ·obtain ⟨n1,g1,hp⟩:=ag hp
   obtain ⟨p1,q1,i1,h1,j1⟩:=ROs.ixr abD rfl g1
   refine ai i1 ?_
   obtain ⟨_,_,rfl,rfl,rfl⟩:=h1
   refine ai (aG (j1 0 _ rfl)) ?_
   refine ai (aG (j1 1 _ rfl)) ?_
   refine aR w0 λH2 w2 s2=>?_
   refine aq w2 0 λH3 w3 s3=>?_
   refine aq w3 0 λH4 w4 s4=>?_
   refine lI w4 0 ?_
   refine lSl w4 1 ?_
   obtain ⟨n5,g5,hp⟩:=ag hp
   obtain ⟨p5,q5,i5,h5,j5⟩:=ROs.ixr (abE.step (s2.trans (s3.trans s4))) rfl g5
   refine ai i5 ?_
   obtain ⟨_,_,rfl,rfl,rfl⟩:=h5
   refine ai (aG (j5 0 _ rfl)) ?_
   obtain ⟨w6,s6⟩:=w4.pp [2,0,1] 3
   obtain ⟨r7,e7,hp⟩:=ag hp
   refine aE (bk.P rfl ⟨w6,(zw.step (s2.trans (s3.trans (s4.trans s6))))⟩ e7) ?_
   rintro _ H8 ⟨arV,rfl,hl8_0,w8,s8,f8_0⟩
   obtain ⟨w9,s9⟩:=w8.pp [2,0] 3
   exact ih rfl rfl hl8_0 ⟨w9,(s0.trans (s2.trans (s3.trans (s4.trans (s6.trans (s8.trans s9)))))),(abD.step (s2.trans (s3.trans (s4.trans (s6.trans (s8.trans s9)))))),(abE.step (s2.trans (s3.trans (s4.trans (s6.trans (s8.trans s9)))))),(f8_0.step s9)⟩ hp
  ·obtain ⟨w10,s10⟩:=w0.pp [1,0] 2
   have f11:=W.borrow1 eI w10 (zw.step s10)
   obtain ⟨w11,s11⟩:=w10.right1
   obtain ⟨r12,e12,hp⟩:=ag hp
   refine aE (cW.P rfl ⟨w11,f11⟩ e12) ?_
   rintro _ H13 ⟨o0a_13,o0n_13,o0c_13,o0k_13,rfl,rfl,w13,s13,f13_0⟩
   obtain ⟨w14,s14⟩:=W.frame1 w10 w13 s13
   refine br ?_
   obtain ⟨w15,s15⟩:=w14.pp [1] 3
   exact aw hp ⟨_,_,_,_,rfl,rfl,w15,(s0.trans (s10.trans (s14.trans s15))),((CR.flat (eA .i64) f13_0).step s15)⟩
def bM.p (F:Nat) (ah:asy) (eF:asN) (bl:asN):Option (List Int):=(cR.p F ah).bind λr3=>(bR.p F r3).bind λr5=>bM.pl29 F F eF bl r5 (eF.length:Int) 0
theorem bM.P {az lP dW aj iO c_ aA lQ dX ah af eF bl} (aT:aj=ah.length) (rn:iO=eF.length) (gk:c_=bl.length) (h0:Inn H R0 λR=>ROs (ac eI (ac eI (ac eI (ac eI eI)))) H R ⟨az,aj,aA⟩ ah/\ROs (ac eI eI) H R ⟨lP,iO,lQ⟩ eF/\ROs (ac eI eI) H R ⟨dW,c_,dX⟩ bl) {r:asr} (hp:bM.p F ah eF bl=some r):Rt (bM.tw F ⟨az,aj,aA⟩ af ⟨lP,iO,lQ⟩ ⟨dW,c_,dX⟩ H) (bM.Q H R0 R0  r):=by
 obtain ⟨w0,aK,rp,eW⟩:=h0
 subst aT
 subst rn
 subst gk
 unfold bM.p at hp
 unfold bM.tw bM.twX
 have s0:=w0.rf
 refine aR w0 λH1 w1 s1=>?_
 refine aR w1 λH2 w2 s2=>?_
 refine lSl w2 1 ?_
 obtain ⟨r3,e3,hp⟩:=ag hp
 refine aE (cR.P rfl ⟨w2,(aK.step (s1.trans s2))⟩ e3) ?_
 rintro _ H4 ⟨rfl,w4,s4,_⟩
 refine br ?_
 obtain ⟨r5,e5,hp⟩:=ag hp
 refine aE (bR.P ⟨w4,trivial⟩ e5) ?_
 rintro _ H6 ⟨o0a_6,o0n_6,o0c_6,o0k_6,rfl,rfl,w6,s6,f6_0⟩
 refine br ?_
 refine lSl w6 1 ?_
 obtain ⟨w7,s7⟩:=w6.pp [1,0] 3
 exact bM.l29_P F rfl rfl rfl ⟨w7,(s0.trans (s1.trans (s2.trans (s4.trans (s6.trans s7))))),(rp.step (s1.trans (s2.trans (s4.trans (s6.trans s7))))),(eW.step (s1.trans (s2.trans (s4.trans (s6.trans s7))))),(f6_0.step s7)⟩ hp
def bK.Q (H0:Hp) (Ri R0:asp)  (r:Int) (v:AV) (H':Hp):Prop:=v=(.i r)/\Out H0 Ri H' (R0) λR=>True
def bK.S61 (H0:Hp) (Ri R0:asp)  (C:asz) (pC:atG):Prop:=∀ {Px Fs Py fp gr gu},∀ {H:Hp},Fs=fp.length->(Out H0 Ri H R0 λR=>ROs eI H R ⟨Px,Fs,Py⟩ fp)->∀ {r:Int},pC fp gr gu=some r->Rt (C ⟨Px,Fs,Py⟩ gr gu H) (bK.Q H0 Ri R0  r)
def bK.pl61 (F:Nat) :Nat->List Int->Int->Int->Option (Int)
 | 0,_,_,_=>none
 | k+1,fp,gr,gu=>(bif (decide (gu<(fp.length:Int))) then ((ix fp gu).bind λn1=>bK.pl61 F k fp (if (gt fp n1)>gr then (gt fp n1) else gr) (wrap .i64 (gu+1))) else (some gr))
theorem bK.l61_P  :∀ k,bK.S61 H0 Ri R0  (bK.l61 F   k) (bK.pl61 F  k):=by
 intro k
 induction k with
 | zero=>unfold bK.S61;intros;rename_i hp;cases hp
 | succ k ih=>
  intro Px Fs Py fp gr gu H Pt h0 r hp
  obtain ⟨w0,s0,pe⟩:=h0
  subst Pt
  unfold bK.pl61 at hp
  unfold bK.l61
  refine aB hp (λhp=>?_) λhp=>?_
  ·obtain ⟨n1,g1,hp⟩:=ag hp
   obtain ⟨p1,q1,i1,h1,j1⟩:=ROs.ixr pe rfl g1
   refine ai i1 ?_
   have h1:_=[_]:=h1
   subst h1
   refine ai (aG (j1 0 _ rfl)) ?_
   exact ih rfl ⟨w0,s0,pe⟩ hp
  ·exact aw hp ⟨rfl,w0,s0,trivial⟩
def bK.pj1 (F:Nat)  (rA:asr):Option (Int):=(ix rA 0).bind λn1=>bK.pl61 F F rA (gt rA n1) 1
theorem bK.j1_P   {abF Pz abG rA} (anz:Pz=rA.length) (h0:Out H0 Ri H R0 λR=>ROs eI H R ⟨abF,Pz,abG⟩ rA) {r:Int} (hp:bK.pj1 F  rA=some r):Rt (bK.j1 F   ⟨abF,Pz,abG⟩ H) (bK.Q H0 Ri R0  r):=by
 obtain ⟨w0,s0,abH⟩:=h0
 subst anz
 unfold bK.pj1 at hp
 unfold bK.j1
 obtain ⟨n1,g1,hp⟩:=ag hp
 obtain ⟨p1,q1,i1,h1,j1⟩:=ROs.ixr abH rfl g1
 refine ai i1 ?_
 have h1:_=[_]:=h1
 subst h1
 refine ai (aG (j1 0 _ rfl)) ?_
 exact bK.l61_P F rfl ⟨w0,s0,abH⟩ hp
def bK.p (F:Nat) (ah:asr):Option (Int):=(bif (decide ((ah.length:Int)<1)) then (none) else (bK.pj1 F ah))
theorem bK.P {az aj aA ah} (aT:aj=ah.length) (h0:Inn H R0 λR=>ROs eI H R ⟨az,aj,aA⟩ ah) {r:Int} (hp:bK.p F ah=some r):Rt (bK.tw F ⟨az,aj,aA⟩ H) (bK.Q H R0 R0  r):=by
 obtain ⟨w0,aK⟩:=h0
 subst aT
 unfold bK.p at hp
 unfold bK.tw bK.twX
 have s0:=w0.rf
 refine aB hp (λhp=>?_) λhp=>?_
 ·cases hp
 ·exact bK.j1_P rfl ⟨w0,s0,aK⟩ hp
def dv.Q (H0:Hp) (Ri R0:asp)  (r:Int) (v:AV) (H':Hp):Prop:=v=(.i r)/\Out H0 Ri H' (R0) λR=>True
def dv.p (F:Nat) (ah:asr):Option (Int):=(bif ((ah.length:Int)==0) then (some 0) else ((bK.p F ah).bind λr1=>some (wrap .i64 (r1+1))))
theorem dv.P {az aj aA ah} (aT:aj=ah.length) (h0:Inn H R0 λR=>ROs eI H R ⟨az,aj,aA⟩ ah) {r:Int} (hp:dv.p F ah=some r):Rt (dv.tw F ⟨az,aj,aA⟩ H) (dv.Q H R0 R0  r):=by
 obtain ⟨w0,aK⟩:=h0
 subst aT
 unfold dv.p at hp
 unfold dv.tw dv.twX
 have s0:=w0.rf
 refine aB hp (λhp=>?_) λhp=>?_
 ·exact aw hp ⟨rfl,w0,s0,trivial⟩
 ·obtain ⟨r1,e1,hp⟩:=ag hp
  refine aE (bK.P rfl ⟨w0,aK⟩ e1) ?_
  rintro _ H2 ⟨rfl,w2,s2,_⟩
  refine br ?_
  exact aw hp ⟨rfl,w2,(s0.trans s2),trivial⟩
def dg.Q (H0:Hp) (Ri R0:asp)  (r:(List (Int×Int))×(List (Int×Int))×Bool) (v:AV) (H':Hp):Prop:=∃ o0a:ON,∃ o0n:Nat,∃ o0c:Cap,∃ o1a:ON,∃ o1n:Nat,∃ o1c:Cap,v=(.tup [(.agg [(.sl ⟨o0a,o0n,o0c⟩),(.sl ⟨o1a,o1n,o1c⟩)]),(.bool r.2.2)])/\o0n=(r.1).length/\o1n=(r.2.1).length/\Out H0 Ri H' (R0) λR=>ROs (ac eI eI) H' R ⟨o0a,o0n,o0c⟩ (r.1)/\ROs (ac eI eI) H' R ⟨o1a,o1n,o1c⟩ (r.2.1)
def dg.p (F:Nat) (ah:asy) (af:Int):Option ((List (Int×Int))×(List (Int×Int))×Bool):=(cR.p F ah).bind λr3=>(bif (decide (r3>10)) then (some (([]:List (Int×Int)),([]:List (Int×Int)),false)) else ((dy.p F af 0 8).bind λr12=>(bif (!r12) then (some (([]:List (Int×Int)),([]:List (Int×Int)),false)) else ((eL.p F ah).bind λr21=>(bif r21 then (some (([]:List (Int×Int)),([]:List (Int×Int)),false)) else ((bf.p F ah).bind λr30=>(bif (!r30.2.2) then (some (([]:List (Int×Int)),([]:List (Int×Int)),false)) else ((aM.p F ah r30.1 r30.2.1).bind λr44=>(gc.p F r44).bind λr48=>(bM.p F ah r30.1 r30.2.1).bind λr52=>(dv.p F r52).bind λr55=>(bif (r48 != (wrap .i64 (r3+(wrap .i64 (2 * r55))))) then (some (([]:List (Int×Int)),([]:List (Int×Int)),false)) else (some (r30.1,r30.2.1,true)))))))))))
theorem dg.P {az aj aA ah af} (aT:aj=ah.length) (h0:Inn H R0 λR=>ROs (ac eI (ac eI (ac eI (ac eI eI)))) H R ⟨az,aj,aA⟩ ah) {r:(List (Int×Int))×(List (Int×Int))×Bool} (hp:dg.p F ah af=some r):Rt (dg.tw F ⟨az,aj,aA⟩ af H) (dg.Q H R0 R0  r):=by
 obtain ⟨w0,aK⟩:=h0
 subst aT
 unfold dg.p at hp
 unfold dg.tw dg.twX
 have s0:=w0.rf
 refine aR w0 λH1 w1 s1=>?_
 refine aR w1 λH2 w2 s2=>?_
 refine lSl w2 1 ?_
 obtain ⟨r3,e3,hp⟩:=ag hp
 refine aE (cR.P rfl ⟨w2,(aK.step (s1.trans s2))⟩ e3) ?_
 rintro _ H4 ⟨rfl,w4,s4,_⟩
 refine br ?_
 refine aB hp (λhp=>?_) λhp=>?_
 ·refine aq w4 0 λH5 w5 s5=>?_
  refine aq w5 0 λH6 w6 s6=>?_
  refine lSl w6 0 ?_
  refine lSl w6 0 ?_
  obtain ⟨w7,s7⟩:=w6.nilS (ac eI eI).z (by decide)
  obtain ⟨w8,s8⟩:=w7.nilS (ac eI eI).z (by decide)
  obtain ⟨w9,s9,f9⟩:=w8.frz (i:=1) (ac eI eI) rfl ((CR.empty:CR (ac eI eI) _ _ [] []).step s8)
  obtain ⟨w10,s10,f10⟩:=w9.frz (i:=0) (ac eI eI) rfl ((CR.empty:CR (ac eI eI) _ _ [] []).step s9)
  obtain ⟨w11,s11⟩:=w10.pp [] 2
  exact aw hp ⟨_,_,_,_,_,_,rfl,rfl,rfl,w11,(s0.trans (s1.trans (s2.trans (s4.trans (s5.trans (s6.trans (s7.trans (s8.trans (s9.trans (s10.trans s11)))))))))),(f9.step (s10.trans s11)),(f10.step s11)⟩
 ·refine lI w4 1 ?_
  obtain ⟨r12,e12,hp⟩:=ag hp
  refine aE (dy.P ⟨w4,trivial⟩ e12) ?_
  rintro _ H13 ⟨rfl,w13,s13,_⟩
  refine br ?_
  refine aB hp (λhp=>?_) λhp=>?_
  ·refine aq w13 0 λH14 w14 s14=>?_
   refine aq w14 0 λH15 w15 s15=>?_
   refine lSl w15 0 ?_
   refine lSl w15 0 ?_
   obtain ⟨w16,s16⟩:=w15.nilS (ac eI eI).z (by decide)
   obtain ⟨w17,s17⟩:=w16.nilS (ac eI eI).z (by decide)
   obtain ⟨w18,s18,f18⟩:=w17.frz (i:=1) (ac eI eI) rfl ((CR.empty:CR (ac eI eI) _ _ [] []).step s17)
   obtain ⟨w19,s19,f19⟩:=w18.frz (i:=0) (ac eI eI) rfl ((CR.empty:CR (ac eI eI) _ _ [] []).step s18)
   obtain ⟨w20,s20⟩:=w19.pp [] 2
   exact aw hp ⟨_,_,_,_,_,_,rfl,rfl,rfl,w20,(s0.trans (s1.trans (s2.trans (s4.trans (s13.trans (s14.trans (s15.trans (s16.trans (s17.trans (s18.trans (s19.trans s20))))))))))),(f18.step (s19.trans s20)),(f19.step s20)⟩
  ·refine lSl w13 1 ?_
   obtain ⟨r21,e21,hp⟩:=ag hp
   refine aE (eL.P rfl ⟨w13,(aK.step (s1.trans (s2.trans (s4.trans s13))))⟩ e21) ?_
   rintro _ H22 ⟨rfl,w22,s22,_⟩
   refine br ?_
   refine aB hp (λhp=>?_) λhp=>?_
   ·refine aq w22 0 λH23 w23 s23=>?_
    refine aq w23 0 λH24 w24 s24=>?_
    refine lSl w24 0 ?_
    refine lSl w24 0 ?_
    obtain ⟨w25,s25⟩:=w24.nilS (ac eI eI).z (by decide)
    obtain ⟨w26,s26⟩:=w25.nilS (ac eI eI).z (by decide)
    obtain ⟨w27,s27,f27⟩:=w26.frz (i:=1) (ac eI eI) rfl ((CR.empty:CR (ac eI eI) _ _ [] []).step s26)
    obtain ⟨w28,s28,f28⟩:=w27.frz (i:=0) (ac eI eI) rfl ((CR.empty:CR (ac eI eI) _ _ [] []).step s27)
    obtain ⟨w29,s29⟩:=w28.pp [] 2
    exact aw hp ⟨_,_,_,_,_,_,rfl,rfl,rfl,w29,(s0.trans (s1.trans (s2.trans (s4.trans (s13.trans (s22.trans (s23.trans (s24.trans (s25.trans (s26.trans (s27.trans (s28.trans s29)))))))))))),(f27.step (s28.trans s29)),(f28.step s29)⟩
   ·refine lSl w22 1 ?_
    refine lI w22 1 ?_
    obtain ⟨r30,e30,hp⟩:=ag hp
    refine aE (bf.P rfl ⟨w22,(aK.step (s1.trans (s2.trans (s4.trans (s13.trans s22)))))⟩ e30) ?_
    rintro _ H31 ⟨o0a_31,o0n_31,o0c_31,o0k_31,o1a_31,o1n_31,o1c_31,o1k_31,rfl,rfl,rfl,w31,s31,f31_0,f31_1⟩
    refine br (br (br (br (br (br (br (br (br ?_))))))))
    refine aR w31 λH32 w32 s32=>?_
    refine aq w32 0 λH33 w33 s33=>?_
    refine aq w33 0 λH34 w34 s34=>?_
    refine aB hp (λhp=>?_) λhp=>?_
    ·refine aq w34 3 λH35 w35 s35=>?_
     refine aq w35 3 λH36 w36 s36=>?_
     refine lSl w36 3 ?_
     refine lSl w36 3 ?_
     obtain ⟨w37,s37⟩:=w36.nilS (ac eI eI).z (by decide)
     obtain ⟨w38,s38⟩:=w37.nilS (ac eI eI).z (by decide)
     obtain ⟨w39,s39,f39⟩:=w38.frz (i:=1) (ac eI eI) rfl ((CR.empty:CR (ac eI eI) _ _ [] []).step s38)
     obtain ⟨w40,s40,f40⟩:=w39.frz (i:=0) (ac eI eI) rfl ((CR.empty:CR (ac eI eI) _ _ [] []).step s39)
     obtain ⟨w41,s41⟩:=w40.pp [] 5
     exact aw hp ⟨_,_,_,_,_,_,rfl,rfl,rfl,w41,(s0.trans (s1.trans (s2.trans (s4.trans (s13.trans (s22.trans (s31.trans (s32.trans (s33.trans (s34.trans (s35.trans (s36.trans (s37.trans (s38.trans (s39.trans (s40.trans s41)))))))))))))))),(f39.step (s40.trans s41)),(f40.step s41)⟩
    ·refine lSl w34 4 ?_
     refine lI w34 4 ?_
     refine lSl w34 0 ?_
     refine lSl w34 0 ?_
     obtain ⟨w42,s42,f42⟩:=w34.frz (i:=1) (ac eI eI) rfl (f31_0.step (s32.trans (s33.trans s34)))
     obtain ⟨w43,s43,f43⟩:=w42.frz (i:=1) (ac eI eI) rfl (f31_1.step (s32.trans (s33.trans (s34.trans s42))))
     obtain ⟨r44,e44,hp⟩:=ag hp
     refine aE (aM.P rfl rfl rfl ⟨w43,(aK.step (s1.trans (s2.trans (s4.trans (s13.trans (s22.trans (s31.trans (s32.trans (s33.trans (s34.trans (s42.trans s43))))))))))),(f42.step s43),f43⟩ e44) ?_
     rintro _ H45 ⟨o0a_45,o0n_45,o0c_45,o0k_45,rfl,rfl,w45,s45,f45_0⟩
     refine br ?_
     refine eQ (aZ.tr (aZ.refl _) s42 (aZ.tr (aZ.refl _) s43 (W.cons_of (Rn:=[_]) w43 w45 s45))) ?_
     have f47:=W.borrow1 (eSl eI) w45 f45_0
     obtain ⟨w47,s47⟩:=w45.right1
     obtain ⟨r48,e48,hp⟩:=ag hp
     refine aE (gc.P rfl ⟨w47,f47⟩ e48) ?_
     rintro _ H49 ⟨rfl,w49,s49,_⟩
     obtain ⟨w50,s50⟩:=W.frame1 w45 w49 s49
     refine br ?_
     refine eQ (W.cons_of (Rn:=[]) w47 w49 s49) ?_
     refine lSl w50 3 ?_
     refine lI w50 3 ?_
     refine lSl w50 1 ?_
     refine lSl w50 1 ?_
     obtain ⟨r52,e52,hp⟩:=ag hp
     refine aE (bM.P rfl rfl rfl ⟨w50,(aK.step (s1.trans (s2.trans (s4.trans (s13.trans (s22.trans (s31.trans (s32.trans (s33.trans (s34.trans (s42.trans (s43.trans (s45.trans s50))))))))))))),(f42.step (s43.trans (s45.trans s50))),(f43.step (s45.trans s50))⟩ e52) ?_
     rintro _ H53 ⟨o0a_53,o0n_53,o0c_53,o0k_53,rfl,rfl,w53,s53,f53_0⟩
     refine br ?_
     have f54:=W.borrow1 eI w53 f53_0
     obtain ⟨w54,s54⟩:=w53.right1
     obtain ⟨r55,e55,hp⟩:=ag hp
     refine aE (dv.P rfl ⟨w54,f54⟩ e55) ?_
     rintro _ H56 ⟨rfl,w56,s56,_⟩
     obtain ⟨w57,s57⟩:=W.frame1 w53 w56 s56
     refine br ?_
     refine aB hp (λhp=>?_) λhp=>?_
     ·refine aq w57 3 λH58 w58 s58=>?_
      refine aq w58 3 λH59 w59 s59=>?_
      refine lSl w59 3 ?_
      refine lSl w59 3 ?_
      obtain ⟨w60,s60⟩:=w59.nilS (ac eI eI).z (by decide)
      obtain ⟨w61,s61⟩:=w60.nilS (ac eI eI).z (by decide)
      obtain ⟨w62,s62,f62⟩:=w61.frz (i:=1) (ac eI eI) rfl ((CR.empty:CR (ac eI eI) _ _ [] []).step s61)
      obtain ⟨w63,s63,f63⟩:=w62.frz (i:=0) (ac eI eI) rfl ((CR.empty:CR (ac eI eI) _ _ [] []).step s62)
      obtain ⟨w64,s64⟩:=w63.pp [] 5
      dsimp only [pk,pks,nth,List.drop,List.set,List.eraseIdx] at w64 s33 s34 s42 f42 s43 f43 s58 s59 s60 s61 s62 f62 s63 f63 s64
      exact aw hp ⟨_,_,_,_,_,_,rfl,rfl,rfl,w64,(s0.trans (s1.trans (s2.trans (s4.trans (s13.trans (s22.trans (s31.trans (s32.trans (s33.trans (s34.trans (s42.trans (s43.trans (s45.trans (s50.trans (s53.trans (s57.trans (s58.trans (s59.trans (s60.trans (s61.trans (s62.trans (s63.trans s64)))))))))))))))))))))),(f62.step (s63.trans s64)),(f63.step s64)⟩
     ·refine lSl w57 2 ?_
      refine lSl w57 2 ?_
      refine aq w57 3 λH65 w65 s65=>?_
      refine aq w65 3 λH66 w66 s66=>?_
      refine lSl w66 3 ?_
      refine lSl w66 3 ?_
      obtain ⟨w67,s67⟩:=w66.pp [] 5
      exact aw hp ⟨_,_,_,_,_,_,rfl,rfl,rfl,w67,(s0.trans (s1.trans (s2.trans (s4.trans (s13.trans (s22.trans (s31.trans (s32.trans (s33.trans (s34.trans (s42.trans (s43.trans (s45.trans (s50.trans (s53.trans (s57.trans (s65.trans (s66.trans s67)))))))))))))))))),(f42.step (s43.trans (s45.trans (s50.trans (s53.trans (s57.trans (s65.trans (s66.trans s67)))))))),(f43.step (s45.trans (s50.trans (s53.trans (s57.trans (s65.trans (s66.trans s67)))))))⟩
def et.Q (H0:Hp) (Ri R0:asp)  (r:Bool) (v:AV) (H':Hp):Prop:=v=(.bool r)/\Out H0 Ri H' (R0) λR=>True
def et.p (F:Nat) (ah:asy) (af:Int):Option (Bool):=(dg.p F ah af).bind λr2=>some r2.2.2
theorem et.P {az aj aA ah af} (aT:aj=ah.length) (h0:Inn H R0 λR=>ROs (ac eI (ac eI (ac eI (ac eI eI)))) H R ⟨az,aj,aA⟩ ah) {r:Bool} (hp:et.p F ah af=some r):Rt (et.tw F ⟨az,aj,aA⟩ af H) (et.Q H R0 R0  r):=by
 obtain ⟨w0,aK⟩:=h0
 subst aT
 unfold et.p at hp
 unfold et.tw et.twX
 have s0:=w0.rf
 refine aR w0 λH1 w1 s1=>?_
 refine lSl w1 0 ?_
 refine lI w1 0 ?_
 obtain ⟨r2,e2,hp⟩:=ag hp
 refine aE (dg.P rfl ⟨w1,(aK.step s1)⟩ e2) ?_
 rintro _ H3 ⟨o0a_3,o0n_3,o0c_3,o1a_3,o1n_3,o1c_3,rfl,rfl,rfl,w3,s3,f3_0,f3_1⟩
 refine br (br (br (br (br (br (br (br (br ?_))))))))
 refine aR w3 λH4 w4 s4=>?_
 refine aq w4 0 λH5 w5 s5=>?_
 refine aq w5 0 λH6 w6 s6=>?_
 obtain ⟨w7,s7⟩:=w6.pp [] 2
 exact aw hp ⟨rfl,w7,(s0.trans (s1.trans (s3.trans (s4.trans (s5.trans (s6.trans s7)))))),trivial⟩
def gd.Q (H0:Hp) (Ri R0:asp)  (r:Bool) (v:AV) (H':Hp):Prop:=v=(.bool r)/\Out H0 Ri H' (R0) λR=>True
def gd.p (F:Nat) (ah:asy) (af:Int):Option (Bool):=(bif ((ah.length:Int)==0) then (some (af==0)) else (some false))
theorem gd.P {az aj aA ah af} (aT:aj=ah.length) (h0:Inn H R0 λR=>ROs (ac eI (ac eI (ac eI (ac eI eI)))) H R ⟨az,aj,aA⟩ ah) {r:Bool} (hp:gd.p F ah af=some r):Rt (gd.tw F ⟨az,aj,aA⟩ af H) (gd.Q H R0 R0  r):=by
 obtain ⟨w0,aK⟩:=h0
 subst aT
 unfold gd.p at hp
 unfold gd.tw gd.twX
 have s0:=w0.rf
 refine aR w0 λH1 w1 s1=>?_
 refine lSl w1 0 ?_
 refine aB hp (λhp=>?_) λhp=>?_
 ·refine lI w1 0 ?_
  obtain ⟨w2,s2⟩:=w1.pp [] 1
  exact aw hp ⟨rfl,w2,(s0.trans (s1.trans s2)),trivial⟩
 ·obtain ⟨w3,s3⟩:=w1.pp [] 1
  exact aw hp ⟨rfl,w3,(s0.trans (s1.trans s3)),trivial⟩
def eR.Q (H0:Hp) (Ri R0:asp)  (r:Int) (v:AV) (H':Hp):Prop:=v=(.i r)/\Out H0 Ri H' (R0) λR=>True
def eR.p (F:Nat) (ah:asy) (af:Int):Option (Int):=(et.p F ah af).bind λr2=>(bif (!r2) then (some 1) else ((gd.p F ah af).bind λr5=>(bif r5 then (some 5) else (some 0))))
theorem eR.P {az aj aA ah af} (aT:aj=ah.length) (h0:Inn H R0 λR=>ROs (ac eI (ac eI (ac eI (ac eI eI)))) H R ⟨az,aj,aA⟩ ah) {r:Int} (hp:eR.p F ah af=some r):Rt (eR.tw F ⟨az,aj,aA⟩ af H) (eR.Q H R0 R0  r):=by
 obtain ⟨w0,aK⟩:=h0
 subst aT
 unfold eR.p at hp
 unfold eR.tw eR.twX
 have s0:=w0.rf
 refine aR w0 λH1 w1 s1=>?_
 refine lSl w1 0 ?_
 refine lI w1 0 ?_
 obtain ⟨r2,e2,hp⟩:=ag hp
 refine aE (et.P rfl ⟨w1,(aK.step s1)⟩ e2) ?_
 rintro _ H3 ⟨rfl,w3,s3,_⟩
 refine br ?_
 refine aB hp (λhp=>?_) λhp=>?_
 ·obtain ⟨w4,s4⟩:=w3.pp [] 1
  exact aw hp ⟨rfl,w4,(s0.trans (s1.trans (s3.trans s4))),trivial⟩
 ·refine lSl w3 0 ?_
  refine lI w3 0 ?_
  obtain ⟨r5,e5,hp⟩:=ag hp
  refine aE (gd.P rfl ⟨w3,(aK.step (s1.trans s3))⟩ e5) ?_
  rintro _ H6 ⟨rfl,w6,s6,_⟩
  refine br ?_
  refine aB hp (λhp=>?_) λhp=>?_
  ·obtain ⟨w7,s7⟩:=w6.pp [] 1
   exact aw hp ⟨rfl,w7,(s0.trans (s1.trans (s3.trans (s6.trans s7)))),trivial⟩
  ·obtain ⟨w8,s8⟩:=w6.pp [] 1
   exact aw hp ⟨rfl,w8,(s0.trans (s1.trans (s3.trans (s6.trans s8)))),trivial⟩
def bg.Q (H0:Hp) (Ri R0:asp)  (r:asM) (v:AV) (H':Hp):Prop:=∃ o0a:ON,∃ o0n:Nat,∃ o0c:Cap,∃ o0k:List AV,v=(.tup [(.sl ⟨o0a,o0n,o0c⟩),(.i r.2)])/\o0n=(r.1).length/\Out H0 Ri H' (Rs.own ⟨o0a,o0n,o0c⟩ eI.z o0k::R0) λR=>CR eI H' R o0k (r.1)
def bg.S29 (H0:Hp) (Ri R0:asp)  (C:atm) (pC:List (Int×Int×Int×Int×Int)->Int->List Int->Int->Int->Option (List Int×Int)):Prop:=∀ {Ft PA zx ou Fu Fv PB nB wx kK jD rB PC},∀ {H:Hp},zx=nB.length->Fu=rB.length->(Out H0 Ri H (Rs.blk ou [.sl ⟨Ft,zx,Fv⟩,.i wx]::Rs.own ⟨PA,Fu,PB⟩ eI.z PC::R0) λR=>ROs (ac eI (ac eI (ac eI (ac eI eI)))) H R ⟨Ft,zx,Fv⟩ nB/\CR eI H R PC rB)->∀ {r:asM},pC nB wx rB kK jD=some r->Rt (C ou 0 ⟨PA,Fu,PB⟩ ⟨Ft,zx,Fv⟩ kK jD H) (bg.Q H0 Ri R0  r)
def bg.pj1 (F:Nat)  (Fw:Int) (zy:asr):Option (List Int×Int):=(cW.p F zy).bind λr3=>(dv.p F r3).bind λr8=>some (r3,(wrap .i64 (r8+Fw)))
theorem bg.j1_P   {abI abJ PD BL PE abK abL abM Fw zy abN} (anA:PD=abM.length) (anB:PE=zy.length) (h0:Out H0 Ri H (Rs.blk BL [.sl ⟨abI,PD,abK⟩,.i Fw]::Rs.own ⟨abJ,PE,abL⟩ eI.z abN::R0) λR=>ROs (ac eI (ac eI (ac eI (ac eI eI)))) H R ⟨abI,PD,abK⟩ abM/\CR eI H R abN zy) {r:asM} (hp:bg.pj1 F  Fw zy=some r):Rt (bg.j1 F (cR.tw F) (bR.tw F) (bk.tw F) (cW.tw F) (dv.tw F)  BL 0 ⟨abJ,PE,abL⟩ H) (bg.Q H0 Ri R0  r):=by
 obtain ⟨w0,s0,arW,anC⟩:=h0
 subst anA
 subst anB
 unfold bg.pj1 at hp
 unfold bg.j1
 obtain ⟨w1,s1⟩:=w0.pp [1,0] 2
 have f2:=W.borrow1 eI w1 (anC.step s1)
 obtain ⟨w2,s2⟩:=w1.right1
 obtain ⟨r3,e3,hp⟩:=ag hp
 refine aE (cW.P rfl ⟨w2,f2⟩ e3) ?_
 rintro _ H4 ⟨o0a_4,o0n_4,o0c_4,o0k_4,rfl,rfl,w4,s4,f4_0⟩
 obtain ⟨w5,s5⟩:=W.frame1 w1 w4 s4
 refine br ?_
 obtain ⟨w6,s6⟩:=w5.pp [1,0,2] 3
 have f7:=W.borrow1 eI w6 ((CR.flat (eA .i64) f4_0).step s6)
 obtain ⟨w7,s7⟩:=w6.right1
 obtain ⟨r8,e8,hp⟩:=ag hp
 refine aE (dv.P rfl ⟨w7,f7⟩ e8) ?_
 rintro _ H9 ⟨rfl,w9,s9,_⟩
 obtain ⟨w10,s10⟩:=W.frame1 w6 w9 s9
 refine br ?_
 refine eQ (aZ.tr (aZ.refl _) s6 (W.cons_of (Rn:=[]) w7 w9 s9)) ?_
 refine lI w10 2 ?_
 obtain ⟨w12,s12⟩:=w10.pp [0] 3
 exact aw hp ⟨_,_,_,_,rfl,rfl,w12,(s0.trans (s1.trans (s5.trans (s6.trans (s10.trans s12))))),((CR.flat (eA .i64) f4_0).step (s6.trans (s10.trans s12)))⟩
def bg.pl29 (F:Nat) :Nat->List (Int×Int×Int×Int×Int)->Int->List Int->Int->Int->Option (List Int×Int)
 | 0,_,_,_,_,_=>none
 | k+1,nB,wx,rB,kK,jD=>(bif (decide (jD<kK)) then ((ix nB jD).bind λn1=>(bk.p F rB ((gt nB n1).2.1) ((gt nB n1).2.2.2.1)).bind λr9=>bg.pl29 F k nB wx r9 kK (wrap .i64 (jD+1))) else (bg.pj1 F wx rB))
theorem bg.l29_P  :∀ k,bg.S29 H0 Ri R0  (bg.l29 F (cR.tw F) (bR.tw F) (bk.tw F) (cW.tw F) (dv.tw F)  k) (bg.pl29 F  k):=by
 intro k
 induction k with
 | zero=>unfold bg.S29;intros;rename_i hp;cases hp
 | succ k ih=>
  intro Ft PA zx ou Fu Fv PB nB wx kK jD rB PC H anD anE h0 r hp
  obtain ⟨w0,s0,PF,abO⟩:=h0
  subst anD
  subst anE
  unfold bg.pl29 at hp
  unfold bg.l29
  refine aB hp (λhp=>?_) λhp=>?_
  ·obtain ⟨n1,g1,hp⟩:=ag hp
   obtain ⟨p1,q1,i1,h1,j1⟩:=ROs.ixr PF rfl g1
   refine ai i1 ?_
   obtain ⟨_,_,rfl,rfl,_,_,rfl,rfl,_,_,rfl,rfl,_,_,rfl,rfl,rfl⟩:=h1
   refine ai (aG (j1 0 _ rfl)) ?_
   refine ai (aG (j1 1 _ rfl)) ?_
   refine ai (aG (j1 2 _ rfl)) ?_
   refine ai (aG (j1 3 _ rfl)) ?_
   refine ai (aG (j1 4 _ rfl)) ?_
   refine aR w0 λH2 w2 s2=>?_
   refine aq w2 0 λH3 w3 s3=>?_
   refine aq w3 0 λH4 w4 s4=>?_
   refine aq w4 0 λH5 w5 s5=>?_
   refine aq w5 0 λH6 w6 s6=>?_
   refine aq w6 0 λH7 w7 s7=>?_
   refine lI w7 0 ?_
   refine lI w7 0 ?_
   obtain ⟨w8,s8⟩:=w7.pp [2,0,1] 3
   obtain ⟨r9,e9,hp⟩:=ag hp
   refine aE (bk.P rfl ⟨w8,(abO.step (s2.trans (s3.trans (s4.trans (s5.trans (s6.trans (s7.trans s8)))))))⟩ e9) ?_
   rintro _ H10 ⟨arX,rfl,hl10_0,w10,s10,f10_0⟩
   obtain ⟨w11,s11⟩:=w10.pp [2,0] 3
   exact ih rfl hl10_0 ⟨w11,(s0.trans (s2.trans (s3.trans (s4.trans (s5.trans (s6.trans (s7.trans (s8.trans (s10.trans s11))))))))),(PF.step (s2.trans (s3.trans (s4.trans (s5.trans (s6.trans (s7.trans (s8.trans (s10.trans s11))))))))),(f10_0.step s11)⟩ hp
  ·exact bg.j1_P rfl rfl ⟨w0,s0,PF,abO⟩ hp
def bg.p (F:Nat) (ah:asy) (af:Int):Option (List Int×Int):=(cR.p F ah).bind λr2=>(bR.p F (wrap .i64 (2 * r2))).bind λr4=>bg.pl29 F F ah af r4 (ah.length:Int) 0
theorem bg.P {az aj aA ah af} (aT:aj=ah.length) (h0:Inn H R0 λR=>ROs (ac eI (ac eI (ac eI (ac eI eI)))) H R ⟨az,aj,aA⟩ ah) {r:asM} (hp:bg.p F ah af=some r):Rt (bg.tw F ⟨az,aj,aA⟩ af H) (bg.Q H R0 R0  r):=by
 obtain ⟨w0,aK⟩:=h0
 subst aT
 unfold bg.p at hp
 unfold bg.tw bg.twX
 have s0:=w0.rf
 refine aR w0 λH1 w1 s1=>?_
 refine lSl w1 0 ?_
 obtain ⟨r2,e2,hp⟩:=ag hp
 refine aE (cR.P rfl ⟨w1,(aK.step s1)⟩ e2) ?_
 rintro _ H3 ⟨rfl,w3,s3,_⟩
 refine br ?_
 obtain ⟨r4,e4,hp⟩:=ag hp
 refine aE (bR.P ⟨w3,trivial⟩ e4) ?_
 rintro _ H5 ⟨o0a_5,o0n_5,o0c_5,o0k_5,rfl,rfl,w5,s5,f5_0⟩
 refine br ?_
 refine lSl w5 1 ?_
 obtain ⟨w6,s6⟩:=w5.pp [1,0] 2
 exact bg.l29_P F rfl rfl ⟨w6,(s0.trans (s1.trans (s3.trans (s5.trans s6)))),(aK.step (s1.trans (s3.trans (s5.trans s6)))),(f5_0.step s6)⟩ hp
def bL.Q (H0:Hp) (Ri R0:asp)  (r:asE) (v:AV) (H':Hp):Prop:=∃ o0a:ON,∃ o0n:Nat,∃ o0c:Cap,∃ o0k:List AV,v=(.sl ⟨o0a,o0n,o0c⟩)/\o0n=(r).length/\Out H0 Ri H' (Rs.own ⟨o0a,o0n,o0c⟩ (eSl eI).z o0k::R0) λR=>CR (eSl eI) H' R o0k (r)
def bL.S61 (H0:Hp) (Ri R0:asp)  (C:Sl->Sl->Sl->Int->Int->Hp->OA) (pC:List Int->List (List Int)->List (Int×Int×Int×Int×Int)->Int->Int->Option (List (List Int))):Prop:=∀ {qF PG PH np Fx Fy qG PI PJ dr qH PK rC gE eN jE},∀ {H:Hp},np=dr.length->Fx=rC.length->Fy=gE.length->(Out H0 Ri H (Rs.own ⟨qF,np,qG⟩ eI.z qH::Rs.own ⟨PG,Fx,PI⟩ (eSl eI).z PK::R0) λR=>CR eI H R qH dr/\CR (eSl eI) H R PK rC/\ROs (ac eI (ac eI (ac eI (ac eI eI)))) H R ⟨PH,Fy,PJ⟩ gE)->∀ {r:asE},pC dr rC gE eN jE=some r->Rt (C ⟨qF,np,qG⟩ ⟨PG,Fx,PI⟩ ⟨PH,Fy,PJ⟩ eN jE H) (bL.Q H0 Ri R0  r)
def bL.pl61 (F:Nat) :Nat->List Int->List (List Int)->List (Int×Int×Int×Int×Int)->Int->Int->Option (List (List Int))
 | 0,_,_,_,_,_=>none
 | k+1,dr,rC,gE,eN,jE=>(bif (decide (jE<eN)) then ((ix gE jE).bind λn1=>(ix dr ((gt gE n1).1)).bind λn8=>(ix dr ((gt gE n1).2.2.1)).bind λn9=>(ix dr ((gt gE n1).2.1)).bind λn10=>(apn rC ([([(wrap .i64 ((gt dr n9)+1)),(wrap .i64 (((gt gE n1).2.2.2.2) * (wrap .i64 ((gt dr n10)+1)))),(wrap .i64 (0 - (wrap .i64 ((gt dr n8)+1)))),(wrap .i64 ((wrap .i64 (0 - ((gt gE n1).2.2.2.2))) * (wrap .i64 ((gt dr n10)+1))))]:List Int)]:List (List Int))).bind λl14=>bL.pl61 F k dr l14 gE eN (wrap .i64 (jE+1))) else (some rC))
theorem bL.l61_P  :∀ k,bL.S61 H0 Ri R0  (bL.l61 F (bg.tw F)  k) (bL.pl61 F  k):=by
 intro k
 induction k with
 | zero=>unfold bL.S61;intros;rename_i hp;cases hp
 | succ k ih=>
  intro qF PG PH np Fx Fy qG PI PJ dr qH PK rC gE eN jE H JR anF anG h0 r hp
  obtain ⟨w0,s0,oR,abP,abQ⟩:=h0
  subst JR
  subst anF
  subst anG
  unfold bL.pl61 at hp
  unfold bL.l61
  refine aB hp (λhp=>?_) λhp=>?_
  ·obtain ⟨n1,g1,hp⟩:=ag hp
   obtain ⟨p1,q1,i1,h1,j1⟩:=ROs.ixr abQ rfl g1
   refine ai i1 ?_
   obtain ⟨_,_,rfl,rfl,_,_,rfl,rfl,_,_,rfl,rfl,_,_,rfl,rfl,rfl⟩:=h1
   refine ai (aG (j1 0 _ rfl)) ?_
   refine ai (aG (j1 1 _ rfl)) ?_
   refine ai (aG (j1 2 _ rfl)) ?_
   refine ai (aG (j1 3 _ rfl)) ?_
   refine ai (aG (j1 4 _ rfl)) ?_
   refine aR w0 λH2 w2 s2=>?_
   refine aq w2 0 λH3 w3 s3=>?_
   refine aq w3 0 λH4 w4 s4=>?_
   refine aq w4 0 λH5 w5 s5=>?_
   refine aq w5 0 λH6 w6 s6=>?_
   refine aq w6 0 λH7 w7 s7=>?_
   refine lI w7 0 ?_
   obtain ⟨n8,g8,hp⟩:=ag hp
   obtain ⟨p8,q8,i8,h8,j8⟩:=W.ixo (E:=eI) w7 (i:=1) rfl rfl (oR.step (s2.trans (s3.trans (s4.trans (s5.trans (s6.trans s7)))))) g8
   refine ai i8 ?_
   have h8:_=[_]:=h8
   subst h8
   refine ai (aG (j8 0 _ rfl)) ?_
   refine lI w7 0 ?_
   obtain ⟨n9,g9,hp⟩:=ag hp
   obtain ⟨p9,q9,i9,h9,j9⟩:=W.ixo (E:=eI) w7 (i:=1) rfl rfl (oR.step (s2.trans (s3.trans (s4.trans (s5.trans (s6.trans s7)))))) g9
   refine ai i9 ?_
   have h9:_=[_]:=h9
   subst h9
   refine ai (aG (j9 0 _ rfl)) ?_
   refine lI w7 0 ?_
   obtain ⟨n10,g10,hp⟩:=ag hp
   obtain ⟨p10,q10,i10,h10,j10⟩:=W.ixo (E:=eI) w7 (i:=1) rfl rfl (oR.step (s2.trans (s3.trans (s4.trans (s5.trans (s6.trans s7)))))) g10
   refine ai i10 ?_
   have h10:_=[_]:=h10
   subst h10
   refine ai (aG (j10 0 _ rfl)) ?_
   refine lI w7 0 ?_
   refine lI w7 0 ?_
   refine cO eI w7 (n:=4) (l:=([(wrap .i64 ((gt dr n9)+1)),(wrap .i64 (((gt gE n1).2.2.2.2) * (wrap .i64 ((gt dr n10)+1)))),(wrap .i64 (0 - (wrap .i64 ((gt dr n8)+1)))),(wrap .i64 ((wrap .i64 (0 - ((gt gE n1).2.2.2.2))) * (wrap .i64 ((gt dr n10)+1))))]:List Int)) rfl (CR.cons1 rfl (CR.cons1 rfl (CR.cons1 rfl (CR.cons1 rfl CR.empty)))) rfl λH11 w11 s11 c11=>?_
   obtain ⟨w12,s12,f12⟩:=w11.frz (i:=0) eI rfl c11
   refine cO (eSl eI) w12 (n:=1) (l:=([([(wrap .i64 ((gt dr n9)+1)),(wrap .i64 (((gt gE n1).2.2.2.2) * (wrap .i64 ((gt dr n10)+1)))),(wrap .i64 (0 - (wrap .i64 ((gt dr n8)+1)))),(wrap .i64 ((wrap .i64 (0 - ((gt gE n1).2.2.2.2))) * (wrap .i64 ((gt dr n10)+1))))]:List Int)]:List (List Int))) rfl (CR.cons1 ⟨_,rfl,f12⟩ CR.empty) rfl λH13 w13 s13 c13=>?_
   refine ai (w13.rowo (i:=0) rfl) ?_
   obtain ⟨l14,e14,hp⟩:=ag hp
   refine fM (eSl eI) w13 (i:=3) rfl rfl (abP.step (s2.trans (s3.trans (s4.trans (s5.trans (s6.trans (s7.trans (s11.trans (s12.trans s13))))))))) c13 (show 1=List.length ([([(wrap .i64 ((gt dr n9)+1)),(wrap .i64 (((gt gE n1).2.2.2.2) * (wrap .i64 ((gt dr n10)+1)))),(wrap .i64 (0 - (wrap .i64 ((gt dr n8)+1)))),(wrap .i64 ((wrap .i64 (0 - ((gt gE n1).2.2.2.2))) * (wrap .i64 ((gt dr n10)+1))))]:List Int)]:List (List Int)) from rfl) rfl e14 λa15 d15 H15 w15 s15 c15 x15=>?_
   obtain ⟨w16,s16⟩:=w15.pp [2,3] 4
   exact ih rfl rfl rfl ⟨w16,(s0.trans (s2.trans (s3.trans (s4.trans (s5.trans (s6.trans (s7.trans (s11.trans (s12.trans (s13.trans (s15.trans s16))))))))))),(oR.step (s2.trans (s3.trans (s4.trans (s5.trans (s6.trans (s7.trans (s11.trans (s12.trans (s13.trans (s15.trans s16))))))))))),(c15.step s16),(abQ.step (s2.trans (s3.trans (s4.trans (s5.trans (s6.trans (s7.trans (s11.trans (s12.trans (s13.trans (s15.trans s16)))))))))))⟩ hp
  ·obtain ⟨w17,s17⟩:=w0.pp [1] 2
   exact aw hp ⟨_,_,_,_,rfl,rfl,w17,(s0.trans s17),(abP.step s17)⟩
def bL.p (F:Nat) (ah:asy) (af:Int):Option (List (List Int)):=(bg.p F ah af).bind λr2=>bL.pl61 F F r2.1 ([]:List (List Int)) ah (ah.length:Int) 0
theorem bL.P {az aj aA ah af} (aT:aj=ah.length) (h0:Inn H R0 λR=>ROs (ac eI (ac eI (ac eI (ac eI eI)))) H R ⟨az,aj,aA⟩ ah) {r:asE} (hp:bL.p F ah af=some r):Rt (bL.tw F ⟨az,aj,aA⟩ af H) (bL.Q H R0 R0  r):=by
 obtain ⟨w0,aK⟩:=h0
 subst aT
 unfold bL.p at hp
 unfold bL.tw bL.twX
 have s0:=w0.rf
 refine aR w0 λH1 w1 s1=>?_
 refine lSl w1 0 ?_
 refine lI w1 0 ?_
 obtain ⟨r2,e2,hp⟩:=ag hp
 refine aE (bg.P rfl ⟨w1,(aK.step s1)⟩ e2) ?_
 rintro _ H3 ⟨o0a_3,o0n_3,o0c_3,o0k_3,rfl,rfl,w3,s3,f3_0⟩
 refine br (br (br (br (br ?_))))
 refine lSl w3 1 ?_
 obtain ⟨w4,s4⟩:=w3.nilS (eSl eI).z (by decide)
 obtain ⟨w5,s5⟩:=w4.pp [1,0] 3
 exact bL.l61_P F rfl rfl rfl ⟨w5,(s0.trans (s1.trans (s3.trans (s4.trans s5)))),(f3_0.step (s4.trans s5)),((CR.empty:CR (eSl eI) _ _ [] []).step s5),(aK.step (s1.trans (s3.trans (s4.trans s5))))⟩ hp
def dz.Q (H0:Hp) (Ri R0:asp)  (r:asr) (v:AV) (H':Hp):Prop:=∃ o0a:ON,∃ o0n:Nat,∃ o0c:Cap,∃ o0k:List AV,v=(.sl ⟨o0a,o0n,o0c⟩)/\o0n=(r).length/\Out H0 Ri H' (Rs.own ⟨o0a,o0n,o0c⟩ eI.z o0k::R0) λR=>CR eI H' R o0k (r)
def dz.p (F:Nat) (ah:asr):Option (List Int):=apn ([]:List Int) ah
theorem dz.P {az aj aA ah} (aT:aj=ah.length) (h0:Inn H R0 λR=>ROs eI H R ⟨az,aj,aA⟩ ah) {r:asr} (hp:dz.p F ah=some r):Rt (dz.tw F ⟨az,aj,aA⟩ H) (dz.Q H R0 R0  r):=by
 obtain ⟨w0,f0⟩:=h0
 subst aT
 unfold dz.p at hp
 unfold dz.tw dz.twX
 have s0:=w0.rf
 refine aqN (λhb=>?_) (λhb=>?_)
 ·obtain ⟨w1,s1⟩:=w0.nilS eI.z (by decide)
  obtain rfl:=ROs.none_nil f0 (Option.isNone_iff_eq_none.1 hb)
  obtain rfl:r=[]:=(afk hp).2
  exact ⟨_,_,rfl,none,0,.ex 0,[],rfl,rfl,w1,s0.trans s1,CR.empty⟩
 ·refine cO eI w0 (n:=0) (l:=[]) rfl CR.empty rfl λH2 w2 s2 c2=>?_
  obtain ⟨xs,hx,cx⟩:=(f0.step s2).row rfl
  refine ai hx ?_
  refine fM eI w2 (i:=0) rfl rfl c2 cx rfl rfl hp λa d H3 w3 s3 c3 _=>?_
  dsimp only [List.set] at w3 s3 c3
  exact ⟨_,_,rfl,_,_,_,_,rfl,rfl,w3,s0.trans (s2.trans s3),c3⟩
def aW.Q (H0:Hp) (Ri R0:asp)  (r:asv) (v:AV) (H':Hp):Prop:=∃ o1a:ON,∃ o1n:Nat,∃ o1c:Cap,∃ o1k:List AV,v=(.agg [(.i r.1),(.sl ⟨o1a,o1n,o1c⟩)])/\o1n=(r.2).length/\Out H0 Ri H' (Rs.own ⟨o1a,o1n,o1c⟩ eI.z o1k::R0) λR=>CR eI H' R o1k (r.2)
def aW.S6 (H0:Hp) (Ri R0:asp)  (C:atK) (pC:atL):Prop:=∀ {rD abR PL PM Fz di FA fP PO PP kg PQ PR},∀ {H:Hp},Fz=kg.length->FA=PQ.length->(Out H0 Ri H (Rs.blk di [.i rD,.sl ⟨PL,Fz,PO⟩]::Rs.own ⟨PM,FA,PP⟩ eI.z PR::Rs.blk fP [.i abR,.sl ⟨PM,FA,PP⟩]::R0) λR=>ROs eI H R ⟨PL,Fz,PO⟩ kg/\CR eI H R PR PQ)->∀ {r:asv},pC rD kg=some r->Rt (C di 0 fP 0 H) (aW.Q H0 Ri R0  r)
def aW.S14 (H0:Hp) (Ri R0:asp)  (C:atK) (pC:atL):Prop:=∀ {rE abS PU PW FB fb FC mZ PX PY jR PZ P_},∀ {H:Hp},FB=jR.length->FC=PZ.length->(Out H0 Ri H (Rs.blk fb [.i rE,.sl ⟨PU,FB,PX⟩]::Rs.own ⟨PW,FC,PY⟩ eI.z P_::Rs.blk mZ [.i abS,.sl ⟨PW,FC,PY⟩]::R0) λR=>ROs eI H R ⟨PU,FB,PX⟩ jR/\CR eI H R P_ PZ)->∀ {r:asv},pC rE jR=some r->Rt (C fb 0 mZ 0 H) (aW.Q H0 Ri R0  r)
def aW.pj1 (F:Nat)  (FD:Int) (wy:asr):Option (Int×List Int):=(bif ((wy.length:Int)==0) then (some (0,([]:List Int))) else ((dz.p F wy).bind λr5=>some (FD,r5)))
theorem aW.j1_P   {FD anH abT abU Qa uE Qb kL abV abW wy abX abY} (anI:Qa=wy.length) (anJ:Qb=abX.length) (h0:Out H0 Ri H (Rs.blk uE [.i FD,.sl ⟨abT,Qa,abV⟩]::Rs.own ⟨abU,Qb,abW⟩ eI.z abY::Rs.blk kL [.i anH,.sl ⟨abU,Qb,abW⟩]::R0) λR=>ROs eI H R ⟨abT,Qa,abV⟩ wy/\CR eI H R abY abX) {r:asv} (hp:aW.pj1 F  FD wy=some r):Rt (aW.j1 F (dz.tw F)  uE 0 kL 0 H) (aW.Q H0 Ri R0  r):=by
 obtain ⟨w0,s0,anK,arY⟩:=h0
 subst anI
 subst anJ
 unfold aW.pj1 at hp
 unfold aW.j1
 refine lSl w0 0 ?_
 refine aB hp (λhp=>?_) λhp=>?_
 ·refine aq w0 2 λH1 w1 s1=>?_
  refine aq w1 2 λH2 w2 s2=>?_
  refine lI w2 2 ?_
  refine lSl w2 2 ?_
  obtain ⟨w3,s3⟩:=w2.nilS eI.z (by decide)
  obtain ⟨w4,s4⟩:=w3.pp [0] 4
  exact aw hp ⟨_,_,_,_,rfl,rfl,w4,(s0.trans (s1.trans (s2.trans (s3.trans s4)))),((CR.empty:CR eI _ _ [] []).step s4)⟩
 ·refine lI w0 0 ?_
  refine lSl w0 0 ?_
  obtain ⟨r5,e5,hp⟩:=ag hp
  refine aE (dz.P rfl ⟨w0,anK⟩ e5) ?_
  rintro _ H6 ⟨o0a_6,o0n_6,o0c_6,o0k_6,rfl,rfl,w6,s6,f6_0⟩
  refine br ?_
  refine eQ (W.cons_of (Rn:=[_]) w0 w6 s6) ?_
  refine aq w6 3 λH8 w8 s8=>?_
  refine aq w8 3 λH9 w9 s9=>?_
  refine lI w9 3 ?_
  refine lSl w9 3 ?_
  obtain ⟨w10,s10⟩:=w9.pp [0] 4
  exact aw hp ⟨_,_,_,_,rfl,rfl,w10,(s0.trans (s6.trans (s8.trans (s9.trans s10)))),(f6_0.step (s8.trans (s9.trans s10)))⟩
def aW.pl14 (F:Nat) :Nat->Int->List Int->Option (Int×List Int)
 | 0,_,_=>none
 | k+1,rE,jR=>(bif (decide ((jR.length:Int)>0)) then ((ix jR (wrap .i64 ((jR.length:Int) - 1))).bind λn1=>(bif ((gt jR n1)==0) then ((cutf jR 0 (wrap .i64 ((jR.length:Int) - 1))).bind λl2=>aW.pl14 F k rE l2) else (aW.pj1 F rE jR))) else (aW.pj1 F rE jR))
theorem aW.l14_P  :∀ k,aW.S14 H0 Ri R0  (aW.l14 F (dz.tw F)  k) (aW.pl14 F  k):=by
 intro k
 induction k with
 | zero=>unfold aW.S14;intros;rename_i hp;cases hp
 | succ k ih=>
  intro rE abS PU PW FB fb FC mZ PX PY jR PZ P_ H anL anM h0 r hp
  obtain ⟨w0,s0,FE,Qc⟩:=h0
  subst anL
  subst anM
  unfold aW.pl14 at hp
  unfold aW.l14
  refine lSl w0 0 ?_
  refine aB hp (λhp=>?_) λhp=>?_
  ·refine lSl w0 0 ?_
   refine lSl w0 0 ?_
   obtain ⟨n1,g1,hp⟩:=ag hp
   obtain ⟨p1,q1,i1,h1,j1⟩:=ROs.ixr FE rfl g1
   refine ai i1 ?_
   have h1:_=[_]:=h1
   subst h1
   refine ai (aG (j1 0 _ rfl)) ?_
   refine aB hp (λhp=>?_) λhp=>?_
   ·refine lSl w0 0 ?_
    refine lSl w0 0 ?_
    obtain ⟨l2,e2,hp⟩:=ag hp
    obtain ⟨a2,d2,h2,f2⟩:=ROs.cutf FE rfl e2
    refine ai h2 ?_
    refine aq w0 0 λH3 w3 s3=>?_
    exact ih rfl rfl ⟨w3,(s0.trans s3),(f2.step s3),(Qc.step s3)⟩ hp
   ·exact aW.j1_P rfl rfl ⟨w0,s0,FE,Qc⟩ hp
  ·exact aW.j1_P rfl rfl ⟨w0,s0,FE,Qc⟩ hp
def aW.pj2 (F:Nat)  (FG:Int) (zA:asr):Option (Int×List Int):=aW.pl14 F F FG zA
theorem aW.j2_P   {FG anN abZ ab0 Qd BP Qe mi ab1 ab2 zA ab3 ab4} (anO:Qd=zA.length) (anP:Qe=ab3.length) (h0:Out H0 Ri H (Rs.blk BP [.i FG,.sl ⟨abZ,Qd,ab1⟩]::Rs.own ⟨ab0,Qe,ab2⟩ eI.z ab4::Rs.blk mi [.i anN,.sl ⟨ab0,Qe,ab2⟩]::R0) λR=>ROs eI H R ⟨abZ,Qd,ab1⟩ zA/\CR eI H R ab4 ab3) {r:asv} (hp:aW.pj2 F  FG zA=some r):Rt (aW.j2 F (dz.tw F)  BP 0 mi 0 H) (aW.Q H0 Ri R0  r):=by
 obtain ⟨w0,s0,anQ,anR⟩:=h0
 subst anO
 subst anP
 unfold aW.pj2 at hp
 unfold aW.j2
 exact aW.l14_P F rfl rfl ⟨w0,s0,anQ,anR⟩ hp
def aW.pl6 (F:Nat) :Nat->Int->List Int->Option (Int×List Int)
 | 0,_,_=>none
 | k+1,rD,kg=>(bif (decide ((kg.length:Int)>0)) then ((ix kg 0).bind λn1=>(bif ((gt kg n1)==0) then ((cutf kg 1 (kg.length:Int)).bind λl3=>aW.pl6 F k (wrap .i64 (rD+1)) l3) else (aW.pj2 F rD kg))) else (aW.pj2 F rD kg))
theorem aW.l6_P  :∀ k,aW.S6 H0 Ri R0  (aW.l6 F (dz.tw F)  k) (aW.pl6 F  k):=by
 intro k
 induction k with
 | zero=>unfold aW.S6;intros;rename_i hp;cases hp
 | succ k ih=>
  intro rD abR PL PM Fz di FA fP PO PP kg PQ PR H anS anT h0 r hp
  obtain ⟨w0,s0,FH,Qf⟩:=h0
  subst anS
  subst anT
  unfold aW.pl6 at hp
  unfold aW.l6
  refine lSl w0 0 ?_
  refine aB hp (λhp=>?_) λhp=>?_
  ·refine lSl w0 0 ?_
   obtain ⟨n1,g1,hp⟩:=ag hp
   obtain ⟨p1,q1,i1,h1,j1⟩:=ROs.ixr FH rfl g1
   refine ai i1 ?_
   have h1:_=[_]:=h1
   subst h1
   refine ai (aG (j1 0 _ rfl)) ?_
   refine aB hp (λhp=>?_) λhp=>?_
   ·refine lI w0 0 ?_
    refine aq w0 0 λH2 w2 s2=>?_
    refine lSl w2 0 ?_
    obtain ⟨l3,e3,hp⟩:=ag hp
    obtain ⟨a3,d3,h3,f3⟩:=ROs.cutf (FH.step s2) rfl e3
    refine ai h3 ?_
    refine aq w2 0 λH4 w4 s4=>?_
    exact ih rfl rfl ⟨w4,(s0.trans (s2.trans s4)),(f3.step s4),(Qf.step (s2.trans s4))⟩ hp
   ·exact aW.j2_P rfl rfl ⟨w0,s0,FH,Qf⟩ hp
  ·exact aW.j2_P rfl rfl ⟨w0,s0,FH,Qf⟩ hp
def aW.p (F:Nat) (aa:Int) (aF:asr):Option (Int×List Int):=aW.pl6 F F aa aF
theorem aW.P {aa bV bq bW aF} (dk:bq=aF.length) (h0:Inn H R0 λR=>ROs eI H R ⟨bV,bq,bW⟩ aF) {r:asv} (hp:aW.p F aa aF=some r):Rt (aW.tw F aa ⟨bV,bq,bW⟩ H) (aW.Q H R0 R0  r):=by
 obtain ⟨w0,cF⟩:=h0
 subst dk
 unfold aW.p at hp
 unfold aW.tw aW.twX
 have s0:=w0.rf
 refine aR w0 λH1 w1 s1=>?_
 refine aR w1 λH2 w2 s2=>?_
 obtain ⟨w3,s3⟩:=w2.nilS eI.z (by decide)
 obtain ⟨w4,s4⟩:=w3.pp [2,0,1] 3
 exact aW.l6_P F rfl rfl ⟨w4,(s0.trans (s1.trans (s2.trans (s3.trans s4)))),(cF.step (s1.trans (s2.trans (s3.trans s4)))),((CR.empty:CR eI _ _ [] []).step s4)⟩ hp
def cq.Q (H0:Hp) (Ri R0:asp)  (r:asv) (v:AV) (H':Hp):Prop:=∃ o1a:ON,∃ o1n:Nat,∃ o1c:Cap,∃ o1k:List AV,v=(.agg [(.i r.1),(.sl ⟨o1a,o1n,o1c⟩)])/\o1n=(r.2).length/\Out H0 Ri H' (Rs.own ⟨o1a,o1n,o1c⟩ eI.z o1k::R0) λR=>CR eI H' R o1k (r.2)
def cq.p (F:Nat) (aa:Int) (au:Int):Option (Int×List Int):=(aW.p F au ([aa]:List Int)).bind λr4=>some (r4.1,r4.2)
theorem cq.P {aa au}  (h0:Inn H R0 λR=>True) {r:asv} (hp:cq.p F aa au=some r):Rt (cq.tw F aa au H) (cq.Q H R0 R0  r):=by
 obtain ⟨w0,_⟩:=h0
 unfold cq.p at hp
 unfold cq.tw cq.twX
 have s0:=w0.rf
 refine aR w0 λH1 w1 s1=>?_
 refine cO eI w1 (n:=1) (l:=([aa]:List Int)) rfl (CR.cons1 rfl CR.empty) rfl λH2 w2 s2 c2=>?_
 have f3:=W.borrow1 eI w2 c2
 obtain ⟨w3,s3⟩:=w2.right1
 obtain ⟨r4,e4,hp⟩:=ag hp
 refine aE (aW.P (show 1=List.length ([aa]:List Int) from rfl) ⟨w3,f3⟩ e4) ?_
 rintro _ H5 ⟨o1a_5,o1n_5,o1c_5,o1k_5,rfl,rfl,w5,s5,f5_0⟩
 obtain ⟨w6,s6⟩:=W.frame1 w2 w5 s5
 refine br (br (br (br (br ?_))))
 refine aq w6 2 λH7 w7 s7=>?_
 refine aq w7 2 λH8 w8 s8=>?_
 refine lI w8 2 ?_
 refine lSl w8 2 ?_
 obtain ⟨w9,s9⟩:=w8.pp [1] 3
 exact aw hp ⟨_,_,_,_,rfl,rfl,w9,(s0.trans (s1.trans (s2.trans (s6.trans (s7.trans (s8.trans s9)))))),((CR.flat (eA .i64) f5_0).step (s7.trans (s8.trans s9)))⟩
def gf.Q (H0:Hp) (Ri R0:asp)  (r:Int) (v:AV) (H':Hp):Prop:=v=(.i r)/\Out H0 Ri H' (R0) λR=>True
def gf.p (F:Nat) (ah:asr):Option (Int):=some (ah.length:Int)
theorem gf.P {az aj aA ah} (aT:aj=ah.length) (h0:Inn H R0 λR=>ROs eI H R ⟨az,aj,aA⟩ ah) {r:Int} (hp:gf.p F ah=some r):Rt (gf.tw F ⟨az,aj,aA⟩ H) (gf.Q H R0 R0  r):=by
 obtain ⟨w0,aK⟩:=h0
 subst aT
 unfold gf.p at hp
 unfold gf.tw gf.twX
 have s0:=w0.rf
 exact aw hp ⟨rfl,w0,s0,trivial⟩
def cS.Q (H0:Hp) (Ri R0:asp)  (r:Int) (v:AV) (H':Hp):Prop:=v=(.i r)/\Out H0 Ri H' (R0) λR=>True
def cS.p (F:Nat) (aa:Int) (aF:asr):Option (Int):=(gf.p F aF).bind λr2=>some (wrap .i64 ((wrap .i64 (aa+r2)) - 1))
theorem cS.P {aa bV bq bW aF} (dk:bq=aF.length) (h0:Inn H R0 λR=>ROs eI H R ⟨bV,bq,bW⟩ aF) {r:Int} (hp:cS.p F aa aF=some r):Rt (cS.tw F aa ⟨bV,bq,bW⟩ H) (cS.Q H R0 R0  r):=by
 obtain ⟨w0,cF⟩:=h0
 subst dk
 unfold cS.p at hp
 unfold cS.tw cS.twX
 have s0:=w0.rf
 refine aR w0 λH1 w1 s1=>?_
 refine lI w1 0 ?_
 refine lSl w1 0 ?_
 obtain ⟨r2,e2,hp⟩:=ag hp
 refine aE (gf.P rfl ⟨w1,(cF.step s1)⟩ e2) ?_
 rintro _ H3 ⟨rfl,w3,s3,_⟩
 refine br ?_
 refine eQ (W.cons_of (Rn:=[]) w1 w3 s3) ?_
 obtain ⟨w5,s5⟩:=w3.pp [] 1
 exact aw hp ⟨rfl,w5,(s0.trans (s1.trans (s3.trans s5))),trivial⟩
def eC.Q (H0:Hp) (Ri R0:asp)  (r:Bool) (v:AV) (H':Hp):Prop:=v=(.bool r)/\Out H0 Ri H' (R0) λR=>True
def eC.p (F:Nat) (aa:Int):Option (Bool):=(dy.p F aa (-1000000000000) 1000000000000).bind λr1=>some (!r1)
theorem eC.P {aa}  (h0:Inn H R0 λR=>True) {r:Bool} (hp:eC.p F aa=some r):Rt (eC.tw F aa H) (eC.Q H R0 R0  r):=by
 obtain ⟨w0,_⟩:=h0
 unfold eC.p at hp
 unfold eC.tw eC.twX
 have s0:=w0.rf
 obtain ⟨r1,e1,hp⟩:=ag hp
 refine aE (dy.P ⟨w0,trivial⟩ e1) ?_
 rintro _ H2 ⟨rfl,w2,s2,_⟩
 refine br ?_
 exact aw hp ⟨rfl,w2,(s0.trans s2),trivial⟩
def ci.Q (H0:Hp) (Ri R0:asp)  (r:Int) (v:AV) (H':Hp):Prop:=v=(.i r)/\Out H0 Ri H' (R0) λR=>True
def ci.S13 (H0:Hp) (Ri R0:asp)  (C:asz) (pC:atG):Prop:=∀ {lN jf lO ez dj cB},∀ {H:Hp},jf=ez.length->(Out H0 Ri H R0 λR=>ROs eI H R ⟨lN,jf,lO⟩ ez)->∀ {r:Int},pC ez dj cB=some r->Rt (C ⟨lN,jf,lO⟩ dj cB H) (ci.Q H0 Ri R0  r)
def ci.pl13 (F:Nat) :Nat->List Int->Int->Int->Option (Int)
 | 0,_,_,_=>none
 | k+1,ez,dj,cB=>(bif (decide (cB<dj)) then ((ix ez cB).bind λn1=>(eC.p F (gt ez n1)).bind λr2=>(bif r2 then (some cB) else (ci.pl13 F k ez dj (wrap .i64 (cB+1))))) else (some (-1)))
theorem ci.l13_P  :∀ k,ci.S13 H0 Ri R0  (ci.l13 F (eC.tw F)  k) (ci.pl13 F  k):=by
 intro k
 induction k with
 | zero=>unfold ci.S13;intros;rename_i hp;cases hp
 | succ k ih=>
  intro lN jf lO ez dj cB H zg h0 r hp
  obtain ⟨w0,s0,oZ⟩:=h0
  subst zg
  unfold ci.pl13 at hp
  unfold ci.l13
  refine aB hp (λhp=>?_) λhp=>?_
  ·obtain ⟨n1,g1,hp⟩:=ag hp
   obtain ⟨p1,q1,i1,h1,j1⟩:=ROs.ixr oZ rfl g1
   refine ai i1 ?_
   have h1:_=[_]:=h1
   subst h1
   refine ai (aG (j1 0 _ rfl)) ?_
   obtain ⟨r2,e2,hp⟩:=ag hp
   refine aE (eC.P ⟨w0,trivial⟩ e2) ?_
   rintro _ H3 ⟨rfl,w3,s3,_⟩
   refine br ?_
   refine aB hp (λhp=>?_) λhp=>?_
   ·exact aw hp ⟨rfl,w3,(s0.trans s3),trivial⟩
   ·exact ih rfl ⟨w3,(s0.trans s3),(oZ.step s3)⟩ hp
  ·exact aw hp ⟨rfl,w0,s0,trivial⟩
def ci.p (F:Nat) (ah:asr):Option (Int):=ci.pl13 F F ah (ah.length:Int) 0
theorem ci.P {az aj aA ah} (aT:aj=ah.length) (h0:Inn H R0 λR=>ROs eI H R ⟨az,aj,aA⟩ ah) {r:Int} (hp:ci.p F ah=some r):Rt (ci.tw F ⟨az,aj,aA⟩ H) (ci.Q H R0 R0  r):=by
 obtain ⟨w0,aK⟩:=h0
 subst aT
 unfold ci.p at hp
 unfold ci.tw ci.twX
 have s0:=w0.rf
 exact ci.l13_P F rfl ⟨w0,s0,aK⟩ hp
def eS.Q (H0:Hp) (Ri R0:asp)  (r:Bool) (v:AV) (H':Hp):Prop:=v=(.bool r)/\Out H0 Ri H' (R0) λR=>True
def eS.p (F:Nat) (ah:asr):Option (Bool):=(ci.p F ah).bind λr1=>some (decide (r1>=0))
theorem eS.P {az aj aA ah} (aT:aj=ah.length) (h0:Inn H R0 λR=>ROs eI H R ⟨az,aj,aA⟩ ah) {r:Bool} (hp:eS.p F ah=some r):Rt (eS.tw F ⟨az,aj,aA⟩ H) (eS.Q H R0 R0  r):=by
 obtain ⟨w0,aK⟩:=h0
 subst aT
 unfold eS.p at hp
 unfold eS.tw eS.twX
 have s0:=w0.rf
 obtain ⟨r1,e1,hp⟩:=ag hp
 refine aE (ci.P rfl ⟨w0,aK⟩ e1) ?_
 rintro _ H2 ⟨rfl,w2,s2,_⟩
 refine br ?_
 exact aw hp ⟨rfl,w2,(s0.trans s2),trivial⟩
def dA.Q (H0:Hp) (Ri R0:asp)  (r:Bool) (v:AV) (H':Hp):Prop:=v=(.bool r)/\Out H0 Ri H' (R0) λR=>True
def dA.p (F:Nat) (aa:Int) (aF:asr):Option (Bool):=(bif ((aF.length:Int)==0) then (some (aa==0)) else ((bif (decide ((aF.length:Int)<=160)) then ((ix aF 0).bind λn3=>(bif ((gt aF n3) != 0) then ((ix aF (wrap .i64 ((aF.length:Int) - 1))).bind λn4=>(bif ((gt aF n4) != 0) then ((bif (decide (aa>=(-240))) then ((cS.p F aa aF).bind λr5=>(bif (decide (r5<=240)) then ((bif (decide (aa<=240)) then ((eS.p F aF).bind λr7=>some (!r7)) else (some false))) else (some false))) else (some false))) else (some false))) else (some false))) else (some false))))
theorem dA.P {aa bV bq bW aF} (dk:bq=aF.length) (h0:Inn H R0 λR=>ROs eI H R ⟨bV,bq,bW⟩ aF) {r:Bool} (hp:dA.p F aa aF=some r):Rt (dA.tw F aa ⟨bV,bq,bW⟩ H) (dA.Q H R0 R0  r):=by
 obtain ⟨w0,cF⟩:=h0
 subst dk
 unfold dA.p at hp
 unfold dA.tw dA.twX
 have s0:=w0.rf
 refine aR w0 λH1 w1 s1=>?_
 refine lSl w1 0 ?_
 refine aB hp (λhp=>?_) λhp=>?_
 ·refine lI w1 0 ?_
  obtain ⟨w2,s2⟩:=w1.pp [] 1
  exact aw hp ⟨rfl,w2,(s0.trans (s1.trans s2)),trivial⟩
 ·refine aB hp (λhp=>?_) λhp=>?_
  ·refine lSl w1 0 ?_
   obtain ⟨n3,g3,hp⟩:=ag hp
   obtain ⟨p3,q3,i3,h3,j3⟩:=ROs.ixr (cF.step s1) rfl g3
   refine ai i3 ?_
   have h3:_=[_]:=h3
   subst h3
   refine ai (aG (j3 0 _ rfl)) ?_
   refine aB hp (λhp=>?_) λhp=>?_
   ·refine lSl w1 0 ?_
    obtain ⟨n4,g4,hp⟩:=ag hp
    obtain ⟨p4,q4,i4,h4,j4⟩:=ROs.ixr (cF.step s1) rfl g4
    refine ai i4 ?_
    have h4:_=[_]:=h4
    subst h4
    refine ai (aG (j4 0 _ rfl)) ?_
    refine aB hp (λhp=>?_) λhp=>?_
    ·refine lI w1 0 ?_
     refine aB hp (λhp=>?_) λhp=>?_
     ·refine lI w1 0 ?_
      refine lSl w1 0 ?_
      obtain ⟨r5,e5,hp⟩:=ag hp
      refine aE (cS.P rfl ⟨w1,(cF.step s1)⟩ e5) ?_
      rintro _ H6 ⟨rfl,w6,s6,_⟩
      refine br ?_
      refine aB hp (λhp=>?_) λhp=>?_
      ·refine lI w6 0 ?_
       refine aB hp (λhp=>?_) λhp=>?_
       ·refine lSl w6 0 ?_
        obtain ⟨r7,e7,hp⟩:=ag hp
        refine aE (eS.P rfl ⟨w6,(cF.step (s1.trans s6))⟩ e7) ?_
        rintro _ H8 ⟨rfl,w8,s8,_⟩
        refine br ?_
        obtain ⟨w9,s9⟩:=w8.pp [] 1
        exact aw hp ⟨rfl,w9,(s0.trans (s1.trans (s6.trans (s8.trans s9)))),trivial⟩
       ·obtain ⟨w10,s10⟩:=w6.pp [] 1
        exact aw hp ⟨rfl,w10,(s0.trans (s1.trans (s6.trans s10))),trivial⟩
      ·obtain ⟨w11,s11⟩:=w6.pp [] 1
       exact aw hp ⟨rfl,w11,(s0.trans (s1.trans (s6.trans s11))),trivial⟩
     ·obtain ⟨w12,s12⟩:=w1.pp [] 1
      exact aw hp ⟨rfl,w12,(s0.trans (s1.trans s12)),trivial⟩
    ·obtain ⟨w13,s13⟩:=w1.pp [] 1
     exact aw hp ⟨rfl,w13,(s0.trans (s1.trans s13)),trivial⟩
   ·obtain ⟨w14,s14⟩:=w1.pp [] 1
    exact aw hp ⟨rfl,w14,(s0.trans (s1.trans s14)),trivial⟩
  ·obtain ⟨w15,s15⟩:=w1.pp [] 1
   exact aw hp ⟨rfl,w15,(s0.trans (s1.trans s15)),trivial⟩
def eu.Q (H0:Hp) (Ri R0:asp)  (r:Bool) (v:AV) (H':Hp):Prop:=v=(.bool r)/\Out H0 Ri H' (R0) λR=>True
def eu.p (F:Nat) (aa:Int) (aF:asr):Option (Bool):=(dA.p F aa aF).bind λr2=>some (!r2)
theorem eu.P {aa bV bq bW aF} (dk:bq=aF.length) (h0:Inn H R0 λR=>ROs eI H R ⟨bV,bq,bW⟩ aF) {r:Bool} (hp:eu.p F aa aF=some r):Rt (eu.tw F aa ⟨bV,bq,bW⟩ H) (eu.Q H R0 R0  r):=by
 obtain ⟨w0,cF⟩:=h0
 subst dk
 unfold eu.p at hp
 unfold eu.tw eu.twX
 have s0:=w0.rf
 refine aR w0 λH1 w1 s1=>?_
 refine lI w1 0 ?_
 refine lSl w1 0 ?_
 obtain ⟨r2,e2,hp⟩:=ag hp
 refine aE (dA.P rfl ⟨w1,(cF.step s1)⟩ e2) ?_
 rintro _ H3 ⟨rfl,w3,s3,_⟩
 refine br ?_
 obtain ⟨w4,s4⟩:=w3.pp [] 1
 exact aw hp ⟨rfl,w4,(s0.trans (s1.trans (s3.trans s4))),trivial⟩
def cg.Q (H0:Hp) (Ri R0:asp)  (r:Int) (v:AV) (H':Hp):Prop:=v=(.i r)/\Out H0 Ri H' (R0) λR=>True
def cg.S13 (H0:Hp) (Ri R0:asp)  (C:asz) (pC:List (Int×List Int)->Int->Int->Option (Int)):Prop:=∀ {lN jf lO ez dj cB},∀ {H:Hp},jf=ez.length->(Out H0 Ri H R0 λR=>ROs (ac eI (eSl eI)) H R ⟨lN,jf,lO⟩ ez)->∀ {r:Int},pC ez dj cB=some r->Rt (C ⟨lN,jf,lO⟩ dj cB H) (cg.Q H0 Ri R0  r)
def cg.pl13 (F:Nat) :Nat->List (Int×List Int)->Int->Int->Option (Int)
 | 0,_,_,_=>none
 | k+1,ez,dj,cB=>(bif (decide (cB<dj)) then ((ix ez cB).bind λn1=>(eu.p F ((gt ez n1).1) ((gt ez n1).2)).bind λr2=>(bif r2 then (some cB) else (cg.pl13 F k ez dj (wrap .i64 (cB+1))))) else (some (-1)))
theorem cg.l13_P  :∀ k,cg.S13 H0 Ri R0  (cg.l13 F (eu.tw F)  k) (cg.pl13 F  k):=by
 intro k
 induction k with
 | zero=>unfold cg.S13;intros;rename_i hp;cases hp
 | succ k ih=>
  intro lN jf lO ez dj cB H zg h0 r hp
  obtain ⟨w0,s0,oZ⟩:=h0
  subst zg
  unfold cg.pl13 at hp
  unfold cg.l13
  refine aB hp (λhp=>?_) λhp=>?_
  ·obtain ⟨n1,g1,hp⟩:=ag hp
   obtain ⟨p1,q1,i1,h1,j1⟩:=ROs.ixr oZ rfl g1
   refine ai i1 ?_
   obtain ⟨_,_,rfl,rfl,⟨⟨anU,m1_1,c1_1⟩,rfl,f1_1⟩⟩:=h1
   obtain rfl:m1_1=_:=f1_1.n
   refine ai (aG (j1 0 _ rfl)) ?_
   refine ai (iU (j1 1 _ rfl)) ?_
   obtain ⟨r2,e2,hp⟩:=ag hp
   refine aE (eu.P rfl ⟨w0,f1_1⟩ e2) ?_
   rintro _ H3 ⟨rfl,w3,s3,_⟩
   refine br ?_
   refine aB hp (λhp=>?_) λhp=>?_
   ·exact aw hp ⟨rfl,w3,(s0.trans s3),trivial⟩
   ·exact ih rfl ⟨w3,(s0.trans s3),(oZ.step s3)⟩ hp
  ·exact aw hp ⟨rfl,w0,s0,trivial⟩
def cg.p (F:Nat) (ah:asL):Option (Int):=cg.pl13 F F ah (ah.length:Int) 0
theorem cg.P {az aj aA ah} (aT:aj=ah.length) (h0:Inn H R0 λR=>ROs (ac eI (eSl eI)) H R ⟨az,aj,aA⟩ ah) {r:Int} (hp:cg.p F ah=some r):Rt (cg.tw F ⟨az,aj,aA⟩ H) (cg.Q H R0 R0  r):=by
 obtain ⟨w0,aK⟩:=h0
 subst aT
 unfold cg.p at hp
 unfold cg.tw cg.twX
 have s0:=w0.rf
 exact cg.l13_P F rfl ⟨w0,s0,aK⟩ hp
def eT.Q (H0:Hp) (Ri R0:asp)  (r:Bool) (v:AV) (H':Hp):Prop:=v=(.bool r)/\Out H0 Ri H' (R0) λR=>True
def eT.p (F:Nat) (ah:asL):Option (Bool):=(cg.p F ah).bind λr1=>some (decide (r1>=0))
theorem eT.P {az aj aA ah} (aT:aj=ah.length) (h0:Inn H R0 λR=>ROs (ac eI (eSl eI)) H R ⟨az,aj,aA⟩ ah) {r:Bool} (hp:eT.p F ah=some r):Rt (eT.tw F ⟨az,aj,aA⟩ H) (eT.Q H R0 R0  r):=by
 obtain ⟨w0,aK⟩:=h0
 subst aT
 unfold eT.p at hp
 unfold eT.tw eT.twX
 have s0:=w0.rf
 obtain ⟨r1,e1,hp⟩:=ag hp
 refine aE (cg.P rfl ⟨w0,aK⟩ e1) ?_
 rintro _ H2 ⟨rfl,w2,s2,_⟩
 refine br ?_
 exact aw hp ⟨rfl,w2,(s0.trans s2),trivial⟩
def cL.Q (H0:Hp) (Ri R0:asp)  (r:Bool) (v:AV) (H':Hp):Prop:=v=(.bool r)/\Out H0 Ri H' (R0) λR=>True
def cL.p (F:Nat) (ah:asL):Option (Bool):=(eT.p F ah).bind λr1=>some (!r1)
theorem cL.P {az aj aA ah} (aT:aj=ah.length) (h0:Inn H R0 λR=>ROs (ac eI (eSl eI)) H R ⟨az,aj,aA⟩ ah) {r:Bool} (hp:cL.p F ah=some r):Rt (cL.tw F ⟨az,aj,aA⟩ H) (cL.Q H R0 R0  r):=by
 obtain ⟨w0,aK⟩:=h0
 subst aT
 unfold cL.p at hp
 unfold cL.tw cL.twX
 have s0:=w0.rf
 obtain ⟨r1,e1,hp⟩:=ag hp
 refine aE (eT.P rfl ⟨w0,aK⟩ e1) ?_
 rintro _ H2 ⟨rfl,w2,s2,_⟩
 refine br ?_
 exact aw hp ⟨rfl,w2,(s0.trans s2),trivial⟩
def cM.Q (H0:Hp) (Ri R0:asp)  (r:asJ) (v:AV) (H':Hp):Prop:=∃ o1a:ON,∃ o1n:Nat,∃ o1c:Cap,∃ o1k:List AV,v=(.tup [(.agg [(.i r.1),(.sl ⟨o1a,o1n,o1c⟩)]),(.i r.2.2)])/\o1n=(r.2.1).length/\Out H0 Ri H' (Rs.own ⟨o1a,o1n,o1c⟩ eI.z o1k::R0) λR=>CR eI H' R o1k (r.2.1)
def cM.p (F:Nat) (aa:Int) (aF:asr):Option (Int×List Int×Int):=(aW.p F aa aF).bind λr3=>(dA.p F r3.1 r3.2).bind λr8=>(bif (!r8) then (some (0,([]:List Int),3)) else (some (r3.1,r3.2,0)))
theorem cM.P {aa bV bq bW aF} (dk:bq=aF.length) (h0:Inn H R0 λR=>ROs eI H R ⟨bV,bq,bW⟩ aF) {r:asJ} (hp:cM.p F aa aF=some r):Rt (cM.tw F aa ⟨bV,bq,bW⟩ H) (cM.Q H R0 R0  r):=by
 obtain ⟨w0,cF⟩:=h0
 subst dk
 unfold cM.p at hp
 unfold cM.tw cM.twX
 have s0:=w0.rf
 refine aR w0 λH1 w1 s1=>?_
 refine aR w1 λH2 w2 s2=>?_
 refine lI w2 1 ?_
 refine lSl w2 1 ?_
 obtain ⟨r3,e3,hp⟩:=ag hp
 refine aE (aW.P rfl ⟨w2,(cF.step (s1.trans s2))⟩ e3) ?_
 rintro _ H4 ⟨o1a_4,o1n_4,o1c_4,o1k_4,rfl,rfl,w4,s4,f4_0⟩
 refine br (br (br (br (br ?_))))
 refine aq w4 2 λH5 w5 s5=>?_
 refine aq w5 2 λH6 w6 s6=>?_
 refine lI w6 2 ?_
 refine lSl w6 2 ?_
 have f7:=W.borrow1 eI w6 (f4_0.step (s5.trans s6))
 obtain ⟨w7,s7⟩:=w6.right1
 obtain ⟨r8,e8,hp⟩:=ag hp
 refine aE (dA.P rfl ⟨w7,f7⟩ e8) ?_
 rintro _ H9 ⟨rfl,w9,s9,_⟩
 obtain ⟨w10,s10⟩:=W.frame1 w6 w9 s9
 refine br ?_
 refine aB hp (λhp=>?_) λhp=>?_
 ·refine aq w10 1 λH11 w11 s11=>?_
  refine aq w11 1 λH12 w12 s12=>?_
  refine lI w12 1 ?_
  refine lSl w12 1 ?_
  obtain ⟨w13,s13⟩:=w12.nilS eI.z (by decide)
  obtain ⟨w14,s14⟩:=w13.pp [0] 4
  exact aw hp ⟨_,_,_,_,rfl,rfl,w14,(s0.trans (s1.trans (s2.trans (s4.trans (s5.trans (s6.trans (s10.trans (s11.trans (s12.trans (s13.trans s14)))))))))),((CR.empty:CR eI _ _ [] []).step s14)⟩
 ·refine lI w10 2 ?_
  refine lSl w10 2 ?_
  refine aq w10 1 λH15 w15 s15=>?_
  refine aq w15 1 λH16 w16 s16=>?_
  refine lI w16 1 ?_
  refine lSl w16 1 ?_
  obtain ⟨w17,s17⟩:=w16.pp [0] 3
  exact aw hp ⟨_,_,_,_,rfl,rfl,w17,(s0.trans (s1.trans (s2.trans (s4.trans (s5.trans (s6.trans (s10.trans (s15.trans (s16.trans s17))))))))),(f4_0.step (s5.trans (s6.trans (s10.trans (s15.trans (s16.trans s17))))))⟩
def aO.Q (H0:Hp) (Ri R0:asp)  (r:asJ) (v:AV) (H':Hp):Prop:=∃ o1a:ON,∃ o1n:Nat,∃ o1c:Cap,∃ o1k:List AV,v=(.tup [(.agg [(.i r.1),(.sl ⟨o1a,o1n,o1c⟩)]),(.i r.2.2)])/\o1n=(r.2.1).length/\Out H0 Ri H' (Rs.own ⟨o1a,o1n,o1c⟩ eI.z o1k::R0) λR=>CR eI H' R o1k (r.2.1)
def aO.S125 (H0:Hp) (Ri R0:asp)  (C:as_) (pC:atg):Prop:=∀ {ab5 na wz kQ jH Qg Qh Qi FI oz FJ oA FK Qj Qk Ql Qm rF Qn Qo Qp mA},∀ {H:Hp},FI=Qm.length->FJ=rF.length->FK=mA.length->(Out H0 Ri H (Rs.own ⟨Qg,FI,Qj⟩ eI.z Qn::Rs.blk oz [.i ab5,.sl ⟨Qg,FI,Qj⟩]::Rs.own ⟨Qh,FJ,Qk⟩ eI.z Qo::Rs.blk oA [.i wz,.sl ⟨Qh,FJ,Qk⟩]::Rs.own ⟨Qi,FK,Ql⟩ (ac eI (eSl eI)).z Qp::R0) λR=>CR eI H R Qn Qm/\CR eI H R Qo rF/\CR (ac eI (eSl eI)) H R Qp mA)->∀ {r:asJ},pC na wz rF mA kQ jH=some r->Rt (C oz 0 na oA 0 ⟨Qi,FK,Ql⟩ kQ jH H) (aO.Q H0 Ri R0  r)
def aO.S8027 (H0:Hp) (Ri R0:asp)  (C:Nat->Nat->Int->Nat->Nat->Sl->Int->Int->Nat->Nat->Sl->Int->Int->Hp->OA) (pC:Int->Int->List Int->List (Int×List Int)->Int->Int->Int->List Int->Int->Int->Option (Int×List Int×Int)):Prop:=∀ {ab6 iD wA kN kO rG kP gW Qq Qr Qs FL FM ox FN m_ FO zB oy Qt Qu Qv FP Qw mB ph Qx Qy Qz rH},∀ {H:Hp},FM=Qw.length->FN=mB.length->FO=rH.length->zB=ph.length->(Out H0 Ri H (Rs.own ⟨Qq,FM,Qt⟩ eI.z Qx::Rs.blk ox [.i ab6,.sl ⟨Qq,FM,Qt⟩]::Rs.own ⟨Qr,FN,Qu⟩ eI.z Qy::Rs.blk m_ [.i wA,.sl ⟨Qr,FN,Qu⟩]::Rs.own ⟨Qs,FO,Qv⟩ (ac eI (eSl eI)).z Qz::Rs.blk oy [.i rG,.sl ⟨FL,zB,FP⟩]::R0) λR=>CR eI H R Qx Qw/\CR eI H R Qy mB/\CR (ac eI (eSl eI)) H R Qz rH/\ROs eI H R ⟨FL,zB,FP⟩ ph)->∀ {r:asJ},pC iD wA mB rH kN kO rG ph kP gW=some r->Rt (C ox 0 iD m_ 0 ⟨Qs,FO,Qv⟩ kN kO oy 0 ⟨FL,zB,FP⟩ kP gW H) (aO.Q H0 Ri R0  r)
def aO.pj4 (F:Nat) (bv:atg) (mj:Int) (FQ:Int) (zC:asr) (zD:asL) (uK:Int) (uL:Int):Option (Int×List Int×Int):=bv mj FQ zC zD uK (wrap .i64 (uL+1))
theorem aO.j4_P  {C125_:as_} {bv:atg} (hC125:aO.S125 H0 Ri R0  C125_ bv) {anV mj FQ uK uL ab7 ab8 ab9 QA BR QB BS QC ab_ aca acb acd zC ace acf acg zD} (anW:QA=acd.length) (anX:QB=zC.length) (anY:QC=zD.length) (h0:Out H0 Ri H (Rs.own ⟨ab7,QA,ab_⟩ eI.z ace::Rs.blk BR [.i anV,.sl ⟨ab7,QA,ab_⟩]::Rs.own ⟨ab8,QB,aca⟩ eI.z acf::Rs.blk BS [.i FQ,.sl ⟨ab8,QB,aca⟩]::Rs.own ⟨ab9,QC,acb⟩ (ac eI (eSl eI)).z acg::R0) λR=>CR eI H R ace acd/\CR eI H R acf zC/\CR (ac eI (eSl eI)) H R acg zD) {r:asJ} (hp:aO.pj4 F bv mj FQ zC zD uK uL=some r):Rt (aO.j4 F (cL.tw F) (cS.tw F) (cM.tw F) C125_ BR 0 mj BS 0 ⟨ab9,QC,acb⟩ uK uL H) (aO.Q H0 Ri R0  r):=by
 obtain ⟨w0,s0,anZ,an0,an1⟩:=h0
 subst anW
 subst anX
 subst anY
 unfold aO.pj4 at hp
 unfold aO.j4
 exact hC125 rfl rfl rfl ⟨w0,s0,anZ,an0,an1⟩ hp
def aO.pj5 (F:Nat) (bv:atg) (uM:Int) (FR:Int) (zE:asr) (zF:asL) (uN:Int) (uO:Int):Option (Int×List Int×Int):=aO.pj4 F bv uM FR zE zF uN uO
theorem aO.j5_P  {C125_:as_} {bv:atg} (hC125:aO.S125 H0 Ri R0  C125_ bv) {an2 uM FR uN uO ach aci acj QD BT QE BU QF ack acl acm acn zE aco acp acq zF} (an3:QD=acn.length) (an4:QE=zE.length) (an5:QF=zF.length) (h0:Out H0 Ri H (Rs.own ⟨ach,QD,ack⟩ eI.z aco::Rs.blk BT [.i an2,.sl ⟨ach,QD,ack⟩]::Rs.own ⟨aci,QE,acl⟩ eI.z acp::Rs.blk BU [.i FR,.sl ⟨aci,QE,acl⟩]::Rs.own ⟨acj,QF,acm⟩ (ac eI (eSl eI)).z acq::R0) λR=>CR eI H R aco acn/\CR eI H R acp zE/\CR (ac eI (eSl eI)) H R acq zF) {r:asJ} (hp:aO.pj5 F bv uM FR zE zF uN uO=some r):Rt (aO.j5 F (cL.tw F) (cS.tw F) (cM.tw F) C125_ BT 0 uM BU 0 ⟨acj,QF,acm⟩ uN uO H) (aO.Q H0 Ri R0  r):=by
 obtain ⟨w0,s0,an6,an7,an8⟩:=h0
 subst an3
 subst an4
 subst an5
 unfold aO.pj5 at hp
 unfold aO.j5
 exact aO.j4_P (@hC125) rfl rfl rfl ⟨w0,s0,an6,an7,an8⟩ hp
def aO.pl8027 (F:Nat) (bv:atg):Nat->Int->Int->List Int->List (Int×List Int)->Int->Int->Int->List Int->Int->Int->Option (Int×List Int×Int)
 | 0,_,_,_,_,_,_,_,_,_,_=>none
 | k+1,iD,wA,mB,rH,kN,kO,rG,ph,kP,gW=>(bif (decide (gW<kP)) then ((ix ph gW).bind λn1=>(ix mB (wrap .i64 ((wrap .i64 (rG - iD))+gW))).bind λn2=>(ix mB (wrap .i64 ((wrap .i64 (rG - iD))+gW))).bind λn3=>(some (mB.set n3 (wrap .i64 ((gt mB n2)+(gt ph n1))))).bind λl4=>aO.pl8027 F bv k iD wA l4 rH kN kO rG ph kP (wrap .i64 (gW+1))) else (aO.pj5 F bv iD wA mB rH kN kO))
theorem aO.l8027_P  {C125_:as_} {bv:atg} (hC125:aO.S125 H0 Ri R0  C125_ bv):∀ k,aO.S8027 H0 Ri R0  (aO.l8027 F (cL.tw F) (cS.tw F) (cM.tw F) C125_ k) (aO.pl8027 F bv k):=by
 intro k
 induction k with
 | zero=>unfold aO.S8027;intros;rename_i hp;cases hp
 | succ k ih=>
  intro ab6 iD wA kN kO rG kP gW Qq Qr Qs FL FM ox FN m_ FO zB oy Qt Qu Qv FP Qw mB ph Qx Qy Qz rH H an9 an_ aoa aob h0 r hp
  obtain ⟨w0,s0,acr,FS,acs,act⟩:=h0
  subst an9
  subst an_
  subst aoa
  subst aob
  unfold aO.pl8027 at hp
  unfold aO.l8027
  refine aB hp (λhp=>?_) λhp=>?_
  ·obtain ⟨n1,g1,hp⟩:=ag hp
   obtain ⟨p1,q1,i1,h1,j1⟩:=ROs.ixr act rfl g1
   refine ai i1 ?_
   have h1:_=[_]:=h1
   subst h1
   refine ai (aG (j1 0 _ rfl)) ?_
   refine lSl w0 3 ?_
   refine lI w0 5 ?_
   obtain ⟨n2,g2,hp⟩:=ag hp
   obtain ⟨p2,q2,i2,h2,j2⟩:=W.ixo (E:=eI) w0 (i:=2) rfl rfl FS g2
   refine ai i2 ?_
   have h2:_=[_]:=h2
   subst h2
   refine ai (aG (j2 0 _ rfl)) ?_
   obtain ⟨n3,g3,hp⟩:=ag hp
   obtain ⟨p3,q3,i3,h3,j3⟩:=W.ixo (E:=eI) w0 (i:=2) rfl rfl FS g3
   refine ai i3 ?_
   obtain ⟨l4,e4,hp⟩:=ag hp
   refine de eI w0 (i:=2) (j:=0) (p:=p3) rfl rfl FS g3 i3 e4 rfl rfl (λ_ h=>by have h:_=[_]:=h;subst h;exact rfl) λH5 k5 w5 s5 c5=>?_
   exact ih rfl ((cj e4).symm) rfl rfl ⟨w5,(s0.trans s5),(acr.step s5),c5,(acs.step s5),(act.step s5)⟩ hp
  ·obtain ⟨w6,s6⟩:=w0.pp [0,1,2,3,4] 6
   exact aO.j5_P (@hC125) rfl rfl rfl ⟨w6,(s0.trans s6),(acr.step s6),(FS.step s6),(acs.step s6)⟩ hp
def aO.pj3 (F:Nat)  (FT:Int) (zG:asr):Option (Int×List Int×Int):=(cM.p F FT zG).bind λr3=>some (r3.1,r3.2.1,r3.2.2)
theorem aO.j3_P   {aoc FT acu acv QG pW QH xo acw acx acy zG acz acA} (aod:QG=acy.length) (aoe:QH=zG.length) (h0:Out H0 Ri H (Rs.own ⟨acu,QG,acw⟩ eI.z acz::Rs.blk pW [.i aoc,.sl ⟨acu,QG,acw⟩]::Rs.own ⟨acv,QH,acx⟩ eI.z acA::Rs.blk xo [.i FT,.sl ⟨acv,QH,acx⟩]::R0) λR=>CR eI H R acz acy/\CR eI H R acA zG) {r:asJ} (hp:aO.pj3 F  FT zG=some r):Rt (aO.j3 F (cL.tw F) (cS.tw F) (cM.tw F)  pW 0 xo 0 H) (aO.Q H0 Ri R0  r):=by
 obtain ⟨w0,s0,arZ,aof⟩:=h0
 subst aod
 subst aoe
 unfold aO.pj3 at hp
 unfold aO.j3
 refine lI w0 3 ?_
 refine lSl w0 3 ?_
 obtain ⟨w1,s1⟩:=w0.pp [2,0,1,3] 4
 have f2:=W.borrow1 eI w1 (aof.step s1)
 obtain ⟨w2,s2⟩:=w1.right1
 obtain ⟨r3,e3,hp⟩:=ag hp
 refine aE (cM.P rfl ⟨w2,f2⟩ e3) ?_
 rintro _ H4 ⟨o1a_4,o1n_4,o1c_4,o1k_4,rfl,rfl,w4,s4,f4_0⟩
 obtain ⟨w5,s5⟩:=W.frame1 w1 w4 s4
 refine br (br (br (br (br (br (br (br (br ?_))))))))
 refine aq w5 3 λH6 w6 s6=>?_
 refine aq w6 3 λH7 w7 s7=>?_
 refine lI w7 3 ?_
 refine lSl w7 3 ?_
 obtain ⟨w8,s8⟩:=w7.pp [1] 5
 exact aw hp ⟨_,_,_,_,rfl,rfl,w8,(s0.trans (s1.trans (s5.trans (s6.trans (s7.trans s8))))),((CR.flat (eA .i64) f4_0).step (s6.trans (s7.trans s8)))⟩
def aO.pl125 (F:Nat) :Nat->Int->Int->List Int->List (Int×List Int)->Int->Int->Option (Int×List Int×Int)
 | 0,_,_,_,_,_,_=>none
 | k+1,na,wz,rF,mA,kQ,jH=>(bif (decide (jH<kQ)) then ((ix mA jH).bind λn1=>aO.pl8027 F (aO.pl125 F k) F na wz rF mA kQ jH ((gt mA n1).1) ((gt mA n1).2) ((((gt mA n1).2).length):Int) 0) else (aO.pj3 F wz rF))
theorem aO.l125_P  :∀ k,aO.S125 H0 Ri R0  (aO.l125 F (cL.tw F) (cS.tw F) (cM.tw F)  k) (aO.pl125 F  k):=by
 intro k
 induction k with
 | zero=>unfold aO.S125;intros;rename_i hp;cases hp
 | succ k ih=>
  intro ab5 na wz kQ jH Qg Qh Qi FI oz FJ oA FK Qj Qk Ql Qm rF Qn Qo Qp mA H aog aoh aoi h0 r hp
  obtain ⟨w0,s0,acB,acC,acD⟩:=h0
  subst aog
  subst aoh
  subst aoi
  unfold aO.pl125 at hp
  unfold aO.l125
  refine aB hp (λhp=>?_) λhp=>?_
  ·obtain ⟨n1,g1,hp⟩:=ag hp
   obtain ⟨p1,q1,i1,h1,j1⟩:=W.ixo (E:=(ac eI (eSl eI))) w0 (i:=4) rfl rfl acD g1
   refine ai i1 ?_
   obtain ⟨_,_,rfl,rfl,⟨⟨anU,m1_1,c1_1⟩,rfl,f1_1⟩⟩:=h1
   obtain rfl:m1_1=_:=f1_1.n
   refine ai (aG (j1 0 _ rfl)) ?_
   refine ai (iU (j1 1 _ rfl)) ?_
   refine aR w0 λH2 w2 s2=>?_
   refine aq w2 0 λH3 w3 s3=>?_
   refine aq w3 0 λH4 w4 s4=>?_
   refine lSl w4 0 ?_
   obtain ⟨w5,s5⟩:=w4.pp [1,2,3,4,5,0] 6
   exact aO.l8027_P (@ih) F rfl rfl rfl rfl ⟨w5,(s0.trans (s2.trans (s3.trans (s4.trans s5)))),(acB.step (s2.trans (s3.trans (s4.trans s5)))),(acC.step (s2.trans (s3.trans (s4.trans s5)))),(acD.step (s2.trans (s3.trans (s4.trans s5)))),(f1_1.step (s2.trans (s3.trans (s4.trans s5))))⟩ hp
  ·obtain ⟨w6,s6⟩:=w0.pp [0,1,2,3] 5
   exact aO.j3_P rfl rfl ⟨w6,(s0.trans s6),(acB.step s6),(acC.step s6)⟩ hp
def aO.p (F:Nat) (aa:Int) (aF:asr) (ar:Int) (bl:asr):Option (Int×List Int×Int):=(cL.p F ([(aa,aF),(ar,bl)]:List (Int×List Int))).bind λr6=>(bif (!r6) then (some (0,([]:List Int),1)) else ((cS.p F aa aF).bind λr13=>(cS.p F ar bl).bind λr16=>(mkn (wrap .i64 ((wrap .i64 ((if (if ar<aa then ar else aa)>(if r16>r13 then r16 else r13) then (if ar<aa then ar else aa) else (if r16>r13 then r16 else r13)) - (if ar<aa then ar else aa)))+1)) (0:Int)).bind λl19=>aO.pl125 F F (if ar<aa then ar else aa) (if ar<aa then ar else aa) l19 ([(aa,aF),(ar,bl)]:List (Int×List Int)) (2:Int) 0))
theorem aO.P {aa ar bV dW bq c_ bW dX aF bl} (dk:bq=aF.length) (gk:c_=bl.length) (h0:Inn H R0 λR=>ROs eI H R ⟨bV,bq,bW⟩ aF/\ROs eI H R ⟨dW,c_,dX⟩ bl) {r:asJ} (hp:aO.p F aa aF ar bl=some r):Rt (aO.tw F aa ⟨bV,bq,bW⟩ ar ⟨dW,c_,dX⟩ H) (aO.Q H R0 R0  r):=by
 obtain ⟨w0,cF,eW⟩:=h0
 subst dk
 subst gk
 unfold aO.p at hp
 unfold aO.tw aO.twX
 have s0:=w0.rf
 refine aR w0 λH1 w1 s1=>?_
 refine aR w1 λH2 w2 s2=>?_
 refine aR w2 λH3 w3 s3=>?_
 refine lI w3 2 ?_
 refine lSl w3 2 ?_
 refine lI w3 1 ?_
 refine lSl w3 1 ?_
 refine cO (ac eI (eSl eI)) w3 (n:=2) (l:=([(aa,aF),(ar,bl)]:List (Int×List Int))) rfl (CR.cons (c:=[_,_]) ⟨[_],_,rfl,rfl,⟨_,rfl,(cF.step (s1.trans (s2.trans s3)))⟩⟩ (CR.cons (c:=[_,_]) ⟨[_],_,rfl,rfl,⟨_,rfl,(eW.step (s1.trans (s2.trans s3)))⟩⟩ CR.empty)) rfl λH4 w4 s4 c4=>?_
 have f5:=W.borrow1 (ac eI (eSl eI)) w4 c4
 obtain ⟨w5,s5⟩:=w4.right1
 obtain ⟨r6,e6,hp⟩:=ag hp
 refine aE (cL.P (show 2=List.length ([(aa,aF),(ar,bl)]:List (Int×List Int)) from rfl) ⟨w5,f5⟩ e6) ?_
 rintro _ H7 ⟨rfl,w7,s7,_⟩
 obtain ⟨w8,s8⟩:=W.frame1 w4 w7 s7
 refine br ?_
 refine aB hp (λhp=>?_) λhp=>?_
 ·refine aq w8 1 λH9 w9 s9=>?_
  refine aq w9 1 λH10 w10 s10=>?_
  refine lI w10 1 ?_
  refine lSl w10 1 ?_
  obtain ⟨w11,s11⟩:=w10.nilS eI.z (by decide)
  obtain ⟨w12,s12⟩:=w11.pp [0] 5
  exact aw hp ⟨_,_,_,_,rfl,rfl,w12,(s0.trans (s1.trans (s2.trans (s3.trans (s4.trans (s8.trans (s9.trans (s10.trans (s11.trans s12))))))))),((CR.empty:CR eI _ _ [] []).step s12)⟩
 ·refine lI w8 3 ?_
  refine lI w8 2 ?_
  refine lI w8 3 ?_
  refine lSl w8 3 ?_
  obtain ⟨r13,e13,hp⟩:=ag hp
  refine aE (cS.P rfl ⟨w8,(cF.step (s1.trans (s2.trans (s3.trans (s4.trans s8)))))⟩ e13) ?_
  rintro _ H14 ⟨rfl,w14,s14,_⟩
  refine br ?_
  refine eQ (W.cons_of (Rn:=[]) w8 w14 s14) ?_
  refine lI w14 2 ?_
  refine lSl w14 2 ?_
  obtain ⟨r16,e16,hp⟩:=ag hp
  refine aE (cS.P rfl ⟨w14,(eW.step (s1.trans (s2.trans (s3.trans (s4.trans (s8.trans s14))))))⟩ e16) ?_
  rintro _ H17 ⟨rfl,w17,s17,_⟩
  refine br ?_
  refine eQ (W.cons_of (Rn:=[]) w14 w17 s17) ?_
  obtain ⟨l19,e19,hp⟩:=ag hp
  refine kj eI (0:Int) w17 rfl rfl rfl e19 λH20 k20 w20 s20 c20=>?_
  refine aR w20 λH21 w21 s21=>?_
  refine aq w21 0 λH22 w22 s22=>?_
  refine aq w22 0 λH23 w23 s23=>?_
  refine lI w23 5 ?_
  refine lSl w23 5 ?_
  refine lI w23 4 ?_
  refine lSl w23 4 ?_
  refine cO (ac eI (eSl eI)) w23 (n:=2) (l:=([(aa,aF),(ar,bl)]:List (Int×List Int))) rfl (CR.cons (c:=[_,_]) ⟨[_],_,rfl,rfl,⟨_,rfl,(cF.step (s1.trans (s2.trans (s3.trans (s4.trans (s8.trans (s14.trans (s17.trans (s20.trans (s21.trans (s22.trans s23)))))))))))⟩⟩ (CR.cons (c:=[_,_]) ⟨[_],_,rfl,rfl,⟨_,rfl,(eW.step (s1.trans (s2.trans (s3.trans (s4.trans (s8.trans (s14.trans (s17.trans (s20.trans (s21.trans (s22.trans s23)))))))))))⟩⟩ CR.empty)) rfl λH24 w24 s24 c24=>?_
  obtain ⟨w25,s25⟩:=w24.nilS eI.z (by decide)
  obtain ⟨w26,s26⟩:=w25.pp [0,5,3,2,1] 8
  exact aO.l125_P F rfl rfl (show 2=List.length ([(aa,aF),(ar,bl)]:List (Int×List Int)) from rfl) ⟨w26,(s0.trans (s1.trans (s2.trans (s3.trans (s4.trans (s8.trans (s14.trans (s17.trans (s20.trans (s21.trans (s22.trans (s23.trans (s24.trans (s25.trans s26)))))))))))))),((CR.empty:CR eI _ _ [] []).step s26),(c20.step (s21.trans (s22.trans (s23.trans (s24.trans (s25.trans s26)))))),(c24.step (s25.trans s26))⟩ hp
def cz.Q (H0:Hp) (Ri R0:asp)  (r:asv) (v:AV) (H':Hp):Prop:=∃ o1a:ON,∃ o1n:Nat,∃ o1c:Cap,∃ o1k:List AV,v=(.agg [(.i r.1),(.sl ⟨o1a,o1n,o1c⟩)])/\o1n=(r.2).length/\Out H0 Ri H' (Rs.own ⟨o1a,o1n,o1c⟩ eI.z o1k::R0) λR=>CR eI H' R o1k (r.2)
def cz.p (F:Nat) (aa:Int) (aF:asr) (ar:Int) (bl:asr):Option (Int×List Int):=(aO.p F aa aF ar bl).bind λr4=>some (r4.1,r4.2.1)
theorem cz.P {aa ar bV dW bq c_ bW dX aF bl} (dk:bq=aF.length) (gk:c_=bl.length) (h0:Inn H R0 λR=>ROs eI H R ⟨bV,bq,bW⟩ aF/\ROs eI H R ⟨dW,c_,dX⟩ bl) {r:asv} (hp:cz.p F aa aF ar bl=some r):Rt (cz.tw F aa ⟨bV,bq,bW⟩ ar ⟨dW,c_,dX⟩ H) (cz.Q H R0 R0  r):=by
 obtain ⟨w0,cF,eW⟩:=h0
 subst dk
 subst gk
 unfold cz.p at hp
 unfold cz.tw cz.twX
 have s0:=w0.rf
 refine aR w0 λH1 w1 s1=>?_
 refine aR w1 λH2 w2 s2=>?_
 refine aR w2 λH3 w3 s3=>?_
 refine lI w3 2 ?_
 refine lSl w3 2 ?_
 refine lI w3 1 ?_
 refine lSl w3 1 ?_
 obtain ⟨r4,e4,hp⟩:=ag hp
 refine aE (aO.P rfl rfl ⟨w3,(cF.step (s1.trans (s2.trans s3))),(eW.step (s1.trans (s2.trans s3)))⟩ e4) ?_
 rintro _ H5 ⟨o1a_5,o1n_5,o1c_5,o1k_5,rfl,rfl,w5,s5,f5_0⟩
 refine br (br (br (br (br (br (br (br (br ?_))))))))
 refine aR w5 λH6 w6 s6=>?_
 refine aq w6 0 λH7 w7 s7=>?_
 refine aq w7 0 λH8 w8 s8=>?_
 refine lI w8 0 ?_
 refine lSl w8 0 ?_
 refine aq w8 2 λH9 w9 s9=>?_
 refine aq w9 2 λH10 w10 s10=>?_
 refine lI w10 2 ?_
 refine lSl w10 2 ?_
 obtain ⟨w11,s11⟩:=w10.pp [1] 5
 exact aw hp ⟨_,_,_,_,rfl,rfl,w11,(s0.trans (s1.trans (s2.trans (s3.trans (s5.trans (s6.trans (s7.trans (s8.trans (s9.trans (s10.trans s11)))))))))),(f5_0.step (s6.trans (s7.trans (s8.trans (s9.trans (s10.trans s11))))))⟩
def ev.Q (H0:Hp) (Ri R0:asp)  (r:Int) (v:AV) (H':Hp):Prop:=v=(.i r)/\Out H0 Ri H' (R0) λR=>True
def ev.p (F:Nat) (aa:Int):Option (Int):=(bif (decide (aa<0)) then (some (-1)) else (some 1))
theorem ev.P {aa}  (h0:Inn H R0 λR=>True) {r:Int} (hp:ev.p F aa=some r):Rt (ev.tw F aa H) (ev.Q H R0 R0  r):=by
 obtain ⟨w0,_⟩:=h0
 unfold ev.p at hp
 unfold ev.tw ev.twX
 have s0:=w0.rf
 refine aB hp (λhp=>?_) λhp=>?_
 ·exact aw hp ⟨rfl,w0,s0,trivial⟩
 ·exact aw hp ⟨rfl,w0,s0,trivial⟩
def aV.Q (H0:Hp) (Ri R0:asp)  (r:asv) (v:AV) (H':Hp):Prop:=∃ o1a:ON,∃ o1n:Nat,∃ o1c:Cap,∃ o1k:List AV,v=(.agg [(.i r.1),(.sl ⟨o1a,o1n,o1c⟩)])/\o1n=(r.2).length/\Out H0 Ri H' (Rs.own ⟨o1a,o1n,o1c⟩ eI.z o1k::R0) λR=>CR eI H' R o1k (r.2)
def aV.S61 (H0:Hp) (Ri R0:asp)  (C:ata) (pC:ath):Prop:=∀ {gX acE pi dE iF gY QI QJ QK FU fX FV gg FW QL QM QN QO nC jg QP QQ},∀ {H:Hp},FU=QO.length->FV=nC.length->FW=jg.length->(Out H0 Ri H (Rs.own ⟨QI,FU,QL⟩ eI.z QP::Rs.blk fX [.i acE,.sl ⟨QI,FU,QL⟩]::Rs.own ⟨QJ,FV,QM⟩ eI.z QQ::Rs.blk gg [.i pi,.sl ⟨QJ,FV,QM⟩]::R0) λR=>CR eI H R QP QO/\CR eI H R QQ nC/\ROs eI H R ⟨QK,FW,QN⟩ jg)->∀ {r:asv},pC gX pi nC dE jg iF gY=some r->Rt (C gX fX 0 gg 0 dE ⟨QK,FW,QN⟩ iF gY H) (aV.Q H0 Ri R0  r)
def aV.pj4 (F:Nat) (ay:ath) (uQ:Int) (FX:Int) (zH:asr) (uR:Int) (uS:Int) (zI:asr) (uT:Int) (uU:Int):Option (Int×List Int):=(ev.p F uS).bind λr1=>ay uQ FX zH (wrap .i64 (uR+r1)) zI uT (wrap .i64 (uU+1))
theorem aV.j4_P  {C61_:ata} {ay:ath} (hC61:aV.S61 H0 Ri R0  C61_ ay) {uQ aoj FX uR uS uT uU acF acG acH QR Cb QT Cc QU acI acJ acK acL zH zI acM acN} (aol:QR=acL.length) (aom:QT=zH.length) (aon:QU=zI.length) (h0:Out H0 Ri H (Rs.own ⟨acF,QR,acI⟩ eI.z acM::Rs.blk Cb [.i aoj,.sl ⟨acF,QR,acI⟩]::Rs.own ⟨acG,QT,acJ⟩ eI.z acN::Rs.blk Cc [.i FX,.sl ⟨acG,QT,acJ⟩]::R0) λR=>CR eI H R acM acL/\CR eI H R acN zH/\ROs eI H R ⟨acH,QU,acK⟩ zI) {r:asv} (hp:aV.pj4 F ay uQ FX zH uR uS zI uT uU=some r):Rt (aV.j4 F (cq.tw F) (cz.tw F) (ev.tw F) C61_ uQ Cb 0 Cc 0 uR uS ⟨acH,QU,acK⟩ uT uU H) (aV.Q H0 Ri R0  r):=by
 obtain ⟨w0,s0,aoo,aoq,aor⟩:=h0
 subst aol
 subst aom
 subst aon
 unfold aV.pj4 at hp
 unfold aV.j4
 obtain ⟨r1,e1,hp⟩:=ag hp
 refine aE (ev.P ⟨w0,trivial⟩ e1) ?_
 rintro _ H2 ⟨rfl,w2,s2,_⟩
 refine br ?_
 exact hC61 rfl rfl rfl ⟨w2,(s0.trans s2),(aoo.step s2),(aoq.step s2),(aor.step s2)⟩ hp
def aV.pj5 (F:Nat) (ay:ath) (uV:Int) (FY:Int) (zJ:asr) (uW:Int) (uX:Int) (zK:asr) (uY:Int) (uZ:Int):Option (Int×List Int):=(ev.p F uX).bind λr1=>ay uV FY zJ (wrap .i64 (uW+r1)) zK uY (wrap .i64 (uZ+1))
theorem aV.j5_P  {C61_:ata} {ay:ath} (hC61:aV.S61 H0 Ri R0  C61_ ay) {uV aos FY uW uX uY uZ acO acP acQ QV Cd QW Ce QX acR acS acT acU zJ zK acV acW} (aot:QV=acU.length) (aou:QW=zJ.length) (aov:QX=zK.length) (h0:Out H0 Ri H (Rs.own ⟨acO,QV,acR⟩ eI.z acV::Rs.blk Cd [.i aos,.sl ⟨acO,QV,acR⟩]::Rs.own ⟨acP,QW,acS⟩ eI.z acW::Rs.blk Ce [.i FY,.sl ⟨acP,QW,acS⟩]::R0) λR=>CR eI H R acV acU/\CR eI H R acW zJ/\ROs eI H R ⟨acQ,QX,acT⟩ zK) {r:asv} (hp:aV.pj5 F ay uV FY zJ uW uX zK uY uZ=some r):Rt (aV.j5 F (cq.tw F) (cz.tw F) (ev.tw F) C61_ uV Cd 0 Ce 0 uW uX ⟨acQ,QX,acT⟩ uY uZ H) (aV.Q H0 Ri R0  r):=by
 obtain ⟨w0,s0,aow,aox,aoy⟩:=h0
 subst aot
 subst aou
 subst aov
 unfold aV.pj5 at hp
 unfold aV.j5
 obtain ⟨r1,e1,hp⟩:=ag hp
 refine aE (ev.P ⟨w0,trivial⟩ e1) ?_
 rintro _ H2 ⟨rfl,w2,s2,_⟩
 refine br ?_
 exact hC61 rfl rfl rfl ⟨w2,(s0.trans s2),(aow.step s2),(aox.step s2),(aoy.step s2)⟩ hp
def aV.pj6 (F:Nat) (ay:ath) (u_:Int) (FZ:Int) (zL:asr) (vd:Int) (ve:Int) (zM:asr) (vf:Int) (vg:Int):Option (Int×List Int):=aV.pj5 F ay u_ FZ zL vd ve zM vf vg
theorem aV.j6_P  {C61_:ata} {ay:ath} (hC61:aV.S61 H0 Ri R0  C61_ ay) {u_ aoz FZ vd ve vf vg acX acY acZ QY Cf QZ Cg Q_ ac0 ac1 ac2 ac3 zL zM ac4 ac5} (aoA:QY=ac3.length) (aoB:QZ=zL.length) (aoC:Q_=zM.length) (h0:Out H0 Ri H (Rs.own ⟨acX,QY,ac0⟩ eI.z ac4::Rs.blk Cf [.i aoz,.sl ⟨acX,QY,ac0⟩]::Rs.own ⟨acY,QZ,ac1⟩ eI.z ac5::Rs.blk Cg [.i FZ,.sl ⟨acY,QZ,ac1⟩]::R0) λR=>CR eI H R ac4 ac3/\CR eI H R ac5 zL/\ROs eI H R ⟨acZ,Q_,ac2⟩ zM) {r:asv} (hp:aV.pj6 F ay u_ FZ zL vd ve zM vf vg=some r):Rt (aV.j6 F (cq.tw F) (cz.tw F) (ev.tw F) C61_ u_ Cf 0 Cg 0 vd ve ⟨acZ,Q_,ac2⟩ vf vg H) (aV.Q H0 Ri R0  r):=by
 obtain ⟨w0,s0,aoD,aoE,aoF⟩:=h0
 subst aoA
 subst aoB
 subst aoC
 unfold aV.pj6 at hp
 unfold aV.j6
 exact aV.j5_P (@hC61) rfl rfl rfl ⟨w0,s0,aoD,aoE,aoF⟩ hp
def aV.pl61 (F:Nat) :Nat->Int->Int->List Int->Int->List Int->Int->Int->Option (Int×List Int)
 | 0,_,_,_,_,_,_,_=>none
 | k+1,gX,pi,nC,dE,jg,iF,gY=>(bif (decide (gY<iF)) then ((ix jg gY).bind λn1=>(bif ((gt jg n1)==gX) then ((cq.p F 1 dE).bind λr2=>(cz.p F pi nC r2.1 r2.2).bind λr8=>aV.pj4 F (aV.pl61 F k) gX r8.1 r8.2 dE (gt jg n1) jg iF gY) else ((bif ((gt jg n1)==(wrap .i64 (0 - gX))) then ((cq.p F (-1) (wrap .i64 (dE - 1))).bind λr15=>(cz.p F pi nC r15.1 r15.2).bind λr21=>aV.pj6 F (aV.pl61 F k) gX r21.1 r21.2 dE (gt jg n1) jg iF gY) else (aV.pj6 F (aV.pl61 F k) gX pi nC dE (gt jg n1) jg iF gY))))) else (some (pi,nC)))
end
end Go.Proofs.Ytppbogklbhfboaa.AE
