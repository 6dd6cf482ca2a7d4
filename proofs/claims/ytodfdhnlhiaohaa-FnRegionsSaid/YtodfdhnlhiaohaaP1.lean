import Derived.Test.YtodfdhnlhiaohaaT1
import Derived.Test.YtodfdhnlhiaohaaE2
set_option linter.unusedVariables false
set_option linter.unusedSimpArgs false
namespace Go.Proofs.Ytodfdhnlhiaohaa.AE
open Go Go.AE Go.Proofs IntKind
set_option linter.unusedVariables false
variable {F:Nat} {H H0:Hp} {Ri R0:Ys}
set_option maxHeartbeats 4000000
set_option maxRecDepth 100000
noncomputable section
def di.Q (H0:Hp) (Ri R0:Ys)  (r:Bool) (v:AV) (H':Hp):Prop:=v=(.bool r)/\Out H0 Ri H' (R0) λR=>True
def di.p (F:Nat) (ai:Yr):Option (Bool):=some (decide ((ai.length:Int)>4096))
theorem di.P {aG ay aH ai} (bg:ay=ai.length) (h0:Inn H R0 λR=>ROs (dk .u8) H R ⟨aG,ay,aH⟩ ai) {r:Bool} (hp:di.p F ai=some r):Rt (di.tw F ⟨aG,ay,aH⟩ H) (di.Q H R0 R0  r):=by
 obtain ⟨w0,aU⟩:=h0
 subst bg
 unfold di.p at hp
 unfold di.tw di.twX
 have s0:=w0.rf
 exact aE hp ⟨rfl,w0,s0,trivial⟩
def bE.Q (H0:Hp) (Ri R0:Ys)  (r:YX) (v:AV) (H':Hp):Prop:=∃ o0a:ON,∃ o0n:Nat,∃ o0c:Cap,∃ ob0:Nat,v=(.ptr ob0 0)/\o0n=(r.1).length/\Out H0 Ri H' (Rs.blk ob0 [.sl ⟨o0a,o0n,o0c⟩,.i r.2.1,.i r.2.2]::R0) λR=>ROs (dk .u8) H' R ⟨o0a,o0n,o0c⟩ (r.1)
def bE.S29 (H0:Hp) (Ri R0:Ys)  (C:Sl->Nat->Nat->Int->Hp->OA) (pC:List Int->Int->Int->Int->Option (List Int×Int×Int)):Prop:=∀ {uk qs fl ul iT lG lH fu},∀ {H:Hp},qs=iT.length->(Out H0 Ri H (Rs.blk fl [.sl ⟨uk,qs,ul⟩,.i lG,.i lH]::R0) λR=>ROs (dk .u8) H R ⟨uk,qs,ul⟩ iT)->∀ {r:YX},pC iT lG lH fu=some r->Rt (C ⟨uk,qs,ul⟩ fl 0 fu H) (bE.Q H0 Ri R0  r)
def bE.pl29 (F:Nat) :Nat->List Int->Int->Int->Int->Option (List Int×Int×Int)
 | 0,_,_,_,_=>none
 | k+1,iT,lG,lH,fu=>(bif (decide (fu<(iT.length:Int))) then ((bif (decide (fu<64)) then ((ix iT fu).bind λn1=>bE.pl29 F k iT lG (Int.tmod (wrap .i64 ((wrap .i64 (lH * 37))+(wrap .i64 (gt iT n1)))) 2147483647) (wrap .i64 (fu+1))) else (some (iT,lG,lH)))) else (some (iT,lG,lH)))
theorem bE.l29_P  :∀ k,bE.S29 H0 Ri R0  (bE.l29 F   k) (bE.pl29 F  k):=by
 intro k
 induction k with
 | zero=>unfold bE.S29;intros;rename_i hp;cases hp
 | succ k ih=>
  intro uk qs fl ul iT lG lH fu H Qf h0 r hp
  obtain ⟨w0,s0,um⟩:=h0
  subst Qf
  unfold bE.pl29 at hp
  unfold bE.l29
  refine aB hp (λhp=>?_) λhp=>?_
  ·refine aB hp (λhp=>?_) λhp=>?_
   ·refine lI w0 0 ?_
    obtain ⟨n1,g1,hp⟩:=af hp
    obtain ⟨p1,q1,i1,h1,j1⟩:=ROs.ixr um rfl g1
    refine aj i1 ?_
    have h1:_=[_]:=h1
    subst h1
    refine aj (aC (j1 0 _ rfl)) ?_
    refine ak w0 0 λH2 w2 s2=>?_
    exact ih rfl ⟨w2,(s0.trans s2),(um.step s2)⟩ hp
   ·exact aE hp ⟨_,_,_,_,rfl,rfl,w0,s0,um⟩
  ·exact aE hp ⟨_,_,_,_,rfl,rfl,w0,s0,um⟩
def bE.p (F:Nat) (ai:Yr):Option (List Int×Int×Int):=bE.pl29 F F ai 0 97531 0
theorem bE.P {aG ay aH ai} (bg:ay=ai.length) (h0:Inn H R0 λR=>ROs (dk .u8) H R ⟨aG,ay,aH⟩ ai) {r:YX} (hp:bE.p F ai=some r):Rt (bE.tw F ⟨aG,ay,aH⟩ H) (bE.Q H R0 R0  r):=by
 obtain ⟨w0,aU⟩:=h0
 subst bg
 unfold bE.p at hp
 unfold bE.tw bE.twX
 have s0:=w0.rf
 refine aY w0 λH1 w1 s1=>?_
 exact bE.l29_P F rfl ⟨w1,(s0.trans s1),(aU.step s1)⟩ hp
def aJ.Q (H0:Hp) (Ri R0:Ys) (cG:ON) (cn ac:Nat) (cH:Cap) (bO:Yr) (r:Zh) (v:AV) (H':Hp):Prop:=v=(.i r.1)/\Out H0 Ri H' (Rs.blk ac [.sl ⟨cG,cn,cH⟩,.i (r.2.1),.i (r.2.2)]::R0) λR=>True
def aJ.pj1 (F:Nat)  (jV:Int) (mT:Int) (aR:Int) (aS:Int):Option (Int×Int×Int):=(if jV=0 then none else (some ((Int.tmod mT jV),aR,aS)))
theorem aJ.j1_P {bZ bK cp b_ bi}  {jV mT aR aS} (fi:bK=bi.length) (h0:Out H0 Ri H (Rs.blk cp [.sl ⟨bZ,bK,b_⟩,.i aR,.i aS]::R0) λR=>ROs (dk .u8) H R ⟨bZ,bK,b_⟩ bi) {r:Zh} (hp:aJ.pj1 F  jV mT aR aS=some r):Rt (aJ.j1 F   jV mT H) (aJ.Q H0 Ri R0 bZ bK cp b_ bi r):=by
 obtain ⟨w0,s0,dB⟩:=h0
 subst fi
 unfold aJ.pj1 at hp
 unfold aJ.j1
 obtain ⟨g1,hp⟩:=MX hp
 refine MY g1 ?_
 exact aE hp ⟨rfl,w0,s0,trivial⟩
def aJ.pj2 (F:Nat)  (mU:Int) (jW:Int) (aR:Int) (aS:Int):Option (Int×Int×Int):=aJ.pj1 F mU jW aR aS
theorem aJ.j2_P {bZ bK cp b_ bi}  {mU jW aR aS} (fi:bK=bi.length) (h0:Out H0 Ri H (Rs.blk cp [.sl ⟨bZ,bK,b_⟩,.i aR,.i aS]::R0) λR=>ROs (dk .u8) H R ⟨bZ,bK,b_⟩ bi) {r:Zh} (hp:aJ.pj2 F  mU jW aR aS=some r):Rt (aJ.j2 F   mU jW H) (aJ.Q H0 Ri R0 bZ bK cp b_ bi r):=by
 obtain ⟨w0,s0,dB⟩:=h0
 subst fi
 unfold aJ.pj2 at hp
 unfold aJ.j2
 exact aJ.j1_P rfl ⟨w0,s0,dB⟩ hp
def aJ.pj3 (F:Nat)  (jX:Int) (ga:Int) (aR:Int) (aS:Int):Option (Int×Int×Int):=(if jX=0 then none else (some ((Int.tmod ga jX),aR,aS)))
theorem aJ.j3_P {bZ bK cp b_ bi}  {jX ga aR aS} (fi:bK=bi.length) (h0:Out H0 Ri H (Rs.blk cp [.sl ⟨bZ,bK,b_⟩,.i aR,.i aS]::R0) λR=>ROs (dk .u8) H R ⟨bZ,bK,b_⟩ bi) {r:Zh} (hp:aJ.pj3 F  jX ga aR aS=some r):Rt (aJ.j3 F   jX ga H) (aJ.Q H0 Ri R0 bZ bK cp b_ bi r):=by
 obtain ⟨w0,s0,dB⟩:=h0
 subst fi
 unfold aJ.pj3 at hp
 unfold aJ.j3
 obtain ⟨g1,hp⟩:=MX hp
 refine MY g1 ?_
 exact aE hp ⟨rfl,w0,s0,trivial⟩
def aJ.p (F:Nat) (bO:Yr) (aR:Int) (aS:Int) (az:Int):Option (Int×Int×Int):=(bif (decide (az<=1)) then (some (0,aR,aS)) else ((bif (decide (aR<(bO.length:Int))) then ((ix bO aR).bind λn2=>(bif (decide (az<=256)) then ((bif ((Int.tmod (wrap .i64 (aR+1)) 2)==0) then ((ix bO (wrap .i64 ((wrap .i64 (aR+1)) - 1))).bind λn4=>aJ.pj2 F az (wrap .i64 (gt bO n4)) (wrap .i64 (aR+1)) (Int.tmod (wrap .i64 ((wrap .i64 (aS * 48271))+11)) 2147483647)) else (aJ.pj2 F az (wrap .i64 ((wrap .i64 (Int.tdiv (Int.tmod (wrap .i64 ((wrap .i64 (aS * 48271))+11)) 2147483647) 11))+(wrap .i64 (gt bO n2)))) (wrap .i64 (aR+1)) (Int.tmod (wrap .i64 ((wrap .i64 (aS * 48271))+11)) 2147483647)))) else (aJ.pj1 F az (wrap .i64 ((wrap .i64 (Int.tdiv (Int.tmod (wrap .i64 ((wrap .i64 (aS * 48271))+11)) 2147483647) 11))+(wrap .i64 (gt bO n2)))) (wrap .i64 (aR+1)) (Int.tmod (wrap .i64 ((wrap .i64 (aS * 48271))+11)) 2147483647)))) else (aJ.pj3 F az (wrap .i64 (Int.tdiv (Int.tmod (wrap .i64 ((wrap .i64 (aS * 48271))+11)) 2147483647) 11)) aR (Int.tmod (wrap .i64 ((wrap .i64 (aS * 48271))+11)) 2147483647)))))
theorem aJ.P {cG cn ac cH bO aR aS az} (jA:cn=bO.length) (h0:Inn H (Rs.blk ac [.sl ⟨cG,cn,cH⟩,.i aR,.i aS]::R0) λR=>ROs (dk .u8) H R ⟨cG,cn,cH⟩ bO) {r:Zh} (hp:aJ.p F bO aR aS az=some r):Rt (aJ.tw F ac 0 az H) (aJ.Q H (Rs.blk ac [.sl ⟨cG,cn,cH⟩,.i aR,.i aS]::R0) R0 cG cn ac cH bO r):=by
 obtain ⟨w0,dK⟩:=h0
 subst jA
 unfold aJ.p at hp
 unfold aJ.tw aJ.twX
 have s0:=w0.rf
 refine aB hp (λhp=>?_) λhp=>?_
 ·exact aE hp ⟨rfl,w0,s0,trivial⟩
 ·refine lI w0 0 ?_
  refine ak w0 0 λH1 w1 s1=>?_
  refine lI w1 0 ?_
  refine lI w1 0 ?_
  refine lSl w1 0 ?_
  refine aB hp (λhp=>?_) λhp=>?_
  ·refine lSl w1 0 ?_
   refine lI w1 0 ?_
   obtain ⟨n2,g2,hp⟩:=af hp
   obtain ⟨p2,q2,i2,h2,j2⟩:=ROs.ixr (dK.step s1) rfl g2
   refine aj i2 ?_
   have h2:_=[_]:=h2
   subst h2
   refine aj (aC (j2 0 _ rfl)) ?_
   refine lI w1 0 ?_
   refine ak w1 0 λH3 w3 s3=>?_
   refine aB hp (λhp=>?_) λhp=>?_
   ·refine lI w3 0 ?_
    refine aB hp (λhp=>?_) λhp=>?_
    ·refine lSl w3 0 ?_
     refine lI w3 0 ?_
     obtain ⟨n4,g4,hp⟩:=af hp
     obtain ⟨p4,q4,i4,h4,j4⟩:=ROs.ixr (dK.step (s1.trans s3)) rfl g4
     refine aj i4 ?_
     have h4:_=[_]:=h4
     subst h4
     refine aj (aC (j4 0 _ rfl)) ?_
     exact aJ.j2_P rfl ⟨w3,(s0.trans (s1.trans s3)),(dK.step (s1.trans s3))⟩ hp
    ·exact aJ.j2_P rfl ⟨w3,(s0.trans (s1.trans s3)),(dK.step (s1.trans s3))⟩ hp
   ·exact aJ.j1_P rfl ⟨w3,(s0.trans (s1.trans s3)),(dK.step (s1.trans s3))⟩ hp
  ·exact aJ.j3_P rfl ⟨w1,(s0.trans s1),(dK.step s1)⟩ hp
def cw.Q (H0:Hp) (Ri R0:Ys)  (r:Int) (v:AV) (H':Hp):Prop:=v=(.i r)/\Out H0 Ri H' (R0) λR=>True
def cw.p (F:Nat) (ac:Int):Option (Int):=some (if (wrap .i64 (0 - ac))>ac then (wrap .i64 (0 - ac)) else ac)
theorem cw.P {ac}  (h0:Inn H R0 λR=>True) {r:Int} (hp:cw.p F ac=some r):Rt (cw.tw F ac H) (cw.Q H R0 R0  r):=by
 obtain ⟨w0,_⟩:=h0
 unfold cw.p at hp
 unfold cw.tw cw.twX
 have s0:=w0.rf
 exact aE hp ⟨rfl,w0,s0,trivial⟩
def bu.Q (H0:Hp) (Ri R0:Ys)  (r:Int) (v:AV) (H':Hp):Prop:=v=(.i r)/\Out H0 Ri H' (R0) λR=>True
def bu.p (F:Nat) (ac:Int) (ag:Int) (bx:Int) (bz:Int) (bM:Int):Option (Int):=(ix ([ac,ag,bx,bz]:List Int) bM).bind λn3=>some (gt ([ac,ag,bx,bz]:List Int) n3)
theorem bu.P {ac ag bx bz bq bM}  (h0:Inn H R0 λR=>True) {r:Int} (hp:bu.p F ac ag bx bz bM=some r):Rt (bu.tw F ac ag bx bz bq bM H) (bu.Q H R0 R0  r):=by
 obtain ⟨w0,_⟩:=h0
 unfold bu.p at hp
 unfold bu.tw bu.twX
 have s0:=w0.rf
 refine aY w0 λH1 w1 s1=>?_
 refine lI w1 0 ?_
 refine lI w1 0 ?_
 refine lI w1 0 ?_
 refine lI w1 0 ?_
 refine dl eI w1 (n:=4) (l:=([ac,ag,bx,bz]:List Int)) rfl (CR.cons1 rfl (CR.cons1 rfl (CR.cons1 rfl (CR.cons1 rfl CR.empty)))) rfl λH2 w2 s2 c2=>?_
 obtain ⟨n3,g3,hp⟩:=af hp
 obtain ⟨p3,q3,i3,h3,j3⟩:=W.ixo (E:=eI) w2 (i:=0) rfl rfl c2 g3
 refine aj i3 ?_
 have h3:_=[_]:=h3
 subst h3
 refine aj (aC (j3 0 _ rfl)) ?_
 obtain ⟨w4,s4⟩:=w2.pp [] 2
 exact aE hp ⟨rfl,w4,(s0.trans (s1.trans (s2.trans s4))),trivial⟩
def bY.Q (H0:Hp) (Ri R0:Ys)  (r:Zi) (v:AV) (H':Hp):Prop:=v=(.agg [(.i r.1),(.i r.2.1),(.i r.2.2.1),(.i r.2.2.2.1),(.i r.2.2.2.2)])/\Out H0 Ri H' (R0) λR=>True
def bY.p (F:Nat) (ac:Int) (ag:Int) (bx:Int) (bz:Int) (bq:Int) (bM:Int) (eT:Int):Option (Int×Int×Int×Int×Int):=(bif (bM==0) then (some (eT,ag,bx,bz,bq)) else ((bif (bM==1) then (some (ac,eT,bx,bz,bq)) else ((bif (bM==2) then (some (ac,ag,eT,bz,bq)) else (some (ac,ag,bx,eT,bq)))))))
theorem bY.P {ac ag bx bz bq bM eT}  (h0:Inn H R0 λR=>True) {r:Zi} (hp:bY.p F ac ag bx bz bq bM eT=some r):Rt (bY.tw F ac ag bx bz bq bM eT H) (bY.Q H R0 R0  r):=by
 obtain ⟨w0,_⟩:=h0
 unfold bY.p at hp
 unfold bY.tw bY.twX
 have s0:=w0.rf
 refine aY w0 λH1 w1 s1=>?_
 refine aY w1 λH2 w2 s2=>?_
 refine aB hp (λhp=>?_) λhp=>?_
 ·refine ak w2 1 λH3 w3 s3=>?_
  refine lI w3 1 ?_
  refine lI w3 1 ?_
  refine lI w3 1 ?_
  refine lI w3 1 ?_
  refine lI w3 1 ?_
  refine ak w3 0 λH4 w4 s4=>?_
  refine ak w4 0 λH5 w5 s5=>?_
  refine ak w5 0 λH6 w6 s6=>?_
  refine ak w6 0 λH7 w7 s7=>?_
  refine ak w7 0 λH8 w8 s8=>?_
  refine lI w8 0 ?_
  refine lI w8 0 ?_
  refine lI w8 0 ?_
  refine lI w8 0 ?_
  refine lI w8 0 ?_
  obtain ⟨w9,s9⟩:=w8.pp [] 2
  exact aE hp ⟨rfl,w9,(s0.trans (s1.trans (s2.trans (s3.trans (s4.trans (s5.trans (s6.trans (s7.trans (s8.trans s9))))))))),trivial⟩
 ·refine aB hp (λhp=>?_) λhp=>?_
  ·refine ak w2 1 λH10 w10 s10=>?_
   refine lI w10 1 ?_
   refine lI w10 1 ?_
   refine lI w10 1 ?_
   refine lI w10 1 ?_
   refine lI w10 1 ?_
   refine ak w10 0 λH11 w11 s11=>?_
   refine ak w11 0 λH12 w12 s12=>?_
   refine ak w12 0 λH13 w13 s13=>?_
   refine ak w13 0 λH14 w14 s14=>?_
   refine ak w14 0 λH15 w15 s15=>?_
   refine lI w15 0 ?_
   refine lI w15 0 ?_
   refine lI w15 0 ?_
   refine lI w15 0 ?_
   refine lI w15 0 ?_
   obtain ⟨w16,s16⟩:=w15.pp [] 2
   exact aE hp ⟨rfl,w16,(s0.trans (s1.trans (s2.trans (s10.trans (s11.trans (s12.trans (s13.trans (s14.trans (s15.trans s16))))))))),trivial⟩
  ·refine aB hp (λhp=>?_) λhp=>?_
   ·refine ak w2 1 λH17 w17 s17=>?_
    refine lI w17 1 ?_
    refine lI w17 1 ?_
    refine lI w17 1 ?_
    refine lI w17 1 ?_
    refine lI w17 1 ?_
    refine ak w17 0 λH18 w18 s18=>?_
    refine ak w18 0 λH19 w19 s19=>?_
    refine ak w19 0 λH20 w20 s20=>?_
    refine ak w20 0 λH21 w21 s21=>?_
    refine ak w21 0 λH22 w22 s22=>?_
    refine lI w22 0 ?_
    refine lI w22 0 ?_
    refine lI w22 0 ?_
    refine lI w22 0 ?_
    refine lI w22 0 ?_
    obtain ⟨w23,s23⟩:=w22.pp [] 2
    exact aE hp ⟨rfl,w23,(s0.trans (s1.trans (s2.trans (s17.trans (s18.trans (s19.trans (s20.trans (s21.trans (s22.trans s23))))))))),trivial⟩
   ·refine ak w2 1 λH24 w24 s24=>?_
    refine lI w24 1 ?_
    refine lI w24 1 ?_
    refine lI w24 1 ?_
    refine lI w24 1 ?_
    refine lI w24 1 ?_
    refine ak w24 0 λH25 w25 s25=>?_
    refine ak w25 0 λH26 w26 s26=>?_
    refine ak w26 0 λH27 w27 s27=>?_
    refine ak w27 0 λH28 w28 s28=>?_
    refine ak w28 0 λH29 w29 s29=>?_
    refine lI w29 0 ?_
    refine lI w29 0 ?_
    refine lI w29 0 ?_
    refine lI w29 0 ?_
    refine lI w29 0 ?_
    obtain ⟨w30,s30⟩:=w29.pp [] 2
    exact aE hp ⟨rfl,w30,(s0.trans (s1.trans (s2.trans (s24.trans (s25.trans (s26.trans (s27.trans (s28.trans (s29.trans s30))))))))),trivial⟩
def ah.Q (H0:Hp) (Ri R0:Ys)  (r:(List (Int×Int×Int×Int×Int))×Int) (v:AV) (H':Hp):Prop:=∃ o0a:ON,∃ o0n:Nat,∃ o0c:Cap,∃ o0k:List AV,v=(.agg [(.sl ⟨o0a,o0n,o0c⟩),(.i r.2)])/\o0n=(r.1).length/\Out H0 Ri H' (Rs.own ⟨o0a,o0n,o0c⟩ (aa eI (aa eI (aa eI (aa eI eI)))).z o0k::R0) λR=>CR (aa eI (aa eI (aa eI (aa eI eI)))) H' R o0k (r.1)
def ah.S61 (H0:Hp) (Ri R0:Ys)  (C:Int->Sl->Nat->Nat->Nat->Nat->Sl->Int->Hp->OA) (pC:Int->List Int->List (Int×Int×Int×Int×Int)->Int->List Int->Int->Option ((List (Int×Int×Int×Int×Int))×Int)):Prop:=∀ {dq FZ pe fw xm xn xo xp un uo kd uq ke ur xq xr xt xu lJ lK xv lL xw xx xy},∀ {H:Hp},un=lJ.length->uo=xv.length->uq=lL.length->ur=lK.length->(Out H0 Ri H (Rs.own ⟨xn,uo,xr⟩ (aa eI (aa eI (aa eI (aa eI eI)))).z xw::Rs.blk kd [.sl ⟨xn,uo,xr⟩,.i FZ]::Rs.own ⟨xo,uq,xt⟩ (aa eI (aa eI (aa eI (aa eI eI)))).z xx::Rs.blk ke [.sl ⟨xo,uq,xt⟩,.i pe]::Rs.own ⟨xp,ur,xu⟩ eI.z xy::R0) λR=>ROs eI H R ⟨xm,un,xq⟩ lJ/\CR (aa eI (aa eI (aa eI (aa eI eI)))) H R xw xv/\CR (aa eI (aa eI (aa eI (aa eI eI)))) H R xx lL/\CR eI H R xy lK)->∀ {r:(List (Int×Int×Int×Int×Int))×Int},pC dq lJ lL pe lK fw=some r->Rt (C dq ⟨xm,un,xq⟩ kd 0 ke 0 ⟨xp,ur,xu⟩ fw H) (ah.Q H0 Ri R0  r)
def ah.S253 (H0:Hp) (Ri R0:Ys)  (C:Zk) (pC:Zs):Prop:=∀ {gh F_ lM cz eW xz xA xB xC ut uu jr uv cZ uw xD xE xF xG gY dC xH kx xI xJ xK},∀ {H:Hp},ut=gY.length->uu=xH.length->uv=kx.length->uw=dC.length->(Out H0 Ri H (Rs.own ⟨xA,uu,xE⟩ (aa eI (aa eI (aa eI (aa eI eI)))).z xI::Rs.blk jr [.sl ⟨xA,uu,xE⟩,.i F_]::Rs.own ⟨xB,uv,xF⟩ (aa eI (aa eI (aa eI (aa eI eI)))).z xJ::Rs.blk cZ [.sl ⟨xB,uv,xF⟩,.i lM]::Rs.own ⟨xC,uw,xG⟩ eI.z xK::R0) λR=>ROs eI H R ⟨xz,ut,xD⟩ gY/\CR (aa eI (aa eI (aa eI (aa eI eI)))) H R xI xH/\CR (aa eI (aa eI (aa eI (aa eI eI)))) H R xJ kx/\CR eI H R xK dC)->∀ {r:(List (Int×Int×Int×Int×Int))×Int},pC gh gY kx lM dC cz eW=some r->Rt (C gh ⟨xz,ut,xD⟩ jr 0 cZ 0 ⟨xC,uw,xG⟩ cz eW H) (ah.Q H0 Ri R0  r)
def ah.pj25 (F:Nat) (jB:Zs) (ns:Int) (qt:Yr) (qu:Yx) (ux:Int) (pf:Yr) (nu:Int) (nv:Int) (kb:Int) (nw:Int) (ny:Int):Option ((List (Int×Int×Int×Int×Int))×Int):=(ix pf kb).bind λn1=>(some (pf.set n1 nw)).bind λl2=>(ix l2 (wrap .i64 (kb+1))).bind λn4=>(some (l2.set n4 ny)).bind λl5=>jB ns qt qu ux l5 nu (wrap .i64 (nv+1))
theorem ah.j25_P  {C253_:Zk} {jB:Zs} (hC253:ah.S253 H0 Ri R0  C253_ jB) {ns Qg ux nu nv kb nw ny Ga Gb Gc Gd xL xM tt xN tu xO Ge Gf Gg Gh qt pf Gi qu Gj Gk Gl} (Qh:xL=qt.length) (Qi:xM=Gi.length) (Qj:xN=qu.length) (Qk:xO=pf.length) (h0:Out H0 Ri H (Rs.own ⟨Gb,xM,Gf⟩ (aa eI (aa eI (aa eI (aa eI eI)))).z Gj::Rs.blk tt [.sl ⟨Gb,xM,Gf⟩,.i Qg]::Rs.own ⟨Gc,xN,Gg⟩ (aa eI (aa eI (aa eI (aa eI eI)))).z Gk::Rs.blk tu [.sl ⟨Gc,xN,Gg⟩,.i ux]::Rs.own ⟨Gd,xO,Gh⟩ eI.z Gl::R0) λR=>ROs eI H R ⟨Ga,xL,Ge⟩ qt/\CR (aa eI (aa eI (aa eI (aa eI eI)))) H R Gj Gi/\CR (aa eI (aa eI (aa eI (aa eI eI)))) H R Gk qu/\CR eI H R Gl pf) {r:(List (Int×Int×Int×Int×Int))×Int} (hp:ah.pj25 F jB ns qt qu ux pf nu nv kb nw ny=some r):Rt (ah.j25 F (cw.tw F) (bu.tw F) (bY.tw F) C253_ ns ⟨Ga,xL,Ge⟩ tt 0 tu 0 ⟨Gd,xO,Gh⟩ nu nv kb nw ny H) (ah.Q H0 Ri R0  r):=by
 obtain ⟨w0,s0,Ql,Qm,Qn,Gm⟩:=h0
 subst Qh
 subst Qi
 subst Qj
 subst Qk
 unfold ah.pj25 at hp
 unfold ah.j25
 obtain ⟨n1,g1,hp⟩:=af hp
 obtain ⟨p1,q1,i1,h1,j1⟩:=W.ixo (E:=eI) w0 (i:=4) rfl rfl Gm g1
 refine aj i1 ?_
 obtain ⟨l2,e2,hp⟩:=af hp
 refine bV eI w0 (i:=4) (j:=0) (p:=p1) rfl rfl Gm g1 i1 e2 rfl rfl (λ_ h=>by have h:_=[_]:=h;subst h;exact rfl) λH3 k3 w3 s3 c3=>?_
 obtain ⟨n4,g4,hp⟩:=af hp
 obtain ⟨p4,q4,i4,h4,j4⟩:=W.ixo (E:=eI) w3 (i:=4) rfl rfl c3 g4
 refine aj i4 ?_
 obtain ⟨l5,e5,hp⟩:=af hp
 refine bV eI w3 (i:=4) (j:=0) (p:=p4) rfl rfl c3 g4 i4 e5 rfl rfl (λ_ h=>by have h:_=[_]:=h;subst h;exact rfl) λH6 k6 w6 s6 c6=>?_
 exact hC253 rfl rfl rfl ((aT e2).symm.trans (aT e5).symm) ⟨w6,(s0.trans (s3.trans s6)),(Ql.step (s3.trans s6)),(Qm.step (s3.trans s6)),(Qn.step (s3.trans s6)),c6⟩ hp
def ah.S509 (H0:Hp) (Ri R0:Ys)  (C:YM) (pC:YP):Prop:=∀ {gf Gn lN fv xP xQ xR uy gV uz gW uA xS xT xU xV ky xW xX xY jC},∀ {H:Hp},uy=xV.length->uz=ky.length->uA=jC.length->(Out H0 Ri H (Rs.own ⟨xP,uy,xS⟩ (aa eI (aa eI (aa eI (aa eI eI)))).z xW::Rs.blk gV [.sl ⟨xP,uy,xS⟩,.i Gn]::Rs.own ⟨xQ,uz,xT⟩ (aa eI (aa eI (aa eI (aa eI eI)))).z xX::Rs.blk gW [.sl ⟨xQ,uz,xT⟩,.i lN]::Rs.own ⟨xR,uA,xU⟩ eI.z xY::R0) λR=>CR (aa eI (aa eI (aa eI (aa eI eI)))) H R xW xV/\CR (aa eI (aa eI (aa eI (aa eI eI)))) H R xX ky/\CR eI H R xY jC)->∀ {r:(List (Int×Int×Int×Int×Int))×Int},pC gf ky lN jC fv=some r->Rt (C gf gV 0 gW 0 ⟨xR,uA,xU⟩ fv H) (ah.Q H0 Ri R0  r)
def ah.S16299 (H0:Hp) (Ri R0:Ys)  (C:YZ) (pC:Zb):Prop:=∀ {ic Gp pg ig ii xZ x_ ya uB jZ uC jq uD yb yc yd ye kz yf yg yh lO},∀ {H:Hp},uB=ye.length->uC=kz.length->uD=lO.length->(Out H0 Ri H (Rs.own ⟨xZ,uB,yb⟩ (aa eI (aa eI (aa eI (aa eI eI)))).z yf::Rs.blk jZ [.sl ⟨xZ,uB,yb⟩,.i Gp]::Rs.own ⟨x_,uC,yc⟩ (aa eI (aa eI (aa eI (aa eI eI)))).z yg::Rs.blk jq [.sl ⟨x_,uC,yc⟩,.i pg]::Rs.own ⟨ya,uD,yd⟩ eI.z yh::R0) λR=>CR (aa eI (aa eI (aa eI (aa eI eI)))) H R yf ye/\CR (aa eI (aa eI (aa eI (aa eI eI)))) H R yg kz/\CR eI H R yh lO)->∀ {r:(List (Int×Int×Int×Int×Int))×Int},pC ic kz pg lO ig ii=some r->Rt (C ic jZ 0 jq 0 ⟨ya,uD,yd⟩ ig ii H) (ah.Q H0 Ri R0  r)
def ah.S260789 (H0:Hp) (Ri R0:Ys)  (C:Zj) (pC:Zt):Prop:=∀ {gd Gq lP eU ef eV yi yj yk uE jp uF gU uG yl ym yn yo dD yp yq yr jc},∀ {H:Hp},uE=yo.length->uF=dD.length->uG=jc.length->(Out H0 Ri H (Rs.own ⟨yi,uE,yl⟩ (aa eI (aa eI (aa eI (aa eI eI)))).z yp::Rs.blk jp [.sl ⟨yi,uE,yl⟩,.i Gq]::Rs.own ⟨yj,uF,ym⟩ (aa eI (aa eI (aa eI (aa eI eI)))).z yq::Rs.blk gU [.sl ⟨yj,uF,ym⟩,.i lP]::Rs.own ⟨yk,uG,yn⟩ eI.z yr::R0) λR=>CR (aa eI (aa eI (aa eI (aa eI eI)))) H R yp yo/\CR (aa eI (aa eI (aa eI (aa eI eI)))) H R yq dD/\CR eI H R yr jc)->∀ {r:(List (Int×Int×Int×Int×Int))×Int},pC gd dD lP jc eU ef eV=some r->Rt (C gd jp 0 gU 0 ⟨yk,uG,yn⟩ eU ef eV H) (ah.Q H0 Ri R0  r)
def ah.pj22 (F:Nat) (uH:Zt) (ni:Int) (qv:Yx) (uI:Int) (qw:Yr) (nj:Int) (nk:Int) (nl:Int):Option ((List (Int×Int×Int×Int×Int))×Int):=uH ni qv uI qw nj nk (wrap .i64 (nl+1))
theorem ah.j22_P  {C260789_:Zj} {uH:Zt} (hC260789:ah.S260789 H0 Ri R0  C260789_ uH) {ni Qo uI nj nk nl Gr Gs Gt ys tc yt tf yu Gu Gv Gw Gx qv Gy Gz GA qw} (Qp:ys=Gx.length) (Qq:yt=qv.length) (Qr:yu=qw.length) (h0:Out H0 Ri H (Rs.own ⟨Gr,ys,Gu⟩ (aa eI (aa eI (aa eI (aa eI eI)))).z Gy::Rs.blk tc [.sl ⟨Gr,ys,Gu⟩,.i Qo]::Rs.own ⟨Gs,yt,Gv⟩ (aa eI (aa eI (aa eI (aa eI eI)))).z Gz::Rs.blk tf [.sl ⟨Gs,yt,Gv⟩,.i uI]::Rs.own ⟨Gt,yu,Gw⟩ eI.z GA::R0) λR=>CR (aa eI (aa eI (aa eI (aa eI eI)))) H R Gy Gx/\CR (aa eI (aa eI (aa eI (aa eI eI)))) H R Gz qv/\CR eI H R GA qw) {r:(List (Int×Int×Int×Int×Int))×Int} (hp:ah.pj22 F uH ni qv uI qw nj nk nl=some r):Rt (ah.j22 F (cw.tw F) (bu.tw F) (bY.tw F) C260789_ ni tc 0 tf 0 ⟨Gt,yu,Gw⟩ nj nk nl H) (ah.Q H0 Ri R0  r):=by
 obtain ⟨w0,s0,Qs,Qt,Qu⟩:=h0
 subst Qp
 subst Qq
 subst Qr
 unfold ah.pj22 at hp
 unfold ah.j22
 exact hC260789 rfl rfl rfl ⟨w0,s0,Qs,Qt,Qu⟩ hp
def ah.pj20 (F:Nat) (fo:Zb) (mZ:Int) (qx:Yx) (uJ:Int) (qy:Yr) (m_:Int) (na:Int):Option ((List (Int×Int×Int×Int×Int))×Int):=fo mZ qx uJ qy m_ (wrap .i64 (na+1))
theorem ah.j20_P  {C16299_:YZ} {fo:Zb} (hC16299:ah.S16299 H0 Ri R0  C16299_ fo) {mZ Qv uJ m_ na GB GC GD yv sX yw sY yx GE GF GG GH qx GI GJ GK qy} (Qw:yv=GH.length) (Qx:yw=qx.length) (Qy:yx=qy.length) (h0:Out H0 Ri H (Rs.own ⟨GB,yv,GE⟩ (aa eI (aa eI (aa eI (aa eI eI)))).z GI::Rs.blk sX [.sl ⟨GB,yv,GE⟩,.i Qv]::Rs.own ⟨GC,yw,GF⟩ (aa eI (aa eI (aa eI (aa eI eI)))).z GJ::Rs.blk sY [.sl ⟨GC,yw,GF⟩,.i uJ]::Rs.own ⟨GD,yx,GG⟩ eI.z GK::R0) λR=>CR (aa eI (aa eI (aa eI (aa eI eI)))) H R GI GH/\CR (aa eI (aa eI (aa eI (aa eI eI)))) H R GJ qx/\CR eI H R GK qy) {r:(List (Int×Int×Int×Int×Int))×Int} (hp:ah.pj20 F fo mZ qx uJ qy m_ na=some r):Rt (ah.j20 F (cw.tw F) (bu.tw F) (bY.tw F) C16299_ mZ sX 0 sY 0 ⟨GD,yx,GG⟩ m_ na H) (ah.Q H0 Ri R0  r):=by
 obtain ⟨w0,s0,Qz,QA,QB⟩:=h0
 subst Qw
 subst Qx
 subst Qy
 unfold ah.pj20 at hp
 unfold ah.j20
 exact hC16299 rfl rfl rfl ⟨w0,s0,Qz,QA,QB⟩ hp
def ah.pj21 (F:Nat) (fo:Zb) (nb:Int) (qz:Yx) (uK:Int) (qA:Yr) (ng:Int) (nh:Int):Option ((List (Int×Int×Int×Int×Int))×Int):=ah.pj20 F fo nb qz uK qA ng nh
theorem ah.j21_P  {C16299_:YZ} {fo:Zb} (hC16299:ah.S16299 H0 Ri R0  C16299_ fo) {nb QC uK ng nh GL GM GN yy sZ yz s_ yA GO GP GQ GR qz GS GT GU qA} (QD:yy=GR.length) (QE:yz=qz.length) (QF:yA=qA.length) (h0:Out H0 Ri H (Rs.own ⟨GL,yy,GO⟩ (aa eI (aa eI (aa eI (aa eI eI)))).z GS::Rs.blk sZ [.sl ⟨GL,yy,GO⟩,.i QC]::Rs.own ⟨GM,yz,GP⟩ (aa eI (aa eI (aa eI (aa eI eI)))).z GT::Rs.blk s_ [.sl ⟨GM,yz,GP⟩,.i uK]::Rs.own ⟨GN,yA,GQ⟩ eI.z GU::R0) λR=>CR (aa eI (aa eI (aa eI (aa eI eI)))) H R GS GR/\CR (aa eI (aa eI (aa eI (aa eI eI)))) H R GT qz/\CR eI H R GU qA) {r:(List (Int×Int×Int×Int×Int))×Int} (hp:ah.pj21 F fo nb qz uK qA ng nh=some r):Rt (ah.j21 F (cw.tw F) (bu.tw F) (bY.tw F) C16299_ nb sZ 0 s_ 0 ⟨GN,yA,GQ⟩ ng nh H) (ah.Q H0 Ri R0  r):=by
 obtain ⟨w0,s0,QG,QH,QI⟩:=h0
 subst QD
 subst QE
 subst QF
 unfold ah.pj21 at hp
 unfold ah.j21
 exact ah.j20_P (@hC16299) rfl rfl rfl ⟨w0,s0,QG,QH,QI⟩ hp
def ah.pl260789 (F:Nat) (bT:YP) (fo:Zb):Nat->Int->List (Int×Int×Int×Int×Int)->Int->List Int->Int->Int->Int->Option ((List (Int×Int×Int×Int×Int))×Int)
 | 0,_,_,_,_,_,_,_=>none
 | k+1,gd,dD,lP,jc,eU,ef,eV=>(bif (decide (eV<4)) then ((ix dD ef).bind λn1=>(bu.p F ((gt dD n1).1) ((gt dD n1).2.1) ((gt dD n1).2.2.1) ((gt dD n1).2.2.2.1) eV).bind λr2=>(bif (r2==(wrap .i64 ((-1) - eU))) then ((ix dD ef).bind λn4=>(ix jc eU).bind λn5=>(bY.p F ((gt dD n4).1) ((gt dD n4).2.1) ((gt dD n4).2.2.1) ((gt dD n4).2.2.2.1) ((gt dD n4).2.2.2.2) eV (gt jc n5)).bind λr6=>(ix dD ef).bind λn9=>(some (dD.set n9 (r6.1,(gt dD n9).2.1,(gt dD n9).2.2.1,(gt dD n9).2.2.2.1,(gt dD n9).2.2.2.2))).bind λl10=>(some (l10.set n9 ((gt l10 n9).1,r6.2.1,(gt l10 n9).2.2.1,(gt l10 n9).2.2.2.1,(gt l10 n9).2.2.2.2))).bind λl12=>(some (l12.set n9 ((gt l12 n9).1,(gt l12 n9).2.1,r6.2.2.1,(gt l12 n9).2.2.2.1,(gt l12 n9).2.2.2.2))).bind λl14=>(some (l14.set n9 ((gt l14 n9).1,(gt l14 n9).2.1,(gt l14 n9).2.2.1,r6.2.2.2.1,(gt l14 n9).2.2.2.2))).bind λl16=>(some (l16.set n9 ((gt l16 n9).1,(gt l16 n9).2.1,(gt l16 n9).2.2.1,(gt l16 n9).2.2.2.1,r6.2.2.2.2))).bind λl18=>ah.pj22 F (ah.pl260789 F bT fo k) gd l18 lP jc eU ef eV) else (ah.pj22 F (ah.pl260789 F bT fo k) gd dD lP jc eU ef eV))) else (ah.pj21 F fo gd dD lP jc eU ef))
theorem ah.l260789_P  {C509_:YM} {bT:YP} (hC509:ah.S509 H0 Ri R0  C509_ bT) {C16299_:YZ} {fo:Zb} (hC16299:ah.S16299 H0 Ri R0  C16299_ fo):∀ k,ah.S260789 H0 Ri R0  (ah.l260789 F (cw.tw F) (bu.tw F) (bY.tw F) C509_ C16299_ k) (ah.pl260789 F bT fo k):=by
 intro k
 induction k with
 | zero=>unfold ah.S260789;intros;rename_i hp;cases hp
 | succ k ih=>
  intro gd Gq lP eU ef eV yi yj yk uE jp uF gU uG yl ym yn yo dD yp yq yr jc H QJ QK QL h0 r hp
  obtain ⟨w0,s0,yB,ph,uL⟩:=h0
  subst QJ
  subst QK
  subst QL
  unfold ah.pl260789 at hp
  unfold ah.l260789
  refine aB hp (λhp=>?_) λhp=>?_
  ·refine lSl w0 3 ?_
   obtain ⟨n1,g1,hp⟩:=af hp
   obtain ⟨p1,q1,i1,h1,j1⟩:=W.ixo (E:=(aa eI (aa eI (aa eI (aa eI eI))))) w0 (i:=2) rfl rfl ph g1
   refine aj i1 ?_
   obtain ⟨_,_,rfl,rfl,_,_,rfl,rfl,_,_,rfl,rfl,_,_,rfl,rfl,rfl⟩:=h1
   refine aj (aC (j1 0 _ rfl)) ?_
   refine aj (aC (j1 1 _ rfl)) ?_
   refine aj (aC (j1 2 _ rfl)) ?_
   refine aj (aC (j1 3 _ rfl)) ?_
   refine aj (aC (j1 4 _ rfl)) ?_
   obtain ⟨r2,e2,hp⟩:=af hp
   refine aM (bu.P ⟨w0,trivial⟩ e2) ?_
   rintro _ H3 ⟨rfl,w3,s3,_⟩
   refine br ?_
   refine aB hp (λhp=>?_) λhp=>?_
   ·refine lSl w3 3 ?_
    refine lSl w3 3 ?_
    obtain ⟨n4,g4,hp⟩:=af hp
    obtain ⟨p4,q4,i4,h4,j4⟩:=W.ixo (E:=(aa eI (aa eI (aa eI (aa eI eI))))) w3 (i:=2) rfl rfl (ph.step s3) g4
    refine aj i4 ?_
    obtain ⟨_,_,rfl,rfl,_,_,rfl,rfl,_,_,rfl,rfl,_,_,rfl,rfl,rfl⟩:=h4
    refine aj (aC (j4 0 _ rfl)) ?_
    refine aj (aC (j4 1 _ rfl)) ?_
    refine aj (aC (j4 2 _ rfl)) ?_
    refine aj (aC (j4 3 _ rfl)) ?_
    refine aj (aC (j4 4 _ rfl)) ?_
    obtain ⟨n5,g5,hp⟩:=af hp
    obtain ⟨p5,q5,i5,h5,j5⟩:=W.ixo (E:=eI) w3 (i:=4) rfl rfl (uL.step s3) g5
    refine aj i5 ?_
    have h5:_=[_]:=h5
    subst h5
    refine aj (aC (j5 0 _ rfl)) ?_
    obtain ⟨r6,e6,hp⟩:=af hp
    refine aM (bY.P ⟨w3,trivial⟩ e6) ?_
    rintro _ H7 ⟨rfl,w7,s7,_⟩
    refine br (br (br (br (br (br (br (br (br (br (br ?_))))))))))
    refine fZ (W.cons_of (Rn:=[]) w3 w7 s7) ?_
    obtain ⟨n9,g9,hp⟩:=af hp
    obtain ⟨p9,q9,i9,h9,j9⟩:=W.ixo (E:=(aa eI (aa eI (aa eI (aa eI eI))))) w7 (i:=2) rfl rfl (ph.step (s3.trans s7)) g9
    refine aj i9 ?_
    obtain ⟨l10,e10,hp⟩:=af hp
    refine bV (aa eI (aa eI (aa eI (aa eI eI)))) w7 (i:=2) (j:=0) (p:=p9) rfl rfl (ph.step (s3.trans s7)) g9 i9 e10 rfl rfl (λ_ h=>by obtain ⟨_,_,rfl,rfl,_,_,rfl,rfl,_,_,rfl,rfl,_,_,rfl,rfl,rfl⟩:=h;exact ⟨[_],_,rfl,rfl,[_],_,rfl,rfl,[_],_,rfl,rfl,[_],_,rfl,rfl,rfl⟩) λH11 k11 w11 s11 c11=>?_
    obtain ⟨l12,e12,hp⟩:=af hp
    refine bV (aa eI (aa eI (aa eI (aa eI eI)))) w11 (i:=2) (j:=1) (p:=p9) rfl rfl c11 (eQ g9 (aT e10)) i9 e12 rfl rfl (λ_ h=>by obtain ⟨_,_,rfl,rfl,_,_,rfl,rfl,_,_,rfl,rfl,_,_,rfl,rfl,rfl⟩:=h;exact ⟨[_],_,rfl,rfl,[_],_,rfl,rfl,[_],_,rfl,rfl,[_],_,rfl,rfl,rfl⟩) λH13 k13 w13 s13 c13=>?_
    obtain ⟨l14,e14,hp⟩:=af hp
    refine bV (aa eI (aa eI (aa eI (aa eI eI)))) w13 (i:=2) (j:=2) (p:=p9) rfl rfl c13 (eQ g9 ((aT e12).trans (aT e10))) i9 e14 rfl rfl (λ_ h=>by obtain ⟨_,_,rfl,rfl,_,_,rfl,rfl,_,_,rfl,rfl,_,_,rfl,rfl,rfl⟩:=h;exact ⟨[_],_,rfl,rfl,[_],_,rfl,rfl,[_],_,rfl,rfl,[_],_,rfl,rfl,rfl⟩) λH15 k15 w15 s15 c15=>?_
    obtain ⟨l16,e16,hp⟩:=af hp
    refine bV (aa eI (aa eI (aa eI (aa eI eI)))) w15 (i:=2) (j:=3) (p:=p9) rfl rfl c15 (eQ g9 (((aT e14).trans (aT e12)).trans (aT e10))) i9 e16 rfl rfl (λ_ h=>by obtain ⟨_,_,rfl,rfl,_,_,rfl,rfl,_,_,rfl,rfl,_,_,rfl,rfl,rfl⟩:=h;exact ⟨[_],_,rfl,rfl,[_],_,rfl,rfl,[_],_,rfl,rfl,[_],_,rfl,rfl,rfl⟩) λH17 k17 w17 s17 c17=>?_
    obtain ⟨l18,e18,hp⟩:=af hp
    refine bV (aa eI (aa eI (aa eI (aa eI eI)))) w17 (i:=2) (j:=4) (p:=p9) rfl rfl c17 (eQ g9 ((((aT e16).trans (aT e14)).trans (aT e12)).trans (aT e10))) i9 e18 rfl rfl (λ_ h=>by obtain ⟨_,_,rfl,rfl,_,_,rfl,rfl,_,_,rfl,rfl,_,_,rfl,rfl,rfl⟩:=h;exact ⟨[_],_,rfl,rfl,[_],_,rfl,rfl,[_],_,rfl,rfl,[_],_,rfl,rfl,rfl⟩) λH19 k19 w19 s19 c19=>?_
    exact ah.j22_P (@ih) rfl (((((aT e10).symm.trans (aT e12).symm).trans (aT e14).symm).trans (aT e16).symm).trans (aT e18).symm) rfl ⟨w19,(s0.trans (s3.trans (s7.trans (s11.trans (s13.trans (s15.trans (s17.trans s19))))))),(yB.step (s3.trans (s7.trans (s11.trans (s13.trans (s15.trans (s17.trans s19))))))),c19,(uL.step (s3.trans (s7.trans (s11.trans (s13.trans (s15.trans (s17.trans s19)))))))⟩ hp
   ·exact ah.j22_P (@ih) rfl rfl rfl ⟨w3,(s0.trans s3),(yB.step s3),(ph.step s3),(uL.step s3)⟩ hp
  ·exact ah.j21_P (@hC16299) rfl rfl rfl ⟨w0,s0,yB,ph,uL⟩ hp
def ah.pj17 (F:Nat) (bT:YP) (mV:Int) (qB:Yx) (uM:Int) (qC:Yr) (mW:Int):Option ((List (Int×Int×Int×Int×Int))×Int):=bT mV qB uM qC (wrap .i64 (mW+1))
theorem ah.j17_P  {C509_:YM} {bT:YP} (hC509:ah.S509 H0 Ri R0  C509_ bT) {mV QM uM mW GV GW GX yC sT yD sU yE GY GZ G_ Ha qB Hb Hc Hd qC} (QN:yC=Ha.length) (QO:yD=qB.length) (QP:yE=qC.length) (h0:Out H0 Ri H (Rs.own ⟨GV,yC,GY⟩ (aa eI (aa eI (aa eI (aa eI eI)))).z Hb::Rs.blk sT [.sl ⟨GV,yC,GY⟩,.i QM]::Rs.own ⟨GW,yD,GZ⟩ (aa eI (aa eI (aa eI (aa eI eI)))).z Hc::Rs.blk sU [.sl ⟨GW,yD,GZ⟩,.i uM]::Rs.own ⟨GX,yE,G_⟩ eI.z Hd::R0) λR=>CR (aa eI (aa eI (aa eI (aa eI eI)))) H R Hb Ha/\CR (aa eI (aa eI (aa eI (aa eI eI)))) H R Hc qB/\CR eI H R Hd qC) {r:(List (Int×Int×Int×Int×Int))×Int} (hp:ah.pj17 F bT mV qB uM qC mW=some r):Rt (ah.j17 F (cw.tw F) (bu.tw F) (bY.tw F) C509_ mV sT 0 sU 0 ⟨GX,yE,G_⟩ mW H) (ah.Q H0 Ri R0  r):=by
 obtain ⟨w0,s0,QQ,QR,QT⟩:=h0
 subst QN
 subst QO
 subst QP
 unfold ah.pj17 at hp
 unfold ah.j17
 exact hC509 rfl rfl rfl ⟨w0,s0,QQ,QR,QT⟩ hp
def ah.pj18 (F:Nat) (bT:YP) (mX:Int) (qD:Yx) (uN:Int) (qE:Yr) (mY:Int):Option ((List (Int×Int×Int×Int×Int))×Int):=ah.pj17 F bT mX qD uN qE mY
theorem ah.j18_P  {C509_:YM} {bT:YP} (hC509:ah.S509 H0 Ri R0  C509_ bT) {mX QU uN mY He Hf Hg yF sV yG sW yH Hh Hj Hk Hl qD Hm Hn Ho qE} (QV:yF=Hl.length) (QW:yG=qD.length) (QX:yH=qE.length) (h0:Out H0 Ri H (Rs.own ⟨He,yF,Hh⟩ (aa eI (aa eI (aa eI (aa eI eI)))).z Hm::Rs.blk sV [.sl ⟨He,yF,Hh⟩,.i QU]::Rs.own ⟨Hf,yG,Hj⟩ (aa eI (aa eI (aa eI (aa eI eI)))).z Hn::Rs.blk sW [.sl ⟨Hf,yG,Hj⟩,.i uN]::Rs.own ⟨Hg,yH,Hk⟩ eI.z Ho::R0) λR=>CR (aa eI (aa eI (aa eI (aa eI eI)))) H R Hm Hl/\CR (aa eI (aa eI (aa eI (aa eI eI)))) H R Hn qD/\CR eI H R Ho qE) {r:(List (Int×Int×Int×Int×Int))×Int} (hp:ah.pj18 F bT mX qD uN qE mY=some r):Rt (ah.j18 F (cw.tw F) (bu.tw F) (bY.tw F) C509_ mX sV 0 sW 0 ⟨Hg,yH,Hk⟩ mY H) (ah.Q H0 Ri R0  r):=by
 obtain ⟨w0,s0,QY,QZ,Q_⟩:=h0
 subst QV
 subst QW
 subst QX
 unfold ah.pj18 at hp
 unfold ah.j18
 exact ah.j17_P (@hC509) rfl rfl rfl ⟨w0,s0,QY,QZ,Q_⟩ hp
def ah.pl16299 (F:Nat) (bT:YP):Nat->Int->List (Int×Int×Int×Int×Int)->Int->List Int->Int->Int->Option ((List (Int×Int×Int×Int×Int))×Int)
 | 0,_,_,_,_,_,_=>none
 | k+1,ic,kz,pg,lO,ig,ii=>(bif (decide (ii<(kz.length:Int))) then (ah.pl260789 F bT (ah.pl16299 F bT k) F ic kz pg lO ig ii 0) else (ah.pj18 F bT ic kz pg lO ig))
theorem ah.l16299_P  {C509_:YM} {bT:YP} (hC509:ah.S509 H0 Ri R0  C509_ bT):∀ k,ah.S16299 H0 Ri R0  (ah.l16299 F (cw.tw F) (bu.tw F) (bY.tw F) C509_ k) (ah.pl16299 F bT k):=by
 intro k
 induction k with
 | zero=>unfold ah.S16299;intros;rename_i hp;cases hp
 | succ k ih=>
  intro ic Gp pg ig ii xZ x_ ya uB jZ uC jq uD yb yc yd ye kz yf yg yh lO H Ra Rc Rd h0 r hp
  obtain ⟨w0,s0,Hq,Hr,Hs⟩:=h0
  subst Ra
  subst Rc
  subst Rd
  unfold ah.pl16299 at hp
  unfold ah.l16299
  refine lSl w0 3 ?_
  refine aB hp (λhp=>?_) λhp=>?_
  ·exact ah.l260789_P (@hC509) (@ih) F rfl rfl rfl ⟨w0,s0,Hq,Hr,Hs⟩ hp
  ·exact ah.j18_P (@hC509) rfl rfl rfl ⟨w0,s0,Hq,Hr,Hs⟩ hp
def ah.pj23 (F:Nat) (bT:YP) (np:Int) (qF:Yx) (uO:Int) (qG:Yr) (nq:Int):Option ((List (Int×Int×Int×Int×Int))×Int):=ah.pl16299 F bT F np qF uO qG nq 0
theorem ah.j23_P  {C509_:YM} {bT:YP} (hC509:ah.S509 H0 Ri R0  C509_ bT) {np Re uO nq Ht Hu Hv yI tj yJ tn yK Hw Hy Hz HA qF HB HC HD qG} (Rf:yI=HA.length) (Rh:yJ=qF.length) (Rj:yK=qG.length) (h0:Out H0 Ri H (Rs.own ⟨Ht,yI,Hw⟩ (aa eI (aa eI (aa eI (aa eI eI)))).z HB::Rs.blk tj [.sl ⟨Ht,yI,Hw⟩,.i Re]::Rs.own ⟨Hu,yJ,Hy⟩ (aa eI (aa eI (aa eI (aa eI eI)))).z HC::Rs.blk tn [.sl ⟨Hu,yJ,Hy⟩,.i uO]::Rs.own ⟨Hv,yK,Hz⟩ eI.z HD::R0) λR=>CR (aa eI (aa eI (aa eI (aa eI eI)))) H R HB HA/\CR (aa eI (aa eI (aa eI (aa eI eI)))) H R HC qF/\CR eI H R HD qG) {r:(List (Int×Int×Int×Int×Int))×Int} (hp:ah.pj23 F bT np qF uO qG nq=some r):Rt (ah.j23 F (cw.tw F) (bu.tw F) (bY.tw F) C509_ np tj 0 tn 0 ⟨Hv,yK,Hz⟩ nq H) (ah.Q H0 Ri R0  r):=by
 obtain ⟨w0,s0,Rk,Rl,Rm⟩:=h0
 subst Rf
 subst Rh
 subst Rj
 unfold ah.pj23 at hp
 unfold ah.j23
 exact ah.l16299_P (@hC509) F rfl rfl rfl ⟨w0,s0,Rk,Rl,Rm⟩ hp
def ah.pl509 (F:Nat) :Nat->Int->List (Int×Int×Int×Int×Int)->Int->List Int->Int->Option ((List (Int×Int×Int×Int×Int))×Int)
 | 0,_,_,_,_,_=>none
 | k+1,gf,ky,lN,jC,fv=>(bif (decide (fv<gf)) then ((ix jC fv).bind λn1=>(bif (decide ((gt jC n1)<0)) then (ah.pj23 F (ah.pl509 F k) gf ky (wrap .i64 (lN+1)) jC fv) else (ah.pj23 F (ah.pl509 F k) gf ky lN jC fv))) else (some (ky,lN)))
theorem ah.l509_P  :∀ k,ah.S509 H0 Ri R0  (ah.l509 F (cw.tw F) (bu.tw F) (bY.tw F)  k) (ah.pl509 F  k):=by
 intro k
 induction k with
 | zero=>unfold ah.S509;intros;rename_i hp;cases hp
 | succ k ih=>
  intro gf Gn lN fv xP xQ xR uy gV uz gW uA xS xT xU xV ky xW xX xY jC H Rp Rq Rr h0 r hp
  obtain ⟨w0,s0,HE,yL,yM⟩:=h0
  subst Rp
  subst Rq
  subst Rr
  unfold ah.pl509 at hp
  unfold ah.l509
  refine aB hp (λhp=>?_) λhp=>?_
  ·obtain ⟨n1,g1,hp⟩:=af hp
   obtain ⟨p1,q1,i1,h1,j1⟩:=W.ixo (E:=eI) w0 (i:=4) rfl rfl yM g1
   refine aj i1 ?_
   have h1:_=[_]:=h1
   subst h1
   refine aj (aC (j1 0 _ rfl)) ?_
   refine aB hp (λhp=>?_) λhp=>?_
   ·refine lI w0 3 ?_
    refine ak w0 3 λH2 w2 s2=>?_
    exact ah.j23_P (@ih) rfl rfl rfl ⟨w2,(s0.trans s2),(HE.step s2),(yL.step s2),(yM.step s2)⟩ hp
   ·exact ah.j23_P (@ih) rfl rfl rfl ⟨w0,s0,HE,yL,yM⟩ hp
  ·refine lSl w0 3 ?_
   refine lI w0 3 ?_
   refine ak w0 1 λH3 w3 s3=>?_
   refine ak w3 1 λH4 w4 s4=>?_
   refine lSl w4 1 ?_
   refine lI w4 1 ?_
   obtain ⟨w5,s5⟩:=w4.pp [2] 5
   exact aE hp ⟨_,_,_,_,rfl,rfl,w5,(s0.trans (s3.trans (s4.trans s5))),(yL.step (s3.trans (s4.trans s5)))⟩
def ah.pj24 (F:Nat)  (nr:Int) (qH:Yx) (uP:Int) (qI:Yr):Option ((List (Int×Int×Int×Int×Int))×Int):=ah.pl509 F F nr qH uP qI 0
theorem ah.j24_P   {nr Ru uP HF HG HI yN tp yO tq yP HJ HK HL HM qH HN HO HP qI} (Rv:yN=HM.length) (Rw:yO=qH.length) (Rx:yP=qI.length) (h0:Out H0 Ri H (Rs.own ⟨HF,yN,HJ⟩ (aa eI (aa eI (aa eI (aa eI eI)))).z HN::Rs.blk tp [.sl ⟨HF,yN,HJ⟩,.i Ru]::Rs.own ⟨HG,yO,HK⟩ (aa eI (aa eI (aa eI (aa eI eI)))).z HO::Rs.blk tq [.sl ⟨HG,yO,HK⟩,.i uP]::Rs.own ⟨HI,yP,HL⟩ eI.z HP::R0) λR=>CR (aa eI (aa eI (aa eI (aa eI eI)))) H R HN HM/\CR (aa eI (aa eI (aa eI (aa eI eI)))) H R HO qH/\CR eI H R HP qI) {r:(List (Int×Int×Int×Int×Int))×Int} (hp:ah.pj24 F  nr qH uP qI=some r):Rt (ah.j24 F (cw.tw F) (bu.tw F) (bY.tw F)  nr tp 0 tq 0 ⟨HI,yP,HL⟩ H) (ah.Q H0 Ri R0  r):=by
 obtain ⟨w0,s0,Ry,Rz,RA⟩:=h0
 subst Rv
 subst Rw
 subst Rx
 unfold ah.pj24 at hp
 unfold ah.j24
 exact ah.l509_P F rfl rfl rfl ⟨w0,s0,Ry,Rz,RA⟩ hp
def ah.pl253 (F:Nat) :Nat->Int->List Int->List (Int×Int×Int×Int×Int)->Int->List Int->Int->Int->Option ((List (Int×Int×Int×Int×Int))×Int)
 | 0,_,_,_,_,_,_,_=>none
 | k+1,gh,gY,kx,lM,dC,cz,eW=>(bif (decide (eW<(gY.length:Int))) then ((ix gY eW).bind λn1=>(cw.p F (gt gY n1)).bind λr2=>(ix gY eW).bind λn4=>(bif (decide ((gt gY n4)>0)) then ((ix dC (wrap .i64 ((wrap .i64 (r2 - 1))+1))).bind λn5=>(ix dC (wrap .i64 (r2 - 1))).bind λn6=>(apn kx ([((gt dC n5),(wrap .i64 (cz+1)),cz,(gt dC n6),1)]:List (Int×Int×Int×Int×Int))).bind λl8=>ah.pj25 F (ah.pl253 F k) gh gY l8 lM dC (wrap .i64 (cz+2)) eW (wrap .i64 (r2 - 1)) cz (wrap .i64 (cz+1))) else ((ix dC (wrap .i64 (r2 - 1))).bind λn12=>(ix dC (wrap .i64 ((wrap .i64 (r2 - 1))+1))).bind λn13=>(apn kx ([((gt dC n12),(gt dC n13),(wrap .i64 (cz+1)),cz,(-1))]:List (Int×Int×Int×Int×Int))).bind λl15=>ah.pj25 F (ah.pl253 F k) gh gY l15 lM dC (wrap .i64 (cz+2)) eW (wrap .i64 (r2 - 1)) cz (wrap .i64 (cz+1))))) else (ah.pj24 F gh kx lM dC))
theorem ah.l253_P  :∀ k,ah.S253 H0 Ri R0  (ah.l253 F (cw.tw F) (bu.tw F) (bY.tw F)  k) (ah.pl253 F  k):=by
 intro k
 induction k with
 | zero=>unfold ah.S253;intros;rename_i hp;cases hp
 | succ k ih=>
  intro gh F_ lM cz eW xz xA xB xC ut uu jr uv cZ uw xD xE xF xG gY dC xH kx xI xJ xK H RB RC RD RE h0 r hp
  obtain ⟨w0,s0,uQ,yQ,yR,lQ⟩:=h0
  subst RB
  subst RC
  subst RD
  subst RE
  unfold ah.pl253 at hp
  unfold ah.l253
  refine aB hp (λhp=>?_) λhp=>?_
  ·obtain ⟨n1,g1,hp⟩:=af hp
   obtain ⟨p1,q1,i1,h1,j1⟩:=ROs.ixr uQ rfl g1
   refine aj i1 ?_
   have h1:_=[_]:=h1
   subst h1
   refine aj (aC (j1 0 _ rfl)) ?_
   obtain ⟨r2,e2,hp⟩:=af hp
   refine aM (cw.P ⟨w0,trivial⟩ e2) ?_
   rintro _ H3 ⟨rfl,w3,s3,_⟩
   refine br ?_
   obtain ⟨n4,g4,hp⟩:=af hp
   obtain ⟨p4,q4,i4,h4,j4⟩:=ROs.ixr (uQ.step s3) rfl g4
   refine aj i4 ?_
   have h4:_=[_]:=h4
   subst h4
   refine aj (aC (j4 0 _ rfl)) ?_
   refine aB hp (λhp=>?_) λhp=>?_
   ·refine lSl w3 3 ?_
    obtain ⟨n5,g5,hp⟩:=af hp
    obtain ⟨p5,q5,i5,h5,j5⟩:=W.ixo (E:=eI) w3 (i:=4) rfl rfl (lQ.step s3) g5
    refine aj i5 ?_
    have h5:_=[_]:=h5
    subst h5
    refine aj (aC (j5 0 _ rfl)) ?_
    obtain ⟨n6,g6,hp⟩:=af hp
    obtain ⟨p6,q6,i6,h6,j6⟩:=W.ixo (E:=eI) w3 (i:=4) rfl rfl (lQ.step s3) g6
    refine aj i6 ?_
    have h6:_=[_]:=h6
    subst h6
    refine aj (aC (j6 0 _ rfl)) ?_
    refine dl (aa eI (aa eI (aa eI (aa eI eI)))) w3 (n:=1) (l:=([((gt dC n5),(wrap .i64 (cz+1)),cz,(gt dC n6),1)]:List (Int×Int×Int×Int×Int))) rfl (CR.cons (c:=[_,_,_,_,_]) ⟨[_],_,rfl,rfl,⟨[_],_,rfl,rfl,⟨[_],_,rfl,rfl,⟨[_],_,rfl,rfl,rfl⟩⟩⟩⟩ CR.empty) rfl λH7 w7 s7 c7=>?_
    refine aj (w7.rowo (i:=0) rfl) ?_
    obtain ⟨l8,e8,hp⟩:=af hp
    refine fQ (aa eI (aa eI (aa eI (aa eI eI)))) w7 (i:=3) rfl rfl (yR.step (s3.trans s7)) c7 (show 1=List.length ([((gt dC n5),(wrap .i64 (cz+1)),cz,(gt dC n6),1)]:List (Int×Int×Int×Int×Int)) from rfl) rfl e8 λa9 d9 H9 w9 s9 c9 x9=>?_
    refine ak w9 4 λH10 w10 s10=>?_
    obtain ⟨w11,s11⟩:=w10.pp [1,2,3,4,5] 6
    exact ah.j25_P (@ih) rfl rfl rfl rfl ⟨w11,(s0.trans (s3.trans (s7.trans (s9.trans (s10.trans s11))))),(uQ.step (s3.trans (s7.trans (s9.trans (s10.trans s11))))),(yQ.step (s3.trans (s7.trans (s9.trans (s10.trans s11))))),(c9.step (s10.trans s11)),(lQ.step (s3.trans (s7.trans (s9.trans (s10.trans s11)))))⟩ hp
   ·refine lSl w3 3 ?_
    obtain ⟨n12,g12,hp⟩:=af hp
    obtain ⟨p12,q12,i12,h12,j12⟩:=W.ixo (E:=eI) w3 (i:=4) rfl rfl (lQ.step s3) g12
    refine aj i12 ?_
    have h12:_=[_]:=h12
    subst h12
    refine aj (aC (j12 0 _ rfl)) ?_
    obtain ⟨n13,g13,hp⟩:=af hp
    obtain ⟨p13,q13,i13,h13,j13⟩:=W.ixo (E:=eI) w3 (i:=4) rfl rfl (lQ.step s3) g13
    refine aj i13 ?_
    have h13:_=[_]:=h13
    subst h13
    refine aj (aC (j13 0 _ rfl)) ?_
    refine dl (aa eI (aa eI (aa eI (aa eI eI)))) w3 (n:=1) (l:=([((gt dC n12),(gt dC n13),(wrap .i64 (cz+1)),cz,(-1))]:List (Int×Int×Int×Int×Int))) rfl (CR.cons (c:=[_,_,_,_,_]) ⟨[_],_,rfl,rfl,⟨[_],_,rfl,rfl,⟨[_],_,rfl,rfl,⟨[_],_,rfl,rfl,rfl⟩⟩⟩⟩ CR.empty) rfl λH14 w14 s14 c14=>?_
    refine aj (w14.rowo (i:=0) rfl) ?_
    obtain ⟨l15,e15,hp⟩:=af hp
    refine fQ (aa eI (aa eI (aa eI (aa eI eI)))) w14 (i:=3) rfl rfl (yR.step (s3.trans s14)) c14 (show 1=List.length ([((gt dC n12),(gt dC n13),(wrap .i64 (cz+1)),cz,(-1))]:List (Int×Int×Int×Int×Int)) from rfl) rfl e15 λa16 d16 H16 w16 s16 c16 x16=>?_
    refine ak w16 4 λH17 w17 s17=>?_
    obtain ⟨w18,s18⟩:=w17.pp [1,2,3,4,5] 6
    exact ah.j25_P (@ih) rfl rfl rfl rfl ⟨w18,(s0.trans (s3.trans (s14.trans (s16.trans (s17.trans s18))))),(uQ.step (s3.trans (s14.trans (s16.trans (s17.trans s18))))),(yQ.step (s3.trans (s14.trans (s16.trans (s17.trans s18))))),(c16.step (s17.trans s18)),(lQ.step (s3.trans (s14.trans (s16.trans (s17.trans s18)))))⟩ hp
  ·exact ah.j24_P rfl rfl rfl ⟨w0,s0,yQ,yR,lQ⟩ hp
def ah.pj26 (F:Nat)  (nz:Int) (qJ:Yr) (qK:Yx) (uR:Int) (qL:Yr):Option ((List (Int×Int×Int×Int×Int))×Int):=ah.pl253 F F nz qJ qK uR qL 0 0
theorem ah.j26_P   {nz RF uR HQ HR HS HT yS yT tv yU tz yV HU HV HW HX qJ qL HY qK HZ H_ Ia} (RG:yS=qJ.length) (RH:yT=HY.length) (RI:yU=qK.length) (RJ:yV=qL.length) (h0:Out H0 Ri H (Rs.own ⟨HR,yT,HV⟩ (aa eI (aa eI (aa eI (aa eI eI)))).z HZ::Rs.blk tv [.sl ⟨HR,yT,HV⟩,.i RF]::Rs.own ⟨HS,yU,HW⟩ (aa eI (aa eI (aa eI (aa eI eI)))).z H_::Rs.blk tz [.sl ⟨HS,yU,HW⟩,.i uR]::Rs.own ⟨HT,yV,HX⟩ eI.z Ia::R0) λR=>ROs eI H R ⟨HQ,yS,HU⟩ qJ/\CR (aa eI (aa eI (aa eI (aa eI eI)))) H R HZ HY/\CR (aa eI (aa eI (aa eI (aa eI eI)))) H R H_ qK/\CR eI H R Ia qL) {r:(List (Int×Int×Int×Int×Int))×Int} (hp:ah.pj26 F  nz qJ qK uR qL=some r):Rt (ah.j26 F (cw.tw F) (bu.tw F) (bY.tw F)  nz ⟨HQ,yS,HU⟩ tv 0 tz 0 ⟨HT,yV,HX⟩ H) (ah.Q H0 Ri R0  r):=by
 obtain ⟨w0,s0,RK,RL,RM,RN⟩:=h0
 subst RG
 subst RH
 subst RI
 subst RJ
 unfold ah.pj26 at hp
 unfold ah.j26
 exact ah.l253_P F rfl rfl rfl rfl ⟨w0,s0,RK,RL,RM,RN⟩ hp
def ah.pl61 (F:Nat) :Nat->Int->List Int->List (Int×Int×Int×Int×Int)->Int->List Int->Int->Option ((List (Int×Int×Int×Int×Int))×Int)
 | 0,_,_,_,_,_,_=>none
 | k+1,dq,lJ,lL,pe,lK,fw=>(bif (decide (fw<dq)) then ((apn lK ([(wrap .i64 ((-1) - fw))]:List Int)).bind λl2=>ah.pl61 F k dq lJ lL pe l2 (wrap .i64 (fw+1))) else (ah.pj26 F dq lJ lL pe lK))
theorem ah.l61_P  :∀ k,ah.S61 H0 Ri R0  (ah.l61 F (cw.tw F) (bu.tw F) (bY.tw F)  k) (ah.pl61 F  k):=by
 intro k
 induction k with
 | zero=>unfold ah.S61;intros;rename_i hp;cases hp
 | succ k ih=>
  intro dq FZ pe fw xm xn xo xp un uo kd uq ke ur xq xr xt xu lJ lK xv lL xw xx xy H RO RP RQ RR h0 r hp
  obtain ⟨w0,s0,Ib,Ic,Ie,If⟩:=h0
  subst RO
  subst RP
  subst RQ
  subst RR
  unfold ah.pl61 at hp
  unfold ah.l61
  refine aB hp (λhp=>?_) λhp=>?_
  ·refine dl eI w0 (n:=1) (l:=([(wrap .i64 ((-1) - fw))]:List Int)) rfl (CR.cons1 rfl CR.empty) rfl λH1 w1 s1 c1=>?_
   refine aj (w1.rowo (i:=0) rfl) ?_
   obtain ⟨l2,e2,hp⟩:=af hp
   refine fQ eI w1 (i:=5) rfl rfl (If.step s1) c1 (show 1=List.length ([(wrap .i64 ((-1) - fw))]:List Int) from rfl) rfl e2 λa3 d3 H3 w3 s3 c3 x3=>?_
   obtain ⟨w4,s4⟩:=w3.pp [1,2,3,4,5] 6
   exact ih rfl rfl rfl rfl ⟨w4,(s0.trans (s1.trans (s3.trans s4))),(Ib.step (s1.trans (s3.trans s4))),(Ic.step (s1.trans (s3.trans s4))),(Ie.step (s1.trans (s3.trans s4))),(c3.step s4)⟩ hp
  ·exact ah.j26_P rfl rfl rfl rfl ⟨w0,s0,Ib,Ic,Ie,If⟩ hp
def ah.p (F:Nat) (ac:Int) (qM:Yr):Option ((List (Int×Int×Int×Int×Int))×Int):=ah.pl61 F F ac qM ([]:List (Int×Int×Int×Int×Int)) 0 ([]:List Int) 0
theorem ah.P {ac Ig yW Ih qM} (RS:yW=qM.length) (h0:Inn H R0 λR=>ROs eI H R ⟨Ig,yW,Ih⟩ qM) {r:(List (Int×Int×Int×Int×Int))×Int} (hp:ah.p F ac qM=some r):Rt (ah.tw F ac ⟨Ig,yW,Ih⟩ H) (ah.Q H R0 R0  r):=by
 obtain ⟨w0,RT⟩:=h0
 subst RS
 unfold ah.p at hp
 unfold ah.tw ah.twX
 have s0:=w0.rf
 refine aY w0 λH1 w1 s1=>?_
 refine aY w1 λH2 w2 s2=>?_
 refine ak w2 0 λH3 w3 s3=>?_
 refine ak w3 0 λH4 w4 s4=>?_
 refine dl eI w4 (n:=0) (l:=([]:List Int)) rfl CR.empty rfl λH5 w5 s5 c5=>?_
 obtain ⟨w6,s6⟩:=w5.nilS (aa eI (aa eI (aa eI (aa eI eI)))).z (by decide)
 obtain ⟨w7,s7⟩:=w6.nilS (aa eI (aa eI (aa eI (aa eI eI)))).z (by decide)
 obtain ⟨w8,s8⟩:=w7.pp [1,4,0,3,2] 5
 exact ah.l61_P F rfl rfl rfl (show 0=List.length ([]:List Int) from rfl) ⟨w8,(s0.trans (s1.trans (s2.trans (s3.trans (s4.trans (s5.trans (s6.trans (s7.trans s8)))))))),(RT.step (s1.trans (s2.trans (s3.trans (s4.trans (s5.trans (s6.trans (s7.trans s8)))))))),((CR.empty:CR (aa eI (aa eI (aa eI (aa eI eI)))) _ _ [] []).step (s7.trans s8)),((CR.empty:CR (aa eI (aa eI (aa eI (aa eI eI)))) _ _ [] []).step s8),(c5.step (s6.trans (s7.trans s8)))⟩ hp
def aN.Q (H0:Hp) (Ri R0:Ys) (cG:ON) (cn ac:Nat) (cH:Cap) (bO:Yr) (r:YX) (v:AV) (H':Hp):Prop:=∃ o0a:ON,∃ o0n:Nat,∃ o0c:Cap,∃ o0k:List AV,v=(.sl ⟨o0a,o0n,o0c⟩)/\o0n=(r.1).length/\Out H0 Ri H' (Rs.own ⟨o0a,o0n,o0c⟩ eI.z o0k::Rs.blk ac [.sl ⟨cG,cn,cH⟩,.i (r.2.1),.i (r.2.2)]::R0) λR=>CR eI H' R o0k (r.1)
def aN.S29 (H0:Hp) (Ri R0:Ys) (bZ:ON) (bK cp:Nat) (b_:Cap) (bi:Yr) (C:Nat->Nat->Int->Sl->Int->Hp->OA) (pC:List Int->Int->Int->Int->List Int->Int->Option (List Int×Int×Int)):Prop:=∀ {aR aS dJ fx yX uS yY lR yZ},∀ {H:Hp},bK=bi.length->uS=lR.length->(Out H0 Ri H (Rs.blk cp [.sl ⟨bZ,bK,b_⟩,.i aR,.i aS]::Rs.own ⟨yX,uS,yY⟩ eI.z yZ::R0) λR=>ROs (dk .u8) H R ⟨bZ,bK,b_⟩ bi/\CR eI H R yZ lR)->∀ {r:YX},pC bi aR aS dJ lR fx=some r->Rt (C cp 0 dJ ⟨yX,uS,yY⟩ fx H) (aN.Q H0 Ri R0 bZ bK cp b_ bi r)
def aN.S61 (H0:Hp) (Ri R0:Ys) (bZ:ON) (bK cp:Nat) (b_:Cap) (bi:Yr) (C:YR) (pC:List Int->Int->Int->List Int->Int->Option (List Int×Int×Int)):Prop:=∀ {aR aS eX y_ uT za gZ zb},∀ {H:Hp},bK=bi.length->uT=gZ.length->(Out H0 Ri H (Rs.blk cp [.sl ⟨bZ,bK,b_⟩,.i aR,.i aS]::Rs.own ⟨y_,uT,za⟩ eI.z zb::R0) λR=>ROs (dk .u8) H R ⟨bZ,bK,b_⟩ bi/\CR eI H R zb gZ)->∀ {r:YX},pC bi aR aS gZ eX=some r->Rt (C cp 0 ⟨y_,uT,za⟩ eX H) (aN.Q H0 Ri R0 bZ bK cp b_ bi r)
def aN.pl61 (F:Nat) :Nat->List Int->Int->Int->List Int->Int->Option (List Int×Int×Int)
 | 0,_,_,_,_,_=>none
 | k+1,bi,aR,aS,gZ,eX=>(bif (decide (eX>0)) then ((aJ.p F bi aR aS (wrap .i64 (eX+1))).bind λr1=>(ix gZ eX).bind λn3=>(ix gZ r1.1).bind λn4=>(ix gZ eX).bind λn5=>(some (gZ.set n5 (gt gZ n4))).bind λl6=>(ix l6 r1.1).bind λn8=>(some (l6.set n8 (gt gZ n3))).bind λl9=>aN.pl61 F k bi r1.2.1 r1.2.2 l9 (wrap .i64 (eX - 1))) else (some (gZ,aR,aS)))
theorem aN.l61_P {bZ bK cp b_ bi} :∀ k,aN.S61 H0 Ri R0 bZ bK cp b_ bi (aN.l61 F (aJ.tw F)  k) (aN.pl61 F  k):=by
 intro k
 induction k with
 | zero=>unfold aN.S61;intros;rename_i hp;cases hp
 | succ k ih=>
  intro aR aS eX y_ uT za gZ zb H fi RU h0 r hp
  obtain ⟨w0,s0,dB,qN⟩:=h0
  subst fi
  subst RU
  unfold aN.pl61 at hp
  unfold aN.l61
  refine aB hp (λhp=>?_) λhp=>?_
  ·obtain ⟨r1,e1,hp⟩:=af hp
   refine aM (aJ.P rfl ⟨w0,dB⟩ e1) ?_
   rintro _ H2 ⟨rfl,w2,s2,_⟩
   refine br ?_
   obtain ⟨n3,g3,hp⟩:=af hp
   obtain ⟨p3,q3,i3,h3,j3⟩:=W.ixo (E:=eI) w2 (i:=1) rfl rfl (qN.step s2) g3
   refine aj i3 ?_
   have h3:_=[_]:=h3
   subst h3
   refine aj (aC (j3 0 _ rfl)) ?_
   obtain ⟨n4,g4,hp⟩:=af hp
   obtain ⟨p4,q4,i4,h4,j4⟩:=W.ixo (E:=eI) w2 (i:=1) rfl rfl (qN.step s2) g4
   refine aj i4 ?_
   have h4:_=[_]:=h4
   subst h4
   refine aj (aC (j4 0 _ rfl)) ?_
   obtain ⟨n5,g5,hp⟩:=af hp
   obtain ⟨p5,q5,i5,h5,j5⟩:=W.ixo (E:=eI) w2 (i:=1) rfl rfl (qN.step s2) g5
   refine aj i5 ?_
   obtain ⟨l6,e6,hp⟩:=af hp
   refine bV eI w2 (i:=1) (j:=0) (p:=p5) rfl rfl (qN.step s2) g5 i5 e6 rfl rfl (λ_ h=>by have h:_=[_]:=h;subst h;exact rfl) λH7 k7 w7 s7 c7=>?_
   obtain ⟨n8,g8,hp⟩:=af hp
   obtain ⟨p8,q8,i8,h8,j8⟩:=W.ixo (E:=eI) w7 (i:=1) rfl rfl c7 g8
   refine aj i8 ?_
   obtain ⟨l9,e9,hp⟩:=af hp
   refine bV eI w7 (i:=1) (j:=0) (p:=p8) rfl rfl c7 g8 i8 e9 rfl rfl (λ_ h=>by have h:_=[_]:=h;subst h;exact rfl) λH10 k10 w10 s10 c10=>?_
   exact ih rfl ((aT e6).symm.trans (aT e9).symm) ⟨w10,(s0.trans (s2.trans (s7.trans s10))),(dB.step (s2.trans (s7.trans s10))),c10⟩ hp
  ·obtain ⟨w11,s11⟩:=w0.pp [1,0] 2
   exact aE hp ⟨_,_,_,_,rfl,rfl,w11,(s0.trans s11),(qN.step s11)⟩
def aN.pj1 (F:Nat)  (bi:Yr) (aR:Int) (aS:Int) (nA:Int) (qO:Yr):Option (List Int×Int×Int):=aN.pl61 F F bi aR aS qO (wrap .i64 (nA - 1))
theorem aN.j1_P {bZ bK cp b_ bi}  {aR aS nA Ii zd Ij qO Ik} (fi:bK=bi.length) (RV:zd=qO.length) (h0:Out H0 Ri H (Rs.blk cp [.sl ⟨bZ,bK,b_⟩,.i aR,.i aS]::Rs.own ⟨Ii,zd,Ij⟩ eI.z Ik::R0) λR=>ROs (dk .u8) H R ⟨bZ,bK,b_⟩ bi/\CR eI H R Ik qO) {r:YX} (hp:aN.pj1 F  bi aR aS nA qO=some r):Rt (aN.j1 F (aJ.tw F)  cp 0 nA ⟨Ii,zd,Ij⟩ H) (aN.Q H0 Ri R0 bZ bK cp b_ bi r):=by
 obtain ⟨w0,s0,dB,RW⟩:=h0
 subst fi
 subst RV
 unfold aN.pj1 at hp
 unfold aN.j1
 exact aN.l61_P F rfl rfl ⟨w0,s0,dB,RW⟩ hp
def aN.pl29 (F:Nat) :Nat->List Int->Int->Int->Int->List Int->Int->Option (List Int×Int×Int)
 | 0,_,_,_,_,_,_=>none
 | k+1,bi,aR,aS,dJ,lR,fx=>(bif (decide (fx<dJ)) then ((apn lR ([fx]:List Int)).bind λl2=>aN.pl29 F k bi aR aS dJ l2 (wrap .i64 (fx+1))) else (aN.pj1 F bi aR aS dJ lR))
theorem aN.l29_P {bZ bK cp b_ bi} :∀ k,aN.S29 H0 Ri R0 bZ bK cp b_ bi (aN.l29 F (aJ.tw F)  k) (aN.pl29 F  k):=by
 intro k
 induction k with
 | zero=>unfold aN.S29;intros;rename_i hp;cases hp
 | succ k ih=>
  intro aR aS dJ fx yX uS yY lR yZ H fi RX h0 r hp
  obtain ⟨w0,s0,dB,Il⟩:=h0
  subst fi
  subst RX
  unfold aN.pl29 at hp
  unfold aN.l29
  refine aB hp (λhp=>?_) λhp=>?_
  ·refine dl eI w0 (n:=1) (l:=([fx]:List Int)) rfl (CR.cons1 rfl CR.empty) rfl λH1 w1 s1 c1=>?_
   refine aj (w1.rowo (i:=0) rfl) ?_
   obtain ⟨l2,e2,hp⟩:=af hp
   refine fQ eI w1 (i:=2) rfl rfl (Il.step s1) c1 (show 1=List.length ([fx]:List Int) from rfl) rfl e2 λa3 d3 H3 w3 s3 c3 x3=>?_
   obtain ⟨w4,s4⟩:=w3.pp [1,2] 3
   exact ih rfl rfl ⟨w4,(s0.trans (s1.trans (s3.trans s4))),(dB.step (s1.trans (s3.trans s4))),(c3.step s4)⟩ hp
  ·exact aN.j1_P rfl rfl ⟨w0,s0,dB,Il⟩ hp
def aN.p (F:Nat) (bO:Yr) (aR:Int) (aS:Int) (az:Int):Option (List Int×Int×Int):=aN.pl29 F F bO aR aS az ([]:List Int) 0
theorem aN.P {cG cn ac cH bO aR aS az} (jA:cn=bO.length) (h0:Inn H (Rs.blk ac [.sl ⟨cG,cn,cH⟩,.i aR,.i aS]::R0) λR=>ROs (dk .u8) H R ⟨cG,cn,cH⟩ bO) {r:YX} (hp:aN.p F bO aR aS az=some r):Rt (aN.tw F ac 0 az H) (aN.Q H (Rs.blk ac [.sl ⟨cG,cn,cH⟩,.i aR,.i aS]::R0) R0 cG cn ac cH bO r):=by
 obtain ⟨w0,dK⟩:=h0
 subst jA
 unfold aN.p at hp
 unfold aN.tw aN.twX
 have s0:=w0.rf
 refine dl eI w0 (n:=0) (l:=([]:List Int)) rfl CR.empty rfl λH1 w1 s1 c1=>?_
 obtain ⟨w2,s2⟩:=w1.pp [1,0] 2
 exact aN.l29_P F rfl (show 0=List.length ([]:List Int) from rfl) ⟨w2,(s0.trans (s1.trans s2)),(dK.step (s1.trans s2)),(c1.step s2)⟩ hp
def bC.Q (H0:Hp) (Ri R0:Ys)  (r:(List (Int×Int×Int×Int×Int))×Int) (v:AV) (H':Hp):Prop:=∃ o0a:ON,∃ o0n:Nat,∃ o0c:Cap,∃ o0k:List AV,v=(.agg [(.sl ⟨o0a,o0n,o0c⟩),(.i r.2)])/\o0n=(r.1).length/\Out H0 Ri H' (Rs.own ⟨o0a,o0n,o0c⟩ (aa eI (aa eI (aa eI (aa eI eI)))).z o0k::R0) λR=>CR (aa eI (aa eI (aa eI (aa eI eI)))) H' R o0k (r.1)
def bC.S29 (H0:Hp) (Ri R0:Ys)  (C:Sl->Sl->Nat->Nat->Nat->Nat->Nat->Nat->Int->Hp->OA) (pC:List Int->List Int->List (Int×Int×Int×Int×Int)->List (Int×Int×Int×Int×Int)->Int->Int->Option ((List (Int×Int×Int×Int×Int))×Int)):Prop:=∀ {ze zf lT zg zh uU uV jD fm uW ik uX il zi zj lU zk zm dS jE dZ zn lV Im Io pi gi zo zp},∀ {H:Hp},uU=dS.length->uV=jE.length->jD=dZ.length->uW=zn.length->uX=lV.length->(Out H0 Ri H (Rs.blk fm [.sl ⟨lT,jD,lU⟩,.i Im]::Rs.own ⟨zg,uW,zk⟩ (aa eI (aa eI (aa eI (aa eI eI)))).z zo::Rs.blk ik [.sl ⟨zg,uW,zk⟩,.i Io]::Rs.own ⟨zh,uX,zm⟩ (aa eI (aa eI (aa eI (aa eI eI)))).z zp::Rs.blk il [.sl ⟨zh,uX,zm⟩,.i pi]::R0) λR=>ROs eI H R ⟨ze,uU,zi⟩ dS/\ROs eI H R ⟨zf,uV,zj⟩ jE/\ROs (aa eI (aa eI (aa eI (aa eI eI)))) H R ⟨lT,jD,lU⟩ dZ/\CR (aa eI (aa eI (aa eI (aa eI eI)))) H R zo zn/\CR (aa eI (aa eI (aa eI (aa eI eI)))) H R zp lV)->∀ {r:(List (Int×Int×Int×Int×Int))×Int},pC dS jE dZ lV pi gi=some r->Rt (C ⟨ze,uU,zi⟩ ⟨zf,uV,zj⟩ fm 0 ik 0 il 0 gi H) (bC.Q H0 Ri R0  r)
def bC.pl29 (F:Nat) :Nat->List Int->List Int->List (Int×Int×Int×Int×Int)->List (Int×Int×Int×Int×Int)->Int->Int->Option ((List (Int×Int×Int×Int×Int))×Int)
 | 0,_,_,_,_,_,_=>none
 | k+1,dS,jE,dZ,lV,pi,gi=>(bif (decide (gi<(jE.length:Int))) then ((ix jE gi).bind λn1=>(ix dZ (gt jE n1)).bind λn2=>(ix dS ((gt dZ n2).1)).bind λn9=>(ix dS ((gt dZ n2).2.1)).bind λn10=>(ix dS ((gt dZ n2).2.2.1)).bind λn11=>(ix dS ((gt dZ n2).2.2.2.1)).bind λn12=>(apn lV ([((gt dS n9),(gt dS n10),(gt dS n11),(gt dS n12),((gt dZ n2).2.2.2.2))]:List (Int×Int×Int×Int×Int))).bind λl14=>bC.pl29 F k dS jE dZ l14 pi (wrap .i64 (gi+1))) else (some (lV,pi)))
theorem bC.l29_P  :∀ k,bC.S29 H0 Ri R0  (bC.l29 F   k) (bC.pl29 F  k):=by
 intro k
 induction k with
 | zero=>unfold bC.S29;intros;rename_i hp;cases hp
 | succ k ih=>
  intro ze zf lT zg zh uU uV jD fm uW ik uX il zi zj lU zk zm dS jE dZ zn lV Im Io pi gi zo zp H RY RZ zq R_ Sa h0 r hp
  obtain ⟨w0,s0,qP,Ip,uY,Sb,Iq⟩:=h0
  subst RY
  subst RZ
  subst zq
  subst R_
  subst Sa
  unfold bC.pl29 at hp
  unfold bC.l29
  refine aB hp (λhp=>?_) λhp=>?_
  ·refine lSl w0 0 ?_
   obtain ⟨n1,g1,hp⟩:=af hp
   obtain ⟨p1,q1,i1,h1,j1⟩:=ROs.ixr Ip rfl g1
   refine aj i1 ?_
   have h1:_=[_]:=h1
   subst h1
   refine aj (aC (j1 0 _ rfl)) ?_
   obtain ⟨n2,g2,hp⟩:=af hp
   obtain ⟨p2,q2,i2,h2,j2⟩:=ROs.ixr uY rfl g2
   refine aj i2 ?_
   obtain ⟨_,_,rfl,rfl,_,_,rfl,rfl,_,_,rfl,rfl,_,_,rfl,rfl,rfl⟩:=h2
   refine aj (aC (j2 0 _ rfl)) ?_
   refine aj (aC (j2 1 _ rfl)) ?_
   refine aj (aC (j2 2 _ rfl)) ?_
   refine aj (aC (j2 3 _ rfl)) ?_
   refine aj (aC (j2 4 _ rfl)) ?_
   refine aY w0 λH3 w3 s3=>?_
   refine ak w3 0 λH4 w4 s4=>?_
   refine ak w4 0 λH5 w5 s5=>?_
   refine ak w5 0 λH6 w6 s6=>?_
   refine ak w6 0 λH7 w7 s7=>?_
   refine ak w7 0 λH8 w8 s8=>?_
   refine lSl w8 5 ?_
   refine lI w8 0 ?_
   obtain ⟨n9,g9,hp⟩:=af hp
   obtain ⟨p9,q9,i9,h9,j9⟩:=ROs.ixr (qP.step (s3.trans (s4.trans (s5.trans (s6.trans (s7.trans s8)))))) rfl g9
   refine aj i9 ?_
   have h9:_=[_]:=h9
   subst h9
   refine aj (aC (j9 0 _ rfl)) ?_
   refine lI w8 0 ?_
   obtain ⟨n10,g10,hp⟩:=af hp
   obtain ⟨p10,q10,i10,h10,j10⟩:=ROs.ixr (qP.step (s3.trans (s4.trans (s5.trans (s6.trans (s7.trans s8)))))) rfl g10
   refine aj i10 ?_
   have h10:_=[_]:=h10
   subst h10
   refine aj (aC (j10 0 _ rfl)) ?_
   refine lI w8 0 ?_
   obtain ⟨n11,g11,hp⟩:=af hp
   obtain ⟨p11,q11,i11,h11,j11⟩:=ROs.ixr (qP.step (s3.trans (s4.trans (s5.trans (s6.trans (s7.trans s8)))))) rfl g11
   refine aj i11 ?_
   have h11:_=[_]:=h11
   subst h11
   refine aj (aC (j11 0 _ rfl)) ?_
   refine lI w8 0 ?_
   obtain ⟨n12,g12,hp⟩:=af hp
   obtain ⟨p12,q12,i12,h12,j12⟩:=ROs.ixr (qP.step (s3.trans (s4.trans (s5.trans (s6.trans (s7.trans s8)))))) rfl g12
   refine aj i12 ?_
   have h12:_=[_]:=h12
   subst h12
   refine aj (aC (j12 0 _ rfl)) ?_
   refine lI w8 0 ?_
   refine dl (aa eI (aa eI (aa eI (aa eI eI)))) w8 (n:=1) (l:=([((gt dS n9),(gt dS n10),(gt dS n11),(gt dS n12),((gt dZ n2).2.2.2.2))]:List (Int×Int×Int×Int×Int))) rfl (CR.cons (c:=[_,_,_,_,_]) ⟨[_],_,rfl,rfl,⟨[_],_,rfl,rfl,⟨[_],_,rfl,rfl,⟨[_],_,rfl,rfl,rfl⟩⟩⟩⟩ CR.empty) rfl λH13 w13 s13 c13=>?_
   refine aj (w13.rowo (i:=0) rfl) ?_
   obtain ⟨l14,e14,hp⟩:=af hp
   refine fQ (aa eI (aa eI (aa eI (aa eI eI)))) w13 (i:=5) rfl rfl (Iq.step (s3.trans (s4.trans (s5.trans (s6.trans (s7.trans (s8.trans s13))))))) c13 (show 1=List.length ([((gt dS n9),(gt dS n10),(gt dS n11),(gt dS n12),((gt dZ n2).2.2.2.2))]:List (Int×Int×Int×Int×Int)) from rfl) rfl e14 λa15 d15 H15 w15 s15 c15 x15=>?_
   refine ak w15 6 λH16 w16 s16=>?_
   obtain ⟨w17,s17⟩:=w16.pp [2,3,4,5,6] 7
   exact ih rfl rfl rfl rfl rfl ⟨w17,(s0.trans (s3.trans (s4.trans (s5.trans (s6.trans (s7.trans (s8.trans (s13.trans (s15.trans (s16.trans s17)))))))))),(qP.step (s3.trans (s4.trans (s5.trans (s6.trans (s7.trans (s8.trans (s13.trans (s15.trans (s16.trans s17)))))))))),(Ip.step (s3.trans (s4.trans (s5.trans (s6.trans (s7.trans (s8.trans (s13.trans (s15.trans (s16.trans s17)))))))))),(uY.step (s3.trans (s4.trans (s5.trans (s6.trans (s7.trans (s8.trans (s13.trans (s15.trans (s16.trans s17)))))))))),(Sb.step (s3.trans (s4.trans (s5.trans (s6.trans (s7.trans (s8.trans (s13.trans (s15.trans (s16.trans s17)))))))))),(c15.step (s16.trans s17))⟩ hp
  ·refine lSl w0 4 ?_
   refine lI w0 4 ?_
   refine ak w0 2 λH18 w18 s18=>?_
   refine ak w18 2 λH19 w19 s19=>?_
   refine lSl w19 2 ?_
   refine lI w19 2 ?_
   obtain ⟨w20,s20⟩:=w19.pp [3] 5
   exact aE hp ⟨_,_,_,_,rfl,rfl,w20,(s0.trans (s18.trans (s19.trans s20))),(Iq.step (s18.trans (s19.trans s20)))⟩
def bC.p (F:Nat) (ai:Yx) (ag:Int) (bH:Yr) (g_:Yr):Option ((List (Int×Int×Int×Int×Int))×Int):=bC.pl29 F F bH g_ ai ([]:List (Int×Int×Int×Int×Int)) ag 0
theorem bC.P {aG dL qQ ay cS lW aH dM qR ai ag bH g_} (bg:ay=ai.length) (fL:cS=bH.length) (zr:lW=g_.length) (h0:Inn H R0 λR=>ROs (aa eI (aa eI (aa eI (aa eI eI)))) H R ⟨aG,ay,aH⟩ ai/\ROs eI H R ⟨dL,cS,dM⟩ bH/\ROs eI H R ⟨qQ,lW,qR⟩ g_) {r:(List (Int×Int×Int×Int×Int))×Int} (hp:bC.p F ai ag bH g_=some r):Rt (bC.tw F ⟨aG,ay,aH⟩ ag ⟨dL,cS,dM⟩ ⟨qQ,lW,qR⟩ H) (bC.Q H R0 R0  r):=by
 obtain ⟨w0,aU,eO,zt⟩:=h0
 subst bg
 subst fL
 subst zr
 unfold bC.p at hp
 unfold bC.tw bC.twX
 have s0:=w0.rf
 refine aY w0 λH1 w1 s1=>?_
 refine aY w1 λH2 w2 s2=>?_
 refine lI w2 1 ?_
 refine aY w2 λH3 w3 s3=>?_
 refine ak w3 0 λH4 w4 s4=>?_
 refine ak w4 0 λH5 w5 s5=>?_
 obtain ⟨w6,s6⟩:=w5.nilS (aa eI (aa eI (aa eI (aa eI eI)))).z (by decide)
 obtain ⟨w7,s7⟩:=w6.nilS (aa eI (aa eI (aa eI (aa eI eI)))).z (by decide)
 obtain ⟨w8,s8⟩:=w7.pp [4,1,3,0,2] 5
 exact bC.l29_P F rfl rfl rfl rfl rfl ⟨w8,(s0.trans (s1.trans (s2.trans (s3.trans (s4.trans (s5.trans (s6.trans (s7.trans s8)))))))),(eO.step (s1.trans (s2.trans (s3.trans (s4.trans (s5.trans (s6.trans (s7.trans s8)))))))),(zt.step (s1.trans (s2.trans (s3.trans (s4.trans (s5.trans (s6.trans (s7.trans s8)))))))),(aU.step (s1.trans (s2.trans (s3.trans (s4.trans (s5.trans (s6.trans (s7.trans s8)))))))),((CR.empty:CR (aa eI (aa eI (aa eI (aa eI eI)))) _ _ [] []).step (s7.trans s8)),((CR.empty:CR (aa eI (aa eI (aa eI (aa eI eI)))) _ _ [] []).step s8)⟩ hp
def aL.Q (H0:Hp) (Ri R0:Ys) (cG:ON) (cn ac:Nat) (cH:Cap) (bO:Yr) (r:(List (Int×Int×Int×Int×Int))×Int×Int×Int) (v:AV) (H':Hp):Prop:=∃ o0a:ON,∃ o0n:Nat,∃ o0c:Cap,∃ o0k:List AV,v=(.agg [(.sl ⟨o0a,o0n,o0c⟩),(.i r.2.1)])/\o0n=(r.1).length/\Out H0 Ri H' (Rs.own ⟨o0a,o0n,o0c⟩ (aa eI (aa eI (aa eI (aa eI eI)))).z o0k::Rs.blk ac [.sl ⟨cG,cn,cH⟩,.i (r.2.2.1),.i (r.2.2.2)]::R0) λR=>CR (aa eI (aa eI (aa eI (aa eI eI)))) H' R o0k (r.1)
def aL.S61 (H0:Hp) (Ri R0:Ys) (bZ:ON) (bK cp:Nat) (b_:Cap) (bi:Yr) (C:Zl) (pC:Zu):Prop:=∀ {aR aS Ir ct gk zu zw uZ dO u_ zx zy zA zB zC jF},∀ {H:Hp},bK=bi.length->uZ=zA.length->u_=jF.length->(Out H0 Ri H (Rs.blk cp [.sl ⟨bZ,bK,b_⟩,.i aR,.i aS]::Rs.own ⟨zu,uZ,zx⟩ (aa eI (aa eI (aa eI (aa eI eI)))).z zB::Rs.blk dO [.sl ⟨zu,uZ,zx⟩,.i Ir]::Rs.own ⟨zw,u_,zy⟩ eI.z zC::R0) λR=>ROs (dk .u8) H R ⟨bZ,bK,b_⟩ bi/\CR (aa eI (aa eI (aa eI (aa eI eI)))) H R zB zA/\CR eI H R zC jF)->∀ {r:(List (Int×Int×Int×Int×Int))×Int×Int×Int},pC bi aR aS ct jF gk=some r->Rt (C cp 0 dO 0 ct ⟨zw,u_,zy⟩ gk H) (aL.Q H0 Ri R0 bZ bK cp b_ bi r)
def aL.pj3 (F:Nat) (aV:Zu) (bi:Yr) (aR:Int) (aS:Int) (nB:Int) (qS:Yr) (nC:Int) (kj:Int):Option ((List (Int×Int×Int×Int×Int))×Int×Int×Int):=(apn qS ([kj]:List Int)).bind λl2=>aV bi aR aS nB l2 (wrap .i64 (nC - 1))
theorem aL.j3_P {bZ bK cp b_ bi} {C61_:Zl} {aV:Zu} (hC61:aL.S61 H0 Ri R0 bZ bK cp b_ bi C61_ aV) {aR aS Sc nB nC kj Is It zD tI zE Iu Iv Iw Ix Iy qS} (fi:bK=bi.length) (Sd:zD=Iw.length) (Se:zE=qS.length) (h0:Out H0 Ri H (Rs.blk cp [.sl ⟨bZ,bK,b_⟩,.i aR,.i aS]::Rs.own ⟨Is,zD,Iu⟩ (aa eI (aa eI (aa eI (aa eI eI)))).z Ix::Rs.blk tI [.sl ⟨Is,zD,Iu⟩,.i Sc]::Rs.own ⟨It,zE,Iv⟩ eI.z Iy::R0) λR=>ROs (dk .u8) H R ⟨bZ,bK,b_⟩ bi/\CR (aa eI (aa eI (aa eI (aa eI eI)))) H R Ix Iw/\CR eI H R Iy qS) {r:(List (Int×Int×Int×Int×Int))×Int×Int×Int} (hp:aL.pj3 F aV bi aR aS nB qS nC kj=some r):Rt (aL.j3 F (aJ.tw F) (ah.tw F) (aN.tw F) (bC.tw F) C61_ cp 0 tI 0 nB ⟨It,zE,Iv⟩ nC kj H) (aL.Q H0 Ri R0 bZ bK cp b_ bi r):=by
 obtain ⟨w0,s0,dB,Sf,Sg⟩:=h0
 subst fi
 subst Sd
 subst Se
 unfold aL.pj3 at hp
 unfold aL.j3
 refine dl eI w0 (n:=1) (l:=([kj]:List Int)) rfl (CR.cons1 rfl CR.empty) rfl λH1 w1 s1 c1=>?_
 refine aj (w1.rowo (i:=0) rfl) ?_
 obtain ⟨l2,e2,hp⟩:=af hp
 refine fQ eI w1 (i:=4) rfl rfl (Sg.step s1) c1 (show 1=List.length ([kj]:List Int) from rfl) rfl e2 λa3 d3 H3 w3 s3 c3 x3=>?_
 obtain ⟨w4,s4⟩:=w3.pp [1,2,3,4] 5
 exact hC61 rfl rfl rfl ⟨w4,(s0.trans (s1.trans (s3.trans s4))),(dB.step (s1.trans (s3.trans s4))),(Sf.step (s1.trans (s3.trans s4))),(c3.step s4)⟩ hp
def aL.pj2 (F:Nat)  (bi:Yr) (aR:Int) (aS:Int) (ga:Int) (qT:Yr):Option ((List (Int×Int×Int×Int×Int))×Int×Int×Int):=(ah.p F ga qT).bind λr3=>(aJ.p F bi aR aS 3).bind λr10=>(bif (r10.1==0) then (some (r3.1,r3.2,r10.2.1,r10.2.2)) else ((aN.p F bi r10.2.1 r10.2.2 (wrap .i64 (2 * (r3.1.length:Int)))).bind λr15=>(aN.p F bi r15.2.1 r15.2.2 (r3.1.length:Int)).bind λr18=>(bC.p F r3.1 r3.2 r15.1 r18.1).bind λr24=>some (r24.1,r24.2,r18.2.1,r18.2.2)))
theorem aL.j2_P {bZ bK cp b_ bi}  {aR aS Sh ga Iz IA zF im zG IB IC ID IE IF qT} (fi:bK=bi.length) (Si:zF=ID.length) (Sk:zG=qT.length) (h0:Out H0 Ri H (Rs.blk cp [.sl ⟨bZ,bK,b_⟩,.i aR,.i aS]::Rs.own ⟨Iz,zF,IB⟩ (aa eI (aa eI (aa eI (aa eI eI)))).z IE::Rs.blk im [.sl ⟨Iz,zF,IB⟩,.i Sh]::Rs.own ⟨IA,zG,IC⟩ eI.z IF::R0) λR=>ROs (dk .u8) H R ⟨bZ,bK,b_⟩ bi/\CR (aa eI (aa eI (aa eI (aa eI eI)))) H R IE ID/\CR eI H R IF qT) {r:(List (Int×Int×Int×Int×Int))×Int×Int×Int} (hp:aL.pj2 F  bi aR aS ga qT=some r):Rt (aL.j2 F (aJ.tw F) (ah.tw F) (aN.tw F) (bC.tw F)  cp 0 im 0 ga ⟨IA,zG,IC⟩ H) (aL.Q H0 Ri R0 bZ bK cp b_ bi r):=by
 obtain ⟨w0,s0,dB,XX,Sm⟩:=h0
 subst fi
 subst Si
 subst Sk
 unfold aL.pj2 at hp
 unfold aL.j2
 obtain ⟨w1,s1⟩:=w0.pp [3,0,1,2] 4
 have f2:=W.borrow1 eI w1 (Sm.step s1)
 obtain ⟨w2,s2⟩:=w1.right1
 obtain ⟨r3,e3,hp⟩:=af hp
 refine aM (ah.P rfl ⟨w2,f2⟩ e3) ?_
 rintro _ H4 ⟨o0a_4,o0n_4,o0c_4,o0k_4,rfl,rfl,w4,s4,f4_0⟩
 obtain ⟨w5,s5⟩:=W.frame1 w1 w4 s4
 refine br (br (br (br (br ?_))))
 refine aY w5 λH6 w6 s6=>?_
 refine ak w6 0 λH7 w7 s7=>?_
 refine ak w7 0 λH8 w8 s8=>?_
 obtain ⟨w9,s9⟩:=w8.pp [3,0,1,2,4,5] 6
 obtain ⟨r10,e10,hp⟩:=af hp
 refine aM (aJ.P rfl ⟨w9,(dB.step (s1.trans (s5.trans (s6.trans (s7.trans (s8.trans s9))))))⟩ e10) ?_
 rintro _ H11 ⟨rfl,w11,s11,_⟩
 refine br ?_
 refine aB hp (λhp=>?_) λhp=>?_
 ·refine lSl w11 1 ?_
  refine lI w11 1 ?_
  refine ak w11 5 λH12 w12 s12=>?_
  refine ak w12 5 λH13 w13 s13=>?_
  refine lSl w13 5 ?_
  refine lI w13 5 ?_
  obtain ⟨w14,s14⟩:=w13.pp [3,0] 6
  exact aE hp ⟨_,_,_,_,rfl,rfl,w14,(s0.trans (s1.trans (s5.trans (s6.trans (s7.trans (s8.trans (s9.trans (s11.trans (s12.trans (s13.trans s14)))))))))),((CR.flat (dp (cv .i64) (dp (cv .i64) (dp (cv .i64) (dp (cv .i64) (cv .i64))))) f4_0).step (s6.trans (s7.trans (s8.trans (s9.trans (s11.trans (s12.trans (s13.trans s14))))))))⟩
 ·refine lSl w11 1 ?_
  obtain ⟨r15,e15,hp⟩:=af hp
  refine aM (aN.P rfl ⟨w11,(dB.step (s1.trans (s5.trans (s6.trans (s7.trans (s8.trans (s9.trans s11)))))))⟩ e15) ?_
  rintro _ H16 ⟨o0a_16,o0n_16,o0c_16,o0k_16,rfl,rfl,w16,s16,f16_0⟩
  refine br ?_
  refine lSl w16 2 ?_
  refine lI w16 2 ?_
  obtain ⟨w17,s17⟩:=w16.pp [1,0,2,3,4,5,6] 7
  obtain ⟨r18,e18,hp⟩:=af hp
  refine aM (aN.P rfl ⟨w17,(dB.step (s1.trans (s5.trans (s6.trans (s7.trans (s8.trans (s9.trans (s11.trans (s16.trans s17)))))))))⟩ e18) ?_
  rintro _ H19 ⟨o0a_19,o0n_19,o0c_19,o0k_19,rfl,rfl,w19,s19,f19_0⟩
  refine br ?_
  obtain ⟨w20,s20⟩:=w19.pp [5,2,0,1,3,4,6,7] 8
  have f21:=W.borrow1 (aa eI (aa eI (aa eI (aa eI eI)))) w20 ((CR.flat (dp (cv .i64) (dp (cv .i64) (dp (cv .i64) (dp (cv .i64) (cv .i64))))) f4_0).step (s6.trans (s7.trans (s8.trans (s9.trans (s11.trans (s16.trans (s17.trans (s19.trans s20)))))))))
  obtain ⟨w21,s21⟩:=w20.right1
  have f22:=W.borrow1 eI w21 ((f16_0.step (s17.trans (s19.trans s20))).step s21)
  obtain ⟨w22,s22⟩:=w21.right1
  have f23:=W.borrow1 eI w22 (((f19_0.step s20).step s21).step s22)
  obtain ⟨w23,s23⟩:=w22.right1
  obtain ⟨r24,e24,hp⟩:=af hp
  refine aM (bC.P rfl rfl rfl ⟨w23,((f21.step s22).step s23),(f22.step s23),f23⟩ e24) ?_
  rintro _ H25 ⟨o0a_25,o0n_25,o0c_25,o0k_25,rfl,rfl,w25,s25,f25_0⟩
  obtain ⟨w26,s26⟩:=W.frame1 w22 w25 s25
  obtain ⟨w27,s27⟩:=W.frame1 w21 w26 s26
  obtain ⟨w28,s28⟩:=W.frame1 w20 w27 s27
  refine br (br (br (br (br ?_))))
  refine ak w28 8 λH29 w29 s29=>?_
  refine ak w29 8 λH30 w30 s30=>?_
  refine WM ⟨⟨(kU (kV (w30.ld (i:=5) rfl rfl)) (kU (aC (w30.ld (i:=5) rfl rfl)) (wT _ _))),(kU (kV (w28.ld (i:=5) rfl rfl)) (kU (aC (w28.ld (i:=5) rfl rfl)) (wT _ _))),(kU (kV (w19.ld (i:=3) rfl rfl)) (kU (aC (w19.ld (i:=3) rfl rfl)) (wT _ _))),(kU (kV (w16.ld (i:=2) rfl rfl)) (kU (aC (w16.ld (i:=2) rfl rfl)) (wT _ _))),trivial⟩,trivial⟩ ?_
  refine lSl w30 8 ?_
  refine lI w30 8 ?_
  obtain ⟨w31,s31⟩:=w30.pp [3,4] 9
  dsimp only [pk,pks,nth,List.drop,List.set,List.eraseIdx] at w31 s1 s6 s7 s8 s9 s17 s20 s29 s30 s31
  exact aE hp ⟨_,_,_,_,rfl,rfl,w31,(s0.trans (s1.trans (s5.trans (s6.trans (s7.trans (s8.trans (s9.trans (s11.trans (s16.trans (s17.trans (s19.trans (s20.trans (s28.trans (s29.trans (s30.trans s31))))))))))))))),((CR.flat (dp (cv .i64) (dp (cv .i64) (dp (cv .i64) (dp (cv .i64) (cv .i64))))) f25_0).step (s29.trans (s30.trans s31)))⟩
def aL.pl61 (F:Nat) :Nat->List Int->Int->Int->Int->List Int->Int->Option ((List (Int×Int×Int×Int×Int))×Int×Int×Int)
 | 0,_,_,_,_,_,_=>none
 | k+1,bi,aR,aS,ct,jF,gk=>(bif (decide (gk>0)) then ((bif (decide (ct>1)) then ((aJ.p F bi aR aS (wrap .i64 (ct - 1))).bind λr1=>(aJ.p F bi r1.2.1 r1.2.2 3).bind λr3=>(bif (r3.1==0) then (aL.pj3 F (aL.pl61 F k) bi r3.2.1 r3.2.2 ct jF gk (wrap .i64 (0 - (wrap .i64 (1+r1.1))))) else (aL.pj3 F (aL.pl61 F k) bi r3.2.1 r3.2.2 ct jF gk (wrap .i64 (1+r1.1))))) else (aL.pj2 F bi aR aS ct jF))) else (aL.pj2 F bi aR aS ct jF))
theorem aL.l61_P {bZ bK cp b_ bi} :∀ k,aL.S61 H0 Ri R0 bZ bK cp b_ bi (aL.l61 F (aJ.tw F) (ah.tw F) (aN.tw F) (bC.tw F)  k) (aL.pl61 F  k):=by
 intro k
 induction k with
 | zero=>unfold aL.S61;intros;rename_i hp;cases hp
 | succ k ih=>
  intro aR aS Ir ct gk zu zw uZ dO u_ zx zy zA zB zC jF H fi Sn So h0 r hp
  obtain ⟨w0,s0,dB,vc,vd⟩:=h0
  subst fi
  subst Sn
  subst So
  unfold aL.pl61 at hp
  unfold aL.l61
  refine aB hp (λhp=>?_) λhp=>?_
  ·refine aB hp (λhp=>?_) λhp=>?_
   ·obtain ⟨r1,e1,hp⟩:=af hp
    refine aM (aJ.P rfl ⟨w0,dB⟩ e1) ?_
    rintro _ H2 ⟨rfl,w2,s2,_⟩
    refine br ?_
    obtain ⟨r3,e3,hp⟩:=af hp
    refine aM (aJ.P rfl ⟨w2,(dB.step s2)⟩ e3) ?_
    rintro _ H4 ⟨rfl,w4,s4,_⟩
    refine br ?_
    refine aB hp (λhp=>?_) λhp=>?_
    ·exact aL.j3_P (@ih) rfl rfl rfl ⟨w4,(s0.trans (s2.trans s4)),(dB.step (s2.trans s4)),(vc.step (s2.trans s4)),(vd.step (s2.trans s4))⟩ hp
    ·exact aL.j3_P (@ih) rfl rfl rfl ⟨w4,(s0.trans (s2.trans s4)),(dB.step (s2.trans s4)),(vc.step (s2.trans s4)),(vd.step (s2.trans s4))⟩ hp
   ·exact aL.j2_P rfl rfl rfl ⟨w0,s0,dB,vc,vd⟩ hp
  ·exact aL.j2_P rfl rfl rfl ⟨w0,s0,dB,vc,vd⟩ hp
def aL.p (F:Nat) (bO:Yr) (aR:Int) (aS:Int) (az:Int):Option ((List (Int×Int×Int×Int×Int))×Int×Int×Int):=(aJ.p F bO aR aS 3).bind λr3=>(aJ.p F bO r3.2.1 r3.2.2 (wrap .i64 (az+1))).bind λr7=>aL.pl61 F F bO r7.2.1 r7.2.2 (wrap .i64 (1+r3.1)) ([]:List Int) r7.1
theorem aL.P {cG cn ac cH bO aR aS az} (jA:cn=bO.length) (h0:Inn H (Rs.blk ac [.sl ⟨cG,cn,cH⟩,.i aR,.i aS]::R0) λR=>ROs (dk .u8) H R ⟨cG,cn,cH⟩ bO) {r:(List (Int×Int×Int×Int×Int))×Int×Int×Int} (hp:aL.p F bO aR aS az=some r):Rt (aL.tw F ac 0 az H) (aL.Q H (Rs.blk ac [.sl ⟨cG,cn,cH⟩,.i aR,.i aS]::R0) R0 cG cn ac cH bO r):=by
 obtain ⟨w0,dK⟩:=h0
 subst jA
 unfold aL.p at hp
 unfold aL.tw aL.twX
 have s0:=w0.rf
 refine aY w0 λH1 w1 s1=>?_
 obtain ⟨w2,s2⟩:=w1.pp [1,0] 2
 obtain ⟨r3,e3,hp⟩:=af hp
 refine aM (aJ.P rfl ⟨w2,(dK.step (s1.trans s2))⟩ e3) ?_
 rintro _ H4 ⟨rfl,w4,s4,_⟩
 refine br ?_
 refine dl eI w4 (n:=0) (l:=([]:List Int)) rfl CR.empty rfl λH5 w5 s5 c5=>?_
 obtain ⟨w6,s6⟩:=w5.pp [1,0,2] 3
 obtain ⟨r7,e7,hp⟩:=af hp
 refine aM (aJ.P rfl ⟨w6,(dK.step (s1.trans (s2.trans (s4.trans (s5.trans s6)))))⟩ e7) ?_
 rintro _ H8 ⟨rfl,w8,s8,_⟩
 refine br ?_
 obtain ⟨w9,s9⟩:=w8.nilS (aa eI (aa eI (aa eI (aa eI eI)))).z (by decide)
 obtain ⟨w10,s10⟩:=w9.pp [1,0,3,2] 4
 exact aL.l61_P F rfl rfl (show 0=List.length ([]:List Int) from rfl) ⟨w10,(s0.trans (s1.trans (s2.trans (s4.trans (s5.trans (s6.trans (s8.trans (s9.trans s10)))))))),(dK.step (s1.trans (s2.trans (s4.trans (s5.trans (s6.trans (s8.trans (s9.trans s10)))))))),((CR.empty:CR (aa eI (aa eI (aa eI (aa eI eI)))) _ _ [] []).step s10),(c5.step (s6.trans (s8.trans (s9.trans s10))))⟩ hp
def cB.Q (H0:Hp) (Ri R0:Ys)  (r:Bool) (v:AV) (H':Hp):Prop:=v=(.bool r)/\Out H0 Ri H' (R0) λR=>True
def cB.p (F:Nat) (ac:Int) (aI:Int) (cV:Int):Option (Bool):=(bif (decide (ac>=aI)) then (some (decide (ac<=cV))) else (some false))
theorem cB.P {ac aI cV}  (h0:Inn H R0 λR=>True) {r:Bool} (hp:cB.p F ac aI cV=some r):Rt (cB.tw F ac aI cV H) (cB.Q H R0 R0  r):=by
 obtain ⟨w0,_⟩:=h0
 unfold cB.p at hp
 unfold cB.tw cB.twX
 have s0:=w0.rf
 refine aB hp (λhp=>?_) λhp=>?_
 ·exact aE hp ⟨rfl,w0,s0,trivial⟩
 ·exact aE hp ⟨rfl,w0,s0,trivial⟩
def cq.Q (H0:Hp) (Ri R0:Ys)  (r:Bool) (v:AV) (H':Hp):Prop:=v=(.bool r)/\Out H0 Ri H' (R0) λR=>True
def cq.p (F:Nat) (bq:Int) (bM:Int):Option (Bool):=(bif (bM==0) then (some true) else ((bif (bM==3) then ((bif (bq==1) then (some true) else ((bif (bM==1) then (some (bq==(-1))) else (some false))))) else ((bif (bM==1) then (some (bq==(-1))) else (some false))))))
theorem cq.P {ac ag bx bz bq bM}  (h0:Inn H R0 λR=>True) {r:Bool} (hp:cq.p F bq bM=some r):Rt (cq.tw F ac ag bx bz bq bM H) (cq.Q H R0 R0  r):=by
 obtain ⟨w0,_⟩:=h0
 unfold cq.p at hp
 unfold cq.tw cq.twX
 have s0:=w0.rf
 refine aY w0 λH1 w1 s1=>?_
 refine aB hp (λhp=>?_) λhp=>?_
 ·obtain ⟨w2,s2⟩:=w1.pp [] 1
  exact aE hp ⟨rfl,w2,(s0.trans (s1.trans s2)),trivial⟩
 ·refine aB hp (λhp=>?_) λhp=>?_
  ·refine lI w1 0 ?_
   refine aB hp (λhp=>?_) λhp=>?_
   ·obtain ⟨w3,s3⟩:=w1.pp [] 1
    exact aE hp ⟨rfl,w3,(s0.trans (s1.trans s3)),trivial⟩
   ·refine aB hp (λhp=>?_) λhp=>?_
    ·refine lI w1 0 ?_
     obtain ⟨w4,s4⟩:=w1.pp [] 1
     exact aE hp ⟨rfl,w4,(s0.trans (s1.trans s4)),trivial⟩
    ·obtain ⟨w5,s5⟩:=w1.pp [] 1
     exact aE hp ⟨rfl,w5,(s0.trans (s1.trans s5)),trivial⟩
  ·refine aB hp (λhp=>?_) λhp=>?_
   ·refine lI w1 0 ?_
    obtain ⟨w6,s6⟩:=w1.pp [] 1
    exact aE hp ⟨rfl,w6,(s0.trans (s1.trans s6)),trivial⟩
   ·obtain ⟨w7,s7⟩:=w1.pp [] 1
    exact aE hp ⟨rfl,w7,(s0.trans (s1.trans s7)),trivial⟩
def aK.Q (H0:Hp) (Ri R0:Ys)  (r:Bool) (v:AV) (H':Hp):Prop:=v=(.bool r)/\Out H0 Ri H' (R0) λR=>True
def aK.S61 (H0:Hp) (Ri R0:Ys)  (C:Zm) (pC:Zv):Prop:=∀ {lX lY zH jG dA jH ve lZ l_ zI dc qU eZ fz eP ma mb zJ},∀ {H:Hp},jG=dc.length->jH=eP.length->ve=ma.length->(Out H0 Ri H (Rs.blk dA [.sl ⟨lX,jG,lZ⟩,.i qU]::Rs.own ⟨lY,jH,l_⟩ bI.z mb::Rs.own ⟨zH,ve,zI⟩ bI.z zJ::R0) λR=>ROs (aa eI (aa eI (aa eI (aa eI eI)))) H R ⟨lX,jG,lZ⟩ dc/\CR bI H R mb eP/\CR bI H R zJ ma)->∀ {r:Bool},pC dc eZ eP ma fz=some r->Rt (C dA 0 eZ ⟨lY,jH,l_⟩ ⟨zH,ve,zI⟩ fz H) (aK.Q H0 Ri R0  r)
def aK.S3927 (H0:Hp) (Ri R0:Ys)  (C:Nat->Nat->Int->Sl->Sl->Int->Nat->Nat->Int->Hp->OA) (pC:List (Int×Int×Int×Int×Int)->Int->List Bool->List Bool->Int->Int->Int->Int->Int->Int->Int->Option (Bool)):Prop:=∀ {zK zL zM vf jv vg vh eF zN zO zP kA IG fy eE mc md mf mg mh eY iU iV zQ zR},∀ {H:Hp},vf=kA.length->vg=iU.length->vh=iV.length->(Out H0 Ri H (Rs.blk jv [.sl ⟨zK,vf,zN⟩,.i IG]::Rs.own ⟨zL,vg,zO⟩ bI.z zQ::Rs.own ⟨zM,vh,zP⟩ bI.z zR::Rs.blk eF [.i mc,.i md,.i mf,.i mg,.i mh]::R0) λR=>ROs (aa eI (aa eI (aa eI (aa eI eI)))) H R ⟨zK,vf,zN⟩ kA/\CR bI H R zQ iU/\CR bI H R zR iV)->∀ {r:Bool},pC kA fy iU iV eE mc md mf mg mh eY=some r->Rt (C jv 0 fy ⟨zL,vg,zO⟩ ⟨zM,vh,zP⟩ eE eF 0 eY H) (aK.Q H0 Ri R0  r)
def aK.pl3927 (F:Nat) (aV:Zv):Nat->List (Int×Int×Int×Int×Int)->Int->List Bool->List Bool->Int->Int->Int->Int->Int->Int->Int->Option (Bool)
 | 0,_,_,_,_,_,_,_,_,_,_,_=>none
 | k+1,kA,fy,iU,iV,eE,mc,md,mf,mg,mh,eY=>(bif (decide (eY<4)) then ((bu.p F mc md mf mg eY).bind λr1=>(cB.p F r1 0 (wrap .i64 (fy - 1))).bind λr3=>(bif (!r3) then (some false) else ((cq.p F mh eY).bind λr6=>(bif r6 then ((ix iU r1).bind λn8=>(bif (gt iU n8) then (some false) else ((ix iU r1).bind λn10=>(some (iU.set n10 true)).bind λl11=>aK.pl3927 F aV k kA fy l11 iV eE mc md mf mg mh (wrap .i64 (eY+1))))) else ((ix iV r1).bind λn13=>(bif (gt iV n13) then (some false) else ((ix iV r1).bind λn15=>(some (iV.set n15 true)).bind λl16=>aK.pl3927 F aV k kA fy iU l16 eE mc md mf mg mh (wrap .i64 (eY+1))))))))) else (aV kA fy iU iV (wrap .i64 (eE+1))))
theorem aK.l3927_P  {C61_:Zm} {aV:Zv} (hC61:aK.S61 H0 Ri R0  C61_ aV):∀ k,aK.S3927 H0 Ri R0  (aK.l3927 F (bu.tw F) (cB.tw F) (cq.tw F) C61_ k) (aK.pl3927 F aV k):=by
 intro k
 induction k with
 | zero=>unfold aK.S3927;intros;rename_i hp;cases hp
 | succ k ih=>
  intro zK zL zM vf jv vg vh eF zN zO zP kA IG fy eE mc md mf mg mh eY iU iV zQ zR H Sp Sq Sr h0 r hp
  obtain ⟨w0,s0,zS,qV,qW⟩:=h0
  subst Sp
  subst Sq
  subst Sr
  unfold aK.pl3927 at hp
  unfold aK.l3927
  refine aB hp (λhp=>?_) λhp=>?_
  ·refine lI w0 3 ?_
   refine lI w0 3 ?_
   refine lI w0 3 ?_
   refine lI w0 3 ?_
   refine lI w0 3 ?_
   obtain ⟨r1,e1,hp⟩:=af hp
   refine aM (bu.P ⟨w0,trivial⟩ e1) ?_
   rintro _ H2 ⟨rfl,w2,s2,_⟩
   refine br ?_
   obtain ⟨r3,e3,hp⟩:=af hp
   refine aM (cB.P ⟨w2,trivial⟩ e3) ?_
   rintro _ H4 ⟨rfl,w4,s4,_⟩
   refine br ?_
   refine aB hp (λhp=>?_) λhp=>?_
   ·obtain ⟨w5,s5⟩:=w4.pp [] 4
    exact aE hp ⟨rfl,w5,(s0.trans (s2.trans (s4.trans s5))),trivial⟩
   ·refine lI w4 3 ?_
    refine lI w4 3 ?_
    refine lI w4 3 ?_
    refine lI w4 3 ?_
    refine lI w4 3 ?_
    obtain ⟨r6,e6,hp⟩:=af hp
    refine aM (cq.P ⟨w4,trivial⟩ e6) ?_
    rintro _ H7 ⟨rfl,w7,s7,_⟩
    refine br ?_
    refine aB hp (λhp=>?_) λhp=>?_
    ·obtain ⟨n8,g8,hp⟩:=af hp
     obtain ⟨p8,q8,i8,h8,j8⟩:=W.ixo (E:=bI) w7 (i:=1) rfl rfl (qV.step (s2.trans (s4.trans s7))) g8
     refine aj i8 ?_
     have h8:_=[_]:=h8
     subst h8
     refine aj (mL (j8 0 _ rfl)) ?_
     refine aB hp (λhp=>?_) λhp=>?_
     ·obtain ⟨w9,s9⟩:=w7.pp [] 4
      exact aE hp ⟨rfl,w9,(s0.trans (s2.trans (s4.trans (s7.trans s9)))),trivial⟩
     ·obtain ⟨n10,g10,hp⟩:=af hp
      obtain ⟨p10,q10,i10,h10,j10⟩:=W.ixo (E:=bI) w7 (i:=1) rfl rfl (qV.step (s2.trans (s4.trans s7))) g10
      refine aj i10 ?_
      obtain ⟨l11,e11,hp⟩:=af hp
      refine bV bI w7 (i:=1) (j:=0) (p:=p10) rfl rfl (qV.step (s2.trans (s4.trans s7))) g10 i10 e11 rfl rfl (λ_ h=>by have h:_=[_]:=h;subst h;exact rfl) λH12 k12 w12 s12 c12=>?_
      exact ih rfl ((aT e11).symm) rfl ⟨w12,(s0.trans (s2.trans (s4.trans (s7.trans s12)))),(zS.step (s2.trans (s4.trans (s7.trans s12)))),c12,(qW.step (s2.trans (s4.trans (s7.trans s12))))⟩ hp
    ·obtain ⟨n13,g13,hp⟩:=af hp
     obtain ⟨p13,q13,i13,h13,j13⟩:=W.ixo (E:=bI) w7 (i:=2) rfl rfl (qW.step (s2.trans (s4.trans s7))) g13
     refine aj i13 ?_
     have h13:_=[_]:=h13
     subst h13
     refine aj (mL (j13 0 _ rfl)) ?_
     refine aB hp (λhp=>?_) λhp=>?_
     ·obtain ⟨w14,s14⟩:=w7.pp [] 4
      exact aE hp ⟨rfl,w14,(s0.trans (s2.trans (s4.trans (s7.trans s14)))),trivial⟩
     ·obtain ⟨n15,g15,hp⟩:=af hp
      obtain ⟨p15,q15,i15,h15,j15⟩:=W.ixo (E:=bI) w7 (i:=2) rfl rfl (qW.step (s2.trans (s4.trans s7))) g15
      refine aj i15 ?_
      obtain ⟨l16,e16,hp⟩:=af hp
      refine bV bI w7 (i:=2) (j:=0) (p:=p15) rfl rfl (qW.step (s2.trans (s4.trans s7))) g15 i15 e16 rfl rfl (λ_ h=>by have h:_=[_]:=h;subst h;exact rfl) λH17 k17 w17 s17 c17=>?_
      exact ih rfl rfl ((aT e16).symm) ⟨w17,(s0.trans (s2.trans (s4.trans (s7.trans s17)))),(zS.step (s2.trans (s4.trans (s7.trans s17)))),(qV.step (s2.trans (s4.trans (s7.trans s17)))),c17⟩ hp
  ·obtain ⟨w18,s18⟩:=w0.pp [0,1,2] 4
   exact hC61 rfl rfl rfl ⟨w18,(s0.trans s18),(zS.step s18),(qV.step s18),(qW.step s18)⟩ hp
def aK.pl61 (F:Nat) :Nat->List (Int×Int×Int×Int×Int)->Int->List Bool->List Bool->Int->Option (Bool)
 | 0,_,_,_,_,_=>none
 | k+1,dc,eZ,eP,ma,fz=>(bif (decide (fz<(dc.length:Int))) then ((ix dc fz).bind λn1=>(bif (((gt dc n1).2.2.2.2) != 1) then ((bif (((gt dc n1).2.2.2.2) != (-1)) then (some false) else (aK.pl3927 F (aK.pl61 F k) F dc eZ eP ma fz ((gt dc n1).1) ((gt dc n1).2.1) ((gt dc n1).2.2.1) ((gt dc n1).2.2.2.1) ((gt dc n1).2.2.2.2) 0))) else (aK.pl3927 F (aK.pl61 F k) F dc eZ eP ma fz ((gt dc n1).1) ((gt dc n1).2.1) ((gt dc n1).2.2.1) ((gt dc n1).2.2.2.1) ((gt dc n1).2.2.2.2) 0))) else (some true))
theorem aK.l61_P  :∀ k,aK.S61 H0 Ri R0  (aK.l61 F (bu.tw F) (cB.tw F) (cq.tw F)  k) (aK.pl61 F  k):=by
 intro k
 induction k with
 | zero=>unfold aK.S61;intros;rename_i hp;cases hp
 | succ k ih=>
  intro lX lY zH jG dA jH ve lZ l_ zI dc qU eZ fz eP ma mb zJ H zT zU Ss h0 r hp
  obtain ⟨w0,s0,pj,pm,IH⟩:=h0
  subst zT
  subst zU
  subst Ss
  unfold aK.pl61 at hp
  unfold aK.l61
  refine lSl w0 0 ?_
  refine aB hp (λhp=>?_) λhp=>?_
  ·refine lSl w0 0 ?_
   obtain ⟨n1,g1,hp⟩:=af hp
   obtain ⟨p1,q1,i1,h1,j1⟩:=ROs.ixr pj rfl g1
   refine aj i1 ?_
   obtain ⟨_,_,rfl,rfl,_,_,rfl,rfl,_,_,rfl,rfl,_,_,rfl,rfl,rfl⟩:=h1
   refine aj (aC (j1 0 _ rfl)) ?_
   refine aj (aC (j1 1 _ rfl)) ?_
   refine aj (aC (j1 2 _ rfl)) ?_
   refine aj (aC (j1 3 _ rfl)) ?_
   refine aj (aC (j1 4 _ rfl)) ?_
   refine aY w0 λH2 w2 s2=>?_
   refine ak w2 0 λH3 w3 s3=>?_
   refine ak w3 0 λH4 w4 s4=>?_
   refine ak w4 0 λH5 w5 s5=>?_
   refine ak w5 0 λH6 w6 s6=>?_
   refine ak w6 0 λH7 w7 s7=>?_
   refine lI w7 0 ?_
   refine aB hp (λhp=>?_) λhp=>?_
   ·refine lI w7 0 ?_
    refine aB hp (λhp=>?_) λhp=>?_
    ·obtain ⟨w8,s8⟩:=w7.pp [] 4
     exact aE hp ⟨rfl,w8,(s0.trans (s2.trans (s3.trans (s4.trans (s5.trans (s6.trans (s7.trans s8))))))),trivial⟩
    ·obtain ⟨w9,s9⟩:=w7.pp [1,2,3,0] 4
     exact aK.l3927_P (@ih) F rfl rfl rfl ⟨w9,(s0.trans (s2.trans (s3.trans (s4.trans (s5.trans (s6.trans (s7.trans s9))))))),(pj.step (s2.trans (s3.trans (s4.trans (s5.trans (s6.trans (s7.trans s9))))))),(pm.step (s2.trans (s3.trans (s4.trans (s5.trans (s6.trans (s7.trans s9))))))),(IH.step (s2.trans (s3.trans (s4.trans (s5.trans (s6.trans (s7.trans s9)))))))⟩ hp
   ·obtain ⟨w10,s10⟩:=w7.pp [1,2,3,0] 4
    exact aK.l3927_P (@ih) F rfl rfl rfl ⟨w10,(s0.trans (s2.trans (s3.trans (s4.trans (s5.trans (s6.trans (s7.trans s10))))))),(pj.step (s2.trans (s3.trans (s4.trans (s5.trans (s6.trans (s7.trans s10))))))),(pm.step (s2.trans (s3.trans (s4.trans (s5.trans (s6.trans (s7.trans s10))))))),(IH.step (s2.trans (s3.trans (s4.trans (s5.trans (s6.trans (s7.trans s10)))))))⟩ hp
  ·obtain ⟨w11,s11⟩:=w0.pp [] 3
   exact aE hp ⟨rfl,w11,(s0.trans s11),trivial⟩
def aK.p (F:Nat) (ai:Yx):Option (Bool):=(mkn (wrap .i64 (2 * (ai.length:Int))) false).bind λl2=>(mkn (wrap .i64 (2 * (ai.length:Int))) false).bind λl4=>aK.pl61 F F ai (wrap .i64 (2 * (ai.length:Int))) l2 l4 0
theorem aK.P {aG ay aH ai ag} (bg:ay=ai.length) (h0:Inn H R0 λR=>ROs (aa eI (aa eI (aa eI (aa eI eI)))) H R ⟨aG,ay,aH⟩ ai) {r:Bool} (hp:aK.p F ai=some r):Rt (aK.tw F ⟨aG,ay,aH⟩ ag H) (aK.Q H R0 R0  r):=by
 obtain ⟨w0,aU⟩:=h0
 subst bg
 unfold aK.p at hp
 unfold aK.tw aK.twX
 have s0:=w0.rf
 refine aY w0 λH1 w1 s1=>?_
 refine lSl w1 0 ?_
 obtain ⟨l2,e2,hp⟩:=af hp
 refine jN bI false w1 rfl rfl rfl e2 λH3 k3 w3 s3 c3=>?_
 obtain ⟨l4,e4,hp⟩:=af hp
 refine jN bI false w3 rfl rfl rfl e4 λH5 k5 w5 s5 c5=>?_
 obtain ⟨w6,s6⟩:=w5.pp [2,1,0] 3
 exact aK.l61_P F rfl rfl rfl ⟨w6,(s0.trans (s1.trans (s3.trans (s5.trans s6)))),(aU.step (s1.trans (s3.trans (s5.trans s6)))),(c3.step (s5.trans s6)),(c5.step s6)⟩ hp
def ax.Q (H0:Hp) (Ri R0:Ys)  (r:YL) (v:AV) (H':Hp):Prop:=v=(.tup [(.i r.1),(.i r.2)])/\Out H0 Ri H' (R0) λR=>True
def ax.S13 (H0:Hp) (Ri R0:Ys)  (C:Y_) (pC:Zc):Prop:=∀ {fC II iq jw zV vi gm zW mi},∀ {H:Hp},vi=mi.length->(Out H0 Ri H (Rs.blk gm [.sl ⟨zV,vi,zW⟩,.i II]::R0) λR=>ROs (aa eI (aa eI (aa eI (aa eI eI)))) H R ⟨zV,vi,zW⟩ mi)->∀ {r:YL},pC fC jw mi iq=some r->Rt (C fC jw gm 0 iq H) (ax.Q H0 Ri R0  r)
def ax.S213 (H0:Hp) (Ri R0:Ys)  (C:Int->Bool->Nat->Nat->Int->Int->Hp->OA) (pC:Int->Bool->List (Int×Int×Int×Int×Int)->Int->Int->Option (Int×Int)):Prop:=∀ {fA IJ eg eo fB zX vj ip zY fM},∀ {H:Hp},vj=fM.length->(Out H0 Ri H (Rs.blk ip [.sl ⟨zX,vj,zY⟩,.i IJ]::R0) λR=>ROs (aa eI (aa eI (aa eI (aa eI eI)))) H R ⟨zX,vj,zY⟩ fM)->∀ {r:YL},pC fA fB fM eg eo=some r->Rt (C fA fB ip 0 eg eo H) (ax.Q H0 Ri R0  r)
def ax.pj3 (F:Nat) (fp:Zc) (ko:Int) (nE:Bool) (qX:Yx) (nG:Int):Option (Int×Int):=fp ko nE qX (wrap .i64 (nG+1))
theorem ax.j3_P  {C13_:Y_} {fp:Zc} (hC13:ax.S13 H0 Ri R0  C13_ fp) {ko Su nG nE IK zZ nF IL qX} (Sv:zZ=qX.length) (h0:Out H0 Ri H (Rs.blk nF [.sl ⟨IK,zZ,IL⟩,.i Su]::R0) λR=>ROs (aa eI (aa eI (aa eI (aa eI eI)))) H R ⟨IK,zZ,IL⟩ qX) {r:YL} (hp:ax.pj3 F fp ko nE qX nG=some r):Rt (ax.j3 F (bu.tw F) (cq.tw F) C13_ ko nE nF 0 nG H) (ax.Q H0 Ri R0  r):=by
 obtain ⟨w0,s0,Sw⟩:=h0
 subst Sv
 unfold ax.pj3 at hp
 unfold ax.j3
 exact hC13 rfl ⟨w0,s0,Sw⟩ hp
def ax.pj4 (F:Nat) (fp:Zc) (nH:Int) (nI:Bool) (qY:Yx) (gl:Int):Option (Int×Int):=ax.pj3 F fp nH nI qY gl
theorem ax.j4_P  {C13_:Y_} {fp:Zc} (hC13:ax.S13 H0 Ri R0  C13_ fp) {nH Sx gl nI IM z_ tJ IN qY} (Sy:z_=qY.length) (h0:Out H0 Ri H (Rs.blk tJ [.sl ⟨IM,z_,IN⟩,.i Sx]::R0) λR=>ROs (aa eI (aa eI (aa eI (aa eI eI)))) H R ⟨IM,z_,IN⟩ qY) {r:YL} (hp:ax.pj4 F fp nH nI qY gl=some r):Rt (ax.j4 F (bu.tw F) (cq.tw F) C13_ nH nI tJ 0 gl H) (ax.Q H0 Ri R0  r):=by
 obtain ⟨w0,s0,Sz⟩:=h0
 subst Sy
 unfold ax.pj4 at hp
 unfold ax.j4
 exact ax.j3_P (@hC13) rfl ⟨w0,s0,Sz⟩ hp
def ax.pl213 (F:Nat) (fp:Zc):Nat->Int->Bool->List (Int×Int×Int×Int×Int)->Int->Int->Option (Int×Int)
 | 0,_,_,_,_,_=>none
 | k+1,fA,fB,fM,eg,eo=>(bif (decide (eo<4)) then ((ix fM eg).bind λn1=>(bu.p F ((gt fM n1).1) ((gt fM n1).2.1) ((gt fM n1).2.2.1) ((gt fM n1).2.2.2.1) eo).bind λr2=>(bif (r2==fA) then ((ix fM eg).bind λn4=>(cq.p F ((gt fM n4).2.2.2.2) eo).bind λr5=>(bif (r5==fB) then (some (eg,eo)) else (ax.pl213 F fp k fA fB fM eg (wrap .i64 (eo+1))))) else (ax.pl213 F fp k fA fB fM eg (wrap .i64 (eo+1))))) else (ax.pj4 F fp fA fB fM eg))
theorem ax.l213_P  {C13_:Y_} {fp:Zc} (hC13:ax.S13 H0 Ri R0  C13_ fp):∀ k,ax.S213 H0 Ri R0  (ax.l213 F (bu.tw F) (cq.tw F) C13_ k) (ax.pl213 F fp k):=by
 intro k
 induction k with
 | zero=>unfold ax.S213;intros;rename_i hp;cases hp
 | succ k ih=>
  intro fA IJ eg eo fB zX vj ip zY fM H SA h0 r hp
  obtain ⟨w0,s0,qZ⟩:=h0
  subst SA
  unfold ax.pl213 at hp
  unfold ax.l213
  refine aB hp (λhp=>?_) λhp=>?_
  ·refine lSl w0 0 ?_
   obtain ⟨n1,g1,hp⟩:=af hp
   obtain ⟨p1,q1,i1,h1,j1⟩:=ROs.ixr qZ rfl g1
   refine aj i1 ?_
   obtain ⟨_,_,rfl,rfl,_,_,rfl,rfl,_,_,rfl,rfl,_,_,rfl,rfl,rfl⟩:=h1
   refine aj (aC (j1 0 _ rfl)) ?_
   refine aj (aC (j1 1 _ rfl)) ?_
   refine aj (aC (j1 2 _ rfl)) ?_
   refine aj (aC (j1 3 _ rfl)) ?_
   refine aj (aC (j1 4 _ rfl)) ?_
   obtain ⟨r2,e2,hp⟩:=af hp
   refine aM (bu.P ⟨w0,trivial⟩ e2) ?_
   rintro _ H3 ⟨rfl,w3,s3,_⟩
   refine br ?_
   refine aB hp (λhp=>?_) λhp=>?_
   ·refine lSl w3 0 ?_
    obtain ⟨n4,g4,hp⟩:=af hp
    obtain ⟨p4,q4,i4,h4,j4⟩:=ROs.ixr (qZ.step s3) rfl g4
    refine aj i4 ?_
    obtain ⟨_,_,rfl,rfl,_,_,rfl,rfl,_,_,rfl,rfl,_,_,rfl,rfl,rfl⟩:=h4
    refine aj (aC (j4 0 _ rfl)) ?_
    refine aj (aC (j4 1 _ rfl)) ?_
    refine aj (aC (j4 2 _ rfl)) ?_
    refine aj (aC (j4 3 _ rfl)) ?_
    refine aj (aC (j4 4 _ rfl)) ?_
    obtain ⟨r5,e5,hp⟩:=af hp
    refine aM (cq.P ⟨w3,trivial⟩ e5) ?_
    rintro _ H6 ⟨rfl,w6,s6,_⟩
    refine br ?_
    refine aB hp (λhp=>?_) λhp=>?_
    ·obtain ⟨w7,s7⟩:=w6.pp [] 1
     exact aE hp ⟨rfl,w7,(s0.trans (s3.trans (s6.trans s7))),trivial⟩
    ·exact ih rfl ⟨w6,(s0.trans (s3.trans s6)),(qZ.step (s3.trans s6))⟩ hp
   ·exact ih rfl ⟨w3,(s0.trans s3),(qZ.step s3)⟩ hp
  ·exact ax.j4_P (@hC13) rfl ⟨w0,s0,qZ⟩ hp
def ax.pl13 (F:Nat) :Nat->Int->Bool->List (Int×Int×Int×Int×Int)->Int->Option (Int×Int)
 | 0,_,_,_,_=>none
 | k+1,fC,jw,mi,iq=>(bif (decide (iq<(mi.length:Int))) then (ax.pl213 F (ax.pl13 F k) F fC jw mi iq 0) else (some ((-1),(-1))))
theorem ax.l13_P  :∀ k,ax.S13 H0 Ri R0  (ax.l13 F (bu.tw F) (cq.tw F)  k) (ax.pl13 F  k):=by
 intro k
 induction k with
 | zero=>unfold ax.S13;intros;rename_i hp;cases hp
 | succ k ih=>
  intro fC II iq jw zV vi gm zW mi H SB h0 r hp
  obtain ⟨w0,s0,SC⟩:=h0
  subst SB
  unfold ax.pl13 at hp
  unfold ax.l13
  refine lSl w0 0 ?_
  refine aB hp (λhp=>?_) λhp=>?_
  ·exact ax.l213_P (@ih) F rfl ⟨w0,s0,SC⟩ hp
  ·obtain ⟨w1,s1⟩:=w0.pp [] 1
   exact aE hp ⟨rfl,w1,(s0.trans s1),trivial⟩
def ax.p (F:Nat) (ai:Yx) (az:Int) (cP:Bool):Option (Int×Int):=ax.pl13 F F az cP ai 0
theorem ax.P {aG ay aH ai ag az cP} (bg:ay=ai.length) (h0:Inn H R0 λR=>ROs (aa eI (aa eI (aa eI (aa eI eI)))) H R ⟨aG,ay,aH⟩ ai) {r:YL} (hp:ax.p F ai az cP=some r):Rt (ax.tw F ⟨aG,ay,aH⟩ ag az cP H) (ax.Q H R0 R0  r):=by
 obtain ⟨w0,aU⟩:=h0
 subst bg
 unfold ax.p at hp
 unfold ax.tw ax.twX
 have s0:=w0.rf
 refine aY w0 λH1 w1 s1=>?_
 exact ax.l13_P F rfl ⟨w1,(s0.trans s1),(aU.step s1)⟩ hp
def cC.Q (H0:Hp) (Ri R0:Ys)  (r:Int) (v:AV) (H':Hp):Prop:=v=(.i r)/\Out H0 Ri H' (R0) λR=>True
def cC.p (F:Nat) (ai:Yx) (az:Int):Option (Int):=(ix ai (wrap .i64 (Int.tdiv az 4))).bind λn2=>(bu.p F ((gt ai n2).1) ((gt ai n2).2.1) ((gt ai n2).2.2.1) ((gt ai n2).2.2.2.1) (Int.tmod (wrap .i64 ((Int.tmod az 4)+1)) 4)).bind λr9=>(cq.p F ((gt ai n2).2.2.2.2) (Int.tmod (wrap .i64 ((Int.tmod az 4)+1)) 4)).bind λr12=>(ax.p F ai r9 (!r12)).bind λr15=>some (wrap .i64 ((wrap .i64 (4 * r15.1))+r15.2))
theorem cC.P {aG ay aH ai ag az} (bg:ay=ai.length) (h0:Inn H R0 λR=>ROs (aa eI (aa eI (aa eI (aa eI eI)))) H R ⟨aG,ay,aH⟩ ai) {r:Int} (hp:cC.p F ai az=some r):Rt (cC.tw F ⟨aG,ay,aH⟩ ag az H) (cC.Q H R0 R0  r):=by
 obtain ⟨w0,aU⟩:=h0
 subst bg
 unfold cC.p at hp
 unfold cC.tw cC.twX
 have s0:=w0.rf
 refine aY w0 λH1 w1 s1=>?_
 refine lSl w1 0 ?_
 obtain ⟨n2,g2,hp⟩:=af hp
 obtain ⟨p2,q2,i2,h2,j2⟩:=ROs.ixr (aU.step s1) rfl g2
 refine aj i2 ?_
 obtain ⟨_,_,rfl,rfl,_,_,rfl,rfl,_,_,rfl,rfl,_,_,rfl,rfl,rfl⟩:=h2
 refine aj (aC (j2 0 _ rfl)) ?_
 refine aj (aC (j2 1 _ rfl)) ?_
 refine aj (aC (j2 2 _ rfl)) ?_
 refine aj (aC (j2 3 _ rfl)) ?_
 refine aj (aC (j2 4 _ rfl)) ?_
 refine aY w1 λH3 w3 s3=>?_
 refine ak w3 0 λH4 w4 s4=>?_
 refine ak w4 0 λH5 w5 s5=>?_
 refine ak w5 0 λH6 w6 s6=>?_
 refine ak w6 0 λH7 w7 s7=>?_
 refine ak w7 0 λH8 w8 s8=>?_
 refine lSl w8 1 ?_
 refine lI w8 1 ?_
 refine lI w8 0 ?_
 refine lI w8 0 ?_
 refine lI w8 0 ?_
 refine lI w8 0 ?_
 refine lI w8 0 ?_
 obtain ⟨r9,e9,hp⟩:=af hp
 refine aM (bu.P ⟨w8,trivial⟩ e9) ?_
 rintro _ H10 ⟨rfl,w10,s10,_⟩
 refine br ?_
 refine fZ (W.cons_of (Rn:=[]) w8 w10 s10) ?_
 refine lI w10 0 ?_
 refine lI w10 0 ?_
 refine lI w10 0 ?_
 refine lI w10 0 ?_
 refine lI w10 0 ?_
 obtain ⟨r12,e12,hp⟩:=af hp
 refine aM (cq.P ⟨w10,trivial⟩ e12) ?_
 rintro _ H13 ⟨rfl,w13,s13,_⟩
 refine br ?_
 refine fZ (W.cons_of (Rn:=[]) w10 w13 s13) ?_
 obtain ⟨r15,e15,hp⟩:=af hp
 refine aM (ax.P rfl ⟨w13,(aU.step (s1.trans (s3.trans (s4.trans (s5.trans (s6.trans (s7.trans (s8.trans (s10.trans s13)))))))))⟩ e15) ?_
 rintro _ H16 ⟨rfl,w16,s16,_⟩
 refine br (br (br (br (br ?_))))
 obtain ⟨w17,s17⟩:=w16.pp [] 2
 exact aE hp ⟨rfl,w17,(s0.trans (s1.trans (s3.trans (s4.trans (s5.trans (s6.trans (s7.trans (s8.trans (s10.trans (s13.trans (s16.trans s17))))))))))),trivial⟩
def aD.Q (H0:Hp) (Ri R0:Ys)  (r:YD) (v:AV) (H':Hp):Prop:=∃ o0a:ON,∃ o0n:Nat,∃ o0c:Cap,∃ o0k:List AV,v=(.sl ⟨o0a,o0n,o0c⟩)/\o0n=(r).length/\Out H0 Ri H' (Rs.own ⟨o0a,o0n,o0c⟩ (eSl eI).z o0k::R0) λR=>CR (eSl eI) H' R o0k (r)
def aD.S61 (H0:Hp) (Ri R0:Ys)  (C:YQ) (pC:YT):Prop:=∀ {lX Aa lY jG dA vk jH lZ Ab l_ dc qU dP kB Ac mb eP},∀ {H:Hp},jG=dc.length->vk=kB.length->jH=eP.length->(Out H0 Ri H (Rs.blk dA [.sl ⟨lX,jG,lZ⟩,.i qU]::Rs.own ⟨Aa,vk,Ab⟩ (eSl eI).z Ac::Rs.own ⟨lY,jH,l_⟩ bI.z mb::R0) λR=>ROs (aa eI (aa eI (aa eI (aa eI eI)))) H R ⟨lX,jG,lZ⟩ dc/\CR (eSl eI) H R Ac kB/\CR bI H R mb eP)->∀ {r:YD},pC dc kB eP dP=some r->Rt (C dA 0 ⟨Aa,vk,Ab⟩ ⟨lY,jH,l_⟩ dP H) (aD.Q H0 Ri R0  r)
def aD.pj4 (F:Nat) (aV:YT) (q_:Yx) (ra:YD) (rb:Zd) (nJ:Int):Option (List (List Int)):=aV q_ ra rb (wrap .i64 (nJ+1))
theorem aD.j4_P  {C61_:YQ} {aV:YT} (hC61:aD.S61 H0 Ri R0  C61_ aV) {IP IQ IR Ad tK Ae Af IS IT IU q_ SD nJ ra IV IW rb} (SF:Ad=q_.length) (SG:Ae=ra.length) (SH:Af=rb.length) (h0:Out H0 Ri H (Rs.blk tK [.sl ⟨IP,Ad,IS⟩,.i SD]::Rs.own ⟨IQ,Ae,IT⟩ (eSl eI).z IV::Rs.own ⟨IR,Af,IU⟩ bI.z IW::R0) λR=>ROs (aa eI (aa eI (aa eI (aa eI eI)))) H R ⟨IP,Ad,IS⟩ q_/\CR (eSl eI) H R IV ra/\CR bI H R IW rb) {r:YD} (hp:aD.pj4 F aV q_ ra rb nJ=some r):Rt (aD.j4 F (cC.tw F) C61_ tK 0 ⟨IQ,Ae,IT⟩ ⟨IR,Af,IU⟩ nJ H) (aD.Q H0 Ri R0  r):=by
 obtain ⟨w0,s0,SI,SJ,SK⟩:=h0
 subst SF
 subst SG
 subst SH
 unfold aD.pj4 at hp
 unfold aD.j4
 exact hC61 rfl rfl rfl ⟨w0,s0,SI,SJ,SK⟩ hp
def aD.S7853 (H0:Hp) (Ri R0:Ys)  (C:Nat->Nat->Sl->Sl->Int->Sl->Int->Hp->OA) (pC:List (Int×Int×Int×Int×Int)->List (List Int)->List Bool->Int->List Int->Int->Option (List (List Int))):Prop:=∀ {Ag Ah Ai Aj vl i_ vm vn vo Ak Al Am An kC IX ir e_ mj Ao Ap Aq jd ml},∀ {H:Hp},vl=kC.length->vm=mj.length->vn=jd.length->vo=ml.length->(Out H0 Ri H (Rs.blk i_ [.sl ⟨Ag,vl,Ak⟩,.i IX]::Rs.own ⟨Ah,vm,Al⟩ (eSl eI).z Ao::Rs.own ⟨Ai,vn,Am⟩ bI.z Ap::Rs.own ⟨Aj,vo,An⟩ eI.z Aq::R0) λR=>ROs (aa eI (aa eI (aa eI (aa eI eI)))) H R ⟨Ag,vl,Ak⟩ kC/\CR (eSl eI) H R Ao mj/\CR bI H R Ap jd/\CR eI H R Aq ml)->∀ {r:YD},pC kC mj jd ir ml e_=some r->Rt (C i_ 0 ⟨Ah,vm,Al⟩ ⟨Ai,vn,Am⟩ ir ⟨Aj,vo,An⟩ e_ H) (aD.Q H0 Ri R0  r)
def aD.pj5 (F:Nat) (aV:YT) (rc:Yx) (rh:YD) (ri:Zd) (nK:Int):Option (List (List Int)):=aV rc rh ri (wrap .i64 (nK+1))
theorem aD.j5_P  {C61_:YQ} {aV:YT} (hC61:aD.S61 H0 Ri R0  C61_ aV) {IY IZ I_ Ar tL As Au Ja Jb Jc rc SL nK rh Jd Je ri} (SM:Ar=rc.length) (SN:As=rh.length) (SO:Au=ri.length) (h0:Out H0 Ri H (Rs.blk tL [.sl ⟨IY,Ar,Ja⟩,.i SL]::Rs.own ⟨IZ,As,Jb⟩ (eSl eI).z Jd::Rs.own ⟨I_,Au,Jc⟩ bI.z Je::R0) λR=>ROs (aa eI (aa eI (aa eI (aa eI eI)))) H R ⟨IY,Ar,Ja⟩ rc/\CR (eSl eI) H R Jd rh/\CR bI H R Je ri) {r:YD} (hp:aD.pj5 F aV rc rh ri nK=some r):Rt (aD.j5 F (cC.tw F) C61_ tL 0 ⟨IZ,As,Jb⟩ ⟨I_,Au,Jc⟩ nK H) (aD.Q H0 Ri R0  r):=by
 obtain ⟨w0,s0,SP,SQ,SS⟩:=h0
 subst SM
 subst SN
 subst SO
 unfold aD.pj5 at hp
 unfold aD.j5
 exact hC61 rfl rfl rfl ⟨w0,s0,SP,SQ,SS⟩ hp
def aD.pj6 (F:Nat) (aV:YT) (rj:Yx) (rl:YD) (rm:Zd) (nL:Int) (mm:Yr):Option (List (List Int)):=(apn rl ([mm]:List (List Int))).bind λl3=>aD.pj5 F aV rj l3 rm nL
theorem aD.j6_P  {C61_:YQ} {aV:YT} (hC61:aD.S61 H0 Ri R0  C61_ aV) {Jf Jg Jh Ji Av tM Aw Ax Ay Jj Jk Jl Jm rj SU nL rl Jn Jo Jp rm mm} (SV:Av=rj.length) (SW:Aw=rl.length) (SX:Ax=rm.length) (SY:Ay=mm.length) (h0:Out H0 Ri H (Rs.blk tM [.sl ⟨Jf,Av,Jj⟩,.i SU]::Rs.own ⟨Jg,Aw,Jk⟩ (eSl eI).z Jn::Rs.own ⟨Jh,Ax,Jl⟩ bI.z Jo::Rs.own ⟨Ji,Ay,Jm⟩ eI.z Jp::R0) λR=>ROs (aa eI (aa eI (aa eI (aa eI eI)))) H R ⟨Jf,Av,Jj⟩ rj/\CR (eSl eI) H R Jn rl/\CR bI H R Jo rm/\CR eI H R Jp mm) {r:YD} (hp:aD.pj6 F aV rj rl rm nL mm=some r):Rt (aD.j6 F (cC.tw F) C61_ tM 0 ⟨Jg,Aw,Jk⟩ ⟨Jh,Ax,Jl⟩ nL ⟨Ji,Ay,Jm⟩ H) (aD.Q H0 Ri R0  r):=by
 obtain ⟨w0,s0,SZ,S_,Ta,Tc⟩:=h0
 subst SV
 subst SW
 subst SX
 subst SY
 unfold aD.pj6 at hp
 unfold aD.j6
 obtain ⟨w1,s1,f1⟩:=w0.frz (i:=3) eI rfl Tc
 refine dl (eSl eI) w1 (n:=1) (l:=([mm]:List (List Int))) rfl (CR.cons1 ⟨_,rfl,f1⟩ CR.empty) rfl λH2 w2 s2 c2=>?_
 refine aj (w2.rowo (i:=0) rfl) ?_
 obtain ⟨l3,e3,hp⟩:=af hp
 refine fQ (eSl eI) w2 (i:=2) rfl rfl (S_.step (s1.trans s2)) c2 (show 1=List.length ([mm]:List (List Int)) from rfl) rfl e3 λa4 d4 H4 w4 s4 c4 x4=>?_
 obtain ⟨w5,s5⟩:=w4.pp [1,2,3] 4
 exact aD.j5_P (@hC61) rfl rfl rfl ⟨w5,(s0.trans (s1.trans (s2.trans (s4.trans s5)))),(SZ.step (s1.trans (s2.trans (s4.trans s5)))),(c4.step s5),(Ta.step (s1.trans (s2.trans (s4.trans s5))))⟩ hp
def aD.pl7853 (F:Nat) (aV:YT):Nat->List (Int×Int×Int×Int×Int)->List (List Int)->List Bool->Int->List Int->Int->Option (List (List Int))
 | 0,_,_,_,_,_,_=>none
 | k+1,kC,mj,jd,ir,ml,e_=>(ix jd e_).bind λn1=>(bif (!(gt jd n1)) then ((ix jd e_).bind λn2=>(some (jd.set n2 true)).bind λl3=>(apn ml ([e_]:List Int)).bind λl6=>(cC.p F kC e_).bind λr8=>aD.pl7853 F aV k kC mj l3 ir l6 r8) else (aD.pj6 F aV kC mj jd ir ml))
theorem aD.l7853_P  {C61_:YQ} {aV:YT} (hC61:aD.S61 H0 Ri R0  C61_ aV):∀ k,aD.S7853 H0 Ri R0  (aD.l7853 F (cC.tw F) C61_ k) (aD.pl7853 F aV k):=by
 intro k
 induction k with
 | zero=>unfold aD.S7853;intros;rename_i hp;cases hp
 | succ k ih=>
  intro Ag Ah Ai Aj vl i_ vm vn vo Ak Al Am An kC IX ir e_ mj Ao Ap Aq jd ml H Td Te Tf Tg h0 r hp
  obtain ⟨w0,s0,Az,Jq,vp,Jr⟩:=h0
  subst Td
  subst Te
  subst Tf
  subst Tg
  unfold aD.pl7853 at hp
  unfold aD.l7853
  obtain ⟨n1,g1,hp⟩:=af hp
  obtain ⟨p1,q1,i1,h1,j1⟩:=W.ixo (E:=bI) w0 (i:=2) rfl rfl vp g1
  refine aj i1 ?_
  have h1:_=[_]:=h1
  subst h1
  refine aj (mL (j1 0 _ rfl)) ?_
  refine aB hp (λhp=>?_) λhp=>?_
  ·obtain ⟨n2,g2,hp⟩:=af hp
   obtain ⟨p2,q2,i2,h2,j2⟩:=W.ixo (E:=bI) w0 (i:=2) rfl rfl vp g2
   refine aj i2 ?_
   obtain ⟨l3,e3,hp⟩:=af hp
   refine bV bI w0 (i:=2) (j:=0) (p:=p2) rfl rfl vp g2 i2 e3 rfl rfl (λ_ h=>by have h:_=[_]:=h;subst h;exact rfl) λH4 k4 w4 s4 c4=>?_
   refine dl eI w4 (n:=1) (l:=([e_]:List Int)) rfl (CR.cons1 rfl CR.empty) rfl λH5 w5 s5 c5=>?_
   refine aj (w5.rowo (i:=0) rfl) ?_
   obtain ⟨l6,e6,hp⟩:=af hp
   refine fQ eI w5 (i:=4) rfl rfl (Jr.step (s4.trans s5)) c5 (show 1=List.length ([e_]:List Int) from rfl) rfl e6 λa7 d7 H7 w7 s7 c7 x7=>?_
   refine lSl w7 1 ?_
   refine lI w7 1 ?_
   obtain ⟨r8,e8,hp⟩:=af hp
   refine aM (cC.P rfl ⟨w7,(Az.step (s4.trans (s5.trans s7)))⟩ e8) ?_
   rintro _ H9 ⟨rfl,w9,s9,_⟩
   refine br ?_
   obtain ⟨w10,s10⟩:=w9.pp [1,2,3,4] 5
   exact ih rfl rfl ((aT e3).symm) rfl ⟨w10,(s0.trans (s4.trans (s5.trans (s7.trans (s9.trans s10))))),(Az.step (s4.trans (s5.trans (s7.trans (s9.trans s10))))),(Jq.step (s4.trans (s5.trans (s7.trans (s9.trans s10))))),(c4.step (s5.trans (s7.trans (s9.trans s10)))),(c7.step (s9.trans s10))⟩ hp
  ·exact aD.j6_P (@hC61) rfl rfl rfl rfl ⟨w0,s0,Az,Jq,vp,Jr⟩ hp
def aD.pl61 (F:Nat) :Nat->List (Int×Int×Int×Int×Int)->List (List Int)->List Bool->Int->Option (List (List Int))
 | 0,_,_,_,_=>none
 | k+1,dc,kB,eP,dP=>(bif (decide (dP<(eP.length:Int))) then ((ix eP dP).bind λn1=>(bif (gt eP n1) then (aD.pj4 F (aD.pl61 F k) dc kB eP dP) else (aD.pl7853 F (aD.pl61 F k) F dc kB eP dP ([]:List Int) dP))) else (some kB))
theorem aD.l61_P  :∀ k,aD.S61 H0 Ri R0  (aD.l61 F (cC.tw F)  k) (aD.pl61 F  k):=by
 intro k
 induction k with
 | zero=>unfold aD.S61;intros;rename_i hp;cases hp
 | succ k ih=>
  intro lX Aa lY jG dA vk jH lZ Ab l_ dc qU dP kB Ac mb eP H zT Th zU h0 r hp
  obtain ⟨w0,s0,pj,AA,pm⟩:=h0
  subst zT
  subst Th
  subst zU
  unfold aD.pl61 at hp
  unfold aD.l61
  refine aB hp (λhp=>?_) λhp=>?_
  ·obtain ⟨n1,g1,hp⟩:=af hp
   obtain ⟨p1,q1,i1,h1,j1⟩:=W.ixo (E:=bI) w0 (i:=2) rfl rfl pm g1
   refine aj i1 ?_
   have h1:_=[_]:=h1
   subst h1
   refine aj (mL (j1 0 _ rfl)) ?_
   refine aB hp (λhp=>?_) λhp=>?_
   ·exact aD.j4_P (@ih) rfl rfl rfl ⟨w0,s0,pj,AA,pm⟩ hp
   ·refine dl eI w0 (n:=0) (l:=([]:List Int)) rfl CR.empty rfl λH2 w2 s2 c2=>?_
    obtain ⟨w3,s3⟩:=w2.pp [1,2,3,0] 4
    exact aD.l7853_P (@ih) F rfl rfl rfl (show 0=List.length ([]:List Int) from rfl) ⟨w3,(s0.trans (s2.trans s3)),(pj.step (s2.trans s3)),(AA.step (s2.trans s3)),(pm.step (s2.trans s3)),(c2.step s3)⟩ hp
  ·obtain ⟨w4,s4⟩:=w0.pp [1] 3
   exact aE hp ⟨_,_,_,_,rfl,rfl,w4,(s0.trans s4),(AA.step s4)⟩
def aD.p (F:Nat) (ai:Yx):Option (List (List Int)):=(mkn (wrap .i64 (4 * (ai.length:Int))) false).bind λl3=>aD.pl61 F F ai ([]:List (List Int)) l3 0
theorem aD.P {aG ay aH ai ag} (bg:ay=ai.length) (h0:Inn H R0 λR=>ROs (aa eI (aa eI (aa eI (aa eI eI)))) H R ⟨aG,ay,aH⟩ ai) {r:YD} (hp:aD.p F ai=some r):Rt (aD.tw F ⟨aG,ay,aH⟩ ag H) (aD.Q H R0 R0  r):=by
 obtain ⟨w0,aU⟩:=h0
 subst bg
 unfold aD.p at hp
 unfold aD.tw aD.twX
 have s0:=w0.rf
 refine aY w0 λH1 w1 s1=>?_
 refine dl (eSl eI) w1 (n:=0) (l:=([]:List (List Int))) rfl CR.empty rfl λH2 w2 s2 c2=>?_
 refine lSl w2 1 ?_
 obtain ⟨l3,e3,hp⟩:=af hp
 refine jN bI false w2 rfl rfl rfl e3 λH4 k4 w4 s4 c4=>?_
 obtain ⟨w5,s5⟩:=w4.pp [2,1,0] 3
 exact aD.l61_P F rfl (show 0=List.length ([]:List (List Int)) from rfl) rfl ⟨w5,(s0.trans (s1.trans (s2.trans (s4.trans s5)))),(aU.step (s1.trans (s2.trans (s4.trans s5)))),(c2.step (s4.trans s5)),(c4.step s5)⟩ hp
def au.Q (H0:Hp) (Ri R0:Ys)  (r:Yr) (v:AV) (H':Hp):Prop:=∃ o0a:ON,∃ o0n:Nat,∃ o0c:Cap,∃ o0k:List AV,v=(.sl ⟨o0a,o0n,o0c⟩)/\o0n=(r).length/\Out H0 Ri H' (Rs.own ⟨o0a,o0n,o0c⟩ eI.z o0k::R0) λR=>CR eI H' R o0k (r)
def au.S29 (H0:Hp) (Ri R0:Ys)  (C:YR) (pC:YY):Prop:=∀ {AB AC vq dJ vr AD AF kD Js d_ mn AG},∀ {H:Hp},vq=kD.length->vr=mn.length->(Out H0 Ri H (Rs.blk dJ [.sl ⟨AB,vq,AD⟩,.i Js]::Rs.own ⟨AC,vr,AF⟩ eI.z AG::R0) λR=>ROs (aa eI (aa eI (aa eI (aa eI eI)))) H R ⟨AB,vq,AD⟩ kD/\CR eI H R AG mn)->∀ {r:Yr},pC kD mn d_=some r->Rt (C dJ 0 ⟨AC,vr,AF⟩ d_ H) (au.Q H0 Ri R0  r)
def au.S61 (H0:Hp) (Ri R0:Ys)  (C:YR) (pC:YY):Prop:=∀ {AH AI vt gX vu AJ AK jI Jt cZ iW AL},∀ {H:Hp},vt=jI.length->vu=iW.length->(Out H0 Ri H (Rs.blk gX [.sl ⟨AH,vt,AJ⟩,.i Jt]::Rs.own ⟨AI,vu,AK⟩ eI.z AL::R0) λR=>ROs (aa eI (aa eI (aa eI (aa eI eI)))) H R ⟨AH,vt,AJ⟩ jI/\CR eI H R AL iW)->∀ {r:Yr},pC jI iW cZ=some r->Rt (C gX 0 ⟨AI,vu,AK⟩ cZ H) (au.Q H0 Ri R0  r)
def au.S7855 (H0:Hp) (Ri R0:Ys)  (C:Zn) (pC:Zw):Prop:=∀ {AM AN vv jx vw AO AP kE Ju gn es et fa hG AQ},∀ {H:Hp},vv=kE.length->vw=hG.length->(Out H0 Ri H (Rs.blk jx [.sl ⟨AM,vv,AO⟩,.i Ju]::Rs.own ⟨AN,vw,AP⟩ eI.z AQ::R0) λR=>ROs (aa eI (aa eI (aa eI (aa eI eI)))) H R ⟨AM,vv,AO⟩ kE/\CR eI H R AQ hG)->∀ {r:Yr},pC kE hG gn es et fa=some r->Rt (C jx 0 ⟨AN,vw,AP⟩ gn es et fa H) (au.Q H0 Ri R0  r)
def au.pj8 (F:Nat) (vx:Zw) (rn:Yx) (rp:Yr) (nQ:Int) (nR:Int) (nS:Int) (nT:Int):Option (List Int):=vx rn rp nQ nR nS (wrap .i64 (nT+1))
theorem au.j8_P  {C7855_:Zn} {vx:Zw} (hC7855:au.S7855 H0 Ri R0  C7855_ vx) {Jv Jw AR tR AS Jx Jy rn Ti nQ nR nS nT rp Jz} (Tj:AR=rn.length) (Tk:AS=rp.length) (h0:Out H0 Ri H (Rs.blk tR [.sl ⟨Jv,AR,Jx⟩,.i Ti]::Rs.own ⟨Jw,AS,Jy⟩ eI.z Jz::R0) λR=>ROs (aa eI (aa eI (aa eI (aa eI eI)))) H R ⟨Jv,AR,Jx⟩ rn/\CR eI H R Jz rp) {r:Yr} (hp:au.pj8 F vx rn rp nQ nR nS nT=some r):Rt (au.j8 F (ax.tw F) C7855_ tR 0 ⟨Jw,AS,Jy⟩ nQ nR nS nT H) (au.Q H0 Ri R0  r):=by
 obtain ⟨w0,s0,Tl,Tn⟩:=h0
 subst Tj
 subst Tk
 unfold au.pj8 at hp
 unfold au.j8
 exact hC7855 rfl rfl ⟨w0,s0,Tl,Tn⟩ hp
def au.pj6 (F:Nat) (aV:YY) (rq:Yx) (rr:Yr) (nO:Int):Option (List Int):=aV rq rr (wrap .i64 (nO+1))
theorem au.j6_P  {C61_:YR} {aV:YY} (hC61:au.S61 H0 Ri R0  C61_ aV) {JA JB AT tP AU JC JD rq To nO rr JE} (Tp:AT=rq.length) (Tq:AU=rr.length) (h0:Out H0 Ri H (Rs.blk tP [.sl ⟨JA,AT,JC⟩,.i To]::Rs.own ⟨JB,AU,JD⟩ eI.z JE::R0) λR=>ROs (aa eI (aa eI (aa eI (aa eI eI)))) H R ⟨JA,AT,JC⟩ rq/\CR eI H R JE rr) {r:Yr} (hp:au.pj6 F aV rq rr nO=some r):Rt (au.j6 F (ax.tw F) C61_ tP 0 ⟨JB,AU,JD⟩ nO H) (au.Q H0 Ri R0  r):=by
 obtain ⟨w0,s0,Ts,Tt⟩:=h0
 subst Tp
 subst Tq
 unfold au.pj6 at hp
 unfold au.j6
 exact hC61 rfl rfl ⟨w0,s0,Ts,Tt⟩ hp
def au.pj7 (F:Nat) (aV:YY) (ru:Yx) (rv:Yr) (kp:Int):Option (List Int):=au.pj6 F aV ru rv kp
theorem au.j7_P  {C61_:YR} {aV:YY} (hC61:au.S61 H0 Ri R0  C61_ aV) {JF JG AW tQ AX JH JI ru Tu kp rv JJ} (Tv:AW=ru.length) (Tw:AX=rv.length) (h0:Out H0 Ri H (Rs.blk tQ [.sl ⟨JF,AW,JH⟩,.i Tu]::Rs.own ⟨JG,AX,JI⟩ eI.z JJ::R0) λR=>ROs (aa eI (aa eI (aa eI (aa eI eI)))) H R ⟨JF,AW,JH⟩ ru/\CR eI H R JJ rv) {r:Yr} (hp:au.pj7 F aV ru rv kp=some r):Rt (au.j7 F (ax.tw F) C61_ tQ 0 ⟨JG,AX,JI⟩ kp H) (au.Q H0 Ri R0  r):=by
 obtain ⟨w0,s0,Tx,Ty⟩:=h0
 subst Tv
 subst Tw
 unfold au.pj7 at hp
 unfold au.j7
 exact au.j6_P (@hC61) rfl rfl ⟨w0,s0,Tx,Ty⟩ hp
def au.pl7855 (F:Nat) (aV:YY):Nat->List (Int×Int×Int×Int×Int)->List Int->Int->Int->Int->Int->Option (List Int)
 | 0,_,_,_,_,_,_=>none
 | k+1,kE,hG,gn,es,et,fa=>(bif (decide (fa<(hG.length:Int))) then ((ix hG fa).bind λn1=>(bif ((gt hG n1)==(if et>es then et else es)) then ((ix hG fa).bind λn2=>(some (hG.set n2 (if et<es then et else es))).bind λl3=>au.pj8 F (au.pl7855 F aV k) kE l3 gn es et fa) else (au.pj8 F (au.pl7855 F aV k) kE hG gn es et fa))) else (au.pj7 F aV kE hG gn))
theorem au.l7855_P  {C61_:YR} {aV:YY} (hC61:au.S61 H0 Ri R0  C61_ aV):∀ k,au.S7855 H0 Ri R0  (au.l7855 F (ax.tw F) C61_ k) (au.pl7855 F aV k):=by
 intro k
 induction k with
 | zero=>unfold au.S7855;intros;rename_i hp;cases hp
 | succ k ih=>
  intro AM AN vv jx vw AO AP kE Ju gn es et fa hG AQ H Tz TA h0 r hp
  obtain ⟨w0,s0,AY,rx⟩:=h0
  subst Tz
  subst TA
  unfold au.pl7855 at hp
  unfold au.l7855
  refine aB hp (λhp=>?_) λhp=>?_
  ·obtain ⟨n1,g1,hp⟩:=af hp
   obtain ⟨p1,q1,i1,h1,j1⟩:=W.ixo (E:=eI) w0 (i:=1) rfl rfl rx g1
   refine aj i1 ?_
   have h1:_=[_]:=h1
   subst h1
   refine aj (aC (j1 0 _ rfl)) ?_
   refine aB hp (λhp=>?_) λhp=>?_
   ·obtain ⟨n2,g2,hp⟩:=af hp
    obtain ⟨p2,q2,i2,h2,j2⟩:=W.ixo (E:=eI) w0 (i:=1) rfl rfl rx g2
    refine aj i2 ?_
    obtain ⟨l3,e3,hp⟩:=af hp
    refine bV eI w0 (i:=1) (j:=0) (p:=p2) rfl rfl rx g2 i2 e3 rfl rfl (λ_ h=>by have h:_=[_]:=h;subst h;exact rfl) λH4 k4 w4 s4 c4=>?_
    exact au.j8_P (@ih) rfl ((aT e3).symm) ⟨w4,(s0.trans s4),(AY.step s4),c4⟩ hp
   ·exact au.j8_P (@ih) rfl rfl ⟨w0,s0,AY,rx⟩ hp
  ·exact au.j7_P (@hC61) rfl rfl ⟨w0,s0,AY,rx⟩ hp
def au.pl61 (F:Nat) :Nat->List (Int×Int×Int×Int×Int)->List Int->Int->Option (List Int)
 | 0,_,_,_=>none
 | k+1,jI,iW,cZ=>(bif (decide (cZ<(wrap .i64 (2 * (jI.length:Int))))) then ((ax.p F jI cZ true).bind λr1=>(ax.p F jI cZ false).bind λr3=>(ix iW r1.1).bind λn5=>(ix iW r3.1).bind λn6=>au.pl7855 F (au.pl61 F k) F jI iW cZ (gt iW n5) (gt iW n6) 0) else (some iW))
theorem au.l61_P  :∀ k,au.S61 H0 Ri R0  (au.l61 F (ax.tw F)  k) (au.pl61 F  k):=by
 intro k
 induction k with
 | zero=>unfold au.S61;intros;rename_i hp;cases hp
 | succ k ih=>
  intro AH AI vt gX vu AJ AK jI Jt cZ iW AL H TC TE h0 r hp
  obtain ⟨w0,s0,AZ,vy⟩:=h0
  subst TC
  subst TE
  unfold au.pl61 at hp
  unfold au.l61
  refine lSl w0 0 ?_
  refine aB hp (λhp=>?_) λhp=>?_
  ·refine lSl w0 0 ?_
   refine lI w0 0 ?_
   obtain ⟨r1,e1,hp⟩:=af hp
   refine aM (ax.P rfl ⟨w0,AZ⟩ e1) ?_
   rintro _ H2 ⟨rfl,w2,s2,_⟩
   refine br (br (br (br (br ?_))))
   refine lSl w2 0 ?_
   refine lI w2 0 ?_
   obtain ⟨r3,e3,hp⟩:=af hp
   refine aM (ax.P rfl ⟨w2,(AZ.step s2)⟩ e3) ?_
   rintro _ H4 ⟨rfl,w4,s4,_⟩
   refine br (br (br (br (br ?_))))
   obtain ⟨n5,g5,hp⟩:=af hp
   obtain ⟨p5,q5,i5,h5,j5⟩:=W.ixo (E:=eI) w4 (i:=1) rfl rfl (vy.step (s2.trans s4)) g5
   refine aj i5 ?_
   have h5:_=[_]:=h5
   subst h5
   refine aj (aC (j5 0 _ rfl)) ?_
   obtain ⟨n6,g6,hp⟩:=af hp
   obtain ⟨p6,q6,i6,h6,j6⟩:=W.ixo (E:=eI) w4 (i:=1) rfl rfl (vy.step (s2.trans s4)) g6
   refine aj i6 ?_
   have h6:_=[_]:=h6
   subst h6
   refine aj (aC (j6 0 _ rfl)) ?_
   exact au.l7855_P (@ih) F rfl rfl ⟨w4,(s0.trans (s2.trans s4)),(AZ.step (s2.trans s4)),(vy.step (s2.trans s4))⟩ hp
  ·obtain ⟨w7,s7⟩:=w0.pp [1] 2
   exact aE hp ⟨_,_,_,_,rfl,rfl,w7,(s0.trans s7),(vy.step s7)⟩
def au.pj9 (F:Nat)  (ry:Yx) (rz:Yr):Option (List Int):=au.pl61 F F ry rz 0
theorem au.j9_P   {JK JL A_ tS Ba JM JN ry TF rz JO} (TG:A_=ry.length) (TH:Ba=rz.length) (h0:Out H0 Ri H (Rs.blk tS [.sl ⟨JK,A_,JM⟩,.i TF]::Rs.own ⟨JL,Ba,JN⟩ eI.z JO::R0) λR=>ROs (aa eI (aa eI (aa eI (aa eI eI)))) H R ⟨JK,A_,JM⟩ ry/\CR eI H R JO rz) {r:Yr} (hp:au.pj9 F  ry rz=some r):Rt (au.j9 F (ax.tw F)  tS 0 ⟨JL,Ba,JN⟩ H) (au.Q H0 Ri R0  r):=by
 obtain ⟨w0,s0,TJ,TK⟩:=h0
 subst TG
 subst TH
 unfold au.pj9 at hp
 unfold au.j9
 exact au.l61_P F rfl rfl ⟨w0,s0,TJ,TK⟩ hp
def au.pl29 (F:Nat) :Nat->List (Int×Int×Int×Int×Int)->List Int->Int->Option (List Int)
 | 0,_,_,_=>none
 | k+1,kD,mn,d_=>(bif (decide (d_<(kD.length:Int))) then ((apn mn ([d_]:List Int)).bind λl2=>au.pl29 F k kD l2 (wrap .i64 (d_+1))) else (au.pj9 F kD mn))
theorem au.l29_P  :∀ k,au.S29 H0 Ri R0  (au.l29 F (ax.tw F)  k) (au.pl29 F  k):=by
 intro k
 induction k with
 | zero=>unfold au.S29;intros;rename_i hp;cases hp
 | succ k ih=>
  intro AB AC vq dJ vr AD AF kD Js d_ mn AG H TL TN h0 r hp
  obtain ⟨w0,s0,JP,JQ⟩:=h0
  subst TL
  subst TN
  unfold au.pl29 at hp
  unfold au.l29
  refine lSl w0 0 ?_
  refine aB hp (λhp=>?_) λhp=>?_
  ·refine dl eI w0 (n:=1) (l:=([d_]:List Int)) rfl (CR.cons1 rfl CR.empty) rfl λH1 w1 s1 c1=>?_
   refine aj (w1.rowo (i:=0) rfl) ?_
   obtain ⟨l2,e2,hp⟩:=af hp
   refine fQ eI w1 (i:=2) rfl rfl (JQ.step s1) c1 (show 1=List.length ([d_]:List Int) from rfl) rfl e2 λa3 d3 H3 w3 s3 c3 x3=>?_
   obtain ⟨w4,s4⟩:=w3.pp [1,2] 3
   exact ih rfl rfl ⟨w4,(s0.trans (s1.trans (s3.trans s4))),(JP.step (s1.trans (s3.trans s4))),(c3.step s4)⟩ hp
  ·exact au.j9_P rfl rfl ⟨w0,s0,JP,JQ⟩ hp
def au.p (F:Nat) (ai:Yx):Option (List Int):=au.pl29 F F ai ([]:List Int) 0
theorem au.P {aG ay aH ai ag} (bg:ay=ai.length) (h0:Inn H R0 λR=>ROs (aa eI (aa eI (aa eI (aa eI eI)))) H R ⟨aG,ay,aH⟩ ai) {r:Yr} (hp:au.p F ai=some r):Rt (au.tw F ⟨aG,ay,aH⟩ ag H) (au.Q H R0 R0  r):=by
 obtain ⟨w0,aU⟩:=h0
 subst bg
 unfold au.p at hp
 unfold au.tw au.twX
 have s0:=w0.rf
 refine aY w0 λH1 w1 s1=>?_
 refine dl eI w1 (n:=0) (l:=([]:List Int)) rfl CR.empty rfl λH2 w2 s2 c2=>?_
 obtain ⟨w3,s3⟩:=w2.pp [1,0] 2
 exact au.l29_P F rfl (show 0=List.length ([]:List Int) from rfl) ⟨w3,(s0.trans (s1.trans (s2.trans s3))),(aU.step (s1.trans (s2.trans s3))),(c2.step s3)⟩ hp
def bf.Q (H0:Hp) (Ri R0:Ys)  (r:Int) (v:AV) (H':Hp):Prop:=v=(.i r)/\Out H0 Ri H' (R0) λR=>True
def bf.S61 (H0:Hp) (Ri R0:Ys)  (C:Zo) (pC:Zx):Prop:=∀ {gp ct Bb vz Bc je Bd},∀ {H:Hp},vz=je.length->(Out H0 Ri H (Rs.own ⟨Bb,vz,Bc⟩ eI.z Bd::R0) λR=>CR eI H R Bd je)->∀ {r:Int},pC gp je ct=some r->Rt (C gp ⟨Bb,vz,Bc⟩ ct H) (bf.Q H0 Ri R0  r)
def bf.pj2 (F:Nat) (aV:Zx) (nV:Int) (rA:Yr) (nW:Int):Option (Int):=aV nV rA (wrap .i64 (nW+1))
theorem bf.j2_P  {C61_:Zo} {aV:Zx} (hC61:bf.S61 H0 Ri R0  C61_ aV) {nV nW JR Be JS rA JT} (TO:Be=rA.length) (h0:Out H0 Ri H (Rs.own ⟨JR,Be,JS⟩ eI.z JT::R0) λR=>CR eI H R JT rA) {r:Int} (hp:bf.pj2 F aV nV rA nW=some r):Rt (bf.j2 F (au.tw F) C61_ nV ⟨JR,Be,JS⟩ nW H) (bf.Q H0 Ri R0  r):=by
 obtain ⟨w0,s0,TP⟩:=h0
 subst TO
 unfold bf.pj2 at hp
 unfold bf.j2
 exact hC61 rfl ⟨w0,s0,TP⟩ hp
def bf.pl61 (F:Nat) :Nat->Int->List Int->Int->Option (Int)
 | 0,_,_,_=>none
 | k+1,gp,je,ct=>(bif (decide (ct<(je.length:Int))) then ((ix je ct).bind λn1=>(bif ((gt je n1)==ct) then (bf.pj2 F (bf.pl61 F k) (wrap .i64 (gp+1)) je ct) else (bf.pj2 F (bf.pl61 F k) gp je ct))) else (some gp))
theorem bf.l61_P  :∀ k,bf.S61 H0 Ri R0  (bf.l61 F (au.tw F)  k) (bf.pl61 F  k):=by
 intro k
 induction k with
 | zero=>unfold bf.S61;intros;rename_i hp;cases hp
 | succ k ih=>
  intro gp ct Bb vz Bc je Bd H TQ h0 r hp
  obtain ⟨w0,s0,Bf⟩:=h0
  subst TQ
  unfold bf.pl61 at hp
  unfold bf.l61
  refine aB hp (λhp=>?_) λhp=>?_
  ·obtain ⟨n1,g1,hp⟩:=af hp
   obtain ⟨p1,q1,i1,h1,j1⟩:=W.ixo (E:=eI) w0 (i:=0) rfl rfl Bf g1
   refine aj i1 ?_
   have h1:_=[_]:=h1
   subst h1
   refine aj (aC (j1 0 _ rfl)) ?_
   refine aB hp (λhp=>?_) λhp=>?_
   ·exact bf.j2_P (@ih) rfl ⟨w0,s0,Bf⟩ hp
   ·exact bf.j2_P (@ih) rfl ⟨w0,s0,Bf⟩ hp
  ·obtain ⟨w2,s2⟩:=w0.pp [] 1
   exact aE hp ⟨rfl,w2,(s0.trans s2),trivial⟩
def bf.p (F:Nat) (ai:Yx):Option (Int):=(au.p F ai).bind λr2=>bf.pl61 F F 0 r2 0
theorem bf.P {aG ay aH ai ag} (bg:ay=ai.length) (h0:Inn H R0 λR=>ROs (aa eI (aa eI (aa eI (aa eI eI)))) H R ⟨aG,ay,aH⟩ ai) {r:Int} (hp:bf.p F ai=some r):Rt (bf.tw F ⟨aG,ay,aH⟩ ag H) (bf.Q H R0 R0  r):=by
 obtain ⟨w0,aU⟩:=h0
 subst bg
 unfold bf.p at hp
 unfold bf.tw bf.twX
 have s0:=w0.rf
 refine aY w0 λH1 w1 s1=>?_
 refine lSl w1 0 ?_
 refine lI w1 0 ?_
 obtain ⟨r2,e2,hp⟩:=af hp
 refine aM (au.P rfl ⟨w1,(aU.step s1)⟩ e2) ?_
 rintro _ H3 ⟨o0a_3,o0n_3,o0c_3,o0k_3,rfl,rfl,w3,s3,f3_0⟩
 refine br ?_
 obtain ⟨w4,s4⟩:=w3.pp [0] 2
 exact bf.l61_P F rfl ⟨w4,(s0.trans (s1.trans (s3.trans s4))),(f3_0.step s4)⟩ hp
def bL.Q (H0:Hp) (Ri R0:Ys)  (r:Bool) (v:AV) (H':Hp):Prop:=v=(.bool r)/\Out H0 Ri H' (R0) λR=>True
def bL.p (F:Nat) (ai:Yx) (ag:Int):Option (Bool):=(bif (decide ((ai.length:Int)>10)) then (some false) else ((cB.p F ag 0 8).bind λr3=>(bif (!r3) then (some false) else ((aK.p F ai).bind λr6=>(bif (!r6) then (some false) else ((aD.p F ai).bind λr9=>(bf.p F ai).bind λr12=>some ((r9.length:Int)==(wrap .i64 ((ai.length:Int)+(wrap .i64 (2 * r12)))))))))))
theorem bL.P {aG ay aH ai ag} (bg:ay=ai.length) (h0:Inn H R0 λR=>ROs (aa eI (aa eI (aa eI (aa eI eI)))) H R ⟨aG,ay,aH⟩ ai) {r:Bool} (hp:bL.p F ai ag=some r):Rt (bL.tw F ⟨aG,ay,aH⟩ ag H) (bL.Q H R0 R0  r):=by
 obtain ⟨w0,aU⟩:=h0
 subst bg
 unfold bL.p at hp
 unfold bL.tw bL.twX
 have s0:=w0.rf
 refine aY w0 λH1 w1 s1=>?_
 refine lSl w1 0 ?_
 refine aB hp (λhp=>?_) λhp=>?_
 ·obtain ⟨w2,s2⟩:=w1.pp [] 1
  exact aE hp ⟨rfl,w2,(s0.trans (s1.trans s2)),trivial⟩
 ·refine lI w1 0 ?_
  obtain ⟨r3,e3,hp⟩:=af hp
  refine aM (cB.P ⟨w1,trivial⟩ e3) ?_
  rintro _ H4 ⟨rfl,w4,s4,_⟩
  refine br ?_
  refine aB hp (λhp=>?_) λhp=>?_
  ·obtain ⟨w5,s5⟩:=w4.pp [] 1
   exact aE hp ⟨rfl,w5,(s0.trans (s1.trans (s4.trans s5))),trivial⟩
  ·refine lSl w4 0 ?_
   refine lI w4 0 ?_
   obtain ⟨r6,e6,hp⟩:=af hp
   refine aM (aK.P rfl ⟨w4,(aU.step (s1.trans s4))⟩ e6) ?_
   rintro _ H7 ⟨rfl,w7,s7,_⟩
   refine br ?_
   refine aB hp (λhp=>?_) λhp=>?_
   ·obtain ⟨w8,s8⟩:=w7.pp [] 1
    exact aE hp ⟨rfl,w8,(s0.trans (s1.trans (s4.trans (s7.trans s8)))),trivial⟩
   ·refine lSl w7 0 ?_
    refine lI w7 0 ?_
    obtain ⟨r9,e9,hp⟩:=af hp
    refine aM (aD.P rfl ⟨w7,(aU.step (s1.trans (s4.trans s7)))⟩ e9) ?_
    rintro _ H10 ⟨o0a_10,o0n_10,o0c_10,o0k_10,rfl,rfl,w10,s10,f10_0⟩
    refine br ?_
    refine fZ (W.cons_of (Rn:=[_]) w7 w10 s10) ?_
    refine lSl w10 1 ?_
    refine lSl w10 1 ?_
    refine lI w10 1 ?_
    obtain ⟨r12,e12,hp⟩:=af hp
    refine aM (bf.P rfl ⟨w10,(aU.step (s1.trans (s4.trans (s7.trans s10))))⟩ e12) ?_
    rintro _ H13 ⟨rfl,w13,s13,_⟩
    refine br ?_
    refine fZ (W.cons_of (Rn:=[]) w10 w13 s13) ?_
    obtain ⟨w15,s15⟩:=w13.pp [] 2
    exact aE hp ⟨rfl,w15,(s0.trans (s1.trans (s4.trans (s7.trans (s10.trans (s13.trans s15)))))),trivial⟩
def bN.Q (H0:Hp) (Ri R0:Ys)  (r:(List (Int×Int×Int×Int×Int))×Int) (v:AV) (H':Hp):Prop:=∃ o0a:ON,∃ o0n:Nat,∃ o0c:Cap,∃ o0k:List AV,v=(.agg [(.sl ⟨o0a,o0n,o0c⟩),(.i r.2)])/\o0n=(r.1).length/\Out H0 Ri H' (Rs.own ⟨o0a,o0n,o0c⟩ (aa eI (aa eI (aa eI (aa eI eI)))).z o0k::R0) λR=>CR (aa eI (aa eI (aa eI (aa eI eI)))) H' R o0k (r.1)
def bN.S125 (H0:Hp) (Ri R0:Ys)  (C:Nat->Nat->Nat->Nat->Nat->Nat->Int->Int->Hp->OA) (pC:List (Int×Int×Int×Int×Int)->List (Int×Int×Int×Int×Int)->Int->Int->Int->Option ((List (Int×Int×Int×Int×Int))×Int)):Prop:=∀ {Bg Bh Bi vA fb vB iu vC iv Bj Bk Bl dN Bm mo JU JV po du gq Bn Bo},∀ {H:Hp},vA=dN.length->vB=Bm.length->vC=mo.length->(Out H0 Ri H (Rs.blk fb [.sl ⟨Bg,vA,Bj⟩,.i JU]::Rs.own ⟨Bh,vB,Bk⟩ (aa eI (aa eI (aa eI (aa eI eI)))).z Bn::Rs.blk iu [.sl ⟨Bh,vB,Bk⟩,.i JV]::Rs.own ⟨Bi,vC,Bl⟩ (aa eI (aa eI (aa eI (aa eI eI)))).z Bo::Rs.blk iv [.sl ⟨Bi,vC,Bl⟩,.i po]::R0) λR=>ROs (aa eI (aa eI (aa eI (aa eI eI)))) H R ⟨Bg,vA,Bj⟩ dN/\CR (aa eI (aa eI (aa eI (aa eI eI)))) H R Bn Bm/\CR (aa eI (aa eI (aa eI (aa eI eI)))) H R Bo mo)->∀ {r:(List (Int×Int×Int×Int×Int))×Int},pC dN mo po du gq=some r->Rt (C fb 0 iu 0 iv 0 du gq H) (bN.Q H0 Ri R0  r)
def bN.pl125 (F:Nat) :Nat->List (Int×Int×Int×Int×Int)->List (Int×Int×Int×Int×Int)->Int->Int->Int->Option ((List (Int×Int×Int×Int×Int))×Int)
 | 0,_,_,_,_,_=>none
 | k+1,dN,mo,po,du,gq=>(bif (decide (gq<(dN.length:Int))) then ((ix dN gq).bind λn1=>(apn mo ([((wrap .i64 (((gt dN n1).1)+du)),(wrap .i64 (((gt dN n1).2.1)+du)),(wrap .i64 (((gt dN n1).2.2.1)+du)),(wrap .i64 (((gt dN n1).2.2.2.1)+du)),((gt dN n1).2.2.2.2))]:List (Int×Int×Int×Int×Int))).bind λl9=>bN.pl125 F k dN l9 po du (wrap .i64 (gq+1))) else (some (mo,po)))
theorem bN.l125_P  :∀ k,bN.S125 H0 Ri R0  (bN.l125 F   k) (bN.pl125 F  k):=by
 intro k
 induction k with
 | zero=>unfold bN.S125;intros;rename_i hp;cases hp
 | succ k ih=>
  intro Bg Bh Bi vA fb vB iu vC iv Bj Bk Bl dN Bm mo JU JV po du gq Bn Bo H TT TU TV h0 r hp
  obtain ⟨w0,s0,JW,TW,JX⟩:=h0
  subst TT
  subst TU
  subst TV
  unfold bN.pl125 at hp
  unfold bN.l125
  refine lSl w0 0 ?_
  refine aB hp (λhp=>?_) λhp=>?_
  ·refine lSl w0 0 ?_
   obtain ⟨n1,g1,hp⟩:=af hp
   obtain ⟨p1,q1,i1,h1,j1⟩:=ROs.ixr JW rfl g1
   refine aj i1 ?_
   obtain ⟨_,_,rfl,rfl,_,_,rfl,rfl,_,_,rfl,rfl,_,_,rfl,rfl,rfl⟩:=h1
   refine aj (aC (j1 0 _ rfl)) ?_
   refine aj (aC (j1 1 _ rfl)) ?_
   refine aj (aC (j1 2 _ rfl)) ?_
   refine aj (aC (j1 3 _ rfl)) ?_
   refine aj (aC (j1 4 _ rfl)) ?_
   refine aY w0 λH2 w2 s2=>?_
   refine ak w2 0 λH3 w3 s3=>?_
   refine ak w3 0 λH4 w4 s4=>?_
   refine ak w4 0 λH5 w5 s5=>?_
   refine ak w5 0 λH6 w6 s6=>?_
   refine ak w6 0 λH7 w7 s7=>?_
   refine lSl w7 5 ?_
   refine lI w7 0 ?_
   refine lI w7 0 ?_
   refine lI w7 0 ?_
   refine lI w7 0 ?_
   refine lI w7 0 ?_
   refine dl (aa eI (aa eI (aa eI (aa eI eI)))) w7 (n:=1) (l:=([((wrap .i64 (((gt dN n1).1)+du)),(wrap .i64 (((gt dN n1).2.1)+du)),(wrap .i64 (((gt dN n1).2.2.1)+du)),(wrap .i64 (((gt dN n1).2.2.2.1)+du)),((gt dN n1).2.2.2.2))]:List (Int×Int×Int×Int×Int))) rfl (CR.cons (c:=[_,_,_,_,_]) ⟨[_],_,rfl,rfl,⟨[_],_,rfl,rfl,⟨[_],_,rfl,rfl,⟨[_],_,rfl,rfl,rfl⟩⟩⟩⟩ CR.empty) rfl λH8 w8 s8 c8=>?_
   refine aj (w8.rowo (i:=0) rfl) ?_
   obtain ⟨l9,e9,hp⟩:=af hp
   refine fQ (aa eI (aa eI (aa eI (aa eI eI)))) w8 (i:=5) rfl rfl (JX.step (s2.trans (s3.trans (s4.trans (s5.trans (s6.trans (s7.trans s8))))))) c8 (show 1=List.length ([((wrap .i64 (((gt dN n1).1)+du)),(wrap .i64 (((gt dN n1).2.1)+du)),(wrap .i64 (((gt dN n1).2.2.1)+du)),(wrap .i64 (((gt dN n1).2.2.2.1)+du)),((gt dN n1).2.2.2.2))]:List (Int×Int×Int×Int×Int)) from rfl) rfl e9 λa10 d10 H10 w10 s10 c10 x10=>?_
   refine ak w10 6 λH11 w11 s11=>?_
   obtain ⟨w12,s12⟩:=w11.pp [2,3,4,5,6] 7
   exact ih rfl rfl rfl ⟨w12,(s0.trans (s2.trans (s3.trans (s4.trans (s5.trans (s6.trans (s7.trans (s8.trans (s10.trans (s11.trans s12)))))))))),(JW.step (s2.trans (s3.trans (s4.trans (s5.trans (s6.trans (s7.trans (s8.trans (s10.trans (s11.trans s12)))))))))),(TW.step (s2.trans (s3.trans (s4.trans (s5.trans (s6.trans (s7.trans (s8.trans (s10.trans (s11.trans s12)))))))))),(c10.step (s11.trans s12))⟩ hp
  ·refine lSl w0 4 ?_
   refine lI w0 4 ?_
   refine ak w0 2 λH13 w13 s13=>?_
   refine ak w13 2 λH14 w14 s14=>?_
   refine lSl w14 2 ?_
   refine lI w14 2 ?_
   obtain ⟨w15,s15⟩:=w14.pp [3] 5
   exact aE hp ⟨_,_,_,_,rfl,rfl,w15,(s0.trans (s13.trans (s14.trans s15))),(JX.step (s13.trans (s14.trans s15)))⟩
def bN.p (F:Nat) (ai:Yx) (ag:Int) (bH:Yx) (bB:Int):Option ((List (Int×Int×Int×Int×Int))×Int):=(apn ([]:List (Int×Int×Int×Int×Int)) ai).bind λl9=>bN.pl125 F F bH l9 (wrap .i64 (ag+bB)) (wrap .i64 (2 * (ai.length:Int))) 0
theorem bN.P {aG dL ay cS aH dM ai bH ag bB} (bg:ay=ai.length) (fL:cS=bH.length) (h0:Inn H R0 λR=>ROs (aa eI (aa eI (aa eI (aa eI eI)))) H R ⟨aG,ay,aH⟩ ai/\ROs (aa eI (aa eI (aa eI (aa eI eI)))) H R ⟨dL,cS,dM⟩ bH) {r:(List (Int×Int×Int×Int×Int))×Int} (hp:bN.p F ai ag bH bB=some r):Rt (bN.tw F ⟨aG,ay,aH⟩ ag ⟨dL,cS,dM⟩ bB H) (bN.Q H R0 R0  r):=by
 obtain ⟨w0,aU,eO⟩:=h0
 subst bg
 subst fL
 unfold bN.p at hp
 unfold bN.tw bN.twX
 have s0:=w0.rf
 refine aY w0 λH1 w1 s1=>?_
 refine aY w1 λH2 w2 s2=>?_
 refine aY w2 λH3 w3 s3=>?_
 refine lI w3 2 ?_
 refine lI w3 1 ?_
 refine aY w3 λH4 w4 s4=>?_
 refine ak w4 0 λH5 w5 s5=>?_
 refine ak w5 0 λH6 w6 s6=>?_
 refine dl (aa eI (aa eI (aa eI (aa eI eI)))) w6 (n:=0) (l:=([]:List (Int×Int×Int×Int×Int))) rfl CR.empty rfl λH7 w7 s7 c7=>?_
 refine lSl w7 4 ?_
 obtain ⟨x8,h8,c8⟩:=(aU.step (s1.trans (s2.trans (s3.trans (s4.trans (s5.trans (s6.trans s7))))))).row rfl
 refine aj h8 ?_
 obtain ⟨l9,e9,hp⟩:=af hp
 refine fQ (aa eI (aa eI (aa eI (aa eI eI)))) w7 (i:=0) rfl rfl c7 c8 rfl rfl e9 λa10 d10 H10 w10 s10 c10 x10=>?_
 refine ak w10 1 λH11 w11 s11=>?_
 refine lSl w11 4 ?_
 obtain ⟨w12,s12⟩:=w11.nilS (aa eI (aa eI (aa eI (aa eI eI)))).z (by decide)
 obtain ⟨w13,s13⟩:=w12.pp [4,0,3,1,2] 6
 exact bN.l125_P F rfl rfl rfl ⟨w13,(s0.trans (s1.trans (s2.trans (s3.trans (s4.trans (s5.trans (s6.trans (s7.trans (s10.trans (s11.trans (s12.trans s13))))))))))),(eO.step (s1.trans (s2.trans (s3.trans (s4.trans (s5.trans (s6.trans (s7.trans (s10.trans (s11.trans (s12.trans s13))))))))))),((CR.empty:CR (aa eI (aa eI (aa eI (aa eI eI)))) _ _ [] []).step s13),(c10.step (s11.trans (s12.trans s13)))⟩ hp
def cW.Q (H0:Hp) (Ri R0:Ys)  (r:(List (Int×Int×Int×Int×Int))×Int×Int) (v:AV) (H':Hp):Prop:=∃ o0a:ON,∃ o0n:Nat,∃ o0c:Cap,∃ o0k:List AV,v=(.tup [(.agg [(.sl ⟨o0a,o0n,o0c⟩),(.i r.2.1)]),(.i r.2.2)])/\o0n=(r.1).length/\Out H0 Ri H' (Rs.own ⟨o0a,o0n,o0c⟩ (aa eI (aa eI (aa eI (aa eI eI)))).z o0k::R0) λR=>CR (aa eI (aa eI (aa eI (aa eI eI)))) H' R o0k (r.1)
def cW.p (F:Nat) (ai:Yx) (ag:Int) (bH:Yx) (bB:Int):Option ((List (Int×Int×Int×Int×Int))×Int×Int):=(bL.p F ai ag).bind λr4=>(bif (!r4) then (some (([]:List (Int×Int×Int×Int×Int)),0,1)) else ((bL.p F bH bB).bind λr10=>(bif (!r10) then (some (([]:List (Int×Int×Int×Int×Int)),0,1)) else ((bif (decide ((wrap .i64 ((ai.length:Int)+(bH.length:Int)))>10)) then (some (([]:List (Int×Int×Int×Int×Int)),0,3)) else ((bif (decide ((wrap .i64 (ag+bB))>8)) then (some (([]:List (Int×Int×Int×Int×Int)),0,3)) else ((bN.p F ai ag bH bB).bind λr24=>some (r24.1,r24.2,0)))))))))
theorem cW.P {aG dL ay cS aH dM ai bH ag bB} (bg:ay=ai.length) (fL:cS=bH.length) (h0:Inn H R0 λR=>ROs (aa eI (aa eI (aa eI (aa eI eI)))) H R ⟨aG,ay,aH⟩ ai/\ROs (aa eI (aa eI (aa eI (aa eI eI)))) H R ⟨dL,cS,dM⟩ bH) {r:(List (Int×Int×Int×Int×Int))×Int×Int} (hp:cW.p F ai ag bH bB=some r):Rt (cW.tw F ⟨aG,ay,aH⟩ ag ⟨dL,cS,dM⟩ bB H) (cW.Q H R0 R0  r):=by
 obtain ⟨w0,aU,eO⟩:=h0
 subst bg
 subst fL
 unfold cW.p at hp
 unfold cW.tw cW.twX
 have s0:=w0.rf
 refine aY w0 λH1 w1 s1=>?_
 refine aY w1 λH2 w2 s2=>?_
 refine aY w2 λH3 w3 s3=>?_
 refine lSl w3 2 ?_
 refine lI w3 2 ?_
 obtain ⟨r4,e4,hp⟩:=af hp
 refine aM (bL.P rfl ⟨w3,(aU.step (s1.trans (s2.trans s3)))⟩ e4) ?_
 rintro _ H5 ⟨rfl,w5,s5,_⟩
 refine br ?_
 refine aB hp (λhp=>?_) λhp=>?_
 ·refine ak w5 0 λH6 w6 s6=>?_
  refine ak w6 0 λH7 w7 s7=>?_
  refine lSl w7 0 ?_
  refine lI w7 0 ?_
  obtain ⟨w8,s8⟩:=w7.nilS (aa eI (aa eI (aa eI (aa eI eI)))).z (by decide)
  obtain ⟨w9,s9⟩:=w8.pp [0] 4
  exact aE hp ⟨_,_,_,_,rfl,rfl,w9,(s0.trans (s1.trans (s2.trans (s3.trans (s5.trans (s6.trans (s7.trans (s8.trans s9)))))))),((CR.empty:CR (aa eI (aa eI (aa eI (aa eI eI)))) _ _ [] []).step s9)⟩
 ·refine lSl w5 1 ?_
  refine lI w5 1 ?_
  obtain ⟨r10,e10,hp⟩:=af hp
  refine aM (bL.P rfl ⟨w5,(eO.step (s1.trans (s2.trans (s3.trans s5))))⟩ e10) ?_
  rintro _ H11 ⟨rfl,w11,s11,_⟩
  refine br ?_
  refine aB hp (λhp=>?_) λhp=>?_
  ·refine ak w11 0 λH12 w12 s12=>?_
   refine ak w12 0 λH13 w13 s13=>?_
   refine lSl w13 0 ?_
   refine lI w13 0 ?_
   obtain ⟨w14,s14⟩:=w13.nilS (aa eI (aa eI (aa eI (aa eI eI)))).z (by decide)
   obtain ⟨w15,s15⟩:=w14.pp [0] 4
   exact aE hp ⟨_,_,_,_,rfl,rfl,w15,(s0.trans (s1.trans (s2.trans (s3.trans (s5.trans (s11.trans (s12.trans (s13.trans (s14.trans s15))))))))),((CR.empty:CR (aa eI (aa eI (aa eI (aa eI eI)))) _ _ [] []).step s15)⟩
  ·refine lSl w11 2 ?_
   refine lSl w11 1 ?_
   refine aB hp (λhp=>?_) λhp=>?_
   ·refine ak w11 0 λH16 w16 s16=>?_
    refine ak w16 0 λH17 w17 s17=>?_
    refine lSl w17 0 ?_
    refine lI w17 0 ?_
    obtain ⟨w18,s18⟩:=w17.nilS (aa eI (aa eI (aa eI (aa eI eI)))).z (by decide)
    obtain ⟨w19,s19⟩:=w18.pp [0] 4
    exact aE hp ⟨_,_,_,_,rfl,rfl,w19,(s0.trans (s1.trans (s2.trans (s3.trans (s5.trans (s11.trans (s16.trans (s17.trans (s18.trans s19))))))))),((CR.empty:CR (aa eI (aa eI (aa eI (aa eI eI)))) _ _ [] []).step s19)⟩
   ·refine lI w11 2 ?_
    refine lI w11 1 ?_
    refine aB hp (λhp=>?_) λhp=>?_
    ·refine ak w11 0 λH20 w20 s20=>?_
     refine ak w20 0 λH21 w21 s21=>?_
     refine lSl w21 0 ?_
     refine lI w21 0 ?_
     obtain ⟨w22,s22⟩:=w21.nilS (aa eI (aa eI (aa eI (aa eI eI)))).z (by decide)
     obtain ⟨w23,s23⟩:=w22.pp [0] 4
     exact aE hp ⟨_,_,_,_,rfl,rfl,w23,(s0.trans (s1.trans (s2.trans (s3.trans (s5.trans (s11.trans (s20.trans (s21.trans (s22.trans s23))))))))),((CR.empty:CR (aa eI (aa eI (aa eI (aa eI eI)))) _ _ [] []).step s23)⟩
    ·refine lSl w11 2 ?_
     refine lI w11 2 ?_
     refine lSl w11 1 ?_
     refine lI w11 1 ?_
     obtain ⟨r24,e24,hp⟩:=af hp
     refine aM (bN.P rfl rfl ⟨w11,(aU.step (s1.trans (s2.trans (s3.trans (s5.trans s11))))),(eO.step (s1.trans (s2.trans (s3.trans (s5.trans s11)))))⟩ e24) ?_
     rintro _ H25 ⟨o0a_25,o0n_25,o0c_25,o0k_25,rfl,rfl,w25,s25,f25_0⟩
     refine br (br (br (br (br ?_))))
     refine ak w25 1 λH26 w26 s26=>?_
     refine ak w26 1 λH27 w27 s27=>?_
     refine lSl w27 1 ?_
     refine lI w27 1 ?_
     obtain ⟨w28,s28⟩:=w27.pp [0] 4
     exact aE hp ⟨_,_,_,_,rfl,rfl,w28,(s0.trans (s1.trans (s2.trans (s3.trans (s5.trans (s11.trans (s25.trans (s26.trans (s27.trans s28))))))))),(f25_0.step (s26.trans (s27.trans s28)))⟩
def c_.Q (H0:Hp) (Ri R0:Ys)  (r:(List (Int×Int×Int×Int×Int))×Int×Int) (v:AV) (H':Hp):Prop:=∃ o0a:ON,∃ o0n:Nat,∃ o0c:Cap,∃ o0k:List AV,v=(.tup [(.agg [(.sl ⟨o0a,o0n,o0c⟩),(.i r.2.1)]),(.i r.2.2)])/\o0n=(r.1).length/\Out H0 Ri H' (Rs.own ⟨o0a,o0n,o0c⟩ (aa eI (aa eI (aa eI (aa eI eI)))).z o0k::R0) λR=>CR (aa eI (aa eI (aa eI (aa eI eI)))) H' R o0k (r.1)
def c_.p (F:Nat) (ai:Yx) (ag:Int) (az:Int) (g_:Yx) (da:Int) (eH:Int):Option ((List (Int×Int×Int×Int×Int))×Int×Int):=(cW.p F ai ag g_ da).bind λr4=>(bif (r4.2.2 != 0) then (some (([]:List (Int×Int×Int×Int×Int)),0,r4.2.2)) else ((cB.p F az 0 (wrap .i64 ((wrap .i64 (2 * (ai.length:Int))) - 1))).bind λr13=>(bif (!r13) then (some (([]:List (Int×Int×Int×Int×Int)),0,4)) else ((cB.p F eH 0 (wrap .i64 ((wrap .i64 (2 * (g_.length:Int))) - 1))).bind λr19=>(bif (!r19) then (some (([]:List (Int×Int×Int×Int×Int)),0,4)) else ((ax.p F r4.1 az true).bind λr27=>(ax.p F r4.1 (wrap .i64 (eH+(wrap .i64 (2 * (ai.length:Int))))) true).bind λr31=>(ix r4.1 r27.1).bind λn34=>(bY.p F ((gt r4.1 n34).1) ((gt r4.1 n34).2.1) ((gt r4.1 n34).2.2.1) ((gt r4.1 n34).2.2.2.1) ((gt r4.1 n34).2.2.2.2) r27.2 (wrap .i64 (eH+(wrap .i64 (2 * (ai.length:Int)))))).bind λr35=>(ix r4.1 r27.1).bind λn38=>(some (r4.1.set n38 (r35.1,(gt r4.1 n38).2.1,(gt r4.1 n38).2.2.1,(gt r4.1 n38).2.2.2.1,(gt r4.1 n38).2.2.2.2))).bind λl39=>(some (l39.set n38 ((gt l39 n38).1,r35.2.1,(gt l39 n38).2.2.1,(gt l39 n38).2.2.2.1,(gt l39 n38).2.2.2.2))).bind λl41=>(some (l41.set n38 ((gt l41 n38).1,(gt l41 n38).2.1,r35.2.2.1,(gt l41 n38).2.2.2.1,(gt l41 n38).2.2.2.2))).bind λl43=>(some (l43.set n38 ((gt l43 n38).1,(gt l43 n38).2.1,(gt l43 n38).2.2.1,r35.2.2.2.1,(gt l43 n38).2.2.2.2))).bind λl45=>(some (l45.set n38 ((gt l45 n38).1,(gt l45 n38).2.1,(gt l45 n38).2.2.1,(gt l45 n38).2.2.2.1,r35.2.2.2.2))).bind λl47=>(ix l47 r31.1).bind λn49=>(bY.p F ((gt l47 n49).1) ((gt l47 n49).2.1) ((gt l47 n49).2.2.1) ((gt l47 n49).2.2.2.1) ((gt l47 n49).2.2.2.2) r31.2 az).bind λr50=>(ix l47 r31.1).bind λn53=>(some (l47.set n53 (r50.1,(gt l47 n53).2.1,(gt l47 n53).2.2.1,(gt l47 n53).2.2.2.1,(gt l47 n53).2.2.2.2))).bind λl54=>(some (l54.set n53 ((gt l54 n53).1,r50.2.1,(gt l54 n53).2.2.1,(gt l54 n53).2.2.2.1,(gt l54 n53).2.2.2.2))).bind λl56=>(some (l56.set n53 ((gt l56 n53).1,(gt l56 n53).2.1,r50.2.2.1,(gt l56 n53).2.2.2.1,(gt l56 n53).2.2.2.2))).bind λl58=>(some (l58.set n53 ((gt l58 n53).1,(gt l58 n53).2.1,(gt l58 n53).2.2.1,r50.2.2.2.1,(gt l58 n53).2.2.2.2))).bind λl60=>(some (l60.set n53 ((gt l60 n53).1,(gt l60 n53).2.1,(gt l60 n53).2.2.1,(gt l60 n53).2.2.2.1,r50.2.2.2.2))).bind λl62=>some (l62,r4.2.1,0)))))))
theorem c_.P {aG qQ ay lW aH qR ai g_ ag az da eH} (bg:ay=ai.length) (zr:lW=g_.length) (h0:Inn H R0 λR=>ROs (aa eI (aa eI (aa eI (aa eI eI)))) H R ⟨aG,ay,aH⟩ ai/\ROs (aa eI (aa eI (aa eI (aa eI eI)))) H R ⟨qQ,lW,qR⟩ g_) {r:(List (Int×Int×Int×Int×Int))×Int×Int} (hp:c_.p F ai ag az g_ da eH=some r):Rt (c_.tw F ⟨aG,ay,aH⟩ ag az ⟨qQ,lW,qR⟩ da eH H) (c_.Q H R0 R0  r):=by
 obtain ⟨w0,aU,zt⟩:=h0
 subst bg
 subst zr
 unfold c_.p at hp
 unfold c_.tw c_.twX
 have s0:=w0.rf
 refine aY w0 λH1 w1 s1=>?_
 refine aY w1 λH2 w2 s2=>?_
 refine aY w2 λH3 w3 s3=>?_
 refine lSl w3 2 ?_
 refine lI w3 2 ?_
 refine lSl w3 1 ?_
 refine lI w3 1 ?_
 obtain ⟨r4,e4,hp⟩:=af hp
 refine aM (cW.P rfl rfl ⟨w3,(aU.step (s1.trans (s2.trans s3))),(zt.step (s1.trans (s2.trans s3)))⟩ e4) ?_
 rintro _ H5 ⟨o0a_5,o0n_5,o0c_5,o0k_5,rfl,rfl,w5,s5,f5_0⟩
 refine br (br (br (br (br (br (br (br (br ?_))))))))
 refine aY w5 λH6 w6 s6=>?_
 refine ak w6 0 λH7 w7 s7=>?_
 refine ak w7 0 λH8 w8 s8=>?_
 refine aB hp (λhp=>?_) λhp=>?_
 ·refine ak w8 2 λH9 w9 s9=>?_
  refine ak w9 2 λH10 w10 s10=>?_
  refine lSl w10 2 ?_
  refine lI w10 2 ?_
  obtain ⟨w11,s11⟩:=w10.nilS (aa eI (aa eI (aa eI (aa eI eI)))).z (by decide)
  obtain ⟨w12,s12⟩:=w11.pp [0] 6
  exact aE hp ⟨_,_,_,_,rfl,rfl,w12,(s0.trans (s1.trans (s2.trans (s3.trans (s5.trans (s6.trans (s7.trans (s8.trans (s9.trans (s10.trans (s11.trans s12))))))))))),((CR.empty:CR (aa eI (aa eI (aa eI (aa eI eI)))) _ _ [] []).step s12)⟩
 ·refine lSl w8 4 ?_
  obtain ⟨r13,e13,hp⟩:=af hp
  refine aM (cB.P ⟨w8,trivial⟩ e13) ?_
  rintro _ H14 ⟨rfl,w14,s14,_⟩
  refine br ?_
  refine aB hp (λhp=>?_) λhp=>?_
  ·refine ak w14 2 λH15 w15 s15=>?_
   refine ak w15 2 λH16 w16 s16=>?_
   refine lSl w16 2 ?_
   refine lI w16 2 ?_
   obtain ⟨w17,s17⟩:=w16.nilS (aa eI (aa eI (aa eI (aa eI eI)))).z (by decide)
   obtain ⟨w18,s18⟩:=w17.pp [0] 6
   exact aE hp ⟨_,_,_,_,rfl,rfl,w18,(s0.trans (s1.trans (s2.trans (s3.trans (s5.trans (s6.trans (s7.trans (s8.trans (s14.trans (s15.trans (s16.trans (s17.trans s18)))))))))))),((CR.empty:CR (aa eI (aa eI (aa eI (aa eI eI)))) _ _ [] []).step s18)⟩
  ·refine lSl w14 3 ?_
   obtain ⟨r19,e19,hp⟩:=af hp
   refine aM (cB.P ⟨w14,trivial⟩ e19) ?_
   rintro _ H20 ⟨rfl,w20,s20,_⟩
   refine br ?_
   refine aB hp (λhp=>?_) λhp=>?_
   ·refine ak w20 2 λH21 w21 s21=>?_
    refine ak w21 2 λH22 w22 s22=>?_
    refine lSl w22 2 ?_
    refine lI w22 2 ?_
    obtain ⟨w23,s23⟩:=w22.nilS (aa eI (aa eI (aa eI (aa eI eI)))).z (by decide)
    obtain ⟨w24,s24⟩:=w23.pp [0] 6
    exact aE hp ⟨_,_,_,_,rfl,rfl,w24,(s0.trans (s1.trans (s2.trans (s3.trans (s5.trans (s6.trans (s7.trans (s8.trans (s14.trans (s20.trans (s21.trans (s22.trans (s23.trans s24))))))))))))),((CR.empty:CR (aa eI (aa eI (aa eI (aa eI eI)))) _ _ [] []).step s24)⟩
   ·refine lSl w20 0 ?_
    refine lI w20 0 ?_
    obtain ⟨w25,s25⟩:=w20.pp [1,0,2,3,4] 5
    have f26:=W.borrow1 (aa eI (aa eI (aa eI (aa eI eI)))) w25 (f5_0.step (s6.trans (s7.trans (s8.trans (s14.trans (s20.trans s25))))))
    obtain ⟨w26,s26⟩:=w25.right1
    obtain ⟨r27,e27,hp⟩:=af hp
    refine aM (ax.P rfl ⟨w26,f26⟩ e27) ?_
    rintro _ H28 ⟨rfl,w28,s28,_⟩
    obtain ⟨w29,s29⟩:=W.frame1 w25 w28 s28
    refine br (br (br (br (br ?_))))
    refine lSl w29 1 ?_
    refine lI w29 1 ?_
    have f30:=W.borrow1 (aa eI (aa eI (aa eI (aa eI eI)))) w29 (f5_0.step (s6.trans (s7.trans (s8.trans (s14.trans (s20.trans (s25.trans s29)))))))
    obtain ⟨w30,s30⟩:=w29.right1
    obtain ⟨r31,e31,hp⟩:=af hp
    refine aM (ax.P rfl ⟨w30,f30⟩ e31) ?_
    rintro _ H32 ⟨rfl,w32,s32,_⟩
    obtain ⟨w33,s33⟩:=W.frame1 w29 w32 s32
    refine br (br (br (br (br ?_))))
    refine lSl w33 1 ?_
    refine lSl w33 1 ?_
    obtain ⟨n34,g34,hp⟩:=af hp
    obtain ⟨p34,q34,i34,h34,j34⟩:=W.ixo (E:=(aa eI (aa eI (aa eI (aa eI eI))))) w33 (i:=0) rfl rfl (f5_0.step (s6.trans (s7.trans (s8.trans (s14.trans (s20.trans (s25.trans (s29.trans s33)))))))) g34
    refine aj i34 ?_
    obtain ⟨_,_,rfl,rfl,_,_,rfl,rfl,_,_,rfl,rfl,_,_,rfl,rfl,rfl⟩:=h34
    refine aj (aC (j34 0 _ rfl)) ?_
    refine aj (aC (j34 1 _ rfl)) ?_
    refine aj (aC (j34 2 _ rfl)) ?_
    refine aj (aC (j34 3 _ rfl)) ?_
    refine aj (aC (j34 4 _ rfl)) ?_
    obtain ⟨r35,e35,hp⟩:=af hp
    refine aM (bY.P ⟨w33,trivial⟩ e35) ?_
    rintro _ H36 ⟨rfl,w36,s36,_⟩
    refine br (br (br (br (br (br (br (br (br (br (br ?_))))))))))
    refine fZ (W.cons_of (Rn:=[]) w33 w36 s36) ?_
    obtain ⟨n38,g38,hp⟩:=af hp
    obtain ⟨p38,q38,i38,h38,j38⟩:=W.ixo (E:=(aa eI (aa eI (aa eI (aa eI eI))))) w36 (i:=0) rfl rfl (f5_0.step (s6.trans (s7.trans (s8.trans (s14.trans (s20.trans (s25.trans (s29.trans (s33.trans s36))))))))) g38
    refine aj i38 ?_
    obtain ⟨l39,e39,hp⟩:=af hp
    refine bV (aa eI (aa eI (aa eI (aa eI eI)))) w36 (i:=0) (j:=0) (p:=p38) rfl rfl (f5_0.step (s6.trans (s7.trans (s8.trans (s14.trans (s20.trans (s25.trans (s29.trans (s33.trans s36))))))))) g38 i38 e39 rfl rfl (λ_ h=>by obtain ⟨_,_,rfl,rfl,_,_,rfl,rfl,_,_,rfl,rfl,_,_,rfl,rfl,rfl⟩:=h;exact ⟨[_],_,rfl,rfl,[_],_,rfl,rfl,[_],_,rfl,rfl,[_],_,rfl,rfl,rfl⟩) λH40 k40 w40 s40 c40=>?_
    obtain ⟨l41,e41,hp⟩:=af hp
    refine bV (aa eI (aa eI (aa eI (aa eI eI)))) w40 (i:=0) (j:=1) (p:=p38) rfl rfl c40 (eQ g38 (aT e39)) i38 e41 rfl rfl (λ_ h=>by obtain ⟨_,_,rfl,rfl,_,_,rfl,rfl,_,_,rfl,rfl,_,_,rfl,rfl,rfl⟩:=h;exact ⟨[_],_,rfl,rfl,[_],_,rfl,rfl,[_],_,rfl,rfl,[_],_,rfl,rfl,rfl⟩) λH42 k42 w42 s42 c42=>?_
    obtain ⟨l43,e43,hp⟩:=af hp
    refine bV (aa eI (aa eI (aa eI (aa eI eI)))) w42 (i:=0) (j:=2) (p:=p38) rfl rfl c42 (eQ g38 ((aT e41).trans (aT e39))) i38 e43 rfl rfl (λ_ h=>by obtain ⟨_,_,rfl,rfl,_,_,rfl,rfl,_,_,rfl,rfl,_,_,rfl,rfl,rfl⟩:=h;exact ⟨[_],_,rfl,rfl,[_],_,rfl,rfl,[_],_,rfl,rfl,[_],_,rfl,rfl,rfl⟩) λH44 k44 w44 s44 c44=>?_
    obtain ⟨l45,e45,hp⟩:=af hp
    refine bV (aa eI (aa eI (aa eI (aa eI eI)))) w44 (i:=0) (j:=3) (p:=p38) rfl rfl c44 (eQ g38 (((aT e43).trans (aT e41)).trans (aT e39))) i38 e45 rfl rfl (λ_ h=>by obtain ⟨_,_,rfl,rfl,_,_,rfl,rfl,_,_,rfl,rfl,_,_,rfl,rfl,rfl⟩:=h;exact ⟨[_],_,rfl,rfl,[_],_,rfl,rfl,[_],_,rfl,rfl,[_],_,rfl,rfl,rfl⟩) λH46 k46 w46 s46 c46=>?_
    obtain ⟨l47,e47,hp⟩:=af hp
    refine bV (aa eI (aa eI (aa eI (aa eI eI)))) w46 (i:=0) (j:=4) (p:=p38) rfl rfl c46 (eQ g38 ((((aT e45).trans (aT e43)).trans (aT e41)).trans (aT e39))) i38 e47 rfl rfl (λ_ h=>by obtain ⟨_,_,rfl,rfl,_,_,rfl,rfl,_,_,rfl,rfl,_,_,rfl,rfl,rfl⟩:=h;exact ⟨[_],_,rfl,rfl,[_],_,rfl,rfl,[_],_,rfl,rfl,[_],_,rfl,rfl,rfl⟩) λH48 k48 w48 s48 c48=>?_
    refine lSl w48 1 ?_
    refine lSl w48 1 ?_
    obtain ⟨n49,g49,hp⟩:=af hp
    obtain ⟨p49,q49,i49,h49,j49⟩:=W.ixo (E:=(aa eI (aa eI (aa eI (aa eI eI))))) w48 (i:=0) rfl rfl c48 g49
    refine aj i49 ?_
    obtain ⟨_,_,rfl,rfl,_,_,rfl,rfl,_,_,rfl,rfl,_,_,rfl,rfl,rfl⟩:=h49
    refine aj (aC (j49 0 _ rfl)) ?_
    refine aj (aC (j49 1 _ rfl)) ?_
    refine aj (aC (j49 2 _ rfl)) ?_
    refine aj (aC (j49 3 _ rfl)) ?_
    refine aj (aC (j49 4 _ rfl)) ?_
    obtain ⟨r50,e50,hp⟩:=af hp
    refine aM (bY.P ⟨w48,trivial⟩ e50) ?_
    rintro _ H51 ⟨rfl,w51,s51,_⟩
    refine br (br (br (br (br (br (br (br (br (br (br ?_))))))))))
    refine fZ (W.cons_of (Rn:=[]) w48 w51 s51) ?_
    obtain ⟨n53,g53,hp⟩:=af hp
    obtain ⟨p53,q53,i53,h53,j53⟩:=W.ixo (E:=(aa eI (aa eI (aa eI (aa eI eI))))) w51 (i:=0) rfl rfl (c48.step s51) g53
    refine aj i53 ?_
    obtain ⟨l54,e54,hp⟩:=af hp
    refine bV (aa eI (aa eI (aa eI (aa eI eI)))) w51 (i:=0) (j:=0) (p:=p53) rfl rfl (c48.step s51) g53 i53 e54 rfl rfl (λ_ h=>by obtain ⟨_,_,rfl,rfl,_,_,rfl,rfl,_,_,rfl,rfl,_,_,rfl,rfl,rfl⟩:=h;exact ⟨[_],_,rfl,rfl,[_],_,rfl,rfl,[_],_,rfl,rfl,[_],_,rfl,rfl,rfl⟩) λH55 k55 w55 s55 c55=>?_
    dsimp only [pk,pks,nth,List.drop,List.set,List.eraseIdx] at w55 s7 s8 s25 s40 c40 s42 c42 s44 c44 s46 c46 s48 c48 s55 c55
    obtain ⟨l56,e56,hp⟩:=af hp
    refine bV (aa eI (aa eI (aa eI (aa eI eI)))) w55 (i:=0) (j:=1) (p:=p53) rfl rfl c55 (eQ g53 (aT e54)) i53 e56 rfl rfl (λ_ h=>by obtain ⟨_,_,rfl,rfl,_,_,rfl,rfl,_,_,rfl,rfl,_,_,rfl,rfl,rfl⟩:=h;exact ⟨[_],_,rfl,rfl,[_],_,rfl,rfl,[_],_,rfl,rfl,[_],_,rfl,rfl,rfl⟩) λH57 k57 w57 s57 c57=>?_
    obtain ⟨l58,e58,hp⟩:=af hp
    refine bV (aa eI (aa eI (aa eI (aa eI eI)))) w57 (i:=0) (j:=2) (p:=p53) rfl rfl c57 (eQ g53 ((aT e56).trans (aT e54))) i53 e58 rfl rfl (λ_ h=>by obtain ⟨_,_,rfl,rfl,_,_,rfl,rfl,_,_,rfl,rfl,_,_,rfl,rfl,rfl⟩:=h;exact ⟨[_],_,rfl,rfl,[_],_,rfl,rfl,[_],_,rfl,rfl,[_],_,rfl,rfl,rfl⟩) λH59 k59 w59 s59 c59=>?_
    obtain ⟨l60,e60,hp⟩:=af hp
    refine bV (aa eI (aa eI (aa eI (aa eI eI)))) w59 (i:=0) (j:=3) (p:=p53) rfl rfl c59 (eQ g53 (((aT e58).trans (aT e56)).trans (aT e54))) i53 e60 rfl rfl (λ_ h=>by obtain ⟨_,_,rfl,rfl,_,_,rfl,rfl,_,_,rfl,rfl,_,_,rfl,rfl,rfl⟩:=h;exact ⟨[_],_,rfl,rfl,[_],_,rfl,rfl,[_],_,rfl,rfl,[_],_,rfl,rfl,rfl⟩) λH61 k61 w61 s61 c61=>?_
    obtain ⟨l62,e62,hp⟩:=af hp
    refine bV (aa eI (aa eI (aa eI (aa eI eI)))) w61 (i:=0) (j:=4) (p:=p53) rfl rfl c61 (eQ g53 ((((aT e60).trans (aT e58)).trans (aT e56)).trans (aT e54))) i53 e62 rfl rfl (λ_ h=>by obtain ⟨_,_,rfl,rfl,_,_,rfl,rfl,_,_,rfl,rfl,_,_,rfl,rfl,rfl⟩:=h;exact ⟨[_],_,rfl,rfl,[_],_,rfl,rfl,[_],_,rfl,rfl,[_],_,rfl,rfl,rfl⟩) λH63 k63 w63 s63 c63=>?_
    refine lSl w63 1 ?_
    refine lI w63 1 ?_
    refine ak w63 2 λH64 w64 s64=>?_
    refine ak w64 2 λH65 w65 s65=>?_
    refine lSl w65 2 ?_
    refine lI w65 2 ?_
    obtain ⟨w66,s66⟩:=w65.pp [0] 5
    exact aE hp ⟨_,_,_,_,rfl,((((((((((aT e39).symm.trans (aT e41).symm).trans (aT e43).symm).trans (aT e45).symm).trans (aT e47).symm).trans (aT e54).symm).trans (aT e56).symm).trans (aT e58).symm).trans (aT e60).symm).trans (aT e62).symm),w66,(s0.trans (s1.trans (s2.trans (s3.trans (s5.trans (s6.trans (s7.trans (s8.trans (s14.trans (s20.trans (s25.trans (s29.trans (s33.trans (s36.trans (s40.trans (s42.trans (s44.trans (s46.trans (s48.trans (s51.trans (s55.trans (s57.trans (s59.trans (s61.trans (s63.trans (s64.trans (s65.trans s66))))))))))))))))))))))))))),(c63.step (s64.trans (s65.trans s66)))⟩
def dR.Q (H0:Hp) (Ri R0:Ys)  (r:Zi) (v:AV) (H':Hp):Prop:=v=(.agg [(.i r.1),(.i r.2.1),(.i r.2.2.1),(.i r.2.2.2.1),(.i r.2.2.2.2)])/\Out H0 Ri H' (R0) λR=>True
def dR.p (F:Nat) (ac:Int) (ag:Int) (bx:Int) (bz:Int) (bq:Int):Option (Int×Int×Int×Int×Int):=(bif (bq==1) then (some (bz,ac,ag,bx,(-1))) else (some (ag,bx,bz,ac,1)))
theorem dR.P {ac ag bx bz bq}  (h0:Inn H R0 λR=>True) {r:Zi} (hp:dR.p F ac ag bx bz bq=some r):Rt (dR.tw F ac ag bx bz bq H) (dR.Q H R0 R0  r):=by
 obtain ⟨w0,_⟩:=h0
 unfold dR.p at hp
 unfold dR.tw dR.twX
 have s0:=w0.rf
 refine aY w0 λH1 w1 s1=>?_
 refine aY w1 λH2 w2 s2=>?_
 refine lI w2 1 ?_
 refine aB hp (λhp=>?_) λhp=>?_
 ·refine lI w2 1 ?_
  refine lI w2 1 ?_
  refine lI w2 1 ?_
  refine lI w2 1 ?_
  refine ak w2 0 λH3 w3 s3=>?_
  refine ak w3 0 λH4 w4 s4=>?_
  refine ak w4 0 λH5 w5 s5=>?_
  refine ak w5 0 λH6 w6 s6=>?_
  refine ak w6 0 λH7 w7 s7=>?_
  refine lI w7 0 ?_
  refine lI w7 0 ?_
  refine lI w7 0 ?_
  refine lI w7 0 ?_
  refine lI w7 0 ?_
  obtain ⟨w8,s8⟩:=w7.pp [] 2
  exact aE hp ⟨rfl,w8,(s0.trans (s1.trans (s2.trans (s3.trans (s4.trans (s5.trans (s6.trans (s7.trans s8)))))))),trivial⟩
 ·refine lI w2 1 ?_
  refine lI w2 1 ?_
  refine lI w2 1 ?_
  refine lI w2 1 ?_
  refine ak w2 0 λH9 w9 s9=>?_
  refine ak w9 0 λH10 w10 s10=>?_
  refine ak w10 0 λH11 w11 s11=>?_
  refine ak w11 0 λH12 w12 s12=>?_
  refine ak w12 0 λH13 w13 s13=>?_
  refine lI w13 0 ?_
  refine lI w13 0 ?_
  refine lI w13 0 ?_
  refine lI w13 0 ?_
  refine lI w13 0 ?_
  obtain ⟨w14,s14⟩:=w13.pp [] 2
  exact aE hp ⟨rfl,w14,(s0.trans (s1.trans (s2.trans (s9.trans (s10.trans (s11.trans (s12.trans (s13.trans s14)))))))),trivial⟩
def bv.Q (H0:Hp) (Ri R0:Ys)  (r:(List (Int×Int×Int×Int×Int))×Int) (v:AV) (H':Hp):Prop:=∃ o0a:ON,∃ o0n:Nat,∃ o0c:Cap,∃ o0k:List AV,v=(.agg [(.sl ⟨o0a,o0n,o0c⟩),(.i r.2)])/\o0n=(r.1).length/\Out H0 Ri H' (Rs.own ⟨o0a,o0n,o0c⟩ (aa eI (aa eI (aa eI (aa eI eI)))).z o0k::R0) λR=>CR (aa eI (aa eI (aa eI (aa eI eI)))) H' R o0k (r.1)
def bv.S61 (H0:Hp) (Ri R0:Ys)  (C:Nat->Nat->Nat->Nat->Nat->Nat->Int->Hp->OA) (pC:List (Int×Int×Int×Int×Int)->List (Int×Int×Int×Int×Int)->Int->Int->Option ((List (Int×Int×Int×Int×Int))×Int)):Prop:=∀ {Bp Bq Br vD jy vE ev vF iw Bs Bt Bu gO Bv mp JY JZ pr gu Bw Bx},∀ {H:Hp},vD=gO.length->vE=Bv.length->vF=mp.length->(Out H0 Ri H (Rs.blk jy [.sl ⟨Bp,vD,Bs⟩,.i JY]::Rs.own ⟨Bq,vE,Bt⟩ (aa eI (aa eI (aa eI (aa eI eI)))).z Bw::Rs.blk ev [.sl ⟨Bq,vE,Bt⟩,.i JZ]::Rs.own ⟨Br,vF,Bu⟩ (aa eI (aa eI (aa eI (aa eI eI)))).z Bx::Rs.blk iw [.sl ⟨Br,vF,Bu⟩,.i pr]::R0) λR=>ROs (aa eI (aa eI (aa eI (aa eI eI)))) H R ⟨Bp,vD,Bs⟩ gO/\CR (aa eI (aa eI (aa eI (aa eI eI)))) H R Bw Bv/\CR (aa eI (aa eI (aa eI (aa eI eI)))) H R Bx mp)->∀ {r:(List (Int×Int×Int×Int×Int))×Int},pC gO mp pr gu=some r->Rt (C jy 0 ev 0 iw 0 gu H) (bv.Q H0 Ri R0  r)
def bv.pl61 (F:Nat) :Nat->List (Int×Int×Int×Int×Int)->List (Int×Int×Int×Int×Int)->Int->Int->Option ((List (Int×Int×Int×Int×Int))×Int)
 | 0,_,_,_,_=>none
 | k+1,gO,mp,pr,gu=>(bif (decide (gu<(gO.length:Int))) then ((ix gO gu).bind λn1=>(dR.p F ((gt gO n1).1) ((gt gO n1).2.1) ((gt gO n1).2.2.1) ((gt gO n1).2.2.2.1) ((gt gO n1).2.2.2.2)).bind λr2=>(apn mp ([(r2.1,r2.2.1,r2.2.2.1,r2.2.2.2.1,r2.2.2.2.2)]:List (Int×Int×Int×Int×Int))).bind λl6=>bv.pl61 F k gO l6 pr (wrap .i64 (gu+1))) else (some (mp,pr)))
theorem bv.l61_P  :∀ k,bv.S61 H0 Ri R0  (bv.l61 F (bL.tw F) (dR.tw F)  k) (bv.pl61 F  k):=by
 intro k
 induction k with
 | zero=>unfold bv.S61;intros;rename_i hp;cases hp
 | succ k ih=>
  intro Bp Bq Br vD jy vE ev vF iw Bs Bt Bu gO Bv mp JY JZ pr gu Bw Bx H TX TY TZ h0 r hp
  obtain ⟨w0,s0,J_,T_,Ka⟩:=h0
  subst TX
  subst TY
  subst TZ
  unfold bv.pl61 at hp
  unfold bv.l61
  refine lSl w0 0 ?_
  refine aB hp (λhp=>?_) λhp=>?_
  ·refine lSl w0 4 ?_
   refine lSl w0 0 ?_
   obtain ⟨n1,g1,hp⟩:=af hp
   obtain ⟨p1,q1,i1,h1,j1⟩:=ROs.ixr J_ rfl g1
   refine aj i1 ?_
   obtain ⟨_,_,rfl,rfl,_,_,rfl,rfl,_,_,rfl,rfl,_,_,rfl,rfl,rfl⟩:=h1
   refine aj (aC (j1 0 _ rfl)) ?_
   refine aj (aC (j1 1 _ rfl)) ?_
   refine aj (aC (j1 2 _ rfl)) ?_
   refine aj (aC (j1 3 _ rfl)) ?_
   refine aj (aC (j1 4 _ rfl)) ?_
   obtain ⟨r2,e2,hp⟩:=af hp
   refine aM (dR.P ⟨w0,trivial⟩ e2) ?_
   rintro _ H3 ⟨rfl,w3,s3,_⟩
   refine br (br (br (br (br (br (br (br (br (br (br ?_))))))))))
   refine fZ (W.cons_of (Rn:=[]) w0 w3 s3) ?_
   refine dl (aa eI (aa eI (aa eI (aa eI eI)))) w3 (n:=1) (l:=([(r2.1,r2.2.1,r2.2.2.1,r2.2.2.2.1,r2.2.2.2.2)]:List (Int×Int×Int×Int×Int))) rfl (CR.cons (c:=[_,_,_,_,_]) ⟨[_],_,rfl,rfl,⟨[_],_,rfl,rfl,⟨[_],_,rfl,rfl,⟨[_],_,rfl,rfl,rfl⟩⟩⟩⟩ CR.empty) rfl λH5 w5 s5 c5=>?_
   refine aj (w5.rowo (i:=0) rfl) ?_
   obtain ⟨l6,e6,hp⟩:=af hp
   refine fQ (aa eI (aa eI (aa eI (aa eI eI)))) w5 (i:=4) rfl rfl (Ka.step (s3.trans s5)) c5 (show 1=List.length ([(r2.1,r2.2.1,r2.2.2.1,r2.2.2.2.1,r2.2.2.2.2)]:List (Int×Int×Int×Int×Int)) from rfl) rfl e6 λa7 d7 H7 w7 s7 c7 x7=>?_
   refine ak w7 5 λH8 w8 s8=>?_
   obtain ⟨w9,s9⟩:=w8.pp [1,2,3,4,5] 6
   exact ih rfl rfl rfl ⟨w9,(s0.trans (s3.trans (s5.trans (s7.trans (s8.trans s9))))),(J_.step (s3.trans (s5.trans (s7.trans (s8.trans s9))))),(T_.step (s3.trans (s5.trans (s7.trans (s8.trans s9))))),(c7.step (s8.trans s9))⟩ hp
  ·refine lSl w0 4 ?_
   refine lI w0 4 ?_
   refine ak w0 2 λH10 w10 s10=>?_
   refine ak w10 2 λH11 w11 s11=>?_
   refine lSl w11 2 ?_
   refine lI w11 2 ?_
   obtain ⟨w12,s12⟩:=w11.pp [3] 5
   exact aE hp ⟨_,_,_,_,rfl,rfl,w12,(s0.trans (s10.trans (s11.trans s12))),(Ka.step (s10.trans (s11.trans s12)))⟩
def bv.p (F:Nat) (ai:Yx) (ag:Int):Option ((List (Int×Int×Int×Int×Int))×Int):=(bL.p F ai ag).bind λr3=>(bif (!r3) then (some (([]:List (Int×Int×Int×Int×Int)),0)) else (bv.pl61 F F ai ([]:List (Int×Int×Int×Int×Int)) ag 0))
theorem bv.P {aG ay aH ai ag} (bg:ay=ai.length) (h0:Inn H R0 λR=>ROs (aa eI (aa eI (aa eI (aa eI eI)))) H R ⟨aG,ay,aH⟩ ai) {r:(List (Int×Int×Int×Int×Int))×Int} (hp:bv.p F ai ag=some r):Rt (bv.tw F ⟨aG,ay,aH⟩ ag H) (bv.Q H R0 R0  r):=by
 obtain ⟨w0,aU⟩:=h0
 subst bg
 unfold bv.p at hp
 unfold bv.tw bv.twX
 have s0:=w0.rf
 refine aY w0 λH1 w1 s1=>?_
 refine aY w1 λH2 w2 s2=>?_
 refine lSl w2 1 ?_
 refine lI w2 1 ?_
 obtain ⟨r3,e3,hp⟩:=af hp
 refine aM (bL.P rfl ⟨w2,(aU.step (s1.trans s2))⟩ e3) ?_
 rintro _ H4 ⟨rfl,w4,s4,_⟩
 refine br ?_
 refine aB hp (λhp=>?_) λhp=>?_
 ·refine ak w4 0 λH5 w5 s5=>?_
  refine ak w5 0 λH6 w6 s6=>?_
  refine lSl w6 0 ?_
  refine lI w6 0 ?_
  obtain ⟨w7,s7⟩:=w6.nilS (aa eI (aa eI (aa eI (aa eI eI)))).z (by decide)
  obtain ⟨w8,s8⟩:=w7.pp [0] 3
  exact aE hp ⟨_,_,_,_,rfl,rfl,w8,(s0.trans (s1.trans (s2.trans (s4.trans (s5.trans (s6.trans (s7.trans s8))))))),((CR.empty:CR (aa eI (aa eI (aa eI (aa eI eI)))) _ _ [] []).step s8)⟩
 ·refine lI w4 1 ?_
  refine aY w4 λH9 w9 s9=>?_
  refine ak w9 0 λH10 w10 s10=>?_
  refine ak w10 0 λH11 w11 s11=>?_
  obtain ⟨w12,s12⟩:=w11.nilS (aa eI (aa eI (aa eI (aa eI eI)))).z (by decide)
  obtain ⟨w13,s13⟩:=w12.nilS (aa eI (aa eI (aa eI (aa eI eI)))).z (by decide)
  obtain ⟨w14,s14⟩:=w13.pp [4,1,3,0,2] 5
  exact bv.l61_P F rfl rfl rfl ⟨w14,(s0.trans (s1.trans (s2.trans (s4.trans (s9.trans (s10.trans (s11.trans (s12.trans (s13.trans s14))))))))),(aU.step (s1.trans (s2.trans (s4.trans (s9.trans (s10.trans (s11.trans (s12.trans (s13.trans s14))))))))),((CR.empty:CR (aa eI (aa eI (aa eI (aa eI eI)))) _ _ [] []).step (s13.trans s14)),((CR.empty:CR (aa eI (aa eI (aa eI (aa eI eI)))) _ _ [] []).step s14)⟩ hp
def dv.Q (H0:Hp) (Ri R0:Ys) (cG:ON) (cn ac:Nat) (cH:Cap) (r:(List (Int×Int×Int×Int×Int))×Int×Int×Int) (v:AV) (H':Hp):Prop:=∃ o0a:ON,∃ o0n:Nat,∃ o0c:Cap,∃ o0k:List AV,v=(.agg [(.sl ⟨o0a,o0n,o0c⟩),(.i r.2.1)])/\o0n=(r.1).length/\Out H0 Ri H' (Rs.own ⟨o0a,o0n,o0c⟩ (aa eI (aa eI (aa eI (aa eI eI)))).z o0k::Rs.blk ac [.sl ⟨cG,cn,cH⟩,.i (r.2.2.1),.i (r.2.2.2)]::R0) λR=>CR (aa eI (aa eI (aa eI (aa eI eI)))) H' R o0k (r.1)
def dv.p (F:Nat) (bO:Yr) (aR:Int) (aS:Int):Option ((List (Int×Int×Int×Int×Int))×Int×Int×Int):=(aL.p F bO aR aS 5).bind λr3=>(aJ.p F bO r3.2.2.1 r3.2.2.2 5).bind λr9=>(bif (r9.1==0) then ((aL.p F bO r9.2.1 r9.2.2 4).bind λr11=>(c_.p F r3.1 r3.2.1 0 r11.1 r11.2.1 0).bind λr19=>(bif (r19.2.2==0) then (some (r19.1,r19.2.1,r11.2.2.1,r11.2.2.2)) else (some (r3.1,r3.2.1,r11.2.2.1,r11.2.2.2)))) else ((bif (r9.1==1) then ((aL.p F bO r9.2.1 r9.2.2 3).bind λr32=>(cW.p F r3.1 r3.2.1 r32.1 r32.2.1).bind λr40=>(bif (r40.2.2==0) then (some (r40.1,r40.2.1,r32.2.2.1,r32.2.2.2)) else (some (r3.1,r3.2.1,r32.2.2.1,r32.2.2.2)))) else ((bif (r9.1==2) then ((bv.p F r3.1 r3.2.1).bind λr55=>some (r55.1,r55.2,r9.2.1,r9.2.2)) else (some (r3.1,r3.2.1,r9.2.1,r9.2.2)))))))
theorem dv.P {cG cn ac cH bO aR aS} (jA:cn=bO.length) (h0:Inn H (Rs.blk ac [.sl ⟨cG,cn,cH⟩,.i aR,.i aS]::R0) λR=>ROs (dk .u8) H R ⟨cG,cn,cH⟩ bO) {r:(List (Int×Int×Int×Int×Int))×Int×Int×Int} (hp:dv.p F bO aR aS=some r):Rt (dv.tw F ac 0 H) (dv.Q H (Rs.blk ac [.sl ⟨cG,cn,cH⟩,.i aR,.i aS]::R0) R0 cG cn ac cH r):=by
 obtain ⟨w0,dK⟩:=h0
 subst jA
 unfold dv.p at hp
 unfold dv.tw dv.twX
 have s0:=w0.rf
 refine aY w0 λH1 w1 s1=>?_
 obtain ⟨w2,s2⟩:=w1.pp [1,0] 2
 obtain ⟨r3,e3,hp⟩:=af hp
 refine aM (aL.P rfl ⟨w2,(dK.step (s1.trans s2))⟩ e3) ?_
 rintro _ H4 ⟨o0a_4,o0n_4,o0c_4,o0k_4,rfl,rfl,w4,s4,f4_0⟩
 refine br (br (br (br (br ?_))))
 refine aY w4 λH5 w5 s5=>?_
 refine ak w5 0 λH6 w6 s6=>?_
 refine ak w6 0 λH7 w7 s7=>?_
 obtain ⟨w8,s8⟩:=w7.pp [2,0,1,3] 4
 obtain ⟨r9,e9,hp⟩:=af hp
 refine aM (aJ.P rfl ⟨w8,(dK.step (s1.trans (s2.trans (s4.trans (s5.trans (s6.trans (s7.trans s8)))))))⟩ e9) ?_
 rintro _ H10 ⟨rfl,w10,s10,_⟩
 refine br ?_
 refine aB hp (λhp=>?_) λhp=>?_
 ·obtain ⟨r11,e11,hp⟩:=af hp
  refine aM (aL.P rfl ⟨w10,(dK.step (s1.trans (s2.trans (s4.trans (s5.trans (s6.trans (s7.trans (s8.trans s10))))))))⟩ e11) ?_
  rintro _ H12 ⟨o0a_12,o0n_12,o0c_12,o0k_12,rfl,rfl,w12,s12,f12_0⟩
  refine br (br (br (br (br ?_))))
  refine aY w12 λH13 w13 s13=>?_
  refine ak w13 0 λH14 w14 s14=>?_
  refine ak w14 0 λH15 w15 s15=>?_
  refine lSl w15 3 ?_
  refine lI w15 3 ?_
  refine lSl w15 0 ?_
  refine lI w15 0 ?_
  obtain ⟨w16,s16⟩:=w15.pp [4,1,0,2,3,5] 6
  have f17:=W.borrow1 (aa eI (aa eI (aa eI (aa eI eI)))) w16 (f4_0.step (s5.trans (s6.trans (s7.trans (s8.trans (s10.trans (s12.trans (s13.trans (s14.trans (s15.trans s16))))))))))
  obtain ⟨w17,s17⟩:=w16.right1
  have f18:=W.borrow1 (aa eI (aa eI (aa eI (aa eI eI)))) w17 ((f12_0.step (s13.trans (s14.trans (s15.trans s16)))).step s17)
  obtain ⟨w18,s18⟩:=w17.right1
  obtain ⟨r19,e19,hp⟩:=af hp
  refine aM (c_.P rfl rfl ⟨w18,(f17.step s18),f18⟩ e19) ?_
  rintro _ H20 ⟨o0a_20,o0n_20,o0c_20,o0k_20,rfl,rfl,w20,s20,f20_0⟩
  obtain ⟨w21,s21⟩:=W.frame1 w17 w20 s20
  obtain ⟨w22,s22⟩:=W.frame1 w16 w21 s21
  refine br (br (br (br (br (br (br (br (br ?_))))))))
  refine aY w22 λH23 w23 s23=>?_
  refine ak w23 0 λH24 w24 s24=>?_
  refine ak w24 0 λH25 w25 s25=>?_
  dsimp only [pk,pks,nth,List.drop,List.set,List.eraseIdx] at w25 s2 s5 s6 s7 s8 s13 s14 s15 s16 s23 s24 s25
  refine aB hp (λhp=>?_) λhp=>?_
  ·refine lSl w25 0 ?_
   refine lI w25 0 ?_
   refine ak w25 7 λH26 w26 s26=>?_
   refine ak w26 7 λH27 w27 s27=>?_
   refine lSl w27 7 ?_
   refine lI w27 7 ?_
   obtain ⟨w28,s28⟩:=w27.pp [3,5] 8
   exact aE hp ⟨_,_,_,_,rfl,rfl,w28,(s0.trans (s1.trans (s2.trans (s4.trans (s5.trans (s6.trans (s7.trans (s8.trans (s10.trans (s12.trans (s13.trans (s14.trans (s15.trans (s16.trans (s22.trans (s23.trans (s24.trans (s25.trans (s26.trans (s27.trans s28)))))))))))))))))))),((CR.flat (dp (cv .i64) (dp (cv .i64) (dp (cv .i64) (dp (cv .i64) (cv .i64))))) f20_0).step (s23.trans (s24.trans (s25.trans (s26.trans (s27.trans s28))))))⟩
  ·refine lSl w25 6 ?_
   refine lI w25 6 ?_
   refine ak w25 7 λH29 w29 s29=>?_
   refine ak w29 7 λH30 w30 s30=>?_
   refine lSl w30 7 ?_
   refine lI w30 7 ?_
   obtain ⟨w31,s31⟩:=w30.pp [1,5] 8
   exact aE hp ⟨_,_,_,_,rfl,rfl,w31,(s0.trans (s1.trans (s2.trans (s4.trans (s5.trans (s6.trans (s7.trans (s8.trans (s10.trans (s12.trans (s13.trans (s14.trans (s15.trans (s16.trans (s22.trans (s23.trans (s24.trans (s25.trans (s29.trans (s30.trans s31)))))))))))))))))))),(f4_0.step (s5.trans (s6.trans (s7.trans (s8.trans (s10.trans (s12.trans (s13.trans (s14.trans (s15.trans (s16.trans (s22.trans (s23.trans (s24.trans (s25.trans (s29.trans (s30.trans s31)))))))))))))))))⟩
 ·refine aB hp (λhp=>?_) λhp=>?_
  ·obtain ⟨r32,e32,hp⟩:=af hp
   refine aM (aL.P rfl ⟨w10,(dK.step (s1.trans (s2.trans (s4.trans (s5.trans (s6.trans (s7.trans (s8.trans s10))))))))⟩ e32) ?_
   rintro _ H33 ⟨o0a_33,o0n_33,o0c_33,o0k_33,rfl,rfl,w33,s33,f33_0⟩
   refine br (br (br (br (br ?_))))
   refine aY w33 λH34 w34 s34=>?_
   refine ak w34 0 λH35 w35 s35=>?_
   refine ak w35 0 λH36 w36 s36=>?_
   refine lSl w36 3 ?_
   refine lI w36 3 ?_
   refine lSl w36 0 ?_
   refine lI w36 0 ?_
   obtain ⟨w37,s37⟩:=w36.pp [4,1,0,2,3,5] 6
   have f38:=W.borrow1 (aa eI (aa eI (aa eI (aa eI eI)))) w37 (f4_0.step (s5.trans (s6.trans (s7.trans (s8.trans (s10.trans (s33.trans (s34.trans (s35.trans (s36.trans s37))))))))))
   obtain ⟨w38,s38⟩:=w37.right1
   have f39:=W.borrow1 (aa eI (aa eI (aa eI (aa eI eI)))) w38 ((f33_0.step (s34.trans (s35.trans (s36.trans s37)))).step s38)
   obtain ⟨w39,s39⟩:=w38.right1
   obtain ⟨r40,e40,hp⟩:=af hp
   refine aM (cW.P rfl rfl ⟨w39,(f38.step s39),f39⟩ e40) ?_
   rintro _ H41 ⟨o0a_41,o0n_41,o0c_41,o0k_41,rfl,rfl,w41,s41,f41_0⟩
   obtain ⟨w42,s42⟩:=W.frame1 w38 w41 s41
   obtain ⟨w43,s43⟩:=W.frame1 w37 w42 s42
   refine br (br (br (br (br (br (br (br (br ?_))))))))
   refine aY w43 λH44 w44 s44=>?_
   refine ak w44 0 λH45 w45 s45=>?_
   refine ak w45 0 λH46 w46 s46=>?_
   dsimp only [pk,pks,nth,List.drop,List.set,List.eraseIdx] at w46 s2 s5 s6 s7 s8 s34 s35 s36 s37 s44 s45 s46
   refine aB hp (λhp=>?_) λhp=>?_
   ·refine lSl w46 0 ?_
    refine lI w46 0 ?_
    refine ak w46 7 λH47 w47 s47=>?_
    refine ak w47 7 λH48 w48 s48=>?_
    refine lSl w48 7 ?_
    refine lI w48 7 ?_
    obtain ⟨w49,s49⟩:=w48.pp [3,5] 8
    exact aE hp ⟨_,_,_,_,rfl,rfl,w49,(s0.trans (s1.trans (s2.trans (s4.trans (s5.trans (s6.trans (s7.trans (s8.trans (s10.trans (s33.trans (s34.trans (s35.trans (s36.trans (s37.trans (s43.trans (s44.trans (s45.trans (s46.trans (s47.trans (s48.trans s49)))))))))))))))))))),((CR.flat (dp (cv .i64) (dp (cv .i64) (dp (cv .i64) (dp (cv .i64) (cv .i64))))) f41_0).step (s44.trans (s45.trans (s46.trans (s47.trans (s48.trans s49))))))⟩
   ·refine lSl w46 6 ?_
    refine lI w46 6 ?_
    refine ak w46 7 λH50 w50 s50=>?_
    refine ak w50 7 λH51 w51 s51=>?_
    refine lSl w51 7 ?_
    refine lI w51 7 ?_
    obtain ⟨w52,s52⟩:=w51.pp [1,5] 8
    exact aE hp ⟨_,_,_,_,rfl,rfl,w52,(s0.trans (s1.trans (s2.trans (s4.trans (s5.trans (s6.trans (s7.trans (s8.trans (s10.trans (s33.trans (s34.trans (s35.trans (s36.trans (s37.trans (s43.trans (s44.trans (s45.trans (s46.trans (s50.trans (s51.trans s52)))))))))))))))))))),(f4_0.step (s5.trans (s6.trans (s7.trans (s8.trans (s10.trans (s33.trans (s34.trans (s35.trans (s36.trans (s37.trans (s43.trans (s44.trans (s45.trans (s46.trans (s50.trans (s51.trans s52)))))))))))))))))⟩
  ·refine aB hp (λhp=>?_) λhp=>?_
   ·refine lSl w10 1 ?_
    refine lI w10 1 ?_
    obtain ⟨w53,s53⟩:=w10.pp [2,0,1,3] 4
    have f54:=W.borrow1 (aa eI (aa eI (aa eI (aa eI eI)))) w53 (f4_0.step (s5.trans (s6.trans (s7.trans (s8.trans (s10.trans s53))))))
    obtain ⟨w54,s54⟩:=w53.right1
    obtain ⟨r55,e55,hp⟩:=af hp
    refine aM (bv.P rfl ⟨w54,f54⟩ e55) ?_
    rintro _ H56 ⟨o0a_56,o0n_56,o0c_56,o0k_56,rfl,rfl,w56,s56,f56_0⟩
    obtain ⟨w57,s57⟩:=W.frame1 w53 w56 s56
    refine br (br (br (br (br ?_))))
    refine ak w57 4 λH58 w58 s58=>?_
    refine ak w58 4 λH59 w59 s59=>?_
    refine lSl w59 4 ?_
    refine lI w59 4 ?_
    obtain ⟨w60,s60⟩:=w59.pp [1,2] 5
    exact aE hp ⟨_,_,_,_,rfl,rfl,w60,(s0.trans (s1.trans (s2.trans (s4.trans (s5.trans (s6.trans (s7.trans (s8.trans (s10.trans (s53.trans (s57.trans (s58.trans (s59.trans s60))))))))))))),((CR.flat (dp (cv .i64) (dp (cv .i64) (dp (cv .i64) (dp (cv .i64) (cv .i64))))) f56_0).step (s58.trans (s59.trans s60)))⟩
   ·refine lSl w10 1 ?_
    refine lI w10 1 ?_
    refine ak w10 3 λH61 w61 s61=>?_
    refine ak w61 3 λH62 w62 s62=>?_
    refine lSl w62 3 ?_
    refine lI w62 3 ?_
    obtain ⟨w63,s63⟩:=w62.pp [2,0] 4
    exact aE hp ⟨_,_,_,_,rfl,rfl,w63,(s0.trans (s1.trans (s2.trans (s4.trans (s5.trans (s6.trans (s7.trans (s8.trans (s10.trans (s61.trans (s62.trans s63))))))))))),(f4_0.step (s5.trans (s6.trans (s7.trans (s8.trans (s10.trans (s61.trans (s62.trans s63))))))))⟩
def db.Q (H0:Hp) (Ri R0:Ys) (cG:ON) (cn ac:Nat) (cH:Cap) (r:(List (Int×Int×Int×Int×Int))×Int×Int×Int) (v:AV) (H':Hp):Prop:=∃ o0a:ON,∃ o0n:Nat,∃ o0c:Cap,∃ o0k:List AV,v=(.agg [(.sl ⟨o0a,o0n,o0c⟩),(.i r.2.1)])/\o0n=(r.1).length/\Out H0 Ri H' (Rs.own ⟨o0a,o0n,o0c⟩ (aa eI (aa eI (aa eI (aa eI eI)))).z o0k::Rs.blk ac [.sl ⟨cG,cn,cH⟩,.i (r.2.2.1),.i (r.2.2.2)]::R0) λR=>CR (aa eI (aa eI (aa eI (aa eI eI)))) H' R o0k (r.1)
def db.p (F:Nat) (bO:Yr) (aR:Int) (aS:Int):Option ((List (Int×Int×Int×Int×Int))×Int×Int×Int):=(dv.p F bO aR aS).bind λr3=>(bif ((r3.1.length:Int)==0) then (some (r3.1,r3.2.1,r3.2.2.1,r3.2.2.2)) else ((aJ.p F bO r3.2.2.1 r3.2.2.2 9).bind λr12=>(bif (decide (r12.1>0)) then (some (r3.1,r3.2.1,r12.2.1,r12.2.2)) else ((aJ.p F bO r12.2.1 r12.2.2 (r3.1.length:Int)).bind λr17=>(aJ.p F bO r17.2.1 r17.2.2 6).bind λr19=>(bif (r19.1==0) then ((ix r3.1 r17.1).bind λn21=>(ix r3.1 r17.1).bind λn22=>(some (r3.1.set n22 ((gt r3.1 n22).1,(gt r3.1 n22).2.1,(gt r3.1 n22).2.2.1,(gt r3.1 n22).2.2.2.1,(wrap .i64 (0 - ((gt r3.1 n21).2.2.2.2)))))).bind λl23=>some (l23,r3.2.1,r19.2.1,r19.2.2)) else ((bif (r19.1==1) then ((ix r3.1 r17.1).bind λn28=>(some (r3.1.set n28 ((gt r3.1 n28).1,(gt r3.1 n28).2.1,(gt r3.1 n28).2.2.1,(gt r3.1 n28).2.2.2.1,0))).bind λl29=>some (l29,r3.2.1,r19.2.1,r19.2.2)) else ((bif (r19.1==2) then ((ix r3.1 r17.1).bind λn34=>(ix r3.1 r17.1).bind λn35=>(ix r3.1 r17.1).bind λn36=>(some (r3.1.set n36 (((gt r3.1 n35).2.1),(gt r3.1 n36).2.1,(gt r3.1 n36).2.2.1,(gt r3.1 n36).2.2.2.1,(gt r3.1 n36).2.2.2.2))).bind λl37=>(ix l37 r17.1).bind λn39=>(some (l37.set n39 ((gt l37 n39).1,((gt r3.1 n34).1),(gt l37 n39).2.2.1,(gt l37 n39).2.2.2.1,(gt l37 n39).2.2.2.2))).bind λl40=>some (l40,r3.2.1,r19.2.1,r19.2.2)) else ((bif (r19.1==3) then ((aJ.p F bO r19.2.1 r19.2.2 3).bind λr47=>(ix ([(-1),8,9]:List Int) r47.1).bind λn49=>some (r3.1,(gt ([(-1),8,9]:List Int) n49),r47.2.1,r47.2.2)) else ((bif (r19.1==4) then ((ix r3.1 r17.1).bind λn54=>(some (r3.1.set n54 ((gt r3.1 n54).1,(gt r3.1 n54).2.1,(wrap .i64 (2 * (r3.1.length:Int))),(gt r3.1 n54).2.2.2.1,(gt r3.1 n54).2.2.2.2))).bind λl55=>some (l55,r3.2.1,r19.2.1,r19.2.2)) else ((bif (r19.1==5) then ((ix r3.1 r17.1).bind λn60=>(ix r3.1 r17.1).bind λn67=>(some (r3.1.set n67 (((gt r3.1 n60).2.2.1),(gt r3.1 n67).2.1,(gt r3.1 n67).2.2.1,(gt r3.1 n67).2.2.2.1,(gt r3.1 n67).2.2.2.2))).bind λl68=>(some (l68.set n67 ((gt l68 n67).1,((gt r3.1 n60).2.1),(gt l68 n67).2.2.1,(gt l68 n67).2.2.2.1,(gt l68 n67).2.2.2.2))).bind λl70=>(some (l70.set n67 ((gt l70 n67).1,(gt l70 n67).2.1,((gt r3.1 n60).1),(gt l70 n67).2.2.2.1,(gt l70 n67).2.2.2.2))).bind λl72=>(some (l72.set n67 ((gt l72 n67).1,(gt l72 n67).2.1,(gt l72 n67).2.2.1,((gt r3.1 n60).2.2.2.1),(gt l72 n67).2.2.2.2))).bind λl74=>(some (l74.set n67 ((gt l74 n67).1,(gt l74 n67).2.1,(gt l74 n67).2.2.1,(gt l74 n67).2.2.2.1,((gt r3.1 n60).2.2.2.2)))).bind λl76=>some (l76,r3.2.1,r19.2.1,r19.2.2)) else (some (r3.1,r3.2.1,r19.2.1,r19.2.2)))))))))))))))))
theorem db.P {cG cn ac cH bO aR aS} (jA:cn=bO.length) (h0:Inn H (Rs.blk ac [.sl ⟨cG,cn,cH⟩,.i aR,.i aS]::R0) λR=>ROs (dk .u8) H R ⟨cG,cn,cH⟩ bO) {r:(List (Int×Int×Int×Int×Int))×Int×Int×Int} (hp:db.p F bO aR aS=some r):Rt (db.tw F ac 0 H) (db.Q H (Rs.blk ac [.sl ⟨cG,cn,cH⟩,.i aR,.i aS]::R0) R0 cG cn ac cH r):=by
 obtain ⟨w0,dK⟩:=h0
 subst jA
 unfold db.p at hp
 unfold db.tw db.twX
 have s0:=w0.rf
 refine aY w0 λH1 w1 s1=>?_
 obtain ⟨w2,s2⟩:=w1.pp [1,0] 2
 obtain ⟨r3,e3,hp⟩:=af hp
 refine aM (dv.P rfl ⟨w2,(dK.step (s1.trans s2))⟩ e3) ?_
 rintro _ H4 ⟨o0a_4,o0n_4,o0c_4,o0k_4,rfl,rfl,w4,s4,f4_0⟩
 refine br (br (br (br (br ?_))))
 refine aY w4 λH5 w5 s5=>?_
 refine ak w5 0 λH6 w6 s6=>?_
 refine ak w6 0 λH7 w7 s7=>?_
 refine lSl w7 0 ?_
 refine aB hp (λhp=>?_) λhp=>?_
 ·refine lSl w7 0 ?_
  refine lI w7 0 ?_
  refine ak w7 3 λH8 w8 s8=>?_
  refine ak w8 3 λH9 w9 s9=>?_
  refine lSl w9 3 ?_
  refine lI w9 3 ?_
  obtain ⟨w10,s10⟩:=w9.pp [1,2] 4
  exact aE hp ⟨_,_,_,_,rfl,rfl,w10,(s0.trans (s1.trans (s2.trans (s4.trans (s5.trans (s6.trans (s7.trans (s8.trans (s9.trans s10))))))))),(f4_0.step (s5.trans (s6.trans (s7.trans (s8.trans (s9.trans s10))))))⟩
 ·obtain ⟨w11,s11⟩:=w7.pp [2,0,1,3] 4
  obtain ⟨r12,e12,hp⟩:=af hp
  refine aM (aJ.P rfl ⟨w11,(dK.step (s1.trans (s2.trans (s4.trans (s5.trans (s6.trans (s7.trans s11)))))))⟩ e12) ?_
  rintro _ H13 ⟨rfl,w13,s13,_⟩
  refine br ?_
  refine aB hp (λhp=>?_) λhp=>?_
  ·refine lSl w13 1 ?_
   refine lI w13 1 ?_
   refine ak w13 3 λH14 w14 s14=>?_
   refine ak w14 3 λH15 w15 s15=>?_
   refine lSl w15 3 ?_
   refine lI w15 3 ?_
   obtain ⟨w16,s16⟩:=w15.pp [2,0] 4
   exact aE hp ⟨_,_,_,_,rfl,rfl,w16,(s0.trans (s1.trans (s2.trans (s4.trans (s5.trans (s6.trans (s7.trans (s11.trans (s13.trans (s14.trans (s15.trans s16))))))))))),(f4_0.step (s5.trans (s6.trans (s7.trans (s11.trans (s13.trans (s14.trans (s15.trans s16))))))))⟩
  ·refine lSl w13 1 ?_
   obtain ⟨r17,e17,hp⟩:=af hp
   refine aM (aJ.P rfl ⟨w13,(dK.step (s1.trans (s2.trans (s4.trans (s5.trans (s6.trans (s7.trans (s11.trans s13))))))))⟩ e17) ?_
   rintro _ H18 ⟨rfl,w18,s18,_⟩
   refine br ?_
   obtain ⟨r19,e19,hp⟩:=af hp
   refine aM (aJ.P rfl ⟨w18,(dK.step (s1.trans (s2.trans (s4.trans (s5.trans (s6.trans (s7.trans (s11.trans (s13.trans s18)))))))))⟩ e19) ?_
   rintro _ H20 ⟨rfl,w20,s20,_⟩
   refine br ?_
   refine aB hp (λhp=>?_) λhp=>?_
   ·refine lSl w20 1 ?_
    refine lSl w20 1 ?_
    obtain ⟨n21,g21,hp⟩:=af hp
    obtain ⟨p21,q21,i21,h21,j21⟩:=W.ixo (E:=(aa eI (aa eI (aa eI (aa eI eI))))) w20 (i:=2) rfl rfl (f4_0.step (s5.trans (s6.trans (s7.trans (s11.trans (s13.trans (s18.trans s20))))))) g21
    refine aj i21 ?_
    obtain ⟨_,_,rfl,rfl,_,_,rfl,rfl,_,_,rfl,rfl,_,_,rfl,rfl,rfl⟩:=h21
    refine aj (aC (j21 4 _ rfl)) ?_
    obtain ⟨n22,g22,hp⟩:=af hp
    obtain ⟨p22,q22,i22,h22,j22⟩:=W.ixo (E:=(aa eI (aa eI (aa eI (aa eI eI))))) w20 (i:=2) rfl rfl (f4_0.step (s5.trans (s6.trans (s7.trans (s11.trans (s13.trans (s18.trans s20))))))) g22
    refine aj i22 ?_
    obtain ⟨l23,e23,hp⟩:=af hp
    refine bV (aa eI (aa eI (aa eI (aa eI eI)))) w20 (i:=2) (j:=4) (p:=p22) rfl rfl (f4_0.step (s5.trans (s6.trans (s7.trans (s11.trans (s13.trans (s18.trans s20))))))) g22 i22 e23 rfl rfl (λ_ h=>by obtain ⟨_,_,rfl,rfl,_,_,rfl,rfl,_,_,rfl,rfl,_,_,rfl,rfl,rfl⟩:=h;exact ⟨[_],_,rfl,rfl,[_],_,rfl,rfl,[_],_,rfl,rfl,[_],_,rfl,rfl,rfl⟩) λH24 k24 w24 s24 c24=>?_
    refine lSl w24 1 ?_
    refine lI w24 1 ?_
    refine ak w24 3 λH25 w25 s25=>?_
    refine ak w25 3 λH26 w26 s26=>?_
    refine lSl w26 3 ?_
    refine lI w26 3 ?_
    obtain ⟨w27,s27⟩:=w26.pp [2,0] 4
    exact aE hp ⟨_,_,_,_,rfl,(aT e23).symm,w27,(s0.trans (s1.trans (s2.trans (s4.trans (s5.trans (s6.trans (s7.trans (s11.trans (s13.trans (s18.trans (s20.trans (s24.trans (s25.trans (s26.trans s27)))))))))))))),(c24.step (s25.trans (s26.trans s27)))⟩
   ·refine aB hp (λhp=>?_) λhp=>?_
    ·refine lSl w20 1 ?_
     obtain ⟨n28,g28,hp⟩:=af hp
     obtain ⟨p28,q28,i28,h28,j28⟩:=W.ixo (E:=(aa eI (aa eI (aa eI (aa eI eI))))) w20 (i:=2) rfl rfl (f4_0.step (s5.trans (s6.trans (s7.trans (s11.trans (s13.trans (s18.trans s20))))))) g28
     refine aj i28 ?_
     obtain ⟨l29,e29,hp⟩:=af hp
     refine bV (aa eI (aa eI (aa eI (aa eI eI)))) w20 (i:=2) (j:=4) (p:=p28) rfl rfl (f4_0.step (s5.trans (s6.trans (s7.trans (s11.trans (s13.trans (s18.trans s20))))))) g28 i28 e29 rfl rfl (λ_ h=>by obtain ⟨_,_,rfl,rfl,_,_,rfl,rfl,_,_,rfl,rfl,_,_,rfl,rfl,rfl⟩:=h;exact ⟨[_],_,rfl,rfl,[_],_,rfl,rfl,[_],_,rfl,rfl,[_],_,rfl,rfl,rfl⟩) λH30 k30 w30 s30 c30=>?_
     refine lSl w30 1 ?_
     refine lI w30 1 ?_
     refine ak w30 3 λH31 w31 s31=>?_
     refine ak w31 3 λH32 w32 s32=>?_
     refine lSl w32 3 ?_
     refine lI w32 3 ?_
     obtain ⟨w33,s33⟩:=w32.pp [2,0] 4
     exact aE hp ⟨_,_,_,_,rfl,(aT e29).symm,w33,(s0.trans (s1.trans (s2.trans (s4.trans (s5.trans (s6.trans (s7.trans (s11.trans (s13.trans (s18.trans (s20.trans (s30.trans (s31.trans (s32.trans s33)))))))))))))),(c30.step (s31.trans (s32.trans s33)))⟩
    ·refine aB hp (λhp=>?_) λhp=>?_
     ·refine lSl w20 1 ?_
      obtain ⟨n34,g34,hp⟩:=af hp
      obtain ⟨p34,q34,i34,h34,j34⟩:=W.ixo (E:=(aa eI (aa eI (aa eI (aa eI eI))))) w20 (i:=2) rfl rfl (f4_0.step (s5.trans (s6.trans (s7.trans (s11.trans (s13.trans (s18.trans s20))))))) g34
      refine aj i34 ?_
      obtain ⟨_,_,rfl,rfl,_,_,rfl,rfl,_,_,rfl,rfl,_,_,rfl,rfl,rfl⟩:=h34
      refine aj (aC (j34 0 _ rfl)) ?_
      refine lSl w20 1 ?_
      refine lSl w20 1 ?_
      obtain ⟨n35,g35,hp⟩:=af hp
      obtain ⟨p35,q35,i35,h35,j35⟩:=W.ixo (E:=(aa eI (aa eI (aa eI (aa eI eI))))) w20 (i:=2) rfl rfl (f4_0.step (s5.trans (s6.trans (s7.trans (s11.trans (s13.trans (s18.trans s20))))))) g35
      refine aj i35 ?_
      obtain ⟨_,_,rfl,rfl,_,_,rfl,rfl,_,_,rfl,rfl,_,_,rfl,rfl,rfl⟩:=h35
      refine aj (aC (j35 1 _ rfl)) ?_
      obtain ⟨n36,g36,hp⟩:=af hp
      obtain ⟨p36,q36,i36,h36,j36⟩:=W.ixo (E:=(aa eI (aa eI (aa eI (aa eI eI))))) w20 (i:=2) rfl rfl (f4_0.step (s5.trans (s6.trans (s7.trans (s11.trans (s13.trans (s18.trans s20))))))) g36
      refine aj i36 ?_
      obtain ⟨l37,e37,hp⟩:=af hp
      refine bV (aa eI (aa eI (aa eI (aa eI eI)))) w20 (i:=2) (j:=0) (p:=p36) rfl rfl (f4_0.step (s5.trans (s6.trans (s7.trans (s11.trans (s13.trans (s18.trans s20))))))) g36 i36 e37 rfl rfl (λ_ h=>by obtain ⟨_,_,rfl,rfl,_,_,rfl,rfl,_,_,rfl,rfl,_,_,rfl,rfl,rfl⟩:=h;exact ⟨[_],_,rfl,rfl,[_],_,rfl,rfl,[_],_,rfl,rfl,[_],_,rfl,rfl,rfl⟩) λH38 k38 w38 s38 c38=>?_
      refine lSl w38 1 ?_
      obtain ⟨n39,g39,hp⟩:=af hp
      obtain ⟨p39,q39,i39,h39,j39⟩:=W.ixo (E:=(aa eI (aa eI (aa eI (aa eI eI))))) w38 (i:=2) rfl rfl c38 g39
      refine aj i39 ?_
      obtain ⟨l40,e40,hp⟩:=af hp
      refine bV (aa eI (aa eI (aa eI (aa eI eI)))) w38 (i:=2) (j:=1) (p:=p39) rfl rfl c38 g39 i39 e40 rfl rfl (λ_ h=>by obtain ⟨_,_,rfl,rfl,_,_,rfl,rfl,_,_,rfl,rfl,_,_,rfl,rfl,rfl⟩:=h;exact ⟨[_],_,rfl,rfl,[_],_,rfl,rfl,[_],_,rfl,rfl,[_],_,rfl,rfl,rfl⟩) λH41 k41 w41 s41 c41=>?_
      refine lSl w41 1 ?_
      refine lI w41 1 ?_
      refine ak w41 3 λH42 w42 s42=>?_
      refine ak w42 3 λH43 w43 s43=>?_
      refine lSl w43 3 ?_
      refine lI w43 3 ?_
      obtain ⟨w44,s44⟩:=w43.pp [2,0] 4
      dsimp only [pk,pks,nth,List.drop,List.set,List.eraseIdx] at w44 s2 s5 s6 s7 s11 s38 c38 s41 c41 s42 s43 s44
      exact aE hp ⟨_,_,_,_,rfl,((aT e37).symm.trans (aT e40).symm),w44,(s0.trans (s1.trans (s2.trans (s4.trans (s5.trans (s6.trans (s7.trans (s11.trans (s13.trans (s18.trans (s20.trans (s38.trans (s41.trans (s42.trans (s43.trans s44))))))))))))))),(c41.step (s42.trans (s43.trans s44)))⟩
     ·refine aB hp (λhp=>?_) λhp=>?_
      ·refine dl eI w20 (n:=3) (l:=([(-1),8,9]:List Int)) rfl (CR.cons1 rfl (CR.cons1 rfl (CR.cons1 rfl CR.empty))) rfl λH45 w45 s45 c45=>?_
       obtain ⟨w46,s46⟩:=w45.pp [1,0,2,3,4] 5
       obtain ⟨r47,e47,hp⟩:=af hp
       refine aM (aJ.P rfl ⟨w46,(dK.step (s1.trans (s2.trans (s4.trans (s5.trans (s6.trans (s7.trans (s11.trans (s13.trans (s18.trans (s20.trans (s45.trans s46))))))))))))⟩ e47) ?_
       rintro _ H48 ⟨rfl,w48,s48,_⟩
       refine br ?_
       obtain ⟨n49,g49,hp⟩:=af hp
       obtain ⟨p49,q49,i49,h49,j49⟩:=W.ixo (E:=eI) w48 (i:=1) rfl rfl (c45.step (s46.trans s48)) g49
       refine aj i49 ?_
       have h49:_=[_]:=h49
       subst h49
       refine aj (aC (j49 0 _ rfl)) ?_
       refine ak w48 2 λH50 w50 s50=>?_
       refine lSl w50 2 ?_
       refine lI w50 2 ?_
       refine ak w50 4 λH51 w51 s51=>?_
       refine ak w51 4 λH52 w52 s52=>?_
       refine lSl w52 4 ?_
       refine lI w52 4 ?_
       obtain ⟨w53,s53⟩:=w52.pp [3,0] 5
       dsimp only [pk,pks,nth,List.drop,List.set,List.eraseIdx] at w53 s2 s5 s6 s7 s11 s45 s46 s50 s51 s52 s53
       exact aE hp ⟨_,_,_,_,rfl,rfl,w53,(s0.trans (s1.trans (s2.trans (s4.trans (s5.trans (s6.trans (s7.trans (s11.trans (s13.trans (s18.trans (s20.trans (s45.trans (s46.trans (s48.trans (s50.trans (s51.trans (s52.trans s53))))))))))))))))),(f4_0.step (s5.trans (s6.trans (s7.trans (s11.trans (s13.trans (s18.trans (s20.trans (s45.trans (s46.trans (s48.trans (s50.trans (s51.trans (s52.trans s53))))))))))))))⟩
      ·refine aB hp (λhp=>?_) λhp=>?_
       ·refine lSl w20 1 ?_
        refine lSl w20 1 ?_
        obtain ⟨n54,g54,hp⟩:=af hp
        obtain ⟨p54,q54,i54,h54,j54⟩:=W.ixo (E:=(aa eI (aa eI (aa eI (aa eI eI))))) w20 (i:=2) rfl rfl (f4_0.step (s5.trans (s6.trans (s7.trans (s11.trans (s13.trans (s18.trans s20))))))) g54
        refine aj i54 ?_
        obtain ⟨l55,e55,hp⟩:=af hp
        refine bV (aa eI (aa eI (aa eI (aa eI eI)))) w20 (i:=2) (j:=2) (p:=p54) rfl rfl (f4_0.step (s5.trans (s6.trans (s7.trans (s11.trans (s13.trans (s18.trans s20))))))) g54 i54 e55 rfl rfl (λ_ h=>by obtain ⟨_,_,rfl,rfl,_,_,rfl,rfl,_,_,rfl,rfl,_,_,rfl,rfl,rfl⟩:=h;exact ⟨[_],_,rfl,rfl,[_],_,rfl,rfl,[_],_,rfl,rfl,[_],_,rfl,rfl,rfl⟩) λH56 k56 w56 s56 c56=>?_
        refine lSl w56 1 ?_
        refine lI w56 1 ?_
        refine ak w56 3 λH57 w57 s57=>?_
        refine ak w57 3 λH58 w58 s58=>?_
        refine lSl w58 3 ?_
        refine lI w58 3 ?_
        obtain ⟨w59,s59⟩:=w58.pp [2,0] 4
        exact aE hp ⟨_,_,_,_,rfl,(aT e55).symm,w59,(s0.trans (s1.trans (s2.trans (s4.trans (s5.trans (s6.trans (s7.trans (s11.trans (s13.trans (s18.trans (s20.trans (s56.trans (s57.trans (s58.trans s59)))))))))))))),(c56.step (s57.trans (s58.trans s59)))⟩
       ·refine aB hp (λhp=>?_) λhp=>?_
        ·refine lSl w20 1 ?_
         obtain ⟨n60,g60,hp⟩:=af hp
         obtain ⟨p60,q60,i60,h60,j60⟩:=W.ixo (E:=(aa eI (aa eI (aa eI (aa eI eI))))) w20 (i:=2) rfl rfl (f4_0.step (s5.trans (s6.trans (s7.trans (s11.trans (s13.trans (s18.trans s20))))))) g60
         refine aj i60 ?_
         obtain ⟨_,_,rfl,rfl,_,_,rfl,rfl,_,_,rfl,rfl,_,_,rfl,rfl,rfl⟩:=h60
         refine aj (aC (j60 0 _ rfl)) ?_
         refine aj (aC (j60 1 _ rfl)) ?_
         refine aj (aC (j60 2 _ rfl)) ?_
         refine aj (aC (j60 3 _ rfl)) ?_
         refine aj (aC (j60 4 _ rfl)) ?_
         refine aY w20 λH61 w61 s61=>?_
         refine ak w61 0 λH62 w62 s62=>?_
         refine ak w62 0 λH63 w63 s63=>?_
         refine ak w63 0 λH64 w64 s64=>?_
         refine ak w64 0 λH65 w65 s65=>?_
         refine ak w65 0 λH66 w66 s66=>?_
         dsimp only [pk,pks,nth,List.drop,List.set,List.eraseIdx] at w66 s2 s5 s6 s7 s11 s61 s62 s63 s64 s65 s66
         refine lSl w66 2 ?_
         refine lI w66 0 ?_
         refine lI w66 0 ?_
         refine lI w66 0 ?_
         refine lI w66 0 ?_
         refine lI w66 0 ?_
         obtain ⟨n67,g67,hp⟩:=af hp
         obtain ⟨p67,q67,i67,h67,j67⟩:=W.ixo (E:=(aa eI (aa eI (aa eI (aa eI eI))))) w66 (i:=3) rfl rfl (f4_0.step (s5.trans (s6.trans (s7.trans (s11.trans (s13.trans (s18.trans (s20.trans (s61.trans (s62.trans (s63.trans (s64.trans (s65.trans s66))))))))))))) g67
         refine aj i67 ?_
         obtain ⟨l68,e68,hp⟩:=af hp
         refine bV (aa eI (aa eI (aa eI (aa eI eI)))) w66 (i:=3) (j:=0) (p:=p67) rfl rfl (f4_0.step (s5.trans (s6.trans (s7.trans (s11.trans (s13.trans (s18.trans (s20.trans (s61.trans (s62.trans (s63.trans (s64.trans (s65.trans s66))))))))))))) g67 i67 e68 rfl rfl (λ_ h=>by obtain ⟨_,_,rfl,rfl,_,_,rfl,rfl,_,_,rfl,rfl,_,_,rfl,rfl,rfl⟩:=h;exact ⟨[_],_,rfl,rfl,[_],_,rfl,rfl,[_],_,rfl,rfl,[_],_,rfl,rfl,rfl⟩) λH69 k69 w69 s69 c69=>?_
         obtain ⟨l70,e70,hp⟩:=af hp
         refine bV (aa eI (aa eI (aa eI (aa eI eI)))) w69 (i:=3) (j:=1) (p:=p67) rfl rfl c69 (eQ g67 (aT e68)) i67 e70 rfl rfl (λ_ h=>by obtain ⟨_,_,rfl,rfl,_,_,rfl,rfl,_,_,rfl,rfl,_,_,rfl,rfl,rfl⟩:=h;exact ⟨[_],_,rfl,rfl,[_],_,rfl,rfl,[_],_,rfl,rfl,[_],_,rfl,rfl,rfl⟩) λH71 k71 w71 s71 c71=>?_
         obtain ⟨l72,e72,hp⟩:=af hp
         refine bV (aa eI (aa eI (aa eI (aa eI eI)))) w71 (i:=3) (j:=2) (p:=p67) rfl rfl c71 (eQ g67 ((aT e70).trans (aT e68))) i67 e72 rfl rfl (λ_ h=>by obtain ⟨_,_,rfl,rfl,_,_,rfl,rfl,_,_,rfl,rfl,_,_,rfl,rfl,rfl⟩:=h;exact ⟨[_],_,rfl,rfl,[_],_,rfl,rfl,[_],_,rfl,rfl,[_],_,rfl,rfl,rfl⟩) λH73 k73 w73 s73 c73=>?_
         obtain ⟨l74,e74,hp⟩:=af hp
         refine bV (aa eI (aa eI (aa eI (aa eI eI)))) w73 (i:=3) (j:=3) (p:=p67) rfl rfl c73 (eQ g67 (((aT e72).trans (aT e70)).trans (aT e68))) i67 e74 rfl rfl (λ_ h=>by obtain ⟨_,_,rfl,rfl,_,_,rfl,rfl,_,_,rfl,rfl,_,_,rfl,rfl,rfl⟩:=h;exact ⟨[_],_,rfl,rfl,[_],_,rfl,rfl,[_],_,rfl,rfl,[_],_,rfl,rfl,rfl⟩) λH75 k75 w75 s75 c75=>?_
         obtain ⟨l76,e76,hp⟩:=af hp
         refine bV (aa eI (aa eI (aa eI (aa eI eI)))) w75 (i:=3) (j:=4) (p:=p67) rfl rfl c75 (eQ g67 ((((aT e74).trans (aT e72)).trans (aT e70)).trans (aT e68))) i67 e76 rfl rfl (λ_ h=>by obtain ⟨_,_,rfl,rfl,_,_,rfl,rfl,_,_,rfl,rfl,_,_,rfl,rfl,rfl⟩:=h;exact ⟨[_],_,rfl,rfl,[_],_,rfl,rfl,[_],_,rfl,rfl,[_],_,rfl,rfl,rfl⟩) λH77 k77 w77 s77 c77=>?_
         refine lSl w77 2 ?_
         refine lI w77 2 ?_
         refine ak w77 4 λH78 w78 s78=>?_
         refine ak w78 4 λH79 w79 s79=>?_
         refine lSl w79 4 ?_
         refine lI w79 4 ?_
         obtain ⟨w80,s80⟩:=w79.pp [3,1] 5
         exact aE hp ⟨_,_,_,_,rfl,(((((aT e68).symm.trans (aT e70).symm).trans (aT e72).symm).trans (aT e74).symm).trans (aT e76).symm),w80,(s0.trans (s1.trans (s2.trans (s4.trans (s5.trans (s6.trans (s7.trans (s11.trans (s13.trans (s18.trans (s20.trans (s61.trans (s62.trans (s63.trans (s64.trans (s65.trans (s66.trans (s69.trans (s71.trans (s73.trans (s75.trans (s77.trans (s78.trans (s79.trans s80)))))))))))))))))))))))),(c77.step (s78.trans (s79.trans s80)))⟩
        ·refine lSl w20 1 ?_
         refine lI w20 1 ?_
         refine ak w20 3 λH81 w81 s81=>?_
         refine ak w81 3 λH82 w82 s82=>?_
         refine lSl w82 3 ?_
         refine lI w82 3 ?_
         obtain ⟨w83,s83⟩:=w82.pp [2,0] 4
         exact aE hp ⟨_,_,_,_,rfl,rfl,w83,(s0.trans (s1.trans (s2.trans (s4.trans (s5.trans (s6.trans (s7.trans (s11.trans (s13.trans (s18.trans (s20.trans (s81.trans (s82.trans s83))))))))))))),(f4_0.step (s5.trans (s6.trans (s7.trans (s11.trans (s13.trans (s18.trans (s20.trans (s81.trans (s82.trans s83))))))))))⟩
def cJ.Q (H0:Hp) (Ri R0:Ys)  (r:(List (Int×Int×Int×Int×Int))×Int) (v:AV) (H':Hp):Prop:=∃ o0a:ON,∃ o0n:Nat,∃ o0c:Cap,∃ o0k:List AV,v=(.agg [(.sl ⟨o0a,o0n,o0c⟩),(.i r.2)])/\o0n=(r.1).length/\Out H0 Ri H' (Rs.own ⟨o0a,o0n,o0c⟩ (aa eI (aa eI (aa eI (aa eI eI)))).z o0k::R0) λR=>CR (aa eI (aa eI (aa eI (aa eI eI)))) H' R o0k (r.1)
def cJ.p (F:Nat) (ai:Yr):Option ((List (Int×Int×Int×Int×Int))×Int):=(bE.p F ai).bind λr2=>(db.p F r2.1 r2.2.1 r2.2.2).bind λr4=>some (r4.1,r4.2.1)
theorem cJ.P {aG ay aH ai} (bg:ay=ai.length) (h0:Inn H R0 λR=>ROs (dk .u8) H R ⟨aG,ay,aH⟩ ai) {r:(List (Int×Int×Int×Int×Int))×Int} (hp:cJ.p F ai=some r):Rt (cJ.tw F ⟨aG,ay,aH⟩ H) (cJ.Q H R0 R0  r):=by
 obtain ⟨w0,aU⟩:=h0
 subst bg
 unfold cJ.p at hp
 unfold cJ.tw cJ.twX
 have s0:=w0.rf
 refine aY w0 λH1 w1 s1=>?_
 obtain ⟨r2,e2,hp⟩:=af hp
 refine aM (bE.P rfl ⟨w1,(aU.step s1)⟩ e2) ?_
 rintro _ H3 ⟨o0a_3,o0n_3,o0c_3,ob0_3,rfl,rfl,w3,s3,f3_0⟩
 refine br ?_
 obtain ⟨r4,e4,hp⟩:=af hp
 refine aM (db.P rfl ⟨w3,f3_0⟩ e4) ?_
 rintro _ H5 ⟨o0a_5,o0n_5,o0c_5,o0k_5,rfl,rfl,w5,s5,f5_0⟩
 refine br (br (br (br (br ?_))))
 refine ak w5 2 λH6 w6 s6=>?_
 refine ak w6 2 λH7 w7 s7=>?_
 refine lSl w7 2 ?_
 refine lI w7 2 ?_
 obtain ⟨w8,s8⟩:=w7.pp [0] 3
 exact aE hp ⟨_,_,_,_,rfl,rfl,w8,(s0.trans (s1.trans (s3.trans (s5.trans (s6.trans (s7.trans s8)))))),(f5_0.step (s6.trans (s7.trans s8)))⟩
def cQ.Q (H0:Hp) (Ri R0:Ys)  (r:Int) (v:AV) (H':Hp):Prop:=v=(.i r)/\Out H0 Ri H' (R0) λR=>True
def cQ.p (F:Nat) (ai:Yx):Option (Int):=some (ai.length:Int)
theorem cQ.P {aG ay aH ai} (bg:ay=ai.length) (h0:Inn H R0 λR=>ROs (aa eI (aa eI (aa eI (aa eI eI)))) H R ⟨aG,ay,aH⟩ ai) {r:Int} (hp:cQ.p F ai=some r):Rt (cQ.tw F ⟨aG,ay,aH⟩ H) (cQ.Q H R0 R0  r):=by
 obtain ⟨w0,aU⟩:=h0
 subst bg
 unfold cQ.p at hp
 unfold cQ.tw cQ.twX
 have s0:=w0.rf
 exact aE hp ⟨rfl,w0,s0,trivial⟩
def dw.Q (H0:Hp) (Ri R0:Ys)  (r:Bool) (v:AV) (H':Hp):Prop:=v=(.bool r)/\Out H0 Ri H' (R0) λR=>True
def dw.p (F:Nat) (ac:Int) (aI:Int) (cV:Int):Option (Bool):=(bif (decide (aI<=ac)) then (some (decide (ac<=cV))) else (some false))
theorem dw.P {ac aI cV}  (h0:Inn H R0 λR=>True) {r:Bool} (hp:dw.p F ac aI cV=some r):Rt (dw.tw F ac aI cV H) (dw.Q H R0 R0  r):=by
 obtain ⟨w0,_⟩:=h0
 unfold dw.p at hp
 unfold dw.tw dw.twX
 have s0:=w0.rf
 refine aB hp (λhp=>?_) λhp=>?_
 ·exact aE hp ⟨rfl,w0,s0,trivial⟩
 ·exact aE hp ⟨rfl,w0,s0,trivial⟩
def dW.Q (H0:Hp) (Ri R0:Ys)  (r:Bool) (v:AV) (H':Hp):Prop:=v=(.bool r)/\Out H0 Ri H' (R0) λR=>True
def dW.p (F:Nat) (bq:Int):Option (Bool):=(bif (bq != 1) then (some (bq != (-1))) else (some false))
theorem dW.P {ac ag bx bz bq}  (h0:Inn H R0 λR=>True) {r:Bool} (hp:dW.p F bq=some r):Rt (dW.tw F ac ag bx bz bq H) (dW.Q H R0 R0  r):=by
 obtain ⟨w0,_⟩:=h0
 unfold dW.p at hp
 unfold dW.tw dW.twX
 have s0:=w0.rf
 refine aY w0 λH1 w1 s1=>?_
 refine lI w1 0 ?_
 refine aB hp (λhp=>?_) λhp=>?_
 ·refine lI w1 0 ?_
  obtain ⟨w2,s2⟩:=w1.pp [] 1
  exact aE hp ⟨rfl,w2,(s0.trans (s1.trans s2)),trivial⟩
 ·obtain ⟨w3,s3⟩:=w1.pp [] 1
  exact aE hp ⟨rfl,w3,(s0.trans (s1.trans s3)),trivial⟩
def bD.Q (H0:Hp) (Ri R0:Ys)  (r:Int) (v:AV) (H':Hp):Prop:=v=(.i r)/\Out H0 Ri H' (R0) λR=>True
def bD.S13 (H0:Hp) (Ri R0:Ys)  (C:YC) (pC:List (Int×Int×Int×Int×Int)->Int->Int->Option (Int)):Prop:=∀ {By vG Bz kF iy fD},∀ {H:Hp},vG=kF.length->(Out H0 Ri H R0 λR=>ROs (aa eI (aa eI (aa eI (aa eI eI)))) H R ⟨By,vG,Bz⟩ kF)->∀ {r:Int},pC kF iy fD=some r->Rt (C ⟨By,vG,Bz⟩ iy fD H) (bD.Q H0 Ri R0  r)
def bD.pl13 (F:Nat) :Nat->List (Int×Int×Int×Int×Int)->Int->Int->Option (Int)
 | 0,_,_,_=>none
 | k+1,kF,iy,fD=>(bif (decide (fD<iy)) then ((ix kF fD).bind λn1=>(dW.p F ((gt kF n1).2.2.2.2)).bind λr2=>(bif r2 then (some fD) else (bD.pl13 F k kF iy (wrap .i64 (fD+1))))) else (some (-1)))
theorem bD.l13_P  :∀ k,bD.S13 H0 Ri R0  (bD.l13 F (dW.tw F)  k) (bD.pl13 F  k):=by
 intro k
 induction k with
 | zero=>unfold bD.S13;intros;rename_i hp;cases hp
 | succ k ih=>
  intro By vG Bz kF iy fD H Ua h0 r hp
  obtain ⟨w0,s0,Kb⟩:=h0
  subst Ua
  unfold bD.pl13 at hp
  unfold bD.l13
  refine aB hp (λhp=>?_) λhp=>?_
  ·obtain ⟨n1,g1,hp⟩:=af hp
   obtain ⟨p1,q1,i1,h1,j1⟩:=ROs.ixr Kb rfl g1
   refine aj i1 ?_
   obtain ⟨_,_,rfl,rfl,_,_,rfl,rfl,_,_,rfl,rfl,_,_,rfl,rfl,rfl⟩:=h1
   refine aj (aC (j1 0 _ rfl)) ?_
   refine aj (aC (j1 1 _ rfl)) ?_
   refine aj (aC (j1 2 _ rfl)) ?_
   refine aj (aC (j1 3 _ rfl)) ?_
   refine aj (aC (j1 4 _ rfl)) ?_
   obtain ⟨r2,e2,hp⟩:=af hp
   refine aM (dW.P ⟨w0,trivial⟩ e2) ?_
   rintro _ H3 ⟨rfl,w3,s3,_⟩
   refine br ?_
   refine aB hp (λhp=>?_) λhp=>?_
   ·exact aE hp ⟨rfl,w3,(s0.trans s3),trivial⟩
   ·exact ih rfl ⟨w3,(s0.trans s3),(Kb.step s3)⟩ hp
  ·exact aE hp ⟨rfl,w0,s0,trivial⟩
def bD.p (F:Nat) (ai:Yx):Option (Int):=bD.pl13 F F ai (ai.length:Int) 0
theorem bD.P {aG ay aH ai} (bg:ay=ai.length) (h0:Inn H R0 λR=>ROs (aa eI (aa eI (aa eI (aa eI eI)))) H R ⟨aG,ay,aH⟩ ai) {r:Int} (hp:bD.p F ai=some r):Rt (bD.tw F ⟨aG,ay,aH⟩ H) (bD.Q H R0 R0  r):=by
 obtain ⟨w0,aU⟩:=h0
 subst bg
 unfold bD.p at hp
 unfold bD.tw bD.twX
 have s0:=w0.rf
 exact bD.l13_P F rfl ⟨w0,s0,aU⟩ hp
def dx.Q (H0:Hp) (Ri R0:Ys)  (r:Bool) (v:AV) (H':Hp):Prop:=v=(.bool r)/\Out H0 Ri H' (R0) λR=>True
def dx.p (F:Nat) (ai:Yx):Option (Bool):=(bD.p F ai).bind λr1=>some (decide (r1>=0))
theorem dx.P {aG ay aH ai} (bg:ay=ai.length) (h0:Inn H R0 λR=>ROs (aa eI (aa eI (aa eI (aa eI eI)))) H R ⟨aG,ay,aH⟩ ai) {r:Bool} (hp:dx.p F ai=some r):Rt (dx.tw F ⟨aG,ay,aH⟩ H) (dx.Q H R0 R0  r):=by
 obtain ⟨w0,aU⟩:=h0
 subst bg
 unfold dx.p at hp
 unfold dx.tw dx.twX
 have s0:=w0.rf
 obtain ⟨r1,e1,hp⟩:=af hp
 refine aM (bD.P rfl ⟨w0,aU⟩ e1) ?_
 rintro _ H2 ⟨rfl,w2,s2,_⟩
 refine br ?_
 exact aE hp ⟨rfl,w2,(s0.trans s2),trivial⟩
def bits_Mul64.Q (H0:Hp) (Ri R0:Ys)  (r:YL) (v:AV) (H':Hp):Prop:=v=(.tup [(.int .u64 r.1),(.int .u64 r.2)])/\Out H0 Ri H' (R0) λR=>True
def bits_Mul64.p (F:Nat) (ac:Int) (aI:Int):Option (Int×Int):=some ((IntKind.u64.wrap ((IntKind.u64.wrap ((IntKind.u64.wrap ((Int.fdiv ac (2 ^ (min (32:Int).toNat (IntKind.u64).bits))) * (Int.fdiv aI (2 ^ (min (32:Int).toNat (IntKind.u64).bits)))))+(Int.fdiv (IntKind.u64.wrap ((IntKind.u64.wrap ((Int.fdiv ac (2 ^ (min (32:Int).toNat (IntKind.u64).bits))) * (Go.bits .and .u64 aI 4294967295)))+(Int.fdiv (IntKind.u64.wrap ((Go.bits .and .u64 ac 4294967295) * (Go.bits .and .u64 aI 4294967295))) (2 ^ (min (32:Int).toNat (IntKind.u64).bits))))) (2 ^ (min (32:Int).toNat (IntKind.u64).bits)))))+(Int.fdiv (IntKind.u64.wrap ((Go.bits .and .u64 (IntKind.u64.wrap ((IntKind.u64.wrap ((Int.fdiv ac (2 ^ (min (32:Int).toNat (IntKind.u64).bits))) * (Go.bits .and .u64 aI 4294967295)))+(Int.fdiv (IntKind.u64.wrap ((Go.bits .and .u64 ac 4294967295) * (Go.bits .and .u64 aI 4294967295))) (2 ^ (min (32:Int).toNat (IntKind.u64).bits))))) 4294967295)+(IntKind.u64.wrap ((Go.bits .and .u64 ac 4294967295) * (Int.fdiv aI (2 ^ (min (32:Int).toNat (IntKind.u64).bits))))))) (2 ^ (min (32:Int).toNat (IntKind.u64).bits))))),(IntKind.u64.wrap (ac * aI)))
theorem bits_Mul64.P {ac aI}  (h0:Inn H R0 λR=>True) {r:YL} (hp:bits_Mul64.p F ac aI=some r):Rt (bits_Mul64.tw F ac aI H) (bits_Mul64.Q H R0 R0  r):=by
 obtain ⟨w0,_⟩:=h0
 unfold bits_Mul64.p at hp
 unfold bits_Mul64.tw bits_Mul64.twX
 have s0:=w0.rf
 exact aE hp ⟨rfl,w0,s0,trivial⟩
def bits_Mul.Q (H0:Hp) (Ri R0:Ys)  (r:YL) (v:AV) (H':Hp):Prop:=v=(.tup [(.int .u64 r.1),(.int .u64 r.2)])/\Out H0 Ri H' (R0) λR=>True
def bits_Mul.p (F:Nat) (ac:Int) (aI:Int):Option (Int×Int):=(bits_Mul64.p F ac aI).bind λr1=>some (r1.1,r1.2)
theorem bits_Mul.P {ac aI}  (h0:Inn H R0 λR=>True) {r:YL} (hp:bits_Mul.p F ac aI=some r):Rt (bits_Mul.tw F ac aI H) (bits_Mul.Q H R0 R0  r):=by
 obtain ⟨w0,_⟩:=h0
 unfold bits_Mul.p at hp
 unfold bits_Mul.tw bits_Mul.twX
 have s0:=w0.rf
 obtain ⟨r1,e1,hp⟩:=af hp
 refine aM (bits_Mul64.P ⟨w0,trivial⟩ e1) ?_
 rintro _ H2 ⟨rfl,w2,s2,_⟩
 refine br (br (br (br (br ?_))))
 exact aE hp ⟨rfl,w2,(s0.trans s2),trivial⟩
def bd.Q (H0:Hp) (Ri R0:Ys)  (r:(List (Int×Int))) (v:AV) (H':Hp):Prop:=∃ o0a:ON,∃ o0n:Nat,∃ o0k:List AV,v=(.sl ⟨o0a,o0n,.ex o0n⟩)/\o0n=(r).length/\Out H0 Ri H' (Rs.own ⟨o0a,o0n,.ex o0n⟩ (aa eI eI).z o0k::R0) λR=>CR (aa eI eI) H' R o0k (r)
def bd.pj1 (F:Nat)  (gP:YI) (fE:Int):Option ((List (Int×Int))):=(mkn (wrap .i64 fE) ((0:Int),(0:Int))).bind λl1=>(some (cpl l1 gP)).bind λl3=>(kW F l3 ((min gP.length l1.length:Nat):Int)).bind λl5=>some l5
theorem bd.j1_P   {rB mq rC gP fE} (BA:mq=gP.length) (h0:Out H0 Ri H R0 λR=>ROs (aa eI eI) H R ⟨rB,mq,rC⟩ gP) {r:(List (Int×Int))} (hp:bd.pj1 F  gP fE=some r):Rt (bd.j1 F (bits_Mul.tw F)  ⟨rB,mq,rC⟩ fE H) (bd.Q H0 Ri R0  r):=by
 obtain ⟨w0,s0,BB⟩:=h0
 subst BA
 unfold bd.pj1 at hp
 unfold bd.j1
 obtain ⟨l1,e1,hp⟩:=af hp
 refine jN (aa eI eI) ((0:Int),(0:Int)) w0 ⟨[_],_,rfl,rfl,rfl⟩ rfl rfl e1 λH2 k2 w2 s2 c2=>?_
 obtain ⟨x3,h3,c3⟩:=(BB.step s2).row (z:=(aa eI eI).z) rfl
 obtain ⟨l3,e3,hp⟩:=af hp
 refine MZ (aa eI eI) w2 (i:=0) rfl rfl c2 h3 c3 rfl rfl e3 λk4 H4 w4 s4 c4=>?_
 obtain ⟨l5,e5,hp⟩:=af hp
 refine M_ (aa eI eI) rfl (L:=bd.l254 F (bits_Mul.tw F)) (λ_ _ _ _=>rfl) w4 (i:=0) rfl c4 e5 λH6 k6 w6 s6 c6=>?_
 dsimp only [List.set] at w6 s6 c6
 exact aE hp ⟨_,_,_,rfl,((Na e3).symm.trans (Nb e5).symm),w6,(s0.trans (s2.trans (s4.trans s6))),c6⟩
def bd.pj2 (F:Nat)  (gQ:YI) (gw:Int):Option ((List (Int×Int))):=(bits_Mul.p F (IntKind.u64.wrap (gQ.length:Int)) (IntKind.u64.wrap gw)).bind λr1=>(bif (decide (r1.1>0)) then (none) else ((bif (decide (r1.2>9223372036854775807)) then (none) else (bd.pj1 F gQ r1.2))))
theorem bd.j2_P   {rD mr rE gQ gw} (BC:mr=gQ.length) (h0:Out H0 Ri H R0 λR=>ROs (aa eI eI) H R ⟨rD,mr,rE⟩ gQ) {r:(List (Int×Int))} (hp:bd.pj2 F  gQ gw=some r):Rt (bd.j2 F (bits_Mul.tw F)  ⟨rD,mr,rE⟩ gw H) (bd.Q H0 Ri R0  r):=by
 obtain ⟨w0,s0,BD⟩:=h0
 subst BC
 unfold bd.pj2 at hp
 unfold bd.j2
 obtain ⟨r1,e1,hp⟩:=af hp
 refine aM (bits_Mul.P ⟨w0,trivial⟩ e1) ?_
 rintro _ H2 ⟨rfl,w2,s2,_⟩
 refine br (br (br (br (br ?_))))
 refine aB hp (λhp=>?_) λhp=>?_
 ·cases hp
 ·refine aB hp (λhp=>?_) λhp=>?_
  ·cases hp
  ·exact bd.j1_P rfl ⟨w2,(s0.trans s2),(BD.step s2)⟩ hp
def bd.p (F:Nat) (ai:YI) (aI:Int):Option ((List (Int×Int))):=(bif (decide (aI<0)) then (none) else (bd.pj2 F ai aI))
theorem bd.P {aG ay aH ai aI} (bg:ay=ai.length) (h0:Inn H R0 λR=>ROs (aa eI eI) H R ⟨aG,ay,aH⟩ ai) {r:(List (Int×Int))} (hp:bd.p F ai aI=some r):Rt (bd.tw F ⟨aG,ay,aH⟩ aI H) (bd.Q H R0 R0  r):=by
 obtain ⟨w0,aU⟩:=h0
 subst bg
 unfold bd.p at hp
 unfold bd.tw bd.twX
 have s0:=w0.rf
 refine aB hp (λhp=>?_) λhp=>?_
 ·cases hp
 ·exact bd.j2_P rfl ⟨w0,s0,aU⟩ hp
def de.Q (H0:Hp) (Ri R0:Ys)  (r:Int×Int×Int×Int) (v:AV) (H':Hp):Prop:=v=(.agg [(.i r.1),(.i r.2.1),(.i r.2.2.1),(.i r.2.2.2)])/\Out H0 Ri H' (R0) λR=>True
def de.p (F:Nat) (ac:Int) (ag:Int) (bx:Int) (bz:Int):Option (Int×Int×Int×Int):=some (ac,ag,bx,bz)
theorem de.P {ac ag bx bz bq}  (h0:Inn H R0 λR=>True) {r:Int×Int×Int×Int} (hp:de.p F ac ag bx bz=some r):Rt (de.tw F ac ag bx bz bq H) (de.Q H R0 R0  r):=by
 obtain ⟨w0,_⟩:=h0
 unfold de.p at hp
 unfold de.tw de.twX
 have s0:=w0.rf
 refine aY w0 λH1 w1 s1=>?_
 refine aY w1 λH2 w2 s2=>?_
 refine lI w2 1 ?_
 refine lI w2 1 ?_
 refine lI w2 1 ?_
 refine lI w2 1 ?_
 refine ak w2 0 λH3 w3 s3=>?_
 refine ak w3 0 λH4 w4 s4=>?_
 refine ak w4 0 λH5 w5 s5=>?_
 refine ak w5 0 λH6 w6 s6=>?_
 refine lI w6 0 ?_
 refine lI w6 0 ?_
 refine lI w6 0 ?_
 refine lI w6 0 ?_
 obtain ⟨w7,s7⟩:=w6.pp [] 2
 exact aE hp ⟨rfl,w7,(s0.trans (s1.trans (s2.trans (s3.trans (s4.trans (s5.trans (s6.trans s7))))))),trivial⟩
def df.Q (H0:Hp) (Ri R0:Ys)  (r:Bool) (v:AV) (H':Hp):Prop:=v=(.bool r)/\Out H0 Ri H' (R0) λR=>True
def df.p (F:Nat) (bq:Int) (bM:Int):Option (Bool):=(bif (bM==0) then (some true) else (some (bM==(wrap .i64 (2+bq)))))
theorem df.P {ac ag bx bz bq bM}  (h0:Inn H R0 λR=>True) {r:Bool} (hp:df.p F bq bM=some r):Rt (df.tw F ac ag bx bz bq bM H) (df.Q H R0 R0  r):=by
 obtain ⟨w0,_⟩:=h0
 unfold df.p at hp
 unfold df.tw df.twX
 have s0:=w0.rf
 refine aY w0 λH1 w1 s1=>?_
 refine aB hp (λhp=>?_) λhp=>?_
 ·obtain ⟨w2,s2⟩:=w1.pp [] 1
  exact aE hp ⟨rfl,w2,(s0.trans (s1.trans s2)),trivial⟩
 ·refine lI w1 0 ?_
  obtain ⟨w3,s3⟩:=w1.pp [] 1
  exact aE hp ⟨rfl,w3,(s0.trans (s1.trans s3)),trivial⟩
def ew.Q (H0:Hp) (Ri R0:Ys)  (r:Int) (v:AV) (H':Hp):Prop:=v=(.i r)/\Out H0 Ri H' (R0) λR=>True
def ew.p (F:Nat) (ai:YI):Option (Int):=some (ai.length:Int)
theorem ew.P {aG ay aH ai} (bg:ay=ai.length) (h0:Inn H R0 λR=>ROs (aa eI eI) H R ⟨aG,ay,aH⟩ ai) {r:Int} (hp:ew.p F ai=some r):Rt (ew.tw F ⟨aG,ay,aH⟩ H) (ew.Q H R0 R0  r):=by
 obtain ⟨w0,aU⟩:=h0
 subst bg
 unfold ew.p at hp
 unfold ew.tw ew.twX
 have s0:=w0.rf
 exact aE hp ⟨rfl,w0,s0,trivial⟩
def cX.Q (H0:Hp) (Ri R0:Ys)  (r:Bool) (v:AV) (H':Hp):Prop:=v=(.bool r)/\Out H0 Ri H' (R0) λR=>True
def cX.p (F:Nat) (ai:YI) (aI:Int):Option (Bool):=(ew.p F ai).bind λr1=>(dw.p F aI 0 (wrap .i64 (r1 - 1))).bind λr3=>some r3
theorem cX.P {aG ay aH ai aI} (bg:ay=ai.length) (h0:Inn H R0 λR=>ROs (aa eI eI) H R ⟨aG,ay,aH⟩ ai) {r:Bool} (hp:cX.p F ai aI=some r):Rt (cX.tw F ⟨aG,ay,aH⟩ aI H) (cX.Q H R0 R0  r):=by
 obtain ⟨w0,aU⟩:=h0
 subst bg
 unfold cX.p at hp
 unfold cX.tw cX.twX
 have s0:=w0.rf
 obtain ⟨r1,e1,hp⟩:=af hp
 refine aM (ew.P rfl ⟨w0,aU⟩ e1) ?_
 rintro _ H2 ⟨rfl,w2,s2,_⟩
 refine br ?_
 obtain ⟨r3,e3,hp⟩:=af hp
 refine aM (dw.P ⟨w2,trivial⟩ e3) ?_
 rintro _ H4 ⟨rfl,w4,s4,_⟩
 refine br ?_
 exact aE hp ⟨rfl,w4,(s0.trans (s2.trans s4)),trivial⟩
def aP.Q (H0:Hp) (Ri R0:Ys)  (r:(List (Int×Int))×(List (Int×Int))×Bool) (v:AV) (H':Hp):Prop:=∃ o0a:ON,∃ o0n:Nat,∃ o0c:Cap,∃ o0k:List AV,∃ o1a:ON,∃ o1n:Nat,∃ o1c:Cap,∃ o1k:List AV,v=(.tup [(.agg [(.sl ⟨o0a,o0n,o0c⟩),(.sl ⟨o1a,o1n,o1c⟩)]),(.bool r.2.2)])/\o0n=(r.1).length/\o1n=(r.2.1).length/\Out H0 Ri H' (Rs.own ⟨o0a,o0n,o0c⟩ (aa eI eI).z o0k::Rs.own ⟨o1a,o1n,o1c⟩ (aa eI eI).z o1k::R0) λR=>CR (aa eI eI) H' R o0k (r.1)/\CR (aa eI eI) H' R o1k (r.2.1)
def aP.S61 (H0:Hp) (Ri R0:Ys)  (C:Zp) (pC:Zy):Prop:=∀ {BE BF BG BH BI vH vI iz vJ vK fV vL BJ BK BL BM BN BO BP ms mu BQ BR BS BT hJ iA fH},∀ {H:Hp},vH=BO.length->vI=BP.length->vJ=ms.length->vK=mu.length->vL=hJ.length->(Out H0 Ri H (Rs.own ⟨BE,vH,BJ⟩ (aa eI eI).z BQ::Rs.own ⟨BF,vI,BK⟩ (aa eI eI).z BR::Rs.blk iz [.sl ⟨BE,vH,BJ⟩,.sl ⟨BF,vI,BK⟩]::Rs.own ⟨BG,vJ,BL⟩ (aa eI eI).z BS::Rs.own ⟨BH,vK,BM⟩ (aa eI eI).z BT::Rs.blk fV [.sl ⟨BG,vJ,BL⟩,.sl ⟨BH,vK,BM⟩]::R0) λR=>CR (aa eI eI) H R BQ BO/\CR (aa eI eI) H R BR BP/\CR (aa eI eI) H R BS ms/\CR (aa eI eI) H R BT mu/\ROs (aa eI (aa eI (aa eI (aa eI eI)))) H R ⟨BI,vL,BN⟩ hJ)->∀ {r:(List (Int×Int))×(List (Int×Int))×Bool},pC ms mu hJ iA fH=some r->Rt (C iz 0 fV 0 ⟨BI,vL,BN⟩ iA fH H) (aP.Q H0 Ri R0  r)
def aP.S3931 (H0:Hp) (Ri R0:Ys)  (C:Nat->Nat->Nat->Nat->Sl->Int->Int->Nat->Nat->Int->Int->Int->Int->Int->Int->Hp->OA) (pC:List (Int×Int)->List (Int×Int)->List (Int×Int×Int×Int×Int)->Int->Int->Int->Int->Int->Int->Int->Int->Int->Option ((List (Int×Int))×(List (Int×Int))×Bool)):Prop:=∀ {BU BV BW BX BY vM vN dy vO vP ey vQ gB BZ B_ Ca Cb Cc Cd Ce fj fk Cf Cg Ch Ci kG gz gA Kc Kd Ke Kf mw fG eb ec ed ee cR},∀ {H:Hp},vM=Cd.length->vN=Ce.length->vO=fj.length->vP=fk.length->vQ=kG.length->(Out H0 Ri H (Rs.own ⟨BU,vM,BZ⟩ (aa eI eI).z Cf::Rs.own ⟨BV,vN,B_⟩ (aa eI eI).z Cg::Rs.blk dy [.sl ⟨BU,vM,BZ⟩,.sl ⟨BV,vN,B_⟩]::Rs.own ⟨BW,vO,Ca⟩ (aa eI eI).z Ch::Rs.own ⟨BX,vP,Cb⟩ (aa eI eI).z Ci::Rs.blk ey [.sl ⟨BW,vO,Ca⟩,.sl ⟨BX,vP,Cb⟩]::Rs.blk gB [.i Kc,.i Kd,.i Ke,.i Kf,.i mw]::R0) λR=>CR (aa eI eI) H R Cf Cd/\CR (aa eI eI) H R Cg Ce/\CR (aa eI eI) H R Ch fj/\CR (aa eI eI) H R Ci fk/\ROs (aa eI (aa eI (aa eI (aa eI eI)))) H R ⟨BY,vQ,Cc⟩ kG)->∀ {r:(List (Int×Int))×(List (Int×Int))×Bool},pC fj fk kG gz gA mw fG eb ec ed ee cR=some r->Rt (C dy 0 ey 0 ⟨BY,vQ,Cc⟩ gz gA gB 0 fG eb ec ed ee cR H) (aP.Q H0 Ri R0  r)
def aP.pl3931 (F:Nat) (aV:Zy):Nat->List (Int×Int)->List (Int×Int)->List (Int×Int×Int×Int×Int)->Int->Int->Int->Int->Int->Int->Int->Int->Int->Option ((List (Int×Int))×(List (Int×Int))×Bool)
 | 0,_,_,_,_,_,_,_,_,_,_,_,_=>none
 | k+1,fj,fk,kG,gz,gA,mw,fG,eb,ec,ed,ee,cR=>(bif (decide (cR<4)) then ((if 0<=cR/\cR<(4:Int) then ((df.p F mw cR).bind λr2=>(bif r2 then ((cX.p F fk (gt ([eb,ec,ed,ee]:List Int) (cR:Int).toNat)).bind λr6=>(bif (!r6) then (some (fj,fk,false)) else ((ix fk (gt ([eb,ec,ed,ee]:List Int) (cR:Int).toNat)).bind λn12=>(bif (decide (((gt fk n12).1)>=0)) then (some (fj,fk,false)) else ((ix fk (gt ([eb,ec,ed,ee]:List Int) (cR:Int).toNat)).bind λn16=>(some (fk.set n16 (fG,(gt fk n16).2))).bind λl17=>(some (l17.set n16 ((gt l17 n16).1,cR))).bind λl19=>aP.pl3931 F aV k fj l19 kG gz gA mw fG eb ec ed ee (wrap .i64 (cR+1))))))) else ((cX.p F fj (gt ([eb,ec,ed,ee]:List Int) (cR:Int).toNat)).bind λr24=>(bif (!r24) then (some (fj,fk,false)) else ((ix fj (gt ([eb,ec,ed,ee]:List Int) (cR:Int).toNat)).bind λn30=>(bif (decide (((gt fj n30).1)>=0)) then (some (fj,fk,false)) else ((ix fj (gt ([eb,ec,ed,ee]:List Int) (cR:Int).toNat)).bind λn34=>(some (fj.set n34 (fG,(gt fj n34).2))).bind λl35=>(some (l35.set n34 ((gt l35 n34).1,cR))).bind λl37=>aP.pl3931 F aV k l37 fk kG gz gA mw fG eb ec ed ee (wrap .i64 (cR+1))))))))) else none)) else (aV fj fk kG gz (wrap .i64 (gA+1))))
theorem aP.l3931_P  {C61_:Zp} {aV:Zy} (hC61:aP.S61 H0 Ri R0  C61_ aV):∀ k,aP.S3931 H0 Ri R0  (aP.l3931 F (bd.tw F) (de.tw F) (df.tw F) (cX.tw F) C61_ k) (aP.pl3931 F aV k):=by
 intro k
 induction k with
 | zero=>unfold aP.S3931;intros;rename_i hp;cases hp
 | succ k ih=>
  intro BU BV BW BX BY vM vN dy vO vP ey vQ gB BZ B_ Ca Cb Cc Cd Ce fj fk Cf Cg Ch Ci kG gz gA Kc Kd Ke Kf mw fG eb ec ed ee cR H Ub Uc Ud Ue Uf h0 r hp
  obtain ⟨w0,s0,Cj,Ck,jf,jg,Cl⟩:=h0
  subst Ub
  subst Uc
  subst Ud
  subst Ue
  subst Uf
  unfold aP.pl3931 at hp
  unfold aP.l3931
  refine aB hp (λhp=>?_) λhp=>?_
  ·obtain ⟨g1,hp⟩:=eD hp
   refine fZ g1 ?_
   refine aj (a:=AV.int .i64 (gt ([eb,ec,ed,ee]:List Int) (cR:Int).toNat)) (by rw [Nat.mul_one];exact Nc (k:=.i64) (l:=[eb,ec,ed,ee]) rfl (by have:=g1;simp only [List.length_cons,List.length_nil];omega)) ?_
   refine br ?_
   refine lSl w0 5 ?_
   refine lI w0 6 ?_
   refine lI w0 6 ?_
   refine lI w0 6 ?_
   refine lI w0 6 ?_
   refine lI w0 6 ?_
   obtain ⟨r2,e2,hp⟩:=af hp
   refine aM (df.P ⟨w0,trivial⟩ e2) ?_
   rintro _ H3 ⟨rfl,w3,s3,_⟩
   refine br ?_
   refine aB hp (λhp=>?_) λhp=>?_
   ·refine lSl w3 5 ?_
    obtain ⟨w4,s4⟩:=w3.pp [4,0,1,2,3,5,6] 7
    have f5:=W.borrow1 (aa eI eI) w4 (jg.step (s3.trans s4))
    obtain ⟨w5,s5⟩:=w4.right1
    obtain ⟨r6,e6,hp⟩:=af hp
    refine aM (cX.P rfl ⟨w5,f5⟩ e6) ?_
    rintro _ H7 ⟨rfl,w7,s7,_⟩
    obtain ⟨w8,s8⟩:=W.frame1 w4 w7 s7
    refine br ?_
    refine aB hp (λhp=>?_) λhp=>?_
    ·refine lSl w8 5 ?_
     refine lSl w8 5 ?_
     refine ak w8 3 λH9 w9 s9=>?_
     refine ak w9 3 λH10 w10 s10=>?_
     refine lSl w10 3 ?_
     refine lSl w10 3 ?_
     obtain ⟨w11,s11⟩:=w10.pp [4,0] 7
     exact aE hp ⟨_,_,_,_,_,_,_,_,rfl,rfl,rfl,w11,(s0.trans (s3.trans (s4.trans (s8.trans (s9.trans (s10.trans s11)))))),(jf.step (s3.trans (s4.trans (s8.trans (s9.trans (s10.trans s11)))))),(jg.step (s3.trans (s4.trans (s8.trans (s9.trans (s10.trans s11))))))⟩
    ·obtain ⟨n12,g12,hp⟩:=af hp
     obtain ⟨p12,q12,i12,h12,j12⟩:=W.ixo (E:=(aa eI eI)) w8 (i:=0) rfl rfl (jg.step (s3.trans (s4.trans s8))) g12
     refine aj i12 ?_
     obtain ⟨_,_,rfl,rfl,rfl⟩:=h12
     refine aj (aC (j12 0 _ rfl)) ?_
     refine aB hp (λhp=>?_) λhp=>?_
     ·refine lSl w8 5 ?_
      refine lSl w8 5 ?_
      refine ak w8 3 λH13 w13 s13=>?_
      refine ak w13 3 λH14 w14 s14=>?_
      refine lSl w14 3 ?_
      refine lSl w14 3 ?_
      obtain ⟨w15,s15⟩:=w14.pp [4,0] 7
      exact aE hp ⟨_,_,_,_,_,_,_,_,rfl,rfl,rfl,w15,(s0.trans (s3.trans (s4.trans (s8.trans (s13.trans (s14.trans s15)))))),(jf.step (s3.trans (s4.trans (s8.trans (s13.trans (s14.trans s15)))))),(jg.step (s3.trans (s4.trans (s8.trans (s13.trans (s14.trans s15))))))⟩
     ·obtain ⟨n16,g16,hp⟩:=af hp
      obtain ⟨p16,q16,i16,h16,j16⟩:=W.ixo (E:=(aa eI eI)) w8 (i:=0) rfl rfl (jg.step (s3.trans (s4.trans s8))) g16
      refine aj i16 ?_
      obtain ⟨l17,e17,hp⟩:=af hp
      refine bV (aa eI eI) w8 (i:=0) (j:=0) (p:=p16) rfl rfl (jg.step (s3.trans (s4.trans s8))) g16 i16 e17 rfl rfl (λ_ h=>by obtain ⟨_,_,rfl,rfl,rfl⟩:=h;exact ⟨[_],_,rfl,rfl,rfl⟩) λH18 k18 w18 s18 c18=>?_
      obtain ⟨l19,e19,hp⟩:=af hp
      refine bV (aa eI eI) w18 (i:=0) (j:=1) (p:=p16) rfl rfl c18 (eQ g16 (aT e17)) i16 e19 rfl rfl (λ_ h=>by obtain ⟨_,_,rfl,rfl,rfl⟩:=h;exact ⟨[_],_,rfl,rfl,rfl⟩) λH20 k20 w20 s20 c20=>?_
      obtain ⟨w21,s21⟩:=w20.pp [1,2,3,4,0,5,6] 7
      exact ih rfl rfl rfl ((aT e17).symm.trans (aT e19).symm) rfl ⟨w21,(s0.trans (s3.trans (s4.trans (s8.trans (s18.trans (s20.trans s21)))))),(Cj.step (s3.trans (s4.trans (s8.trans (s18.trans (s20.trans s21)))))),(Ck.step (s3.trans (s4.trans (s8.trans (s18.trans (s20.trans s21)))))),(jf.step (s3.trans (s4.trans (s8.trans (s18.trans (s20.trans s21)))))),(c20.step s21),(Cl.step (s3.trans (s4.trans (s8.trans (s18.trans (s20.trans s21))))))⟩ hp
   ·obtain ⟨w22,s22⟩:=w3.pp [3,0,1,2,4,5,6] 7
    have f23:=W.borrow1 (aa eI eI) w22 (jf.step (s3.trans s22))
    obtain ⟨w23,s23⟩:=w22.right1
    obtain ⟨r24,e24,hp⟩:=af hp
    refine aM (cX.P rfl ⟨w23,f23⟩ e24) ?_
    rintro _ H25 ⟨rfl,w25,s25,_⟩
    obtain ⟨w26,s26⟩:=W.frame1 w22 w25 s25
    refine br ?_
    refine aB hp (λhp=>?_) λhp=>?_
    ·refine lSl w26 5 ?_
     refine lSl w26 5 ?_
     refine ak w26 3 λH27 w27 s27=>?_
     refine ak w27 3 λH28 w28 s28=>?_
     refine lSl w28 3 ?_
     refine lSl w28 3 ?_
     obtain ⟨w29,s29⟩:=w28.pp [0,4] 7
     exact aE hp ⟨_,_,_,_,_,_,_,_,rfl,rfl,rfl,w29,(s0.trans (s3.trans (s22.trans (s26.trans (s27.trans (s28.trans s29)))))),(jf.step (s3.trans (s22.trans (s26.trans (s27.trans (s28.trans s29)))))),(jg.step (s3.trans (s22.trans (s26.trans (s27.trans (s28.trans s29))))))⟩
    ·obtain ⟨n30,g30,hp⟩:=af hp
     obtain ⟨p30,q30,i30,h30,j30⟩:=W.ixo (E:=(aa eI eI)) w26 (i:=0) rfl rfl (jf.step (s3.trans (s22.trans s26))) g30
     refine aj i30 ?_
     obtain ⟨_,_,rfl,rfl,rfl⟩:=h30
     refine aj (aC (j30 0 _ rfl)) ?_
     refine aB hp (λhp=>?_) λhp=>?_
     ·refine lSl w26 5 ?_
      refine lSl w26 5 ?_
      refine ak w26 3 λH31 w31 s31=>?_
      refine ak w31 3 λH32 w32 s32=>?_
      refine lSl w32 3 ?_
      refine lSl w32 3 ?_
      obtain ⟨w33,s33⟩:=w32.pp [0,4] 7
      exact aE hp ⟨_,_,_,_,_,_,_,_,rfl,rfl,rfl,w33,(s0.trans (s3.trans (s22.trans (s26.trans (s31.trans (s32.trans s33)))))),(jf.step (s3.trans (s22.trans (s26.trans (s31.trans (s32.trans s33)))))),(jg.step (s3.trans (s22.trans (s26.trans (s31.trans (s32.trans s33))))))⟩
     ·obtain ⟨n34,g34,hp⟩:=af hp
      obtain ⟨p34,q34,i34,h34,j34⟩:=W.ixo (E:=(aa eI eI)) w26 (i:=0) rfl rfl (jf.step (s3.trans (s22.trans s26))) g34
      refine aj i34 ?_
      obtain ⟨l35,e35,hp⟩:=af hp
      refine bV (aa eI eI) w26 (i:=0) (j:=0) (p:=p34) rfl rfl (jf.step (s3.trans (s22.trans s26))) g34 i34 e35 rfl rfl (λ_ h=>by obtain ⟨_,_,rfl,rfl,rfl⟩:=h;exact ⟨[_],_,rfl,rfl,rfl⟩) λH36 k36 w36 s36 c36=>?_
      obtain ⟨l37,e37,hp⟩:=af hp
      refine bV (aa eI eI) w36 (i:=0) (j:=1) (p:=p34) rfl rfl c36 (eQ g34 (aT e35)) i34 e37 rfl rfl (λ_ h=>by obtain ⟨_,_,rfl,rfl,rfl⟩:=h;exact ⟨[_],_,rfl,rfl,rfl⟩) λH38 k38 w38 s38 c38=>?_
      obtain ⟨w39,s39⟩:=w38.pp [1,2,3,0,4,5,6] 7
      exact ih rfl rfl ((aT e35).symm.trans (aT e37).symm) rfl rfl ⟨w39,(s0.trans (s3.trans (s22.trans (s26.trans (s36.trans (s38.trans s39)))))),(Cj.step (s3.trans (s22.trans (s26.trans (s36.trans (s38.trans s39)))))),(Ck.step (s3.trans (s22.trans (s26.trans (s36.trans (s38.trans s39)))))),(c38.step s39),(jg.step (s3.trans (s22.trans (s26.trans (s36.trans (s38.trans s39)))))),(Cl.step (s3.trans (s22.trans (s26.trans (s36.trans (s38.trans s39))))))⟩ hp
  ·obtain ⟨w40,s40⟩:=w0.pp [0,1,2,3,4,5] 7
   exact hC61 rfl rfl rfl rfl rfl ⟨w40,(s0.trans s40),(Cj.step s40),(Ck.step s40),(jf.step s40),(jg.step s40),(Cl.step s40)⟩ hp
def aP.pl61 (F:Nat) :Nat->List (Int×Int)->List (Int×Int)->List (Int×Int×Int×Int×Int)->Int->Int->Option ((List (Int×Int))×(List (Int×Int))×Bool)
 | 0,_,_,_,_,_=>none
 | k+1,ms,mu,hJ,iA,fH=>(bif (decide (fH<iA)) then ((ix hJ fH).bind λn1=>(de.p F ((gt hJ n1).1) ((gt hJ n1).2.1) ((gt hJ n1).2.2.1) ((gt hJ n1).2.2.2.1)).bind λr8=>aP.pl3931 F (aP.pl61 F k) F ms mu hJ iA fH ((gt hJ n1).2.2.2.2) fH r8.1 r8.2.1 r8.2.2.1 r8.2.2.2 0) else (some (ms,mu,true)))
theorem aP.l61_P  :∀ k,aP.S61 H0 Ri R0  (aP.l61 F (bd.tw F) (de.tw F) (df.tw F) (cX.tw F)  k) (aP.pl61 F  k):=by
 intro k
 induction k with
 | zero=>unfold aP.S61;intros;rename_i hp;cases hp
 | succ k ih=>
  intro BE BF BG BH BI vH vI iz vJ vK fV vL BJ BK BL BM BN BO BP ms mu BQ BR BS BT hJ iA fH H Ug Uh Ui Uj Uk h0 r hp
  obtain ⟨w0,s0,Ul,Um,Kg,Kh,Ki⟩:=h0
  subst Ug
  subst Uh
  subst Ui
  subst Uj
  subst Uk
  unfold aP.pl61 at hp
  unfold aP.l61
  refine aB hp (λhp=>?_) λhp=>?_
  ·obtain ⟨n1,g1,hp⟩:=af hp
   obtain ⟨p1,q1,i1,h1,j1⟩:=ROs.ixr Ki rfl g1
   refine aj i1 ?_
   obtain ⟨_,_,rfl,rfl,_,_,rfl,rfl,_,_,rfl,rfl,_,_,rfl,rfl,rfl⟩:=h1
   refine aj (aC (j1 0 _ rfl)) ?_
   refine aj (aC (j1 1 _ rfl)) ?_
   refine aj (aC (j1 2 _ rfl)) ?_
   refine aj (aC (j1 3 _ rfl)) ?_
   refine aj (aC (j1 4 _ rfl)) ?_
   refine aY w0 λH2 w2 s2=>?_
   refine ak w2 0 λH3 w3 s3=>?_
   refine ak w3 0 λH4 w4 s4=>?_
   refine ak w4 0 λH5 w5 s5=>?_
   refine ak w5 0 λH6 w6 s6=>?_
   refine ak w6 0 λH7 w7 s7=>?_
   refine lI w7 0 ?_
   refine lI w7 0 ?_
   refine lI w7 0 ?_
   refine lI w7 0 ?_
   refine lI w7 0 ?_
   obtain ⟨r8,e8,hp⟩:=af hp
   refine aM (de.P ⟨w7,trivial⟩ e8) ?_
   rintro _ H9 ⟨rfl,w9,s9,_⟩
   refine br (br (br (br (br (br (br (br (br ?_))))))))
   obtain ⟨w10,s10⟩:=w9.pp [1,2,3,4,5,6,0] 7
   exact aP.l3931_P (@ih) F rfl rfl rfl rfl rfl ⟨w10,(s0.trans (s2.trans (s3.trans (s4.trans (s5.trans (s6.trans (s7.trans (s9.trans s10)))))))),(Ul.step (s2.trans (s3.trans (s4.trans (s5.trans (s6.trans (s7.trans (s9.trans s10)))))))),(Um.step (s2.trans (s3.trans (s4.trans (s5.trans (s6.trans (s7.trans (s9.trans s10)))))))),(Kg.step (s2.trans (s3.trans (s4.trans (s5.trans (s6.trans (s7.trans (s9.trans s10)))))))),(Kh.step (s2.trans (s3.trans (s4.trans (s5.trans (s6.trans (s7.trans (s9.trans s10)))))))),(Ki.step (s2.trans (s3.trans (s4.trans (s5.trans (s6.trans (s7.trans (s9.trans s10))))))))⟩ hp
  ·refine lSl w0 5 ?_
   refine lSl w0 5 ?_
   refine ak w0 2 λH11 w11 s11=>?_
   refine ak w11 2 λH12 w12 s12=>?_
   refine lSl w12 2 ?_
   refine lSl w12 2 ?_
   obtain ⟨w13,s13⟩:=w12.pp [3,4] 6
   exact aE hp ⟨_,_,_,_,_,_,_,_,rfl,rfl,rfl,w13,(s0.trans (s11.trans (s12.trans s13))),(Kg.step (s11.trans (s12.trans s13))),(Kh.step (s11.trans (s12.trans s13)))⟩
def aP.p (F:Nat) (ai:Yx):Option ((List (Int×Int))×(List (Int×Int))×Bool):=(bd.p F ([((-1),0)]:List (Int×Int)) (wrap .i64 (2 * (ai.length:Int)))).bind λr5=>(bd.p F ([((-1),0)]:List (Int×Int)) (wrap .i64 (2 * (ai.length:Int)))).bind λr10=>aP.pl61 F F r5 r10 ai (ai.length:Int) 0
theorem aP.P {aG ay aH ai ag} (bg:ay=ai.length) (h0:Inn H R0 λR=>ROs (aa eI (aa eI (aa eI (aa eI eI)))) H R ⟨aG,ay,aH⟩ ai) {r:(List (Int×Int))×(List (Int×Int))×Bool} (hp:aP.p F ai=some r):Rt (aP.tw F ⟨aG,ay,aH⟩ ag H) (aP.Q H R0 R0  r):=by
 obtain ⟨w0,aU⟩:=h0
 subst bg
 unfold aP.p at hp
 unfold aP.tw aP.twX
 have s0:=w0.rf
 refine aY w0 λH1 w1 s1=>?_
 refine aY w1 λH2 w2 s2=>?_
 refine lSl w2 1 ?_
 refine dl (aa eI eI) w2 (n:=1) (l:=([((-1),0)]:List (Int×Int))) rfl (CR.cons (c:=[_,_]) ⟨[_],_,rfl,rfl,rfl⟩ CR.empty) rfl λH3 w3 s3 c3=>?_
 have f4:=W.borrow1 (aa eI eI) w3 c3
 obtain ⟨w4,s4⟩:=w3.right1
 obtain ⟨r5,e5,hp⟩:=af hp
 refine aM (bd.P (show 1=List.length ([((-1),0)]:List (Int×Int)) from rfl) ⟨w4,f4⟩ e5) ?_
 rintro _ H6 ⟨o0a_6,o0n_6,o0k_6,rfl,rfl,w6,s6,f6_0⟩
 obtain ⟨w7,s7⟩:=W.frame1 w3 w6 s6
 refine br ?_
 refine dl (aa eI eI) w7 (n:=1) (l:=([((-1),0)]:List (Int×Int))) rfl (CR.cons (c:=[_,_]) ⟨[_],_,rfl,rfl,rfl⟩ CR.empty) rfl λH8 w8 s8 c8=>?_
 have f9:=W.borrow1 (aa eI eI) w8 c8
 obtain ⟨w9,s9⟩:=w8.right1
 obtain ⟨r10,e10,hp⟩:=af hp
 refine aM (bd.P (show 1=List.length ([((-1),0)]:List (Int×Int)) from rfl) ⟨w9,f9⟩ e10) ?_
 rintro _ H11 ⟨o0a_11,o0n_11,o0k_11,rfl,rfl,w11,s11,f11_0⟩
 obtain ⟨w12,s12⟩:=W.frame1 w8 w11 s11
 refine br ?_
 refine aY w12 λH13 w13 s13=>?_
 refine ak w13 0 λH14 w14 s14=>?_
 refine ak w14 0 λH15 w15 s15=>?_
 refine lSl w15 6 ?_
 obtain ⟨w16,s16⟩:=w15.nilS (aa eI eI).z (by decide)
 obtain ⟨w17,s17⟩:=w16.nilS (aa eI eI).z (by decide)
 obtain ⟨w18,s18⟩:=w17.pp [1,0,7,6,4,2] 9
 exact aP.l61_P F rfl rfl rfl rfl rfl ⟨w18,(s0.trans (s1.trans (s2.trans (s3.trans (s7.trans (s8.trans (s12.trans (s13.trans (s14.trans (s15.trans (s16.trans (s17.trans s18)))))))))))),((CR.empty:CR (aa eI eI) _ _ [] []).step (s17.trans s18)),((CR.empty:CR (aa eI eI) _ _ [] []).step s18),((CR.flat (dp (cv .i64) (cv .i64)) f6_0).step (s8.trans (s12.trans (s13.trans (s14.trans (s15.trans (s16.trans (s17.trans s18)))))))),((CR.flat (dp (cv .i64) (cv .i64)) f11_0).step (s13.trans (s14.trans (s15.trans (s16.trans (s17.trans s18)))))),(aU.step (s1.trans (s2.trans (s3.trans (s7.trans (s8.trans (s12.trans (s13.trans (s14.trans (s15.trans (s16.trans (s17.trans s18))))))))))))⟩ hp
def cF.Q (H0:Hp) (Ri R0:Ys)  (r:YL) (v:AV) (H':Hp):Prop:=v=(.agg [(.i r.1),(.i r.2)])/\Out H0 Ri H' (R0) λR=>True
def cF.p (F:Nat) (ai:Yx) (bH:YI) (cL:YI) (da:Int) (ez:Int):Option (Int×Int):=(ix ai da).bind λn5=>(de.p F ((gt ai n5).1) ((gt ai n5).2.1) ((gt ai n5).2.2.1) ((gt ai n5).2.2.2.1)).bind λr12=>(if 0<=ez/\ez<(4:Int) then ((df.p F ((gt ai n5).2.2.2.2) ez).bind λr16=>(bif r16 then ((ix bH (gt ([r12.1,r12.2.1,r12.2.2.1,r12.2.2.2]:List Int) (ez:Int).toNat)).bind λn18=>some (((gt bH n18).1),((gt bH n18).2))) else ((ix cL (gt ([r12.1,r12.2.1,r12.2.2.1,r12.2.2.2]:List Int) (ez:Int).toNat)).bind λn22=>some (((gt cL n22).1),((gt cL n22).2))))) else none)
theorem cF.P {aG dL fW ay cS eC aH dM fX ai ag da ez bH cL} (bg:ay=ai.length) (fL:cS=bH.length) (jJ:eC=cL.length) (h0:Inn H R0 λR=>ROs (aa eI (aa eI (aa eI (aa eI eI)))) H R ⟨aG,ay,aH⟩ ai/\ROs (aa eI eI) H R ⟨dL,cS,dM⟩ bH/\ROs (aa eI eI) H R ⟨fW,eC,fX⟩ cL) {r:YL} (hp:cF.p F ai bH cL da ez=some r):Rt (cF.tw F ⟨aG,ay,aH⟩ ag ⟨dL,cS,dM⟩ ⟨fW,eC,fX⟩ da ez H) (cF.Q H R0 R0  r):=by
 obtain ⟨w0,aU,eO,iX⟩:=h0
 subst bg
 subst fL
 subst jJ
 unfold cF.p at hp
 unfold cF.tw cF.twX
 have s0:=w0.rf
 refine aY w0 λH1 w1 s1=>?_
 refine aY w1 λH2 w2 s2=>?_
 refine aY w2 λH3 w3 s3=>?_
 refine aY w3 λH4 w4 s4=>?_
 refine lSl w4 3 ?_
 refine lI w4 1 ?_
 obtain ⟨n5,g5,hp⟩:=af hp
 obtain ⟨p5,q5,i5,h5,j5⟩:=ROs.ixr (aU.step (s1.trans (s2.trans (s3.trans s4)))) rfl g5
 refine aj i5 ?_
 obtain ⟨_,_,rfl,rfl,_,_,rfl,rfl,_,_,rfl,rfl,_,_,rfl,rfl,rfl⟩:=h5
 refine aj (aC (j5 0 _ rfl)) ?_
 refine aj (aC (j5 1 _ rfl)) ?_
 refine aj (aC (j5 2 _ rfl)) ?_
 refine aj (aC (j5 3 _ rfl)) ?_
 refine aj (aC (j5 4 _ rfl)) ?_
 refine aY w4 λH6 w6 s6=>?_
 refine ak w6 0 λH7 w7 s7=>?_
 refine ak w7 0 λH8 w8 s8=>?_
 refine ak w8 0 λH9 w9 s9=>?_
 refine ak w9 0 λH10 w10 s10=>?_
 refine ak w10 0 λH11 w11 s11=>?_
 refine lI w11 0 ?_
 refine lI w11 0 ?_
 refine lI w11 0 ?_
 refine lI w11 0 ?_
 refine lI w11 0 ?_
 obtain ⟨r12,e12,hp⟩:=af hp
 refine aM (de.P ⟨w11,trivial⟩ e12) ?_
 rintro _ H13 ⟨rfl,w13,s13,_⟩
 refine br (br (br (br (br (br (br (br (br ?_))))))))
 refine fZ (W.cons_of (Rn:=[]) w11 w13 s13) ?_
 refine lI w13 2 ?_
 obtain ⟨g15,hp⟩:=eD hp
 refine fZ g15 ?_
 refine aj (a:=AV.int .i64 (gt ([r12.1,r12.2.1,r12.2.2.1,r12.2.2.2]:List Int) (ez:Int).toNat)) (by rw [Nat.mul_one];exact Nc (k:=.i64) (l:=[r12.1,r12.2.1,r12.2.2.1,r12.2.2.2]) rfl (by have:=g15;simp only [List.length_cons,List.length_nil];omega)) ?_
 refine br ?_
 refine lI w13 0 ?_
 refine lI w13 0 ?_
 refine lI w13 0 ?_
 refine lI w13 0 ?_
 refine lI w13 0 ?_
 refine lI w13 2 ?_
 obtain ⟨r16,e16,hp⟩:=af hp
 refine aM (df.P ⟨w13,trivial⟩ e16) ?_
 rintro _ H17 ⟨rfl,w17,s17,_⟩
 refine br ?_
 refine aB hp (λhp=>?_) λhp=>?_
 ·refine lSl w17 3 ?_
  obtain ⟨n18,g18,hp⟩:=af hp
  obtain ⟨p18,q18,i18,h18,j18⟩:=ROs.ixr (eO.step (s1.trans (s2.trans (s3.trans (s4.trans (s6.trans (s7.trans (s8.trans (s9.trans (s10.trans (s11.trans (s13.trans s17)))))))))))) rfl g18
  refine aj i18 ?_
  obtain ⟨_,_,rfl,rfl,rfl⟩:=h18
  refine aj (aC (j18 0 _ rfl)) ?_
  refine aj (aC (j18 1 _ rfl)) ?_
  refine ak w17 1 λH19 w19 s19=>?_
  refine ak w19 1 λH20 w20 s20=>?_
  refine lI w20 1 ?_
  refine lI w20 1 ?_
  obtain ⟨w21,s21⟩:=w20.pp [] 5
  exact aE hp ⟨rfl,w21,(s0.trans (s1.trans (s2.trans (s3.trans (s4.trans (s6.trans (s7.trans (s8.trans (s9.trans (s10.trans (s11.trans (s13.trans (s17.trans (s19.trans (s20.trans s21))))))))))))))),trivial⟩
 ·refine lSl w17 3 ?_
  obtain ⟨n22,g22,hp⟩:=af hp
  obtain ⟨p22,q22,i22,h22,j22⟩:=ROs.ixr (iX.step (s1.trans (s2.trans (s3.trans (s4.trans (s6.trans (s7.trans (s8.trans (s9.trans (s10.trans (s11.trans (s13.trans s17)))))))))))) rfl g22
  refine aj i22 ?_
  obtain ⟨_,_,rfl,rfl,rfl⟩:=h22
  refine aj (aC (j22 0 _ rfl)) ?_
  refine aj (aC (j22 1 _ rfl)) ?_
  refine ak w17 1 λH23 w23 s23=>?_
  refine ak w23 1 λH24 w24 s24=>?_
  refine lI w24 1 ?_
  refine lI w24 1 ?_
  obtain ⟨w25,s25⟩:=w24.pp [] 5
  exact aE hp ⟨rfl,w25,(s0.trans (s1.trans (s2.trans (s3.trans (s4.trans (s6.trans (s7.trans (s8.trans (s9.trans (s10.trans (s11.trans (s13.trans (s17.trans (s23.trans (s24.trans s25))))))))))))))),trivial⟩
def aw.Q (H0:Hp) (Ri R0:Ys)  (r:YD) (v:AV) (H':Hp):Prop:=∃ o0a:ON,∃ o0n:Nat,∃ o0c:Cap,∃ o0k:List AV,v=(.sl ⟨o0a,o0n,o0c⟩)/\o0n=(r).length/\Out H0 Ri H' (Rs.own ⟨o0a,o0n,o0c⟩ (eSl eI).z o0k::R0) λR=>CR (eSl eI) H' R o0k (r)
def aw.S61 (H0:Hp) (Ri R0:Ys)  (C:YS) (pC:YU):Prop:=∀ {Cm lT Cn Cp Cq vR lA jD vS fm vT vU Ct lU Cu Cv Cw pt Kj iD gC dZ pu mz Cx Cy pv},∀ {H:Hp},vR=pt.length->jD=dZ.length->vS=pu.length->vT=mz.length->vU=pv.length->(Out H0 Ri H (Rs.blk lA [.sl ⟨Cm,vR,Ct⟩,.i Kj]::Rs.blk fm [.sl ⟨lT,jD,lU⟩,.sl ⟨Cn,vS,Cu⟩]::Rs.own ⟨Cp,vT,Cv⟩ (eSl eI).z Cx::Rs.own ⟨Cq,vU,Cw⟩ bI.z Cy::R0) λR=>ROs (aa eI (aa eI (aa eI (aa eI eI)))) H R ⟨Cm,vR,Ct⟩ pt/\ROs (aa eI eI) H R ⟨lT,jD,lU⟩ dZ/\ROs (aa eI eI) H R ⟨Cn,vS,Cu⟩ pu/\CR (eSl eI) H R Cx mz/\CR bI H R Cy pv)->∀ {r:YD},pC pt dZ pu mz pv iD gC=some r->Rt (C lA 0 fm 0 ⟨Cp,vT,Cv⟩ ⟨Cq,vU,Cw⟩ iD gC H) (aw.Q H0 Ri R0  r)
def aw.S15725 (H0:Hp) (Ri R0:Ys)  (C:Nat->Nat->Nat->Nat->Sl->Sl->Int->Int->Sl->Int->Hp->OA) (pC:List (Int×Int×Int×Int×Int)->List (Int×Int)->List (Int×Int)->List (List Int)->List Bool->Int->Int->List Int->Int->Option (List (List Int))):Prop:=∀ {Cz CA CB CC CD CE vV ja vW vX jb vY vZ v_ CF CG CH CI CJ CK kH Kk iB iC eA kI kJ mA CL CM CN jh mB},∀ {H:Hp},vV=kH.length->vW=kI.length->vX=kJ.length->vY=mA.length->vZ=jh.length->v_=mB.length->(Out H0 Ri H (Rs.blk ja [.sl ⟨Cz,vV,CF⟩,.i Kk]::Rs.blk jb [.sl ⟨CA,vW,CG⟩,.sl ⟨CB,vX,CH⟩]::Rs.own ⟨CC,vY,CI⟩ (eSl eI).z CL::Rs.own ⟨CD,vZ,CJ⟩ bI.z CM::Rs.own ⟨CE,v_,CK⟩ eI.z CN::R0) λR=>ROs (aa eI (aa eI (aa eI (aa eI eI)))) H R ⟨Cz,vV,CF⟩ kH/\ROs (aa eI eI) H R ⟨CA,vW,CG⟩ kI/\ROs (aa eI eI) H R ⟨CB,vX,CH⟩ kJ/\CR (eSl eI) H R CL mA/\CR bI H R CM jh/\CR eI H R CN mB)->∀ {r:YD},pC kH kI kJ mA jh iB iC mB eA=some r->Rt (C ja 0 jb 0 ⟨CC,vY,CI⟩ ⟨CD,vZ,CJ⟩ iB iC ⟨CE,v_,CK⟩ eA H) (aw.Q H0 Ri R0  r)
def aw.pj4 (F:Nat) (aV:YU) (rF:Yx) (rG:YI) (rH:YI) (rI:YD) (rJ:Zd) (ol:Int) (om:Int):Option (List (List Int)):=aV rF rG rH rI rJ ol (wrap .i64 (om+1))
theorem aw.j4_P  {C61_:YS} {aV:YU} (hC61:aw.S61 H0 Ri R0  C61_ aV) {Kl Km Ko Kp Kq CO tV CP CQ tW CS CT Ks Kt Ku Kv Kw rF Uo ol om rG rH rI Ky Kz rJ} (Up:CO=rF.length) (Uq:CP=rG.length) (Ur:CQ=rH.length) (Us:CS=rI.length) (Ut:CT=rJ.length) (h0:Out H0 Ri H (Rs.blk tV [.sl ⟨Kl,CO,Ks⟩,.i Uo]::Rs.blk tW [.sl ⟨Km,CP,Kt⟩,.sl ⟨Ko,CQ,Ku⟩]::Rs.own ⟨Kp,CS,Kv⟩ (eSl eI).z Ky::Rs.own ⟨Kq,CT,Kw⟩ bI.z Kz::R0) λR=>ROs (aa eI (aa eI (aa eI (aa eI eI)))) H R ⟨Kl,CO,Ks⟩ rF/\ROs (aa eI eI) H R ⟨Km,CP,Kt⟩ rG/\ROs (aa eI eI) H R ⟨Ko,CQ,Ku⟩ rH/\CR (eSl eI) H R Ky rI/\CR bI H R Kz rJ) {r:YD} (hp:aw.pj4 F aV rF rG rH rI rJ ol om=some r):Rt (aw.j4 F (cF.tw F) C61_ tV 0 tW 0 ⟨Kp,CS,Kv⟩ ⟨Kq,CT,Kw⟩ ol om H) (aw.Q H0 Ri R0  r):=by
 obtain ⟨w0,s0,Uu,Uv,Uw,Ux,Uy⟩:=h0
 subst Up
 subst Uq
 subst Ur
 subst Us
 subst Ut
 unfold aw.pj4 at hp
 unfold aw.j4
 exact hC61 rfl rfl rfl rfl rfl ⟨w0,s0,Uu,Uv,Uw,Ux,Uy⟩ hp
def aw.pj5 (F:Nat) (aV:YU) (rK:Yx) (rL:YI) (rM:YI) (rN:YD) (rO:Zd) (oq:Int) (ou:Int):Option (List (List Int)):=aw.pj4 F aV rK rL rM rN rO oq ou
theorem aw.j5_P  {C61_:YS} {aV:YU} (hC61:aw.S61 H0 Ri R0  C61_ aV) {KA KB KC KD KE CU tX CV CW nP CX CY KF KG KH KI KJ rK Uz oq ou rL rM rN KK KL rO} (UA:CU=rK.length) (UB:CV=rL.length) (UC:CW=rM.length) (UD:CX=rN.length) (UE:CY=rO.length) (h0:Out H0 Ri H (Rs.blk tX [.sl ⟨KA,CU,KF⟩,.i Uz]::Rs.blk nP [.sl ⟨KB,CV,KG⟩,.sl ⟨KC,CW,KH⟩]::Rs.own ⟨KD,CX,KI⟩ (eSl eI).z KK::Rs.own ⟨KE,CY,KJ⟩ bI.z KL::R0) λR=>ROs (aa eI (aa eI (aa eI (aa eI eI)))) H R ⟨KA,CU,KF⟩ rK/\ROs (aa eI eI) H R ⟨KB,CV,KG⟩ rL/\ROs (aa eI eI) H R ⟨KC,CW,KH⟩ rM/\CR (eSl eI) H R KK rN/\CR bI H R KL rO) {r:YD} (hp:aw.pj5 F aV rK rL rM rN rO oq ou=some r):Rt (aw.j5 F (cF.tw F) C61_ tX 0 nP 0 ⟨KD,CX,KI⟩ ⟨KE,CY,KJ⟩ oq ou H) (aw.Q H0 Ri R0  r):=by
 obtain ⟨w0,s0,UG,UH,UI,UJ,UK⟩:=h0
 subst UA
 subst UB
 subst UC
 subst UD
 subst UE
 unfold aw.pj5 at hp
 unfold aw.j5
 exact aw.j4_P (@hC61) rfl rfl rfl rfl rfl ⟨w0,s0,UG,UH,UI,UJ,UK⟩ hp
def aw.pj6 (F:Nat) (aV:YU) (pw:Yx) (pz:YI) (pA:YI) (pB:YD) (pD:Zd) (kK:Yr) (ku:Int) (kv:Int):Option (List (List Int)):=(bif (decide ((kK.length:Int)>0)) then ((apn pB ([kK]:List (List Int))).bind λl3=>aw.pj5 F aV pw pz pA l3 pD ku kv) else (aw.pj5 F aV pw pz pA pB pD ku kv))
theorem aw.j6_P  {C61_:YS} {aV:YU} (hC61:aw.S61 H0 Ri R0  C61_ aV) {KM KN KO KP KQ KR CZ qj C_ Da qk Db Dc Dd KS KT KU KV KW KX pw UL ku kv pz pA pB KY KZ K_ pD kK} (UM:CZ=pw.length) (UN:C_=pz.length) (UO:Da=pA.length) (UP:Db=pB.length) (UQ:Dc=pD.length) (UR:Dd=kK.length) (h0:Out H0 Ri H (Rs.blk qj [.sl ⟨KM,CZ,KS⟩,.i UL]::Rs.blk qk [.sl ⟨KN,C_,KT⟩,.sl ⟨KO,Da,KU⟩]::Rs.own ⟨KP,Db,KV⟩ (eSl eI).z KY::Rs.own ⟨KQ,Dc,KW⟩ bI.z KZ::Rs.own ⟨KR,Dd,KX⟩ eI.z K_::R0) λR=>ROs (aa eI (aa eI (aa eI (aa eI eI)))) H R ⟨KM,CZ,KS⟩ pw/\ROs (aa eI eI) H R ⟨KN,C_,KT⟩ pz/\ROs (aa eI eI) H R ⟨KO,Da,KU⟩ pA/\CR (eSl eI) H R KY pB/\CR bI H R KZ pD/\CR eI H R K_ kK) {r:YD} (hp:aw.pj6 F aV pw pz pA pB pD kK ku kv=some r):Rt (aw.j6 F (cF.tw F) C61_ qj 0 qk 0 ⟨KP,Db,KV⟩ ⟨KQ,Dc,KW⟩ ⟨KR,Dd,KX⟩ ku kv H) (aw.Q H0 Ri R0  r):=by
 obtain ⟨w0,s0,La,Lb,Lc,Ld,Le,US⟩:=h0
 subst UM
 subst UN
 subst UO
 subst UP
 subst UQ
 subst UR
 unfold aw.pj6 at hp
 unfold aw.j6
 refine aB hp (λhp=>?_) λhp=>?_
 ·obtain ⟨w1,s1,f1⟩:=w0.frz (i:=4) eI rfl US
  refine dl (eSl eI) w1 (n:=1) (l:=([kK]:List (List Int))) rfl (CR.cons1 ⟨_,rfl,f1⟩ CR.empty) rfl λH2 w2 s2 c2=>?_
  refine aj (w2.rowo (i:=0) rfl) ?_
  obtain ⟨l3,e3,hp⟩:=af hp
  refine fQ (eSl eI) w2 (i:=3) rfl rfl (Ld.step (s1.trans s2)) c2 (show 1=List.length ([kK]:List (List Int)) from rfl) rfl e3 λa4 d4 H4 w4 s4 c4 x4=>?_
  obtain ⟨w5,s5⟩:=w4.pp [1,2,3,4] 5
  exact aw.j5_P (@hC61) rfl rfl rfl rfl rfl ⟨w5,(s0.trans (s1.trans (s2.trans (s4.trans s5)))),(La.step (s1.trans (s2.trans (s4.trans s5)))),(Lb.step (s1.trans (s2.trans (s4.trans s5)))),(Lc.step (s1.trans (s2.trans (s4.trans s5)))),(c4.step s5),(Le.step (s1.trans (s2.trans (s4.trans s5))))⟩ hp
 ·obtain ⟨w6,s6⟩:=w0.pp [0,1,2,3] 5
  exact aw.j5_P (@hC61) rfl rfl rfl rfl rfl ⟨w6,(s0.trans s6),(La.step s6),(Lb.step s6),(Lc.step s6),(Ld.step s6),(Le.step s6)⟩ hp
def aw.pl15725 (F:Nat) (aV:YU):Nat->List (Int×Int×Int×Int×Int)->List (Int×Int)->List (Int×Int)->List (List Int)->List Bool->Int->Int->List Int->Int->Option (List (List Int))
 | 0,_,_,_,_,_,_,_,_,_=>none
 | k+1,kH,kI,kJ,mA,jh,iB,iC,mB,eA=>(ix jh eA).bind λn1=>(bif (!(gt jh n1)) then ((ix jh eA).bind λn2=>(some (jh.set n2 true)).bind λl3=>(apn mB ([eA]:List Int)).bind λl6=>(cF.p F kH kI kJ (wrap .i64 (Int.tdiv eA 4)) (Int.tmod (wrap .i64 (eA+1)) 4)).bind λr8=>aw.pl15725 F aV k kH kI kJ mA l3 iB iC l6 (wrap .i64 ((wrap .i64 (4 * r8.1))+r8.2))) else (aw.pj6 F aV kH kI kJ mA jh mB iB iC))
theorem aw.l15725_P  {C61_:YS} {aV:YU} (hC61:aw.S61 H0 Ri R0  C61_ aV):∀ k,aw.S15725 H0 Ri R0  (aw.l15725 F (cF.tw F) C61_ k) (aw.pl15725 F aV k):=by
 intro k
 induction k with
 | zero=>unfold aw.S15725;intros;rename_i hp;cases hp
 | succ k ih=>
  intro Cz CA CB CC CD CE vV ja vW vX jb vY vZ v_ CF CG CH CI CJ CK kH Kk iB iC eA kI kJ mA CL CM CN jh mB H UT UU UV UW UX UY h0 r hp
  obtain ⟨w0,s0,De,Df,Dg,Lf,wa,Lg⟩:=h0
  subst UT
  subst UU
  subst UV
  subst UW
  subst UX
  subst UY
  unfold aw.pl15725 at hp
  unfold aw.l15725
  obtain ⟨n1,g1,hp⟩:=af hp
  obtain ⟨p1,q1,i1,h1,j1⟩:=W.ixo (E:=bI) w0 (i:=3) rfl rfl wa g1
  refine aj i1 ?_
  have h1:_=[_]:=h1
  subst h1
  refine aj (mL (j1 0 _ rfl)) ?_
  refine aB hp (λhp=>?_) λhp=>?_
  ·obtain ⟨n2,g2,hp⟩:=af hp
   obtain ⟨p2,q2,i2,h2,j2⟩:=W.ixo (E:=bI) w0 (i:=3) rfl rfl wa g2
   refine aj i2 ?_
   obtain ⟨l3,e3,hp⟩:=af hp
   refine bV bI w0 (i:=3) (j:=0) (p:=p2) rfl rfl wa g2 i2 e3 rfl rfl (λ_ h=>by have h:_=[_]:=h;subst h;exact rfl) λH4 k4 w4 s4 c4=>?_
   refine dl eI w4 (n:=1) (l:=([eA]:List Int)) rfl (CR.cons1 rfl CR.empty) rfl λH5 w5 s5 c5=>?_
   refine aj (w5.rowo (i:=0) rfl) ?_
   obtain ⟨l6,e6,hp⟩:=af hp
   refine fQ eI w5 (i:=5) rfl rfl (Lg.step (s4.trans s5)) c5 (show 1=List.length ([eA]:List Int) from rfl) rfl e6 λa7 d7 H7 w7 s7 c7 x7=>?_
   refine lSl w7 1 ?_
   refine lI w7 1 ?_
   refine lSl w7 2 ?_
   refine lSl w7 2 ?_
   obtain ⟨r8,e8,hp⟩:=af hp
   refine aM (cF.P rfl rfl rfl ⟨w7,(De.step (s4.trans (s5.trans s7))),(Df.step (s4.trans (s5.trans s7))),(Dg.step (s4.trans (s5.trans s7)))⟩ e8) ?_
   rintro _ H9 ⟨rfl,w9,s9,_⟩
   refine br (br (br (br (br ?_))))
   refine aY w9 λH10 w10 s10=>?_
   refine ak w10 0 λH11 w11 s11=>?_
   refine ak w11 0 λH12 w12 s12=>?_
   refine lI w12 0 ?_
   refine lI w12 0 ?_
   obtain ⟨w13,s13⟩:=w12.pp [2,3,4,5,6] 7
   exact ih rfl rfl rfl rfl ((aT e3).symm) rfl ⟨w13,(s0.trans (s4.trans (s5.trans (s7.trans (s9.trans (s10.trans (s11.trans (s12.trans s13)))))))),(De.step (s4.trans (s5.trans (s7.trans (s9.trans (s10.trans (s11.trans (s12.trans s13)))))))),(Df.step (s4.trans (s5.trans (s7.trans (s9.trans (s10.trans (s11.trans (s12.trans s13)))))))),(Dg.step (s4.trans (s5.trans (s7.trans (s9.trans (s10.trans (s11.trans (s12.trans s13)))))))),(Lf.step (s4.trans (s5.trans (s7.trans (s9.trans (s10.trans (s11.trans (s12.trans s13)))))))),(c4.step (s5.trans (s7.trans (s9.trans (s10.trans (s11.trans (s12.trans s13))))))),(c7.step (s9.trans (s10.trans (s11.trans (s12.trans s13)))))⟩ hp
  ·exact aw.j6_P (@hC61) rfl rfl rfl rfl rfl rfl ⟨w0,s0,De,Df,Dg,Lf,wa,Lg⟩ hp
def aw.pl61 (F:Nat) :Nat->List (Int×Int×Int×Int×Int)->List (Int×Int)->List (Int×Int)->List (List Int)->List Bool->Int->Int->Option (List (List Int))
 | 0,_,_,_,_,_,_,_=>none
 | k+1,pt,dZ,pu,mz,pv,iD,gC=>(bif (decide (gC<iD)) then (aw.pl15725 F (aw.pl61 F k) F pt dZ pu mz pv iD gC ([]:List Int) gC) else (some mz))
theorem aw.l61_P  :∀ k,aw.S61 H0 Ri R0  (aw.l61 F (cF.tw F)  k) (aw.pl61 F  k):=by
 intro k
 induction k with
 | zero=>unfold aw.S61;intros;rename_i hp;cases hp
 | succ k ih=>
  intro Cm lT Cn Cp Cq vR lA jD vS fm vT vU Ct lU Cu Cv Cw pt Kj iD gC dZ pu mz Cx Cy pv H UZ zq U_ Va Vb h0 r hp
  obtain ⟨w0,s0,Vc,uY,Vd,Lh,Ve⟩:=h0
  subst UZ
  subst zq
  subst U_
  subst Va
  subst Vb
  unfold aw.pl61 at hp
  unfold aw.l61
  refine aB hp (λhp=>?_) λhp=>?_
  ·obtain ⟨w1,s1⟩:=w0.nilS eI.z (by decide)
   obtain ⟨w2,s2⟩:=w1.pp [1,2,3,4,0] 5
   exact aw.l15725_P (@ih) F rfl rfl rfl rfl rfl rfl ⟨w2,(s0.trans (s1.trans s2)),(Vc.step (s1.trans s2)),(uY.step (s1.trans s2)),(Vd.step (s1.trans s2)),(Lh.step (s1.trans s2)),(Ve.step (s1.trans s2)),((CR.empty:CR eI _ _ [] []).step s2)⟩ hp
  ·obtain ⟨w3,s3⟩:=w0.pp [2] 4
   exact aE hp ⟨_,_,_,_,rfl,rfl,w3,(s0.trans s3),(Lh.step s3)⟩
def aw.p (F:Nat) (ai:Yx) (bH:YI) (cL:YI):Option (List (List Int)):=(mkn (wrap .i64 (4 * (ai.length:Int))) false).bind λl3=>aw.pl61 F F ai bH cL ([]:List (List Int)) l3 (l3.length:Int) 0
theorem aw.P {aG dL fW ay cS eC aH dM fX ai ag bH cL} (bg:ay=ai.length) (fL:cS=bH.length) (jJ:eC=cL.length) (h0:Inn H R0 λR=>ROs (aa eI (aa eI (aa eI (aa eI eI)))) H R ⟨aG,ay,aH⟩ ai/\ROs (aa eI eI) H R ⟨dL,cS,dM⟩ bH/\ROs (aa eI eI) H R ⟨fW,eC,fX⟩ cL) {r:YD} (hp:aw.p F ai bH cL=some r):Rt (aw.tw F ⟨aG,ay,aH⟩ ag ⟨dL,cS,dM⟩ ⟨fW,eC,fX⟩ H) (aw.Q H R0 R0  r):=by
 obtain ⟨w0,aU,eO,iX⟩:=h0
 subst bg
 subst fL
 subst jJ
 unfold aw.p at hp
 unfold aw.tw aw.twX
 have s0:=w0.rf
 refine aY w0 λH1 w1 s1=>?_
 refine aY w1 λH2 w2 s2=>?_
 refine lSl w2 1 ?_
 obtain ⟨l3,e3,hp⟩:=af hp
 refine jN bI false w2 rfl rfl rfl e3 λH4 k4 w4 s4 c4=>?_
 obtain ⟨w5,s5⟩:=w4.nilS (eSl eI).z (by decide)
 obtain ⟨w6,s6⟩:=w5.pp [3,2,0,1] 4
 exact aw.l61_P F rfl rfl rfl rfl rfl ⟨w6,(s0.trans (s1.trans (s2.trans (s4.trans (s5.trans s6))))),(aU.step (s1.trans (s2.trans (s4.trans (s5.trans s6))))),(eO.step (s1.trans (s2.trans (s4.trans (s5.trans s6))))),(iX.step (s1.trans (s2.trans (s4.trans (s5.trans s6))))),((CR.empty:CR (eSl eI) _ _ [] []).step s6),(c4.step (s5.trans s6))⟩ hp
def eB.Q (H0:Hp) (Ri R0:Ys)  (r:Int) (v:AV) (H':Hp):Prop:=v=(.i r)/\Out H0 Ri H' (R0) λR=>True
def eB.p (F:Nat) (ai:YD):Option (Int):=some (ai.length:Int)
theorem eB.P {aG ay aH ai} (bg:ay=ai.length) (h0:Inn H R0 λR=>ROs (eSl eI) H R ⟨aG,ay,aH⟩ ai) {r:Int} (hp:eB.p F ai=some r):Rt (eB.tw F ⟨aG,ay,aH⟩ H) (eB.Q H R0 R0  r):=by
 obtain ⟨w0,aU⟩:=h0
 subst bg
 unfold eB.p at hp
 unfold eB.tw eB.twX
 have s0:=w0.rf
 exact aE hp ⟨rfl,w0,s0,trivial⟩
def bJ.Q (H0:Hp) (Ri R0:Ys)  (r:Yr) (v:AV) (H':Hp):Prop:=∃ o0a:ON,∃ o0n:Nat,∃ o0c:Cap,∃ o0k:List AV,v=(.sl ⟨o0a,o0n,o0c⟩)/\o0n=(r).length/\Out H0 Ri H' (Rs.own ⟨o0a,o0n,o0c⟩ eI.z o0k::R0) λR=>CR eI H' R o0k (r)
def bJ.S29 (H0:Hp) (Ri R0:Ys)  (C:YC) (pC:List Int->Int->Int->Option (List Int)):Prop:=∀ {Dh wb Di mC Dj iE fI},∀ {H:Hp},wb=mC.length->(Out H0 Ri H (Rs.own ⟨Dh,wb,Di⟩ eI.z Dj::R0) λR=>CR eI H R Dj mC)->∀ {r:Yr},pC mC iE fI=some r->Rt (C ⟨Dh,wb,Di⟩ iE fI H) (bJ.Q H0 Ri R0  r)
def bJ.pl29 (F:Nat) :Nat->List Int->Int->Int->Option (List Int)
 | 0,_,_,_=>none
 | k+1,mC,iE,fI=>(bif (decide (fI<iE)) then ((apn mC ([fI]:List Int)).bind λl2=>bJ.pl29 F k l2 iE (wrap .i64 (fI+1))) else (some mC))
theorem bJ.l29_P  :∀ k,bJ.S29 H0 Ri R0  (bJ.l29 F   k) (bJ.pl29 F  k):=by
 intro k
 induction k with
 | zero=>unfold bJ.S29;intros;rename_i hp;cases hp
 | succ k ih=>
  intro Dh wb Di mC Dj iE fI H Vf h0 r hp
  obtain ⟨w0,s0,Li⟩:=h0
  subst Vf
  unfold bJ.pl29 at hp
  unfold bJ.l29
  refine aB hp (λhp=>?_) λhp=>?_
  ·refine dl eI w0 (n:=1) (l:=([fI]:List Int)) rfl (CR.cons1 rfl CR.empty) rfl λH1 w1 s1 c1=>?_
   refine aj (w1.rowo (i:=0) rfl) ?_
   obtain ⟨l2,e2,hp⟩:=af hp
   refine fQ eI w1 (i:=1) rfl rfl (Li.step s1) c1 (show 1=List.length ([fI]:List Int) from rfl) rfl e2 λa3 d3 H3 w3 s3 c3 x3=>?_
   obtain ⟨w4,s4⟩:=w3.pp [1] 2
   exact ih rfl ⟨w4,(s0.trans (s1.trans (s3.trans s4))),(c3.step s4)⟩ hp
  ·exact aE hp ⟨_,_,_,_,rfl,rfl,w0,s0,Li⟩
def bJ.p (F:Nat) (ac:Int):Option (List Int):=bJ.pl29 F F ([]:List Int) ac 0
theorem bJ.P {ac}  (h0:Inn H R0 λR=>True) {r:Yr} (hp:bJ.p F ac=some r):Rt (bJ.tw F ac H) (bJ.Q H R0 R0  r):=by
 obtain ⟨w0,_⟩:=h0
 unfold bJ.p at hp
 unfold bJ.tw bJ.twX
 have s0:=w0.rf
 obtain ⟨w1,s1⟩:=w0.nilS eI.z (by decide)
 exact bJ.l29_P F rfl ⟨w1,(s0.trans s1),(CR.empty:CR eI _ _ [] [])⟩ hp
def bh.Q (H0:Hp) (Ri R0:Ys) (aG:ON) (ay:Nat) (aH:Cap) (rP:Bool) (rQ rR:YE) (r:Yr) (v:AV) (H':Hp):Prop:=∃ Lj:List AV,v=(.tup [])/\ay=(r).length/\Out H0 Ri H' (Rs.ow rP ⟨aG,ay,aH⟩ eI.z rQ Lj rR::R0) λR=>CR eI H' R Lj (r)
def bh.S7 (H0:Hp) (Ri R0:Ys) (hK:ON) (fY:Nat) (hP:Cap) (kL:Bool) (kM kN:YE) (C:YV) (pC:Zz):Prop:=∀ {dU Dk gD gE gF fe},∀ {H:Hp},fY=dU.length->(Out H0 Ri H (Rs.ow kL ⟨hK,fY,hP⟩ eI.z kM Dk kN::R0) λR=>CR eI H R Dk dU)->∀ {r:Yr},pC dU gD gE gF fe=some r->Rt (C ⟨hK,fY,hP⟩ gD gE ⟨hK,fY,hP⟩ gF fe H) (bh.Q H0 Ri R0 hK fY hP kL kM kN r)
def bh.pj2 (F:Nat) (wc:Zz) (rS:Yr) (oz:Int) (oA:Int) (oB:Int) (oC:Int):Option (List Int):=wc rS oz oA oB (wrap .i64 (oC+1))
theorem bh.j2_P {hK fY hP kL kM kN} {C7_:YV} {wc:Zz} (hC7:bh.S7 H0 Ri R0 hK fY hP kL kM kN C7_ wc) {rS Lk oz oA oB oC} (Vg:fY=rS.length) (h0:Out H0 Ri H (Rs.ow kL ⟨hK,fY,hP⟩ eI.z kM Lk kN::R0) λR=>CR eI H R Lk rS) {r:Yr} (hp:bh.pj2 F wc rS oz oA oB oC=some r):Rt (bh.j2 F  C7_ ⟨hK,fY,hP⟩ oz oA ⟨hK,fY,hP⟩ oB oC H) (bh.Q H0 Ri R0 hK fY hP kL kM kN r):=by
 obtain ⟨w0,s0,Vh⟩:=h0
 subst Vg
 unfold bh.pj2 at hp
 unfold bh.j2
 exact hC7 rfl ⟨w0,s0,Vh⟩ hp
def bh.pl7 (F:Nat) :Nat->List Int->Int->Int->Int->Int->Option (List Int)
 | 0,_,_,_,_,_=>none
 | k+1,dU,gD,gE,gF,fe=>(bif (decide (fe<gF)) then ((ix dU fe).bind λn1=>(bif ((gt dU n1)==gD) then ((ix dU fe).bind λn2=>(some (dU.set n2 gE)).bind λl3=>bh.pj2 F (bh.pl7 F k) l3 gD gE gF fe) else (bh.pj2 F (bh.pl7 F k) dU gD gE gF fe))) else (some dU))
theorem bh.l7_P {hK fY hP kL kM kN} :∀ k,bh.S7 H0 Ri R0 hK fY hP kL kM kN (bh.l7 F   k) (bh.pl7 F  k):=by
 intro k
 induction k with
 | zero=>unfold bh.S7;intros;rename_i hp;cases hp
 | succ k ih=>
  intro dU Dk gD gE gF fe H Dl h0 r hp
  obtain ⟨w0,s0,kO⟩:=h0
  subst Dl
  unfold bh.pl7 at hp
  unfold bh.l7
  refine aB hp (λhp=>?_) λhp=>?_
  ·obtain ⟨n1,g1,hp⟩:=af hp
   obtain ⟨p1,q1,i1,h1,j1⟩:=W.ixo (E:=eI) w0 (i:=0) rfl rfl kO g1
   refine aj i1 ?_
   have h1:_=[_]:=h1
   subst h1
   refine aj (aC (j1 0 _ rfl)) ?_
   refine aB hp (λhp=>?_) λhp=>?_
   ·obtain ⟨n2,g2,hp⟩:=af hp
    obtain ⟨p2,q2,i2,h2,j2⟩:=W.ixo (E:=eI) w0 (i:=0) rfl rfl kO g2
    refine aj i2 ?_
    obtain ⟨l3,e3,hp⟩:=af hp
    refine bV eI w0 (i:=0) (j:=0) (p:=p2) rfl rfl kO g2 i2 e3 rfl rfl (λ_ h=>by have h:_=[_]:=h;subst h;exact rfl) λH4 k4 w4 s4 c4=>?_
    exact bh.j2_P (@ih) ((aT e3).symm) ⟨w4,(s0.trans s4),c4⟩ hp
   ·exact bh.j2_P (@ih) rfl ⟨w0,s0,kO⟩ hp
  ·exact aE hp ⟨_,rfl,rfl,w0,s0,kO⟩
def bh.p (F:Nat) (ai:Yr) (aI:Int) (cV:Int):Option (List Int):=(ix ai cV).bind λn1=>(ix ai aI).bind λn2=>bh.pl7 F F ai (gt ai n1) (gt ai n2) (ai.length:Int) 0
theorem bh.P {aG ay aH ai rP rQ rR Dm aI cV} (bg:ay=ai.length) (h0:Inn H (Rs.ow rP ⟨aG,ay,aH⟩ eI.z rQ Dm rR::R0) λR=>CR eI H R Dm ai) {r:Yr} (hp:bh.p F ai aI cV=some r):Rt (bh.tw F ⟨aG,ay,aH⟩ aI cV H) (bh.Q H (Rs.ow rP ⟨aG,ay,aH⟩ eI.z rQ Dm rR::R0) R0 aG ay aH rP rQ rR r):=by
 obtain ⟨w0,aU⟩:=h0
 subst bg
 unfold bh.p at hp
 unfold bh.tw bh.twX
 have s0:=w0.rf
 obtain ⟨n1,g1,hp⟩:=af hp
 obtain ⟨p1,q1,i1,h1,j1⟩:=W.ixo (E:=eI) w0 (i:=0) rfl rfl aU g1
 refine aj i1 ?_
 have h1:_=[_]:=h1
 subst h1
 refine aj (aC (j1 0 _ rfl)) ?_
 obtain ⟨n2,g2,hp⟩:=af hp
 obtain ⟨p2,q2,i2,h2,j2⟩:=W.ixo (E:=eI) w0 (i:=0) rfl rfl aU g2
 refine aj i2 ?_
 have h2:_=[_]:=h2
 subst h2
 refine aj (aC (j2 0 _ rfl)) ?_
 exact bh.l7_P F rfl ⟨w0,s0,aU⟩ hp
def cY.Q (H0:Hp) (Ri R0:Ys)  (r:Yr) (v:AV) (H':Hp):Prop:=∃ o0a:ON,∃ o0n:Nat,∃ o0c:Cap,∃ o0k:List AV,v=(.sl ⟨o0a,o0n,o0c⟩)/\o0n=(r).length/\Out H0 Ri H' (Rs.own ⟨o0a,o0n,o0c⟩ eI.z o0k::R0) λR=>CR eI H' R o0k (r)
def cY.p (F:Nat) (ai:Yr):Option (List Int):=(if ai.length<=4294967296/\wfs ai=true then some (ia ai) else none)
theorem cY.P {aG ay aH ai} (bg:ay=ai.length) (h0:Inn H R0 λR=>ROs eI H R ⟨aG,ay,aH⟩ ai) {r:Yr} (hp:cY.p F ai=some r):Rt (cY.tw F ⟨aG,ay,aH⟩ H) (cY.Q H R0 R0  r):=by
 obtain ⟨w0,f0⟩:=h0
 subst bg
 unfold cY.p at hp
 unfold cY.tw sF
 have s0:=w0.rf
 obtain ⟨hc,hp⟩:=eD hp
 have hp:=Option.some.inj hp
 obtain ⟨xs,hx,cx⟩:=f0.row rfl
 refine aj hx ?_
 obtain rfl:=cx.ints_eq
 refine aj (Nd _) ?_
 refine fZ hc ?_
 by_cases hz:ai.length=0
 ·rw [if_pos hz]
  obtain ⟨w1,s1⟩:=w0.nilS eI.z (by decide)
  obtain rfl:r=[]:=List.length_eq_zero_iff.1 (by rw [<- hp,Fk,hz])
  exact ⟨_,_,rfl,none,0,.ex 0,[],rfl,rfl,w1,s0.trans s1,CR.empty⟩
 ·rw [if_neg hz]
  obtain ⟨H2,e2,w2,s2⟩:=w0.newF ((ia ai).map (AV.int .i64)) ai.length eI.z (by rw [List.length_map,Fk];exact (Nat.mul_one _).symm) (by decide)
  subst e2
  subst hp
  exact ⟨_,_,rfl,some (_,0),_,.full 1,_,rfl,(Fk _).symm,w2,s0.trans s2,CR.ints _ _ _ _⟩
def a_.Q (H0:Hp) (Ri R0:Ys)  (r:Yr) (v:AV) (H':Hp):Prop:=∃ o0a:ON,∃ o0n:Nat,∃ o0c:Cap,∃ o0k:List AV,v=(.sl ⟨o0a,o0n,o0c⟩)/\o0n=(r).length/\Out H0 Ri H' (Rs.own ⟨o0a,o0n,o0c⟩ eI.z o0k::R0) λR=>CR eI H' R o0k (r)
def a_.S29 (H0:Hp) (Ri R0:Ys)  (C:Nat->Nat->Sl->Sl->Int->Int->Hp->OA) (pC:List (Int×Int)->List (Int×Int)->List Int->Int->Int->Option (List Int)):Prop:=∀ {wd Dn Do rT wg kw wh wi Dp Dq kP kQ mD Dr iF fJ},∀ {H:Hp},rT=kP.length->wg=kQ.length->wh=mD.length->(Out H0 Ri H (Rs.blk kw [.sl ⟨wd,rT,wi⟩,.sl ⟨Dn,wg,Dp⟩]::Rs.own ⟨Do,wh,Dq⟩ eI.z Dr::R0) λR=>ROs (aa eI eI) H R ⟨wd,rT,wi⟩ kP/\ROs (aa eI eI) H R ⟨Dn,wg,Dp⟩ kQ/\CR eI H R Dr mD)->∀ {r:Yr},pC kP kQ mD iF fJ=some r->Rt (C kw 0 ⟨Do,wh,Dq⟩ ⟨wd,rT,wi⟩ iF fJ H) (a_.Q H0 Ri R0  r)
def a_.pl29 (F:Nat) :Nat->List (Int×Int)->List (Int×Int)->List Int->Int->Int->Option (List Int)
 | 0,_,_,_,_,_=>none
 | k+1,kP,kQ,mD,iF,fJ=>(bif (decide (fJ<iF)) then ((ix kP fJ).bind λn1=>(ix kQ fJ).bind λn5=>(bh.p F mD ((gt kP n1).1) ((gt kQ n5).1)).bind λr7=>a_.pl29 F k kP kQ r7 iF (wrap .i64 (fJ+1))) else ((cY.p F mD).bind λr12=>some r12))
theorem a_.l29_P  :∀ k,a_.S29 H0 Ri R0  (a_.l29 F (cQ.tw F) (bJ.tw F) (bh.tw F) (cY.tw F)  k) (a_.pl29 F  k):=by
 intro k
 induction k with
 | zero=>unfold a_.S29;intros;rename_i hp;cases hp
 | succ k ih=>
  intro wd Dn Do rT wg kw wh wi Dp Dq kP kQ mD Dr iF fJ H Vi Vj Vk h0 r hp
  obtain ⟨w0,s0,Ll,Lm,Ln⟩:=h0
  subst Vi
  subst Vj
  subst Vk
  unfold a_.pl29 at hp
  unfold a_.l29
  refine aB hp (λhp=>?_) λhp=>?_
  ·obtain ⟨n1,g1,hp⟩:=af hp
   obtain ⟨p1,q1,i1,h1,j1⟩:=ROs.ixr Ll rfl g1
   refine aj i1 ?_
   obtain ⟨_,_,rfl,rfl,rfl⟩:=h1
   refine aj (aC (j1 0 _ rfl)) ?_
   refine aj (aC (j1 1 _ rfl)) ?_
   refine aY w0 λH2 w2 s2=>?_
   refine ak w2 0 λH3 w3 s3=>?_
   refine ak w3 0 λH4 w4 s4=>?_
   refine lI w4 0 ?_
   refine lSl w4 1 ?_
   obtain ⟨n5,g5,hp⟩:=af hp
   obtain ⟨p5,q5,i5,h5,j5⟩:=ROs.ixr (Lm.step (s2.trans (s3.trans s4))) rfl g5
   refine aj i5 ?_
   obtain ⟨_,_,rfl,rfl,rfl⟩:=h5
   refine aj (aC (j5 0 _ rfl)) ?_
   obtain ⟨w6,s6⟩:=w4.pp [2,0,1] 3
   obtain ⟨r7,e7,hp⟩:=af hp
   refine aM (bh.P rfl ⟨w6,(Ln.step (s2.trans (s3.trans (s4.trans s6))))⟩ e7) ?_
   rintro _ H8 ⟨XY,rfl,hl8_0,w8,s8,f8_0⟩
   obtain ⟨w9,s9⟩:=w8.pp [2,0] 3
   exact ih rfl rfl hl8_0 ⟨w9,(s0.trans (s2.trans (s3.trans (s4.trans (s6.trans (s8.trans s9)))))),(Ll.step (s2.trans (s3.trans (s4.trans (s6.trans (s8.trans s9)))))),(Lm.step (s2.trans (s3.trans (s4.trans (s6.trans (s8.trans s9)))))),(f8_0.step s9)⟩ hp
  ·obtain ⟨w10,s10⟩:=w0.pp [1,0] 2
   have f11:=W.borrow1 eI w10 (Ln.step s10)
   obtain ⟨w11,s11⟩:=w10.right1
   obtain ⟨r12,e12,hp⟩:=af hp
   refine aM (cY.P rfl ⟨w11,f11⟩ e12) ?_
   rintro _ H13 ⟨o0a_13,o0n_13,o0c_13,o0k_13,rfl,rfl,w13,s13,f13_0⟩
   obtain ⟨w14,s14⟩:=W.frame1 w10 w13 s13
   refine br ?_
   obtain ⟨w15,s15⟩:=w14.pp [1] 3
   exact aE hp ⟨_,_,_,_,rfl,rfl,w15,(s0.trans (s10.trans (s14.trans s15))),((CR.flat (cv .i64) f13_0).step s15)⟩
def a_.p (F:Nat) (ai:Yx) (bH:YI) (cL:YI):Option (List Int):=(cQ.p F ai).bind λr3=>(bJ.p F r3).bind λr5=>a_.pl29 F F bH cL r5 (bH.length:Int) 0
theorem a_.P {aG dL fW ay cS eC aH dM fX ai ag bH cL} (bg:ay=ai.length) (fL:cS=bH.length) (jJ:eC=cL.length) (h0:Inn H R0 λR=>ROs (aa eI (aa eI (aa eI (aa eI eI)))) H R ⟨aG,ay,aH⟩ ai/\ROs (aa eI eI) H R ⟨dL,cS,dM⟩ bH/\ROs (aa eI eI) H R ⟨fW,eC,fX⟩ cL) {r:Yr} (hp:a_.p F ai bH cL=some r):Rt (a_.tw F ⟨aG,ay,aH⟩ ag ⟨dL,cS,dM⟩ ⟨fW,eC,fX⟩ H) (a_.Q H R0 R0  r):=by
 obtain ⟨w0,aU,eO,iX⟩:=h0
 subst bg
 subst fL
 subst jJ
 unfold a_.p at hp
 unfold a_.tw a_.twX
 have s0:=w0.rf
 refine aY w0 λH1 w1 s1=>?_
 refine aY w1 λH2 w2 s2=>?_
 refine lSl w2 1 ?_
 obtain ⟨r3,e3,hp⟩:=af hp
 refine aM (cQ.P rfl ⟨w2,(aU.step (s1.trans s2))⟩ e3) ?_
 rintro _ H4 ⟨rfl,w4,s4,_⟩
 refine br ?_
 obtain ⟨r5,e5,hp⟩:=af hp
 refine aM (bJ.P ⟨w4,trivial⟩ e5) ?_
 rintro _ H6 ⟨o0a_6,o0n_6,o0c_6,o0k_6,rfl,rfl,w6,s6,f6_0⟩
 refine br ?_
 refine lSl w6 1 ?_
 obtain ⟨w7,s7⟩:=w6.pp [1,0] 3
 exact a_.l29_P F rfl rfl rfl ⟨w7,(s0.trans (s1.trans (s2.trans (s4.trans (s6.trans s7))))),(eO.step (s1.trans (s2.trans (s4.trans (s6.trans s7))))),(iX.step (s1.trans (s2.trans (s4.trans (s6.trans s7))))),(f6_0.step s7)⟩ hp
def bs.Q (H0:Hp) (Ri R0:Ys)  (r:Int) (v:AV) (H':Hp):Prop:=v=(.i r)/\Out H0 Ri H' (R0) λR=>True
def bs.S61 (H0:Hp) (Ri R0:Ys)  (C:YC) (pC:List Int->Int->Int->Option (Int)):Prop:=∀ {Ds wj Dt dU eG gG},∀ {H:Hp},wj=dU.length->(Out H0 Ri H R0 λR=>ROs eI H R ⟨Ds,wj,Dt⟩ dU)->∀ {r:Int},pC dU eG gG=some r->Rt (C ⟨Ds,wj,Dt⟩ eG gG H) (bs.Q H0 Ri R0  r)
def bs.pl61 (F:Nat) :Nat->List Int->Int->Int->Option (Int)
 | 0,_,_,_=>none
 | k+1,dU,eG,gG=>(bif (decide (gG<(dU.length:Int))) then ((ix dU gG).bind λn1=>bs.pl61 F k dU (if (gt dU n1)>eG then (gt dU n1) else eG) (wrap .i64 (gG+1))) else (some eG))
theorem bs.l61_P  :∀ k,bs.S61 H0 Ri R0  (bs.l61 F   k) (bs.pl61 F  k):=by
 intro k
 induction k with
 | zero=>unfold bs.S61;intros;rename_i hp;cases hp
 | succ k ih=>
  intro Ds wj Dt dU eG gG H Dl h0 r hp
  obtain ⟨w0,s0,kO⟩:=h0
  subst Dl
  unfold bs.pl61 at hp
  unfold bs.l61
  refine aB hp (λhp=>?_) λhp=>?_
  ·obtain ⟨n1,g1,hp⟩:=af hp
   obtain ⟨p1,q1,i1,h1,j1⟩:=ROs.ixr kO rfl g1
   refine aj i1 ?_
   have h1:_=[_]:=h1
   subst h1
   refine aj (aC (j1 0 _ rfl)) ?_
   exact ih rfl ⟨w0,s0,kO⟩ hp
  ·exact aE hp ⟨rfl,w0,s0,trivial⟩
def bs.pj1 (F:Nat)  (mE:Yr):Option (Int):=(ix mE 0).bind λn1=>bs.pl61 F F mE (gt mE n1) 1
theorem bs.j1_P   {Lo Du Lp mE} (Vl:Du=mE.length) (h0:Out H0 Ri H R0 λR=>ROs eI H R ⟨Lo,Du,Lp⟩ mE) {r:Int} (hp:bs.pj1 F  mE=some r):Rt (bs.j1 F   ⟨Lo,Du,Lp⟩ H) (bs.Q H0 Ri R0  r):=by
 obtain ⟨w0,s0,Lq⟩:=h0
 subst Vl
 unfold bs.pj1 at hp
 unfold bs.j1
 obtain ⟨n1,g1,hp⟩:=af hp
 obtain ⟨p1,q1,i1,h1,j1⟩:=ROs.ixr Lq rfl g1
 refine aj i1 ?_
 have h1:_=[_]:=h1
 subst h1
 refine aj (aC (j1 0 _ rfl)) ?_
 exact bs.l61_P F rfl ⟨w0,s0,Lq⟩ hp
def bs.p (F:Nat) (ai:Yr):Option (Int):=(bif (decide ((ai.length:Int)<1)) then (none) else (bs.pj1 F ai))
theorem bs.P {aG ay aH ai} (bg:ay=ai.length) (h0:Inn H R0 λR=>ROs eI H R ⟨aG,ay,aH⟩ ai) {r:Int} (hp:bs.p F ai=some r):Rt (bs.tw F ⟨aG,ay,aH⟩ H) (bs.Q H R0 R0  r):=by
 obtain ⟨w0,aU⟩:=h0
 subst bg
 unfold bs.p at hp
 unfold bs.tw bs.twX
 have s0:=w0.rf
 refine aB hp (λhp=>?_) λhp=>?_
 ·cases hp
 ·exact bs.j1_P rfl ⟨w0,s0,aU⟩ hp
def cl.Q (H0:Hp) (Ri R0:Ys)  (r:Int) (v:AV) (H':Hp):Prop:=v=(.i r)/\Out H0 Ri H' (R0) λR=>True
def cl.p (F:Nat) (ai:Yr):Option (Int):=(bif ((ai.length:Int)==0) then (some 0) else ((bs.p F ai).bind λr1=>some (wrap .i64 (r1+1))))
theorem cl.P {aG ay aH ai} (bg:ay=ai.length) (h0:Inn H R0 λR=>ROs eI H R ⟨aG,ay,aH⟩ ai) {r:Int} (hp:cl.p F ai=some r):Rt (cl.tw F ⟨aG,ay,aH⟩ H) (cl.Q H R0 R0  r):=by
 obtain ⟨w0,aU⟩:=h0
 subst bg
 unfold cl.p at hp
 unfold cl.tw cl.twX
 have s0:=w0.rf
 refine aB hp (λhp=>?_) λhp=>?_
 ·exact aE hp ⟨rfl,w0,s0,trivial⟩
 ·obtain ⟨r1,e1,hp⟩:=af hp
  refine aM (bs.P rfl ⟨w0,aU⟩ e1) ?_
  rintro _ H2 ⟨rfl,w2,s2,_⟩
  refine br ?_
  exact aE hp ⟨rfl,w2,(s0.trans s2),trivial⟩
def ck.Q (H0:Hp) (Ri R0:Ys)  (r:(List (Int×Int))×(List (Int×Int))×Bool) (v:AV) (H':Hp):Prop:=∃ o0a:ON,∃ o0n:Nat,∃ o0c:Cap,∃ o1a:ON,∃ o1n:Nat,∃ o1c:Cap,v=(.tup [(.agg [(.sl ⟨o0a,o0n,o0c⟩),(.sl ⟨o1a,o1n,o1c⟩)]),(.bool r.2.2)])/\o0n=(r.1).length/\o1n=(r.2.1).length/\Out H0 Ri H' (R0) λR=>ROs (aa eI eI) H' R ⟨o0a,o0n,o0c⟩ (r.1)/\ROs (aa eI eI) H' R ⟨o1a,o1n,o1c⟩ (r.2.1)
def ck.p (F:Nat) (ai:Yx) (ag:Int):Option ((List (Int×Int))×(List (Int×Int))×Bool):=(cQ.p F ai).bind λr3=>(bif (decide (r3>10)) then (some (([]:List (Int×Int)),([]:List (Int×Int)),false)) else ((dw.p F ag 0 8).bind λr12=>(bif (!r12) then (some (([]:List (Int×Int)),([]:List (Int×Int)),false)) else ((dx.p F ai).bind λr21=>(bif r21 then (some (([]:List (Int×Int)),([]:List (Int×Int)),false)) else ((aP.p F ai).bind λr30=>(bif (!r30.2.2) then (some (([]:List (Int×Int)),([]:List (Int×Int)),false)) else ((aw.p F ai r30.1 r30.2.1).bind λr44=>(eB.p F r44).bind λr48=>(a_.p F ai r30.1 r30.2.1).bind λr52=>(cl.p F r52).bind λr55=>(bif (r48 != (wrap .i64 (r3+(wrap .i64 (2 * r55))))) then (some (([]:List (Int×Int)),([]:List (Int×Int)),false)) else (some (r30.1,r30.2.1,true)))))))))))
theorem ck.P {aG ay aH ai ag} (bg:ay=ai.length) (h0:Inn H R0 λR=>ROs (aa eI (aa eI (aa eI (aa eI eI)))) H R ⟨aG,ay,aH⟩ ai) {r:(List (Int×Int))×(List (Int×Int))×Bool} (hp:ck.p F ai ag=some r):Rt (ck.tw F ⟨aG,ay,aH⟩ ag H) (ck.Q H R0 R0  r):=by
 obtain ⟨w0,aU⟩:=h0
 subst bg
 unfold ck.p at hp
 unfold ck.tw ck.twX
 have s0:=w0.rf
 refine aY w0 λH1 w1 s1=>?_
 refine aY w1 λH2 w2 s2=>?_
 refine lSl w2 1 ?_
 obtain ⟨r3,e3,hp⟩:=af hp
 refine aM (cQ.P rfl ⟨w2,(aU.step (s1.trans s2))⟩ e3) ?_
 rintro _ H4 ⟨rfl,w4,s4,_⟩
 refine br ?_
 refine aB hp (λhp=>?_) λhp=>?_
 ·refine ak w4 0 λH5 w5 s5=>?_
  refine ak w5 0 λH6 w6 s6=>?_
  refine lSl w6 0 ?_
  refine lSl w6 0 ?_
  obtain ⟨w7,s7⟩:=w6.nilS (aa eI eI).z (by decide)
  obtain ⟨w8,s8⟩:=w7.nilS (aa eI eI).z (by decide)
  obtain ⟨w9,s9,f9⟩:=w8.frz (i:=1) (aa eI eI) rfl ((CR.empty:CR (aa eI eI) _ _ [] []).step s8)
  obtain ⟨w10,s10,f10⟩:=w9.frz (i:=0) (aa eI eI) rfl ((CR.empty:CR (aa eI eI) _ _ [] []).step s9)
  obtain ⟨w11,s11⟩:=w10.pp [] 2
  exact aE hp ⟨_,_,_,_,_,_,rfl,rfl,rfl,w11,(s0.trans (s1.trans (s2.trans (s4.trans (s5.trans (s6.trans (s7.trans (s8.trans (s9.trans (s10.trans s11)))))))))),(f9.step (s10.trans s11)),(f10.step s11)⟩
 ·refine lI w4 1 ?_
  obtain ⟨r12,e12,hp⟩:=af hp
  refine aM (dw.P ⟨w4,trivial⟩ e12) ?_
  rintro _ H13 ⟨rfl,w13,s13,_⟩
  refine br ?_
  refine aB hp (λhp=>?_) λhp=>?_
  ·refine ak w13 0 λH14 w14 s14=>?_
   refine ak w14 0 λH15 w15 s15=>?_
   refine lSl w15 0 ?_
   refine lSl w15 0 ?_
   obtain ⟨w16,s16⟩:=w15.nilS (aa eI eI).z (by decide)
   obtain ⟨w17,s17⟩:=w16.nilS (aa eI eI).z (by decide)
   obtain ⟨w18,s18,f18⟩:=w17.frz (i:=1) (aa eI eI) rfl ((CR.empty:CR (aa eI eI) _ _ [] []).step s17)
   obtain ⟨w19,s19,f19⟩:=w18.frz (i:=0) (aa eI eI) rfl ((CR.empty:CR (aa eI eI) _ _ [] []).step s18)
   obtain ⟨w20,s20⟩:=w19.pp [] 2
   exact aE hp ⟨_,_,_,_,_,_,rfl,rfl,rfl,w20,(s0.trans (s1.trans (s2.trans (s4.trans (s13.trans (s14.trans (s15.trans (s16.trans (s17.trans (s18.trans (s19.trans s20))))))))))),(f18.step (s19.trans s20)),(f19.step s20)⟩
  ·refine lSl w13 1 ?_
   obtain ⟨r21,e21,hp⟩:=af hp
   refine aM (dx.P rfl ⟨w13,(aU.step (s1.trans (s2.trans (s4.trans s13))))⟩ e21) ?_
   rintro _ H22 ⟨rfl,w22,s22,_⟩
   refine br ?_
   refine aB hp (λhp=>?_) λhp=>?_
   ·refine ak w22 0 λH23 w23 s23=>?_
    refine ak w23 0 λH24 w24 s24=>?_
    refine lSl w24 0 ?_
    refine lSl w24 0 ?_
    obtain ⟨w25,s25⟩:=w24.nilS (aa eI eI).z (by decide)
    obtain ⟨w26,s26⟩:=w25.nilS (aa eI eI).z (by decide)
    obtain ⟨w27,s27,f27⟩:=w26.frz (i:=1) (aa eI eI) rfl ((CR.empty:CR (aa eI eI) _ _ [] []).step s26)
    obtain ⟨w28,s28,f28⟩:=w27.frz (i:=0) (aa eI eI) rfl ((CR.empty:CR (aa eI eI) _ _ [] []).step s27)
    obtain ⟨w29,s29⟩:=w28.pp [] 2
    exact aE hp ⟨_,_,_,_,_,_,rfl,rfl,rfl,w29,(s0.trans (s1.trans (s2.trans (s4.trans (s13.trans (s22.trans (s23.trans (s24.trans (s25.trans (s26.trans (s27.trans (s28.trans s29)))))))))))),(f27.step (s28.trans s29)),(f28.step s29)⟩
   ·refine lSl w22 1 ?_
    refine lI w22 1 ?_
    obtain ⟨r30,e30,hp⟩:=af hp
    refine aM (aP.P rfl ⟨w22,(aU.step (s1.trans (s2.trans (s4.trans (s13.trans s22)))))⟩ e30) ?_
    rintro _ H31 ⟨o0a_31,o0n_31,o0c_31,o0k_31,o1a_31,o1n_31,o1c_31,o1k_31,rfl,rfl,rfl,w31,s31,f31_0,f31_1⟩
    refine br (br (br (br (br (br (br (br (br ?_))))))))
    refine aY w31 λH32 w32 s32=>?_
    refine ak w32 0 λH33 w33 s33=>?_
    refine ak w33 0 λH34 w34 s34=>?_
    refine aB hp (λhp=>?_) λhp=>?_
    ·refine ak w34 3 λH35 w35 s35=>?_
     refine ak w35 3 λH36 w36 s36=>?_
     refine lSl w36 3 ?_
     refine lSl w36 3 ?_
     obtain ⟨w37,s37⟩:=w36.nilS (aa eI eI).z (by decide)
     obtain ⟨w38,s38⟩:=w37.nilS (aa eI eI).z (by decide)
     obtain ⟨w39,s39,f39⟩:=w38.frz (i:=1) (aa eI eI) rfl ((CR.empty:CR (aa eI eI) _ _ [] []).step s38)
     obtain ⟨w40,s40,f40⟩:=w39.frz (i:=0) (aa eI eI) rfl ((CR.empty:CR (aa eI eI) _ _ [] []).step s39)
     obtain ⟨w41,s41⟩:=w40.pp [] 5
     exact aE hp ⟨_,_,_,_,_,_,rfl,rfl,rfl,w41,(s0.trans (s1.trans (s2.trans (s4.trans (s13.trans (s22.trans (s31.trans (s32.trans (s33.trans (s34.trans (s35.trans (s36.trans (s37.trans (s38.trans (s39.trans (s40.trans s41)))))))))))))))),(f39.step (s40.trans s41)),(f40.step s41)⟩
    ·refine lSl w34 4 ?_
     refine lI w34 4 ?_
     refine lSl w34 0 ?_
     refine lSl w34 0 ?_
     obtain ⟨w42,s42,f42⟩:=w34.frz (i:=1) (aa eI eI) rfl (f31_0.step (s32.trans (s33.trans s34)))
     obtain ⟨w43,s43,f43⟩:=w42.frz (i:=1) (aa eI eI) rfl (f31_1.step (s32.trans (s33.trans (s34.trans s42))))
     obtain ⟨r44,e44,hp⟩:=af hp
     refine aM (aw.P rfl rfl rfl ⟨w43,(aU.step (s1.trans (s2.trans (s4.trans (s13.trans (s22.trans (s31.trans (s32.trans (s33.trans (s34.trans (s42.trans s43))))))))))),(f42.step s43),f43⟩ e44) ?_
     rintro _ H45 ⟨o0a_45,o0n_45,o0c_45,o0k_45,rfl,rfl,w45,s45,f45_0⟩
     refine br ?_
     refine fZ (aO.tr (aO.refl _) s42 (aO.tr (aO.refl _) s43 (W.cons_of (Rn:=[_]) w43 w45 s45))) ?_
     have f47:=W.borrow1 (eSl eI) w45 f45_0
     obtain ⟨w47,s47⟩:=w45.right1
     obtain ⟨r48,e48,hp⟩:=af hp
     refine aM (eB.P rfl ⟨w47,f47⟩ e48) ?_
     rintro _ H49 ⟨rfl,w49,s49,_⟩
     obtain ⟨w50,s50⟩:=W.frame1 w45 w49 s49
     refine br ?_
     refine fZ (W.cons_of (Rn:=[]) w47 w49 s49) ?_
     refine lSl w50 3 ?_
     refine lI w50 3 ?_
     refine lSl w50 1 ?_
     refine lSl w50 1 ?_
     obtain ⟨r52,e52,hp⟩:=af hp
     refine aM (a_.P rfl rfl rfl ⟨w50,(aU.step (s1.trans (s2.trans (s4.trans (s13.trans (s22.trans (s31.trans (s32.trans (s33.trans (s34.trans (s42.trans (s43.trans (s45.trans s50))))))))))))),(f42.step (s43.trans (s45.trans s50))),(f43.step (s45.trans s50))⟩ e52) ?_
     rintro _ H53 ⟨o0a_53,o0n_53,o0c_53,o0k_53,rfl,rfl,w53,s53,f53_0⟩
     refine br ?_
     have f54:=W.borrow1 eI w53 f53_0
     obtain ⟨w54,s54⟩:=w53.right1
     obtain ⟨r55,e55,hp⟩:=af hp
     refine aM (cl.P rfl ⟨w54,f54⟩ e55) ?_
     rintro _ H56 ⟨rfl,w56,s56,_⟩
     obtain ⟨w57,s57⟩:=W.frame1 w53 w56 s56
     refine br ?_
     refine aB hp (λhp=>?_) λhp=>?_
     ·refine ak w57 3 λH58 w58 s58=>?_
      refine ak w58 3 λH59 w59 s59=>?_
      refine lSl w59 3 ?_
      refine lSl w59 3 ?_
      obtain ⟨w60,s60⟩:=w59.nilS (aa eI eI).z (by decide)
      obtain ⟨w61,s61⟩:=w60.nilS (aa eI eI).z (by decide)
      obtain ⟨w62,s62,f62⟩:=w61.frz (i:=1) (aa eI eI) rfl ((CR.empty:CR (aa eI eI) _ _ [] []).step s61)
      obtain ⟨w63,s63,f63⟩:=w62.frz (i:=0) (aa eI eI) rfl ((CR.empty:CR (aa eI eI) _ _ [] []).step s62)
      obtain ⟨w64,s64⟩:=w63.pp [] 5
      dsimp only [pk,pks,nth,List.drop,List.set,List.eraseIdx] at w64 s33 s34 s42 f42 s43 f43 s58 s59 s60 s61 s62 f62 s63 f63 s64
      exact aE hp ⟨_,_,_,_,_,_,rfl,rfl,rfl,w64,(s0.trans (s1.trans (s2.trans (s4.trans (s13.trans (s22.trans (s31.trans (s32.trans (s33.trans (s34.trans (s42.trans (s43.trans (s45.trans (s50.trans (s53.trans (s57.trans (s58.trans (s59.trans (s60.trans (s61.trans (s62.trans (s63.trans s64)))))))))))))))))))))),(f62.step (s63.trans s64)),(f63.step s64)⟩
     ·refine lSl w57 2 ?_
      refine lSl w57 2 ?_
      refine ak w57 3 λH65 w65 s65=>?_
      refine ak w65 3 λH66 w66 s66=>?_
      refine lSl w66 3 ?_
      refine lSl w66 3 ?_
      obtain ⟨w67,s67⟩:=w66.pp [] 5
      exact aE hp ⟨_,_,_,_,_,_,rfl,rfl,rfl,w67,(s0.trans (s1.trans (s2.trans (s4.trans (s13.trans (s22.trans (s31.trans (s32.trans (s33.trans (s34.trans (s42.trans (s43.trans (s45.trans (s50.trans (s53.trans (s57.trans (s65.trans (s66.trans s67)))))))))))))))))),(f42.step (s43.trans (s45.trans (s50.trans (s53.trans (s57.trans (s65.trans (s66.trans s67)))))))),(f43.step (s45.trans (s50.trans (s53.trans (s57.trans (s65.trans (s66.trans s67)))))))⟩
def cN.Q (H0:Hp) (Ri R0:Ys)  (r:YD) (v:AV) (H':Hp):Prop:=∃ o0a:ON,∃ o0n:Nat,∃ o0c:Cap,∃ o0k:List AV,v=(.sl ⟨o0a,o0n,o0c⟩)/\o0n=(r).length/\Out H0 Ri H' (Rs.own ⟨o0a,o0n,o0c⟩ (eSl eI).z o0k::R0) λR=>CR (eSl eI) H' R o0k (r)
def cN.p (F:Nat) (ai:Yx) (ag:Int):Option (List (List Int)):=(ck.p F ai ag).bind λr2=>(bif (!r2.2.2) then (some ([]:List (List Int))) else ((aw.p F ai r2.1 r2.2.1).bind λr9=>some r9))
theorem cN.P {aG ay aH ai ag} (bg:ay=ai.length) (h0:Inn H R0 λR=>ROs (aa eI (aa eI (aa eI (aa eI eI)))) H R ⟨aG,ay,aH⟩ ai) {r:YD} (hp:cN.p F ai ag=some r):Rt (cN.tw F ⟨aG,ay,aH⟩ ag H) (cN.Q H R0 R0  r):=by
 obtain ⟨w0,aU⟩:=h0
 subst bg
 unfold cN.p at hp
 unfold cN.tw cN.twX
 have s0:=w0.rf
 refine aY w0 λH1 w1 s1=>?_
 refine lSl w1 0 ?_
 refine lI w1 0 ?_
 obtain ⟨r2,e2,hp⟩:=af hp
 refine aM (ck.P rfl ⟨w1,(aU.step s1)⟩ e2) ?_
 rintro _ H3 ⟨o0a_3,o0n_3,o0c_3,o1a_3,o1n_3,o1c_3,rfl,rfl,rfl,w3,s3,f3_0,f3_1⟩
 refine br (br (br (br (br (br (br (br (br ?_))))))))
 refine aY w3 λH4 w4 s4=>?_
 refine ak w4 0 λH5 w5 s5=>?_
 refine ak w5 0 λH6 w6 s6=>?_
 refine aB hp (λhp=>?_) λhp=>?_
 ·obtain ⟨w7,s7⟩:=w6.nilS (eSl eI).z (by decide)
  obtain ⟨w8,s8⟩:=w7.pp [0] 3
  exact aE hp ⟨_,_,_,_,rfl,rfl,w8,(s0.trans (s1.trans (s3.trans (s4.trans (s5.trans (s6.trans (s7.trans s8))))))),((CR.empty:CR (eSl eI) _ _ [] []).step s8)⟩
 ·refine lSl w6 1 ?_
  refine lI w6 1 ?_
  refine lSl w6 0 ?_
  refine lSl w6 0 ?_
  obtain ⟨r9,e9,hp⟩:=af hp
  refine aM (aw.P rfl rfl rfl ⟨w6,(aU.step (s1.trans (s3.trans (s4.trans (s5.trans s6))))),(f3_0.step (s4.trans (s5.trans s6))),(f3_1.step (s4.trans (s5.trans s6)))⟩ e9) ?_
  rintro _ H10 ⟨o0a_10,o0n_10,o0c_10,o0k_10,rfl,rfl,w10,s10,f10_0⟩
  refine br ?_
  obtain ⟨w11,s11⟩:=w10.pp [0] 3
  exact aE hp ⟨_,_,_,_,rfl,rfl,w11,(s0.trans (s1.trans (s3.trans (s4.trans (s5.trans (s6.trans (s10.trans s11))))))),(f10_0.step s11)⟩
def aF.Q (H0:Hp) (Ri R0:Ys)  (r:Yr) (v:AV) (H':Hp):Prop:=∃ o0a:ON,∃ o0n:Nat,∃ o0c:Cap,∃ o0k:List AV,v=(.sl ⟨o0a,o0n,o0c⟩)/\o0n=(r).length/\Out H0 Ri H' (Rs.own ⟨o0a,o0n,o0c⟩ eI.z o0k::R0) λR=>CR eI H' R o0k (r)
def aF.S29 (H0:Hp) (Ri R0:Ys)  (C:YK) (pC:Ze):Prop:=∀ {Dv Dw wk wl Dx Dy mF Dz DA jK iK fK},∀ {H:Hp},wk=mF.length->wl=jK.length->(Out H0 Ri H (Rs.own ⟨Dv,wk,Dx⟩ eI.z Dz::Rs.own ⟨Dw,wl,Dy⟩ (eSl eI).z DA::R0) λR=>CR eI H R Dz mF/\CR (eSl eI) H R DA jK)->∀ {r:Yr},pC mF jK iK fK=some r->Rt (C ⟨Dv,wk,Dx⟩ ⟨Dw,wl,Dy⟩ iK fK H) (aF.Q H0 Ri R0  r)
def aF.S1883 (H0:Hp) (Ri R0:Ys)  (C:Sl->Sl->Int->Int->Int->Sl->Int->Int->Hp->OA) (pC:List Int->List (List Int)->Int->Int->Int->List Int->Int->Int->Option (List Int)):Prop:=∀ {DB DC DE wo wq wt DF DH DI kR kS DJ DK mG iG iH iI iJ gI},∀ {H:Hp},wo=kR.length->wq=mG.length->wt=kS.length->(Out H0 Ri H (Rs.own ⟨DB,wo,DF⟩ eI.z DJ::Rs.own ⟨DC,wq,DH⟩ (eSl eI).z DK::R0) λR=>CR eI H R DJ kR/\CR (eSl eI) H R DK mG/\ROs eI H R ⟨DE,wt,DI⟩ kS)->∀ {r:Yr},pC kR mG iG iH iI kS iJ gI=some r->Rt (C ⟨DB,wo,DF⟩ ⟨DC,wq,DH⟩ iG iH iI ⟨DE,wt,DI⟩ iJ gI H) (aF.Q H0 Ri R0  r)
def aF.pj3 (F:Nat) (fN:Ze) (rU:Yr) (rV:YD) (oH:Int) (oI:Int):Option (List Int):=fN rU rV oH (wrap .i64 (oI+1))
theorem aF.j3_P  {C29_:YK} {fN:Ze} (hC29:aF.S29 H0 Ri R0  C29_ fN) {Lr Lt DL DM Lu Lv rU Lw Lx rV oH oI} (Vm:DL=rU.length) (Vn:DM=rV.length) (h0:Out H0 Ri H (Rs.own ⟨Lr,DL,Lu⟩ eI.z Lw::Rs.own ⟨Lt,DM,Lv⟩ (eSl eI).z Lx::R0) λR=>CR eI H R Lw rU/\CR (eSl eI) H R Lx rV) {r:Yr} (hp:aF.pj3 F fN rU rV oH oI=some r):Rt (aF.j3 F (aw.tw F) C29_ ⟨Lr,DL,Lu⟩ ⟨Lt,DM,Lv⟩ oH oI H) (aF.Q H0 Ri R0  r):=by
 obtain ⟨w0,s0,Vo,Vp⟩:=h0
 subst Vm
 subst Vn
 unfold aF.pj3 at hp
 unfold aF.j3
 exact hC29 rfl rfl ⟨w0,s0,Vo,Vp⟩ hp
def aF.pj4 (F:Nat) (fN:Ze) (rW:Yr) (rX:YD) (oJ:Int) (oK:Int):Option (List Int):=aF.pj3 F fN rW rX oJ oK
theorem aF.j4_P  {C29_:YK} {fN:Ze} (hC29:aF.S29 H0 Ri R0  C29_ fN) {Ly Lz DN DO LA LB rW LC LD rX oJ oK} (Vq:DN=rW.length) (Vr:DO=rX.length) (h0:Out H0 Ri H (Rs.own ⟨Ly,DN,LA⟩ eI.z LC::Rs.own ⟨Lz,DO,LB⟩ (eSl eI).z LD::R0) λR=>CR eI H R LC rW/\CR (eSl eI) H R LD rX) {r:Yr} (hp:aF.pj4 F fN rW rX oJ oK=some r):Rt (aF.j4 F (aw.tw F) C29_ ⟨Ly,DN,LA⟩ ⟨Lz,DO,LB⟩ oJ oK H) (aF.Q H0 Ri R0  r):=by
 obtain ⟨w0,s0,Vs,Vt⟩:=h0
 subst Vq
 subst Vr
 unfold aF.pj4 at hp
 unfold aF.j4
 exact aF.j3_P (@hC29) rfl rfl ⟨w0,s0,Vs,Vt⟩ hp
def aF.pl1883 (F:Nat) (fN:Ze):Nat->List Int->List (List Int)->Int->Int->Int->List Int->Int->Int->Option (List Int)
 | 0,_,_,_,_,_,_,_,_=>none
 | k+1,kR,mG,iG,iH,iI,kS,iJ,gI=>(bif (decide (gI<iJ)) then ((ix kS gI).bind λn1=>(ix kR (gt kS n1)).bind λn2=>(some (kR.set n2 iI)).bind λl3=>aF.pl1883 F fN k l3 mG iG iH iI kS iJ (wrap .i64 (gI+1))) else (aF.pj4 F fN kR mG iG iH))
theorem aF.l1883_P  {C29_:YK} {fN:Ze} (hC29:aF.S29 H0 Ri R0  C29_ fN):∀ k,aF.S1883 H0 Ri R0  (aF.l1883 F (aw.tw F) C29_ k) (aF.pl1883 F fN k):=by
 intro k
 induction k with
 | zero=>unfold aF.S1883;intros;rename_i hp;cases hp
 | succ k ih=>
  intro DB DC DE wo wq wt DF DH DI kR kS DJ DK mG iG iH iI iJ gI H Vu Vv Vw h0 r hp
  obtain ⟨w0,s0,DP,LE,LF⟩:=h0
  subst Vu
  subst Vv
  subst Vw
  unfold aF.pl1883 at hp
  unfold aF.l1883
  refine aB hp (λhp=>?_) λhp=>?_
  ·obtain ⟨n1,g1,hp⟩:=af hp
   obtain ⟨p1,q1,i1,h1,j1⟩:=ROs.ixr LF rfl g1
   refine aj i1 ?_
   have h1:_=[_]:=h1
   subst h1
   refine aj (aC (j1 0 _ rfl)) ?_
   obtain ⟨n2,g2,hp⟩:=af hp
   obtain ⟨p2,q2,i2,h2,j2⟩:=W.ixo (E:=eI) w0 (i:=0) rfl rfl DP g2
   refine aj i2 ?_
   obtain ⟨l3,e3,hp⟩:=af hp
   refine bV eI w0 (i:=0) (j:=0) (p:=p2) rfl rfl DP g2 i2 e3 rfl rfl (λ_ h=>by have h:_=[_]:=h;subst h;exact rfl) λH4 k4 w4 s4 c4=>?_
   exact ih ((aT e3).symm) rfl rfl ⟨w4,(s0.trans s4),c4,(LE.step s4),(LF.step s4)⟩ hp
  ·exact aF.j4_P (@hC29) rfl rfl ⟨w0,s0,DP,LE⟩ hp
def aF.pl29 (F:Nat) :Nat->List Int->List (List Int)->Int->Int->Option (List Int)
 | 0,_,_,_,_=>none
 | k+1,mF,jK,iK,fK=>(bif (decide (fK<iK)) then ((ix jK fK).bind λn1=>aF.pl1883 F (aF.pl29 F k) F mF jK iK fK fK (gt jK n1) (((gt jK n1).length):Int) 0) else (some mF))
theorem aF.l29_P  :∀ k,aF.S29 H0 Ri R0  (aF.l29 F (aw.tw F)  k) (aF.pl29 F  k):=by
 intro k
 induction k with
 | zero=>unfold aF.S29;intros;rename_i hp;cases hp
 | succ k ih=>
  intro Dv Dw wk wl Dx Dy mF Dz DA jK iK fK H Vx Vy h0 r hp
  obtain ⟨w0,s0,LG,LI⟩:=h0
  subst Vx
  subst Vy
  unfold aF.pl29 at hp
  unfold aF.l29
  refine aB hp (λhp=>?_) λhp=>?_
  ·obtain ⟨n1,g1,hp⟩:=af hp
   obtain ⟨p1,q1,i1,h1,j1⟩:=W.ixo (E:=(eSl eI)) w0 (i:=1) rfl rfl LI g1
   refine aj i1 ?_
   obtain ⟨⟨Vz,m1_0,c1_0⟩,rfl,f1_0⟩:=h1
   obtain rfl:m1_0=_:=f1_0.n
   refine aj (kV (j1 0 _ rfl)) ?_
   exact aF.l1883_P (@ih) F rfl rfl rfl ⟨w0,s0,LG,LI,f1_0⟩ hp
  ·obtain ⟨w2,s2⟩:=w0.pp [0] 2
   exact aE hp ⟨_,_,_,_,rfl,rfl,w2,(s0.trans s2),(LG.step s2)⟩
def aF.p (F:Nat) (ai:Yx) (bH:YI) (cL:YI):Option (List Int):=(mkn (wrap .i64 (4 * (ai.length:Int))) (0:Int)).bind λl3=>(aw.p F ai bH cL).bind λr5=>aF.pl29 F F l3 r5 (r5.length:Int) 0
theorem aF.P {aG dL fW ay cS eC aH dM fX ai ag bH cL} (bg:ay=ai.length) (fL:cS=bH.length) (jJ:eC=cL.length) (h0:Inn H R0 λR=>ROs (aa eI (aa eI (aa eI (aa eI eI)))) H R ⟨aG,ay,aH⟩ ai/\ROs (aa eI eI) H R ⟨dL,cS,dM⟩ bH/\ROs (aa eI eI) H R ⟨fW,eC,fX⟩ cL) {r:Yr} (hp:aF.p F ai bH cL=some r):Rt (aF.tw F ⟨aG,ay,aH⟩ ag ⟨dL,cS,dM⟩ ⟨fW,eC,fX⟩ H) (aF.Q H R0 R0  r):=by
 obtain ⟨w0,aU,eO,iX⟩:=h0
 subst bg
 subst fL
 subst jJ
 unfold aF.p at hp
 unfold aF.tw aF.twX
 have s0:=w0.rf
 refine aY w0 λH1 w1 s1=>?_
 refine aY w1 λH2 w2 s2=>?_
 refine lSl w2 1 ?_
 obtain ⟨l3,e3,hp⟩:=af hp
 refine jN eI (0:Int) w2 rfl rfl rfl e3 λH4 k4 w4 s4 c4=>?_
 refine lSl w4 2 ?_
 refine lI w4 2 ?_
 refine lSl w4 1 ?_
 refine lSl w4 1 ?_
 obtain ⟨r5,e5,hp⟩:=af hp
 refine aM (aw.P rfl rfl rfl ⟨w4,(aU.step (s1.trans (s2.trans s4))),(eO.step (s1.trans (s2.trans s4))),(iX.step (s1.trans (s2.trans s4)))⟩ e5) ?_
 rintro _ H6 ⟨o0a_6,o0n_6,o0c_6,o0k_6,rfl,rfl,w6,s6,f6_0⟩
 refine br ?_
 obtain ⟨w7,s7⟩:=w6.pp [1,0] 4
 exact aF.l29_P F rfl rfl ⟨w7,(s0.trans (s1.trans (s2.trans (s4.trans (s6.trans s7))))),(c4.step (s6.trans s7)),(f6_0.step s7)⟩ hp
def aZ.Q (H0:Hp) (Ri R0:Ys)  (r:Yr) (v:AV) (H':Hp):Prop:=∃ o0a:ON,∃ o0n:Nat,∃ o0k:List AV,v=(.sl ⟨o0a,o0n,.ex o0n⟩)/\o0n=(r).length/\Out H0 Ri H' (Rs.own ⟨o0a,o0n,.ex o0n⟩ eI.z o0k::R0) λR=>CR eI H' R o0k (r)
def aZ.pj1 (F:Nat)  (gP:Yr) (fE:Int):Option (List Int):=(mkn (wrap .i64 fE) (0:Int)).bind λl1=>(some (cpl l1 gP)).bind λl3=>(kW F l3 ((min gP.length l1.length:Nat):Int)).bind λl5=>some l5
theorem aZ.j1_P   {rB mq rC gP fE} (BA:mq=gP.length) (h0:Out H0 Ri H R0 λR=>ROs eI H R ⟨rB,mq,rC⟩ gP) {r:Yr} (hp:aZ.pj1 F  gP fE=some r):Rt (aZ.j1 F (bits_Mul.tw F)  ⟨rB,mq,rC⟩ fE H) (aZ.Q H0 Ri R0  r):=by
 obtain ⟨w0,s0,BB⟩:=h0
 subst BA
 unfold aZ.pj1 at hp
 unfold aZ.j1
 obtain ⟨l1,e1,hp⟩:=af hp
 refine jN eI (0:Int) w0 rfl rfl rfl e1 λH2 k2 w2 s2 c2=>?_
 obtain ⟨x3,h3,c3⟩:=(BB.step s2).row (z:=eI.z) rfl
 obtain ⟨l3,e3,hp⟩:=af hp
 refine MZ eI w2 (i:=0) rfl rfl c2 h3 c3 rfl rfl e3 λk4 H4 w4 s4 c4=>?_
 obtain ⟨l5,e5,hp⟩:=af hp
 refine M_ eI rfl (L:=aZ.l254 F (bits_Mul.tw F)) (λ_ _ _ _=>rfl) w4 (i:=0) rfl c4 e5 λH6 k6 w6 s6 c6=>?_
 dsimp only [List.set] at w6 s6 c6
 exact aE hp ⟨_,_,_,rfl,((Na e3).symm.trans (Nb e5).symm),w6,(s0.trans (s2.trans (s4.trans s6))),c6⟩
def aZ.pj2 (F:Nat)  (gQ:Yr) (gw:Int):Option (List Int):=(bits_Mul.p F (IntKind.u64.wrap (gQ.length:Int)) (IntKind.u64.wrap gw)).bind λr1=>(bif (decide (r1.1>0)) then (none) else ((bif (decide (r1.2>9223372036854775807)) then (none) else (aZ.pj1 F gQ r1.2))))
theorem aZ.j2_P   {rD mr rE gQ gw} (BC:mr=gQ.length) (h0:Out H0 Ri H R0 λR=>ROs eI H R ⟨rD,mr,rE⟩ gQ) {r:Yr} (hp:aZ.pj2 F  gQ gw=some r):Rt (aZ.j2 F (bits_Mul.tw F)  ⟨rD,mr,rE⟩ gw H) (aZ.Q H0 Ri R0  r):=by
 obtain ⟨w0,s0,BD⟩:=h0
 subst BC
 unfold aZ.pj2 at hp
 unfold aZ.j2
 obtain ⟨r1,e1,hp⟩:=af hp
 refine aM (bits_Mul.P ⟨w0,trivial⟩ e1) ?_
 rintro _ H2 ⟨rfl,w2,s2,_⟩
 refine br (br (br (br (br ?_))))
 refine aB hp (λhp=>?_) λhp=>?_
 ·cases hp
 ·refine aB hp (λhp=>?_) λhp=>?_
  ·cases hp
  ·exact aZ.j1_P rfl ⟨w2,(s0.trans s2),(BD.step s2)⟩ hp
def aZ.p (F:Nat) (ai:Yr) (aI:Int):Option (List Int):=(bif (decide (aI<0)) then (none) else (aZ.pj2 F ai aI))
theorem aZ.P {aG ay aH ai aI} (bg:ay=ai.length) (h0:Inn H R0 λR=>ROs eI H R ⟨aG,ay,aH⟩ ai) {r:Yr} (hp:aZ.p F ai aI=some r):Rt (aZ.tw F ⟨aG,ay,aH⟩ aI H) (aZ.Q H R0 R0  r):=by
 obtain ⟨w0,aU⟩:=h0
 subst bg
 unfold aZ.p at hp
 unfold aZ.tw aZ.twX
 have s0:=w0.rf
 refine aB hp (λhp=>?_) λhp=>?_
 ·cases hp
 ·exact aZ.j2_P rfl ⟨w0,s0,aU⟩ hp
def aq.Q (H0:Hp) (Ri R0:Ys)  (r:Yr) (v:AV) (H':Hp):Prop:=∃ o0a:ON,∃ o0n:Nat,∃ o0c:Cap,∃ o0k:List AV,v=(.sl ⟨o0a,o0n,o0c⟩)/\o0n=(r).length/\Out H0 Ri H' (Rs.own ⟨o0a,o0n,o0c⟩ eI.z o0k::R0) λR=>CR eI H' R o0k (r)
def aq.S253 (H0:Hp) (Ri R0:Ys)  (C:Zr) (pC:ZA):Prop:=∀ {DQ DR DS DT wu wv ww wx DU DV DW DX ji jL jj DY DZ D_ Ea jk gM ff},∀ {H:Hp},wu=ji.length->wv=jL.length->ww=jk.length->wx=jj.length->(Out H0 Ri H (Rs.own ⟨DQ,wu,DU⟩ eI.z DY::Rs.own ⟨DR,wv,DV⟩ eI.z DZ::Rs.own ⟨DS,ww,DW⟩ bI.z D_::Rs.own ⟨DT,wx,DX⟩ eI.z Ea::R0) λR=>CR eI H R DY ji/\CR eI H R DZ jL/\CR bI H R D_ jk/\CR eI H R Ea jj)->∀ {r:Yr},pC ji jL jk jj gM ff=some r->Rt (C ⟨DQ,wu,DU⟩ ⟨DR,wv,DV⟩ ⟨DS,ww,DW⟩ ⟨DT,wx,DX⟩ gM ff H) (aq.Q H0 Ri R0  r)
def aq.pj11 (F:Nat) (jB:ZA) (rY:Yr) (rZ:Yr) (r_:Zd) (sb:Yr) (oT:Int) (oU:Int):Option (List Int):=jB rY rZ r_ sb oT (wrap .i64 (oU+1))
theorem aq.j11_P  {C253_:Zr} {jB:ZA} (hC253:aq.S253 H0 Ri R0  C253_ jB) {LJ LL LM LN Ec Ed Ee Ef LP LQ LR LS rY rZ sb LT LU LV LW r_ oT oU} (VA:Ec=rY.length) (VB:Ed=rZ.length) (VD:Ee=r_.length) (VE:Ef=sb.length) (h0:Out H0 Ri H (Rs.own ⟨LJ,Ec,LP⟩ eI.z LT::Rs.own ⟨LL,Ed,LQ⟩ eI.z LU::Rs.own ⟨LM,Ee,LR⟩ bI.z LV::Rs.own ⟨LN,Ef,LS⟩ eI.z LW::R0) λR=>CR eI H R LT rY/\CR eI H R LU rZ/\CR bI H R LV r_/\CR eI H R LW sb) {r:Yr} (hp:aq.pj11 F jB rY rZ r_ sb oT oU=some r):Rt (aq.j11 F (aF.tw F) (a_.tw F) (aw.tw F) (aZ.tw F) (cl.tw F) C253_ ⟨LJ,Ec,LP⟩ ⟨LL,Ed,LQ⟩ ⟨LM,Ee,LR⟩ ⟨LN,Ef,LS⟩ oT oU H) (aq.Q H0 Ri R0  r):=by
 obtain ⟨w0,s0,VF,VG,VH,VI⟩:=h0
 subst VA
 subst VB
 subst VD
 subst VE
 unfold aq.pj11 at hp
 unfold aq.j11
 exact hC253 rfl rfl rfl rfl ⟨w0,s0,VF,VG,VH,VI⟩ hp
def aq.S509 (H0:Hp) (Ri R0:Ys)  (C:YK) (pC:Zf):Prop:=∀ {Eg Eh wy wz Ei Ej mH mI Ek El iL iM},∀ {H:Hp},wy=mH.length->wz=mI.length->(Out H0 Ri H (Rs.own ⟨Eg,wy,Ei⟩ eI.z Ek::Rs.own ⟨Eh,wz,Ej⟩ eI.z El::R0) λR=>CR eI H R Ek mH/\CR eI H R El mI)->∀ {r:Yr},pC mH mI iL iM=some r->Rt (C ⟨Eg,wy,Ei⟩ ⟨Eh,wz,Ej⟩ iL iM H) (aq.Q H0 Ri R0  r)
def aq.S16301 (H0:Hp) (Ri R0:Ys)  (C:Zq) (pC:ZB):Prop:=∀ {Em En wA wB Er Es hU hY Et Eu gJ gK gL dY},∀ {H:Hp},wA=hU.length->wB=hY.length->(Out H0 Ri H (Rs.own ⟨Em,wA,Er⟩ eI.z Et::Rs.own ⟨En,wB,Es⟩ eI.z Eu::R0) λR=>CR eI H R Et hU/\CR eI H R Eu hY)->∀ {r:Yr},pC hU hY gJ gK gL dY=some r->Rt (C ⟨Em,wA,Er⟩ ⟨En,wB,Es⟩ gJ gK gL dY H) (aq.Q H0 Ri R0  r)
def aq.pj9 (F:Nat) (wC:ZB) (sd:Yr) (se:Yr) (oP:Int) (oQ:Int) (oR:Int) (oS:Int):Option (List Int):=wC sd se oP oQ oR (wrap .i64 (oS+1))
theorem aq.j9_P  {C16301_:Zq} {wC:ZB} (hC16301:aq.S16301 H0 Ri R0  C16301_ wC) {LX LY Ev Ew LZ L_ sd se Ma Mb oP oQ oR oS} (VJ:Ev=sd.length) (VK:Ew=se.length) (h0:Out H0 Ri H (Rs.own ⟨LX,Ev,LZ⟩ eI.z Ma::Rs.own ⟨LY,Ew,L_⟩ eI.z Mb::R0) λR=>CR eI H R Ma sd/\CR eI H R Mb se) {r:Yr} (hp:aq.pj9 F wC sd se oP oQ oR oS=some r):Rt (aq.j9 F (aF.tw F) (a_.tw F) (aw.tw F) (aZ.tw F) (cl.tw F) C16301_ ⟨LX,Ev,LZ⟩ ⟨LY,Ew,L_⟩ oP oQ oR oS H) (aq.Q H0 Ri R0  r):=by
 obtain ⟨w0,s0,VL,VM⟩:=h0
 subst VJ
 subst VK
 unfold aq.pj9 at hp
 unfold aq.j9
 exact hC16301 rfl rfl ⟨w0,s0,VL,VM⟩ hp
def aq.pj7 (F:Nat) (bT:Zf) (sf:Yr) (si:Yr) (oL:Int) (oM:Int):Option (List Int):=bT sf si oL (wrap .i64 (oM+1))
theorem aq.j7_P  {C509_:YK} {bT:Zf} (hC509:aq.S509 H0 Ri R0  C509_ bT) {Mc Md Ex Ey Me Mf sf si Mg Mh oL oM} (VN:Ex=sf.length) (VO:Ey=si.length) (h0:Out H0 Ri H (Rs.own ⟨Mc,Ex,Me⟩ eI.z Mg::Rs.own ⟨Md,Ey,Mf⟩ eI.z Mh::R0) λR=>CR eI H R Mg sf/\CR eI H R Mh si) {r:Yr} (hp:aq.pj7 F bT sf si oL oM=some r):Rt (aq.j7 F (aF.tw F) (a_.tw F) (aw.tw F) (aZ.tw F) (cl.tw F) C509_ ⟨Mc,Ex,Me⟩ ⟨Md,Ey,Mf⟩ oL oM H) (aq.Q H0 Ri R0  r):=by
 obtain ⟨w0,s0,VP,VQ⟩:=h0
 subst VN
 subst VO
 unfold aq.pj7 at hp
 unfold aq.j7
 exact hC509 rfl rfl ⟨w0,s0,VP,VQ⟩ hp
def aq.pj8 (F:Nat) (bT:Zf) (sj:Yr) (sk:Yr) (oN:Int) (oO:Int):Option (List Int):=aq.pj7 F bT sj sk oN oO
theorem aq.j8_P  {C509_:YK} {bT:Zf} (hC509:aq.S509 H0 Ri R0  C509_ bT) {Mi Mj Ez EA Ml Mm sj sk Mn Mo oN oO} (VR:Ez=sj.length) (VS:EA=sk.length) (h0:Out H0 Ri H (Rs.own ⟨Mi,Ez,Ml⟩ eI.z Mn::Rs.own ⟨Mj,EA,Mm⟩ eI.z Mo::R0) λR=>CR eI H R Mn sj/\CR eI H R Mo sk) {r:Yr} (hp:aq.pj8 F bT sj sk oN oO=some r):Rt (aq.j8 F (aF.tw F) (a_.tw F) (aw.tw F) (aZ.tw F) (cl.tw F) C509_ ⟨Mi,Ez,Ml⟩ ⟨Mj,EA,Mm⟩ oN oO H) (aq.Q H0 Ri R0  r):=by
 obtain ⟨w0,s0,VT,VU⟩:=h0
 subst VR
 subst VS
 unfold aq.pj8 at hp
 unfold aq.j8
 exact aq.j7_P (@hC509) rfl rfl ⟨w0,s0,VT,VU⟩ hp
def aq.pl16301 (F:Nat) (bT:Zf):Nat->List Int->List Int->Int->Int->Int->Int->Option (List Int)
 | 0,_,_,_,_,_,_=>none
 | k+1,hU,hY,gJ,gK,gL,dY=>(bif (decide (dY<gL)) then ((ix hU dY).bind λn1=>(ix hY (gt hU n1)).bind λn2=>(bif (decide ((gt hY n2)>=0)) then ((ix hU (wrap .i64 ((wrap .i64 (dY - (Int.tmod dY 4)))+(Int.tmod (wrap .i64 (dY+1)) 4)))).bind λn3=>(ix hY (gt hU n3)).bind λn4=>(some (hY.set n4 (wrap .i64 (1 - (gt hY n2))))).bind λl5=>aq.pj9 F (aq.pl16301 F bT k) hU l5 gJ gK gL dY) else (aq.pj9 F (aq.pl16301 F bT k) hU hY gJ gK gL dY))) else (aq.pj8 F bT hU hY gJ gK))
theorem aq.l16301_P  {C509_:YK} {bT:Zf} (hC509:aq.S509 H0 Ri R0  C509_ bT):∀ k,aq.S16301 H0 Ri R0  (aq.l16301 F (aF.tw F) (a_.tw F) (aw.tw F) (aZ.tw F) (cl.tw F) C509_ k) (aq.pl16301 F bT k):=by
 intro k
 induction k with
 | zero=>unfold aq.S16301;intros;rename_i hp;cases hp
 | succ k ih=>
  intro Em En wA wB Er Es hU hY Et Eu gJ gK gL dY H VV VW h0 r hp
  obtain ⟨w0,s0,sm,sp⟩:=h0
  subst VV
  subst VW
  unfold aq.pl16301 at hp
  unfold aq.l16301
  refine aB hp (λhp=>?_) λhp=>?_
  ·obtain ⟨n1,g1,hp⟩:=af hp
   obtain ⟨p1,q1,i1,h1,j1⟩:=W.ixo (E:=eI) w0 (i:=0) rfl rfl sm g1
   refine aj i1 ?_
   have h1:_=[_]:=h1
   subst h1
   refine aj (aC (j1 0 _ rfl)) ?_
   obtain ⟨n2,g2,hp⟩:=af hp
   obtain ⟨p2,q2,i2,h2,j2⟩:=W.ixo (E:=eI) w0 (i:=1) rfl rfl sp g2
   refine aj i2 ?_
   have h2:_=[_]:=h2
   subst h2
   refine aj (aC (j2 0 _ rfl)) ?_
   refine aB hp (λhp=>?_) λhp=>?_
   ·obtain ⟨n3,g3,hp⟩:=af hp
    obtain ⟨p3,q3,i3,h3,j3⟩:=W.ixo (E:=eI) w0 (i:=0) rfl rfl sm g3
    refine aj i3 ?_
    have h3:_=[_]:=h3
    subst h3
    refine aj (aC (j3 0 _ rfl)) ?_
    obtain ⟨n4,g4,hp⟩:=af hp
    obtain ⟨p4,q4,i4,h4,j4⟩:=W.ixo (E:=eI) w0 (i:=1) rfl rfl sp g4
    refine aj i4 ?_
    obtain ⟨l5,e5,hp⟩:=af hp
    refine bV eI w0 (i:=1) (j:=0) (p:=p4) rfl rfl sp g4 i4 e5 rfl rfl (λ_ h=>by have h:_=[_]:=h;subst h;exact rfl) λH6 k6 w6 s6 c6=>?_
    exact aq.j9_P (@ih) rfl ((aT e5).symm) ⟨w6,(s0.trans s6),(sm.step s6),c6⟩ hp
   ·exact aq.j9_P (@ih) rfl rfl ⟨w0,s0,sm,sp⟩ hp
  ·exact aq.j8_P (@hC509) rfl rfl ⟨w0,s0,sm,sp⟩ hp
def aq.pl509 (F:Nat) :Nat->List Int->List Int->Int->Int->Option (List Int)
 | 0,_,_,_,_=>none
 | k+1,mH,mI,iL,iM=>(bif (decide (iM<iL)) then (aq.pl16301 F (aq.pl509 F k) F mH mI iL iM (mH.length:Int) 0) else (some mI))
theorem aq.l509_P  :∀ k,aq.S509 H0 Ri R0  (aq.l509 F (aF.tw F) (a_.tw F) (aw.tw F) (aZ.tw F) (cl.tw F)  k) (aq.pl509 F  k):=by
 intro k
 induction k with
 | zero=>unfold aq.S509;intros;rename_i hp;cases hp
 | succ k ih=>
  intro Eg Eh wy wz Ei Ej mH mI Ek El iL iM H VX VY h0 r hp
  obtain ⟨w0,s0,VZ,Mp⟩:=h0
  subst VX
  subst VY
  unfold aq.pl509 at hp
  unfold aq.l509
  refine aB hp (λhp=>?_) λhp=>?_
  ·exact aq.l16301_P (@ih) F rfl rfl ⟨w0,s0,VZ,Mp⟩ hp
  ·obtain ⟨w1,s1⟩:=w0.pp [1] 2
   exact aE hp ⟨_,_,_,_,rfl,rfl,w1,(s0.trans s1),(Mp.step s1)⟩
def aq.pj10 (F:Nat)  (sq:Yr) (pE:Yr):Option (List Int):=aq.pl509 F F sq pE (pE.length:Int) 0
theorem aq.j10_P   {Mq Mr EB EC Ms Mt sq pE Mu Mv} (V_:EB=sq.length) (Wa:EC=pE.length) (h0:Out H0 Ri H (Rs.own ⟨Mq,EB,Ms⟩ eI.z Mu::Rs.own ⟨Mr,EC,Mt⟩ eI.z Mv::R0) λR=>CR eI H R Mu sq/\CR eI H R Mv pE) {r:Yr} (hp:aq.pj10 F  sq pE=some r):Rt (aq.j10 F (aF.tw F) (a_.tw F) (aw.tw F) (aZ.tw F) (cl.tw F)  ⟨Mq,EB,Ms⟩ ⟨Mr,EC,Mt⟩ H) (aq.Q H0 Ri R0  r):=by
 obtain ⟨w0,s0,Wb,Wc⟩:=h0
 subst V_
 subst Wa
 unfold aq.pj10 at hp
 unfold aq.j10
 exact aq.l509_P F rfl rfl ⟨w0,s0,Wb,Wc⟩ hp
def aq.pl253 (F:Nat) :Nat->List Int->List Int->List Bool->List Int->Int->Int->Option (List Int)
 | 0,_,_,_,_,_,_=>none
 | k+1,ji,jL,jk,jj,gM,ff=>(bif (decide (ff<gM)) then ((ix jj ff).bind λn1=>(ix jk (gt jj n1)).bind λn2=>(bif (!(gt jk n2)) then ((ix jk (gt jj n1)).bind λn3=>(some (jk.set n3 true)).bind λl4=>(ix ji (wrap .i64 (4 * ff))).bind λn6=>(ix jL (gt ji n6)).bind λn7=>(some (jL.set n7 0)).bind λl8=>aq.pj11 F (aq.pl253 F k) ji l8 l4 jj gM ff) else (aq.pj11 F (aq.pl253 F k) ji jL jk jj gM ff))) else (aq.pj10 F ji jL))
theorem aq.l253_P  :∀ k,aq.S253 H0 Ri R0  (aq.l253 F (aF.tw F) (a_.tw F) (aw.tw F) (aZ.tw F) (cl.tw F)  k) (aq.pl253 F  k):=by
 intro k
 induction k with
 | zero=>unfold aq.S253;intros;rename_i hp;cases hp
 | succ k ih=>
  intro DQ DR DS DT wu wv ww wx DU DV DW DX ji jL jj DY DZ D_ Ea jk gM ff H We Wf Wg Wh h0 r hp
  obtain ⟨w0,s0,wD,wE,wF,ED⟩:=h0
  subst We
  subst Wf
  subst Wg
  subst Wh
  unfold aq.pl253 at hp
  unfold aq.l253
  refine aB hp (λhp=>?_) λhp=>?_
  ·obtain ⟨n1,g1,hp⟩:=af hp
   obtain ⟨p1,q1,i1,h1,j1⟩:=W.ixo (E:=eI) w0 (i:=3) rfl rfl ED g1
   refine aj i1 ?_
   have h1:_=[_]:=h1
   subst h1
   refine aj (aC (j1 0 _ rfl)) ?_
   obtain ⟨n2,g2,hp⟩:=af hp
   obtain ⟨p2,q2,i2,h2,j2⟩:=W.ixo (E:=bI) w0 (i:=2) rfl rfl wF g2
   refine aj i2 ?_
   have h2:_=[_]:=h2
   subst h2
   refine aj (mL (j2 0 _ rfl)) ?_
   refine aB hp (λhp=>?_) λhp=>?_
   ·obtain ⟨n3,g3,hp⟩:=af hp
    obtain ⟨p3,q3,i3,h3,j3⟩:=W.ixo (E:=bI) w0 (i:=2) rfl rfl wF g3
    refine aj i3 ?_
    obtain ⟨l4,e4,hp⟩:=af hp
    refine bV bI w0 (i:=2) (j:=0) (p:=p3) rfl rfl wF g3 i3 e4 rfl rfl (λ_ h=>by have h:_=[_]:=h;subst h;exact rfl) λH5 k5 w5 s5 c5=>?_
    obtain ⟨n6,g6,hp⟩:=af hp
    obtain ⟨p6,q6,i6,h6,j6⟩:=W.ixo (E:=eI) w5 (i:=0) rfl rfl (wD.step s5) g6
    refine aj i6 ?_
    have h6:_=[_]:=h6
    subst h6
    refine aj (aC (j6 0 _ rfl)) ?_
    obtain ⟨n7,g7,hp⟩:=af hp
    obtain ⟨p7,q7,i7,h7,j7⟩:=W.ixo (E:=eI) w5 (i:=1) rfl rfl (wE.step s5) g7
    refine aj i7 ?_
    obtain ⟨l8,e8,hp⟩:=af hp
    refine bV eI w5 (i:=1) (j:=0) (p:=p7) rfl rfl (wE.step s5) g7 i7 e8 rfl rfl (λ_ h=>by have h:_=[_]:=h;subst h;exact rfl) λH9 k9 w9 s9 c9=>?_
    exact aq.j11_P (@ih) rfl ((aT e8).symm) ((aT e4).symm) rfl ⟨w9,(s0.trans (s5.trans s9)),(wD.step (s5.trans s9)),c9,(c5.step s9),(ED.step (s5.trans s9))⟩ hp
   ·exact aq.j11_P (@ih) rfl rfl rfl rfl ⟨w0,s0,wD,wE,wF,ED⟩ hp
  ·obtain ⟨w10,s10⟩:=w0.pp [0,1] 4
   exact aq.j10_P rfl rfl ⟨w10,(s0.trans s10),(wD.step s10),(wE.step s10)⟩ hp
def aq.p (F:Nat) (ai:Yx) (bH:YI) (cL:YI):Option (List Int):=(aF.p F ai bH cL).bind λr3=>(a_.p F ai bH cL).bind λr5=>(aw.p F ai bH cL).bind λr8=>(aZ.p F ([(-1)]:List Int) (r8.length:Int)).bind λr12=>(cl.p F r5).bind λr17=>(mkn r17 false).bind λl20=>aq.pl253 F F r3 r12 l20 r5 (r5.length:Int) 0
theorem aq.P {aG dL fW ay cS eC aH dM fX ai ag bH cL} (bg:ay=ai.length) (fL:cS=bH.length) (jJ:eC=cL.length) (h0:Inn H R0 λR=>ROs (aa eI (aa eI (aa eI (aa eI eI)))) H R ⟨aG,ay,aH⟩ ai/\ROs (aa eI eI) H R ⟨dL,cS,dM⟩ bH/\ROs (aa eI eI) H R ⟨fW,eC,fX⟩ cL) {r:Yr} (hp:aq.p F ai bH cL=some r):Rt (aq.tw F ⟨aG,ay,aH⟩ ag ⟨dL,cS,dM⟩ ⟨fW,eC,fX⟩ H) (aq.Q H R0 R0  r):=by
 obtain ⟨w0,aU,eO,iX⟩:=h0
 subst bg
 subst fL
 subst jJ
 unfold aq.p at hp
 unfold aq.tw aq.twX
 have s0:=w0.rf
 refine aY w0 λH1 w1 s1=>?_
 refine aY w1 λH2 w2 s2=>?_
 refine lSl w2 1 ?_
 refine lI w2 1 ?_
 refine lSl w2 0 ?_
 refine lSl w2 0 ?_
 obtain ⟨r3,e3,hp⟩:=af hp
 refine aM (aF.P rfl rfl rfl ⟨w2,(aU.step (s1.trans s2)),(eO.step (s1.trans s2)),(iX.step (s1.trans s2))⟩ e3) ?_
 rintro _ H4 ⟨o0a_4,o0n_4,o0c_4,o0k_4,rfl,rfl,w4,s4,f4_0⟩
 refine br ?_
 refine lSl w4 2 ?_
 refine lI w4 2 ?_
 refine lSl w4 1 ?_
 refine lSl w4 1 ?_
 obtain ⟨r5,e5,hp⟩:=af hp
 refine aM (a_.P rfl rfl rfl ⟨w4,(aU.step (s1.trans (s2.trans s4))),(eO.step (s1.trans (s2.trans s4))),(iX.step (s1.trans (s2.trans s4)))⟩ e5) ?_
 rintro _ H6 ⟨o0a_6,o0n_6,o0c_6,o0k_6,rfl,rfl,w6,s6,f6_0⟩
 refine br ?_
 refine dl eI w6 (n:=1) (l:=([(-1)]:List Int)) rfl (CR.cons1 rfl CR.empty) rfl λH7 w7 s7 c7=>?_
 refine lSl w7 4 ?_
 refine lI w7 4 ?_
 refine lSl w7 3 ?_
 refine lSl w7 3 ?_
 obtain ⟨r8,e8,hp⟩:=af hp
 refine aM (aw.P rfl rfl rfl ⟨w7,(aU.step (s1.trans (s2.trans (s4.trans (s6.trans s7))))),(eO.step (s1.trans (s2.trans (s4.trans (s6.trans s7))))),(iX.step (s1.trans (s2.trans (s4.trans (s6.trans s7)))))⟩ e8) ?_
 rintro _ H9 ⟨o0a_9,o0n_9,o0c_9,o0k_9,rfl,rfl,w9,s9,f9_0⟩
 refine br ?_
 obtain ⟨w10,s10⟩:=w9.pp [1,0,2,3,4,5] 6
 have f11:=W.borrow1 eI w10 (c7.step (s9.trans s10))
 obtain ⟨w11,s11⟩:=w10.right1
 obtain ⟨r12,e12,hp⟩:=af hp
 refine aM (aZ.P (show 1=List.length ([(-1)]:List Int) from rfl) ⟨w11,f11⟩ e12) ?_
 rintro _ H13 ⟨o0a_13,o0n_13,o0k_13,rfl,rfl,w13,s13,f13_0⟩
 obtain ⟨w14,s14⟩:=W.frame1 w10 w13 s13
 refine br ?_
 obtain ⟨w15,s15⟩:=w14.pp [3,0,1,2,4,5,6] 7
 have f16:=W.borrow1 eI w15 (f6_0.step (s7.trans (s9.trans (s10.trans (s14.trans s15)))))
 obtain ⟨w16,s16⟩:=w15.right1
 obtain ⟨r17,e17,hp⟩:=af hp
 refine aM (cl.P rfl ⟨w16,f16⟩ e17) ?_
 rintro _ H18 ⟨rfl,w18,s18,_⟩
 obtain ⟨w19,s19⟩:=W.frame1 w15 w18 s18
 refine br ?_
 obtain ⟨l20,e20,hp⟩:=af hp
 refine jN bI false w19 rfl rfl rfl e20 λH21 k21 w21 s21 c21=>?_
 obtain ⟨w22,s22⟩:=w21.pp [5,3,0,1] 8
 exact aq.l253_P F rfl rfl rfl rfl ⟨w22,(s0.trans (s1.trans (s2.trans (s4.trans (s6.trans (s7.trans (s9.trans (s10.trans (s14.trans (s15.trans (s19.trans (s21.trans s22)))))))))))),(f4_0.step (s6.trans (s7.trans (s9.trans (s10.trans (s14.trans (s15.trans (s19.trans (s21.trans s22))))))))),((CR.flat (cv .i64) f13_0).step (s15.trans (s19.trans (s21.trans s22)))),(c21.step s22),(f6_0.step (s7.trans (s9.trans (s10.trans (s14.trans (s15.trans (s19.trans (s21.trans s22))))))))⟩ hp
def cO.Q (H0:Hp) (Ri R0:Ys)  (r:List Int×Bool) (v:AV) (H':Hp):Prop:=∃ o0a:ON,∃ o0n:Nat,∃ o0c:Cap,∃ o0k:List AV,v=(.tup [(.sl ⟨o0a,o0n,o0c⟩),(.bool r.2)])/\o0n=(r.1).length/\Out H0 Ri H' (Rs.own ⟨o0a,o0n,o0c⟩ eI.z o0k::R0) λR=>CR eI H' R o0k (r.1)
def cO.p (F:Nat) (ai:Yx) (ag:Int):Option (List Int×Bool):=(ck.p F ai ag).bind λr2=>(bif (!r2.2.2) then (some (([]:List Int),false)) else ((aq.p F ai r2.1 r2.2.1).bind λr9=>some (r9,true)))
theorem cO.P {aG ay aH ai ag} (bg:ay=ai.length) (h0:Inn H R0 λR=>ROs (aa eI (aa eI (aa eI (aa eI eI)))) H R ⟨aG,ay,aH⟩ ai) {r:List Int×Bool} (hp:cO.p F ai ag=some r):Rt (cO.tw F ⟨aG,ay,aH⟩ ag H) (cO.Q H R0 R0  r):=by
 obtain ⟨w0,aU⟩:=h0
 subst bg
 unfold cO.p at hp
 unfold cO.tw cO.twX
 have s0:=w0.rf
 refine aY w0 λH1 w1 s1=>?_
 refine lSl w1 0 ?_
 refine lI w1 0 ?_
 obtain ⟨r2,e2,hp⟩:=af hp
 refine aM (ck.P rfl ⟨w1,(aU.step s1)⟩ e2) ?_
 rintro _ H3 ⟨o0a_3,o0n_3,o0c_3,o1a_3,o1n_3,o1c_3,rfl,rfl,rfl,w3,s3,f3_0,f3_1⟩
 refine br (br (br (br (br (br (br (br (br ?_))))))))
 refine aY w3 λH4 w4 s4=>?_
 refine ak w4 0 λH5 w5 s5=>?_
 refine ak w5 0 λH6 w6 s6=>?_
 refine aB hp (λhp=>?_) λhp=>?_
 ·obtain ⟨w7,s7⟩:=w6.nilS eI.z (by decide)
  obtain ⟨w8,s8⟩:=w7.pp [0] 3
  exact aE hp ⟨_,_,_,_,rfl,rfl,w8,(s0.trans (s1.trans (s3.trans (s4.trans (s5.trans (s6.trans (s7.trans s8))))))),((CR.empty:CR eI _ _ [] []).step s8)⟩
 ·refine lSl w6 1 ?_
  refine lI w6 1 ?_
  refine lSl w6 0 ?_
  refine lSl w6 0 ?_
  obtain ⟨r9,e9,hp⟩:=af hp
  refine aM (aq.P rfl rfl rfl ⟨w6,(aU.step (s1.trans (s3.trans (s4.trans (s5.trans s6))))),(f3_0.step (s4.trans (s5.trans s6))),(f3_1.step (s4.trans (s5.trans s6)))⟩ e9) ?_
  rintro _ H10 ⟨o0a_10,o0n_10,o0c_10,o0k_10,rfl,rfl,w10,s10,f10_0⟩
  refine br ?_
  obtain ⟨w11,s11⟩:=w10.pp [0] 3
  exact aE hp ⟨_,_,_,_,rfl,rfl,w11,(s0.trans (s1.trans (s3.trans (s4.trans (s5.trans (s6.trans (s10.trans s11))))))),(f10_0.step s11)⟩
def av.Q (H0:Hp) (Ri R0:Ys)  (r:Bool) (v:AV) (H':Hp):Prop:=v=(.bool r)/\Out H0 Ri H' (R0) λR=>True
def av.S4093 (H0:Hp) (Ri R0:Ys)  (C:Za) (pC:Zg):Prop:=∀ {EE EF EG wG wH wI EH EI EJ mJ EK EL EM pF mK iQ iS},∀ {H:Hp},wG=mJ.length->wH=pF.length->wI=mK.length->(Out H0 Ri H (Rs.own ⟨EE,wG,EH⟩ (eSl eI).z EK::Rs.own ⟨EF,wH,EI⟩ eI.z EL::Rs.own ⟨EG,wI,EJ⟩ eI.z EM::R0) λR=>CR (eSl eI) H R EK mJ/\CR eI H R EL pF/\CR eI H R EM mK)->∀ {r:Bool},pC mJ pF mK iQ iS=some r->Rt (C ⟨EE,wG,EH⟩ ⟨EF,wH,EI⟩ ⟨EG,wI,EJ⟩ iQ iS H) (av.Q H0 Ri R0  r)
def av.S65493 (H0:Hp) (Ri R0:Ys)  (C:Sl->Sl->Sl->Int->Int->Int->Hp->OA) (pC:List (List Int)->List Int->List Int->Int->Int->Int->Option (Bool)):Prop:=∀ {EN EO EP wJ wK wL EQ ER ES fO ET EU EV jM iY iO fh gN},∀ {H:Hp},wJ=fO.length->wK=jM.length->wL=iY.length->(Out H0 Ri H (Rs.own ⟨EN,wJ,EQ⟩ (eSl eI).z ET::Rs.own ⟨EO,wK,ER⟩ eI.z EU::Rs.own ⟨EP,wL,ES⟩ eI.z EV::R0) λR=>CR (eSl eI) H R ET fO/\CR eI H R EU jM/\CR eI H R EV iY)->∀ {r:Bool},pC fO jM iY iO fh gN=some r->Rt (C ⟨EN,wJ,EQ⟩ ⟨EO,wK,ER⟩ ⟨EP,wL,ES⟩ iO fh gN H) (av.Q H0 Ri R0  r)
def av.pj5 (F:Nat) (fP:Zg) (su:YD) (sv:Yr) (sw:Yr) (o_:Int) (pa:Int):Option (Bool):=fP su sv sw o_ (wrap .i64 (pa+1))
theorem av.j5_P  {C4093_:Za} {fP:Zg} (hC4093:av.S4093 H0 Ri R0  C4093_ fP) {Mw Mx My EW EY EZ Mz MA MB su MC MD ME sv sw o_ pa} (Wi:EW=su.length) (Wj:EY=sv.length) (Wk:EZ=sw.length) (h0:Out H0 Ri H (Rs.own ⟨Mw,EW,Mz⟩ (eSl eI).z MC::Rs.own ⟨Mx,EY,MA⟩ eI.z MD::Rs.own ⟨My,EZ,MB⟩ eI.z ME::R0) λR=>CR (eSl eI) H R MC su/\CR eI H R MD sv/\CR eI H R ME sw) {r:Bool} (hp:av.pj5 F fP su sv sw o_ pa=some r):Rt (av.j5 F (di.tw F) (cJ.tw F) (cN.tw F) (cO.tw F) (bL.tw F) C4093_ ⟨Mw,EW,Mz⟩ ⟨Mx,EY,MA⟩ ⟨My,EZ,MB⟩ o_ pa H) (av.Q H0 Ri R0  r):=by
 obtain ⟨w0,s0,Wl,Wm,Wn⟩:=h0
 subst Wi
 subst Wj
 subst Wk
 unfold av.pj5 at hp
 unfold av.j5
 exact hC4093 rfl rfl rfl ⟨w0,s0,Wl,Wm,Wn⟩ hp
def av.pj6 (F:Nat) (fP:Zg) (sx:YD) (sy:Yr) (sB:Yr) (pb:Int) (pc:Int):Option (Bool):=av.pj5 F fP sx sy sB pb pc
theorem av.j6_P  {C4093_:Za} {fP:Zg} (hC4093:av.S4093 H0 Ri R0  C4093_ fP) {MF MG MH E_ Fa Fb MI MJ MK sx ML MM MN sy sB pb pc} (Wo:E_=sx.length) (Wp:Fa=sy.length) (Wq:Fb=sB.length) (h0:Out H0 Ri H (Rs.own ⟨MF,E_,MI⟩ (eSl eI).z ML::Rs.own ⟨MG,Fa,MJ⟩ eI.z MM::Rs.own ⟨MH,Fb,MK⟩ eI.z MN::R0) λR=>CR (eSl eI) H R ML sx/\CR eI H R MM sy/\CR eI H R MN sB) {r:Bool} (hp:av.pj6 F fP sx sy sB pb pc=some r):Rt (av.j6 F (di.tw F) (cJ.tw F) (cN.tw F) (cO.tw F) (bL.tw F) C4093_ ⟨MF,E_,MI⟩ ⟨MG,Fa,MJ⟩ ⟨MH,Fb,MK⟩ pb pc H) (av.Q H0 Ri R0  r):=by
 obtain ⟨w0,s0,Wr,Ws,Wt⟩:=h0
 subst Wo
 subst Wp
 subst Wq
 unfold av.pj6 at hp
 unfold av.j6
 exact av.j5_P (@hC4093) rfl rfl rfl ⟨w0,s0,Wr,Ws,Wt⟩ hp
def av.pl65493 (F:Nat) (fP:Zg):Nat->List (List Int)->List Int->List Int->Int->Int->Int->Option (Bool)
 | 0,_,_,_,_,_,_=>none
 | k+1,fO,jM,iY,iO,fh,gN=>(ix fO fh).bind λn1=>(bif (decide (gN<(((gt fO n1).length):Int))) then ((ix fO fh).bind λn2=>(ix (gt fO n2) gN).bind λn3=>(bif (decide ((gt (gt fO n2) n3)<0)) then (some false) else ((bif (decide ((gt (gt fO n2) n3)>=(iY.length:Int))) then (some false) else ((ix iY (gt (gt fO n2) n3)).bind λn6=>(bif ((gt iY n6) != 0) then (some false) else ((ix jM fh).bind λn8=>(ix iY (gt (gt fO n2) n3)).bind λn9=>(some (iY.set n9 (wrap .i64 ((gt jM n8)+1)))).bind λl10=>av.pl65493 F fP k fO jM l10 (wrap .i64 (iO+1)) fh (wrap .i64 (gN+1))))))))) else (av.pj6 F fP fO jM iY iO fh))
theorem av.l65493_P  {C4093_:Za} {fP:Zg} (hC4093:av.S4093 H0 Ri R0  C4093_ fP):∀ k,av.S65493 H0 Ri R0  (av.l65493 F (di.tw F) (cJ.tw F) (cN.tw F) (cO.tw F) (bL.tw F) C4093_ k) (av.pl65493 F fP k):=by
 intro k
 induction k with
 | zero=>unfold av.S65493;intros;rename_i hp;cases hp
 | succ k ih=>
  intro EN EO EP wJ wK wL EQ ER ES fO ET EU EV jM iY iO fh gN H Wu Wv Ww h0 r hp
  obtain ⟨w0,s0,wM,Fc,wN⟩:=h0
  subst Wu
  subst Wv
  subst Ww
  unfold av.pl65493 at hp
  unfold av.l65493
  obtain ⟨n1,g1,hp⟩:=af hp
  obtain ⟨p1,q1,i1,h1,j1⟩:=W.ixo (E:=(eSl eI)) w0 (i:=0) rfl rfl wM g1
  refine aj i1 ?_
  obtain ⟨⟨Vz,m1_0,c1_0⟩,rfl,f1_0⟩:=h1
  obtain rfl:m1_0=_:=f1_0.n
  refine aj (kV (j1 0 _ rfl)) ?_
  refine aB hp (λhp=>?_) λhp=>?_
  ·obtain ⟨n2,g2,hp⟩:=af hp
   obtain ⟨p2,q2,i2,h2,j2⟩:=W.ixo (E:=(eSl eI)) w0 (i:=0) rfl rfl wM g2
   refine aj i2 ?_
   obtain ⟨⟨XZ,m2_0,c2_0⟩,rfl,f2_0⟩:=h2
   obtain rfl:m2_0=_:=f2_0.n
   refine aj (kV (j2 0 _ rfl)) ?_
   obtain ⟨n3,g3,hp⟩:=af hp
   obtain ⟨p3,q3,i3,h3,j3⟩:=ROs.ixr f2_0 rfl g3
   refine aj i3 ?_
   have h3:_=[_]:=h3
   subst h3
   refine aj (aC (j3 0 _ rfl)) ?_
   refine aB hp (λhp=>?_) λhp=>?_
   ·obtain ⟨w4,s4⟩:=w0.pp [] 3
    exact aE hp ⟨rfl,w4,(s0.trans s4),trivial⟩
   ·refine aB hp (λhp=>?_) λhp=>?_
    ·obtain ⟨w5,s5⟩:=w0.pp [] 3
     exact aE hp ⟨rfl,w5,(s0.trans s5),trivial⟩
    ·obtain ⟨n6,g6,hp⟩:=af hp
     obtain ⟨p6,q6,i6,h6,j6⟩:=W.ixo (E:=eI) w0 (i:=2) rfl rfl wN g6
     refine aj i6 ?_
     have h6:_=[_]:=h6
     subst h6
     refine aj (aC (j6 0 _ rfl)) ?_
     refine aB hp (λhp=>?_) λhp=>?_
     ·obtain ⟨w7,s7⟩:=w0.pp [] 3
      exact aE hp ⟨rfl,w7,(s0.trans s7),trivial⟩
     ·obtain ⟨n8,g8,hp⟩:=af hp
      obtain ⟨p8,q8,i8,h8,j8⟩:=W.ixo (E:=eI) w0 (i:=1) rfl rfl Fc g8
      refine aj i8 ?_
      have h8:_=[_]:=h8
      subst h8
      refine aj (aC (j8 0 _ rfl)) ?_
      obtain ⟨n9,g9,hp⟩:=af hp
      obtain ⟨p9,q9,i9,h9,j9⟩:=W.ixo (E:=eI) w0 (i:=2) rfl rfl wN g9
      refine aj i9 ?_
      obtain ⟨l10,e10,hp⟩:=af hp
      refine bV eI w0 (i:=2) (j:=0) (p:=p9) rfl rfl wN g9 i9 e10 rfl rfl (λ_ h=>by have h:_=[_]:=h;subst h;exact rfl) λH11 k11 w11 s11 c11=>?_
      exact ih rfl rfl ((aT e10).symm) ⟨w11,(s0.trans s11),(wM.step s11),(Fc.step s11),c11⟩ hp
  ·exact av.j6_P (@hC4093) rfl rfl rfl ⟨w0,s0,wM,Fc,wN⟩ hp
def av.S8189 (H0:Hp) (Ri R0:Ys)  (C:YC) (pC:List Int->Int->Int->Option (Bool)):Prop:=∀ {Fe wO Ff hZ Fg iN fg},∀ {H:Hp},wO=hZ.length->(Out H0 Ri H (Rs.own ⟨Fe,wO,Ff⟩ eI.z Fg::R0) λR=>CR eI H R Fg hZ)->∀ {r:Bool},pC hZ iN fg=some r->Rt (C ⟨Fe,wO,Ff⟩ iN fg H) (av.Q H0 Ri R0  r)
def av.pj3 (F:Nat)  (sC:Yr) (oZ:Int):Option (Bool):=some (oZ==(sC.length:Int))
theorem av.j3_P   {MO Fh MP sC MQ oZ} (Wx:Fh=sC.length) (h0:Out H0 Ri H (Rs.own ⟨MO,Fh,MP⟩ eI.z MQ::R0) λR=>CR eI H R MQ sC) {r:Bool} (hp:av.pj3 F  sC oZ=some r):Rt (av.j3 F (di.tw F) (cJ.tw F) (cN.tw F) (cO.tw F) (bL.tw F)  ⟨MO,Fh,MP⟩ oZ H) (av.Q H0 Ri R0  r):=by
 obtain ⟨w0,s0,X_⟩:=h0
 subst Wx
 unfold av.pj3 at hp
 unfold av.j3
 obtain ⟨w1,s1⟩:=w0.pp [] 1
 exact aE hp ⟨rfl,w1,(s0.trans s1),trivial⟩
def av.pl8189 (F:Nat) :Nat->List Int->Int->Int->Option (Bool)
 | 0,_,_,_=>none
 | k+1,hZ,iN,fg=>(bif (decide (fg<(hZ.length:Int))) then ((ix hZ fg).bind λn1=>(ix hZ (wrap .i64 ((wrap .i64 ((wrap .i64 (Int.tdiv fg 4)) * 4))+(Int.tmod (wrap .i64 (fg+1)) 4)))).bind λn2=>(bif ((wrap .i64 ((gt hZ n1)+(gt hZ n2))) != 3) then (some false) else (av.pl8189 F k hZ iN (wrap .i64 (fg+1))))) else (av.pj3 F hZ iN))
theorem av.l8189_P  :∀ k,av.S8189 H0 Ri R0  (av.l8189 F (di.tw F) (cJ.tw F) (cN.tw F) (cO.tw F) (bL.tw F)  k) (av.pl8189 F  k):=by
 intro k
 induction k with
 | zero=>unfold av.S8189;intros;rename_i hp;cases hp
 | succ k ih=>
  intro Fe wO Ff hZ Fg iN fg H Wy h0 r hp
  obtain ⟨w0,s0,wP⟩:=h0
  subst Wy
  unfold av.pl8189 at hp
  unfold av.l8189
  refine aB hp (λhp=>?_) λhp=>?_
  ·obtain ⟨n1,g1,hp⟩:=af hp
   obtain ⟨p1,q1,i1,h1,j1⟩:=W.ixo (E:=eI) w0 (i:=0) rfl rfl wP g1
   refine aj i1 ?_
   have h1:_=[_]:=h1
   subst h1
   refine aj (aC (j1 0 _ rfl)) ?_
   obtain ⟨n2,g2,hp⟩:=af hp
   obtain ⟨p2,q2,i2,h2,j2⟩:=W.ixo (E:=eI) w0 (i:=0) rfl rfl wP g2
   refine aj i2 ?_
   have h2:_=[_]:=h2
   subst h2
   refine aj (aC (j2 0 _ rfl)) ?_
   refine aB hp (λhp=>?_) λhp=>?_
   ·obtain ⟨w3,s3⟩:=w0.pp [] 1
    exact aE hp ⟨rfl,w3,(s0.trans s3),trivial⟩
   ·exact ih rfl ⟨w0,s0,wP⟩ hp
  ·exact av.j3_P rfl ⟨w0,s0,wP⟩ hp
def av.pj4 (F:Nat)  (sD:Yr) (gl:Int):Option (Bool):=av.pl8189 F F sD gl 0
theorem av.j4_P   {MR Fi MS sD MT gl} (Wz:Fi=sD.length) (h0:Out H0 Ri H (Rs.own ⟨MR,Fi,MS⟩ eI.z MT::R0) λR=>CR eI H R MT sD) {r:Bool} (hp:av.pj4 F  sD gl=some r):Rt (av.j4 F (di.tw F) (cJ.tw F) (cN.tw F) (cO.tw F) (bL.tw F)  ⟨MR,Fi,MS⟩ gl H) (av.Q H0 Ri R0  r):=by
 obtain ⟨w0,s0,WA⟩:=h0
 subst Wz
 unfold av.pj4 at hp
 unfold av.j4
 exact av.l8189_P F rfl ⟨w0,s0,WA⟩ hp
def av.pl4093 (F:Nat) :Nat->List (List Int)->List Int->List Int->Int->Int->Option (Bool)
 | 0,_,_,_,_,_=>none
 | k+1,mJ,pF,mK,iQ,iS=>(bif (decide (iS<(mJ.length:Int))) then (av.pl65493 F (av.pl4093 F k) F mJ pF mK iQ iS 0) else (av.pj4 F mK iQ))
theorem av.l4093_P  :∀ k,av.S4093 H0 Ri R0  (av.l4093 F (di.tw F) (cJ.tw F) (cN.tw F) (cO.tw F) (bL.tw F)  k) (av.pl4093 F  k):=by
 intro k
 induction k with
 | zero=>unfold av.S4093;intros;rename_i hp;cases hp
 | succ k ih=>
  intro EE EF EG wG wH wI EH EI EJ mJ EK EL EM pF mK iQ iS H WB WC WD h0 r hp
  obtain ⟨w0,s0,WE,WG,MU⟩:=h0
  subst WB
  subst WC
  subst WD
  unfold av.pl4093 at hp
  unfold av.l4093
  refine aB hp (λhp=>?_) λhp=>?_
  ·exact av.l65493_P (@ih) F rfl rfl rfl ⟨w0,s0,WE,WG,MU⟩ hp
  ·obtain ⟨w1,s1⟩:=w0.pp [2] 3
   exact av.j4_P rfl ⟨w1,(s0.trans s1),(MU.step s1)⟩ hp
def av.p (F:Nat) (ai:Yr):Option (Bool):=(di.p F ai).bind λr1=>(bif r1 then (some true) else ((cJ.p F ai).bind λr3=>(cN.p F r3.1 r3.2).bind λr9=>(cO.p F r3.1 r3.2).bind λr11=>(bL.p F r3.1 r3.2).bind λr13=>(bif (!r13) then ((bif (!r11.2) then (some ((r9.length:Int)==0)) else (some false))) else ((bif (!r11.2) then (some false) else ((bif ((r11.1.length:Int) != (r9.length:Int)) then (some false) else ((mkn (wrap .i64 (4 * (r3.1.length:Int))) (0:Int)).bind λl19=>av.pl4093 F F r9 r11.1 l19 0 0))))))))
theorem av.P {aG ay aH ai} (bg:ay=ai.length) (h0:Inn H R0 λR=>ROs (dk .u8) H R ⟨aG,ay,aH⟩ ai) {r:Bool} (hp:av.p F ai=some r):Rt (av.tw F ⟨aG,ay,aH⟩ H) (av.Q H R0 R0  r):=by
 obtain ⟨w0,aU⟩:=h0
 subst bg
 unfold av.p at hp
 unfold av.tw av.twX
 have s0:=w0.rf
 obtain ⟨r1,e1,hp⟩:=af hp
 refine aM (di.P rfl ⟨w0,aU⟩ e1) ?_
 rintro _ H2 ⟨rfl,w2,s2,_⟩
 refine br ?_
 refine aB hp (λhp=>?_) λhp=>?_
 ·exact aE hp ⟨rfl,w2,(s0.trans s2),trivial⟩
 ·obtain ⟨r3,e3,hp⟩:=af hp
  refine aM (cJ.P rfl ⟨w2,(aU.step s2)⟩ e3) ?_
  rintro _ H4 ⟨o0a_4,o0n_4,o0c_4,o0k_4,rfl,rfl,w4,s4,f4_0⟩
  refine br (br (br (br (br ?_))))
  refine aY w4 λH5 w5 s5=>?_
  refine ak w5 0 λH6 w6 s6=>?_
  refine ak w6 0 λH7 w7 s7=>?_
  refine lSl w7 0 ?_
  refine lI w7 0 ?_
  obtain ⟨w8,s8,f8⟩:=w7.frz (i:=1) (aa eI (aa eI (aa eI (aa eI eI)))) rfl (f4_0.step (s5.trans (s6.trans s7)))
  obtain ⟨r9,e9,hp⟩:=af hp
  refine aM (cN.P rfl ⟨w8,f8⟩ e9) ?_
  rintro _ H10 ⟨o0a_10,o0n_10,o0c_10,o0k_10,rfl,rfl,w10,s10,f10_0⟩
  refine br ?_
  refine lSl w10 1 ?_
  refine lI w10 1 ?_
  obtain ⟨r11,e11,hp⟩:=af hp
  refine aM (cO.P rfl ⟨w10,(f8.step s10)⟩ e11) ?_
  rintro _ H12 ⟨o0a_12,o0n_12,o0c_12,o0k_12,rfl,rfl,w12,s12,f12_0⟩
  refine br (br (br (br (br ?_))))
  refine lSl w12 2 ?_
  refine lI w12 2 ?_
  obtain ⟨r13,e13,hp⟩:=af hp
  refine aM (bL.P rfl ⟨w12,(f8.step (s10.trans s12))⟩ e13) ?_
  rintro _ H14 ⟨rfl,w14,s14,_⟩
  refine br ?_
  refine aB hp (λhp=>?_) λhp=>?_
  ·refine aB hp (λhp=>?_) λhp=>?_
   ·obtain ⟨w15,s15⟩:=w14.pp [] 3
    exact aE hp ⟨rfl,w15,(s0.trans (s2.trans (s4.trans (s5.trans (s6.trans (s7.trans (s8.trans (s10.trans (s12.trans (s14.trans s15)))))))))),trivial⟩
   ·obtain ⟨w16,s16⟩:=w14.pp [] 3
    exact aE hp ⟨rfl,w16,(s0.trans (s2.trans (s4.trans (s5.trans (s6.trans (s7.trans (s8.trans (s10.trans (s12.trans (s14.trans s16)))))))))),trivial⟩
  ·refine aB hp (λhp=>?_) λhp=>?_
   ·obtain ⟨w17,s17⟩:=w14.pp [] 3
    exact aE hp ⟨rfl,w17,(s0.trans (s2.trans (s4.trans (s5.trans (s6.trans (s7.trans (s8.trans (s10.trans (s12.trans (s14.trans s17)))))))))),trivial⟩
   ·refine aB hp (λhp=>?_) λhp=>?_
    ·obtain ⟨w18,s18⟩:=w14.pp [] 3
     exact aE hp ⟨rfl,w18,(s0.trans (s2.trans (s4.trans (s5.trans (s6.trans (s7.trans (s8.trans (s10.trans (s12.trans (s14.trans s18)))))))))),trivial⟩
    ·refine lSl w14 2 ?_
     obtain ⟨l19,e19,hp⟩:=af hp
     refine jN eI (0:Int) w14 rfl rfl rfl e19 λH20 k20 w20 s20 c20=>?_
     obtain ⟨w21,s21⟩:=w20.pp [2,1,0] 4
     exact av.l4093_P F rfl rfl rfl ⟨w21,(s0.trans (s2.trans (s4.trans (s5.trans (s6.trans (s7.trans (s8.trans (s10.trans (s12.trans (s14.trans (s20.trans s21))))))))))),(f10_0.step (s12.trans (s14.trans (s20.trans s21)))),(f12_0.step (s14.trans (s20.trans s21))),(c20.step s21)⟩ hp
end
end Go.Proofs.Ytodfdhnlhiaohaa.AE
