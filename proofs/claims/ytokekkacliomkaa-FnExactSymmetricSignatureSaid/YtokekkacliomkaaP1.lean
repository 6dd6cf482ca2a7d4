import Derived.Test.YtokekkacliomkaaT1
import Derived.Test.YtokekkacliomkaaE2
set_option linter.unusedVariables false
set_option linter.unusedSimpArgs false
namespace Go.Proofs.Ytokekkacliomkaa.AE
open Go Go.AE Go.Proofs IntKind
set_option linter.unusedVariables false
variable {F:Nat} {H H0:Hp} {Ri R0:aaZ}
set_option maxHeartbeats 4000000
set_option maxRecDepth 100000
noncomputable section
theorem bZ.inl {aa:Int} {ac:Int} {ar:Sl} {aC:Int} {cp:Int} {K:AV×Hp->OA} {Q:AV->Hp->Prop} (h:∃ u H1,((Hp.new H [(.i aa),(.i ac),(.sl ar)]).bind λH6=>(Hp.ldSl H6 H.length 2).bind λs7=>(Hp.ldI H6 .i64 H.length 1).bind λn8=>(Sl.idx s7 (wrap .i64 ((wrap .i64 (aC * n8))+cp)) 1).bind λp9=>some ((.ptr p9.1 p9.2),H6))=some (u,H1)/\∃ v H',K (u,H1)=some (v,H')/\Q v H'):∃ v H',(bZ.tw F aa ac ar aC cp H).bind K=some (v,H')/\Q v H':=Y_ h
def dO.Q (H0:Hp) (Ri R0:aaZ)  (r:Int) (v:AV) (H':Hp):Prop:=v=(.i r)/\Out H0 Ri H' (R0) λR=>True
def dO.p (F:Nat) (aV:aaX) (aI:Int):Option (Int):=(bif (decide ((wrap .i64 (aI - (aV.length:Int)))<0)) then (some (-1)) else (some (wrap .i64 (aI - (aV.length:Int)))))
theorem dO.P {dd ci de aV aI} (eB:ci=aV.length) (h0:Inn H R0 λR=>ROs eI H R ⟨dd,ci,de⟩ aV) {r:Int} (hp:dO.p F aV aI=some r):Rt (dO.tw F ⟨dd,ci,de⟩ aI H) (dO.Q H R0 R0  r):=by
 obtain ⟨w0,fg⟩:=h0
 subst eB
 unfold dO.p at hp
 unfold dO.tw dO.twX
 have s0:=w0.rf
 refine aL hp (λhp=>?_) λhp=>?_
 ·exact aM hp ⟨rfl,w0,s0,trivial⟩
 ·exact aM hp ⟨rfl,w0,s0,trivial⟩
def df.Q (H0:Hp) (Ri R0:aaZ)  (r:Int) (v:AV) (H':Hp):Prop:=v=(.i r)/\Out H0 Ri H' (R0) λR=>True
def df.p (F:Nat) (ak:aaX) (aC:Int):Option (Int):=(dO.p F ak aC).bind λr2=>(bif (decide (r2<0)) then (some (-1)) else (some r2))
theorem df.P {aa ac aC aZ aH a_ ak} (bO:aH=ak.length) (h0:Inn H R0 λR=>ROs eI H R ⟨aZ,aH,a_⟩ ak) {r:Int} (hp:df.p F ak aC=some r):Rt (df.tw F aa ac ⟨aZ,aH,a_⟩ aC H) (df.Q H R0 R0  r):=by
 obtain ⟨w0,bj⟩:=h0
 subst bO
 unfold df.p at hp
 unfold df.tw df.twX
 have s0:=w0.rf
 refine bI w0 λH1 w1 s1=>?_
 refine lSl w1 0 ?_
 obtain ⟨r2,e2,hp⟩:=ah hp
 refine bf (dO.P rfl ⟨w1,(bj.step s1)⟩ e2) ?_
 rintro _ H3 ⟨rfl,w3,s3,_⟩
 refine br ?_
 refine aL hp (λhp=>?_) λhp=>?_
 ·obtain ⟨w4,s4⟩:=w3.pp [] 1
  exact aM hp ⟨rfl,w4,(s0.trans (s1.trans (s3.trans s4))),trivial⟩
 ·obtain ⟨w5,s5⟩:=w3.pp [] 1
  exact aM hp ⟨rfl,w5,(s0.trans (s1.trans (s3.trans s5))),trivial⟩
def bG.Q (H0:Hp) (Ri R0:aaZ)  (r:aaX) (v:AV) (H':Hp):Prop:=∃ o0a:ON,∃ o0n:Nat,∃ o0c:Cap,∃ o0k:List AV,v=(.sl ⟨o0a,o0n,o0c⟩)/\o0n=(r).length/\Out H0 Ri H' (Rs.own ⟨o0a,o0n,o0c⟩ eI.z o0k::R0) λR=>CR eI H' R o0k (r)
def bG.S29 (H0:Hp) (Ri R0:aaZ)  (C:abA) (pC:List Int->List Int->Int->Option (List Int)):Prop:=∀ {iL zM fz vO iM zN cS kO zO eP},∀ {H:Hp},fz=cS.length->vO=kO.length->(Out H0 Ri H (Rs.own ⟨zM,vO,zN⟩ eI.z zO::R0) λR=>ROs eI H R ⟨iL,fz,iM⟩ cS/\CR eI H R zO kO)->∀ {r:aaX},pC cS kO eP=some r->Rt (C ⟨iL,fz,iM⟩ ⟨zM,vO,zN⟩ eP H) (bG.Q H0 Ri R0  r)
def bG.pl29 (F:Nat) :Nat->List Int->List Int->Int->Option (List Int)
 | 0,_,_,_=>none
 | k+1,cS,kO,eP=>(bif (decide (eP<(cS.length:Int))) then ((ix cS eP).bind λn1=>(ix kO eP).bind λn2=>(some (kO.set n2 (gt cS n1))).bind λl3=>bG.pl29 F k cS l3 (wrap .i64 (eP+1))) else (some kO))
theorem bG.l29_P  :∀ k,bG.S29 H0 Ri R0  (bG.l29 F   k) (bG.pl29 F  k):=by
 intro k
 induction k with
 | zero=>unfold bG.S29;intros;rename_i hp;cases hp
 | succ k ih=>
  intro iL zM fz vO iM zN cS kO zO eP H rC QI h0 r hp
  obtain ⟨w0,s0,kP,zP⟩:=h0
  subst rC
  subst QI
  unfold bG.pl29 at hp
  unfold bG.l29
  refine aL hp (λhp=>?_) λhp=>?_
  ·obtain ⟨n1,g1,hp⟩:=ah hp
   obtain ⟨p1,q1,i1,h1,j1⟩:=ROs.ixr kP rfl g1
   refine aP i1 ?_
   have h1:_=[_]:=h1
   subst h1
   refine aP (cU (j1 0 _ rfl)) ?_
   obtain ⟨n2,g2,hp⟩:=ah hp
   obtain ⟨p2,q2,i2,h2,j2⟩:=W.ixo (E:=eI) w0 (i:=0) rfl rfl zP g2
   refine aP i2 ?_
   obtain ⟨l3,e3,hp⟩:=ah hp
   refine gn eI w0 (i:=0) (j:=0) (p:=p2) rfl rfl zP g2 i2 e3 rfl rfl (λ_ h=>by have h:_=[_]:=h;subst h;exact rfl) λH4 k4 w4 s4 c4=>?_
   exact ih rfl ((gp e3).symm) ⟨w4,(s0.trans s4),(kP.step s4),c4⟩ hp
  ·exact aM hp ⟨_,_,_,_,rfl,rfl,w0,s0,zP⟩
def bG.p (F:Nat) (aV:aaX):Option (List Int):=(mkn (aV.length:Int) (0:Int)).bind λl1=>bG.pl29 F F aV l1 0
theorem bG.P {dd ci de aV} (eB:ci=aV.length) (h0:Inn H R0 λR=>ROs eI H R ⟨dd,ci,de⟩ aV) {r:aaX} (hp:bG.p F aV=some r):Rt (bG.tw F ⟨dd,ci,de⟩ H) (bG.Q H R0 R0  r):=by
 obtain ⟨w0,fg⟩:=h0
 subst eB
 unfold bG.p at hp
 unfold bG.tw bG.twX
 have s0:=w0.rf
 obtain ⟨l1,e1,hp⟩:=ah hp
 refine ub eI (0:Int) w0 rfl rfl rfl e1 λH2 k2 w2 s2 c2=>?_
 exact bG.l29_P F rfl rfl ⟨w2,(s0.trans s2),(fg.step s2),c2⟩ hp
def cG.Q (H0:Hp) (Ri R0:aaZ)  (r:aa5) (v:AV) (H':Hp):Prop:=∃ o2a:ON,∃ o2n:Nat,∃ o2c:Cap,∃ o2k:List AV,v=(.agg [(.i r.1),(.i r.2.1),(.sl ⟨o2a,o2n,o2c⟩)])/\o2n=(r.2.2).length/\Out H0 Ri H' (Rs.own ⟨o2a,o2n,o2c⟩ eI.z o2k::R0) λR=>CR eI H' R o2k (r.2.2)
def cG.p (F:Nat) (aa:Int) (ac:Int) (ak:aaX):Option (Int×Int×List Int):=(bG.p F ak).bind λr6=>some (aa,ac,r6)
theorem cG.P {aa ac aZ aH a_ ak} (bO:aH=ak.length) (h0:Inn H R0 λR=>ROs eI H R ⟨aZ,aH,a_⟩ ak) {r:aa5} (hp:cG.p F aa ac ak=some r):Rt (cG.tw F aa ac ⟨aZ,aH,a_⟩ H) (cG.Q H R0 R0  r):=by
 obtain ⟨w0,bj⟩:=h0
 subst bO
 unfold cG.p at hp
 unfold cG.tw cG.twX
 have s0:=w0.rf
 refine bI w0 λH1 w1 s1=>?_
 refine bI w1 λH2 w2 s2=>?_
 refine bI w2 λH3 w3 s3=>?_
 refine lI w3 2 ?_
 refine bu w3 0 λH4 w4 s4=>?_
 refine lI w4 2 ?_
 refine bu w4 0 λH5 w5 s5=>?_
 refine lSl w5 2 ?_
 obtain ⟨r6,e6,hp⟩:=ah hp
 refine bf (bG.P rfl ⟨w5,(bj.step (s1.trans (s2.trans (s3.trans (s4.trans s5)))))⟩ e6) ?_
 rintro _ H7 ⟨o0a_7,o0n_7,o0c_7,o0k_7,rfl,rfl,w7,s7,f7_0⟩
 refine br ?_
 refine bu w7 1 λH8 w8 s8=>?_
 refine lI w8 1 ?_
 refine lI w8 1 ?_
 refine lSl w8 1 ?_
 refine bu w8 2 λH9 w9 s9=>?_
 refine bu w9 2 λH10 w10 s10=>?_
 refine bu w10 2 λH11 w11 s11=>?_
 refine lI w11 2 ?_
 refine lI w11 2 ?_
 refine lSl w11 2 ?_
 obtain ⟨w12,s12⟩:=w11.pp [0] 4
 exact aM hp ⟨_,_,_,_,rfl,rfl,w12,(s0.trans (s1.trans (s2.trans (s3.trans (s4.trans (s5.trans (s7.trans (s8.trans (s9.trans (s10.trans (s11.trans s12))))))))))),(f7_0.step (s8.trans (s9.trans (s10.trans (s11.trans s12)))))⟩
def c_.Q (H0:Hp) (Ri R0:aaZ)  (r:Bool) (v:AV) (H':Hp):Prop:=v=(.bool r)/\Out H0 Ri H' (R0) λR=>True
def c_.p (F:Nat) (aa:Int) (aI:Int) (di:Int):Option (Bool):=(bif (decide (aa>=aI)) then (some (decide (aa<=di))) else (some false))
theorem c_.P {aa aI di}  (h0:Inn H R0 λR=>True) {r:Bool} (hp:c_.p F aa aI di=some r):Rt (c_.tw F aa aI di H) (c_.Q H R0 R0  r):=by
 obtain ⟨w0,_⟩:=h0
 unfold c_.p at hp
 unfold c_.tw c_.twX
 have s0:=w0.rf
 refine aL hp (λhp=>?_) λhp=>?_
 ·exact aM hp ⟨rfl,w0,s0,trivial⟩
 ·exact aM hp ⟨rfl,w0,s0,trivial⟩
def aY.Q (H0:Hp) (Ri R0:aaZ)  (r:Bool) (v:AV) (H':Hp):Prop:=v=(.bool r)/\Out H0 Ri H' (R0) λR=>True
def aY.S29 (H0:Hp) (Ri R0:aaZ)  (C:Nat->Nat->Int->Hp->OA) (pC:List Int->Int->Option (Bool)):Prop:=∀ {GR GS fH zQ vP jz zR jK},∀ {H:Hp},vP=jK.length->(Out H0 Ri H (Rs.blk jz [.i GR,.i GS,.sl ⟨zQ,vP,zR⟩]::R0) λR=>ROs eI H R ⟨zQ,vP,zR⟩ jK)->∀ {r:Bool},pC jK fH=some r->Rt (C jz 0 fH H) (aY.Q H0 Ri R0  r)
def aY.pl29 (F:Nat) :Nat->List Int->Int->Option (Bool)
 | 0,_,_=>none
 | k+1,jK,fH=>(bif (decide (fH<(jK.length:Int))) then ((ix jK fH).bind λn1=>(c_.p F (gt jK n1) (-1000000000000) 1000000000000).bind λr2=>(bif (!r2) then (some false) else (aY.pl29 F k jK (wrap .i64 (fH+1))))) else (some true))
theorem aY.l29_P  :∀ k,aY.S29 H0 Ri R0  (aY.l29 F (c_.tw F)  k) (aY.pl29 F  k):=by
 intro k
 induction k with
 | zero=>unfold aY.S29;intros;rename_i hp;cases hp
 | succ k ih=>
  intro GR GS fH zQ vP jz zR jK H QJ h0 r hp
  obtain ⟨w0,s0,GT⟩:=h0
  subst QJ
  unfold aY.pl29 at hp
  unfold aY.l29
  refine lSl w0 0 ?_
  refine aL hp (λhp=>?_) λhp=>?_
  ·refine lSl w0 0 ?_
   obtain ⟨n1,g1,hp⟩:=ah hp
   obtain ⟨p1,q1,i1,h1,j1⟩:=ROs.ixr GT rfl g1
   refine aP i1 ?_
   have h1:_=[_]:=h1
   subst h1
   refine aP (cU (j1 0 _ rfl)) ?_
   obtain ⟨r2,e2,hp⟩:=ah hp
   refine bf (c_.P ⟨w0,trivial⟩ e2) ?_
   rintro _ H3 ⟨rfl,w3,s3,_⟩
   refine br ?_
   refine aL hp (λhp=>?_) λhp=>?_
   ·obtain ⟨w4,s4⟩:=w3.pp [] 1
    exact aM hp ⟨rfl,w4,(s0.trans (s3.trans s4)),trivial⟩
   ·exact ih rfl ⟨w3,(s0.trans s3),(GT.step s3)⟩ hp
  ·obtain ⟨w5,s5⟩:=w0.pp [] 1
   exact aM hp ⟨rfl,w5,(s0.trans s5),trivial⟩
def aY.p (F:Nat) (aa:Int) (ac:Int) (ak:aaX):Option (Bool):=(c_.p F aa 0 48).bind λr2=>(bif (!r2) then (some false) else ((c_.p F ac 0 48).bind λr5=>(bif (!r5) then (some false) else ((bif ((ak.length:Int) != (wrap .i64 (aa * ac))) then (some false) else (aY.pl29 F F ak 0))))))
theorem aY.P {aa ac aZ aH a_ ak} (bO:aH=ak.length) (h0:Inn H R0 λR=>ROs eI H R ⟨aZ,aH,a_⟩ ak) {r:Bool} (hp:aY.p F aa ac ak=some r):Rt (aY.tw F aa ac ⟨aZ,aH,a_⟩ H) (aY.Q H R0 R0  r):=by
 obtain ⟨w0,bj⟩:=h0
 subst bO
 unfold aY.p at hp
 unfold aY.tw aY.twX
 have s0:=w0.rf
 refine bI w0 λH1 w1 s1=>?_
 refine lI w1 0 ?_
 obtain ⟨r2,e2,hp⟩:=ah hp
 refine bf (c_.P ⟨w1,trivial⟩ e2) ?_
 rintro _ H3 ⟨rfl,w3,s3,_⟩
 refine br ?_
 refine aL hp (λhp=>?_) λhp=>?_
 ·obtain ⟨w4,s4⟩:=w3.pp [] 1
  exact aM hp ⟨rfl,w4,(s0.trans (s1.trans (s3.trans s4))),trivial⟩
 ·refine lI w3 0 ?_
  obtain ⟨r5,e5,hp⟩:=ah hp
  refine bf (c_.P ⟨w3,trivial⟩ e5) ?_
  rintro _ H6 ⟨rfl,w6,s6,_⟩
  refine br ?_
  refine aL hp (λhp=>?_) λhp=>?_
  ·obtain ⟨w7,s7⟩:=w6.pp [] 1
   exact aM hp ⟨rfl,w7,(s0.trans (s1.trans (s3.trans (s6.trans s7)))),trivial⟩
  ·refine lSl w6 0 ?_
   refine lI w6 0 ?_
   refine lI w6 0 ?_
   refine aL hp (λhp=>?_) λhp=>?_
   ·obtain ⟨w8,s8⟩:=w6.pp [] 1
    exact aM hp ⟨rfl,w8,(s0.trans (s1.trans (s3.trans (s6.trans s8)))),trivial⟩
   ·exact aY.l29_P F rfl ⟨w6,(s0.trans (s1.trans (s3.trans s6))),(bj.step (s1.trans (s3.trans s6)))⟩ hp
def bS.Q (H0:Hp) (Ri R0:aaZ)  (r:aa5) (v:AV) (H':Hp):Prop:=∃ o2a:ON,∃ o2n:Nat,∃ o2k:List AV,v=(.agg [(.i r.1),(.i r.2.1),(.sl ⟨o2a,o2n,.ex o2n⟩)])/\o2n=(r.2.2).length/\Out H0 Ri H' (Rs.own ⟨o2a,o2n,.ex o2n⟩ eI.z o2k::R0) λR=>CR eI H' R o2k (r.2.2)
def bS.p (F:Nat) (aa:Int) (aI:Int):Option (Int×Int×List Int):=(mkn (wrap .i64 (aa * aI)) (0:Int)).bind λl2=>some (aa,aI,l2)
theorem bS.P {aa aI}  (h0:Inn H R0 λR=>True) {r:aa5} (hp:bS.p F aa aI=some r):Rt (bS.tw F aa aI H) (bS.Q H R0 R0  r):=by
 obtain ⟨w0,_⟩:=h0
 unfold bS.p at hp
 unfold bS.tw bS.twX
 have s0:=w0.rf
 refine bI w0 λH1 w1 s1=>?_
 obtain ⟨l2,e2,hp⟩:=ah hp
 refine ub eI (0:Int) w1 rfl rfl rfl e2 λH3 k3 w3 s3 c3=>?_
 refine bu w3 1 λH4 w4 s4=>?_
 refine bu w4 1 λH5 w5 s5=>?_
 refine bu w5 1 λH6 w6 s6=>?_
 refine lI w6 1 ?_
 refine lI w6 1 ?_
 refine lSl w6 1 ?_
 obtain ⟨w7,s7⟩:=w6.pp [0] 2
 exact aM hp ⟨_,_,_,rfl,rfl,w7,(s0.trans (s1.trans (s3.trans (s4.trans (s5.trans (s6.trans s7)))))),(c3.step (s4.trans (s5.trans (s6.trans s7))))⟩
def aE.Q (H0:Hp) (Ri R0:aaZ)  (r:Int) (v:AV) (H':Hp):Prop:=v=(.i r)/\Out H0 Ri H' (R0) λR=>True
def aE.p (F:Nat) (ac:Int) (ak:aaX) (aC:Int) (cp:Int):Option (Int):=(ix ak (wrap .i64 ((wrap .i64 (aC * ac))+cp))).bind λn2=>some (gt ak n2)
theorem aE.P {aa ac aC cp aZ aH a_ ak} (bO:aH=ak.length) (h0:Inn H R0 λR=>ROs eI H R ⟨aZ,aH,a_⟩ ak) {r:Int} (hp:aE.p F ac ak aC cp=some r):Rt (aE.tw F aa ac ⟨aZ,aH,a_⟩ aC cp H) (aE.Q H R0 R0  r):=by
 obtain ⟨w0,bj⟩:=h0
 subst bO
 unfold aE.p at hp
 unfold aE.tw aE.twX
 have s0:=w0.rf
 refine bI w0 λH1 w1 s1=>?_
 refine lSl w1 0 ?_
 refine lI w1 0 ?_
 obtain ⟨n2,g2,hp⟩:=ah hp
 obtain ⟨p2,q2,i2,h2,j2⟩:=ROs.ixr (bj.step s1) rfl g2
 refine aP i2 ?_
 have h2:_=[_]:=h2
 subst h2
 refine aP (cU (j2 0 _ rfl)) ?_
 obtain ⟨w3,s3⟩:=w1.pp [] 1
 exact aM hp ⟨rfl,w3,(s0.trans (s1.trans s3)),trivial⟩
def av.Q (H0:Hp) (Ri R0:aaZ)  (r:aa5) (v:AV) (H':Hp):Prop:=∃ o2a:ON,∃ o2n:Nat,∃ o2c:Cap,∃ o2k:List AV,v=(.agg [(.i r.1),(.i r.2.1),(.sl ⟨o2a,o2n,o2c⟩)])/\o2n=(r.2.2).length/\Out H0 Ri H' (Rs.own ⟨o2a,o2n,o2c⟩ eI.z o2k::R0) λR=>CR eI H' R o2k (r.2.2)
def av.S61 (H0:Hp) (Ri R0:aaZ)  (C:abj) (pC:abo):Prop:=∀ {qd rD GU GV qe qf gI zS zT zU vQ kl vR fK vS jd zV zW zX qg zY md zZ z_},∀ {H:Hp},vQ=qg.length->vR=zY.length->vS=md.length->(Out H0 Ri H (Rs.blk kl [.i qd,.i rD,.sl ⟨zS,vQ,zV⟩]::Rs.own ⟨zT,vR,zW⟩ eI.z zZ::Rs.blk fK [.i GU,.i GV,.sl ⟨zT,vR,zW⟩]::Rs.own ⟨zU,vS,zX⟩ eI.z z_::Rs.blk jd [.i qe,.i qf,.sl ⟨zU,vS,zX⟩]::R0) λR=>ROs eI H R ⟨zS,vQ,zV⟩ qg/\CR eI H R zZ zY/\CR eI H R z_ md)->∀ {r:aa5},pC qd rD qg qe qf md gI=some r->Rt (C kl 0 fK 0 jd 0 gI H) (av.Q H0 Ri R0  r)
def av.S981 (H0:Hp) (Ri R0:aaZ)  (C:abg) (pC:Int->Int->List Int->Int->Int->List Int->Int->Int->Option (Int×Int×List Int)):Prop:=∀ {mf kQ GW GX qh qi eQ eR Aa Ab Ac vT fI vU kj vV jB Ad Ae Af kR Ag kS Ah Ai},∀ {H:Hp},vT=kR.length->vU=Ag.length->vV=kS.length->(Out H0 Ri H (Rs.blk fI [.i mf,.i kQ,.sl ⟨Aa,vT,Ad⟩]::Rs.own ⟨Ab,vU,Ae⟩ eI.z Ah::Rs.blk kj [.i GW,.i GX,.sl ⟨Ab,vU,Ae⟩]::Rs.own ⟨Ac,vV,Af⟩ eI.z Ai::Rs.blk jB [.i qh,.i qi,.sl ⟨Ac,vV,Af⟩]::R0) λR=>ROs eI H R ⟨Aa,vT,Ad⟩ kR/\CR eI H R Ah Ag/\CR eI H R Ai kS)->∀ {r:aa5},pC mf kQ kR qh qi kS eQ eR=some r->Rt (C fI 0 kj 0 jB 0 eQ eR H) (av.Q H0 Ri R0  r)
def av.pj3 (F:Nat) (cx:abo) (vW:Int) (vX:Int) (rE:aaX) (vY:Int) (vZ:Int) (rF:aaX) (nm:Int):Option (Int×Int×List Int):=cx vW vX rE vY vZ rF (wrap .i64 (nm+1))
theorem av.j3_P  {C61_:abj} {cx:abo} (hC61:av.S61 H0 Ri R0  C61_ cx) {vW vX QK QL vY vZ nm GY GZ G_ Aj ur Ak ut Al uu Ha Hb Hc rE Hd rF He Hf} (QM:Aj=rE.length) (QN:Ak=Hd.length) (QO:Al=rF.length) (h0:Out H0 Ri H (Rs.blk ur [.i vW,.i vX,.sl ⟨GY,Aj,Ha⟩]::Rs.own ⟨GZ,Ak,Hb⟩ eI.z He::Rs.blk ut [.i QK,.i QL,.sl ⟨GZ,Ak,Hb⟩]::Rs.own ⟨G_,Al,Hc⟩ eI.z Hf::Rs.blk uu [.i vY,.i vZ,.sl ⟨G_,Al,Hc⟩]::R0) λR=>ROs eI H R ⟨GY,Aj,Ha⟩ rE/\CR eI H R He Hd/\CR eI H R Hf rF) {r:aa5} (hp:av.pj3 F cx vW vX rE vY vZ rF nm=some r):Rt (av.j3 F (aY.tw F) (bS.tw F) (aE.tw F) C61_ ur 0 ut 0 uu 0 nm H) (av.Q H0 Ri R0  r):=by
 obtain ⟨w0,s0,QP,QQ,QR⟩:=h0
 subst QM
 subst QN
 subst QO
 unfold av.pj3 at hp
 unfold av.j3
 exact hC61 rfl rfl rfl ⟨w0,s0,QP,QQ,QR⟩ hp
def av.pj4 (F:Nat) (cx:abo) (v_:Int) (wa:Int) (rG:aaX) (wb:Int) (wc:Int) (rH:aaX) (nn:Int):Option (Int×Int×List Int):=av.pj3 F cx v_ wa rG wb wc rH nn
theorem av.j4_P  {C61_:abj} {cx:abo} (hC61:av.S61 H0 Ri R0  C61_ cx) {v_ wa QT QU wb wc nn Hg Hh Hj Am uv An uw Ao ux Hk Hl Hm rG Hn rH Ho Hq} (QV:Am=rG.length) (QW:An=Hn.length) (QX:Ao=rH.length) (h0:Out H0 Ri H (Rs.blk uv [.i v_,.i wa,.sl ⟨Hg,Am,Hk⟩]::Rs.own ⟨Hh,An,Hl⟩ eI.z Ho::Rs.blk uw [.i QT,.i QU,.sl ⟨Hh,An,Hl⟩]::Rs.own ⟨Hj,Ao,Hm⟩ eI.z Hq::Rs.blk ux [.i wb,.i wc,.sl ⟨Hj,Ao,Hm⟩]::R0) λR=>ROs eI H R ⟨Hg,Am,Hk⟩ rG/\CR eI H R Ho Hn/\CR eI H R Hq rH) {r:aa5} (hp:av.pj4 F cx v_ wa rG wb wc rH nn=some r):Rt (av.j4 F (aY.tw F) (bS.tw F) (aE.tw F) C61_ uv 0 uw 0 ux 0 nn H) (av.Q H0 Ri R0  r):=by
 obtain ⟨w0,s0,QY,QZ,Q_⟩:=h0
 subst QV
 subst QW
 subst QX
 unfold av.pj4 at hp
 unfold av.j4
 exact av.j3_P (@hC61) rfl rfl rfl ⟨w0,s0,QY,QZ,Q_⟩ hp
def av.pl981 (F:Nat) (cx:abo):Nat->Int->Int->List Int->Int->Int->List Int->Int->Int->Option (Int×Int×List Int)
 | 0,_,_,_,_,_,_,_,_=>none
 | k+1,mf,kQ,kR,qh,qi,kS,eQ,eR=>(bif (decide (eR<kQ)) then ((aE.p F kQ kR eQ eR).bind λr1=>(ix kS (wrap .i64 ((wrap .i64 (eR * mf))+eQ))).bind λn4=>(some (kS.set n4 r1)).bind λl5=>av.pl981 F cx k mf kQ kR qh qi l5 eQ (wrap .i64 (eR+1))) else (av.pj4 F cx mf kQ kR qh qi kS eQ))
theorem av.l981_P  {C61_:abj} {cx:abo} (hC61:av.S61 H0 Ri R0  C61_ cx):∀ k,av.S981 H0 Ri R0  (av.l981 F (aY.tw F) (bS.tw F) (aE.tw F) C61_ k) (av.pl981 F cx k):=by
 intro k
 induction k with
 | zero=>unfold av.S981;intros;rename_i hp;cases hp
 | succ k ih=>
  intro mf kQ GW GX qh qi eQ eR Aa Ab Ac vT fI vU kj vV jB Ad Ae Af kR Ag kS Ah Ai H Ra Rc Rd h0 r hp
  obtain ⟨w0,s0,Ap,Hr,Aq⟩:=h0
  subst Ra
  subst Rc
  subst Rd
  unfold av.pl981 at hp
  unfold av.l981
  refine lI w0 0 ?_
  refine aL hp (λhp=>?_) λhp=>?_
  ·refine lSl w0 4 ?_
   refine lI w0 0 ?_
   refine lI w0 0 ?_
   refine lI w0 0 ?_
   refine lSl w0 0 ?_
   obtain ⟨r1,e1,hp⟩:=ah hp
   refine bf (aE.P rfl ⟨w0,Ap⟩ e1) ?_
   rintro _ H2 ⟨rfl,w2,s2,_⟩
   refine br ?_
   refine dW (W.cons_of (Rn:=[]) w0 w2 s2) ?_
   obtain ⟨n4,g4,hp⟩:=ah hp
   obtain ⟨p4,q4,i4,h4,j4⟩:=W.ixo (E:=eI) w2 (i:=3) rfl rfl (Aq.step s2) g4
   refine aP i4 ?_
   obtain ⟨l5,e5,hp⟩:=ah hp
   refine gn eI w2 (i:=3) (j:=0) (p:=p4) rfl rfl (Aq.step s2) g4 i4 e5 rfl rfl (λ_ h=>by have h:_=[_]:=h;subst h;exact rfl) λH6 k6 w6 s6 c6=>?_
   exact ih rfl rfl ((gp e5).symm) ⟨w6,(s0.trans (s2.trans s6)),(Ap.step (s2.trans s6)),(Hr.step (s2.trans s6)),c6⟩ hp
  ·exact av.j4_P (@hC61) rfl rfl rfl ⟨w0,s0,Ap,Hr,Aq⟩ hp
def av.pl61 (F:Nat) :Nat->Int->Int->List Int->Int->Int->List Int->Int->Option (Int×Int×List Int)
 | 0,_,_,_,_,_,_,_=>none
 | k+1,qd,rD,qg,qe,qf,md,gI=>(bif (decide (gI<qd)) then (av.pl981 F (av.pl61 F k) F qd rD qg qe qf md gI 0) else (some (qe,qf,md)))
theorem av.l61_P  :∀ k,av.S61 H0 Ri R0  (av.l61 F (aY.tw F) (bS.tw F) (aE.tw F)  k) (av.pl61 F  k):=by
 intro k
 induction k with
 | zero=>unfold av.S61;intros;rename_i hp;cases hp
 | succ k ih=>
  intro qd rD GU GV qe qf gI zS zT zU vQ kl vR fK vS jd zV zW zX qg zY md zZ z_ H Re Rf Rg h0 r hp
  obtain ⟨w0,s0,Rh,Rj,Hs⟩:=h0
  subst Re
  subst Rf
  subst Rg
  unfold av.pl61 at hp
  unfold av.l61
  refine lI w0 0 ?_
  refine aL hp (λhp=>?_) λhp=>?_
  ·exact av.l981_P (@ih) F rfl rfl rfl ⟨w0,s0,Rh,Rj,Hs⟩ hp
  ·refine lI w0 4 ?_
   refine lI w0 4 ?_
   refine lSl w0 4 ?_
   refine bu w0 2 λH1 w1 s1=>?_
   refine bu w1 2 λH2 w2 s2=>?_
   refine bu w2 2 λH3 w3 s3=>?_
   refine lI w3 2 ?_
   refine lI w3 2 ?_
   refine lSl w3 2 ?_
   obtain ⟨w4,s4⟩:=w3.pp [3] 5
   exact aM hp ⟨_,_,_,_,rfl,rfl,w4,(s0.trans (s1.trans (s2.trans (s3.trans s4)))),(Hs.step (s1.trans (s2.trans (s3.trans s4))))⟩
def av.p (F:Nat) (aa:Int) (ac:Int) (ak:aaX):Option (Int×Int×List Int):=(aY.p F aa ac ak).bind λr3=>(bif (!r3) then (some (0,0,([]:List Int))) else ((bS.p F ac aa).bind λr10=>av.pl61 F F aa ac ak r10.1 r10.2.1 r10.2.2 0))
theorem av.P {aa ac aZ aH a_ ak} (bO:aH=ak.length) (h0:Inn H R0 λR=>ROs eI H R ⟨aZ,aH,a_⟩ ak) {r:aa5} (hp:av.p F aa ac ak=some r):Rt (av.tw F aa ac ⟨aZ,aH,a_⟩ H) (av.Q H R0 R0  r):=by
 obtain ⟨w0,bj⟩:=h0
 subst bO
 unfold av.p at hp
 unfold av.tw av.twX
 have s0:=w0.rf
 refine bI w0 λH1 w1 s1=>?_
 refine bI w1 λH2 w2 s2=>?_
 refine lI w2 1 ?_
 refine lI w2 1 ?_
 refine lSl w2 1 ?_
 obtain ⟨r3,e3,hp⟩:=ah hp
 refine bf (aY.P rfl ⟨w2,(bj.step (s1.trans s2))⟩ e3) ?_
 rintro _ H4 ⟨rfl,w4,s4,_⟩
 refine br ?_
 refine aL hp (λhp=>?_) λhp=>?_
 ·refine bu w4 0 λH5 w5 s5=>?_
  refine bu w5 0 λH6 w6 s6=>?_
  refine bu w6 0 λH7 w7 s7=>?_
  refine lI w7 0 ?_
  refine lI w7 0 ?_
  refine lSl w7 0 ?_
  obtain ⟨w8,s8⟩:=w7.nilS eI.z (by decide)
  obtain ⟨w9,s9⟩:=w8.pp [0] 3
  exact aM hp ⟨_,_,_,_,rfl,rfl,w9,(s0.trans (s1.trans (s2.trans (s4.trans (s5.trans (s6.trans (s7.trans (s8.trans s9)))))))),((CR.empty:CR eI _ _ [] []).step s9)⟩
 ·refine lI w4 1 ?_
  refine lI w4 1 ?_
  obtain ⟨r10,e10,hp⟩:=ah hp
  refine bf (bS.P ⟨w4,trivial⟩ e10) ?_
  rintro _ H11 ⟨o2a_11,o2n_11,o2k_11,rfl,rfl,w11,s11,f11_0⟩
  refine br (br (br (br (br (br (br ?_))))))
  refine bI w11 λH12 w12 s12=>?_
  refine bu w12 0 λH13 w13 s13=>?_
  refine bu w13 0 λH14 w14 s14=>?_
  refine bu w14 0 λH15 w15 s15=>?_
  obtain ⟨w16,s16⟩:=w15.nilS eI.z (by decide)
  obtain ⟨w17,s17⟩:=w16.pp [4,0,3,2,1] 5
  exact av.l61_P F rfl rfl rfl ⟨w17,(s0.trans (s1.trans (s2.trans (s4.trans (s11.trans (s12.trans (s13.trans (s14.trans (s15.trans (s16.trans s17)))))))))),(bj.step (s1.trans (s2.trans (s4.trans (s11.trans (s12.trans (s13.trans (s14.trans (s15.trans (s16.trans s17)))))))))),((CR.empty:CR eI _ _ [] []).step s17),(f11_0.step (s12.trans (s13.trans (s14.trans (s15.trans (s16.trans s17))))))⟩ hp
def bC.Q (H0:Hp) (Ri R0:aaZ)  (r:Bool) (v:AV) (H':Hp):Prop:=v=(.bool r)/\Out H0 Ri H' (R0) λR=>True
def bC.S29 (H0:Hp) (Ri R0:aaZ)  (C:Nat->Nat->Nat->Nat->Int->Hp->OA) (pC:abC):Prop:=∀ {Ht Hu Hv Hw eS Ar As wd jD wg kn Au Av jL kT},∀ {H:Hp},wd=jL.length->wg=kT.length->(Out H0 Ri H (Rs.blk jD [.i Ht,.i Hu,.sl ⟨Ar,wd,Au⟩]::Rs.blk kn [.i Hv,.i Hw,.sl ⟨As,wg,Av⟩]::R0) λR=>ROs eI H R ⟨Ar,wd,Au⟩ jL/\ROs eI H R ⟨As,wg,Av⟩ kT)->∀ {r:Bool},pC jL kT eS=some r->Rt (C jD 0 kn 0 eS H) (bC.Q H0 Ri R0  r)
def bC.pl29 (F:Nat) :Nat->List Int->List Int->Int->Option (Bool)
 | 0,_,_,_=>none
 | k+1,jL,kT,eS=>(bif (decide (eS<(jL.length:Int))) then ((ix jL eS).bind λn1=>(ix kT eS).bind λn2=>(bif ((gt jL n1) != (gt kT n2)) then (some false) else (bC.pl29 F k jL kT (wrap .i64 (eS+1))))) else (some true))
theorem bC.l29_P  :∀ k,bC.S29 H0 Ri R0  (bC.l29 F   k) (bC.pl29 F  k):=by
 intro k
 induction k with
 | zero=>unfold bC.S29;intros;rename_i hp;cases hp
 | succ k ih=>
  intro Ht Hu Hv Hw eS Ar As wd jD wg kn Au Av jL kT H Rk Rl h0 r hp
  obtain ⟨w0,s0,Hy,Hz⟩:=h0
  subst Rk
  subst Rl
  unfold bC.pl29 at hp
  unfold bC.l29
  refine lSl w0 0 ?_
  refine aL hp (λhp=>?_) λhp=>?_
  ·refine lSl w0 0 ?_
   obtain ⟨n1,g1,hp⟩:=ah hp
   obtain ⟨p1,q1,i1,h1,j1⟩:=ROs.ixr Hy rfl g1
   refine aP i1 ?_
   have h1:_=[_]:=h1
   subst h1
   refine aP (cU (j1 0 _ rfl)) ?_
   refine lSl w0 1 ?_
   obtain ⟨n2,g2,hp⟩:=ah hp
   obtain ⟨p2,q2,i2,h2,j2⟩:=ROs.ixr Hz rfl g2
   refine aP i2 ?_
   have h2:_=[_]:=h2
   subst h2
   refine aP (cU (j2 0 _ rfl)) ?_
   refine aL hp (λhp=>?_) λhp=>?_
   ·obtain ⟨w3,s3⟩:=w0.pp [] 2
    exact aM hp ⟨rfl,w3,(s0.trans s3),trivial⟩
   ·exact ih rfl rfl ⟨w0,s0,Hy,Hz⟩ hp
  ·obtain ⟨w4,s4⟩:=w0.pp [] 2
   exact aM hp ⟨rfl,w4,(s0.trans s4),trivial⟩
def bC.p (F:Nat) (aa:Int) (ac:Int) (ak:aaX) (aC:Int) (cv:Int) (dU:aaX):Option (Bool):=(bif (aa != aC) then (some false) else ((bif (ac != cv) then (some false) else ((bif ((ak.length:Int) != (dU.length:Int)) then (some false) else (bC.pl29 F F ak dU 0))))))
theorem bC.P {aa ac aC cv aZ kU aH iN a_ kV ak dU} (bO:aH=ak.length) (rI:iN=dU.length) (h0:Inn H R0 λR=>ROs eI H R ⟨aZ,aH,a_⟩ ak/\ROs eI H R ⟨kU,iN,kV⟩ dU) {r:Bool} (hp:bC.p F aa ac ak aC cv dU=some r):Rt (bC.tw F aa ac ⟨aZ,aH,a_⟩ aC cv ⟨kU,iN,kV⟩ H) (bC.Q H R0 R0  r):=by
 obtain ⟨w0,bj,rJ⟩:=h0
 subst bO
 subst rI
 unfold bC.p at hp
 unfold bC.tw bC.twX
 have s0:=w0.rf
 refine bI w0 λH1 w1 s1=>?_
 refine bI w1 λH2 w2 s2=>?_
 refine lI w2 1 ?_
 refine lI w2 0 ?_
 refine aL hp (λhp=>?_) λhp=>?_
 ·obtain ⟨w3,s3⟩:=w2.pp [] 2
  exact aM hp ⟨rfl,w3,(s0.trans (s1.trans (s2.trans s3))),trivial⟩
 ·refine lI w2 1 ?_
  refine lI w2 0 ?_
  refine aL hp (λhp=>?_) λhp=>?_
  ·obtain ⟨w4,s4⟩:=w2.pp [] 2
   exact aM hp ⟨rfl,w4,(s0.trans (s1.trans (s2.trans s4))),trivial⟩
  ·refine lSl w2 1 ?_
   refine lSl w2 0 ?_
   refine aL hp (λhp=>?_) λhp=>?_
   ·obtain ⟨w5,s5⟩:=w2.pp [] 2
    exact aM hp ⟨rfl,w5,(s0.trans (s1.trans (s2.trans s5))),trivial⟩
   ·obtain ⟨w6,s6⟩:=w2.pp [1,0] 2
    exact bC.l29_P F rfl rfl ⟨w6,(s0.trans (s1.trans (s2.trans s6))),(bj.step (s1.trans (s2.trans s6))),(rJ.step (s1.trans (s2.trans s6)))⟩ hp
def cq.Q (H0:Hp) (Ri R0:aaZ)  (r:Int) (v:AV) (H':Hp):Prop:=v=(.i r)/\Out H0 Ri H' (R0) λR=>True
def cq.p (F:Nat) (aa:Int):Option (Int):=some (if (wrap .i64 (0 - aa))>aa then (wrap .i64 (0 - aa)) else aa)
theorem cq.P {aa}  (h0:Inn H R0 λR=>True) {r:Int} (hp:cq.p F aa=some r):Rt (cq.tw F aa H) (cq.Q H R0 R0  r):=by
 obtain ⟨w0,_⟩:=h0
 unfold cq.p at hp
 unfold cq.tw cq.twX
 have s0:=w0.rf
 exact aM hp ⟨rfl,w0,s0,trivial⟩
def az.Q (H0:Hp) (Ri R0:aaZ)  (r:Bool) (v:AV) (H':Hp):Prop:=v=(.bool r)/\Out H0 Ri H' (R0) λR=>True
def az.S29 (H0:Hp) (Ri R0:aaZ)  (C:abk) (pC:abp):Prop:=∀ {qj rK gL gM Aw wh eJ Ax qk},∀ {H:Hp},wh=qk.length->(Out H0 Ri H (Rs.blk eJ [.i qj,.i rK,.sl ⟨Aw,wh,Ax⟩]::R0) λR=>ROs eI H R ⟨Aw,wh,Ax⟩ qk)->∀ {r:Bool},pC qj rK qk gL gM=some r->Rt (C eJ 0 gL gM H) (az.Q H0 Ri R0  r)
def az.S1877 (H0:Hp) (Ri R0:aaZ)  (C:Nat->Nat->Int->Int->Int->Int->Hp->OA) (pC:Int->Int->List Int->Int->Int->Int->Int->Option (Bool)):Prop:=∀ {ql kW gJ fL gK fM Ay wi gy Az kX},∀ {H:Hp},wi=kX.length->(Out H0 Ri H (Rs.blk gy [.i ql,.i kW,.sl ⟨Ay,wi,Az⟩]::R0) λR=>ROs eI H R ⟨Ay,wi,Az⟩ kX)->∀ {r:Bool},pC ql kW kX gJ fL gK fM=some r->Rt (C gy 0 gJ fL gK fM H) (az.Q H0 Ri R0  r)
def az.pj3 (F:Nat) (au:abp) (wj:Int) (wk:Int) (rL:aaX) (np:Int) (nq:Int):Option (Bool):=au wj wk rL np (wrap .i64 (nq+1))
theorem az.j3_P  {C29_:abk} {au:abp} (hC29:az.S29 H0 Ri R0  C29_ au) {wj wk np nq HA AA uA HB rL} (Rm:AA=rL.length) (h0:Out H0 Ri H (Rs.blk uA [.i wj,.i wk,.sl ⟨HA,AA,HB⟩]::R0) λR=>ROs eI H R ⟨HA,AA,HB⟩ rL) {r:Bool} (hp:az.pj3 F au wj wk rL np nq=some r):Rt (az.j3 F (aE.tw F) (cq.tw F) C29_ uA 0 np nq H) (az.Q H0 Ri R0  r):=by
 obtain ⟨w0,s0,Rp⟩:=h0
 subst Rm
 unfold az.pj3 at hp
 unfold az.j3
 exact hC29 rfl ⟨w0,s0,Rp⟩ hp
def az.pj4 (F:Nat) (au:abp) (wl:Int) (wo:Int) (rM:aaX) (nr:Int) (ns:Int) (gw:Int):Option (Bool):=(if (if gw>1 then gw else 1)=0 then none else (az.pj3 F au wl wo rM (wrap .i64 (Int.tdiv nr (if gw>1 then gw else 1))) ns))
theorem az.j4_P  {C29_:abk} {au:abp} (hC29:az.S29 H0 Ri R0  C29_ au) {wl wo nr ns gw HC AB uB HD rM} (Rq:AB=rM.length) (h0:Out H0 Ri H (Rs.blk uB [.i wl,.i wo,.sl ⟨HC,AB,HD⟩]::R0) λR=>ROs eI H R ⟨HC,AB,HD⟩ rM) {r:Bool} (hp:az.pj4 F au wl wo rM nr ns gw=some r):Rt (az.j4 F (aE.tw F) (cq.tw F) C29_ uB 0 nr ns gw H) (az.Q H0 Ri R0  r):=by
 obtain ⟨w0,s0,Rr⟩:=h0
 subst Rq
 unfold az.pj4 at hp
 unfold az.j4
 obtain ⟨g1,hp⟩:=uc hp
 refine ud g1 ?_
 exact az.j3_P (@hC29) rfl ⟨w0,s0,Rr⟩ hp
def az.pl1877 (F:Nat) (au:abp):Nat->Int->Int->List Int->Int->Int->Int->Int->Option (Bool)
 | 0,_,_,_,_,_,_,_=>none
 | k+1,ql,kW,kX,gJ,fL,gK,fM=>(bif (decide (fM<kW)) then ((aE.p F kW kX fL fM).bind λr1=>(cq.p F r1).bind λr3=>az.pl1877 F au k ql kW kX gJ fL (wrap .i64 (gK+r3)) (wrap .i64 (fM+1))) else (az.pj4 F au ql kW kX gJ fL gK))
theorem az.l1877_P  {C29_:abk} {au:abp} (hC29:az.S29 H0 Ri R0  C29_ au):∀ k,az.S1877 H0 Ri R0  (az.l1877 F (aE.tw F) (cq.tw F) C29_ k) (az.pl1877 F au k):=by
 intro k
 induction k with
 | zero=>unfold az.S1877;intros;rename_i hp;cases hp
 | succ k ih=>
  intro ql kW gJ fL gK fM Ay wi gy Az kX H Ru h0 r hp
  obtain ⟨w0,s0,AC⟩:=h0
  subst Ru
  unfold az.pl1877 at hp
  unfold az.l1877
  refine lI w0 0 ?_
  refine aL hp (λhp=>?_) λhp=>?_
  ·refine lI w0 0 ?_
   refine lI w0 0 ?_
   refine lSl w0 0 ?_
   obtain ⟨r1,e1,hp⟩:=ah hp
   refine bf (aE.P rfl ⟨w0,AC⟩ e1) ?_
   rintro _ H2 ⟨rfl,w2,s2,_⟩
   refine br ?_
   obtain ⟨r3,e3,hp⟩:=ah hp
   refine bf (cq.P ⟨w2,trivial⟩ e3) ?_
   rintro _ H4 ⟨rfl,w4,s4,_⟩
   refine br ?_
   exact ih rfl ⟨w4,(s0.trans (s2.trans s4)),(AC.step (s2.trans s4))⟩ hp
  ·exact az.j4_P (@hC29) rfl ⟨w0,s0,AC⟩ hp
def az.pl29 (F:Nat) :Nat->Int->Int->List Int->Int->Int->Option (Bool)
 | 0,_,_,_,_,_=>none
 | k+1,qj,rK,qk,gL,gM=>(bif (decide (gM<qj)) then (az.pl1877 F (az.pl29 F k) F qj rK qk gL gM 0 0) else (some (decide (gL>0))))
theorem az.l29_P  :∀ k,az.S29 H0 Ri R0  (az.l29 F (aE.tw F) (cq.tw F)  k) (az.pl29 F  k):=by
 intro k
 induction k with
 | zero=>unfold az.S29;intros;rename_i hp;cases hp
 | succ k ih=>
  intro qj rK gL gM Aw wh eJ Ax qk H Rv h0 r hp
  obtain ⟨w0,s0,Rw⟩:=h0
  subst Rv
  unfold az.pl29 at hp
  unfold az.l29
  refine lI w0 0 ?_
  refine aL hp (λhp=>?_) λhp=>?_
  ·exact az.l1877_P (@ih) F rfl ⟨w0,s0,Rw⟩ hp
  ·obtain ⟨w1,s1⟩:=w0.pp [] 1
   exact aM hp ⟨rfl,w1,(s0.trans s1),trivial⟩
def az.p (F:Nat) (aa:Int) (ac:Int) (ak:aaX):Option (Bool):=az.pl29 F F aa ac ak 1000000000 0
theorem az.P {aa ac aZ aH a_ ak} (bO:aH=ak.length) (h0:Inn H R0 λR=>ROs eI H R ⟨aZ,aH,a_⟩ ak) {r:Bool} (hp:az.p F aa ac ak=some r):Rt (az.tw F aa ac ⟨aZ,aH,a_⟩ H) (az.Q H R0 R0  r):=by
 obtain ⟨w0,bj⟩:=h0
 subst bO
 unfold az.p at hp
 unfold az.tw az.twX
 have s0:=w0.rf
 refine bI w0 λH1 w1 s1=>?_
 exact az.l29_P F rfl ⟨w1,(s0.trans s1),(bj.step s1)⟩ hp
def aj.Q (H0:Hp) (Ri R0:aaZ)  (r:abd) (v:AV) (H':Hp):Prop:=∃ o2a:ON,∃ o2n:Nat,∃ o2c:Cap,∃ o2k:List AV,v=(.tup [(.agg [(.i r.1),(.i r.2.1),(.sl ⟨o2a,o2n,o2c⟩)]),(.i r.2.2.2)])/\o2n=(r.2.2.1).length/\Out H0 Ri H' (Rs.own ⟨o2a,o2n,o2c⟩ eI.z o2k::R0) λR=>CR eI H' R o2k (r.2.2.1)
def aj.S29 (H0:Hp) (Ri R0:aaZ)  (C:abz) (pC:abB):Prop:=∀ {cV mg mh qm jM dz AD AF AG wq eK wr da wt AH AI AJ kY AK kZ AL AM},∀ {H:Hp},wq=kY.length->wr=AK.length->wt=kZ.length->(Out H0 Ri H (Rs.blk eK [.i mg,.i mh,.sl ⟨AD,wq,AH⟩]::Rs.own ⟨AF,wr,AI⟩ eI.z AL::Rs.blk da [.i qm,.i jM,.sl ⟨AF,wr,AI⟩]::Rs.own ⟨AG,wt,AJ⟩ eI.z AM::R0) λR=>ROs eI H R ⟨AD,wq,AH⟩ kY/\CR eI H R AL AK/\CR eI H R AM kZ)->∀ {r:abd},pC cV mg mh kY kZ dz=some r->Rt (C cV eK 0 da 0 ⟨AG,wt,AJ⟩ dz H) (aj.Q H0 Ri R0  r)
def aj.pj8 (F:Nat) (au:abB) (nD:Int) (wu:Int) (wv:Int) (rN:aaX) (rO:aaX) (nE:Int):Option (Int×Int×List Int×Int):=au nD wu wv rN rO (wrap .i64 (nE+1))
theorem aj.j8_P  {C29_:abz} {au:abB} (hC29:aj.S29 H0 Ri R0  C29_ au) {nD wu wv Rx Ry nE HE HF HG AN uO AO uP AP HI HJ HK rN HL rO HM HN} (Rz:AN=rN.length) (RA:AO=HL.length) (RB:AP=rO.length) (h0:Out H0 Ri H (Rs.blk uO [.i wu,.i wv,.sl ⟨HE,AN,HI⟩]::Rs.own ⟨HF,AO,HJ⟩ eI.z HM::Rs.blk uP [.i Rx,.i Ry,.sl ⟨HF,AO,HJ⟩]::Rs.own ⟨HG,AP,HK⟩ eI.z HN::R0) λR=>ROs eI H R ⟨HE,AN,HI⟩ rN/\CR eI H R HM HL/\CR eI H R HN rO) {r:abd} (hp:aj.pj8 F au nD wu wv rN rO nE=some r):Rt (aj.j8 F (bS.tw F) (aE.tw F) C29_ nD uO 0 uP 0 ⟨HG,AP,HK⟩ nE H) (aj.Q H0 Ri R0  r):=by
 obtain ⟨w0,s0,RC,RD,RE⟩:=h0
 subst Rz
 subst RA
 subst RB
 unfold aj.pj8 at hp
 unfold aj.j8
 exact hC29 rfl rfl rfl ⟨w0,s0,RC,RD,RE⟩ hp
def aj.S253 (H0:Hp) (Ri R0:aaZ)  (C:abl) (pC:abq):Prop:=∀ {HO rP HP HQ fN qn qo gO AQ AR AS AT ww lP wx kq wy wz kr AU AW AX AY qp AZ qq mi A_ Ba Bb},∀ {H:Hp},ww=qp.length->wx=AZ.length->wy=qq.length->wz=mi.length->(Out H0 Ri H (Rs.blk lP [.i HO,.i rP,.sl ⟨AQ,ww,AU⟩]::Rs.own ⟨AR,wx,AW⟩ eI.z A_::Rs.blk kq [.i HP,.i HQ,.sl ⟨AR,wx,AW⟩]::Rs.own ⟨AS,wy,AX⟩ eI.z Ba::Rs.own ⟨AT,wz,AY⟩ eI.z Bb::Rs.blk kr [.i qn,.i qo,.sl ⟨AT,wz,AY⟩]::R0) λR=>ROs eI H R ⟨AQ,ww,AU⟩ qp/\CR eI H R A_ AZ/\CR eI H R Ba qq/\CR eI H R Bb mi)->∀ {r:abd},pC rP qp qq fN qn qo mi gO=some r->Rt (C lP 0 kq 0 ⟨AS,wy,AX⟩ fN kr 0 gO H) (aj.Q H0 Ri R0  r)
def aj.S4053 (H0:Hp) (Ri R0:aaZ)  (C:Nat->Nat->Nat->Nat->Sl->Int->Nat->Nat->Int->Int->Hp->OA) (pC:Int->List Int->List Int->Int->Int->Int->List Int->Int->Int->Option (Int×Int×List Int×Int)):Prop:=∀ {HR mj HS HT eU qs qt eV eW Bc Be Bf Bg wA gN wB kp wC wD jF Bh Bi Bj Bk k_ Bl iO lb Bm Bn Bo},∀ {H:Hp},wA=k_.length->wB=Bl.length->wC=iO.length->wD=lb.length->(Out H0 Ri H (Rs.blk gN [.i HR,.i mj,.sl ⟨Bc,wA,Bh⟩]::Rs.own ⟨Be,wB,Bi⟩ eI.z Bm::Rs.blk kp [.i HS,.i HT,.sl ⟨Be,wB,Bi⟩]::Rs.own ⟨Bf,wC,Bj⟩ eI.z Bn::Rs.own ⟨Bg,wD,Bk⟩ eI.z Bo::Rs.blk jF [.i qs,.i qt,.sl ⟨Bg,wD,Bk⟩]::R0) λR=>ROs eI H R ⟨Bc,wA,Bh⟩ k_/\CR eI H R Bm Bl/\CR eI H R Bn iO/\CR eI H R Bo lb)->∀ {r:abd},pC mj k_ iO eU qs qt lb eV eW=some r->Rt (C gN 0 kp 0 ⟨Bf,wC,Bj⟩ eU jF 0 eV eW H) (aj.Q H0 Ri R0  r)
def aj.pj5 (F:Nat) (bp:abq) (wE:Int) (rQ:aaX) (rR:aaX) (nx:Int) (wF:Int) (wG:Int) (rS:aaX) (ny:Int):Option (Int×Int×List Int×Int):=bp wE rQ rR nx wF wG rS (wrap .i64 (ny+1))
theorem aj.j5_P  {C253_:abl} {bp:abq} (hC253:aj.S253 H0 Ri R0  C253_ bp) {RF wE RG RH nx wF wG ny HU HV HW HX Bp uC Bq uD Br Bs uE HY HZ H_ Ia rQ Ib rR rS Ic Ie If} (RI:Bp=rQ.length) (RJ:Bq=Ib.length) (RK:Br=rR.length) (RL:Bs=rS.length) (h0:Out H0 Ri H (Rs.blk uC [.i RF,.i wE,.sl ⟨HU,Bp,HY⟩]::Rs.own ⟨HV,Bq,HZ⟩ eI.z Ic::Rs.blk uD [.i RG,.i RH,.sl ⟨HV,Bq,HZ⟩]::Rs.own ⟨HW,Br,H_⟩ eI.z Ie::Rs.own ⟨HX,Bs,Ia⟩ eI.z If::Rs.blk uE [.i wF,.i wG,.sl ⟨HX,Bs,Ia⟩]::R0) λR=>ROs eI H R ⟨HU,Bp,HY⟩ rQ/\CR eI H R Ic Ib/\CR eI H R Ie rR/\CR eI H R If rS) {r:abd} (hp:aj.pj5 F bp wE rQ rR nx wF wG rS ny=some r):Rt (aj.j5 F (bS.tw F) (aE.tw F) C253_ uC 0 uD 0 ⟨HW,Br,H_⟩ nx uE 0 ny H) (aj.Q H0 Ri R0  r):=by
 obtain ⟨w0,s0,RM,RN,RO,RP⟩:=h0
 subst RI
 subst RJ
 subst RK
 subst RL
 unfold aj.pj5 at hp
 unfold aj.j5
 exact hC253 rfl rfl rfl rfl ⟨w0,s0,RM,RN,RO,RP⟩ hp
def aj.pj6 (F:Nat) (bp:abq) (wH:Int) (rT:aaX) (rU:aaX) (nA:Int) (wI:Int) (wJ:Int) (rV:aaX) (nB:Int):Option (Int×Int×List Int×Int):=aj.pj5 F bp wH rT rU nA wI wJ rV nB
theorem aj.j6_P  {C253_:abl} {bp:abq} (hC253:aj.S253 H0 Ri R0  C253_ bp) {RQ wH RR RT nA wI wJ nB Ig Ih Ii Ij Bt uF Bu uG Bv Bw uH Ik Il Im Io rT Ip rU rV Iq Ir Is} (RU:Bt=rT.length) (RV:Bu=Ip.length) (RW:Bv=rU.length) (RX:Bw=rV.length) (h0:Out H0 Ri H (Rs.blk uF [.i RQ,.i wH,.sl ⟨Ig,Bt,Ik⟩]::Rs.own ⟨Ih,Bu,Il⟩ eI.z Iq::Rs.blk uG [.i RR,.i RT,.sl ⟨Ih,Bu,Il⟩]::Rs.own ⟨Ii,Bv,Im⟩ eI.z Ir::Rs.own ⟨Ij,Bw,Io⟩ eI.z Is::Rs.blk uH [.i wI,.i wJ,.sl ⟨Ij,Bw,Io⟩]::R0) λR=>ROs eI H R ⟨Ig,Bt,Ik⟩ rT/\CR eI H R Iq Ip/\CR eI H R Ir rU/\CR eI H R Is rV) {r:abd} (hp:aj.pj6 F bp wH rT rU nA wI wJ rV nB=some r):Rt (aj.j6 F (bS.tw F) (aE.tw F) C253_ uF 0 uG 0 ⟨Ii,Bv,Im⟩ nA uH 0 nB H) (aj.Q H0 Ri R0  r):=by
 obtain ⟨w0,s0,RY,RZ,R_,Sa⟩:=h0
 subst RU
 subst RV
 subst RW
 subst RX
 unfold aj.pj6 at hp
 unfold aj.j6
 exact aj.j5_P (@hC253) rfl rfl rfl rfl ⟨w0,s0,RY,RZ,R_,Sa⟩ hp
def aj.pl4053 (F:Nat) (bp:abq):Nat->Int->List Int->List Int->Int->Int->Int->List Int->Int->Int->Option (Int×Int×List Int×Int)
 | 0,_,_,_,_,_,_,_,_,_=>none
 | k+1,mj,k_,iO,eU,qs,qt,lb,eV,eW=>(bif (decide (eW<eU)) then ((ix iO eV).bind λn1=>(ix iO eW).bind λn2=>(aE.p F mj k_ (gt iO n1) (gt iO n2)).bind λr3=>(ix lb (wrap .i64 ((wrap .i64 (eV * eU))+eW))).bind λn6=>(some (lb.set n6 r3)).bind λl7=>aj.pl4053 F bp k mj k_ iO eU qs qt l7 eV (wrap .i64 (eW+1))) else (aj.pj6 F bp mj k_ iO eU qs qt lb eV))
theorem aj.l4053_P  {C253_:abl} {bp:abq} (hC253:aj.S253 H0 Ri R0  C253_ bp):∀ k,aj.S4053 H0 Ri R0  (aj.l4053 F (bS.tw F) (aE.tw F) C253_ k) (aj.pl4053 F bp k):=by
 intro k
 induction k with
 | zero=>unfold aj.S4053;intros;rename_i hp;cases hp
 | succ k ih=>
  intro HR mj HS HT eU qs qt eV eW Bc Be Bf Bg wA gN wB kp wC wD jF Bh Bi Bj Bk k_ Bl iO lb Bm Bn Bo H Sb Sd Se Sf h0 r hp
  obtain ⟨w0,s0,Bx,It,wK,By⟩:=h0
  subst Sb
  subst Sd
  subst Se
  subst Sf
  unfold aj.pl4053 at hp
  unfold aj.l4053
  refine aL hp (λhp=>?_) λhp=>?_
  ·refine lSl w0 5 ?_
   refine lI w0 0 ?_
   refine lI w0 0 ?_
   refine lSl w0 0 ?_
   obtain ⟨n1,g1,hp⟩:=ah hp
   obtain ⟨p1,q1,i1,h1,j1⟩:=W.ixo (E:=eI) w0 (i:=3) rfl rfl wK g1
   refine aP i1 ?_
   have h1:_=[_]:=h1
   subst h1
   refine aP (cU (j1 0 _ rfl)) ?_
   obtain ⟨n2,g2,hp⟩:=ah hp
   obtain ⟨p2,q2,i2,h2,j2⟩:=W.ixo (E:=eI) w0 (i:=3) rfl rfl wK g2
   refine aP i2 ?_
   have h2:_=[_]:=h2
   subst h2
   refine aP (cU (j2 0 _ rfl)) ?_
   obtain ⟨r3,e3,hp⟩:=ah hp
   refine bf (aE.P rfl ⟨w0,Bx⟩ e3) ?_
   rintro _ H4 ⟨rfl,w4,s4,_⟩
   refine br ?_
   refine dW (W.cons_of (Rn:=[]) w0 w4 s4) ?_
   obtain ⟨n6,g6,hp⟩:=ah hp
   obtain ⟨p6,q6,i6,h6,j6⟩:=W.ixo (E:=eI) w4 (i:=4) rfl rfl (By.step s4) g6
   refine aP i6 ?_
   obtain ⟨l7,e7,hp⟩:=ah hp
   refine gn eI w4 (i:=4) (j:=0) (p:=p6) rfl rfl (By.step s4) g6 i6 e7 rfl rfl (λ_ h=>by have h:_=[_]:=h;subst h;exact rfl) λH8 k8 w8 s8 c8=>?_
   exact ih rfl rfl rfl ((gp e7).symm) ⟨w8,(s0.trans (s4.trans s8)),(Bx.step (s4.trans s8)),(It.step (s4.trans s8)),(wK.step (s4.trans s8)),c8⟩ hp
  ·exact aj.j6_P (@hC253) rfl rfl rfl rfl ⟨w0,s0,Bx,It,wK,By⟩ hp
def aj.pj4 (F:Nat)  (nv:Int) (wL:Int) (wM:Int) (rW:aaX):Option (Int×Int×List Int×Int):=some (wL,wM,rW,nv)
theorem aj.j4_P   {Sh Si nv wL wM Iu Iv Bz jE BA nw Iw Ix Iy rW Iz IA} (Sj:Bz=Iy.length) (Sk:BA=rW.length) (h0:Out H0 Ri H (Rs.own ⟨Iu,Bz,Iw⟩ eI.z Iz::Rs.blk jE [.i Sh,.i Si,.sl ⟨Iu,Bz,Iw⟩]::Rs.own ⟨Iv,BA,Ix⟩ eI.z IA::Rs.blk nw [.i wL,.i wM,.sl ⟨Iv,BA,Ix⟩]::R0) λR=>CR eI H R Iz Iy/\CR eI H R IA rW) {r:abd} (hp:aj.pj4 F  nv wL wM rW=some r):Rt (aj.j4 F (bS.tw F) (aE.tw F)  jE 0 nv nw 0 H) (aj.Q H0 Ri R0  r):=by
 obtain ⟨w0,s0,aap,Sm⟩:=h0
 subst Sj
 subst Sk
 unfold aj.pj4 at hp
 unfold aj.j4
 refine lI w0 3 ?_
 refine lI w0 3 ?_
 refine lSl w0 3 ?_
 refine bu w0 1 λH1 w1 s1=>?_
 refine bu w1 1 λH2 w2 s2=>?_
 refine bu w2 1 λH3 w3 s3=>?_
 refine lI w3 1 ?_
 refine lI w3 1 ?_
 refine lSl w3 1 ?_
 obtain ⟨w4,s4⟩:=w3.pp [2] 4
 exact aM hp ⟨_,_,_,_,rfl,rfl,w4,(s0.trans (s1.trans (s2.trans (s3.trans s4)))),(Sm.step (s1.trans (s2.trans (s3.trans s4))))⟩
def aj.pl253 (F:Nat) :Nat->Int->List Int->List Int->Int->Int->Int->List Int->Int->Option (Int×Int×List Int×Int)
 | 0,_,_,_,_,_,_,_,_=>none
 | k+1,rP,qp,qq,fN,qn,qo,mi,gO=>(bif (decide (gO<fN)) then (aj.pl4053 F (aj.pl253 F k) F rP qp qq fN qn qo mi gO 0) else (aj.pj4 F fN qn qo mi))
theorem aj.l253_P  :∀ k,aj.S253 H0 Ri R0  (aj.l253 F (bS.tw F) (aE.tw F)  k) (aj.pl253 F  k):=by
 intro k
 induction k with
 | zero=>unfold aj.S253;intros;rename_i hp;cases hp
 | succ k ih=>
  intro HO rP HP HQ fN qn qo gO AQ AR AS AT ww lP wx kq wy wz kr AU AW AX AY qp AZ qq mi A_ Ba Bb H So Sp Sq Sr h0 r hp
  obtain ⟨w0,s0,Su,IB,Sv,IC⟩:=h0
  subst So
  subst Sp
  subst Sq
  subst Sr
  unfold aj.pl253 at hp
  unfold aj.l253
  refine aL hp (λhp=>?_) λhp=>?_
  ·exact aj.l4053_P (@ih) F rfl rfl rfl rfl ⟨w0,s0,Su,IB,Sv,IC⟩ hp
  ·obtain ⟨w1,s1⟩:=w0.pp [1,2,4,5] 6
   exact aj.j4_P rfl rfl ⟨w1,(s0.trans s1),(IB.step s1),(IC.step s1)⟩ hp
def aj.pj7 (F:Nat)  (wO:Int) (rX:aaX) (lc:aaX):Option (Int×Int×List Int×Int):=(bS.p F (lc.length:Int) (lc.length:Int)).bind λr1=>aj.pl253 F F wO rX lc (lc.length:Int) r1.1 r1.2.1 r1.2.2 0
theorem aj.j7_P   {Sw wO Sx Sy ID IE IF BB uL BC uM BD IG IH II rX IJ lc IK IL} (Sz:BB=rX.length) (SA:BC=IJ.length) (SB:BD=lc.length) (h0:Out H0 Ri H (Rs.blk uL [.i Sw,.i wO,.sl ⟨ID,BB,IG⟩]::Rs.own ⟨IE,BC,IH⟩ eI.z IK::Rs.blk uM [.i Sx,.i Sy,.sl ⟨IE,BC,IH⟩]::Rs.own ⟨IF,BD,II⟩ eI.z IL::R0) λR=>ROs eI H R ⟨ID,BB,IG⟩ rX/\CR eI H R IK IJ/\CR eI H R IL lc) {r:abd} (hp:aj.pj7 F  wO rX lc=some r):Rt (aj.j7 F (bS.tw F) (aE.tw F)  uL 0 uM 0 ⟨IF,BD,II⟩ H) (aj.Q H0 Ri R0  r):=by
 obtain ⟨w0,s0,SC,SD,SF⟩:=h0
 subst Sz
 subst SA
 subst SB
 unfold aj.pj7 at hp
 unfold aj.j7
 obtain ⟨r1,e1,hp⟩:=ah hp
 refine bf (bS.P ⟨w0,trivial⟩ e1) ?_
 rintro _ H2 ⟨o2a_2,o2n_2,o2k_2,rfl,rfl,w2,s2,f2_0⟩
 refine br (br (br (br (br (br (br ?_))))))
 refine bI w2 λH3 w3 s3=>?_
 refine bu w3 0 λH4 w4 s4=>?_
 refine bu w4 0 λH5 w5 s5=>?_
 refine bu w5 0 λH6 w6 s6=>?_
 obtain ⟨w7,s7⟩:=w6.pp [2,3,4,5,1,0] 6
 exact aj.l253_P F rfl rfl rfl rfl ⟨w7,(s0.trans (s2.trans (s3.trans (s4.trans (s5.trans (s6.trans s7)))))),(SC.step (s2.trans (s3.trans (s4.trans (s5.trans (s6.trans s7)))))),(SD.step (s2.trans (s3.trans (s4.trans (s5.trans (s6.trans s7)))))),(SF.step (s2.trans (s3.trans (s4.trans (s5.trans (s6.trans s7)))))),(f2_0.step (s3.trans (s4.trans (s5.trans (s6.trans s7)))))⟩ hp
def aj.pl29 (F:Nat) :Nat->Int->Int->Int->List Int->List Int->Int->Option (Int×Int×List Int×Int)
 | 0,_,_,_,_,_,_=>none
 | k+1,cV,mg,mh,kY,kZ,dz=>(bif (decide (dz<mg)) then ((if (IntKind.u64.wrap dz)<0 then none else ((bif ((Go.bits .and .i64 (Int.fdiv cV (2 ^ (min ((IntKind.u64.wrap dz):Int).toNat (IntKind.i64).bits))) 1)==1) then ((apn kZ ([dz]:List Int)).bind λl3=>aj.pj8 F (aj.pl29 F k) cV mg mh kY l3 dz) else (aj.pj8 F (aj.pl29 F k) cV mg mh kY kZ dz))))) else (aj.pj7 F mh kY kZ))
theorem aj.l29_P  :∀ k,aj.S29 H0 Ri R0  (aj.l29 F (bS.tw F) (aE.tw F)  k) (aj.pl29 F  k):=by
 intro k
 induction k with
 | zero=>unfold aj.S29;intros;rename_i hp;cases hp
 | succ k ih=>
  intro cV mg mh qm jM dz AD AF AG wq eK wr da wt AH AI AJ kY AK kZ AL AM H SG SH SJ h0 r hp
  obtain ⟨w0,s0,BE,BF,BG⟩:=h0
  subst SG
  subst SH
  subst SJ
  unfold aj.pl29 at hp
  unfold aj.l29
  refine lI w0 0 ?_
  refine aL hp (λhp=>?_) λhp=>?_
  ·obtain ⟨g1,hp⟩:=uc hp
   refine ud g1 ?_
   refine aL hp (λhp=>?_) λhp=>?_
   ·refine ue eI w0 (n:=1) (l:=([dz]:List Int)) rfl (CR.cons1 rfl CR.empty) rfl λH2 w2 s2 c2=>?_
    refine aP (w2.rowo (i:=0) rfl) ?_
    obtain ⟨l3,e3,hp⟩:=ah hp
    refine Gs eI w2 (i:=4) rfl rfl (BG.step s2) c2 (show 1=List.length ([dz]:List Int) from rfl) rfl e3 λa4 d4 H4 w4 s4 c4 x4=>?_
    obtain ⟨w5,s5⟩:=w4.pp [1,2,3,4] 5
    exact aj.j8_P (@ih) rfl rfl rfl ⟨w5,(s0.trans (s2.trans (s4.trans s5))),(BE.step (s2.trans (s4.trans s5))),(BF.step (s2.trans (s4.trans s5))),(c4.step s5)⟩ hp
   ·exact aj.j8_P (@ih) rfl rfl rfl ⟨w0,s0,BE,BF,BG⟩ hp
  ·exact aj.j7_P rfl rfl rfl ⟨w0,s0,BE,BF,BG⟩ hp
def aj.p (F:Nat) (aa:Int) (ac:Int) (ak:aaX) (aC:Int):Option (Int×Int×List Int×Int):=aj.pl29 F F aC aa ac ak ([]:List Int) 0
theorem aj.P {aa ac aC aZ aH a_ ak} (bO:aH=ak.length) (h0:Inn H R0 λR=>ROs eI H R ⟨aZ,aH,a_⟩ ak) {r:abd} (hp:aj.p F aa ac ak aC=some r):Rt (aj.tw F aa ac ⟨aZ,aH,a_⟩ aC H) (aj.Q H R0 R0  r):=by
 obtain ⟨w0,bj⟩:=h0
 subst bO
 unfold aj.p at hp
 unfold aj.tw aj.twX
 have s0:=w0.rf
 refine bI w0 λH1 w1 s1=>?_
 refine bI w1 λH2 w2 s2=>?_
 refine ue eI w2 (n:=0) (l:=([]:List Int)) rfl CR.empty rfl λH3 w3 s3 c3=>?_
 obtain ⟨w4,s4⟩:=w3.nilS eI.z (by decide)
 obtain ⟨w5,s5⟩:=w4.pp [3,0,2,1] 4
 exact aj.l29_P F rfl rfl (show 0=List.length ([]:List Int) from rfl) ⟨w5,(s0.trans (s1.trans (s2.trans (s3.trans (s4.trans s5))))),(bj.step (s1.trans (s2.trans (s3.trans (s4.trans s5))))),((CR.empty:CR eI _ _ [] []).step s5),(c3.step (s4.trans s5))⟩ hp
def aS.Q (H0:Hp) (Ri R0:aaZ) (aZ:ON) (aH:Nat) (a_:Cap) (rY:Bool) (rZ r_:aba) (r:aaX) (v:AV) (H':Hp):Prop:=∃ IM:List AV,v=(.tup [])/\aH=(r).length/\Out H0 Ri H' (Rs.ow rY ⟨aZ,aH,a_⟩ eI.z rZ IM r_::R0) λR=>CR eI H' R IM (r)
def aS.S7 (H0:Hp) (Ri R0:aaZ) (sb:ON) (qu:Nat) (se:Cap) (wP:Bool) (wQ wR:aba) (C:Int->Int->Nat->Nat->Int->Hp->OA) (pC:Int->Int->Int->List Int->Int->Option (List Int)):Prop:=∀ {cb d_ sf eL db eM BH cl},∀ {H:Hp},qu=eM.length->(Out H0 Ri H (Rs.ow wP ⟨sb,qu,se⟩ eI.z wQ BH wR::Rs.blk cl [.i sf,.i eL,.sl ⟨sb,qu,se⟩]::R0) λR=>CR eI H R BH eM)->∀ {r:aaX},pC cb d_ eL eM db=some r->Rt (C cb d_ cl 0 db H) (aS.Q H0 Ri R0 sb qu se wP wQ wR r)
def aS.pl7 (F:Nat) :Nat->Int->Int->Int->List Int->Int->Option (List Int)
 | 0,_,_,_,_,_=>none
 | k+1,cb,d_,eL,eM,db=>(bif (decide (db<eL)) then ((aE.p F eL eM cb db).bind λr2=>(aE.p F eL eM d_ db).bind λr6=>(ix eM (wrap .i64 ((wrap .i64 (cb * eL))+db))).bind λn10=>(some (eM.set n10 r6)).bind λl11=>(ix l11 (wrap .i64 ((wrap .i64 (d_ * eL))+db))).bind λn13=>(some (l11.set n13 r2)).bind λl14=>aS.pl7 F k cb d_ eL l14 (wrap .i64 (db+1))) else (some eM))
theorem aS.l7_P {sb qu se wP wQ wR} :∀ k,aS.S7 H0 Ri R0 sb qu se wP wQ wR (aS.l7 F (aE.tw F)  k) (aS.pl7 F  k):=by
 intro k
 induction k with
 | zero=>unfold aS.S7;intros;rename_i hp;cases hp
 | succ k ih=>
  intro cb d_ sf eL db eM BH cl H SK h0 r hp
  obtain ⟨w0,s0,si⟩:=h0
  subst SK
  unfold aS.pl7 at hp
  unfold aS.l7
  refine lI w0 1 ?_
  refine aL hp (λhp=>?_) λhp=>?_
  ·refine lI w0 1 ?_
   refine lI w0 1 ?_
   refine lSl w0 1 ?_
   have f1:=W.borrow1 eI w0 si
   obtain ⟨w1,s1⟩:=w0.right1
   obtain ⟨r2,e2,hp⟩:=ah hp
   refine bf (aE.P rfl ⟨w1,f1⟩ e2) ?_
   rintro _ H3 ⟨rfl,w3,s3,_⟩
   obtain ⟨w4,s4⟩:=W.frame1 w0 w3 s3
   refine br ?_
   refine lSl w4 1 ?_
   refine lI w4 1 ?_
   refine lI w4 1 ?_
   refine lI w4 1 ?_
   refine lSl w4 1 ?_
   have f5:=W.borrow1 eI w4 (si.step s4)
   obtain ⟨w5,s5⟩:=w4.right1
   obtain ⟨r6,e6,hp⟩:=ah hp
   refine bf (aE.P rfl ⟨w5,f5⟩ e6) ?_
   rintro _ H7 ⟨rfl,w7,s7,_⟩
   obtain ⟨w8,s8⟩:=W.frame1 w4 w7 s7
   refine br ?_
   refine dW (W.cons_of (Rn:=[]) w5 w7 s7) ?_
   obtain ⟨n10,g10,hp⟩:=ah hp
   obtain ⟨p10,q10,i10,h10,j10⟩:=W.ixo (E:=eI) w8 (i:=0) rfl rfl (si.step (s4.trans s8)) g10
   refine aP i10 ?_
   obtain ⟨l11,e11,hp⟩:=ah hp
   refine gn eI w8 (i:=0) (j:=0) (p:=p10) rfl rfl (si.step (s4.trans s8)) g10 i10 e11 rfl rfl (λ_ h=>by have h:_=[_]:=h;subst h;exact rfl) λH12 k12 w12 s12 c12=>?_
   refine lSl w12 1 ?_
   refine lI w12 1 ?_
   obtain ⟨n13,g13,hp⟩:=ah hp
   obtain ⟨p13,q13,i13,h13,j13⟩:=W.ixo (E:=eI) w12 (i:=0) rfl rfl c12 g13
   refine aP i13 ?_
   obtain ⟨l14,e14,hp⟩:=ah hp
   refine gn eI w12 (i:=0) (j:=0) (p:=p13) rfl rfl c12 g13 i13 e14 rfl rfl (λ_ h=>by have h:_=[_]:=h;subst h;exact rfl) λH15 k15 w15 s15 c15=>?_
   exact ih ((gp e11).symm.trans (gp e14).symm) ⟨w15,(s0.trans (s4.trans (s8.trans (s12.trans s15)))),c15⟩ hp
  ·obtain ⟨w16,s16⟩:=w0.pp [0] 2
   exact aM hp ⟨_,rfl,rfl,w16,(s0.trans s16),(si.step s16)⟩
def aS.p (F:Nat) (ac:Int) (ak:aaX) (aC:Int) (cp:Int):Option (List Int):=aS.pl7 F F aC cp ac ak 0
theorem aS.P {aa ac aC cp aZ aH a_ ak rY rZ r_ BI} (bO:aH=ak.length) (h0:Inn H (Rs.ow rY ⟨aZ,aH,a_⟩ eI.z rZ BI r_::R0) λR=>CR eI H R BI ak) {r:aaX} (hp:aS.p F ac ak aC cp=some r):Rt (aS.tw F aa ac ⟨aZ,aH,a_⟩ aC cp H) (aS.Q H (Rs.ow rY ⟨aZ,aH,a_⟩ eI.z rZ BI r_::R0) R0 aZ aH a_ rY rZ r_ r):=by
 obtain ⟨w0,bj⟩:=h0
 subst bO
 unfold aS.p at hp
 unfold aS.tw aS.twX
 have s0:=w0.rf
 refine bI w0 λH1 w1 s1=>?_
 obtain ⟨w2,s2⟩:=w1.pp [1,0] 2
 exact aS.l7_P F rfl ⟨w2,(s0.trans (s1.trans s2)),(bj.step (s1.trans s2))⟩ hp
def ag.Q (H0:Hp) (Ri R0:aaZ)  (r:Int) (v:AV) (H':Hp):Prop:=v=(.i r)/\Out H0 Ri H' (R0) λR=>True
def ag.S125 (H0:Hp) (Ri R0:aaZ)  (C:aa7) (pC:aa9):Prop:=∀ {gS IN sj gT gU fT BJ wS lR BK qv BL},∀ {H:Hp},wS=qv.length->(Out H0 Ri H (Rs.own ⟨BJ,wS,BK⟩ eI.z BL::Rs.blk lR [.i IN,.i sj,.sl ⟨BJ,wS,BK⟩]::R0) λR=>CR eI H R BL qv)->∀ {r:Int},pC gS sj qv gT gU fT=some r->Rt (C gS lR 0 gT gU fT H) (ag.Q H0 Ri R0  r)
def ag.S4010 (H0:Hp) (Ri R0:aaZ)  (C:abf) (pC:abi):Prop:=∀ {eZ IP lf fQ fR e_ en BM wT gA BN jN BO},∀ {H:Hp},wT=jN.length->(Out H0 Ri H (Rs.own ⟨BM,wT,BN⟩ eI.z BO::Rs.blk gA [.i IP,.i lf,.sl ⟨BM,wT,BN⟩]::R0) λR=>CR eI H R BO jN)->∀ {r:Int},pC eZ lf jN fQ fR e_ en=some r->Rt (C eZ gA 0 fQ fR e_ en H) (ag.Q H0 Ri R0  r)
def ag.S64189 (H0:Hp) (Ri R0:aaZ)  (C:abf) (pC:abi):Prop:=∀ {fO IQ qw gQ jH fP gR BP wU kt BQ mn BR},∀ {H:Hp},wU=mn.length->(Out H0 Ri H (Rs.own ⟨BP,wU,BQ⟩ eI.z BR::Rs.blk kt [.i IQ,.i qw,.sl ⟨BP,wU,BQ⟩]::R0) λR=>CR eI H R BR mn)->∀ {r:Int},pC fO qw mn gQ jH fP gR=some r->Rt (C fO kt 0 gQ jH fP gR H) (ag.Q H0 Ri R0  r)
def ag.S1027029 (H0:Hp) (Ri R0:aaZ)  (C:Int->Nat->Nat->Int->Int->Int->Int->Int->Hp->OA) (pC:Int->Int->List Int->Int->Int->Int->Int->Int->Option (Int)):Prop:=∀ {eX IR jj gP eY dP ee eg BS wV dD BT gC BU},∀ {H:Hp},wV=gC.length->(Out H0 Ri H (Rs.own ⟨BS,wV,BT⟩ eI.z BU::Rs.blk dD [.i IR,.i jj,.sl ⟨BS,wV,BT⟩]::R0) λR=>CR eI H R BU gC)->∀ {r:Int},pC eX jj gC gP eY dP ee eg=some r->Rt (C eX dD 0 gP eY dP ee eg H) (ag.Q H0 Ri R0  r)
def ag.pj14 (F:Nat) (fh:abi) (nO:Int) (wW:Int) (sk:aaX) (nP:Int) (nQ:Int) (nR:Int) (nS:Int):Option (Int):=fh nO wW sk nP nQ nR (wrap .i64 (nS+1))
theorem ag.j14_P  {C64189_:abf} {fh:abi} (hC64189:ag.S64189 H0 Ri R0  C64189_ fh) {nO SL wW nP nQ nR nS IS BV uS IT sk IU} (SM:BV=sk.length) (h0:Out H0 Ri H (Rs.own ⟨IS,BV,IT⟩ eI.z IU::Rs.blk uS [.i SL,.i wW,.sl ⟨IS,BV,IT⟩]::R0) λR=>CR eI H R IU sk) {r:Int} (hp:ag.pj14 F fh nO wW sk nP nQ nR nS=some r):Rt (ag.j14 F (aE.tw F) (aS.tw F) C64189_ nO uS 0 nP nQ nR nS H) (ag.Q H0 Ri R0  r):=by
 obtain ⟨w0,s0,SN⟩:=h0
 subst SM
 unfold ag.pj14 at hp
 unfold ag.j14
 exact hC64189 rfl ⟨w0,s0,SN⟩ hp
def ag.pj15 (F:Nat) (fh:abi) (nT:Int) (wX:Int) (sm:aaX) (nU:Int) (nV:Int) (nW:Int) (nX:Int):Option (Int):=ag.pj14 F fh nT wX sm nU nV nW nX
theorem ag.j15_P  {C64189_:abf} {fh:abi} (hC64189:ag.S64189 H0 Ri R0  C64189_ fh) {nT SO wX nU nV nW nX IV BW uT IW sm IX} (SP:BW=sm.length) (h0:Out H0 Ri H (Rs.own ⟨IV,BW,IW⟩ eI.z IX::Rs.blk uT [.i SO,.i wX,.sl ⟨IV,BW,IW⟩]::R0) λR=>CR eI H R IX sm) {r:Int} (hp:ag.pj15 F fh nT wX sm nU nV nW nX=some r):Rt (ag.j15 F (aE.tw F) (aS.tw F) C64189_ nT uT 0 nU nV nW nX H) (ag.Q H0 Ri R0  r):=by
 obtain ⟨w0,s0,SQ⟩:=h0
 subst SP
 unfold ag.pj15 at hp
 unfold ag.j15
 exact ag.j14_P (@hC64189) rfl ⟨w0,s0,SQ⟩ hp
def ag.pl1027029 (F:Nat) (bW:aa9) (fh:abi):Nat->Int->Int->List Int->Int->Int->Int->Int->Int->Option (Int)
 | 0,_,_,_,_,_,_,_,_=>none
 | k+1,eX,jj,gC,gP,eY,dP,ee,eg=>(bif (decide (eg<eX)) then ((aE.p F jj gC ee eg).bind λr2=>(aE.p F jj gC dP dP).bind λr7=>(aE.p F jj gC ee dP).bind λr12=>(aE.p F jj gC dP eg).bind λr17=>(if eY=0 then none else ((ix gC (wrap .i64 ((wrap .i64 (ee * eX))+eg))).bind λn22=>(some (gC.set n22 (wrap .i64 (Int.tdiv (wrap .i64 ((wrap .i64 (r2 * r7)) - (wrap .i64 (r12 * r17)))) eY)))).bind λl23=>ag.pl1027029 F bW fh k eX jj l23 gP eY dP ee (wrap .i64 (eg+1))))) else (ag.pj15 F fh eX jj gC gP eY dP ee))
theorem ag.l1027029_P  {C125_:aa7} {bW:aa9} (hC125:ag.S125 H0 Ri R0  C125_ bW) {C64189_:abf} {fh:abi} (hC64189:ag.S64189 H0 Ri R0  C64189_ fh):∀ k,ag.S1027029 H0 Ri R0  (ag.l1027029 F (aE.tw F) (aS.tw F) C125_ C64189_ k) (ag.pl1027029 F bW fh k):=by
 intro k
 induction k with
 | zero=>unfold ag.S1027029;intros;rename_i hp;cases hp
 | succ k ih=>
  intro eX IR jj gP eY dP ee eg BS wV dD BT gC BU H SS h0 r hp
  obtain ⟨w0,s0,mo⟩:=h0
  subst SS
  unfold ag.pl1027029 at hp
  unfold ag.l1027029
  refine aL hp (λhp=>?_) λhp=>?_
  ·refine lSl w0 1 ?_
   refine lI w0 1 ?_
   refine lI w0 1 ?_
   refine lSl w0 1 ?_
   have f1:=W.borrow1 eI w0 mo
   obtain ⟨w1,s1⟩:=w0.right1
   obtain ⟨r2,e2,hp⟩:=ah hp
   refine bf (aE.P rfl ⟨w1,f1⟩ e2) ?_
   rintro _ H3 ⟨rfl,w3,s3,_⟩
   obtain ⟨w4,s4⟩:=W.frame1 w0 w3 s3
   refine br ?_
   refine dW (W.cons_of (Rn:=[]) w1 w3 s3) ?_
   refine lI w4 1 ?_
   refine lI w4 1 ?_
   refine lSl w4 1 ?_
   have f6:=W.borrow1 eI w4 (mo.step s4)
   obtain ⟨w6,s6⟩:=w4.right1
   obtain ⟨r7,e7,hp⟩:=ah hp
   refine bf (aE.P rfl ⟨w6,f6⟩ e7) ?_
   rintro _ H8 ⟨rfl,w8,s8,_⟩
   obtain ⟨w9,s9⟩:=W.frame1 w4 w8 s8
   refine br ?_
   refine dW (W.cons_of (Rn:=[]) w6 w8 s8) ?_
   refine lI w9 1 ?_
   refine lI w9 1 ?_
   refine lSl w9 1 ?_
   have f11:=W.borrow1 eI w9 (mo.step (s4.trans s9))
   obtain ⟨w11,s11⟩:=w9.right1
   obtain ⟨r12,e12,hp⟩:=ah hp
   refine bf (aE.P rfl ⟨w11,f11⟩ e12) ?_
   rintro _ H13 ⟨rfl,w13,s13,_⟩
   obtain ⟨w14,s14⟩:=W.frame1 w9 w13 s13
   refine br ?_
   refine dW (W.cons_of (Rn:=[]) w11 w13 s13) ?_
   refine lI w14 1 ?_
   refine lI w14 1 ?_
   refine lSl w14 1 ?_
   have f16:=W.borrow1 eI w14 (mo.step (s4.trans (s9.trans s14)))
   obtain ⟨w16,s16⟩:=w14.right1
   obtain ⟨r17,e17,hp⟩:=ah hp
   refine bf (aE.P rfl ⟨w16,f16⟩ e17) ?_
   rintro _ H18 ⟨rfl,w18,s18,_⟩
   obtain ⟨w19,s19⟩:=W.frame1 w14 w18 s18
   refine br ?_
   refine dW (W.cons_of (Rn:=[]) w16 w18 s18) ?_
   obtain ⟨g21,hp⟩:=uc hp
   refine ud g21 ?_
   obtain ⟨n22,g22,hp⟩:=ah hp
   obtain ⟨p22,q22,i22,h22,j22⟩:=W.ixo (E:=eI) w19 (i:=0) rfl rfl (mo.step (s4.trans (s9.trans (s14.trans s19)))) g22
   refine aP i22 ?_
   obtain ⟨l23,e23,hp⟩:=ah hp
   refine gn eI w19 (i:=0) (j:=0) (p:=p22) rfl rfl (mo.step (s4.trans (s9.trans (s14.trans s19)))) g22 i22 e23 rfl rfl (λ_ h=>by have h:_=[_]:=h;subst h;exact rfl) λH24 k24 w24 s24 c24=>?_
   exact ih ((gp e23).symm) ⟨w24,(s0.trans (s4.trans (s9.trans (s14.trans (s19.trans s24))))),c24⟩ hp
  ·exact ag.j15_P (@hC64189) rfl ⟨w0,s0,mo⟩ hp
def ag.pj12 (F:Nat) (bW:aa9) (nI:Int) (wY:Int) (sp:aaX) (nJ:Int) (nK:Int) (nL:Int):Option (Int):=bW nI wY sp nJ nK (wrap .i64 (nL+1))
theorem ag.j12_P  {C125_:aa7} {bW:aa9} (hC125:ag.S125 H0 Ri R0  C125_ bW) {nI SU wY nJ nK nL IY BX uQ IZ sp I_} (SV:BX=sp.length) (h0:Out H0 Ri H (Rs.own ⟨IY,BX,IZ⟩ eI.z I_::Rs.blk uQ [.i SU,.i wY,.sl ⟨IY,BX,IZ⟩]::R0) λR=>CR eI H R I_ sp) {r:Int} (hp:ag.pj12 F bW nI wY sp nJ nK nL=some r):Rt (ag.j12 F (aE.tw F) (aS.tw F) C125_ nI uQ 0 nJ nK nL H) (ag.Q H0 Ri R0  r):=by
 obtain ⟨w0,s0,SW⟩:=h0
 subst SV
 unfold ag.pj12 at hp
 unfold ag.j12
 exact hC125 rfl ⟨w0,s0,SW⟩ hp
def ag.pj13 (F:Nat) (bW:aa9) (nM:Int) (su:Int) (qx:aaX) (nN:Int) (je:Int):Option (Int):=(aE.p F su qx je je).bind λr2=>ag.pj12 F bW nM su qx nN r2 je
theorem ag.j13_P  {C125_:aa7} {bW:aa9} (hC125:ag.S125 H0 Ri R0  C125_ bW) {nM SX su nN je Ja BY lQ Jb qx Jc} (SY:BY=qx.length) (h0:Out H0 Ri H (Rs.own ⟨Ja,BY,Jb⟩ eI.z Jc::Rs.blk lQ [.i SX,.i su,.sl ⟨Ja,BY,Jb⟩]::R0) λR=>CR eI H R Jc qx) {r:Int} (hp:ag.pj13 F bW nM su qx nN je=some r):Rt (ag.j13 F (aE.tw F) (aS.tw F) C125_ nM lQ 0 nN je H) (ag.Q H0 Ri R0  r):=by
 obtain ⟨w0,s0,Jd⟩:=h0
 subst SY
 unfold ag.pj13 at hp
 unfold ag.j13
 refine lI w0 1 ?_
 refine lI w0 1 ?_
 refine lSl w0 1 ?_
 have f1:=W.borrow1 eI w0 Jd
 obtain ⟨w1,s1⟩:=w0.right1
 obtain ⟨r2,e2,hp⟩:=ah hp
 refine bf (aE.P rfl ⟨w1,f1⟩ e2) ?_
 rintro _ H3 ⟨rfl,w3,s3,_⟩
 obtain ⟨w4,s4⟩:=W.frame1 w0 w3 s3
 refine br ?_
 exact ag.j12_P (@hC125) rfl ⟨w4,(s0.trans s4),(Jd.step s4)⟩ hp
def ag.pl64189 (F:Nat) (bW:aa9):Nat->Int->Int->List Int->Int->Int->Int->Int->Option (Int)
 | 0,_,_,_,_,_,_,_=>none
 | k+1,fO,qw,mn,gQ,jH,fP,gR=>(bif (decide (gR<fO)) then (ag.pl1027029 F bW (ag.pl64189 F bW k) F fO qw mn gQ jH fP gR (wrap .i64 (fP+1))) else (ag.pj13 F bW fO qw mn gQ fP))
theorem ag.l64189_P  {C125_:aa7} {bW:aa9} (hC125:ag.S125 H0 Ri R0  C125_ bW):∀ k,ag.S64189 H0 Ri R0  (ag.l64189 F (aE.tw F) (aS.tw F) C125_ k) (ag.pl64189 F bW k):=by
 intro k
 induction k with
 | zero=>unfold ag.S64189;intros;rename_i hp;cases hp
 | succ k ih=>
  intro fO IQ qw gQ jH fP gR BP wU kt BQ mn BR H SZ h0 r hp
  obtain ⟨w0,s0,Je⟩:=h0
  subst SZ
  unfold ag.pl64189 at hp
  unfold ag.l64189
  refine aL hp (λhp=>?_) λhp=>?_
  ·exact ag.l1027029_P (@hC125) (@ih) F rfl ⟨w0,s0,Je⟩ hp
  ·exact ag.j13_P (@hC125) rfl ⟨w0,s0,Je⟩ hp
def ag.pj16 (F:Nat) (bW:aa9) (nY:Int) (wZ:Int) (sx:aaX) (nZ:Int) (n_:Int) (ku:Int):Option (Int):=ag.pl64189 F bW F nY wZ sx nZ n_ ku (wrap .i64 (ku+1))
theorem ag.j16_P  {C125_:aa7} {bW:aa9} (hC125:ag.S125 H0 Ri R0  C125_ bW) {nY S_ wZ nZ n_ ku Jf BZ uV Jg sx Jh} (Ta:BZ=sx.length) (h0:Out H0 Ri H (Rs.own ⟨Jf,BZ,Jg⟩ eI.z Jh::Rs.blk uV [.i S_,.i wZ,.sl ⟨Jf,BZ,Jg⟩]::R0) λR=>CR eI H R Jh sx) {r:Int} (hp:ag.pj16 F bW nY wZ sx nZ n_ ku=some r):Rt (ag.j16 F (aE.tw F) (aS.tw F) C125_ nY uV 0 nZ n_ ku H) (ag.Q H0 Ri R0  r):=by
 obtain ⟨w0,s0,Tb⟩:=h0
 subst Ta
 unfold ag.pj16 at hp
 unfold ag.j16
 exact ag.l64189_P (@hC125) F rfl ⟨w0,s0,Tb⟩ hp
def ag.pj17 (F:Nat) (bW:aa9) (jf:Int) (qy:Int) (qz:aaX) (kx:Int) (ky:Int) (gz:Int) (jg:Int):Option (Int):=(bif (jg==jf) then (some 0) else ((bif (jg != gz) then ((aS.p F qy qz jg gz).bind λr2=>ag.pj16 F bW jf qy r2 (wrap .i64 (0 - kx)) ky gz) else (ag.pj16 F bW jf qy qz kx ky gz))))
theorem ag.j17_P  {C125_:aa7} {bW:aa9} (hC125:ag.S125 H0 Ri R0  C125_ bW) {jf Tc qy kx ky gz jg Ji B_ kw Jj qz Jk} (Td:B_=qz.length) (h0:Out H0 Ri H (Rs.own ⟨Ji,B_,Jj⟩ eI.z Jk::Rs.blk kw [.i Tc,.i qy,.sl ⟨Ji,B_,Jj⟩]::R0) λR=>CR eI H R Jk qz) {r:Int} (hp:ag.pj17 F bW jf qy qz kx ky gz jg=some r):Rt (ag.j17 F (aE.tw F) (aS.tw F) C125_ jf kw 0 kx ky gz jg H) (ag.Q H0 Ri R0  r):=by
 obtain ⟨w0,s0,Jl⟩:=h0
 subst Td
 unfold ag.pj17 at hp
 unfold ag.j17
 refine aL hp (λhp=>?_) λhp=>?_
 ·obtain ⟨w1,s1⟩:=w0.pp [] 2
  exact aM hp ⟨rfl,w1,(s0.trans s1),trivial⟩
 ·refine aL hp (λhp=>?_) λhp=>?_
  ·refine lI w0 1 ?_
   refine lI w0 1 ?_
   refine lSl w0 1 ?_
   obtain ⟨r2,e2,hp⟩:=ah hp
   refine bf (aS.P rfl ⟨w0,Jl⟩ e2) ?_
   rintro _ H3 ⟨aaq,rfl,hl3_0,w3,s3,f3_0⟩
   exact ag.j16_P (@hC125) hl3_0 ⟨w3,(s0.trans s3),f3_0⟩ hp
  ·exact ag.j16_P (@hC125) rfl ⟨w0,s0,Jl⟩ hp
def ag.pl4010 (F:Nat) (bW:aa9):Nat->Int->Int->List Int->Int->Int->Int->Int->Option (Int)
 | 0,_,_,_,_,_,_,_=>none
 | k+1,eZ,lf,jN,fQ,fR,e_,en=>(bif (decide (en<eZ)) then ((aE.p F lf jN en e_).bind λr2=>(bif (r2==0) then (ag.pl4010 F bW k eZ lf jN fQ fR e_ (wrap .i64 (en+1))) else (ag.pj17 F bW eZ lf jN fQ fR e_ en))) else (ag.pj17 F bW eZ lf jN fQ fR e_ en))
theorem ag.l4010_P  {C125_:aa7} {bW:aa9} (hC125:ag.S125 H0 Ri R0  C125_ bW):∀ k,ag.S4010 H0 Ri R0  (ag.l4010 F (aE.tw F) (aS.tw F) C125_ k) (ag.pl4010 F bW k):=by
 intro k
 induction k with
 | zero=>unfold ag.S4010;intros;rename_i hp;cases hp
 | succ k ih=>
  intro eZ IP lf fQ fR e_ en BM wT gA BN jN BO H Te h0 r hp
  obtain ⟨w0,s0,w_⟩:=h0
  subst Te
  unfold ag.pl4010 at hp
  unfold ag.l4010
  refine aL hp (λhp=>?_) λhp=>?_
  ·refine lI w0 1 ?_
   refine lI w0 1 ?_
   refine lSl w0 1 ?_
   have f1:=W.borrow1 eI w0 w_
   obtain ⟨w1,s1⟩:=w0.right1
   obtain ⟨r2,e2,hp⟩:=ah hp
   refine bf (aE.P rfl ⟨w1,f1⟩ e2) ?_
   rintro _ H3 ⟨rfl,w3,s3,_⟩
   obtain ⟨w4,s4⟩:=W.frame1 w0 w3 s3
   refine br ?_
   refine aL hp (λhp=>?_) λhp=>?_
   ·exact ih rfl ⟨w4,(s0.trans s4),(w_.step s4)⟩ hp
   ·exact ag.j17_P (@hC125) rfl ⟨w4,(s0.trans s4),(w_.step s4)⟩ hp
  ·exact ag.j17_P (@hC125) rfl ⟨w0,s0,w_⟩ hp
def ag.pj9 (F:Nat)  (nG:Int) (nH:Int):Option (Int):=some (wrap .i64 (nG * nH))
theorem ag.j9_P   {nG nH}  (h0:Out H0 Ri H R0 λR=>True) {r:Int} (hp:ag.pj9 F  nG nH=some r):Rt (ag.j9 F (aE.tw F) (aS.tw F)  nG nH H) (ag.Q H0 Ri R0  r):=by
 obtain ⟨w0,s0,_⟩:=h0
 unfold ag.pj9 at hp
 unfold ag.j9
 exact aM hp ⟨rfl,w0,s0,trivial⟩
def ag.pl125 (F:Nat) :Nat->Int->Int->List Int->Int->Int->Int->Option (Int)
 | 0,_,_,_,_,_,_=>none
 | k+1,gS,sj,qv,gT,gU,fT=>(bif (decide (fT<gS)) then (ag.pl4010 F (ag.pl125 F k) F gS sj qv gT gU fT fT) else (ag.pj9 F gT gU))
theorem ag.l125_P  :∀ k,ag.S125 H0 Ri R0  (ag.l125 F (aE.tw F) (aS.tw F)  k) (ag.pl125 F  k):=by
 intro k
 induction k with
 | zero=>unfold ag.S125;intros;rename_i hp;cases hp
 | succ k ih=>
  intro gS IN sj gT gU fT BJ wS lR BK qv BL H Tf h0 r hp
  obtain ⟨w0,s0,Tg⟩:=h0
  subst Tf
  unfold ag.pl125 at hp
  unfold ag.l125
  refine aL hp (λhp=>?_) λhp=>?_
  ·exact ag.l4010_P (@ih) F rfl ⟨w0,s0,Tg⟩ hp
  ·obtain ⟨w1,s1⟩:=w0.pp [] 2
   exact ag.j9_P ⟨w1,(s0.trans s1),trivial⟩ hp
def ag.p (F:Nat) (aa:Int) (ak:aaX):Option (Int):=(apn ([]:List Int) ak).bind λl4=>ag.pl125 F F aa aa l4 1 1 0
theorem ag.P {aa ac aZ aH a_ ak} (bO:aH=ak.length) (h0:Inn H R0 λR=>ROs eI H R ⟨aZ,aH,a_⟩ ak) {r:Int} (hp:ag.p F aa ak=some r):Rt (ag.tw F aa ac ⟨aZ,aH,a_⟩ H) (ag.Q H R0 R0  r):=by
 obtain ⟨w0,bj⟩:=h0
 subst bO
 unfold ag.p at hp
 unfold ag.tw ag.twX
 have s0:=w0.rf
 refine bI w0 λH1 w1 s1=>?_
 refine lI w1 0 ?_
 refine ue eI w1 (n:=0) (l:=([]:List Int)) rfl CR.empty rfl λH2 w2 s2 c2=>?_
 refine lSl w2 1 ?_
 obtain ⟨x3,h3,c3⟩:=(bj.step (s1.trans s2)).row rfl
 refine aP h3 ?_
 obtain ⟨l4,e4,hp⟩:=ah hp
 refine Gs eI w2 (i:=0) rfl rfl c2 c3 rfl rfl e4 λa5 d5 H5 w5 s5 c5 x5=>?_
 refine bI w5 λH6 w6 s6=>?_
 refine bu w6 0 λH7 w7 s7=>?_
 refine bu w7 0 λH8 w8 s8=>?_
 refine bu w8 0 λH9 w9 s9=>?_
 obtain ⟨w10,s10⟩:=w9.pp [1,0] 3
 exact ag.l125_P F rfl ⟨w10,(s0.trans (s1.trans (s2.trans (s5.trans (s6.trans (s7.trans (s8.trans (s9.trans s10)))))))),(c5.step (s6.trans (s7.trans (s8.trans (s9.trans s10)))))⟩ hp
def aF.Q (H0:Hp) (Ri R0:aaZ)  (r:Int) (v:AV) (H':Hp):Prop:=v=(.i r)/\Out H0 Ri H' (R0) λR=>True
def aF.S29 (H0:Hp) (Ri R0:aaZ)  (C:abw) (pC:abx):Prop:=∀ {mp jO mq ct bT bU cH},∀ {H:Hp},jO=ct.length->(Out H0 Ri H R0 λR=>ROs eI H R ⟨mp,jO,mq⟩ ct)->∀ {r:Int},pC ct bT bU cH=some r->Rt (C ⟨mp,jO,mq⟩ bT bU cH H) (aF.Q H0 Ri R0  r)
def aF.pj3 (F:Nat) (au:abx) (sy:aaX) (oa:Int) (ob:Int) (oc:Int):Option (Int):=au sy oa ob (wrap .i64 (oc+1))
theorem aF.j3_P  {C29_:abw} {au:abx} (hC29:aF.S29 H0 Ri R0  C29_ au) {Jm Ca Jn sy oa ob oc} (Th:Ca=sy.length) (h0:Out H0 Ri H R0 λR=>ROs eI H R ⟨Jm,Ca,Jn⟩ sy) {r:Int} (hp:aF.pj3 F au sy oa ob oc=some r):Rt (aF.j3 F  C29_ ⟨Jm,Ca,Jn⟩ oa ob oc H) (aF.Q H0 Ri R0  r):=by
 obtain ⟨w0,s0,Ti⟩:=h0
 subst Th
 unfold aF.pj3 at hp
 unfold aF.j3
 exact hC29 rfl ⟨w0,s0,Ti⟩ hp
def aF.pj4 (F:Nat) (au:abx) (sA:aaX) (od:Int) (oe:Int) (og:Int):Option (Int):=au sA od oe (wrap .i64 (og+1))
theorem aF.j4_P  {C29_:abw} {au:abx} (hC29:aF.S29 H0 Ri R0  C29_ au) {Jo Cb Jp sA od oe og} (Tj:Cb=sA.length) (h0:Out H0 Ri H R0 λR=>ROs eI H R ⟨Jo,Cb,Jp⟩ sA) {r:Int} (hp:aF.pj4 F au sA od oe og=some r):Rt (aF.j4 F  C29_ ⟨Jo,Cb,Jp⟩ od oe og H) (aF.Q H0 Ri R0  r):=by
 obtain ⟨w0,s0,Tk⟩:=h0
 subst Tj
 unfold aF.pj4 at hp
 unfold aF.j4
 exact hC29 rfl ⟨w0,s0,Tk⟩ hp
def aF.pl29 (F:Nat) :Nat->List Int->Int->Int->Int->Option (Int)
 | 0,_,_,_,_=>none
 | k+1,ct,bT,bU,cH=>(bif (decide (cH<(ct.length:Int))) then ((ix ct cH).bind λn1=>(bif (decide ((gt ct n1)>0)) then ((bif (decide (bU<0)) then (aF.pl29 F k ct (wrap .i64 (bT+1)) (wrap .i64 (0 - bU)) (wrap .i64 (cH+1))) else ((ix ct cH).bind λn2=>(bif (decide ((gt ct n2)<0)) then ((bif (decide (bU>0)) then (aF.pj3 F (aF.pl29 F k) ct (wrap .i64 (bT+1)) (wrap .i64 (0 - bU)) cH) else (aF.pj3 F (aF.pl29 F k) ct bT bU cH))) else (aF.pl29 F k ct bT bU (wrap .i64 (cH+1))))))) else ((ix ct cH).bind λn3=>(bif (decide ((gt ct n3)<0)) then ((bif (decide (bU>0)) then (aF.pj4 F (aF.pl29 F k) ct (wrap .i64 (bT+1)) (wrap .i64 (0 - bU)) cH) else (aF.pj4 F (aF.pl29 F k) ct bT bU cH))) else (aF.pl29 F k ct bT bU (wrap .i64 (cH+1))))))) else (some bT))
theorem aF.l29_P  :∀ k,aF.S29 H0 Ri R0  (aF.l29 F   k) (aF.pl29 F  k):=by
 intro k
 induction k with
 | zero=>unfold aF.S29;intros;rename_i hp;cases hp
 | succ k ih=>
  intro mp jO mq ct bT bU cH H Cc h0 r hp
  obtain ⟨w0,s0,gg⟩:=h0
  subst Cc
  unfold aF.pl29 at hp
  unfold aF.l29
  refine aL hp (λhp=>?_) λhp=>?_
  ·obtain ⟨n1,g1,hp⟩:=ah hp
   obtain ⟨p1,q1,i1,h1,j1⟩:=ROs.ixr gg rfl g1
   refine aP i1 ?_
   have h1:_=[_]:=h1
   subst h1
   refine aP (cU (j1 0 _ rfl)) ?_
   refine aL hp (λhp=>?_) λhp=>?_
   ·refine aL hp (λhp=>?_) λhp=>?_
    ·exact ih rfl ⟨w0,s0,gg⟩ hp
    ·obtain ⟨n2,g2,hp⟩:=ah hp
     obtain ⟨p2,q2,i2,h2,j2⟩:=ROs.ixr gg rfl g2
     refine aP i2 ?_
     have h2:_=[_]:=h2
     subst h2
     refine aP (cU (j2 0 _ rfl)) ?_
     refine aL hp (λhp=>?_) λhp=>?_
     ·refine aL hp (λhp=>?_) λhp=>?_
      ·exact aF.j3_P (@ih) rfl ⟨w0,s0,gg⟩ hp
      ·exact aF.j3_P (@ih) rfl ⟨w0,s0,gg⟩ hp
     ·exact ih rfl ⟨w0,s0,gg⟩ hp
   ·obtain ⟨n3,g3,hp⟩:=ah hp
    obtain ⟨p3,q3,i3,h3,j3⟩:=ROs.ixr gg rfl g3
    refine aP i3 ?_
    have h3:_=[_]:=h3
    subst h3
    refine aP (cU (j3 0 _ rfl)) ?_
    refine aL hp (λhp=>?_) λhp=>?_
    ·refine aL hp (λhp=>?_) λhp=>?_
     ·exact aF.j4_P (@ih) rfl ⟨w0,s0,gg⟩ hp
     ·exact aF.j4_P (@ih) rfl ⟨w0,s0,gg⟩ hp
    ·exact ih rfl ⟨w0,s0,gg⟩ hp
  ·exact aM hp ⟨rfl,w0,s0,trivial⟩
def aF.p (F:Nat) (aV:aaX):Option (Int):=aF.pl29 F F aV 0 1 0
theorem aF.P {dd ci de aV} (eB:ci=aV.length) (h0:Inn H R0 λR=>ROs eI H R ⟨dd,ci,de⟩ aV) {r:Int} (hp:aF.p F aV=some r):Rt (aF.tw F ⟨dd,ci,de⟩ H) (aF.Q H R0 R0  r):=by
 obtain ⟨w0,fg⟩:=h0
 subst eB
 unfold aF.p at hp
 unfold aF.tw aF.twX
 have s0:=w0.rf
 exact aF.l29_P F rfl ⟨w0,s0,fg⟩ hp
def aA.Q (H0:Hp) (Ri R0:aaZ)  (r:Int) (v:AV) (H':Hp):Prop:=v=(.i r)/\Out H0 Ri H' (R0) λR=>True
def aA.S29 (H0:Hp) (Ri R0:aaZ)  (C:Nat->Nat->Sl->Int->Hp->OA) (pC:Int->Int->List Int->List Int->Int->Option (Int)):Prop:=∀ {lg qA da Cd Ce xa cb xb Cg Ch mr jk Ci},∀ {H:Hp},xa=mr.length->xb=jk.length->(Out H0 Ri H (Rs.blk cb [.i lg,.i qA,.sl ⟨Cd,xa,Cg⟩]::Rs.own ⟨Ce,xb,Ch⟩ eI.z Ci::R0) λR=>ROs eI H R ⟨Cd,xa,Cg⟩ mr/\CR eI H R Ci jk)->∀ {r:Int},pC lg qA mr jk da=some r->Rt (C cb 0 ⟨Ce,xb,Ch⟩ da H) (aA.Q H0 Ri R0  r)
def aA.S125 (H0:Hp) (Ri R0:aaZ)  (C:abA) (pC:List Int->List Int->Int->Option (Int)):Prop:=∀ {Cj Ck xc xd Cl Cm gD ms Cn Co eo},∀ {H:Hp},xc=gD.length->xd=ms.length->(Out H0 Ri H (Rs.own ⟨Cj,xc,Cl⟩ eI.z Cn::Rs.own ⟨Ck,xd,Cm⟩ eI.z Co::R0) λR=>CR eI H R Cn gD/\CR eI H R Co ms)->∀ {r:Int},pC gD ms eo=some r->Rt (C ⟨Cj,xc,Cl⟩ ⟨Ck,xd,Cm⟩ eo H) (aA.Q H0 Ri R0  r)
def aA.pj1 (F:Nat)  (sB:aaX) (sC:aaX):Option (Int):=(aF.p F sC).bind λr3=>(aF.p F sB).bind λr8=>some (wrap .i64 (r3 - r8))
theorem aA.j1_P   {Jq Jr Cp Cq Js Jt sB sC Ju Jv} (Tl:Cp=sB.length) (Tn:Cq=sC.length) (h0:Out H0 Ri H (Rs.own ⟨Jq,Cp,Js⟩ eI.z Ju::Rs.own ⟨Jr,Cq,Jt⟩ eI.z Jv::R0) λR=>CR eI H R Ju sB/\CR eI H R Jv sC) {r:Int} (hp:aA.pj1 F  sB sC=some r):Rt (aA.j1 F (aj.tw F) (ag.tw F) (aF.tw F)  ⟨Jq,Cp,Js⟩ ⟨Jr,Cq,Jt⟩ H) (aA.Q H0 Ri R0  r):=by
 obtain ⟨w0,s0,To,Tp⟩:=h0
 subst Tl
 subst Tn
 unfold aA.pj1 at hp
 unfold aA.j1
 obtain ⟨w1,s1⟩:=w0.pp [1,0] 2
 have f2:=W.borrow1 eI w1 (Tp.step s1)
 obtain ⟨w2,s2⟩:=w1.right1
 obtain ⟨r3,e3,hp⟩:=ah hp
 refine bf (aF.P rfl ⟨w2,f2⟩ e3) ?_
 rintro _ H4 ⟨rfl,w4,s4,_⟩
 obtain ⟨w5,s5⟩:=W.frame1 w1 w4 s4
 refine br ?_
 obtain ⟨w6,s6⟩:=w5.pp [1,0] 2
 have f7:=W.borrow1 eI w6 (To.step (s1.trans (s5.trans s6)))
 obtain ⟨w7,s7⟩:=w6.right1
 obtain ⟨r8,e8,hp⟩:=ah hp
 refine bf (aF.P rfl ⟨w7,f7⟩ e8) ?_
 rintro _ H9 ⟨rfl,w9,s9,_⟩
 obtain ⟨w10,s10⟩:=W.frame1 w6 w9 s9
 refine br ?_
 obtain ⟨w11,s11⟩:=w10.pp [] 2
 exact aM hp ⟨rfl,w11,(s0.trans (s1.trans (s5.trans (s6.trans (s10.trans s11))))),trivial⟩
def aA.pl125 (F:Nat) :Nat->List Int->List Int->Int->Option (Int)
 | 0,_,_,_=>none
 | k+1,gD,ms,eo=>(bif (decide (eo<(gD.length:Int))) then ((ix gD eo).bind λn1=>(apn ms ([(wrap .i64 ((gt gD n1) * (wrap .i64 (1 - (wrap .i64 (2 * (Int.tmod eo 2)))))))]:List Int)).bind λl3=>aA.pl125 F k gD l3 (wrap .i64 (eo+1))) else (aA.pj1 F gD ms))
theorem aA.l125_P  :∀ k,aA.S125 H0 Ri R0  (aA.l125 F (aj.tw F) (ag.tw F) (aF.tw F)  k) (aA.pl125 F  k):=by
 intro k
 induction k with
 | zero=>unfold aA.S125;intros;rename_i hp;cases hp
 | succ k ih=>
  intro Cj Ck xc xd Cl Cm gD ms Cn Co eo H Tq Ts h0 r hp
  obtain ⟨w0,s0,Cr,Jw⟩:=h0
  subst Tq
  subst Ts
  unfold aA.pl125 at hp
  unfold aA.l125
  refine aL hp (λhp=>?_) λhp=>?_
  ·obtain ⟨n1,g1,hp⟩:=ah hp
   obtain ⟨p1,q1,i1,h1,j1⟩:=W.ixo (E:=eI) w0 (i:=0) rfl rfl Cr g1
   refine aP i1 ?_
   have h1:_=[_]:=h1
   subst h1
   refine aP (cU (j1 0 _ rfl)) ?_
   refine ue eI w0 (n:=1) (l:=([(wrap .i64 ((gt gD n1) * (wrap .i64 (1 - (wrap .i64 (2 * (Int.tmod eo 2)))))))]:List Int)) rfl (CR.cons1 rfl CR.empty) rfl λH2 w2 s2 c2=>?_
   refine aP (w2.rowo (i:=0) rfl) ?_
   obtain ⟨l3,e3,hp⟩:=ah hp
   refine Gs eI w2 (i:=2) rfl rfl (Jw.step s2) c2 (show 1=List.length ([(wrap .i64 ((gt gD n1) * (wrap .i64 (1 - (wrap .i64 (2 * (Int.tmod eo 2)))))))]:List Int) from rfl) rfl e3 λa4 d4 H4 w4 s4 c4 x4=>?_
   obtain ⟨w5,s5⟩:=w4.pp [1,2] 3
   exact ih rfl rfl ⟨w5,(s0.trans (s2.trans (s4.trans s5))),(Cr.step (s2.trans (s4.trans s5))),(c4.step s5)⟩ hp
  ·exact aA.j1_P rfl rfl ⟨w0,s0,Cr,Jw⟩ hp
def aA.pj2 (F:Nat)  (sD:aaX):Option (Int):=aA.pl125 F F sD ([]:List Int) 0
theorem aA.j2_P   {Jx Ct Jy sD Jz} (Tt:Ct=sD.length) (h0:Out H0 Ri H (Rs.own ⟨Jx,Ct,Jy⟩ eI.z Jz::R0) λR=>CR eI H R Jz sD) {r:Int} (hp:aA.pj2 F  sD=some r):Rt (aA.j2 F (aj.tw F) (ag.tw F) (aF.tw F)  ⟨Jx,Ct,Jy⟩ H) (aA.Q H0 Ri R0  r):=by
 obtain ⟨w0,s0,Tu⟩:=h0
 subst Tt
 unfold aA.pj2 at hp
 unfold aA.j2
 refine ue eI w0 (n:=0) (l:=([]:List Int)) rfl CR.empty rfl λH1 w1 s1 c1=>?_
 obtain ⟨w2,s2⟩:=w1.pp [1,0] 2
 exact aA.l125_P F rfl (show 0=List.length ([]:List Int) from rfl) ⟨w2,(s0.trans (s1.trans s2)),(Tu.step (s1.trans s2)),(c1.step s2)⟩ hp
def aA.pl29 (F:Nat) :Nat->Int->Int->List Int->List Int->Int->Option (Int)
 | 0,_,_,_,_,_=>none
 | k+1,lg,qA,mr,jk,da=>(if (IntKind.u64.wrap lg)<0 then none else ((bif (decide (da<(wrap .i64 (1 * 2 ^ (min ((IntKind.u64.wrap lg):Int).toNat (IntKind.i64).bits))))) then ((aj.p F lg qA mr da).bind λr2=>(ix jk r2.2.2.2).bind λn8=>(ag.p F r2.1 r2.2.2.1).bind λr11=>(ix jk r2.2.2.2).bind λn15=>(some (jk.set n15 (wrap .i64 ((gt jk n8)+r11)))).bind λl16=>aA.pl29 F k lg qA mr l16 (wrap .i64 (da+1))) else (aA.pj2 F jk))))
theorem aA.l29_P  :∀ k,aA.S29 H0 Ri R0  (aA.l29 F (aj.tw F) (ag.tw F) (aF.tw F)  k) (aA.pl29 F  k):=by
 intro k
 induction k with
 | zero=>unfold aA.S29;intros;rename_i hp;cases hp
 | succ k ih=>
  intro lg qA da Cd Ce xa cb xb Cg Ch mr jk Ci H Tv Tw h0 r hp
  obtain ⟨w0,s0,JA,xe⟩:=h0
  subst Tv
  subst Tw
  unfold aA.pl29 at hp
  unfold aA.l29
  refine lI w0 0 ?_
  obtain ⟨g1,hp⟩:=uc hp
  refine ud g1 ?_
  refine aL hp (λhp=>?_) λhp=>?_
  ·refine lI w0 0 ?_
   refine lI w0 0 ?_
   refine lSl w0 0 ?_
   obtain ⟨r2,e2,hp⟩:=ah hp
   refine bf (aj.P rfl ⟨w0,JA⟩ e2) ?_
   rintro _ H3 ⟨o2a_3,o2n_3,o2c_3,o2k_3,rfl,rfl,w3,s3,f3_0⟩
   refine br (br (br (br (br (br (br (br (br (br (br ?_))))))))))
   refine bI w3 λH4 w4 s4=>?_
   refine bu w4 0 λH5 w5 s5=>?_
   refine bu w5 0 λH6 w6 s6=>?_
   refine bu w6 0 λH7 w7 s7=>?_
   obtain ⟨n8,g8,hp⟩:=ah hp
   obtain ⟨p8,q8,i8,h8,j8⟩:=W.ixo (E:=eI) w7 (i:=3) rfl rfl (xe.step (s3.trans (s4.trans (s5.trans (s6.trans s7))))) g8
   refine aP i8 ?_
   have h8:_=[_]:=h8
   subst h8
   refine aP (cU (j8 0 _ rfl)) ?_
   refine lI w7 0 ?_
   refine lI w7 0 ?_
   refine lSl w7 0 ?_
   obtain ⟨w9,s9⟩:=w7.pp [1,0,2,3] 4
   have f10:=W.borrow1 eI w9 (f3_0.step (s4.trans (s5.trans (s6.trans (s7.trans s9)))))
   obtain ⟨w10,s10⟩:=w9.right1
   obtain ⟨r11,e11,hp⟩:=ah hp
   refine bf (ag.P rfl ⟨w10,f10⟩ e11) ?_
   rintro _ H12 ⟨rfl,w12,s12,_⟩
   obtain ⟨w13,s13⟩:=W.frame1 w9 w12 s12
   refine br ?_
   refine dW (ax.tr (ax.refl _) s9 (W.cons_of (Rn:=[]) w10 w12 s12)) ?_
   obtain ⟨n15,g15,hp⟩:=ah hp
   obtain ⟨p15,q15,i15,h15,j15⟩:=W.ixo (E:=eI) w13 (i:=3) rfl rfl (xe.step (s3.trans (s4.trans (s5.trans (s6.trans (s7.trans (s9.trans s13))))))) g15
   refine aP i15 ?_
   obtain ⟨l16,e16,hp⟩:=ah hp
   refine gn eI w13 (i:=3) (j:=0) (p:=p15) rfl rfl (xe.step (s3.trans (s4.trans (s5.trans (s6.trans (s7.trans (s9.trans s13))))))) g15 i15 e16 rfl rfl (λ_ h=>by have h:_=[_]:=h;subst h;exact rfl) λH17 k17 w17 s17 c17=>?_
   obtain ⟨w18,s18⟩:=w17.pp [2,3] 4
   exact ih rfl ((gp e16).symm) ⟨w18,(s0.trans (s3.trans (s4.trans (s5.trans (s6.trans (s7.trans (s9.trans (s13.trans (s17.trans s18))))))))),(JA.step (s3.trans (s4.trans (s5.trans (s6.trans (s7.trans (s9.trans (s13.trans (s17.trans s18))))))))),(c17.step s18)⟩ hp
  ·obtain ⟨w19,s19⟩:=w0.pp [1] 2
   exact aA.j2_P rfl ⟨w19,(s0.trans s19),(xe.step s19)⟩ hp
def aA.p (F:Nat) (aa:Int) (ac:Int) (ak:aaX):Option (Int):=(mkn (wrap .i64 (aa+1)) (0:Int)).bind λl2=>aA.pl29 F F aa ac ak l2 0
theorem aA.P {aa ac aZ aH a_ ak} (bO:aH=ak.length) (h0:Inn H R0 λR=>ROs eI H R ⟨aZ,aH,a_⟩ ak) {r:Int} (hp:aA.p F aa ac ak=some r):Rt (aA.tw F aa ac ⟨aZ,aH,a_⟩ H) (aA.Q H R0 R0  r):=by
 obtain ⟨w0,bj⟩:=h0
 subst bO
 unfold aA.p at hp
 unfold aA.tw aA.twX
 have s0:=w0.rf
 refine bI w0 λH1 w1 s1=>?_
 refine lI w1 0 ?_
 obtain ⟨l2,e2,hp⟩:=ah hp
 refine ub eI (0:Int) w1 rfl rfl rfl e2 λH3 k3 w3 s3 c3=>?_
 obtain ⟨w4,s4⟩:=w3.pp [1,0] 2
 exact aA.l29_P F rfl rfl ⟨w4,(s0.trans (s1.trans (s3.trans s4))),(bj.step (s1.trans (s3.trans s4))),(c3.step s4)⟩ hp
def cK.Q (H0:Hp) (Ri R0:aaZ)  (r:Int×Int) (v:AV) (H':Hp):Prop:=v=(.tup [(.i r.1),(.i r.2)])/\Out H0 Ri H' (R0) λR=>True
def cK.p (F:Nat) (aa:Int) (ac:Int) (ak:aaX):Option (Int×Int):=(aY.p F aa ac ak).bind λr2=>(bif (!r2) then (some (0,1)) else ((av.p F aa ac ak).bind λr5=>(bC.p F aa ac ak r5.1 r5.2.1 r5.2.2).bind λr9=>(bif (!r9) then (some (0,2)) else ((bif (decide (aa>12)) then (some (0,3)) else ((az.p F aa ac ak).bind λr14=>(bif (!r14) then (some (0,3)) else ((aA.p F aa ac ak).bind λr17=>some (r17,0)))))))))
theorem cK.P {aa ac aZ aH a_ ak} (bO:aH=ak.length) (h0:Inn H R0 λR=>ROs eI H R ⟨aZ,aH,a_⟩ ak) {r:Int×Int} (hp:cK.p F aa ac ak=some r):Rt (cK.tw F aa ac ⟨aZ,aH,a_⟩ H) (cK.Q H R0 R0  r):=by
 obtain ⟨w0,bj⟩:=h0
 subst bO
 unfold cK.p at hp
 unfold cK.tw cK.twX
 have s0:=w0.rf
 refine bI w0 λH1 w1 s1=>?_
 refine lI w1 0 ?_
 refine lI w1 0 ?_
 refine lSl w1 0 ?_
 obtain ⟨r2,e2,hp⟩:=ah hp
 refine bf (aY.P rfl ⟨w1,(bj.step s1)⟩ e2) ?_
 rintro _ H3 ⟨rfl,w3,s3,_⟩
 refine br ?_
 refine aL hp (λhp=>?_) λhp=>?_
 ·obtain ⟨w4,s4⟩:=w3.pp [] 1
  exact aM hp ⟨rfl,w4,(s0.trans (s1.trans (s3.trans s4))),trivial⟩
 ·refine lI w3 0 ?_
  refine lI w3 0 ?_
  refine lSl w3 0 ?_
  refine lI w3 0 ?_
  refine lI w3 0 ?_
  refine lSl w3 0 ?_
  obtain ⟨r5,e5,hp⟩:=ah hp
  refine bf (av.P rfl ⟨w3,(bj.step (s1.trans s3))⟩ e5) ?_
  rintro _ H6 ⟨o2a_6,o2n_6,o2c_6,o2k_6,rfl,rfl,w6,s6,f6_0⟩
  refine br (br (br (br (br (br (br ?_))))))
  refine dW (W.cons_of (Rn:=[_]) w3 w6 s6) ?_
  have f8:=W.borrow1 eI w6 f6_0
  obtain ⟨w8,s8⟩:=w6.right1
  obtain ⟨r9,e9,hp⟩:=ah hp
  refine bf (bC.P rfl rfl ⟨w8,((bj.step (s1.trans (s3.trans s6))).step s8),f8⟩ e9) ?_
  rintro _ H10 ⟨rfl,w10,s10,_⟩
  obtain ⟨w11,s11⟩:=W.frame1 w6 w10 s10
  refine br ?_
  refine aL hp (λhp=>?_) λhp=>?_
  ·obtain ⟨w12,s12⟩:=w11.pp [] 2
   exact aM hp ⟨rfl,w12,(s0.trans (s1.trans (s3.trans (s6.trans (s11.trans s12))))),trivial⟩
  ·refine lI w11 1 ?_
   refine aL hp (λhp=>?_) λhp=>?_
   ·obtain ⟨w13,s13⟩:=w11.pp [] 2
    exact aM hp ⟨rfl,w13,(s0.trans (s1.trans (s3.trans (s6.trans (s11.trans s13))))),trivial⟩
   ·refine lI w11 1 ?_
    refine lI w11 1 ?_
    refine lSl w11 1 ?_
    obtain ⟨r14,e14,hp⟩:=ah hp
    refine bf (az.P rfl ⟨w11,(bj.step (s1.trans (s3.trans (s6.trans s11))))⟩ e14) ?_
    rintro _ H15 ⟨rfl,w15,s15,_⟩
    refine br ?_
    refine aL hp (λhp=>?_) λhp=>?_
    ·obtain ⟨w16,s16⟩:=w15.pp [] 2
     exact aM hp ⟨rfl,w16,(s0.trans (s1.trans (s3.trans (s6.trans (s11.trans (s15.trans s16)))))),trivial⟩
    ·refine lI w15 1 ?_
     refine lI w15 1 ?_
     refine lSl w15 1 ?_
     obtain ⟨r17,e17,hp⟩:=ah hp
     refine bf (aA.P rfl ⟨w15,(bj.step (s1.trans (s3.trans (s6.trans (s11.trans s15)))))⟩ e17) ?_
     rintro _ H18 ⟨rfl,w18,s18,_⟩
     refine br ?_
     obtain ⟨w19,s19⟩:=w18.pp [] 2
     exact aM hp ⟨rfl,w19,(s0.trans (s1.trans (s3.trans (s6.trans (s11.trans (s15.trans (s18.trans s19))))))),trivial⟩
def cQ.Q (H0:Hp) (Ri R0:aaZ)  (r:Bool) (v:AV) (H':Hp):Prop:=v=(.bool r)/\Out H0 Ri H' (R0) λR=>True
def cQ.p (F:Nat) (aa:Int) (aI:Int) (di:Int):Option (Bool):=(bif (decide (aI<=aa)) then (some (decide (aa<=di))) else (some false))
theorem cQ.P {aa aI di}  (h0:Inn H R0 λR=>True) {r:Bool} (hp:cQ.p F aa aI di=some r):Rt (cQ.tw F aa aI di H) (cQ.Q H R0 R0  r):=by
 obtain ⟨w0,_⟩:=h0
 unfold cQ.p at hp
 unfold cQ.tw cQ.twX
 have s0:=w0.rf
 refine aL hp (λhp=>?_) λhp=>?_
 ·exact aM hp ⟨rfl,w0,s0,trivial⟩
 ·exact aM hp ⟨rfl,w0,s0,trivial⟩
def dI.Q (H0:Hp) (Ri R0:aaZ)  (r:Int) (v:AV) (H':Hp):Prop:=v=(.i r)/\Out H0 Ri H' (R0) λR=>True
def dI.p (F:Nat) (aV:aaX):Option (Int):=some (aV.length:Int)
theorem dI.P {dd ci de aV} (eB:ci=aV.length) (h0:Inn H R0 λR=>ROs eI H R ⟨dd,ci,de⟩ aV) {r:Int} (hp:dI.p F aV=some r):Rt (dI.tw F ⟨dd,ci,de⟩ H) (dI.Q H R0 R0  r):=by
 obtain ⟨w0,fg⟩:=h0
 subst eB
 unfold dI.p at hp
 unfold dI.tw dI.twX
 have s0:=w0.rf
 exact aM hp ⟨rfl,w0,s0,trivial⟩
def dc.Q (H0:Hp) (Ri R0:aaZ)  (r:Bool) (v:AV) (H':Hp):Prop:=v=(.bool r)/\Out H0 Ri H' (R0) λR=>True
def dc.p (F:Nat) (aa:Int):Option (Bool):=(cQ.p F aa (-1000000000000) 1000000000000).bind λr1=>some (!r1)
theorem dc.P {aa}  (h0:Inn H R0 λR=>True) {r:Bool} (hp:dc.p F aa=some r):Rt (dc.tw F aa H) (dc.Q H R0 R0  r):=by
 obtain ⟨w0,_⟩:=h0
 unfold dc.p at hp
 unfold dc.tw dc.twX
 have s0:=w0.rf
 obtain ⟨r1,e1,hp⟩:=ah hp
 refine bf (cQ.P ⟨w0,trivial⟩ e1) ?_
 rintro _ H2 ⟨rfl,w2,s2,_⟩
 refine br ?_
 exact aM hp ⟨rfl,w2,(s0.trans s2),trivial⟩
def bo.Q (H0:Hp) (Ri R0:aaZ)  (r:Int) (v:AV) (H':Hp):Prop:=v=(.i r)/\Out H0 Ri H' (R0) λR=>True
def bo.S13 (H0:Hp) (Ri R0:aaZ)  (C:Sl->Int->Int->Hp->OA) (pC:List Int->Int->Int->Option (Int)):Prop:=∀ {mp jO mq ct fy dJ},∀ {H:Hp},jO=ct.length->(Out H0 Ri H R0 λR=>ROs eI H R ⟨mp,jO,mq⟩ ct)->∀ {r:Int},pC ct fy dJ=some r->Rt (C ⟨mp,jO,mq⟩ fy dJ H) (bo.Q H0 Ri R0  r)
def bo.pl13 (F:Nat) :Nat->List Int->Int->Int->Option (Int)
 | 0,_,_,_=>none
 | k+1,ct,fy,dJ=>(bif (decide (dJ<fy)) then ((ix ct dJ).bind λn1=>(dc.p F (gt ct n1)).bind λr2=>(bif r2 then (some dJ) else (bo.pl13 F k ct fy (wrap .i64 (dJ+1))))) else (some (-1)))
theorem bo.l13_P  :∀ k,bo.S13 H0 Ri R0  (bo.l13 F (dc.tw F)  k) (bo.pl13 F  k):=by
 intro k
 induction k with
 | zero=>unfold bo.S13;intros;rename_i hp;cases hp
 | succ k ih=>
  intro mp jO mq ct fy dJ H Cc h0 r hp
  obtain ⟨w0,s0,gg⟩:=h0
  subst Cc
  unfold bo.pl13 at hp
  unfold bo.l13
  refine aL hp (λhp=>?_) λhp=>?_
  ·obtain ⟨n1,g1,hp⟩:=ah hp
   obtain ⟨p1,q1,i1,h1,j1⟩:=ROs.ixr gg rfl g1
   refine aP i1 ?_
   have h1:_=[_]:=h1
   subst h1
   refine aP (cU (j1 0 _ rfl)) ?_
   obtain ⟨r2,e2,hp⟩:=ah hp
   refine bf (dc.P ⟨w0,trivial⟩ e2) ?_
   rintro _ H3 ⟨rfl,w3,s3,_⟩
   refine br ?_
   refine aL hp (λhp=>?_) λhp=>?_
   ·exact aM hp ⟨rfl,w3,(s0.trans s3),trivial⟩
   ·exact ih rfl ⟨w3,(s0.trans s3),(gg.step s3)⟩ hp
  ·exact aM hp ⟨rfl,w0,s0,trivial⟩
def bo.p (F:Nat) (aV:aaX):Option (Int):=bo.pl13 F F aV (aV.length:Int) 0
theorem bo.P {dd ci de aV} (eB:ci=aV.length) (h0:Inn H R0 λR=>ROs eI H R ⟨dd,ci,de⟩ aV) {r:Int} (hp:bo.p F aV=some r):Rt (bo.tw F ⟨dd,ci,de⟩ H) (bo.Q H R0 R0  r):=by
 obtain ⟨w0,fg⟩:=h0
 subst eB
 unfold bo.p at hp
 unfold bo.tw bo.twX
 have s0:=w0.rf
 exact bo.l13_P F rfl ⟨w0,s0,fg⟩ hp
def dg.Q (H0:Hp) (Ri R0:aaZ)  (r:Bool) (v:AV) (H':Hp):Prop:=v=(.bool r)/\Out H0 Ri H' (R0) λR=>True
def dg.p (F:Nat) (aV:aaX):Option (Bool):=(bo.p F aV).bind λr1=>some (decide (r1>=0))
theorem dg.P {dd ci de aV} (eB:ci=aV.length) (h0:Inn H R0 λR=>ROs eI H R ⟨dd,ci,de⟩ aV) {r:Bool} (hp:dg.p F aV=some r):Rt (dg.tw F ⟨dd,ci,de⟩ H) (dg.Q H R0 R0  r):=by
 obtain ⟨w0,fg⟩:=h0
 subst eB
 unfold dg.p at hp
 unfold dg.tw dg.twX
 have s0:=w0.rf
 obtain ⟨r1,e1,hp⟩:=ah hp
 refine bf (bo.P rfl ⟨w0,fg⟩ e1) ?_
 rintro _ H2 ⟨rfl,w2,s2,_⟩
 refine br ?_
 exact aM hp ⟨rfl,w2,(s0.trans s2),trivial⟩
def bN.Q (H0:Hp) (Ri R0:aaZ)  (r:Bool) (v:AV) (H':Hp):Prop:=v=(.bool r)/\Out H0 Ri H' (R0) λR=>True
def bN.p (F:Nat) (aa:Int) (ac:Int) (ak:aaX):Option (Bool):=(cQ.p F aa 0 48).bind λr2=>(bif r2 then ((cQ.p F ac 0 48).bind λr4=>(bif r4 then ((dI.p F ak).bind λr6=>(bif (r6==(wrap .i64 (aa * ac))) then ((dg.p F ak).bind λr9=>some (!r9)) else (some false))) else (some false))) else (some false))
theorem bN.P {aa ac aZ aH a_ ak} (bO:aH=ak.length) (h0:Inn H R0 λR=>ROs eI H R ⟨aZ,aH,a_⟩ ak) {r:Bool} (hp:bN.p F aa ac ak=some r):Rt (bN.tw F aa ac ⟨aZ,aH,a_⟩ H) (bN.Q H R0 R0  r):=by
 obtain ⟨w0,bj⟩:=h0
 subst bO
 unfold bN.p at hp
 unfold bN.tw bN.twX
 have s0:=w0.rf
 refine bI w0 λH1 w1 s1=>?_
 refine lI w1 0 ?_
 obtain ⟨r2,e2,hp⟩:=ah hp
 refine bf (cQ.P ⟨w1,trivial⟩ e2) ?_
 rintro _ H3 ⟨rfl,w3,s3,_⟩
 refine br ?_
 refine aL hp (λhp=>?_) λhp=>?_
 ·refine lI w3 0 ?_
  obtain ⟨r4,e4,hp⟩:=ah hp
  refine bf (cQ.P ⟨w3,trivial⟩ e4) ?_
  rintro _ H5 ⟨rfl,w5,s5,_⟩
  refine br ?_
  refine aL hp (λhp=>?_) λhp=>?_
  ·refine lSl w5 0 ?_
   obtain ⟨r6,e6,hp⟩:=ah hp
   refine bf (dI.P rfl ⟨w5,(bj.step (s1.trans (s3.trans s5)))⟩ e6) ?_
   rintro _ H7 ⟨rfl,w7,s7,_⟩
   refine br ?_
   refine dW (W.cons_of (Rn:=[]) w5 w7 s7) ?_
   refine lI w7 0 ?_
   refine lI w7 0 ?_
   refine aL hp (λhp=>?_) λhp=>?_
   ·refine lSl w7 0 ?_
    obtain ⟨r9,e9,hp⟩:=ah hp
    refine bf (dg.P rfl ⟨w7,(bj.step (s1.trans (s3.trans (s5.trans s7))))⟩ e9) ?_
    rintro _ H10 ⟨rfl,w10,s10,_⟩
    refine br ?_
    obtain ⟨w11,s11⟩:=w10.pp [] 1
    exact aM hp ⟨rfl,w11,(s0.trans (s1.trans (s3.trans (s5.trans (s7.trans (s10.trans s11)))))),trivial⟩
   ·obtain ⟨w12,s12⟩:=w7.pp [] 1
    exact aM hp ⟨rfl,w12,(s0.trans (s1.trans (s3.trans (s5.trans (s7.trans s12))))),trivial⟩
  ·obtain ⟨w13,s13⟩:=w5.pp [] 1
   exact aM hp ⟨rfl,w13,(s0.trans (s1.trans (s3.trans (s5.trans s13)))),trivial⟩
 ·obtain ⟨w14,s14⟩:=w3.pp [] 1
  exact aM hp ⟨rfl,w14,(s0.trans (s1.trans (s3.trans s14))),trivial⟩
def bD.Q (H0:Hp) (Ri R0:aaZ)  (r:aa5) (v:AV) (H':Hp):Prop:=∃ o2a:ON,∃ o2n:Nat,∃ o2k:List AV,v=(.agg [(.i r.1),(.i r.2.1),(.sl ⟨o2a,o2n,.ex o2n⟩)])/\o2n=(r.2.2).length/\Out H0 Ri H' (Rs.own ⟨o2a,o2n,.ex o2n⟩ eI.z o2k::R0) λR=>CR eI H' R o2k (r.2.2)
def bD.p (F:Nat) (aa:Int) (aI:Int):Option (Int×Int×List Int):=(mkn (wrap .i64 (aa * aI)) (0:Int)).bind λl2=>some (aa,aI,l2)
theorem bD.P {aa aI}  (h0:Inn H R0 λR=>True) {r:aa5} (hp:bD.p F aa aI=some r):Rt (bD.tw F aa aI H) (bD.Q H R0 R0  r):=by
 obtain ⟨w0,_⟩:=h0
 unfold bD.p at hp
 unfold bD.tw bD.twX
 have s0:=w0.rf
 refine bI w0 λH1 w1 s1=>?_
 obtain ⟨l2,e2,hp⟩:=ah hp
 refine ub eI (0:Int) w1 rfl rfl rfl e2 λH3 k3 w3 s3 c3=>?_
 refine bu w3 1 λH4 w4 s4=>?_
 refine bu w4 1 λH5 w5 s5=>?_
 refine bu w5 1 λH6 w6 s6=>?_
 refine lI w6 1 ?_
 refine lI w6 1 ?_
 refine lSl w6 1 ?_
 obtain ⟨w7,s7⟩:=w6.pp [0] 2
 exact aM hp ⟨_,_,_,rfl,rfl,w7,(s0.trans (s1.trans (s3.trans (s4.trans (s5.trans (s6.trans s7)))))),(c3.step (s4.trans (s5.trans (s6.trans s7))))⟩
def aw.Q (H0:Hp) (Ri R0:aaZ)  (r:aa5) (v:AV) (H':Hp):Prop:=∃ o2a:ON,∃ o2n:Nat,∃ o2c:Cap,∃ o2k:List AV,v=(.agg [(.i r.1),(.i r.2.1),(.sl ⟨o2a,o2n,o2c⟩)])/\o2n=(r.2.2).length/\Out H0 Ri H' (Rs.own ⟨o2a,o2n,o2c⟩ eI.z o2k::R0) λR=>CR eI H' R o2k (r.2.2)
def aw.S61 (H0:Hp) (Ri R0:aaZ)  (C:abg) (pC:abr):Prop:=∀ {JB qB JC JD qC qD g_ fV Cu Cv Cw xf fJ xh dp xi dY Cx Cy Cz qE CA mu CB CC},∀ {H:Hp},xf=qE.length->xh=CA.length->xi=mu.length->(Out H0 Ri H (Rs.blk fJ [.i JB,.i qB,.sl ⟨Cu,xf,Cx⟩]::Rs.own ⟨Cv,xh,Cy⟩ eI.z CB::Rs.blk dp [.i JC,.i JD,.sl ⟨Cv,xh,Cy⟩]::Rs.own ⟨Cw,xi,Cz⟩ eI.z CC::Rs.blk dY [.i qC,.i qD,.sl ⟨Cw,xi,Cz⟩]::R0) λR=>ROs eI H R ⟨Cu,xf,Cx⟩ qE/\CR eI H R CB CA/\CR eI H R CC mu)->∀ {r:aa5},pC qB qE qC qD mu g_ fV=some r->Rt (C fJ 0 dp 0 dY 0 g_ fV H) (aw.Q H0 Ri R0  r)
def aw.S3931 (H0:Hp) (Ri R0:aaZ)  (C:Nat->Nat->Nat->Nat->Nat->Nat->Int->Int->Int->Int->Int->Hp->OA) (pC:Int->List Int->Int->Int->List Int->Int->Int->Int->Int->Int->Option (Int×Int×List Int)):Prop:=∀ {JE mv JF JG qF mw gX gY fU gZ fa CD CE CF xj gV xk kA xm gW CG CH CI jP CJ li CK CL},∀ {H:Hp},xj=jP.length->xk=CJ.length->xm=li.length->(Out H0 Ri H (Rs.blk gV [.i JE,.i mv,.sl ⟨CD,xj,CG⟩]::Rs.own ⟨CE,xk,CH⟩ eI.z CK::Rs.blk kA [.i JF,.i JG,.sl ⟨CE,xk,CH⟩]::Rs.own ⟨CF,xm,CI⟩ eI.z CL::Rs.blk gW [.i qF,.i mw,.sl ⟨CF,xm,CI⟩]::R0) λR=>ROs eI H R ⟨CD,xj,CG⟩ jP/\CR eI H R CK CJ/\CR eI H R CL li)->∀ {r:aa5},pC mv jP qF mw li gX gY fU gZ fa=some r->Rt (C gV 0 kA 0 gW 0 gX gY fU gZ fa H) (aw.Q H0 Ri R0  r)
def aw.pj3 (F:Nat) (cx:abr) (xn:Int) (sE:aaX) (xo:Int) (xp:Int) (sF:aaX) (oz:Int) (oA:Int):Option (Int×Int×List Int):=cx xn sE xo xp sF oz (wrap .i64 (oA+1))
theorem aw.j3_P  {C61_:abg} {cx:abr} (hC61:aw.S61 H0 Ri R0  C61_ cx) {Tx xn Ty Tz xo xp oz oA JH JI JJ CM uX CN uY CO uZ JK JL JM sE JN sF JO JP} (TA:CM=sE.length) (TC:CN=JN.length) (TE:CO=sF.length) (h0:Out H0 Ri H (Rs.blk uX [.i Tx,.i xn,.sl ⟨JH,CM,JK⟩]::Rs.own ⟨JI,CN,JL⟩ eI.z JO::Rs.blk uY [.i Ty,.i Tz,.sl ⟨JI,CN,JL⟩]::Rs.own ⟨JJ,CO,JM⟩ eI.z JP::Rs.blk uZ [.i xo,.i xp,.sl ⟨JJ,CO,JM⟩]::R0) λR=>ROs eI H R ⟨JH,CM,JK⟩ sE/\CR eI H R JO JN/\CR eI H R JP sF) {r:aa5} (hp:aw.pj3 F cx xn sE xo xp sF oz oA=some r):Rt (aw.j3 F (bN.tw F) (bD.tw F) (bZ.tw F) C61_ uX 0 uY 0 uZ 0 oz oA H) (aw.Q H0 Ri R0  r):=by
 obtain ⟨w0,s0,TF,TG,TH⟩:=h0
 subst TA
 subst TC
 subst TE
 unfold aw.pj3 at hp
 unfold aw.j3
 exact hC61 rfl rfl rfl ⟨w0,s0,TF,TG,TH⟩ hp
def aw.pj4 (F:Nat) (cx:abr) (xq:Int) (sG:aaX) (xr:Int) (xt:Int) (sH:aaX) (oB:Int) (oC:Int):Option (Int×Int×List Int):=aw.pj3 F cx xq sG xr xt sH oB oC
theorem aw.j4_P  {C61_:abg} {cx:abr} (hC61:aw.S61 H0 Ri R0  C61_ cx) {TJ xq TK TL xr xt oB oC JQ JR JS CP u_ CQ va CS vb JT JU JV sG JW sH JX JY} (TN:CP=sG.length) (TO:CQ=JW.length) (TP:CS=sH.length) (h0:Out H0 Ri H (Rs.blk u_ [.i TJ,.i xq,.sl ⟨JQ,CP,JT⟩]::Rs.own ⟨JR,CQ,JU⟩ eI.z JX::Rs.blk va [.i TK,.i TL,.sl ⟨JR,CQ,JU⟩]::Rs.own ⟨JS,CS,JV⟩ eI.z JY::Rs.blk vb [.i xr,.i xt,.sl ⟨JS,CS,JV⟩]::R0) λR=>ROs eI H R ⟨JQ,CP,JT⟩ sG/\CR eI H R JX JW/\CR eI H R JY sH) {r:aa5} (hp:aw.pj4 F cx xq sG xr xt sH oB oC=some r):Rt (aw.j4 F (bN.tw F) (bD.tw F) (bZ.tw F) C61_ u_ 0 va 0 vb 0 oB oC H) (aw.Q H0 Ri R0  r):=by
 obtain ⟨w0,s0,TQ,TS,TT⟩:=h0
 subst TN
 subst TO
 subst TP
 unfold aw.pj4 at hp
 unfold aw.j4
 exact aw.j3_P (@hC61) rfl rfl rfl ⟨w0,s0,TQ,TS,TT⟩ hp
def aw.pl3931 (F:Nat) (cx:abr):Nat->Int->List Int->Int->Int->List Int->Int->Int->Int->Int->Int->Option (Int×Int×List Int)
 | 0,_,_,_,_,_,_,_,_,_,_=>none
 | k+1,mv,jP,qF,mw,li,gX,gY,fU,gZ,fa=>(bif (decide (fa<gZ)) then ((ix li (wrap .i64 ((wrap .i64 (fa * mw))+fU))).bind λn2=>(ix jP (wrap .i64 ((wrap .i64 (fU * mv))+fa))).bind λn5=>(some (li.set n2 (gt jP n5))).bind λl6=>aw.pl3931 F cx k mv jP qF mw l6 gX gY fU gZ (wrap .i64 (fa+1))) else (aw.pj4 F cx mv jP qF mw li gX gY))
theorem aw.l3931_P  {C61_:abg} {cx:abr} (hC61:aw.S61 H0 Ri R0  C61_ cx):∀ k,aw.S3931 H0 Ri R0  (aw.l3931 F (bN.tw F) (bD.tw F) (bZ.tw F) C61_ k) (aw.pl3931 F cx k):=by
 intro k
 induction k with
 | zero=>unfold aw.S3931;intros;rename_i hp;cases hp
 | succ k ih=>
  intro JE mv JF JG qF mw gX gY fU gZ fa CD CE CF xj gV xk kA xm gW CG CH CI jP CJ li CK CL H TU TV TW h0 r hp
  obtain ⟨w0,s0,CT,JZ,CU⟩:=h0
  subst TU
  subst TV
  subst TW
  unfold aw.pl3931 at hp
  unfold aw.l3931
  refine aL hp (λhp=>?_) λhp=>?_
  ·refine lI w0 4 ?_
   refine lI w0 4 ?_
   refine lSl w0 4 ?_
   refine bZ.inl ?_
   refine bI w0 λH1 w1 s1=>?_
   refine lSl w1 0 ?_
   refine lI w1 0 ?_
   obtain ⟨n2,g2,hp⟩:=ah hp
   obtain ⟨p2,q2,i2,h2,j2⟩:=W.ixo (E:=eI) w1 (i:=4) rfl rfl (CU.step s1) g2
   refine aP i2 ?_
   refine ⟨_,_,rfl,?_⟩
   refine br ?_
   refine dW (W.cons_of (Rn:=[_]) w0 w1 s1) ?_
   refine lI w1 1 ?_
   refine lI w1 1 ?_
   refine lSl w1 1 ?_
   refine bZ.inl ?_
   refine bI w1 λH4 w4 s4=>?_
   refine lSl w4 0 ?_
   refine lI w4 0 ?_
   obtain ⟨n5,g5,hp⟩:=ah hp
   obtain ⟨p5,q5,i5,h5,j5⟩:=ROs.ixr (CT.step (s1.trans s4)) rfl g5
   refine aP i5 ?_
   refine ⟨_,_,rfl,?_⟩
   refine br ?_
   have h5:_=[_]:=h5
   subst h5
   refine aP (cU (j5 0 _ rfl)) ?_
   obtain ⟨l6,e6,hp⟩:=ah hp
   refine gn eI w4 (i:=5) (j:=0) (p:=p2) rfl rfl (CU.step (s1.trans s4)) g2 i2 e6 rfl rfl (λ_ h=>by have h:_=[_]:=h;subst h;exact rfl) λH7 k7 w7 s7 c7=>?_
   obtain ⟨w8,s8⟩:=w7.pp [2,3,4,5,6] 7
   exact ih rfl rfl ((gp e6).symm) ⟨w8,(s0.trans (s1.trans (s4.trans (s7.trans s8)))),(CT.step (s1.trans (s4.trans (s7.trans s8)))),(JZ.step (s1.trans (s4.trans (s7.trans s8)))),(c7.step s8)⟩ hp
  ·exact aw.j4_P (@hC61) rfl rfl rfl ⟨w0,s0,CT,JZ,CU⟩ hp
def aw.pl61 (F:Nat) :Nat->Int->List Int->Int->Int->List Int->Int->Int->Option (Int×Int×List Int)
 | 0,_,_,_,_,_,_,_=>none
 | k+1,qB,qE,qC,qD,mu,g_,fV=>(bif (decide (fV<g_)) then (aw.pl3931 F (aw.pl61 F k) F qB qE qC qD mu g_ fV fV qB 0) else (some (qC,qD,mu)))
theorem aw.l61_P  :∀ k,aw.S61 H0 Ri R0  (aw.l61 F (bN.tw F) (bD.tw F) (bZ.tw F)  k) (aw.pl61 F  k):=by
 intro k
 induction k with
 | zero=>unfold aw.S61;intros;rename_i hp;cases hp
 | succ k ih=>
  intro JB qB JC JD qC qD g_ fV Cu Cv Cw xf fJ xh dp xi dY Cx Cy Cz qE CA mu CB CC H TX TY TZ h0 r hp
  obtain ⟨w0,s0,T_,Ua,J_⟩:=h0
  subst TX
  subst TY
  subst TZ
  unfold aw.pl61 at hp
  unfold aw.l61
  refine aL hp (λhp=>?_) λhp=>?_
  ·refine lI w0 0 ?_
   exact aw.l3931_P (@ih) F rfl rfl rfl ⟨w0,s0,T_,Ua,J_⟩ hp
  ·refine lI w0 4 ?_
   refine lI w0 4 ?_
   refine lSl w0 4 ?_
   refine bu w0 2 λH1 w1 s1=>?_
   refine bu w1 2 λH2 w2 s2=>?_
   refine bu w2 2 λH3 w3 s3=>?_
   refine lI w3 2 ?_
   refine lI w3 2 ?_
   refine lSl w3 2 ?_
   obtain ⟨w4,s4⟩:=w3.pp [3] 5
   exact aM hp ⟨_,_,_,_,rfl,rfl,w4,(s0.trans (s1.trans (s2.trans (s3.trans s4)))),(J_.step (s1.trans (s2.trans (s3.trans s4))))⟩
def aw.p (F:Nat) (aa:Int) (ac:Int) (ak:aaX):Option (Int×Int×List Int):=(bN.p F aa ac ak).bind λr3=>(bif (!r3) then (some (0,0,([]:List Int))) else ((bD.p F ac aa).bind λr10=>aw.pl61 F F ac ak r10.1 r10.2.1 r10.2.2 aa 0))
theorem aw.P {aa ac aZ aH a_ ak} (bO:aH=ak.length) (h0:Inn H R0 λR=>ROs eI H R ⟨aZ,aH,a_⟩ ak) {r:aa5} (hp:aw.p F aa ac ak=some r):Rt (aw.tw F aa ac ⟨aZ,aH,a_⟩ H) (aw.Q H R0 R0  r):=by
 obtain ⟨w0,bj⟩:=h0
 subst bO
 unfold aw.p at hp
 unfold aw.tw aw.twX
 have s0:=w0.rf
 refine bI w0 λH1 w1 s1=>?_
 refine bI w1 λH2 w2 s2=>?_
 refine lI w2 1 ?_
 refine lI w2 1 ?_
 refine lSl w2 1 ?_
 obtain ⟨r3,e3,hp⟩:=ah hp
 refine bf (bN.P rfl ⟨w2,(bj.step (s1.trans s2))⟩ e3) ?_
 rintro _ H4 ⟨rfl,w4,s4,_⟩
 refine br ?_
 refine aL hp (λhp=>?_) λhp=>?_
 ·refine bu w4 0 λH5 w5 s5=>?_
  refine bu w5 0 λH6 w6 s6=>?_
  refine bu w6 0 λH7 w7 s7=>?_
  refine lI w7 0 ?_
  refine lI w7 0 ?_
  refine lSl w7 0 ?_
  obtain ⟨w8,s8⟩:=w7.nilS eI.z (by decide)
  obtain ⟨w9,s9⟩:=w8.pp [0] 3
  exact aM hp ⟨_,_,_,_,rfl,rfl,w9,(s0.trans (s1.trans (s2.trans (s4.trans (s5.trans (s6.trans (s7.trans (s8.trans s9)))))))),((CR.empty:CR eI _ _ [] []).step s9)⟩
 ·refine lI w4 1 ?_
  refine lI w4 1 ?_
  obtain ⟨r10,e10,hp⟩:=ah hp
  refine bf (bD.P ⟨w4,trivial⟩ e10) ?_
  rintro _ H11 ⟨o2a_11,o2n_11,o2k_11,rfl,rfl,w11,s11,f11_0⟩
  refine br (br (br (br (br (br (br ?_))))))
  refine bI w11 λH12 w12 s12=>?_
  refine bu w12 0 λH13 w13 s13=>?_
  refine bu w13 0 λH14 w14 s14=>?_
  refine bu w14 0 λH15 w15 s15=>?_
  refine lI w15 3 ?_
  obtain ⟨w16,s16⟩:=w15.nilS eI.z (by decide)
  obtain ⟨w17,s17⟩:=w16.pp [4,0,3,2,1] 5
  exact aw.l61_P F rfl rfl rfl ⟨w17,(s0.trans (s1.trans (s2.trans (s4.trans (s11.trans (s12.trans (s13.trans (s14.trans (s15.trans (s16.trans s17)))))))))),(bj.step (s1.trans (s2.trans (s4.trans (s11.trans (s12.trans (s13.trans (s14.trans (s15.trans (s16.trans s17)))))))))),((CR.empty:CR eI _ _ [] []).step s17),(f11_0.step (s12.trans (s13.trans (s14.trans (s15.trans (s16.trans s17))))))⟩ hp
def bE.Q (H0:Hp) (Ri R0:aaZ)  (r:Bool) (v:AV) (H':Hp):Prop:=v=(.bool r)/\Out H0 Ri H' (R0) λR=>True
def bE.S29 (H0:Hp) (Ri R0:aaZ)  (C:Sl->Sl->Int->Int->Hp->OA) (pC:List Int->List Int->Int->Int->Option (Bool)):Prop:=∀ {iL mz fz jQ iM mA cS eC hJ fb},∀ {H:Hp},fz=cS.length->jQ=eC.length->(Out H0 Ri H R0 λR=>ROs eI H R ⟨iL,fz,iM⟩ cS/\ROs eI H R ⟨mz,jQ,mA⟩ eC)->∀ {r:Bool},pC cS eC hJ fb=some r->Rt (C ⟨iL,fz,iM⟩ ⟨mz,jQ,mA⟩ hJ fb H) (bE.Q H0 Ri R0  r)
def bE.pl29 (F:Nat) :Nat->List Int->List Int->Int->Int->Option (Bool)
 | 0,_,_,_,_=>none
 | k+1,cS,eC,hJ,fb=>(bif (decide (fb<hJ)) then ((ix cS fb).bind λn1=>(ix eC fb).bind λn2=>(bif ((gt cS n1) != (gt eC n2)) then (some false) else (bE.pl29 F k cS eC hJ (wrap .i64 (fb+1))))) else (some true))
theorem bE.l29_P  :∀ k,bE.S29 H0 Ri R0  (bE.l29 F   k) (bE.pl29 F  k):=by
 intro k
 induction k with
 | zero=>unfold bE.S29;intros;rename_i hp;cases hp
 | succ k ih=>
  intro iL mz fz jQ iM mA cS eC hJ fb H rC CV h0 r hp
  obtain ⟨w0,s0,kP,sI⟩:=h0
  subst rC
  subst CV
  unfold bE.pl29 at hp
  unfold bE.l29
  refine aL hp (λhp=>?_) λhp=>?_
  ·obtain ⟨n1,g1,hp⟩:=ah hp
   obtain ⟨p1,q1,i1,h1,j1⟩:=ROs.ixr kP rfl g1
   refine aP i1 ?_
   have h1:_=[_]:=h1
   subst h1
   refine aP (cU (j1 0 _ rfl)) ?_
   obtain ⟨n2,g2,hp⟩:=ah hp
   obtain ⟨p2,q2,i2,h2,j2⟩:=ROs.ixr sI rfl g2
   refine aP i2 ?_
   have h2:_=[_]:=h2
   subst h2
   refine aP (cU (j2 0 _ rfl)) ?_
   refine aL hp (λhp=>?_) λhp=>?_
   ·exact aM hp ⟨rfl,w0,s0,trivial⟩
   ·exact ih rfl rfl ⟨w0,s0,kP,sI⟩ hp
  ·exact aM hp ⟨rfl,w0,s0,trivial⟩
def bE.p (F:Nat) (aV:aaX) (gh:aaX):Option (Bool):=(bif ((aV.length:Int) != (gh.length:Int)) then (some false) else (bE.pl29 F F aV gh (aV.length:Int) 0))
theorem bE.P {dd sJ ci mB de sK aV gh} (eB:ci=aV.length) (CW:mB=gh.length) (h0:Inn H R0 λR=>ROs eI H R ⟨dd,ci,de⟩ aV/\ROs eI H R ⟨sJ,mB,sK⟩ gh) {r:Bool} (hp:bE.p F aV gh=some r):Rt (bE.tw F ⟨dd,ci,de⟩ ⟨sJ,mB,sK⟩ H) (bE.Q H R0 R0  r):=by
 obtain ⟨w0,fg,CX⟩:=h0
 subst eB
 subst CW
 unfold bE.p at hp
 unfold bE.tw bE.twX
 have s0:=w0.rf
 refine aL hp (λhp=>?_) λhp=>?_
 ·exact aM hp ⟨rfl,w0,s0,trivial⟩
 ·exact bE.l29_P F rfl rfl ⟨w0,s0,fg,CX⟩ hp
def dj.Q (H0:Hp) (Ri R0:aaZ)  (r:Bool) (v:AV) (H':Hp):Prop:=v=(.bool r)/\Out H0 Ri H' (R0) λR=>True
def dj.p (F:Nat) (aa:Int) (ac:Int) (ak:aaX) (aC:Int) (cv:Int) (dU:aaX):Option (Bool):=(bif (aa==aC) then ((bif (ac==cv) then ((bE.p F ak dU).bind λr3=>some r3) else (some false))) else (some false))
theorem dj.P {aa ac aC cv aZ kU aH iN a_ kV ak dU} (bO:aH=ak.length) (rI:iN=dU.length) (h0:Inn H R0 λR=>ROs eI H R ⟨aZ,aH,a_⟩ ak/\ROs eI H R ⟨kU,iN,kV⟩ dU) {r:Bool} (hp:dj.p F aa ac ak aC cv dU=some r):Rt (dj.tw F aa ac ⟨aZ,aH,a_⟩ aC cv ⟨kU,iN,kV⟩ H) (dj.Q H R0 R0  r):=by
 obtain ⟨w0,bj,rJ⟩:=h0
 subst bO
 subst rI
 unfold dj.p at hp
 unfold dj.tw dj.twX
 have s0:=w0.rf
 refine bI w0 λH1 w1 s1=>?_
 refine bI w1 λH2 w2 s2=>?_
 refine lI w2 1 ?_
 refine lI w2 0 ?_
 refine aL hp (λhp=>?_) λhp=>?_
 ·refine lI w2 1 ?_
  refine lI w2 0 ?_
  refine aL hp (λhp=>?_) λhp=>?_
  ·refine lSl w2 1 ?_
   refine lSl w2 0 ?_
   obtain ⟨r3,e3,hp⟩:=ah hp
   refine bf (bE.P rfl rfl ⟨w2,(bj.step (s1.trans s2)),(rJ.step (s1.trans s2))⟩ e3) ?_
   rintro _ H4 ⟨rfl,w4,s4,_⟩
   refine br ?_
   obtain ⟨w5,s5⟩:=w4.pp [] 2
   exact aM hp ⟨rfl,w5,(s0.trans (s1.trans (s2.trans (s4.trans s5)))),trivial⟩
  ·obtain ⟨w6,s6⟩:=w2.pp [] 2
   exact aM hp ⟨rfl,w6,(s0.trans (s1.trans (s2.trans s6))),trivial⟩
 ·obtain ⟨w7,s7⟩:=w2.pp [] 2
  exact aM hp ⟨rfl,w7,(s0.trans (s1.trans (s2.trans s7))),trivial⟩
def cW.Q (H0:Hp) (Ri R0:aaZ)  (r:aaX) (v:AV) (H':Hp):Prop:=∃ o0a:ON,∃ o0n:Nat,∃ o0c:Cap,v=(.sl ⟨o0a,o0n,o0c⟩)/\o0n=(r).length/\Out H0 Ri H' (R0) λR=>ROs eI H' R ⟨o0a,o0n,o0c⟩ (r)
def cW.p (F:Nat) (ac:Int) (ak:aaX) (aC:Int):Option (List Int):=(cutf ak (wrap .i64 (aC * ac)) (wrap .i64 ((wrap .i64 (aC+1)) * ac))).bind λl2=>some l2
theorem cW.P {aa ac aC aZ aH a_ ak} (bO:aH=ak.length) (h0:Inn H R0 λR=>ROs eI H R ⟨aZ,aH,a_⟩ ak) {r:aaX} (hp:cW.p F ac ak aC=some r):Rt (cW.tw F aa ac ⟨aZ,aH,a_⟩ aC H) (cW.Q H R0 R0  r):=by
 obtain ⟨w0,bj⟩:=h0
 subst bO
 unfold cW.p at hp
 unfold cW.tw cW.twX
 have s0:=w0.rf
 refine bI w0 λH1 w1 s1=>?_
 refine lSl w1 0 ?_
 refine lI w1 0 ?_
 refine lI w1 0 ?_
 obtain ⟨l2,e2,hp⟩:=ah hp
 obtain ⟨a2,d2,h2,f2⟩:=ROs.cutf (bj.step s1) rfl e2
 refine aP h2 ?_
 obtain ⟨w3,s3⟩:=w1.pp [] 1
 exact aM hp ⟨_,_,_,rfl,rfl,w3,(s0.trans (s1.trans s3)),(f2.step s3)⟩
def cn.Q (H0:Hp) (Ri R0:aaZ)  (r:Int) (v:AV) (H':Hp):Prop:=v=(.i r)/\Out H0 Ri H' (R0) λR=>True
def cn.p (F:Nat) (aa:Int):Option (Int):=(bif (decide (aa<0)) then (some (wrap .i64 (0 - aa))) else (some aa))
theorem cn.P {aa}  (h0:Inn H R0 λR=>True) {r:Int} (hp:cn.p F aa=some r):Rt (cn.tw F aa H) (cn.Q H R0 R0  r):=by
 obtain ⟨w0,_⟩:=h0
 unfold cn.p at hp
 unfold cn.tw cn.twX
 have s0:=w0.rf
 refine aL hp (λhp=>?_) λhp=>?_
 ·exact aM hp ⟨rfl,w0,s0,trivial⟩
 ·exact aM hp ⟨rfl,w0,s0,trivial⟩
def aB.Q (H0:Hp) (Ri R0:aaZ)  (r:Int) (v:AV) (H':Hp):Prop:=v=(.i r)/\Out H0 Ri H' (R0) λR=>True
def aB.S29 (H0:Hp) (Ri R0:aaZ)  (C:abm) (pC:abt):Prop:=∀ {xu lj cl ib fX CY xv eT CZ jl},∀ {H:Hp},xv=jl.length->(Out H0 Ri H (Rs.blk eT [.i xu,.i lj,.sl ⟨CY,xv,CZ⟩]::R0) λR=>ROs eI H R ⟨CY,xv,CZ⟩ jl)->∀ {r:Int},pC lj jl cl ib fX=some r->Rt (C eT 0 cl ib fX H) (aB.Q H0 Ri R0  r)
def aB.S7533 (H0:Hp) (Ri R0:aaZ)  (C:Nat->Nat->Int->Int->Int->Int->Sl->Int->Int->Hp->OA) (pC:Int->List Int->Int->Int->Int->Int->List Int->Int->Int->Option (Int)):Prop:=∀ {Ka qG hK hO hU h_ ia fW C_ Da xw kB xx Db Dc mC ll},∀ {H:Hp},xw=mC.length->xx=ll.length->(Out H0 Ri H (Rs.blk kB [.i Ka,.i qG,.sl ⟨C_,xw,Db⟩]::R0) λR=>ROs eI H R ⟨C_,xw,Db⟩ mC/\ROs eI H R ⟨Da,xx,Dc⟩ ll)->∀ {r:Int},pC qG mC hK hO hU h_ ll ia fW=some r->Rt (C kB 0 hK hO hU h_ ⟨Da,xx,Dc⟩ ia fW H) (aB.Q H0 Ri R0  r)
def aB.pj3 (F:Nat) (au:abt) (xy:Int) (sL:aaX) (oF:Int) (oG:Int) (oH:Int):Option (Int):=au xy sL oF oG (wrap .i64 (oH+1))
theorem aB.j3_P  {C29_:abm} {au:abt} (hC29:aB.S29 H0 Ri R0  C29_ au) {Ub xy oF oG oH Kb Dd ve Kc sL} (Uc:Dd=sL.length) (h0:Out H0 Ri H (Rs.blk ve [.i Ub,.i xy,.sl ⟨Kb,Dd,Kc⟩]::R0) λR=>ROs eI H R ⟨Kb,Dd,Kc⟩ sL) {r:Int} (hp:aB.pj3 F au xy sL oF oG oH=some r):Rt (aB.j3 F (cW.tw F) (cn.tw F) C29_ ve 0 oF oG oH H) (aB.Q H0 Ri R0  r):=by
 obtain ⟨w0,s0,Ud⟩:=h0
 subst Uc
 unfold aB.pj3 at hp
 unfold aB.j3
 exact hC29 rfl ⟨w0,s0,Ud⟩ hp
def aB.pj4 (F:Nat) (au:abt) (xz:Int) (sM:aaX) (ji:Int) (cR:Int) (oI:Int) (oJ:Int):Option (Int):=(bif (decide ((wrap .i64 (ji * (if 1>(if 1000000001<cR then 1000000001 else cR) then 1 else (if 1000000001<cR then 1000000001 else cR))))>1000000000)) then (some (wrap .i64 (ji * (if 1>(if 1000000001<cR then 1000000001 else cR) then 1 else (if 1000000001<cR then 1000000001 else cR))))) else (aB.pj3 F au xz sM (wrap .i64 (ji * (if 1>(if 1000000001<cR then 1000000001 else cR) then 1 else (if 1000000001<cR then 1000000001 else cR)))) oI oJ))
theorem aB.j4_P  {C29_:abm} {au:abt} (hC29:aB.S29 H0 Ri R0  C29_ au) {Ue xz ji cR oI oJ Kd De vf Ke sM} (Uf:De=sM.length) (h0:Out H0 Ri H (Rs.blk vf [.i Ue,.i xz,.sl ⟨Kd,De,Ke⟩]::R0) λR=>ROs eI H R ⟨Kd,De,Ke⟩ sM) {r:Int} (hp:aB.pj4 F au xz sM ji cR oI oJ=some r):Rt (aB.j4 F (cW.tw F) (cn.tw F) C29_ vf 0 ji cR oI oJ H) (aB.Q H0 Ri R0  r):=by
 obtain ⟨w0,s0,Ug⟩:=h0
 subst Uf
 unfold aB.pj4 at hp
 unfold aB.j4
 refine aL hp (λhp=>?_) λhp=>?_
 ·obtain ⟨w1,s1⟩:=w0.pp [] 1
  exact aM hp ⟨rfl,w1,(s0.trans s1),trivial⟩
 ·exact aB.j3_P (@hC29) rfl ⟨w0,s0,Ug⟩ hp
def aB.pl7533 (F:Nat) (au:abt):Nat->Int->List Int->Int->Int->Int->Int->List Int->Int->Int->Option (Int)
 | 0,_,_,_,_,_,_,_,_,_=>none
 | k+1,qG,mC,hK,hO,hU,h_,ll,ia,fW=>(bif (decide (fW<ia)) then ((ix ll fW).bind λn1=>(cn.p F (gt ll n1)).bind λr2=>aB.pl7533 F au k qG mC hK hO hU (wrap .i64 (h_+r2)) ll ia (wrap .i64 (fW+1))) else (aB.pj4 F au qG mC hK h_ hO hU))
theorem aB.l7533_P  {C29_:abm} {au:abt} (hC29:aB.S29 H0 Ri R0  C29_ au):∀ k,aB.S7533 H0 Ri R0  (aB.l7533 F (cW.tw F) (cn.tw F) C29_ k) (aB.pl7533 F au k):=by
 intro k
 induction k with
 | zero=>unfold aB.S7533;intros;rename_i hp;cases hp
 | succ k ih=>
  intro Ka qG hK hO hU h_ ia fW C_ Da xw kB xx Db Dc mC ll H Uh Ui h0 r hp
  obtain ⟨w0,s0,Kf,Kg⟩:=h0
  subst Uh
  subst Ui
  unfold aB.pl7533 at hp
  unfold aB.l7533
  refine aL hp (λhp=>?_) λhp=>?_
  ·obtain ⟨n1,g1,hp⟩:=ah hp
   obtain ⟨p1,q1,i1,h1,j1⟩:=ROs.ixr Kg rfl g1
   refine aP i1 ?_
   have h1:_=[_]:=h1
   subst h1
   refine aP (cU (j1 0 _ rfl)) ?_
   obtain ⟨r2,e2,hp⟩:=ah hp
   refine bf (cn.P ⟨w0,trivial⟩ e2) ?_
   rintro _ H3 ⟨rfl,w3,s3,_⟩
   refine br ?_
   exact ih rfl rfl ⟨w3,(s0.trans s3),(Kf.step s3),(Kg.step s3)⟩ hp
  ·exact aB.j4_P (@hC29) rfl ⟨w0,s0,Kf⟩ hp
def aB.pl29 (F:Nat) :Nat->Int->List Int->Int->Int->Int->Option (Int)
 | 0,_,_,_,_,_=>none
 | k+1,lj,jl,cl,ib,fX=>(bif (decide (fX<ib)) then ((cW.p F lj jl fX).bind λr1=>aB.pl7533 F (aB.pl29 F k) F lj jl cl ib fX 0 r1 (r1.length:Int) 0) else (some cl))
theorem aB.l29_P  :∀ k,aB.S29 H0 Ri R0  (aB.l29 F (cW.tw F) (cn.tw F)  k) (aB.pl29 F  k):=by
 intro k
 induction k with
 | zero=>unfold aB.S29;intros;rename_i hp;cases hp
 | succ k ih=>
  intro xu lj cl ib fX CY xv eT CZ jl H Uj h0 r hp
  obtain ⟨w0,s0,Kh⟩:=h0
  subst Uj
  unfold aB.pl29 at hp
  unfold aB.l29
  refine aL hp (λhp=>?_) λhp=>?_
  ·refine lI w0 0 ?_
   refine lI w0 0 ?_
   refine lSl w0 0 ?_
   obtain ⟨r1,e1,hp⟩:=ah hp
   refine bf (cW.P rfl ⟨w0,Kh⟩ e1) ?_
   rintro _ H2 ⟨o0a_2,o0n_2,o0c_2,rfl,rfl,w2,s2,f2_0⟩
   refine br ?_
   exact aB.l7533_P (@ih) F rfl rfl ⟨w2,(s0.trans s2),(Kh.step s2),f2_0⟩ hp
  ·obtain ⟨w3,s3⟩:=w0.pp [] 1
   exact aM hp ⟨rfl,w3,(s0.trans s3),trivial⟩
def aB.p (F:Nat) (aa:Int) (ac:Int) (ak:aaX):Option (Int):=aB.pl29 F F ac ak 1 aa 0
theorem aB.P {aa ac aZ aH a_ ak} (bO:aH=ak.length) (h0:Inn H R0 λR=>ROs eI H R ⟨aZ,aH,a_⟩ ak) {r:Int} (hp:aB.p F aa ac ak=some r):Rt (aB.tw F aa ac ⟨aZ,aH,a_⟩ H) (aB.Q H R0 R0  r):=by
 obtain ⟨w0,bj⟩:=h0
 subst bO
 unfold aB.p at hp
 unfold aB.tw aB.twX
 have s0:=w0.rf
 refine bI w0 λH1 w1 s1=>?_
 refine lI w1 0 ?_
 exact aB.l29_P F rfl ⟨w1,(s0.trans s1),(bj.step s1)⟩ hp
def af.Q (H0:Hp) (Ri R0:aaZ)  (r:aaX) (v:AV) (H':Hp):Prop:=∃ o0a:ON,∃ o0n:Nat,∃ o0c:Cap,∃ o0k:List AV,v=(.sl ⟨o0a,o0n,o0c⟩)/\o0n=(r).length/\Out H0 Ri H' (Rs.own ⟨o0a,o0n,o0c⟩ eI.z o0k::R0) λR=>CR eI H' R o0k (r)
def af.S253 (H0:Hp) (Ri R0:aaZ)  (C:aa8) (pC:aa_):Prop:=∀ {Ki sN eu Kj sR iI Df Dg Dh xA ma xB xC mb Di Dj Dk qH mD qI Dl Dm},∀ {H:Hp},xA=qH.length->xB=mD.length->xC=qI.length->(Out H0 Ri H (Rs.blk ma [.i Ki,.i sN,.sl ⟨Df,xA,Di⟩]::Rs.own ⟨Dg,xB,Dj⟩ eI.z Dl::Rs.own ⟨Dh,xC,Dk⟩ eI.z Dm::Rs.blk mb [.i Kj,.i sR,.sl ⟨Dh,xC,Dk⟩]::R0) λR=>ROs eI H R ⟨Df,xA,Di⟩ qH/\CR eI H R Dl mD/\CR eI H R Dm qI)->∀ {r:aaX},pC sN qH eu mD sR qI iI=some r->Rt (C ma 0 eu ⟨Dg,xB,Dj⟩ mb 0 iI H) (af.Q H0 Ri R0  r)
def af.S32429 (H0:Hp) (Ri R0:aaZ)  (C:abc) (pC:abe):Prop:=∀ {Kk qJ gd Kl mE gf Km qK iG iH fe Dn Do Dp Dq xD kL xE xF iF xG kM Dr Ds Dt Du mF jR jS mG Dw Dx Dy},∀ {H:Hp},xD=mF.length->xE=jR.length->xF=jS.length->xG=mG.length->(Out H0 Ri H (Rs.blk kL [.i Kk,.i qJ,.sl ⟨Dn,xD,Dr⟩]::Rs.own ⟨Do,xE,Ds⟩ eI.z Dw::Rs.own ⟨Dp,xF,Dt⟩ eI.z Dx::Rs.blk iF [.i Kl,.i mE,.sl ⟨Dp,xF,Dt⟩]::Rs.own ⟨Dq,xG,Du⟩ eI.z Dy::Rs.blk kM [.i Km,.i qK,.sl ⟨Dq,xG,Du⟩]::R0) λR=>ROs eI H R ⟨Dn,xD,Dr⟩ mF/\CR eI H R Dw jR/\CR eI H R Dx jS/\CR eI H R Dy mG)->∀ {r:aaX},pC qJ mF gd jR mE jS gf qK mG iG iH fe=some r->Rt (C kL 0 gd ⟨Do,xE,Ds⟩ iF 0 gf kM 0 iG iH fe H) (af.Q H0 Ri R0  r)
def af.S64861 (H0:Hp) (Ri R0:aaZ)  (C:abc) (pC:abe):Prop:=∀ {Ko qL ga Kp sS iC Kq qM iD iE gb Dz DA DB DC xH kH xI xJ kI xK kJ DD DE DF DG mH mI qN mJ DH DJ DK},∀ {H:Hp},xH=mH.length->xI=mI.length->xJ=qN.length->xK=mJ.length->(Out H0 Ri H (Rs.blk kH [.i Ko,.i qL,.sl ⟨Dz,xH,DD⟩]::Rs.own ⟨DA,xI,DE⟩ eI.z DH::Rs.own ⟨DB,xJ,DF⟩ eI.z DJ::Rs.blk kI [.i Kp,.i sS,.sl ⟨DB,xJ,DF⟩]::Rs.own ⟨DC,xK,DG⟩ eI.z DK::Rs.blk kJ [.i Kq,.i qM,.sl ⟨DC,xK,DG⟩]::R0) λR=>ROs eI H R ⟨Dz,xH,DD⟩ mH/\CR eI H R DH mI/\CR eI H R DJ qN/\CR eI H R DK mJ)->∀ {r:aaX},pC qL mH ga mI sS qN iC qM mJ iD iE gb=some r->Rt (C kH 0 ga ⟨DA,xI,DE⟩ kI 0 iC kJ 0 iD iE gb H) (af.Q H0 Ri R0  r)
def af.S8302261 (H0:Hp) (Ri R0:aaZ)  (C:abn) (pC:abu):Prop:=∀ {Ks qO fZ Kt qP iv Ku qQ iw iy iz iA iB f_ DL DM DN DO xL kE xM xN kF xO kG DP DQ DR DT mK mL mM mN DU DV DW},∀ {H:Hp},xL=mK.length->xM=mL.length->xN=mM.length->xO=mN.length->(Out H0 Ri H (Rs.blk kE [.i Ks,.i qO,.sl ⟨DL,xL,DP⟩]::Rs.own ⟨DM,xM,DQ⟩ eI.z DU::Rs.own ⟨DN,xN,DR⟩ eI.z DV::Rs.blk kF [.i Kt,.i qP,.sl ⟨DN,xN,DR⟩]::Rs.own ⟨DO,xO,DT⟩ eI.z DW::Rs.blk kG [.i Ku,.i qQ,.sl ⟨DO,xO,DT⟩]::R0) λR=>ROs eI H R ⟨DL,xL,DP⟩ mK/\CR eI H R DU mL/\CR eI H R DV mM/\CR eI H R DW mN)->∀ {r:aaX},pC qO mK fZ mL qP mM iv qQ mN iw iy iz iA iB f_=some r->Rt (C kE 0 fZ ⟨DM,xM,DQ⟩ kF 0 iv kG 0 iw iy iz iA iB f_ H) (af.Q H0 Ri R0  r)
def af.S531344731 (H0:Hp) (Ri R0:aaZ)  (C:Nat->Nat->Int->Sl->Nat->Nat->Int->Nat->Nat->Int->Int->Int->Int->Int->Int->Int->Int->Int->Hp->OA) (pC:Int->List Int->Int->List Int->Int->List Int->Int->Int->List Int->Int->Int->Int->Int->Int->Int->Int->Int->Int->Option (List Int)):Prop:=∀ {Kv mO ig Kw mP ij Ky mQ il im io fc ip iq fY iu fd DX DY DZ D_ xP ic xQ xR ii xS ik Ea Eb Ec Ed jT mR jU jV Ee Ef Eg},∀ {H:Hp},xP=jT.length->xQ=mR.length->xR=jU.length->xS=jV.length->(Out H0 Ri H (Rs.blk ic [.i Kv,.i mO,.sl ⟨DX,xP,Ea⟩]::Rs.own ⟨DY,xQ,Eb⟩ eI.z Ee::Rs.own ⟨DZ,xR,Ec⟩ eI.z Ef::Rs.blk ii [.i Kw,.i mP,.sl ⟨DZ,xR,Ec⟩]::Rs.own ⟨D_,xS,Ed⟩ eI.z Eg::Rs.blk ik [.i Ky,.i mQ,.sl ⟨D_,xS,Ed⟩]::R0) λR=>ROs eI H R ⟨DX,xP,Ea⟩ jT/\CR eI H R Ee mR/\CR eI H R Ef jU/\CR eI H R Eg jV)->∀ {r:aaX},pC mO jT ig mR mP jU ij mQ jV il im io fc ip iq fY iu fd=some r->Rt (C ic 0 ig ⟨DY,xQ,Eb⟩ ii 0 ij ik 0 il im io fc ip iq fY iu fd H) (af.Q H0 Ri R0  r)
def af.pj28 (F:Nat) (fi:abu) (xT:Int) (sT:aaX) (oZ:Int) (sU:aaX) (xU:Int) (sV:aaX) (o_:Int) (xV:Int) (sW:aaX) (pc:Int) (pd:Int) (pe:Int) (pf:Int) (pg:Int) (ph:Int):Option (List Int):=fi xT sT oZ sU xU sV o_ xV sW pc pe pf pd pg (wrap .i64 (ph+1))
theorem af.j28_P  {C8302261_:abn} {fi:abu} (hC8302261:af.S8302261 H0 Ri R0  C8302261_ fi) {Uk xT oZ Ul xU o_ Um xV pc pd pe pf pg ph Kz KA KB KC Eh vt Ei Ej vu El vv KD KE KF KG sT sU sV sW KH KI KJ} (Un:Eh=sT.length) (Uo:Ei=sU.length) (Up:Ej=sV.length) (Uq:El=sW.length) (h0:Out H0 Ri H (Rs.blk vt [.i Uk,.i xT,.sl ⟨Kz,Eh,KD⟩]::Rs.own ⟨KA,Ei,KE⟩ eI.z KH::Rs.own ⟨KB,Ej,KF⟩ eI.z KI::Rs.blk vu [.i Ul,.i xU,.sl ⟨KB,Ej,KF⟩]::Rs.own ⟨KC,El,KG⟩ eI.z KJ::Rs.blk vv [.i Um,.i xV,.sl ⟨KC,El,KG⟩]::R0) λR=>ROs eI H R ⟨Kz,Eh,KD⟩ sT/\CR eI H R KH sU/\CR eI H R KI sV/\CR eI H R KJ sW) {r:aaX} (hp:af.pj28 F fi xT sT oZ sU xU sV o_ xV sW pc pd pe pf pg ph=some r):Rt (af.j28 F (bD.tw F) (bZ.tw F) C8302261_ vt 0 oZ ⟨KA,Ei,KE⟩ vu 0 o_ vv 0 pc pd pe pf pg ph H) (af.Q H0 Ri R0  r):=by
 obtain ⟨w0,s0,Ur,Us,Ut,Uu⟩:=h0
 subst Un
 subst Uo
 subst Up
 subst Uq
 unfold af.pj28 at hp
 unfold af.j28
 exact hC8302261 rfl rfl rfl rfl ⟨w0,s0,Ur,Us,Ut,Uu⟩ hp
def af.pj29 (F:Nat) (fi:abu) (xW:Int) (sX:aaX) (pi:Int) (sY:aaX) (xX:Int) (sZ:aaX) (pj:Int) (xY:Int) (s_:aaX) (pm:Int) (po:Int) (pu:Int) (pv:Int) (pw:Int) (pz:Int):Option (List Int):=af.pj28 F fi xW sX pi sY xX sZ pj xY s_ pm po pu pv pw pz
theorem af.j29_P  {C8302261_:abn} {fi:abu} (hC8302261:af.S8302261 H0 Ri R0  C8302261_ fi) {Uv xW pi Uw xX pj Ux xY pm po pu pv pw pz KK KL KM KN Em vw En Eo vx Ep vy KO KP KQ KR sX sY sZ s_ KS KT KU} (Uy:Em=sX.length) (Uz:En=sY.length) (UA:Eo=sZ.length) (UB:Ep=s_.length) (h0:Out H0 Ri H (Rs.blk vw [.i Uv,.i xW,.sl ⟨KK,Em,KO⟩]::Rs.own ⟨KL,En,KP⟩ eI.z KS::Rs.own ⟨KM,Eo,KQ⟩ eI.z KT::Rs.blk vx [.i Uw,.i xX,.sl ⟨KM,Eo,KQ⟩]::Rs.own ⟨KN,Ep,KR⟩ eI.z KU::Rs.blk vy [.i Ux,.i xY,.sl ⟨KN,Ep,KR⟩]::R0) λR=>ROs eI H R ⟨KK,Em,KO⟩ sX/\CR eI H R KS sY/\CR eI H R KT sZ/\CR eI H R KU s_) {r:aaX} (hp:af.pj29 F fi xW sX pi sY xX sZ pj xY s_ pm po pu pv pw pz=some r):Rt (af.j29 F (bD.tw F) (bZ.tw F) C8302261_ vw 0 pi ⟨KL,En,KP⟩ vx 0 pj vy 0 pm po pu pv pw pz H) (af.Q H0 Ri R0  r):=by
 obtain ⟨w0,s0,UC,UD,UE,UF⟩:=h0
 subst Uy
 subst Uz
 subst UA
 subst UB
 unfold af.pj29 at hp
 unfold af.j29
 exact af.j28_P (@hC8302261) rfl rfl rfl rfl ⟨w0,s0,UC,UD,UE,UF⟩ hp
def af.pl531344731 (F:Nat) (bp:aa_) (dF:abe) (fi:abu):Nat->Int->List Int->Int->List Int->Int->List Int->Int->Int->List Int->Int->Int->Int->Int->Int->Int->Int->Int->Int->Option (List Int)
 | 0,_,_,_,_,_,_,_,_,_,_,_,_,_,_,_,_,_,_=>none
 | k+1,mO,jT,ig,mR,mP,jU,ij,mQ,jV,il,im,io,fc,ip,iq,fY,iu,fd=>(bif (decide (fd<iu)) then ((ix jV (wrap .i64 ((wrap .i64 (fc * mQ))+fY))).bind λn2=>(ix jT (wrap .i64 ((wrap .i64 (fc * mO))+fd))).bind λn5=>(ix jU (wrap .i64 ((wrap .i64 (fd * mP))+fY))).bind λn8=>(some (jV.set n2 (wrap .i64 ((gt jV n2)+(wrap .i64 ((gt jT n5) * (gt jU n8))))))).bind λl10=>af.pl531344731 F bp dF fi k mO jT ig mR mP jU ij mQ l10 il im io fc ip iq fY iu (wrap .i64 (fd+1))) else (af.pj29 F fi mO jT ig mR mP jU ij mQ jV il fc im io ip iq))
theorem af.l531344731_P  {C253_:aa8} {bp:aa_} (hC253:af.S253 H0 Ri R0  C253_ bp) {C64861_:abc} {dF:abe} (hC64861:af.S64861 H0 Ri R0  C64861_ dF) {C8302261_:abn} {fi:abu} (hC8302261:af.S8302261 H0 Ri R0  C8302261_ fi):∀ k,af.S531344731 H0 Ri R0  (af.l531344731 F (bD.tw F) (bZ.tw F) C253_ C64861_ C8302261_ k) (af.pl531344731 F bp dF fi k):=by
 intro k
 induction k with
 | zero=>unfold af.S531344731;intros;rename_i hp;cases hp
 | succ k ih=>
  intro Kv mO ig Kw mP ij Ky mQ il im io fc ip iq fY iu fd DX DY DZ D_ xP ic xQ xR ii xS ik Ea Eb Ec Ed jT mR jU jV Ee Ef Eg H UG UH UI UJ h0 r hp
  obtain ⟨w0,s0,Er,KV,Es,Et⟩:=h0
  subst UG
  subst UH
  subst UI
  subst UJ
  unfold af.pl531344731 at hp
  unfold af.l531344731
  refine aL hp (λhp=>?_) λhp=>?_
  ·refine lI w0 5 ?_
   refine lI w0 5 ?_
   refine lSl w0 5 ?_
   refine bZ.inl ?_
   refine bI w0 λH1 w1 s1=>?_
   refine lSl w1 0 ?_
   refine lI w1 0 ?_
   obtain ⟨n2,g2,hp⟩:=ah hp
   obtain ⟨p2,q2,i2,h2,j2⟩:=W.ixo (E:=eI) w1 (i:=5) rfl rfl (Et.step s1) g2
   refine aP i2 ?_
   refine ⟨_,_,rfl,?_⟩
   refine br ?_
   refine dW (W.cons_of (Rn:=[_]) w0 w1 s1) ?_
   have h2:_=[_]:=h2
   subst h2
   refine aP (cU (j2 0 _ rfl)) ?_
   refine lI w1 1 ?_
   refine lI w1 1 ?_
   refine lSl w1 1 ?_
   refine bZ.inl ?_
   refine bI w1 λH4 w4 s4=>?_
   refine lSl w4 0 ?_
   refine lI w4 0 ?_
   obtain ⟨n5,g5,hp⟩:=ah hp
   obtain ⟨p5,q5,i5,h5,j5⟩:=ROs.ixr (Er.step (s1.trans s4)) rfl g5
   refine aP i5 ?_
   refine ⟨_,_,rfl,?_⟩
   refine br ?_
   refine dW (W.cons_of (Rn:=[_]) w1 w4 s4) ?_
   have h5:_=[_]:=h5
   subst h5
   refine aP (cU (j5 0 _ rfl)) ?_
   refine lI w4 5 ?_
   refine lI w4 5 ?_
   refine lSl w4 5 ?_
   refine bZ.inl ?_
   refine bI w4 λH7 w7 s7=>?_
   refine lSl w7 0 ?_
   refine lI w7 0 ?_
   obtain ⟨n8,g8,hp⟩:=ah hp
   obtain ⟨p8,q8,i8,h8,j8⟩:=W.ixo (E:=eI) w7 (i:=5) rfl rfl (Es.step (s1.trans (s4.trans s7))) g8
   refine aP i8 ?_
   refine ⟨_,_,rfl,?_⟩
   refine br ?_
   refine dW (W.cons_of (Rn:=[_]) w4 w7 s7) ?_
   have h8:_=[_]:=h8
   subst h8
   refine aP (cU (j8 0 _ rfl)) ?_
   obtain ⟨l10,e10,hp⟩:=ah hp
   refine gn eI w7 (i:=7) (j:=0) (p:=p2) rfl rfl (Et.step (s1.trans (s4.trans s7))) g2 i2 e10 rfl rfl (λ_ h=>by have h:_=[_]:=h;subst h;exact rfl) λH11 k11 w11 s11 c11=>?_
   obtain ⟨w12,s12⟩:=w11.pp [3,4,5,6,7,8] 9
   exact ih rfl rfl rfl ((gp e10).symm) ⟨w12,(s0.trans (s1.trans (s4.trans (s7.trans (s11.trans s12))))),(Er.step (s1.trans (s4.trans (s7.trans (s11.trans s12))))),(KV.step (s1.trans (s4.trans (s7.trans (s11.trans s12))))),(Es.step (s1.trans (s4.trans (s7.trans (s11.trans s12))))),(c11.step s12)⟩ hp
  ·exact af.j29_P (@hC8302261) rfl rfl rfl rfl ⟨w0,s0,Er,KV,Es,Et⟩ hp
def af.pj26 (F:Nat) (dF:abe) (xZ:Int) (ta:aaX) (oP:Int) (tc:aaX) (x_:Int) (td:aaX) (oQ:Int) (ya:Int) (te:aaX) (oR:Int) (oS:Int) (oT:Int):Option (List Int):=dF xZ ta oP tc x_ td oQ ya te oR oS (wrap .i64 (oT+1))
theorem af.j26_P  {C64861_:abc} {dF:abe} (hC64861:af.S64861 H0 Ri R0  C64861_ dF) {UK xZ oP UL x_ oQ UM ya oR oS oT KW KX KY KZ Eu vm Ev Ew vn Ex vo K_ La Lb Lc ta tc td te Ld Le Lf} (UN:Eu=ta.length) (UO:Ev=tc.length) (UP:Ew=td.length) (UQ:Ex=te.length) (h0:Out H0 Ri H (Rs.blk vm [.i UK,.i xZ,.sl ⟨KW,Eu,K_⟩]::Rs.own ⟨KX,Ev,La⟩ eI.z Ld::Rs.own ⟨KY,Ew,Lb⟩ eI.z Le::Rs.blk vn [.i UL,.i x_,.sl ⟨KY,Ew,Lb⟩]::Rs.own ⟨KZ,Ex,Lc⟩ eI.z Lf::Rs.blk vo [.i UM,.i ya,.sl ⟨KZ,Ex,Lc⟩]::R0) λR=>ROs eI H R ⟨KW,Eu,K_⟩ ta/\CR eI H R Ld tc/\CR eI H R Le td/\CR eI H R Lf te) {r:aaX} (hp:af.pj26 F dF xZ ta oP tc x_ td oQ ya te oR oS oT=some r):Rt (af.j26 F (bD.tw F) (bZ.tw F) C64861_ vm 0 oP ⟨KX,Ev,La⟩ vn 0 oQ vo 0 oR oS oT H) (af.Q H0 Ri R0  r):=by
 obtain ⟨w0,s0,UR,US,UT,UU⟩:=h0
 subst UN
 subst UO
 subst UP
 subst UQ
 unfold af.pj26 at hp
 unfold af.j26
 exact hC64861 rfl rfl rfl rfl ⟨w0,s0,UR,US,UT,UU⟩ hp
def af.pj27 (F:Nat) (dF:abe) (yb:Int) (tg:aaX) (oU:Int) (th:aaX) (yc:Int) (ti:aaX) (oV:Int) (tj:Int) (mS:aaX) (oW:Int) (kD:Int) (oX:Int) (oY:Int):Option (List Int):=(ix mS (wrap .i64 ((wrap .i64 (kD * tj))+kD))).bind λn2=>af.pj26 F dF yb tg oU th yc ti oV tj mS (wrap .i64 (oW+(gt mS n2))) oX oY
theorem af.j27_P  {C64861_:abc} {dF:abe} (hC64861:af.S64861 H0 Ri R0  C64861_ dF) {UV yb oU UW yc oV UX tj oW kD oX oY Lg Lh Li Lj Ey vp Ez EA vq EB lW Lk Ll Lm Ln tg th ti mS Lo Lp Lq} (UY:Ey=tg.length) (UZ:Ez=th.length) (U_:EA=ti.length) (Va:EB=mS.length) (h0:Out H0 Ri H (Rs.blk vp [.i UV,.i yb,.sl ⟨Lg,Ey,Lk⟩]::Rs.own ⟨Lh,Ez,Ll⟩ eI.z Lo::Rs.own ⟨Li,EA,Lm⟩ eI.z Lp::Rs.blk vq [.i UW,.i yc,.sl ⟨Li,EA,Lm⟩]::Rs.own ⟨Lj,EB,Ln⟩ eI.z Lq::Rs.blk lW [.i UX,.i tj,.sl ⟨Lj,EB,Ln⟩]::R0) λR=>ROs eI H R ⟨Lg,Ey,Lk⟩ tg/\CR eI H R Lo th/\CR eI H R Lp ti/\CR eI H R Lq mS) {r:aaX} (hp:af.pj27 F dF yb tg oU th yc ti oV tj mS oW kD oX oY=some r):Rt (af.j27 F (bD.tw F) (bZ.tw F) C64861_ vp 0 oU ⟨Lh,Ez,Ll⟩ vq 0 oV lW 0 oW kD oX oY H) (af.Q H0 Ri R0  r):=by
 obtain ⟨w0,s0,Vb,Vc,Vd,Lr⟩:=h0
 subst UY
 subst UZ
 subst U_
 subst Va
 unfold af.pj27 at hp
 unfold af.j27
 refine lI w0 5 ?_
 refine lI w0 5 ?_
 refine lSl w0 5 ?_
 refine bZ.inl ?_
 refine bI w0 λH1 w1 s1=>?_
 refine lSl w1 0 ?_
 refine lI w1 0 ?_
 obtain ⟨n2,g2,hp⟩:=ah hp
 obtain ⟨p2,q2,i2,h2,j2⟩:=W.ixo (E:=eI) w1 (i:=5) rfl rfl (Lr.step s1) g2
 refine aP i2 ?_
 refine ⟨_,_,rfl,?_⟩
 refine br ?_
 have h2:_=[_]:=h2
 subst h2
 refine aP (cU (j2 0 _ rfl)) ?_
 obtain ⟨w3,s3⟩:=w1.pp [1,2,3,4,5,6] 7
 exact af.j26_P (@hC64861) rfl rfl rfl rfl ⟨w3,(s0.trans (s1.trans s3)),(Vb.step (s1.trans s3)),(Vc.step (s1.trans s3)),(Vd.step (s1.trans s3)),(Lr.step (s1.trans s3))⟩ hp
def af.pl8302261 (F:Nat) (bp:aa_) (dF:abe):Nat->Int->List Int->Int->List Int->Int->List Int->Int->Int->List Int->Int->Int->Int->Int->Int->Int->Option (List Int)
 | 0,_,_,_,_,_,_,_,_,_,_,_,_,_,_,_=>none
 | k+1,qO,mK,fZ,mL,qP,mM,iv,qQ,mN,iw,iy,iz,iA,iB,f_=>(bif (decide (f_<iB)) then (af.pl531344731 F bp dF (af.pl8302261 F bp dF k) F qO mK fZ mL qP mM iv qQ mN iw iy iz iA iB f_ f_ fZ 0) else (af.pj27 F dF qO mK fZ mL qP mM iv qQ mN iw iA iy iz))
theorem af.l8302261_P  {C253_:aa8} {bp:aa_} (hC253:af.S253 H0 Ri R0  C253_ bp) {C64861_:abc} {dF:abe} (hC64861:af.S64861 H0 Ri R0  C64861_ dF):∀ k,af.S8302261 H0 Ri R0  (af.l8302261 F (bD.tw F) (bZ.tw F) C253_ C64861_ k) (af.pl8302261 F bp dF k):=by
 intro k
 induction k with
 | zero=>unfold af.S8302261;intros;rename_i hp;cases hp
 | succ k ih=>
  intro Ks qO fZ Kt qP iv Ku qQ iw iy iz iA iB f_ DL DM DN DO xL kE xM xN kF xO kG DP DQ DR DT mK mL mM mN DU DV DW H Ve Vf Vg Vh h0 r hp
  obtain ⟨w0,s0,Lt,Lu,Lv,Lw⟩:=h0
  subst Ve
  subst Vf
  subst Vg
  subst Vh
  unfold af.pl8302261 at hp
  unfold af.l8302261
  refine aL hp (λhp=>?_) λhp=>?_
  ·exact af.l531344731_P (@hC253) (@hC64861) (@ih) F rfl rfl rfl rfl ⟨w0,s0,Lt,Lu,Lv,Lw⟩ hp
  ·exact af.j27_P (@hC64861) rfl rfl rfl rfl ⟨w0,s0,Lt,Lu,Lv,Lw⟩ hp
def af.pj22 (F:Nat) (bp:aa_) (yd:Int) (tn:aaX) (oK:Int) (tp:aaX) (ye:Int) (tq:aaX) (oM:Int):Option (List Int):=bp yd tn oK tp ye tq (wrap .i64 (oM+1))
theorem af.j22_P  {C253_:aa8} {bp:aa_} (hC253:af.S253 H0 Ri R0  C253_ bp) {Vi yd oK Vj ye oM Lx Ly Lz EC vi ED EE vj LA LB LC tn tp tq LD LE} (Vk:EC=tn.length) (Vl:ED=tp.length) (Vm:EE=tq.length) (h0:Out H0 Ri H (Rs.blk vi [.i Vi,.i yd,.sl ⟨Lx,EC,LA⟩]::Rs.own ⟨Ly,ED,LB⟩ eI.z LD::Rs.own ⟨Lz,EE,LC⟩ eI.z LE::Rs.blk vj [.i Vj,.i ye,.sl ⟨Lz,EE,LC⟩]::R0) λR=>ROs eI H R ⟨Lx,EC,LA⟩ tn/\CR eI H R LD tp/\CR eI H R LE tq) {r:aaX} (hp:af.pj22 F bp yd tn oK tp ye tq oM=some r):Rt (af.j22 F (bD.tw F) (bZ.tw F) C253_ vi 0 oK ⟨Ly,ED,LB⟩ vj 0 oM H) (af.Q H0 Ri R0  r):=by
 obtain ⟨w0,s0,Vn,Vo,Vp⟩:=h0
 subst Vk
 subst Vl
 subst Vm
 unfold af.pj22 at hp
 unfold af.j22
 exact hC253 rfl rfl rfl ⟨w0,s0,Vn,Vo,Vp⟩ hp
def af.pj23 (F:Nat) (bp:aa_) (yf:Int) (tt:aaX) (kC:Int) (qR:aaX) (gB:Int) (yh:Int) (tu:aaX) (oO:Int):Option (List Int):=(if gB=0 then none else ((ix qR (wrap .i64 (kC - gB))).bind λn2=>(some (qR.set n2 (wrap .i64 (Int.tdiv (wrap .i64 (0 - oO)) gB)))).bind λl3=>af.pj22 F bp yf tt kC l3 yh tu gB))
theorem af.j23_P  {C253_:aa8} {bp:aa_} (hC253:af.S253 H0 Ri R0  C253_ bp) {Vq yf kC Vr Vs gB Vt yh oO LF LG LI LJ EF vk EG EH lV EI oN LL LM LN LP tt qR LQ tu LR LS LT} (Vu:EF=tt.length) (Vv:EG=qR.length) (Vw:EH=LQ.length) (Vx:EI=tu.length) (h0:Out H0 Ri H (Rs.blk vk [.i Vq,.i yf,.sl ⟨LF,EF,LL⟩]::Rs.own ⟨LG,EG,LM⟩ eI.z LR::Rs.own ⟨LI,EH,LN⟩ eI.z LS::Rs.blk lV [.i Vr,.i Vs,.sl ⟨LI,EH,LN⟩]::Rs.own ⟨LJ,EI,LP⟩ eI.z LT::Rs.blk oN [.i Vt,.i yh,.sl ⟨LJ,EI,LP⟩]::R0) λR=>ROs eI H R ⟨LF,EF,LL⟩ tt/\CR eI H R LR qR/\CR eI H R LS LQ/\CR eI H R LT tu) {r:aaX} (hp:af.pj23 F bp yf tt kC qR gB yh tu oO=some r):Rt (af.j23 F (bD.tw F) (bZ.tw F) C253_ vk 0 kC ⟨LG,EG,LM⟩ lV 0 gB oN 0 oO H) (af.Q H0 Ri R0  r):=by
 obtain ⟨w0,s0,Vy,LU,aar,Vz⟩:=h0
 subst Vu
 subst Vv
 subst Vw
 subst Vx
 unfold af.pj23 at hp
 unfold af.j23
 obtain ⟨g1,hp⟩:=uc hp
 refine ud g1 ?_
 obtain ⟨n2,g2,hp⟩:=ah hp
 obtain ⟨p2,q2,i2,h2,j2⟩:=W.ixo (E:=eI) w0 (i:=1) rfl rfl LU g2
 refine aP i2 ?_
 obtain ⟨l3,e3,hp⟩:=ah hp
 refine gn eI w0 (i:=1) (j:=0) (p:=p2) rfl rfl LU g2 i2 e3 rfl rfl (λ_ h=>by have h:_=[_]:=h;subst h;exact rfl) λH4 k4 w4 s4 c4=>?_
 refine lI w4 5 ?_
 refine lI w4 5 ?_
 refine lSl w4 5 ?_
 refine bu w4 3 λH5 w5 s5=>?_
 refine bu w5 3 λH6 w6 s6=>?_
 refine bu w6 3 λH7 w7 s7=>?_
 obtain ⟨w8,s8⟩:=w7.pp [0,1,4,3] 6
 exact af.j22_P (@hC253) rfl ((gp e3).symm) rfl ⟨w8,(s0.trans (s4.trans (s5.trans (s6.trans (s7.trans s8))))),(Vy.step (s4.trans (s5.trans (s6.trans (s7.trans s8))))),(c4.step (s5.trans (s6.trans (s7.trans s8)))),(Vz.step (s4.trans (s5.trans (s6.trans (s7.trans s8)))))⟩ hp
def af.pl64861 (F:Nat) (bp:aa_):Nat->Int->List Int->Int->List Int->Int->List Int->Int->Int->List Int->Int->Int->Int->Option (List Int)
 | 0,_,_,_,_,_,_,_,_,_,_,_,_=>none
 | k+1,qL,mH,ga,mI,sS,qN,iC,qM,mJ,iD,iE,gb=>(bif (decide (gb<iE)) then (af.pl8302261 F bp (af.pl64861 F bp k) F qL mH ga mI sS qN iC qM mJ iD iE gb gb ga 0) else (af.pj23 F bp qL mH ga mI iC qM mJ iD))
theorem af.l64861_P  {C253_:aa8} {bp:aa_} (hC253:af.S253 H0 Ri R0  C253_ bp):∀ k,af.S64861 H0 Ri R0  (af.l64861 F (bD.tw F) (bZ.tw F) C253_ k) (af.pl64861 F bp k):=by
 intro k
 induction k with
 | zero=>unfold af.S64861;intros;rename_i hp;cases hp
 | succ k ih=>
  intro Ko qL ga Kp sS iC Kq qM iD iE gb Dz DA DB DC xH kH xI xJ kI xK kJ DD DE DF DG mH mI qN mJ DH DJ DK H VA VB VC VD h0 r hp
  obtain ⟨w0,s0,LV,LW,LX,LY⟩:=h0
  subst VA
  subst VB
  subst VC
  subst VD
  unfold af.pl64861 at hp
  unfold af.l64861
  refine aL hp (λhp=>?_) λhp=>?_
  ·exact af.l8302261_P (@hC253) (@ih) F rfl rfl rfl rfl ⟨w0,s0,LV,LW,LX,LY⟩ hp
  ·exact af.j23_P (@hC253) rfl rfl rfl rfl ⟨w0,s0,LV,LW,LX,LY⟩ hp
def af.pj30 (F:Nat) (bp:aa_) (yi:Int) (tv:aaX) (kK:Int) (tz:aaX) (yj:Int) (tA:aaX) (pB:Int) (yk:Int) (tB:aaX) (pE:Int):Option (List Int):=af.pl64861 F bp F yi tv kK tz yj tA pB yk tB pE kK 0
theorem af.j30_P  {C253_:aa8} {bp:aa_} (hC253:af.S253 H0 Ri R0  C253_ bp) {VE yi kK VF yj pB VG yk pE LZ L_ Ma Mb EJ vI EK EL vJ EM vK Mc Md Me Mf tv tz tA tB Mg Mh Mi} (VH:EJ=tv.length) (VI:EK=tz.length) (VJ:EL=tA.length) (VK:EM=tB.length) (h0:Out H0 Ri H (Rs.blk vI [.i VE,.i yi,.sl ⟨LZ,EJ,Mc⟩]::Rs.own ⟨L_,EK,Md⟩ eI.z Mg::Rs.own ⟨Ma,EL,Me⟩ eI.z Mh::Rs.blk vJ [.i VF,.i yj,.sl ⟨Ma,EL,Me⟩]::Rs.own ⟨Mb,EM,Mf⟩ eI.z Mi::Rs.blk vK [.i VG,.i yk,.sl ⟨Mb,EM,Mf⟩]::R0) λR=>ROs eI H R ⟨LZ,EJ,Mc⟩ tv/\CR eI H R Mg tz/\CR eI H R Mh tA/\CR eI H R Mi tB) {r:aaX} (hp:af.pj30 F bp yi tv kK tz yj tA pB yk tB pE=some r):Rt (af.j30 F (bD.tw F) (bZ.tw F) C253_ vI 0 kK ⟨L_,EK,Md⟩ vJ 0 pB vK 0 pE H) (af.Q H0 Ri R0  r):=by
 obtain ⟨w0,s0,VL,VM,VN,VO⟩:=h0
 subst VH
 subst VI
 subst VJ
 subst VK
 unfold af.pj30 at hp
 unfold af.j30
 exact af.l64861_P (@hC253) F rfl rfl rfl rfl ⟨w0,s0,VL,VM,VN,VO⟩ hp
def af.pl32429 (F:Nat) (bp:aa_):Nat->Int->List Int->Int->List Int->Int->List Int->Int->Int->List Int->Int->Int->Int->Option (List Int)
 | 0,_,_,_,_,_,_,_,_,_,_,_,_=>none
 | k+1,qJ,mF,gd,jR,mE,jS,gf,qK,mG,iG,iH,fe=>(bif (decide (fe<iH)) then ((ix jS (wrap .i64 ((wrap .i64 (fe * mE))+fe))).bind λn2=>(ix jR (wrap .i64 ((wrap .i64 (gd - gf))+1))).bind λn4=>(some (jS.set n2 (wrap .i64 ((gt jS n2)+(gt jR n4))))).bind λl5=>af.pl32429 F bp k qJ mF gd jR mE l5 gf qK mG iG iH (wrap .i64 (fe+1))) else (af.pj30 F bp qJ mF gd jR mE jS gf qK mG iG))
theorem af.l32429_P  {C253_:aa8} {bp:aa_} (hC253:af.S253 H0 Ri R0  C253_ bp):∀ k,af.S32429 H0 Ri R0  (af.l32429 F (bD.tw F) (bZ.tw F) C253_ k) (af.pl32429 F bp k):=by
 intro k
 induction k with
 | zero=>unfold af.S32429;intros;rename_i hp;cases hp
 | succ k ih=>
  intro Kk qJ gd Kl mE gf Km qK iG iH fe Dn Do Dp Dq xD kL xE xF iF xG kM Dr Ds Dt Du mF jR jS mG Dw Dx Dy H VP VQ VR VS h0 r hp
  obtain ⟨w0,s0,Mj,EN,EO,Ml⟩:=h0
  subst VP
  subst VQ
  subst VR
  subst VS
  unfold af.pl32429 at hp
  unfold af.l32429
  refine aL hp (λhp=>?_) λhp=>?_
  ·refine lI w0 3 ?_
   refine lI w0 3 ?_
   refine lSl w0 3 ?_
   refine bZ.inl ?_
   refine bI w0 λH1 w1 s1=>?_
   refine lSl w1 0 ?_
   refine lI w1 0 ?_
   obtain ⟨n2,g2,hp⟩:=ah hp
   obtain ⟨p2,q2,i2,h2,j2⟩:=W.ixo (E:=eI) w1 (i:=3) rfl rfl (EO.step s1) g2
   refine aP i2 ?_
   refine ⟨_,_,rfl,?_⟩
   refine br ?_
   refine dW (W.cons_of (Rn:=[_]) w0 w1 s1) ?_
   have h2:_=[_]:=h2
   subst h2
   refine aP (cU (j2 0 _ rfl)) ?_
   obtain ⟨n4,g4,hp⟩:=ah hp
   obtain ⟨p4,q4,i4,h4,j4⟩:=W.ixo (E:=eI) w1 (i:=2) rfl rfl (EN.step s1) g4
   refine aP i4 ?_
   have h4:_=[_]:=h4
   subst h4
   refine aP (cU (j4 0 _ rfl)) ?_
   obtain ⟨l5,e5,hp⟩:=ah hp
   refine gn eI w1 (i:=3) (j:=0) (p:=p2) rfl rfl (EO.step s1) g2 i2 e5 rfl rfl (λ_ h=>by have h:_=[_]:=h;subst h;exact rfl) λH6 k6 w6 s6 c6=>?_
   obtain ⟨w7,s7⟩:=w6.pp [1,2,3,4,5,6] 7
   exact ih rfl rfl ((gp e5).symm) rfl ⟨w7,(s0.trans (s1.trans (s6.trans s7))),(Mj.step (s1.trans (s6.trans s7))),(EN.step (s1.trans (s6.trans s7))),(c6.step s7),(Ml.step (s1.trans (s6.trans s7)))⟩ hp
  ·exact af.j30_P (@hC253) rfl rfl rfl rfl ⟨w0,s0,Mj,EN,EO,Ml⟩ hp
def af.pl253 (F:Nat) :Nat->Int->List Int->Int->List Int->Int->List Int->Int->Option (List Int)
 | 0,_,_,_,_,_,_,_=>none
 | k+1,sN,qH,eu,mD,sR,qI,iI=>(bif (decide (iI<=eu)) then ((bD.p F eu eu).bind λr1=>af.pl32429 F (af.pl253 F k) F sN qH eu mD sR qI iI r1.2.1 r1.2.2 0 eu 0) else (some mD))
theorem af.l253_P  :∀ k,af.S253 H0 Ri R0  (af.l253 F (bD.tw F) (bZ.tw F)  k) (af.pl253 F  k):=by
 intro k
 induction k with
 | zero=>unfold af.S253;intros;rename_i hp;cases hp
 | succ k ih=>
  intro Ki sN eu Kj sR iI Df Dg Dh xA ma xB xC mb Di Dj Dk qH mD qI Dl Dm H VT VU VV h0 r hp
  obtain ⟨w0,s0,VW,Mm,VX⟩:=h0
  subst VT
  subst VU
  subst VV
  unfold af.pl253 at hp
  unfold af.l253
  refine aL hp (λhp=>?_) λhp=>?_
  ·obtain ⟨r1,e1,hp⟩:=ah hp
   refine bf (bD.P ⟨w0,trivial⟩ e1) ?_
   rintro _ H2 ⟨o2a_2,o2n_2,o2k_2,rfl,rfl,w2,s2,f2_0⟩
   refine br (br (br (br (br (br (br ?_))))))
   refine bI w2 λH3 w3 s3=>?_
   refine bu w3 0 λH4 w4 s4=>?_
   refine bu w4 0 λH5 w5 s5=>?_
   refine bu w5 0 λH6 w6 s6=>?_
   obtain ⟨w7,s7⟩:=w6.pp [2,3,4,5,1,0] 6
   exact af.l32429_P (@ih) F rfl rfl rfl rfl ⟨w7,(s0.trans (s2.trans (s3.trans (s4.trans (s5.trans (s6.trans s7)))))),(VW.step (s2.trans (s3.trans (s4.trans (s5.trans (s6.trans s7)))))),(Mm.step (s2.trans (s3.trans (s4.trans (s5.trans (s6.trans s7)))))),(VX.step (s2.trans (s3.trans (s4.trans (s5.trans (s6.trans s7)))))),(f2_0.step (s3.trans (s4.trans (s5.trans (s6.trans s7)))))⟩ hp
  ·obtain ⟨w8,s8⟩:=w0.pp [1] 4
   exact aM hp ⟨_,_,_,_,rfl,rfl,w8,(s0.trans s8),(Mm.step s8)⟩
def af.p (F:Nat) (aa:Int) (ac:Int) (ak:aaX):Option (List Int):=(mkn (wrap .i64 (aa+1)) (0:Int)).bind λl2=>(ix l2 aa).bind λn4=>(some (l2.set n4 1)).bind λl5=>(bD.p F aa aa).bind λr7=>af.pl253 F F ac ak aa l5 r7.2.1 r7.2.2 1
theorem af.P {aa ac aZ aH a_ ak} (bO:aH=ak.length) (h0:Inn H R0 λR=>ROs eI H R ⟨aZ,aH,a_⟩ ak) {r:aaX} (hp:af.p F aa ac ak=some r):Rt (af.tw F aa ac ⟨aZ,aH,a_⟩ H) (af.Q H R0 R0  r):=by
 obtain ⟨w0,bj⟩:=h0
 subst bO
 unfold af.p at hp
 unfold af.tw af.twX
 have s0:=w0.rf
 refine bI w0 λH1 w1 s1=>?_
 refine lI w1 0 ?_
 obtain ⟨l2,e2,hp⟩:=ah hp
 refine ub eI (0:Int) w1 rfl rfl rfl e2 λH3 k3 w3 s3 c3=>?_
 obtain ⟨n4,g4,hp⟩:=ah hp
 obtain ⟨p4,q4,i4,h4,j4⟩:=W.ixo (E:=eI) w3 (i:=0) rfl rfl c3 g4
 refine aP i4 ?_
 obtain ⟨l5,e5,hp⟩:=ah hp
 refine gn eI w3 (i:=0) (j:=0) (p:=p4) rfl rfl c3 g4 i4 e5 rfl rfl (λ_ h=>by have h:_=[_]:=h;subst h;exact rfl) λH6 k6 w6 s6 c6=>?_
 obtain ⟨r7,e7,hp⟩:=ah hp
 refine bf (bD.P ⟨w6,trivial⟩ e7) ?_
 rintro _ H8 ⟨o2a_8,o2n_8,o2k_8,rfl,rfl,w8,s8,f8_0⟩
 refine br (br (br (br (br (br (br ?_))))))
 refine bI w8 λH9 w9 s9=>?_
 refine bu w9 0 λH10 w10 s10=>?_
 refine bu w10 0 λH11 w11 s11=>?_
 refine bu w11 0 λH12 w12 s12=>?_
 obtain ⟨w13,s13⟩:=w12.pp [3,2,1,0] 4
 exact af.l253_P F rfl ((gp e5).symm) rfl ⟨w13,(s0.trans (s1.trans (s3.trans (s6.trans (s8.trans (s9.trans (s10.trans (s11.trans (s12.trans s13))))))))),(bj.step (s1.trans (s3.trans (s6.trans (s8.trans (s9.trans (s10.trans (s11.trans (s12.trans s13))))))))),(c6.step (s8.trans (s9.trans (s10.trans (s11.trans (s12.trans s13)))))),(f8_0.step (s9.trans (s10.trans (s11.trans (s12.trans s13)))))⟩ hp
def cL.Q (H0:Hp) (Ri R0:aaZ)  (r:Int) (v:AV) (H':Hp):Prop:=v=(.i r)/\Out H0 Ri H' (R0) λR=>True
def cL.p (F:Nat) (aa:Int):Option (Int):=(bif (decide (aa<0)) then (some (-1)) else (some 1))
theorem cL.P {aa}  (h0:Inn H R0 λR=>True) {r:Int} (hp:cL.p F aa=some r):Rt (cL.tw F aa H) (cL.Q H R0 R0  r):=by
 obtain ⟨w0,_⟩:=h0
 unfold cL.p at hp
 unfold cL.tw cL.twX
 have s0:=w0.rf
 refine aL hp (λhp=>?_) λhp=>?_
 ·exact aM hp ⟨rfl,w0,s0,trivial⟩
 ·exact aM hp ⟨rfl,w0,s0,trivial⟩
def ay.Q (H0:Hp) (Ri R0:aaZ)  (r:Int) (v:AV) (H':Hp):Prop:=v=(.i r)/\Out H0 Ri H' (R0) λR=>True
def ay.S29 (H0:Hp) (Ri R0:aaZ)  (C:aaW) (pC:abv):Prop:=∀ {bT bU eA dR EP ym EQ fj},∀ {H:Hp},ym=fj.length->(Out H0 Ri H R0 λR=>ROs eI H R ⟨EP,ym,EQ⟩ fj)->∀ {r:Int},pC bT bU fj eA dR=some r->Rt (C bT bU ⟨EP,ym,EQ⟩ eA dR H) (ay.Q H0 Ri R0  r)
def ay.pj4 (F:Nat) (au:abv) (pG:Int) (pH:Int) (tC:aaX) (pI:Int) (pJ:Int):Option (Int):=au pG pH tC pI (wrap .i64 (pJ+1))
theorem ay.j4_P  {C29_:aaW} {au:abv} (hC29:ay.S29 H0 Ri R0  C29_ au) {pG pH pI pJ Mn ER Mo tC} (VY:ER=tC.length) (h0:Out H0 Ri H R0 λR=>ROs eI H R ⟨Mn,ER,Mo⟩ tC) {r:Int} (hp:ay.pj4 F au pG pH tC pI pJ=some r):Rt (ay.j4 F (cL.tw F) C29_ pG pH ⟨Mn,ER,Mo⟩ pI pJ H) (ay.Q H0 Ri R0  r):=by
 obtain ⟨w0,s0,VZ⟩:=h0
 subst VY
 unfold ay.pj4 at hp
 unfold ay.j4
 exact hC29 rfl ⟨w0,s0,VZ⟩ hp
def ay.pj5 (F:Nat) (au:abv) (pK:Int) (pL:Int) (tD:aaX) (pN:Int) (pO:Int):Option (Int):=au pK pL tD pN (wrap .i64 (pO+1))
theorem ay.j5_P  {C29_:aaW} {au:abv} (hC29:ay.S29 H0 Ri R0  C29_ au) {pK pL pN pO Mp ES Mq tD} (V_:ES=tD.length) (h0:Out H0 Ri H R0 λR=>ROs eI H R ⟨Mp,ES,Mq⟩ tD) {r:Int} (hp:ay.pj5 F au pK pL tD pN pO=some r):Rt (ay.j5 F (cL.tw F) C29_ pK pL ⟨Mp,ES,Mq⟩ pN pO H) (ay.Q H0 Ri R0  r):=by
 obtain ⟨w0,s0,Wa⟩:=h0
 subst V_
 unfold ay.pj5 at hp
 unfold ay.j5
 exact hC29 rfl ⟨w0,s0,Wa⟩ hp
def ay.pj6 (F:Nat) (au:abv) (pP:Int) (pQ:Int) (tE:aaX) (pR:Int) (pS:Int):Option (Int):=(cL.p F pQ).bind λr1=>ay.pj5 F au pP r1 tE pR pS
theorem ay.j6_P  {C29_:aaW} {au:abv} (hC29:ay.S29 H0 Ri R0  C29_ au) {pP pQ pR pS Mr ET Ms tE} (Wb:ET=tE.length) (h0:Out H0 Ri H R0 λR=>ROs eI H R ⟨Mr,ET,Ms⟩ tE) {r:Int} (hp:ay.pj6 F au pP pQ tE pR pS=some r):Rt (ay.j6 F (cL.tw F) C29_ pP pQ ⟨Mr,ET,Ms⟩ pR pS H) (ay.Q H0 Ri R0  r):=by
 obtain ⟨w0,s0,Wc⟩:=h0
 subst Wb
 unfold ay.pj6 at hp
 unfold ay.j6
 obtain ⟨r1,e1,hp⟩:=ah hp
 refine bf (cL.P ⟨w0,trivial⟩ e1) ?_
 rintro _ H2 ⟨rfl,w2,s2,_⟩
 refine br ?_
 exact ay.j5_P (@hC29) rfl ⟨w2,(s0.trans s2),(Wc.step s2)⟩ hp
def ay.pl29 (F:Nat) :Nat->Int->Int->List Int->Int->Int->Option (Int)
 | 0,_,_,_,_,_=>none
 | k+1,bT,bU,fj,eA,dR=>(bif (decide (dR<eA)) then ((ix fj dR).bind λn1=>(bif ((gt fj n1)==0) then (ay.pj4 F (ay.pl29 F k) bT bU fj eA dR) else ((bif (bU != 0) then ((cL.p F (gt fj n1)).bind λr2=>(bif (r2 != bU) then (ay.pj6 F (ay.pl29 F k) (wrap .i64 (bT+1)) (gt fj n1) fj eA dR) else (ay.pj6 F (ay.pl29 F k) bT (gt fj n1) fj eA dR))) else ((cL.p F (gt fj n1)).bind λr4=>ay.pj5 F (ay.pl29 F k) bT r4 fj eA dR))))) else (some bT))
theorem ay.l29_P  :∀ k,ay.S29 H0 Ri R0  (ay.l29 F (cL.tw F)  k) (ay.pl29 F  k):=by
 intro k
 induction k with
 | zero=>unfold ay.S29;intros;rename_i hp;cases hp
 | succ k ih=>
  intro bT bU eA dR EP ym EQ fj H Wd h0 r hp
  obtain ⟨w0,s0,tF⟩:=h0
  subst Wd
  unfold ay.pl29 at hp
  unfold ay.l29
  refine aL hp (λhp=>?_) λhp=>?_
  ·obtain ⟨n1,g1,hp⟩:=ah hp
   obtain ⟨p1,q1,i1,h1,j1⟩:=ROs.ixr tF rfl g1
   refine aP i1 ?_
   have h1:_=[_]:=h1
   subst h1
   refine aP (cU (j1 0 _ rfl)) ?_
   refine aL hp (λhp=>?_) λhp=>?_
   ·exact ay.j4_P (@ih) rfl ⟨w0,s0,tF⟩ hp
   ·refine aL hp (λhp=>?_) λhp=>?_
    ·obtain ⟨r2,e2,hp⟩:=ah hp
     refine bf (cL.P ⟨w0,trivial⟩ e2) ?_
     rintro _ H3 ⟨rfl,w3,s3,_⟩
     refine br ?_
     refine aL hp (λhp=>?_) λhp=>?_
     ·exact ay.j6_P (@ih) rfl ⟨w3,(s0.trans s3),(tF.step s3)⟩ hp
     ·exact ay.j6_P (@ih) rfl ⟨w3,(s0.trans s3),(tF.step s3)⟩ hp
    ·obtain ⟨r4,e4,hp⟩:=ah hp
     refine bf (cL.P ⟨w0,trivial⟩ e4) ?_
     rintro _ H5 ⟨rfl,w5,s5,_⟩
     refine br ?_
     exact ay.j5_P (@ih) rfl ⟨w5,(s0.trans s5),(tF.step s5)⟩ hp
  ·exact aM hp ⟨rfl,w0,s0,trivial⟩
def ay.p (F:Nat) (aV:aaX):Option (Int):=ay.pl29 F F 0 0 aV (aV.length:Int) 0
theorem ay.P {dd ci de aV} (eB:ci=aV.length) (h0:Inn H R0 λR=>ROs eI H R ⟨dd,ci,de⟩ aV) {r:Int} (hp:ay.p F aV=some r):Rt (ay.tw F ⟨dd,ci,de⟩ H) (ay.Q H R0 R0  r):=by
 obtain ⟨w0,fg⟩:=h0
 subst eB
 unfold ay.p at hp
 unfold ay.tw ay.twX
 have s0:=w0.rf
 exact ay.l29_P F rfl ⟨w0,s0,fg⟩ hp
def dq.Q (H0:Hp) (Ri R0:aaZ)  (r:Int) (v:AV) (H':Hp):Prop:=v=(.i r)/\Out H0 Ri H' (R0) λR=>True
def dq.p (F:Nat) (aa:Int):Option (Int):=some (wrap .i64 (1 - (wrap .i64 (2 * (Int.tmod aa 2)))))
theorem dq.P {aa}  (h0:Inn H R0 λR=>True) {r:Int} (hp:dq.p F aa=some r):Rt (dq.tw F aa H) (dq.Q H R0 R0  r):=by
 obtain ⟨w0,_⟩:=h0
 unfold dq.p at hp
 unfold dq.tw dq.twX
 have s0:=w0.rf
 exact aM hp ⟨rfl,w0,s0,trivial⟩
def aT.Q (H0:Hp) (Ri R0:aaZ)  (r:Int) (v:AV) (H':Hp):Prop:=v=(.i r)/\Out H0 Ri H' (R0) λR=>True
def aT.S61 (H0:Hp) (Ri R0:aaZ)  (C:abw) (pC:abx):Prop:=∀ {EU yn EV jm EW iJ iK cX},∀ {H:Hp},yn=jm.length->(Out H0 Ri H (Rs.own ⟨EU,yn,EV⟩ eI.z EW::R0) λR=>CR eI H R EW jm)->∀ {r:Int},pC jm iJ iK cX=some r->Rt (C ⟨EU,yn,EV⟩ iJ iK cX H) (aT.Q H0 Ri R0  r)
def aT.pj1 (F:Nat)  (tG:aaX) (pT:Int):Option (Int):=(ay.p F tG).bind λr2=>some (wrap .i64 (pT - r2))
theorem aT.j1_P   {Mt EY Mu tG Mv pT} (We:EY=tG.length) (h0:Out H0 Ri H (Rs.own ⟨Mt,EY,Mu⟩ eI.z Mv::R0) λR=>CR eI H R Mv tG) {r:Int} (hp:aT.pj1 F  tG pT=some r):Rt (aT.j1 F (af.tw F) (ay.tw F) (dq.tw F)  ⟨Mt,EY,Mu⟩ pT H) (aT.Q H0 Ri R0  r):=by
 obtain ⟨w0,s0,Wf⟩:=h0
 subst We
 unfold aT.pj1 at hp
 unfold aT.j1
 have f1:=W.borrow1 eI w0 Wf
 obtain ⟨w1,s1⟩:=w0.right1
 obtain ⟨r2,e2,hp⟩:=ah hp
 refine bf (ay.P rfl ⟨w1,f1⟩ e2) ?_
 rintro _ H3 ⟨rfl,w3,s3,_⟩
 obtain ⟨w4,s4⟩:=W.frame1 w0 w3 s3
 refine br ?_
 obtain ⟨w5,s5⟩:=w4.pp [] 1
 exact aM hp ⟨rfl,w5,(s0.trans (s4.trans s5)),trivial⟩
def aT.pl61 (F:Nat) :Nat->List Int->Int->Int->Int->Option (Int)
 | 0,_,_,_,_=>none
 | k+1,jm,iJ,iK,cX=>(bif (decide (cX<iK)) then ((ix jm cX).bind λn1=>(dq.p F cX).bind λr2=>(ix jm cX).bind λn5=>(some (jm.set n5 (wrap .i64 ((gt jm n1) * r2)))).bind λl6=>aT.pl61 F k l6 iJ iK (wrap .i64 (cX+1))) else (aT.pj1 F jm iJ))
theorem aT.l61_P  :∀ k,aT.S61 H0 Ri R0  (aT.l61 F (af.tw F) (ay.tw F) (dq.tw F)  k) (aT.pl61 F  k):=by
 intro k
 induction k with
 | zero=>unfold aT.S61;intros;rename_i hp;cases hp
 | succ k ih=>
  intro EU yn EV jm EW iJ iK cX H Wg h0 r hp
  obtain ⟨w0,s0,yo⟩:=h0
  subst Wg
  unfold aT.pl61 at hp
  unfold aT.l61
  refine aL hp (λhp=>?_) λhp=>?_
  ·obtain ⟨n1,g1,hp⟩:=ah hp
   obtain ⟨p1,q1,i1,h1,j1⟩:=W.ixo (E:=eI) w0 (i:=0) rfl rfl yo g1
   refine aP i1 ?_
   have h1:_=[_]:=h1
   subst h1
   refine aP (cU (j1 0 _ rfl)) ?_
   obtain ⟨r2,e2,hp⟩:=ah hp
   refine bf (dq.P ⟨w0,trivial⟩ e2) ?_
   rintro _ H3 ⟨rfl,w3,s3,_⟩
   refine br ?_
   refine dW (W.cons_of (Rn:=[]) w0 w3 s3) ?_
   obtain ⟨n5,g5,hp⟩:=ah hp
   obtain ⟨p5,q5,i5,h5,j5⟩:=W.ixo (E:=eI) w3 (i:=0) rfl rfl (yo.step s3) g5
   refine aP i5 ?_
   obtain ⟨l6,e6,hp⟩:=ah hp
   refine gn eI w3 (i:=0) (j:=0) (p:=p5) rfl rfl (yo.step s3) g5 i5 e6 rfl rfl (λ_ h=>by have h:_=[_]:=h;subst h;exact rfl) λH7 k7 w7 s7 c7=>?_
   exact ih ((gp e6).symm) ⟨w7,(s0.trans (s3.trans s7)),c7⟩ hp
  ·exact aT.j1_P rfl ⟨w0,s0,yo⟩ hp
def aT.p (F:Nat) (aa:Int) (ac:Int) (ak:aaX):Option (Int):=(af.p F aa ac ak).bind λr2=>(ay.p F r2).bind λr5=>aT.pl61 F F r2 r5 (r2.length:Int) 0
theorem aT.P {aa ac aZ aH a_ ak} (bO:aH=ak.length) (h0:Inn H R0 λR=>ROs eI H R ⟨aZ,aH,a_⟩ ak) {r:Int} (hp:aT.p F aa ac ak=some r):Rt (aT.tw F aa ac ⟨aZ,aH,a_⟩ H) (aT.Q H R0 R0  r):=by
 obtain ⟨w0,bj⟩:=h0
 subst bO
 unfold aT.p at hp
 unfold aT.tw aT.twX
 have s0:=w0.rf
 refine bI w0 λH1 w1 s1=>?_
 refine lI w1 0 ?_
 refine lI w1 0 ?_
 refine lSl w1 0 ?_
 obtain ⟨r2,e2,hp⟩:=ah hp
 refine bf (af.P rfl ⟨w1,(bj.step s1)⟩ e2) ?_
 rintro _ H3 ⟨o0a_3,o0n_3,o0c_3,o0k_3,rfl,rfl,w3,s3,f3_0⟩
 refine br ?_
 have f4:=W.borrow1 eI w3 f3_0
 obtain ⟨w4,s4⟩:=w3.right1
 obtain ⟨r5,e5,hp⟩:=ah hp
 refine bf (ay.P rfl ⟨w4,f4⟩ e5) ?_
 rintro _ H6 ⟨rfl,w6,s6,_⟩
 obtain ⟨w7,s7⟩:=W.frame1 w3 w6 s6
 refine br ?_
 obtain ⟨w8,s8⟩:=w7.pp [0] 2
 exact aT.l61_P F rfl ⟨w8,(s0.trans (s1.trans (s3.trans (s7.trans s8)))),(f3_0.step (s7.trans s8))⟩ hp
def cM.Q (H0:Hp) (Ri R0:aaZ)  (r:Int×Int) (v:AV) (H':Hp):Prop:=v=(.tup [(.i r.1),(.i r.2)])/\Out H0 Ri H' (R0) λR=>True
def cM.p (F:Nat) (aa:Int) (ac:Int) (ak:aaX):Option (Int×Int):=(bN.p F aa ac ak).bind λr2=>(bif (!r2) then (some (0,1)) else ((bif (aa != ac) then (some (0,2)) else ((aw.p F aa ac ak).bind λr6=>(dj.p F aa ac ak r6.1 r6.2.1 r6.2.2).bind λr10=>(bif (!r10) then (some (0,2)) else ((bif (decide (aa>12)) then (some (0,3)) else ((aB.p F aa ac ak).bind λr15=>(bif (decide (r15>1000000000)) then (some (0,3)) else ((aT.p F aa ac ak).bind λr18=>some (r18,0)))))))))))
theorem cM.P {aa ac aZ aH a_ ak} (bO:aH=ak.length) (h0:Inn H R0 λR=>ROs eI H R ⟨aZ,aH,a_⟩ ak) {r:Int×Int} (hp:cM.p F aa ac ak=some r):Rt (cM.tw F aa ac ⟨aZ,aH,a_⟩ H) (cM.Q H R0 R0  r):=by
 obtain ⟨w0,bj⟩:=h0
 subst bO
 unfold cM.p at hp
 unfold cM.tw cM.twX
 have s0:=w0.rf
 refine bI w0 λH1 w1 s1=>?_
 refine lI w1 0 ?_
 refine lI w1 0 ?_
 refine lSl w1 0 ?_
 obtain ⟨r2,e2,hp⟩:=ah hp
 refine bf (bN.P rfl ⟨w1,(bj.step s1)⟩ e2) ?_
 rintro _ H3 ⟨rfl,w3,s3,_⟩
 refine br ?_
 refine aL hp (λhp=>?_) λhp=>?_
 ·obtain ⟨w4,s4⟩:=w3.pp [] 1
  exact aM hp ⟨rfl,w4,(s0.trans (s1.trans (s3.trans s4))),trivial⟩
 ·refine lI w3 0 ?_
  refine lI w3 0 ?_
  refine aL hp (λhp=>?_) λhp=>?_
  ·obtain ⟨w5,s5⟩:=w3.pp [] 1
   exact aM hp ⟨rfl,w5,(s0.trans (s1.trans (s3.trans s5))),trivial⟩
  ·refine lI w3 0 ?_
   refine lI w3 0 ?_
   refine lSl w3 0 ?_
   refine lI w3 0 ?_
   refine lI w3 0 ?_
   refine lSl w3 0 ?_
   obtain ⟨r6,e6,hp⟩:=ah hp
   refine bf (aw.P rfl ⟨w3,(bj.step (s1.trans s3))⟩ e6) ?_
   rintro _ H7 ⟨o2a_7,o2n_7,o2c_7,o2k_7,rfl,rfl,w7,s7,f7_0⟩
   refine br (br (br (br (br (br (br ?_))))))
   refine dW (W.cons_of (Rn:=[_]) w3 w7 s7) ?_
   have f9:=W.borrow1 eI w7 f7_0
   obtain ⟨w9,s9⟩:=w7.right1
   obtain ⟨r10,e10,hp⟩:=ah hp
   refine bf (dj.P rfl rfl ⟨w9,((bj.step (s1.trans (s3.trans s7))).step s9),f9⟩ e10) ?_
   rintro _ H11 ⟨rfl,w11,s11,_⟩
   obtain ⟨w12,s12⟩:=W.frame1 w7 w11 s11
   refine br ?_
   refine aL hp (λhp=>?_) λhp=>?_
   ·obtain ⟨w13,s13⟩:=w12.pp [] 2
    exact aM hp ⟨rfl,w13,(s0.trans (s1.trans (s3.trans (s7.trans (s12.trans s13))))),trivial⟩
   ·refine lI w12 1 ?_
    refine aL hp (λhp=>?_) λhp=>?_
    ·obtain ⟨w14,s14⟩:=w12.pp [] 2
     exact aM hp ⟨rfl,w14,(s0.trans (s1.trans (s3.trans (s7.trans (s12.trans s14))))),trivial⟩
    ·refine lI w12 1 ?_
     refine lI w12 1 ?_
     refine lSl w12 1 ?_
     obtain ⟨r15,e15,hp⟩:=ah hp
     refine bf (aB.P rfl ⟨w12,(bj.step (s1.trans (s3.trans (s7.trans s12))))⟩ e15) ?_
     rintro _ H16 ⟨rfl,w16,s16,_⟩
     refine br ?_
     refine aL hp (λhp=>?_) λhp=>?_
     ·obtain ⟨w17,s17⟩:=w16.pp [] 2
      exact aM hp ⟨rfl,w17,(s0.trans (s1.trans (s3.trans (s7.trans (s12.trans (s16.trans s17)))))),trivial⟩
     ·refine lI w16 1 ?_
      refine lI w16 1 ?_
      refine lSl w16 1 ?_
      obtain ⟨r18,e18,hp⟩:=ah hp
      refine bf (aT.P rfl ⟨w16,(bj.step (s1.trans (s3.trans (s7.trans (s12.trans s16)))))⟩ e18) ?_
      rintro _ H19 ⟨rfl,w19,s19,_⟩
      refine br ?_
      obtain ⟨w20,s20⟩:=w19.pp [] 2
      exact aM hp ⟨rfl,w20,(s0.trans (s1.trans (s3.trans (s7.trans (s12.trans (s16.trans (s19.trans s20))))))),trivial⟩
def bB.Q (H0:Hp) (Ri R0:aaZ)  (r:Bool) (v:AV) (H':Hp):Prop:=v=(.bool r)/\Out H0 Ri H' (R0) λR=>True
def bB.S29 (H0:Hp) (Ri R0:aaZ)  (C:abA) (pC:abC):Prop:=∀ {iL mz fz jQ iM mA cS eC ff},∀ {H:Hp},fz=cS.length->jQ=eC.length->(Out H0 Ri H R0 λR=>ROs eI H R ⟨iL,fz,iM⟩ cS/\ROs eI H R ⟨mz,jQ,mA⟩ eC)->∀ {r:Bool},pC cS eC ff=some r->Rt (C ⟨iL,fz,iM⟩ ⟨mz,jQ,mA⟩ ff H) (bB.Q H0 Ri R0  r)
def bB.pl29 (F:Nat) :Nat->List Int->List Int->Int->Option (Bool)
 | 0,_,_,_=>none
 | k+1,cS,eC,ff=>(bif (decide (ff<(cS.length:Int))) then ((ix cS ff).bind λn1=>(ix eC ff).bind λn2=>(bif ((gt cS n1) != (gt eC n2)) then (some false) else (bB.pl29 F k cS eC (wrap .i64 (ff+1))))) else (some true))
theorem bB.l29_P  :∀ k,bB.S29 H0 Ri R0  (bB.l29 F   k) (bB.pl29 F  k):=by
 intro k
 induction k with
 | zero=>unfold bB.S29;intros;rename_i hp;cases hp
 | succ k ih=>
  intro iL mz fz jQ iM mA cS eC ff H rC CV h0 r hp
  obtain ⟨w0,s0,kP,sI⟩:=h0
  subst rC
  subst CV
  unfold bB.pl29 at hp
  unfold bB.l29
  refine aL hp (λhp=>?_) λhp=>?_
  ·obtain ⟨n1,g1,hp⟩:=ah hp
   obtain ⟨p1,q1,i1,h1,j1⟩:=ROs.ixr kP rfl g1
   refine aP i1 ?_
   have h1:_=[_]:=h1
   subst h1
   refine aP (cU (j1 0 _ rfl)) ?_
   obtain ⟨n2,g2,hp⟩:=ah hp
   obtain ⟨p2,q2,i2,h2,j2⟩:=ROs.ixr sI rfl g2
   refine aP i2 ?_
   have h2:_=[_]:=h2
   subst h2
   refine aP (cU (j2 0 _ rfl)) ?_
   refine aL hp (λhp=>?_) λhp=>?_
   ·exact aM hp ⟨rfl,w0,s0,trivial⟩
   ·exact ih rfl rfl ⟨w0,s0,kP,sI⟩ hp
  ·exact aM hp ⟨rfl,w0,s0,trivial⟩
def bB.p (F:Nat) (aV:aaX) (gh:aaX):Option (Bool):=(bif ((aV.length:Int) != (gh.length:Int)) then (some false) else (bB.pl29 F F aV gh 0))
theorem bB.P {dd sJ ci mB de sK aV gh} (eB:ci=aV.length) (CW:mB=gh.length) (h0:Inn H R0 λR=>ROs eI H R ⟨dd,ci,de⟩ aV/\ROs eI H R ⟨sJ,mB,sK⟩ gh) {r:Bool} (hp:bB.p F aV gh=some r):Rt (bB.tw F ⟨dd,ci,de⟩ ⟨sJ,mB,sK⟩ H) (bB.Q H R0 R0  r):=by
 obtain ⟨w0,fg,CX⟩:=h0
 subst eB
 subst CW
 unfold bB.p at hp
 unfold bB.tw bB.twX
 have s0:=w0.rf
 refine aL hp (λhp=>?_) λhp=>?_
 ·exact aM hp ⟨rfl,w0,s0,trivial⟩
 ·exact bB.l29_P F rfl rfl ⟨w0,s0,fg,CX⟩ hp
def dh.Q (H0:Hp) (Ri R0:aaZ)  (r:Bool) (v:AV) (H':Hp):Prop:=v=(.bool r)/\Out H0 Ri H' (R0) λR=>True
def dh.p (F:Nat) (aa:Int) (ac:Int) (ak:aaX) (aC:Int) (cv:Int) (dU:aaX):Option (Bool):=(bif (aa != aC) then (some false) else ((bif (ac != cv) then (some false) else ((bB.p F ak dU).bind λr5=>(bif (!r5) then (some false) else (some true))))))
theorem dh.P {aa ac aC cv aZ kU aH iN a_ kV ak dU} (bO:aH=ak.length) (rI:iN=dU.length) (h0:Inn H R0 λR=>ROs eI H R ⟨aZ,aH,a_⟩ ak/\ROs eI H R ⟨kU,iN,kV⟩ dU) {r:Bool} (hp:dh.p F aa ac ak aC cv dU=some r):Rt (dh.tw F aa ac ⟨aZ,aH,a_⟩ aC cv ⟨kU,iN,kV⟩ H) (dh.Q H R0 R0  r):=by
 obtain ⟨w0,bj,rJ⟩:=h0
 subst bO
 subst rI
 unfold dh.p at hp
 unfold dh.tw dh.twX
 have s0:=w0.rf
 refine bI w0 λH1 w1 s1=>?_
 refine bI w1 λH2 w2 s2=>?_
 refine lI w2 1 ?_
 refine lI w2 0 ?_
 refine aL hp (λhp=>?_) λhp=>?_
 ·obtain ⟨w3,s3⟩:=w2.pp [] 2
  exact aM hp ⟨rfl,w3,(s0.trans (s1.trans (s2.trans s3))),trivial⟩
 ·refine lI w2 1 ?_
  refine lI w2 0 ?_
  refine aL hp (λhp=>?_) λhp=>?_
  ·obtain ⟨w4,s4⟩:=w2.pp [] 2
   exact aM hp ⟨rfl,w4,(s0.trans (s1.trans (s2.trans s4))),trivial⟩
  ·refine lSl w2 1 ?_
   refine lSl w2 0 ?_
   obtain ⟨r5,e5,hp⟩:=ah hp
   refine bf (bB.P rfl rfl ⟨w2,(bj.step (s1.trans s2)),(rJ.step (s1.trans s2))⟩ e5) ?_
   rintro _ H6 ⟨rfl,w6,s6,_⟩
   refine br ?_
   refine aL hp (λhp=>?_) λhp=>?_
   ·obtain ⟨w7,s7⟩:=w6.pp [] 2
    exact aM hp ⟨rfl,w7,(s0.trans (s1.trans (s2.trans (s6.trans s7)))),trivial⟩
   ·obtain ⟨w8,s8⟩:=w6.pp [] 2
    exact aM hp ⟨rfl,w8,(s0.trans (s1.trans (s2.trans (s6.trans s8)))),trivial⟩
def cE.Q (H0:Hp) (Ri R0:aaZ)  (r:Bool) (v:AV) (H':Hp):Prop:=v=(.bool r)/\Out H0 Ri H' (R0) λR=>True
def cE.p (F:Nat) (aa:Int) (ac:Int) (ak:aaX):Option (Bool):=(df.p F ak 1048576).bind λr2=>(bif (decide (r2<0)) then (some true) else ((cG.p F aa ac ak).bind λr5=>(cK.p F r5.1 r5.2.1 r5.2.2).bind λr8=>(cG.p F aa ac ak).bind λr11=>(cM.p F r11.1 r11.2.1 r11.2.2).bind λr19=>(bif (r19.1 != r8.1) then (some false) else ((bif (r19.2 != r8.2) then (some false) else ((cG.p F aa ac ak).bind λr24=>(dh.p F r11.1 r11.2.1 r11.2.2 r24.1 r24.2.1 r24.2.2).bind λr30=>(bif (!r30) then (some false) else (some true))))))))
theorem cE.P {aa ac aZ aH a_ ak} (bO:aH=ak.length) (h0:Inn H R0 λR=>ROs eI H R ⟨aZ,aH,a_⟩ ak) {r:Bool} (hp:cE.p F aa ac ak=some r):Rt (cE.tw F aa ac ⟨aZ,aH,a_⟩ H) (cE.Q H R0 R0  r):=by
 obtain ⟨w0,bj⟩:=h0
 subst bO
 unfold cE.p at hp
 unfold cE.tw cE.twX
 have s0:=w0.rf
 refine bI w0 λH1 w1 s1=>?_
 refine lI w1 0 ?_
 refine lI w1 0 ?_
 refine lSl w1 0 ?_
 obtain ⟨r2,e2,hp⟩:=ah hp
 refine bf (df.P rfl ⟨w1,(bj.step s1)⟩ e2) ?_
 rintro _ H3 ⟨rfl,w3,s3,_⟩
 refine br ?_
 refine aL hp (λhp=>?_) λhp=>?_
 ·obtain ⟨w4,s4⟩:=w3.pp [] 1
  exact aM hp ⟨rfl,w4,(s0.trans (s1.trans (s3.trans s4))),trivial⟩
 ·refine lI w3 0 ?_
  refine lI w3 0 ?_
  refine lSl w3 0 ?_
  obtain ⟨r5,e5,hp⟩:=ah hp
  refine bf (cG.P rfl ⟨w3,(bj.step (s1.trans s3))⟩ e5) ?_
  rintro _ H6 ⟨o2a_6,o2n_6,o2c_6,o2k_6,rfl,rfl,w6,s6,f6_0⟩
  refine br (br (br (br (br (br (br ?_))))))
  have f7:=W.borrow1 eI w6 f6_0
  obtain ⟨w7,s7⟩:=w6.right1
  obtain ⟨r8,e8,hp⟩:=ah hp
  refine bf (cK.P rfl ⟨w7,f7⟩ e8) ?_
  rintro _ H9 ⟨rfl,w9,s9,_⟩
  obtain ⟨w10,s10⟩:=W.frame1 w6 w9 s9
  refine br (br (br (br (br ?_))))
  refine lI w10 1 ?_
  refine lI w10 1 ?_
  refine lSl w10 1 ?_
  obtain ⟨r11,e11,hp⟩:=ah hp
  refine bf (cG.P rfl ⟨w10,(bj.step (s1.trans (s3.trans (s6.trans s10))))⟩ e11) ?_
  rintro _ H12 ⟨o2a_12,o2n_12,o2c_12,o2k_12,rfl,rfl,w12,s12,f12_0⟩
  refine br (br (br (br (br (br (br ?_))))))
  refine bI w12 λH13 w13 s13=>?_
  refine bu w13 0 λH14 w14 s14=>?_
  refine bu w14 0 λH15 w15 s15=>?_
  refine bu w15 0 λH16 w16 s16=>?_
  refine lI w16 0 ?_
  refine lI w16 0 ?_
  refine lSl w16 0 ?_
  obtain ⟨w17,s17⟩:=w16.pp [1,0,2,3] 4
  have f18:=W.borrow1 eI w17 (f12_0.step (s13.trans (s14.trans (s15.trans (s16.trans s17)))))
  obtain ⟨w18,s18⟩:=w17.right1
  obtain ⟨r19,e19,hp⟩:=ah hp
  refine bf (cM.P rfl ⟨w18,f18⟩ e19) ?_
  rintro _ H20 ⟨rfl,w20,s20,_⟩
  obtain ⟨w21,s21⟩:=W.frame1 w17 w20 s20
  refine br (br (br (br (br ?_))))
  refine aL hp (λhp=>?_) λhp=>?_
  ·obtain ⟨w22,s22⟩:=w21.pp [] 4
   exact aM hp ⟨rfl,w22,(s0.trans (s1.trans (s3.trans (s6.trans (s10.trans (s12.trans (s13.trans (s14.trans (s15.trans (s16.trans (s17.trans (s21.trans s22)))))))))))),trivial⟩
  ·refine aL hp (λhp=>?_) λhp=>?_
   ·obtain ⟨w23,s23⟩:=w21.pp [] 4
    exact aM hp ⟨rfl,w23,(s0.trans (s1.trans (s3.trans (s6.trans (s10.trans (s12.trans (s13.trans (s14.trans (s15.trans (s16.trans (s17.trans (s21.trans s23)))))))))))),trivial⟩
   ·refine lI w21 1 ?_
    refine lI w21 1 ?_
    refine lSl w21 1 ?_
    refine lI w21 3 ?_
    refine lI w21 3 ?_
    refine lSl w21 3 ?_
    obtain ⟨r24,e24,hp⟩:=ah hp
    refine bf (cG.P rfl ⟨w21,(bj.step (s1.trans (s3.trans (s6.trans (s10.trans (s12.trans (s13.trans (s14.trans (s15.trans (s16.trans (s17.trans s21)))))))))))⟩ e24) ?_
    rintro _ H25 ⟨o2a_25,o2n_25,o2c_25,o2k_25,rfl,rfl,w25,s25,f25_0⟩
    refine br (br (br (br (br (br (br ?_))))))
    refine dW (W.cons_of (Rn:=[_]) w21 w25 s25) ?_
    obtain ⟨w27,s27⟩:=w25.pp [1,0,2,3,4] 5
    have f28:=W.borrow1 eI w27 (f12_0.step (s13.trans (s14.trans (s15.trans (s16.trans (s17.trans (s21.trans (s25.trans s27))))))))
    obtain ⟨w28,s28⟩:=w27.right1
    have f29:=W.borrow1 eI w28 ((f25_0.step s27).step s28)
    obtain ⟨w29,s29⟩:=w28.right1
    obtain ⟨r30,e30,hp⟩:=ah hp
    refine bf (dh.P rfl rfl ⟨w29,(f28.step s29),f29⟩ e30) ?_
    rintro _ H31 ⟨rfl,w31,s31,_⟩
    obtain ⟨w32,s32⟩:=W.frame1 w28 w31 s31
    obtain ⟨w33,s33⟩:=W.frame1 w27 w32 s32
    refine br ?_
    refine aL hp (λhp=>?_) λhp=>?_
    ·obtain ⟨w34,s34⟩:=w33.pp [] 5
     exact aM hp ⟨rfl,w34,(s0.trans (s1.trans (s3.trans (s6.trans (s10.trans (s12.trans (s13.trans (s14.trans (s15.trans (s16.trans (s17.trans (s21.trans (s25.trans (s27.trans (s33.trans s34))))))))))))))),trivial⟩
    ·obtain ⟨w35,s35⟩:=w33.pp [] 5
     exact aM hp ⟨rfl,w35,(s0.trans (s1.trans (s3.trans (s6.trans (s10.trans (s12.trans (s13.trans (s14.trans (s15.trans (s16.trans (s17.trans (s21.trans (s25.trans (s27.trans (s33.trans s35))))))))))))))),trivial⟩
end
end Go.Proofs.Ytokekkacliomkaa.AE
