import Derived.Test.YtodfdhnlhiaohaaT1
import Derived.Test.YtodfdhnlhiaohaaE2
set_option linter.unusedVariables false
set_option linter.unusedSimpArgs false
namespace Go.Proofs.Ytodfdhnlhiaohaa.AE
open Go Go.AE Go.Proofs IntKind
set_option linter.unusedVariables false
variable {F:Nat} {H H0:Hp} {Ri R0:VJ}
set_option maxHeartbeats 4000000
set_option maxRecDepth 100000
noncomputable section
def eE.Q (H0:Hp) (Ri R0:VJ)  (r:Bool) (v:AV) (H':Hp):Prop:=v=(.bool r)/\Out H0 Ri H' (R0) λR=>True
def eE.p (F:Nat) (ar:VE):Option (Bool):=some (decide ((ar.length:Int)>4096))
theorem eE.P {aY aL aZ ar} (cq:aL=ar.length) (h0:Inn H R0 λR=>ROs (bd .u8) H R ⟨aY,aL,aZ⟩ ar) {r:Bool} (hp:eE.p F ar=some r):Rt (eE.tw F ⟨aY,aL,aZ⟩ H) (eE.Q H R0 R0  r):=by
 obtain ⟨w0,cj⟩:=h0
 subst cq
 unfold eE.p at hp
 unfold eE.tw eE.twX
 have s0:=w0.rf
 exact aJ hp ⟨rfl,w0,s0,trivial⟩
def bR.Q (H0:Hp) (Ri R0:VJ)  (r:Ws) (v:AV) (H':Hp):Prop:=∃ o0a:ON,∃ o0n:Nat,∃ o0c:Cap,∃ ob0:Nat,v=(.ptr ob0 0)/\o0n=(r.1).length/\Out H0 Ri H' (Rs.blk ob0 [.sl ⟨o0a,o0n,o0c⟩,.i r.2.1,.i r.2.2]::R0) λR=>ROs (bd .u8) H' R ⟨o0a,o0n,o0c⟩ (r.1)
def bR.S29 (H0:Hp) (Ri R0:VJ)  (C:Sl->Nat->Nat->Int->Hp->OA) (pC:List Int->Int->Int->Int->Option (List Int×Int×Int)):Prop:=∀ {en dr cP eo bp kt ku bu},∀ {H:Hp},dr=bp.length->(Out H0 Ri H (Rs.blk cP [.sl ⟨en,dr,eo⟩,.i kt,.i ku]::R0) λR=>ROs (bd .u8) H R ⟨en,dr,eo⟩ bp)->∀ {r:Ws},pC bp kt ku bu=some r->Rt (C ⟨en,dr,eo⟩ cP 0 bu H) (bR.Q H0 Ri R0  r)
def bR.pl29 (F:Nat) :Nat->List Int->Int->Int->Int->Option (List Int×Int×Int)
 | 0,_,_,_,_=>none
 | k+1,bp,kt,ku,bu=>(bif (decide (bu<(bp.length:Int))) then ((bif (decide (bu<64)) then ((ix bp bu).bind λn1=>bR.pl29 F k bp kt (Int.tmod (wrap .i64 ((wrap .i64 (ku * 37))+(wrap .i64 (gt bp n1)))) 2147483647) (wrap .i64 (bu+1))) else (some (bp,kt,ku)))) else (some (bp,kt,ku)))
theorem bR.l29_P  :∀ k,bR.S29 H0 Ri R0  (bR.l29 F   k) (bR.pl29 F  k):=by
 intro k
 induction k with
 | zero=>unfold bR.S29;intros;rename_i hp;cases hp
 | succ k ih=>
  intro en dr cP eo bp kt ku bu H gO h0 r hp
  obtain ⟨w0,s0,eC⟩:=h0
  subst gO
  unfold bR.pl29 at hp
  unfold bR.l29
  refine aE hp (λhp=>?_) λhp=>?_
  ·refine aE hp (λhp=>?_) λhp=>?_
   ·refine lI w0 0 ?_
    obtain ⟨n1,g1,hp⟩:=ae hp
    obtain ⟨p1,q1,i1,h1,j1⟩:=ROs.ixr eC rfl g1
    refine ai i1 ?_
    have h1:_=[_]:=h1
    subst h1
    refine ai (bL (j1 0 _ rfl)) ?_
    refine aM w0 0 λH2 w2 s2=>?_
    exact ih rfl ⟨w2,(s0.trans s2),(eC.step s2)⟩ hp
   ·exact aJ hp ⟨_,_,_,_,rfl,rfl,w0,s0,eC⟩
  ·exact aJ hp ⟨_,_,_,_,rfl,rfl,w0,s0,eC⟩
def bR.p (F:Nat) (ar:VE):Option (List Int×Int×Int):=bR.pl29 F F ar 0 97531 0
theorem bR.P {aY aL aZ ar} (cq:aL=ar.length) (h0:Inn H R0 λR=>ROs (bd .u8) H R ⟨aY,aL,aZ⟩ ar) {r:Ws} (hp:bR.p F ar=some r):Rt (bR.tw F ⟨aY,aL,aZ⟩ H) (bR.Q H R0 R0  r):=by
 obtain ⟨w0,cj⟩:=h0
 subst cq
 unfold bR.p at hp
 unfold bR.tw bR.twX
 have s0:=w0.rf
 refine cg w0 λH1 w1 s1=>?_
 exact bR.l29_P F rfl ⟨w1,(s0.trans s1),(cj.step s1)⟩ hp
def aD.Q (H0:Hp) (Ri R0:VJ) (dD:ON) (dl aa:Nat) (dE:Cap) (cA:VE) (r:Wj) (v:AV) (H':Hp):Prop:=v=(.i r.1)/\Out H0 Ri H' (Rs.blk aa [.sl ⟨dD,dl,dE⟩,.i (r.2.1),.i (r.2.2)]::R0) λR=>True
def aD.pj1 (F:Nat)  (jy:Int) (kR:Int) (aj:Int) (ak:Int):Option (Int×Int×Int):=(if jy=0 then none else (some ((Int.tmod kR jy),aj,ak)))
theorem aD.j1_P {ax au aA ay ag}  {jy kR aj ak} (bK:au=ag.length) (h0:Out H0 Ri H (Rs.blk aA [.sl ⟨ax,au,ay⟩,.i aj,.i ak]::R0) λR=>ROs (bd .u8) H R ⟨ax,au,ay⟩ ag) {r:Wj} (hp:aD.pj1 F  jy kR aj ak=some r):Rt (aD.j1 F   jy kR H) (aD.Q H0 Ri R0 ax au aA ay ag r):=by
 obtain ⟨w0,s0,aU⟩:=h0
 subst bK
 unfold aD.pj1 at hp
 unfold aD.j1
 obtain ⟨g1,hp⟩:=HF hp
 refine HG g1 ?_
 exact aJ hp ⟨rfl,w0,s0,trivial⟩
def aD.pj2 (F:Nat)  (kS:Int) (kT:Int) (aj:Int) (ak:Int):Option (Int×Int×Int):=aD.pj1 F kS kT aj ak
theorem aD.j2_P {ax au aA ay ag}  {kS kT aj ak} (bK:au=ag.length) (h0:Out H0 Ri H (Rs.blk aA [.sl ⟨ax,au,ay⟩,.i aj,.i ak]::R0) λR=>ROs (bd .u8) H R ⟨ax,au,ay⟩ ag) {r:Wj} (hp:aD.pj2 F  kS kT aj ak=some r):Rt (aD.j2 F   kS kT H) (aD.Q H0 Ri R0 ax au aA ay ag r):=by
 obtain ⟨w0,s0,aU⟩:=h0
 subst bK
 unfold aD.pj2 at hp
 unfold aD.j2
 exact aD.j1_P rfl ⟨w0,s0,aU⟩ hp
def aD.pj3 (F:Nat)  (jz:Int) (kU:Int) (aj:Int) (ak:Int):Option (Int×Int×Int):=(if jz=0 then none else (some ((Int.tmod kU jz),aj,ak)))
theorem aD.j3_P {ax au aA ay ag}  {jz kU aj ak} (bK:au=ag.length) (h0:Out H0 Ri H (Rs.blk aA [.sl ⟨ax,au,ay⟩,.i aj,.i ak]::R0) λR=>ROs (bd .u8) H R ⟨ax,au,ay⟩ ag) {r:Wj} (hp:aD.pj3 F  jz kU aj ak=some r):Rt (aD.j3 F   jz kU H) (aD.Q H0 Ri R0 ax au aA ay ag r):=by
 obtain ⟨w0,s0,aU⟩:=h0
 subst bK
 unfold aD.pj3 at hp
 unfold aD.j3
 obtain ⟨g1,hp⟩:=HF hp
 refine HG g1 ?_
 exact aJ hp ⟨rfl,w0,s0,trivial⟩
def aD.p (F:Nat) (cA:VE) (aj:Int) (ak:Int) (aC:Int):Option (Int×Int×Int):=(bif (decide (aC<=1)) then (some (0,aj,ak)) else ((bif (decide (aj<(cA.length:Int))) then ((ix cA aj).bind λn2=>(bif (decide (aC<=256)) then ((bif ((Int.tmod (wrap .i64 (aj+1)) 2)==0) then ((ix cA (wrap .i64 ((wrap .i64 (aj+1)) - 1))).bind λn4=>aD.pj2 F aC (wrap .i64 (gt cA n4)) (wrap .i64 (aj+1)) (Int.tmod (wrap .i64 ((wrap .i64 (ak * 48271))+11)) 2147483647)) else (aD.pj2 F aC (wrap .i64 ((wrap .i64 (Int.tdiv (Int.tmod (wrap .i64 ((wrap .i64 (ak * 48271))+11)) 2147483647) 11))+(wrap .i64 (gt cA n2)))) (wrap .i64 (aj+1)) (Int.tmod (wrap .i64 ((wrap .i64 (ak * 48271))+11)) 2147483647)))) else (aD.pj1 F aC (wrap .i64 ((wrap .i64 (Int.tdiv (Int.tmod (wrap .i64 ((wrap .i64 (ak * 48271))+11)) 2147483647) 11))+(wrap .i64 (gt cA n2)))) (wrap .i64 (aj+1)) (Int.tmod (wrap .i64 ((wrap .i64 (ak * 48271))+11)) 2147483647)))) else (aD.pj3 F aC (wrap .i64 (Int.tdiv (Int.tmod (wrap .i64 ((wrap .i64 (ak * 48271))+11)) 2147483647) 11)) aj (Int.tmod (wrap .i64 ((wrap .i64 (ak * 48271))+11)) 2147483647)))))
theorem aD.P {dD dl aa dE cA aj ak aC} (kv:dl=cA.length) (h0:Inn H (Rs.blk aa [.sl ⟨dD,dl,dE⟩,.i aj,.i ak]::R0) λR=>ROs (bd .u8) H R ⟨dD,dl,dE⟩ cA) {r:Wj} (hp:aD.p F cA aj ak aC=some r):Rt (aD.tw F aa 0 aC H) (aD.Q H (Rs.blk aa [.sl ⟨dD,dl,dE⟩,.i aj,.i ak]::R0) R0 dD dl aa dE cA r):=by
 obtain ⟨w0,eS⟩:=h0
 subst kv
 unfold aD.p at hp
 unfold aD.tw aD.twX
 have s0:=w0.rf
 refine aE hp (λhp=>?_) λhp=>?_
 ·exact aJ hp ⟨rfl,w0,s0,trivial⟩
 ·refine lI w0 0 ?_
  refine aM w0 0 λH1 w1 s1=>?_
  refine lI w1 0 ?_
  refine lI w1 0 ?_
  refine lSl w1 0 ?_
  refine aE hp (λhp=>?_) λhp=>?_
  ·refine lSl w1 0 ?_
   refine lI w1 0 ?_
   obtain ⟨n2,g2,hp⟩:=ae hp
   obtain ⟨p2,q2,i2,h2,j2⟩:=ROs.ixr (eS.step s1) rfl g2
   refine ai i2 ?_
   have h2:_=[_]:=h2
   subst h2
   refine ai (bL (j2 0 _ rfl)) ?_
   refine lI w1 0 ?_
   refine aM w1 0 λH3 w3 s3=>?_
   refine aE hp (λhp=>?_) λhp=>?_
   ·refine lI w3 0 ?_
    refine aE hp (λhp=>?_) λhp=>?_
    ·refine lSl w3 0 ?_
     refine lI w3 0 ?_
     obtain ⟨n4,g4,hp⟩:=ae hp
     obtain ⟨p4,q4,i4,h4,j4⟩:=ROs.ixr (eS.step (s1.trans s3)) rfl g4
     refine ai i4 ?_
     have h4:_=[_]:=h4
     subst h4
     refine ai (bL (j4 0 _ rfl)) ?_
     exact aD.j2_P rfl ⟨w3,(s0.trans (s1.trans s3)),(eS.step (s1.trans s3))⟩ hp
    ·exact aD.j2_P rfl ⟨w3,(s0.trans (s1.trans s3)),(eS.step (s1.trans s3))⟩ hp
   ·exact aD.j1_P rfl ⟨w3,(s0.trans (s1.trans s3)),(eS.step (s1.trans s3))⟩ hp
  ·exact aD.j3_P rfl ⟨w1,(s0.trans s1),(eS.step s1)⟩ hp
def aN.Q (H0:Hp) (Ri R0:VJ) (dD:ON) (dl aa:Nat) (dE:Cap) (cA:VE) (r:VP) (v:AV) (H':Hp):Prop:=∃ o1a:ON,∃ o1n:Nat,∃ o1c:Cap,∃ o1k:List AV,v=(.agg [(.i r.1),(.sl ⟨o1a,o1n,o1c⟩)])/\o1n=(r.2.1).length/\Out H0 Ri H' (Rs.own ⟨o1a,o1n,o1c⟩ eI.z o1k::Rs.blk aa [.sl ⟨dD,dl,dE⟩,.i (r.2.2.1),.i (r.2.2.2)]::R0) λR=>CR eI H' R o1k (r.2.1)
def aN.S61 (H0:Hp) (Ri R0:VJ) (ax:ON) (au aA:Nat) (ay:Cap) (ag:VE) (C:Wo) (pC:Wt):Prop:=∀ {aj ak Ai iQ gD uU uV rY fG rZ gm uW uX uY jj uZ u_},∀ {H:Hp},au=ag.length->rY=uY.length->rZ=jj.length->(Out H0 Ri H (Rs.blk aA [.sl ⟨ax,au,ay⟩,.i aj,.i ak]::Rs.own ⟨uU,rY,uW⟩ eI.z uZ::Rs.blk fG [.i Ai,.sl ⟨uU,rY,uW⟩]::Rs.own ⟨uV,rZ,uX⟩ eI.z u_::Rs.blk gm [.i iQ,.sl ⟨uV,rZ,uX⟩]::R0) λR=>ROs (bd .u8) H R ⟨ax,au,ay⟩ ag/\CR eI H R uZ uY/\CR eI H R u_ jj)->∀ {r:VP},pC ag aj ak iQ jj gD=some r->Rt (C aA 0 fG 0 gm 0 gD H) (aN.Q H0 Ri R0 ax au aA ay ag r)
def aN.pj2 (F:Nat) (r_:Wt) (ag:VE) (aj:Int) (ak:Int) (sb:Int) (nG:VE) (kW:Int) (jA:Int):Option (Int×List Int×Int×Int):=(apn nG ([jA]:List Int)).bind λl2=>r_ ag aj ak sb l2 (wrap .i64 (kW - 1))
theorem aN.j2_P {ax au aA ay ag} {C61_:Wo} {r_:Wt} (hC61:aN.S61 H0 Ri R0 ax au aA ay ag C61_ r_) {aj ak MU sb kW jA Aj Ak va pJ vc kV Al Am An nG Ao Aq} (bK:au=ag.length) (MV:va=An.length) (MW:vc=nG.length) (h0:Out H0 Ri H (Rs.blk aA [.sl ⟨ax,au,ay⟩,.i aj,.i ak]::Rs.own ⟨Aj,va,Al⟩ eI.z Ao::Rs.blk pJ [.i MU,.sl ⟨Aj,va,Al⟩]::Rs.own ⟨Ak,vc,Am⟩ eI.z Aq::Rs.blk kV [.i sb,.sl ⟨Ak,vc,Am⟩]::R0) λR=>ROs (bd .u8) H R ⟨ax,au,ay⟩ ag/\CR eI H R Ao An/\CR eI H R Aq nG) {r:VP} (hp:aN.pj2 F r_ ag aj ak sb nG kW jA=some r):Rt (aN.j2 F (aD.tw F) C61_ aA 0 pJ 0 kV 0 kW jA H) (aN.Q H0 Ri R0 ax au aA ay ag r):=by
 obtain ⟨w0,s0,aU,MX,MY⟩:=h0
 subst bK
 subst MV
 subst MW
 unfold aN.pj2 at hp
 unfold aN.j2
 refine lSl w0 4 ?_
 refine er eI w0 (n:=1) (l:=([jA]:List Int)) rfl (CR.cons1 rfl CR.empty) rfl λH1 w1 s1 c1=>?_
 refine ai (w1.rowo (i:=0) rfl) ?_
 obtain ⟨l2,e2,hp⟩:=ae hp
 refine fj eI w1 (i:=4) rfl rfl (MY.step s1) c1 (show 1=List.length ([jA]:List Int) from rfl) rfl e2 λa3 d3 H3 w3 s3 c3 x3=>?_
 refine aM w3 5 λH4 w4 s4=>?_
 obtain ⟨w5,s5⟩:=w4.pp [1,2,3,4,5] 6
 exact hC61 rfl rfl rfl ⟨w5,(s0.trans (s1.trans (s3.trans (s4.trans s5)))),(aU.step (s1.trans (s3.trans (s4.trans s5)))),(MX.step (s1.trans (s3.trans (s4.trans s5)))),(c3.step (s4.trans s5))⟩ hp
def aN.pl61 (F:Nat) :Nat->List Int->Int->Int->Int->List Int->Int->Option (Int×List Int×Int×Int)
 | 0,_,_,_,_,_,_=>none
 | k+1,ag,aj,ak,iQ,jj,gD=>(bif (decide (gD>0)) then ((bif (decide (iQ>1)) then ((aD.p F ag aj ak (wrap .i64 (iQ - 1))).bind λr1=>(aD.p F ag r1.2.1 r1.2.2 2).bind λr3=>(bif (r3.1==0) then (aN.pj2 F (aN.pl61 F k) ag r3.2.1 r3.2.2 iQ jj gD (wrap .i64 (0 - (wrap .i64 (1+r1.1))))) else (aN.pj2 F (aN.pl61 F k) ag r3.2.1 r3.2.2 iQ jj gD (wrap .i64 (1+r1.1))))) else (some (iQ,jj,aj,ak)))) else (some (iQ,jj,aj,ak)))
theorem aN.l61_P {ax au aA ay ag} :∀ k,aN.S61 H0 Ri R0 ax au aA ay ag (aN.l61 F (aD.tw F)  k) (aN.pl61 F  k):=by
 intro k
 induction k with
 | zero=>unfold aN.S61;intros;rename_i hp;cases hp
 | succ k ih=>
  intro aj ak Ai iQ gD uU uV rY fG rZ gm uW uX uY jj uZ u_ H bK MZ M_ h0 r hp
  obtain ⟨w0,s0,aU,Ar,sd⟩:=h0
  subst bK
  subst MZ
  subst M_
  unfold aN.pl61 at hp
  unfold aN.l61
  refine aE hp (λhp=>?_) λhp=>?_
  ·refine lI w0 4 ?_
   refine aE hp (λhp=>?_) λhp=>?_
   ·refine lI w0 4 ?_
    obtain ⟨r1,e1,hp⟩:=ae hp
    refine aG (aD.P rfl ⟨w0,aU⟩ e1) ?_
    rintro _ H2 ⟨rfl,w2,s2,_⟩
    refine br ?_
    obtain ⟨r3,e3,hp⟩:=ae hp
    refine aG (aD.P rfl ⟨w2,(aU.step s2)⟩ e3) ?_
    rintro _ H4 ⟨rfl,w4,s4,_⟩
    refine br ?_
    refine aE hp (λhp=>?_) λhp=>?_
    ·exact aN.j2_P (@ih) rfl rfl rfl ⟨w4,(s0.trans (s2.trans s4)),(aU.step (s2.trans s4)),(Ar.step (s2.trans s4)),(sd.step (s2.trans s4))⟩ hp
    ·exact aN.j2_P (@ih) rfl rfl rfl ⟨w4,(s0.trans (s2.trans s4)),(aU.step (s2.trans s4)),(Ar.step (s2.trans s4)),(sd.step (s2.trans s4))⟩ hp
   ·refine lI w0 4 ?_
    refine lSl w0 4 ?_
    refine aM w0 2 λH5 w5 s5=>?_
    refine aM w5 2 λH6 w6 s6=>?_
    refine lI w6 2 ?_
    refine lSl w6 2 ?_
    obtain ⟨w7,s7⟩:=w6.pp [3,0] 5
    exact aJ hp ⟨_,_,_,_,rfl,rfl,w7,(s0.trans (s5.trans (s6.trans s7))),(sd.step (s5.trans (s6.trans s7)))⟩
  ·refine lI w0 4 ?_
   refine lSl w0 4 ?_
   refine aM w0 2 λH8 w8 s8=>?_
   refine aM w8 2 λH9 w9 s9=>?_
   refine lI w9 2 ?_
   refine lSl w9 2 ?_
   obtain ⟨w10,s10⟩:=w9.pp [3,0] 5
   exact aJ hp ⟨_,_,_,_,rfl,rfl,w10,(s0.trans (s8.trans (s9.trans s10))),(sd.step (s8.trans (s9.trans s10)))⟩
def aN.pj3 (F:Nat)  (ag:VE) (aj:Int) (ak:Int) (kZ:Int) (sf:Int) (nH:VE):Option (Int×List Int×Int×Int):=(aD.p F ag aj ak (wrap .i64 (kZ+1))).bind λr1=>aN.pl61 F F ag r1.2.1 r1.2.2 sf nH r1.1
theorem aN.j3_P {ax au aA ay ag}  {aj ak kZ Na sf As Au vd pK ve pL Av Aw Ax nH Ay Az} (bK:au=ag.length) (Nb:vd=Ax.length) (Nc:ve=nH.length) (h0:Out H0 Ri H (Rs.blk aA [.sl ⟨ax,au,ay⟩,.i aj,.i ak]::Rs.own ⟨As,vd,Av⟩ eI.z Ay::Rs.blk pK [.i Na,.sl ⟨As,vd,Av⟩]::Rs.own ⟨Au,ve,Aw⟩ eI.z Az::Rs.blk pL [.i sf,.sl ⟨Au,ve,Aw⟩]::R0) λR=>ROs (bd .u8) H R ⟨ax,au,ay⟩ ag/\CR eI H R Ay Ax/\CR eI H R Az nH) {r:VP} (hp:aN.pj3 F  ag aj ak kZ sf nH=some r):Rt (aN.j3 F (aD.tw F)  aA 0 kZ pK 0 pL 0 H) (aN.Q H0 Ri R0 ax au aA ay ag r):=by
 obtain ⟨w0,s0,aU,Nd,Ng⟩:=h0
 subst bK
 subst Nb
 subst Nc
 unfold aN.pj3 at hp
 unfold aN.j3
 obtain ⟨r1,e1,hp⟩:=ae hp
 refine aG (aD.P rfl ⟨w0,aU⟩ e1) ?_
 rintro _ H2 ⟨rfl,w2,s2,_⟩
 refine br ?_
 exact aN.l61_P F rfl rfl rfl ⟨w2,(s0.trans s2),(aU.step s2),(Nd.step s2),(Ng.step s2)⟩ hp
def aN.p (F:Nat) (cA:VE) (aj:Int) (ak:Int) (aC:Int):Option (Int×List Int×Int×Int):=(aD.p F cA aj ak 3).bind λr3=>(aD.p F cA r3.2.1 r3.2.2 8).bind λr9=>(bif (r9.1==0) then ((aD.p F cA r9.2.1 r9.2.2 6).bind λr11=>aN.pj3 F cA r11.2.1 r11.2.2 aC (wrap .i64 (1+r11.1)) ([]:List Int)) else (aN.pj3 F cA r9.2.1 r9.2.2 aC (wrap .i64 (2+r3.1)) ([]:List Int)))
theorem aN.P {dD dl aa dE cA aj ak aC} (kv:dl=cA.length) (h0:Inn H (Rs.blk aa [.sl ⟨dD,dl,dE⟩,.i aj,.i ak]::R0) λR=>ROs (bd .u8) H R ⟨dD,dl,dE⟩ cA) {r:VP} (hp:aN.p F cA aj ak aC=some r):Rt (aN.tw F aa 0 aC H) (aN.Q H (Rs.blk aa [.sl ⟨dD,dl,dE⟩,.i aj,.i ak]::R0) R0 dD dl aa dE cA r):=by
 obtain ⟨w0,eS⟩:=h0
 subst kv
 unfold aN.p at hp
 unfold aN.tw aN.twX
 have s0:=w0.rf
 refine cg w0 λH1 w1 s1=>?_
 obtain ⟨w2,s2⟩:=w1.pp [1,0] 2
 obtain ⟨r3,e3,hp⟩:=ae hp
 refine aG (aD.P rfl ⟨w2,(eS.step (s1.trans s2))⟩ e3) ?_
 rintro _ H4 ⟨rfl,w4,s4,_⟩
 refine br ?_
 refine cg w4 λH5 w5 s5=>?_
 refine aM w5 0 λH6 w6 s6=>?_
 refine aM w6 0 λH7 w7 s7=>?_
 obtain ⟨w8,s8⟩:=w7.pp [1,0,2] 3
 obtain ⟨r9,e9,hp⟩:=ae hp
 refine aG (aD.P rfl ⟨w8,(eS.step (s1.trans (s2.trans (s4.trans (s5.trans (s6.trans (s7.trans s8)))))))⟩ e9) ?_
 rintro _ H10 ⟨rfl,w10,s10,_⟩
 refine br ?_
 refine aE hp (λhp=>?_) λhp=>?_
 ·obtain ⟨r11,e11,hp⟩:=ae hp
  refine aG (aD.P rfl ⟨w10,(eS.step (s1.trans (s2.trans (s4.trans (s5.trans (s6.trans (s7.trans (s8.trans s10))))))))⟩ e11) ?_
  rintro _ H12 ⟨rfl,w12,s12,_⟩
  refine br ?_
  refine aM w12 1 λH13 w13 s13=>?_
  obtain ⟨w14,s14⟩:=w13.nilS eI.z (by decide)
  obtain ⟨w15,s15⟩:=w14.nilS eI.z (by decide)
  obtain ⟨w16,s16⟩:=w15.pp [2,1,4,0,3] 5
  exact aN.j3_P rfl rfl rfl ⟨w16,(s0.trans (s1.trans (s2.trans (s4.trans (s5.trans (s6.trans (s7.trans (s8.trans (s10.trans (s12.trans (s13.trans (s14.trans (s15.trans s16))))))))))))),(eS.step (s1.trans (s2.trans (s4.trans (s5.trans (s6.trans (s7.trans (s8.trans (s10.trans (s12.trans (s13.trans (s14.trans (s15.trans s16))))))))))))),((CR.empty:CR eI _ _ [] []).step (s15.trans s16)),((CR.empty:CR eI _ _ [] []).step s16)⟩ hp
 ·obtain ⟨w17,s17⟩:=w10.nilS eI.z (by decide)
  obtain ⟨w18,s18⟩:=w17.nilS eI.z (by decide)
  obtain ⟨w19,s19⟩:=w18.pp [2,1,4,0,3] 5
  exact aN.j3_P rfl rfl rfl ⟨w19,(s0.trans (s1.trans (s2.trans (s4.trans (s5.trans (s6.trans (s7.trans (s8.trans (s10.trans (s17.trans (s18.trans s19))))))))))),(eS.step (s1.trans (s2.trans (s4.trans (s5.trans (s6.trans (s7.trans (s8.trans (s10.trans (s17.trans (s18.trans s19))))))))))),((CR.empty:CR eI _ _ [] []).step (s18.trans s19)),((CR.empty:CR eI _ _ [] []).step s19)⟩ hp
def bG.Q (H0:Hp) (Ri R0:VJ) (dD:ON) (dl aa:Nat) (dE:Cap) (cA:VE) (r:VP) (v:AV) (H':Hp):Prop:=∃ o1a:ON,∃ o1n:Nat,∃ o1c:Cap,∃ o1k:List AV,v=(.agg [(.i r.1),(.sl ⟨o1a,o1n,o1c⟩)])/\o1n=(r.2.1).length/\Out H0 Ri H' (Rs.own ⟨o1a,o1n,o1c⟩ eI.z o1k::Rs.blk aa [.sl ⟨dD,dl,dE⟩,.i (r.2.2.1),.i (r.2.2.2)]::R0) λR=>CR eI H' R o1k (r.2.1)
def bG.S1918 (H0:Hp) (Ri R0:VJ) (ax:ON) (au aA:Nat) (ay:Cap) (ag:VE) (C:Nat->Nat->Nat->Nat->Nat->Nat->Hp->OA) (pC:List Int->Int->Int->Int->List Int->Option (Int×List Int×Int×Int)):Prop:=∀ {aj ak AA jO vf vg sg fJ si eZ vh vi vj jk vk vl},∀ {H:Hp},au=ag.length->sg=vj.length->si=jk.length->(Out H0 Ri H (Rs.blk aA [.sl ⟨ax,au,ay⟩,.i aj,.i ak]::Rs.own ⟨vf,sg,vh⟩ eI.z vk::Rs.blk fJ [.i AA,.sl ⟨vf,sg,vh⟩]::Rs.own ⟨vg,si,vi⟩ eI.z vl::Rs.blk eZ [.i jO,.sl ⟨vg,si,vi⟩]::R0) λR=>ROs (bd .u8) H R ⟨ax,au,ay⟩ ag/\CR eI H R vk vj/\CR eI H R vl jk)->∀ {r:VP},pC ag aj ak jO jk=some r->Rt (C aA 0 fJ 0 eZ 0 H) (bG.Q H0 Ri R0 ax au aA ay ag r)
def bG.pl1918 (F:Nat) :Nat->List Int->Int->Int->Int->List Int->Option (Int×List Int×Int×Int)
 | 0,_,_,_,_,_=>none
 | k+1,ag,aj,ak,jO,jk=>(aD.p F ag aj ak 2).bind λr1=>(bif (decide ((jk.length:Int)<(wrap .i64 (24+r1.1)))) then ((bif (decide (jO>1)) then ((apn jk ([1]:List Int)).bind λl4=>bG.pl1918 F k ag r1.2.1 r1.2.2 jO l4) else (some (jO,jk,r1.2.1,r1.2.2)))) else (some (jO,jk,r1.2.1,r1.2.2)))
theorem bG.l1918_P {ax au aA ay ag} :∀ k,bG.S1918 H0 Ri R0 ax au aA ay ag (bG.l1918 F (aN.tw F) (aD.tw F)  k) (bG.pl1918 F  k):=by
 intro k
 induction k with
 | zero=>unfold bG.S1918;intros;rename_i hp;cases hp
 | succ k ih=>
  intro aj ak AA jO vf vg sg fJ si eZ vh vi vj jk vk vl H bK Nh Ni h0 r hp
  obtain ⟨w0,s0,aU,Nj,vm⟩:=h0
  subst bK
  subst Nh
  subst Ni
  unfold bG.pl1918 at hp
  unfold bG.l1918
  refine lSl w0 4 ?_
  obtain ⟨r1,e1,hp⟩:=ae hp
  refine aG (aD.P rfl ⟨w0,aU⟩ e1) ?_
  rintro _ H2 ⟨rfl,w2,s2,_⟩
  refine br ?_
  refine aE hp (λhp=>?_) λhp=>?_
  ·refine lI w2 4 ?_
   refine kH ⟨⟨(cH (ck (w2.ld (i:=4) rfl rfl)) (es _ _)),(cH (ck (w0.ld (i:=4) rfl rfl)) (es _ _)),trivial⟩,trivial⟩ ?_
   refine aE hp (λhp=>?_) λhp=>?_
   ·refine lSl w2 4 ?_
    refine er eI w2 (n:=1) (l:=([1]:List Int)) rfl (CR.cons1 rfl CR.empty) rfl λH3 w3 s3 c3=>?_
    refine ai (w3.rowo (i:=0) rfl) ?_
    obtain ⟨l4,e4,hp⟩:=ae hp
    refine fj eI w3 (i:=4) rfl rfl (vm.step (s2.trans s3)) c3 (show 1=List.length ([1]:List Int) from rfl) rfl e4 λa5 d5 H5 w5 s5 c5 x5=>?_
    refine aM w5 5 λH6 w6 s6=>?_
    obtain ⟨w7,s7⟩:=w6.pp [1,2,3,4,5] 6
    exact ih rfl rfl rfl ⟨w7,(s0.trans (s2.trans (s3.trans (s5.trans (s6.trans s7))))),(aU.step (s2.trans (s3.trans (s5.trans (s6.trans s7))))),(Nj.step (s2.trans (s3.trans (s5.trans (s6.trans s7))))),(c5.step (s6.trans s7))⟩ hp
   ·refine lI w2 4 ?_
    refine lSl w2 4 ?_
    refine aM w2 2 λH8 w8 s8=>?_
    refine aM w8 2 λH9 w9 s9=>?_
    refine lI w9 2 ?_
    refine lSl w9 2 ?_
    obtain ⟨w10,s10⟩:=w9.pp [3,0] 5
    exact aJ hp ⟨_,_,_,_,rfl,rfl,w10,(s0.trans (s2.trans (s8.trans (s9.trans s10)))),(vm.step (s2.trans (s8.trans (s9.trans s10))))⟩
  ·refine kH ⟨⟨(cH (ck (w2.ld (i:=4) rfl rfl)) (es _ _)),(cH (ck (w0.ld (i:=4) rfl rfl)) (es _ _)),trivial⟩,trivial⟩ ?_
   refine lI w2 4 ?_
   refine lSl w2 4 ?_
   refine aM w2 2 λH11 w11 s11=>?_
   refine aM w11 2 λH12 w12 s12=>?_
   refine lI w12 2 ?_
   refine lSl w12 2 ?_
   obtain ⟨w13,s13⟩:=w12.pp [3,0] 5
   exact aJ hp ⟨_,_,_,_,rfl,rfl,w13,(s0.trans (s2.trans (s11.trans (s12.trans s13)))),(vm.step (s2.trans (s11.trans (s12.trans s13))))⟩
def bG.p (F:Nat) (cA:VE) (aj:Int) (ak:Int):Option (Int×List Int×Int×Int):=(aN.p F cA aj ak 9).bind λr3=>(aD.p F cA r3.2.2.1 r3.2.2.2 16).bind λr9=>(bif (r9.1==0) then ((aD.p F cA r9.2.1 r9.2.2 9).bind λr11=>some ((wrap .i64 (r11.1 - 1)),r3.2.1,r11.2.1,r11.2.2)) else ((bif (r9.1==1) then ((aD.p F cA r9.2.1 r9.2.2 9).bind λr17=>(apn r3.2.1 ([(wrap .i64 (r17.1 - 4))]:List Int)).bind λl20=>some (r3.1,l20,r17.2.1,r17.2.2)) else ((bif (r9.1==2) then (bG.pl1918 F F cA r9.2.1 r9.2.2 r3.1 r3.2.1) else (some (r3.1,r3.2.1,r9.2.1,r9.2.2)))))))
theorem bG.P {dD dl aa dE cA aj ak} (kv:dl=cA.length) (h0:Inn H (Rs.blk aa [.sl ⟨dD,dl,dE⟩,.i aj,.i ak]::R0) λR=>ROs (bd .u8) H R ⟨dD,dl,dE⟩ cA) {r:VP} (hp:bG.p F cA aj ak=some r):Rt (bG.tw F aa 0 H) (bG.Q H (Rs.blk aa [.sl ⟨dD,dl,dE⟩,.i aj,.i ak]::R0) R0 dD dl aa dE cA r):=by
 obtain ⟨w0,eS⟩:=h0
 subst kv
 unfold bG.p at hp
 unfold bG.tw bG.twX
 have s0:=w0.rf
 refine cg w0 λH1 w1 s1=>?_
 obtain ⟨w2,s2⟩:=w1.pp [1,0] 2
 obtain ⟨r3,e3,hp⟩:=ae hp
 refine aG (aN.P rfl ⟨w2,(eS.step (s1.trans s2))⟩ e3) ?_
 rintro _ H4 ⟨o1a_4,o1n_4,o1c_4,o1k_4,rfl,rfl,w4,s4,f4_0⟩
 refine br (br (br (br (br ?_))))
 refine cg w4 λH5 w5 s5=>?_
 refine aM w5 0 λH6 w6 s6=>?_
 refine aM w6 0 λH7 w7 s7=>?_
 obtain ⟨w8,s8⟩:=w7.pp [2,0,1,3] 4
 obtain ⟨r9,e9,hp⟩:=ae hp
 refine aG (aD.P rfl ⟨w8,(eS.step (s1.trans (s2.trans (s4.trans (s5.trans (s6.trans (s7.trans s8)))))))⟩ e9) ?_
 rintro _ H10 ⟨rfl,w10,s10,_⟩
 refine br ?_
 refine aE hp (λhp=>?_) λhp=>?_
 ·obtain ⟨r11,e11,hp⟩:=ae hp
  refine aG (aD.P rfl ⟨w10,(eS.step (s1.trans (s2.trans (s4.trans (s5.trans (s6.trans (s7.trans (s8.trans s10))))))))⟩ e11) ?_
  rintro _ H12 ⟨rfl,w12,s12,_⟩
  refine br ?_
  refine aM w12 1 λH13 w13 s13=>?_
  refine lI w13 1 ?_
  refine lSl w13 1 ?_
  refine aM w13 3 λH14 w14 s14=>?_
  refine aM w14 3 λH15 w15 s15=>?_
  refine lI w15 3 ?_
  refine lSl w15 3 ?_
  obtain ⟨w16,s16⟩:=w15.pp [2,0] 4
  exact aJ hp ⟨_,_,_,_,rfl,rfl,w16,(s0.trans (s1.trans (s2.trans (s4.trans (s5.trans (s6.trans (s7.trans (s8.trans (s10.trans (s12.trans (s13.trans (s14.trans (s15.trans s16))))))))))))),(f4_0.step (s5.trans (s6.trans (s7.trans (s8.trans (s10.trans (s12.trans (s13.trans (s14.trans (s15.trans s16))))))))))⟩
 ·refine aE hp (λhp=>?_) λhp=>?_
  ·refine lSl w10 1 ?_
   obtain ⟨r17,e17,hp⟩:=ae hp
   refine aG (aD.P rfl ⟨w10,(eS.step (s1.trans (s2.trans (s4.trans (s5.trans (s6.trans (s7.trans (s8.trans s10))))))))⟩ e17) ?_
   rintro _ H18 ⟨rfl,w18,s18,_⟩
   refine br ?_
   refine er eI w18 (n:=1) (l:=([(wrap .i64 (r17.1 - 4))]:List Int)) rfl (CR.cons1 rfl CR.empty) rfl λH19 w19 s19 c19=>?_
   refine ai (w19.rowo (i:=0) rfl) ?_
   obtain ⟨l20,e20,hp⟩:=ae hp
   refine fj eI w19 (i:=3) rfl rfl (f4_0.step (s5.trans (s6.trans (s7.trans (s8.trans (s10.trans (s18.trans s19))))))) c19 (show 1=List.length ([(wrap .i64 (r17.1 - 4))]:List Int) from rfl) rfl e20 λa21 d21 H21 w21 s21 c21 x21=>?_
   refine aM w21 2 λH22 w22 s22=>?_
   refine kH ⟨⟨(cH (ck (w21.ld (i:=2) rfl rfl)) (es _ _)),(cH (ck (w19.ld (i:=2) rfl rfl)) (es _ _)),(cH (ck (w18.ld (i:=1) rfl rfl)) (es _ _)),(cH (ck (w10.ld (i:=1) rfl rfl)) (es _ _)),trivial⟩,trivial⟩ ?_
   refine lI w22 2 ?_
   refine lSl w22 2 ?_
   refine aM w22 4 λH23 w23 s23=>?_
   refine aM w23 4 λH24 w24 s24=>?_
   refine lI w24 4 ?_
   refine lSl w24 4 ?_
   obtain ⟨w25,s25⟩:=w24.pp [3,1] 5
   dsimp only [pk,pks,nth,List.drop,List.set,List.eraseIdx] at w25 s2 s5 s6 s7 s8 s19 s21 c21 s22 s23 s24 s25
   exact aJ hp ⟨_,_,_,_,rfl,rfl,w25,(s0.trans (s1.trans (s2.trans (s4.trans (s5.trans (s6.trans (s7.trans (s8.trans (s10.trans (s18.trans (s19.trans (s21.trans (s22.trans (s23.trans (s24.trans s25))))))))))))))),(c21.step (s22.trans (s23.trans (s24.trans s25))))⟩
  ·refine aE hp (λhp=>?_) λhp=>?_
   ·obtain ⟨w26,s26⟩:=w10.nilS eI.z (by decide)
    obtain ⟨w27,s27⟩:=w26.pp [1,0,4,3,2] 5
    exact bG.l1918_P F rfl rfl rfl ⟨w27,(s0.trans (s1.trans (s2.trans (s4.trans (s5.trans (s6.trans (s7.trans (s8.trans (s10.trans (s26.trans s27)))))))))),(eS.step (s1.trans (s2.trans (s4.trans (s5.trans (s6.trans (s7.trans (s8.trans (s10.trans (s26.trans s27)))))))))),((CR.empty:CR eI _ _ [] []).step s27),(f4_0.step (s5.trans (s6.trans (s7.trans (s8.trans (s10.trans (s26.trans s27)))))))⟩ hp
   ·refine lI w10 1 ?_
    refine lSl w10 1 ?_
    refine aM w10 3 λH28 w28 s28=>?_
    refine aM w28 3 λH29 w29 s29=>?_
    refine lI w29 3 ?_
    refine lSl w29 3 ?_
    obtain ⟨w30,s30⟩:=w29.pp [2,0] 4
    exact aJ hp ⟨_,_,_,_,rfl,rfl,w30,(s0.trans (s1.trans (s2.trans (s4.trans (s5.trans (s6.trans (s7.trans (s8.trans (s10.trans (s28.trans (s29.trans s30))))))))))),(f4_0.step (s5.trans (s6.trans (s7.trans (s8.trans (s10.trans (s28.trans (s29.trans s30))))))))⟩
def cp.Q (H0:Hp) (Ri R0:VJ)  (r:Int×List Int) (v:AV) (H':Hp):Prop:=∃ o1a:ON,∃ o1n:Nat,∃ o1c:Cap,∃ o1k:List AV,v=(.agg [(.i r.1),(.sl ⟨o1a,o1n,o1c⟩)])/\o1n=(r.2).length/\Out H0 Ri H' (Rs.own ⟨o1a,o1n,o1c⟩ eI.z o1k::R0) λR=>CR eI H' R o1k (r.2)
def cp.p (F:Nat) (aa:Int) (aW:VE):Option (Int×List Int):=(apn ([]:List Int) aW).bind λl5=>some (aa,l5)
theorem cp.P {aa cY ct cZ aW} (eD:ct=aW.length) (h0:Inn H R0 λR=>ROs eI H R ⟨cY,ct,cZ⟩ aW) {r:Int×List Int} (hp:cp.p F aa aW=some r):Rt (cp.tw F aa ⟨cY,ct,cZ⟩ H) (cp.Q H R0 R0  r):=by
 obtain ⟨w0,dG⟩:=h0
 subst eD
 unfold cp.p at hp
 unfold cp.tw cp.twX
 have s0:=w0.rf
 refine cg w0 λH1 w1 s1=>?_
 refine cg w1 λH2 w2 s2=>?_
 refine lI w2 1 ?_
 refine er eI w2 (n:=0) (l:=([]:List Int)) rfl CR.empty rfl λH3 w3 s3 c3=>?_
 refine lSl w3 2 ?_
 obtain ⟨x4,h4,c4⟩:=(dG.step (s1.trans (s2.trans s3))).row rfl
 refine ai h4 ?_
 obtain ⟨l5,e5,hp⟩:=ae hp
 refine fj eI w3 (i:=0) rfl rfl c3 c4 rfl rfl e5 λa6 d6 H6 w6 s6 c6 x6=>?_
 refine iE (x6 ⟨_,rfl⟩) ?_
 refine aM w6 1 λH8 w8 s8=>?_
 refine aM w8 1 λH9 w9 s9=>?_
 refine lI w9 1 ?_
 refine lSl w9 1 ?_
 obtain ⟨w10,s10⟩:=w9.pp [0] 3
 exact aJ hp ⟨_,_,_,_,rfl,rfl,w10,(s0.trans (s1.trans (s2.trans (s3.trans (s6.trans (s8.trans (s9.trans s10))))))),(c6.step (s8.trans (s9.trans s10)))⟩
def aR.Q (H0:Hp) (Ri R0:VJ)  (r:Int) (v:AV) (H':Hp):Prop:=v=(.i r)/\Out H0 Ri H' (R0) λR=>True
def aR.p (F:Nat) (aa:Int):Option (Int):=some (if (wrap .i64 (0 - aa))>aa then (wrap .i64 (0 - aa)) else aa)
theorem aR.P {aa}  (h0:Inn H R0 λR=>True) {r:Int} (hp:aR.p F aa=some r):Rt (aR.tw F aa H) (aR.Q H R0 R0  r):=by
 obtain ⟨w0,_⟩:=h0
 unfold aR.p at hp
 unfold aR.tw aR.twX
 have s0:=w0.rf
 exact aJ hp ⟨rfl,w0,s0,trivial⟩
def ac.Q (H0:Hp) (Ri R0:VJ) (dD:ON) (dl aa:Nat) (dE:Cap) (cA:VE) (r:VP) (v:AV) (H':Hp):Prop:=∃ o1a:ON,∃ o1n:Nat,∃ o1c:Cap,∃ o1k:List AV,v=(.agg [(.i r.1),(.sl ⟨o1a,o1n,o1c⟩)])/\o1n=(r.2.1).length/\Out H0 Ri H' (Rs.own ⟨o1a,o1n,o1c⟩ eI.z o1k::Rs.blk aa [.sl ⟨dD,dl,dE⟩,.i (r.2.2.1),.i (r.2.2.2)]::R0) λR=>CR eI H' R o1k (r.2.1)
def ac.S29 (H0:Hp) (Ri R0:VJ) (ax:ON) (au aA:Nat) (ay:Cap) (ag:VE) (C:VN) (pC:VO):Prop:=∀ {aj ak dH AB dI bZ vn vo vp sj dt sk cX sv bA vq vr vt vu vv aP vw vx},∀ {H:Hp},au=ag.length->sj=vu.length->sk=vv.length->sv=aP.length->(Out H0 Ri H (Rs.blk aA [.sl ⟨ax,au,ay⟩,.i aj,.i ak]::Rs.blk dt [.i dH,.sl ⟨vn,sj,vq⟩]::Rs.own ⟨vo,sk,vr⟩ eI.z vw::Rs.blk cX [.i AB,.sl ⟨vo,sk,vr⟩]::Rs.own ⟨vp,sv,vt⟩ eI.z vx::Rs.blk bA [.i dI,.sl ⟨vp,sv,vt⟩]::R0) λR=>ROs (bd .u8) H R ⟨ax,au,ay⟩ ag/\ROs eI H R ⟨vn,sj,vq⟩ vu/\CR eI H R vw vv/\CR eI H R vx aP)->∀ {r:VP},pC ag aj ak dH dI aP bZ=some r->Rt (C aA 0 dt 0 cX 0 bA 0 bZ H) (ac.Q H0 Ri R0 ax au aA ay ag r)
def ac.pj23 (F:Nat) (az:VO) (ag:VE) (aj:Int) (ak:Int) (sx:Int) (sA:Int) (nJ:VE) (k_:Int):Option (Int×List Int×Int×Int):=az ag aj ak sx sA nJ (wrap .i64 (k_ - 1))
theorem ac.j23_P {ax au aA ay ag} {C29_:VN} {az:VO} (hC29:ac.S29 H0 Ri R0 ax au aA ay ag C29_ az) {aj ak sx Nk sA k_ AC AD AF vy pO vz pP vA pQ AG AH AI AJ AK nJ AL AM} (bK:au=ag.length) (Nl:vy=AJ.length) (Nm:vz=AK.length) (Nn:vA=nJ.length) (h0:Out H0 Ri H (Rs.blk aA [.sl ⟨ax,au,ay⟩,.i aj,.i ak]::Rs.blk pO [.i sx,.sl ⟨AC,vy,AG⟩]::Rs.own ⟨AD,vz,AH⟩ eI.z AL::Rs.blk pP [.i Nk,.sl ⟨AD,vz,AH⟩]::Rs.own ⟨AF,vA,AI⟩ eI.z AM::Rs.blk pQ [.i sA,.sl ⟨AF,vA,AI⟩]::R0) λR=>ROs (bd .u8) H R ⟨ax,au,ay⟩ ag/\ROs eI H R ⟨AC,vy,AG⟩ AJ/\CR eI H R AL AK/\CR eI H R AM nJ) {r:VP} (hp:ac.pj23 F az ag aj ak sx sA nJ k_=some r):Rt (ac.j23 F (cp.tw F) (aD.tw F) (aR.tw F) C29_ aA 0 pO 0 pP 0 pQ 0 k_ H) (ac.Q H0 Ri R0 ax au aA ay ag r):=by
 obtain ⟨w0,s0,aU,No,Np,Nq⟩:=h0
 subst bK
 subst Nl
 subst Nm
 subst Nn
 unfold ac.pj23 at hp
 unfold ac.j23
 exact hC29 rfl rfl rfl rfl ⟨w0,s0,aU,No,Np,Nq⟩ hp
def ac.pj24 (F:Nat) (az:VO) (ag:VE) (aj:Int) (ak:Int) (sB:Int) (sC:Int) (nK:VE) (lc:Int):Option (Int×List Int×Int×Int):=az ag aj ak sB sC nK (wrap .i64 (lc - 1))
theorem ac.j24_P {ax au aA ay ag} {C29_:VN} {az:VO} (hC29:ac.S29 H0 Ri R0 ax au aA ay ag C29_ az) {aj ak sB Nr sC lc AN AO AP vB pR vC pS vD pT AQ AR AS AT AU nK AW AX} (bK:au=ag.length) (Ns:vB=AT.length) (Nt:vC=AU.length) (Nu:vD=nK.length) (h0:Out H0 Ri H (Rs.blk aA [.sl ⟨ax,au,ay⟩,.i aj,.i ak]::Rs.blk pR [.i sB,.sl ⟨AN,vB,AQ⟩]::Rs.own ⟨AO,vC,AR⟩ eI.z AW::Rs.blk pS [.i Nr,.sl ⟨AO,vC,AR⟩]::Rs.own ⟨AP,vD,AS⟩ eI.z AX::Rs.blk pT [.i sC,.sl ⟨AP,vD,AS⟩]::R0) λR=>ROs (bd .u8) H R ⟨ax,au,ay⟩ ag/\ROs eI H R ⟨AN,vB,AQ⟩ AT/\CR eI H R AW AU/\CR eI H R AX nK) {r:VP} (hp:ac.pj24 F az ag aj ak sB sC nK lc=some r):Rt (ac.j24 F (cp.tw F) (aD.tw F) (aR.tw F) C29_ aA 0 pR 0 pS 0 pT 0 lc H) (ac.Q H0 Ri R0 ax au aA ay ag r):=by
 obtain ⟨w0,s0,aU,Nv,Nw,Nx⟩:=h0
 subst bK
 subst Ns
 subst Nt
 subst Nu
 unfold ac.pj24 at hp
 unfold ac.j24
 exact hC29 rfl rfl rfl rfl ⟨w0,s0,aU,Nv,Nw,Nx⟩ hp
def ac.pj25 (F:Nat) (az:VO) (ag:VE) (aj:Int) (ak:Int) (sD:Int) (sE:Int) (nL:VE) (lg:Int):Option (Int×List Int×Int×Int):=ac.pj24 F az ag aj ak sD sE nL lg
theorem ac.j25_P {ax au aA ay ag} {C29_:VN} {az:VO} (hC29:ac.S29 H0 Ri R0 ax au aA ay ag C29_ az) {aj ak sD Ny sE lg AY AZ A_ vE pU vF pV vG pW Ba Bb Bc Bd Be nL Bf Bg} (bK:au=ag.length) (Nz:vE=Bd.length) (NA:vF=Be.length) (NB:vG=nL.length) (h0:Out H0 Ri H (Rs.blk aA [.sl ⟨ax,au,ay⟩,.i aj,.i ak]::Rs.blk pU [.i sD,.sl ⟨AY,vE,Ba⟩]::Rs.own ⟨AZ,vF,Bb⟩ eI.z Bf::Rs.blk pV [.i Ny,.sl ⟨AZ,vF,Bb⟩]::Rs.own ⟨A_,vG,Bc⟩ eI.z Bg::Rs.blk pW [.i sE,.sl ⟨A_,vG,Bc⟩]::R0) λR=>ROs (bd .u8) H R ⟨ax,au,ay⟩ ag/\ROs eI H R ⟨AY,vE,Ba⟩ Bd/\CR eI H R Bf Be/\CR eI H R Bg nL) {r:VP} (hp:ac.pj25 F az ag aj ak sD sE nL lg=some r):Rt (ac.j25 F (cp.tw F) (aD.tw F) (aR.tw F) C29_ aA 0 pU 0 pV 0 pW 0 lg H) (ac.Q H0 Ri R0 ax au aA ay ag r):=by
 obtain ⟨w0,s0,aU,NC,NE,NF⟩:=h0
 subst bK
 subst Nz
 subst NA
 subst NB
 unfold ac.pj25 at hp
 unfold ac.j25
 exact ac.j24_P (@hC29) rfl rfl rfl rfl ⟨w0,s0,aU,NC,NE,NF⟩ hp
def ac.pj26 (F:Nat) (az:VO) (ag:VE) (aj:Int) (ak:Int) (sF:Int) (sG:Int) (nO:VE) (li:Int):Option (Int×List Int×Int×Int):=ac.pj25 F az ag aj ak sF sG nO li
theorem ac.j26_P {ax au aA ay ag} {C29_:VN} {az:VO} (hC29:ac.S29 H0 Ri R0 ax au aA ay ag C29_ az) {aj ak sF NG sG li Bh Bi Bj vH pX vI pY vJ pZ Bk Bl Bm Bn Bo nO Bp Bq} (bK:au=ag.length) (NH:vH=Bn.length) (NI:vI=Bo.length) (NJ:vJ=nO.length) (h0:Out H0 Ri H (Rs.blk aA [.sl ⟨ax,au,ay⟩,.i aj,.i ak]::Rs.blk pX [.i sF,.sl ⟨Bh,vH,Bk⟩]::Rs.own ⟨Bi,vI,Bl⟩ eI.z Bp::Rs.blk pY [.i NG,.sl ⟨Bi,vI,Bl⟩]::Rs.own ⟨Bj,vJ,Bm⟩ eI.z Bq::Rs.blk pZ [.i sG,.sl ⟨Bj,vJ,Bm⟩]::R0) λR=>ROs (bd .u8) H R ⟨ax,au,ay⟩ ag/\ROs eI H R ⟨Bh,vH,Bk⟩ Bn/\CR eI H R Bp Bo/\CR eI H R Bq nO) {r:VP} (hp:ac.pj26 F az ag aj ak sF sG nO li=some r):Rt (ac.j26 F (cp.tw F) (aD.tw F) (aR.tw F) C29_ aA 0 pX 0 pY 0 pZ 0 li H) (ac.Q H0 Ri R0 ax au aA ay ag r):=by
 obtain ⟨w0,s0,aU,NK,NL,NM⟩:=h0
 subst bK
 subst NH
 subst NI
 subst NJ
 unfold ac.pj26 at hp
 unfold ac.j26
 exact ac.j25_P (@hC29) rfl rfl rfl rfl ⟨w0,s0,aU,NK,NL,NM⟩ hp
def ac.pj27 (F:Nat) (az:VO) (ag:VE) (aj:Int) (ak:Int) (sH:Int) (sI:Int) (nP:VE) (lj:Int):Option (Int×List Int×Int×Int):=az ag aj ak sH sI nP (wrap .i64 (lj - 1))
theorem ac.j27_P {ax au aA ay ag} {C29_:VN} {az:VO} (hC29:ac.S29 H0 Ri R0 ax au aA ay ag C29_ az) {aj ak sH NN sI lj Br Bu Bv vK p_ vL qa vM qb Bw Bx By Bz BA nP BC BD} (bK:au=ag.length) (NO:vK=Bz.length) (NP:vL=BA.length) (NQ:vM=nP.length) (h0:Out H0 Ri H (Rs.blk aA [.sl ⟨ax,au,ay⟩,.i aj,.i ak]::Rs.blk p_ [.i sH,.sl ⟨Br,vK,Bw⟩]::Rs.own ⟨Bu,vL,Bx⟩ eI.z BC::Rs.blk qa [.i NN,.sl ⟨Bu,vL,Bx⟩]::Rs.own ⟨Bv,vM,By⟩ eI.z BD::Rs.blk qb [.i sI,.sl ⟨Bv,vM,By⟩]::R0) λR=>ROs (bd .u8) H R ⟨ax,au,ay⟩ ag/\ROs eI H R ⟨Br,vK,Bw⟩ Bz/\CR eI H R BC BA/\CR eI H R BD nP) {r:VP} (hp:ac.pj27 F az ag aj ak sH sI nP lj=some r):Rt (ac.j27 F (cp.tw F) (aD.tw F) (aR.tw F) C29_ aA 0 p_ 0 qa 0 qb 0 lj H) (ac.Q H0 Ri R0 ax au aA ay ag r):=by
 obtain ⟨w0,s0,aU,NR,NS,NT⟩:=h0
 subst bK
 subst NO
 subst NP
 subst NQ
 unfold ac.pj27 at hp
 unfold ac.j27
 exact hC29 rfl rfl rfl rfl ⟨w0,s0,aU,NR,NS,NT⟩ hp
def ac.pj28 (F:Nat) (az:VO) (ag:VE) (aj:Int) (ak:Int) (sJ:Int) (sK:Int) (nQ:VE) (ll:Int):Option (Int×List Int×Int×Int):=ac.pj27 F az ag aj ak sJ sK nQ ll
theorem ac.j28_P {ax au aA ay ag} {C29_:VN} {az:VO} (hC29:ac.S29 H0 Ri R0 ax au aA ay ag C29_ az) {aj ak sJ NU sK ll BE BF BG vN qc vO qd vP qe BH BI BJ BK BL nQ BM BN} (bK:au=ag.length) (NV:vN=BK.length) (NW:vO=BL.length) (NX:vP=nQ.length) (h0:Out H0 Ri H (Rs.blk aA [.sl ⟨ax,au,ay⟩,.i aj,.i ak]::Rs.blk qc [.i sJ,.sl ⟨BE,vN,BH⟩]::Rs.own ⟨BF,vO,BI⟩ eI.z BM::Rs.blk qd [.i NU,.sl ⟨BF,vO,BI⟩]::Rs.own ⟨BG,vP,BJ⟩ eI.z BN::Rs.blk qe [.i sK,.sl ⟨BG,vP,BJ⟩]::R0) λR=>ROs (bd .u8) H R ⟨ax,au,ay⟩ ag/\ROs eI H R ⟨BE,vN,BH⟩ BK/\CR eI H R BM BL/\CR eI H R BN nQ) {r:VP} (hp:ac.pj28 F az ag aj ak sJ sK nQ ll=some r):Rt (ac.j28 F (cp.tw F) (aD.tw F) (aR.tw F) C29_ aA 0 qc 0 qd 0 qe 0 ll H) (ac.Q H0 Ri R0 ax au aA ay ag r):=by
 obtain ⟨w0,s0,aU,NY,NZ,N_⟩:=h0
 subst bK
 subst NV
 subst NW
 subst NX
 unfold ac.pj28 at hp
 unfold ac.j28
 exact ac.j27_P (@hC29) rfl rfl rfl rfl ⟨w0,s0,aU,NY,NZ,N_⟩ hp
def ac.pj29 (F:Nat) (az:VO) (ag:VE) (aj:Int) (ak:Int) (sL:Int) (sM:Int) (nR:VE) (lm:Int):Option (Int×List Int×Int×Int):=ac.pj28 F az ag aj ak sL sM nR lm
theorem ac.j29_P {ax au aA ay ag} {C29_:VN} {az:VO} (hC29:ac.S29 H0 Ri R0 ax au aA ay ag C29_ az) {aj ak sL Oa sM lm BO BP BQ vQ qf vR qg vS qh BR BS BT BU BV nR BW BX} (bK:au=ag.length) (Ob:vQ=BU.length) (Oc:vR=BV.length) (Od:vS=nR.length) (h0:Out H0 Ri H (Rs.blk aA [.sl ⟨ax,au,ay⟩,.i aj,.i ak]::Rs.blk qf [.i sL,.sl ⟨BO,vQ,BR⟩]::Rs.own ⟨BP,vR,BS⟩ eI.z BW::Rs.blk qg [.i Oa,.sl ⟨BP,vR,BS⟩]::Rs.own ⟨BQ,vS,BT⟩ eI.z BX::Rs.blk qh [.i sM,.sl ⟨BQ,vS,BT⟩]::R0) λR=>ROs (bd .u8) H R ⟨ax,au,ay⟩ ag/\ROs eI H R ⟨BO,vQ,BR⟩ BU/\CR eI H R BW BV/\CR eI H R BX nR) {r:VP} (hp:ac.pj29 F az ag aj ak sL sM nR lm=some r):Rt (ac.j29 F (cp.tw F) (aD.tw F) (aR.tw F) C29_ aA 0 qf 0 qg 0 qh 0 lm H) (ac.Q H0 Ri R0 ax au aA ay ag r):=by
 obtain ⟨w0,s0,aU,Oe,Of,Og⟩:=h0
 subst bK
 subst Ob
 subst Oc
 subst Od
 unfold ac.pj29 at hp
 unfold ac.j29
 exact ac.j28_P (@hC29) rfl rfl rfl rfl ⟨w0,s0,aU,Oe,Of,Og⟩ hp
def ac.pj30 (F:Nat) (az:VO) (ag:VE) (aj:Int) (ak:Int) (sN:Int) (sO:Int) (nS:VE) (ln:Int):Option (Int×List Int×Int×Int):=ac.pj29 F az ag aj ak sN sO nS ln
theorem ac.j30_P {ax au aA ay ag} {C29_:VN} {az:VO} (hC29:ac.S29 H0 Ri R0 ax au aA ay ag C29_ az) {aj ak sN Oh sO ln BY BZ B_ vT qi vU qj vV qk Ca Cb Cc Cd Ce nS Cf Cg} (bK:au=ag.length) (Oi:vT=Cd.length) (Oj:vU=Ce.length) (Ol:vV=nS.length) (h0:Out H0 Ri H (Rs.blk aA [.sl ⟨ax,au,ay⟩,.i aj,.i ak]::Rs.blk qi [.i sN,.sl ⟨BY,vT,Ca⟩]::Rs.own ⟨BZ,vU,Cb⟩ eI.z Cf::Rs.blk qj [.i Oh,.sl ⟨BZ,vU,Cb⟩]::Rs.own ⟨B_,vV,Cc⟩ eI.z Cg::Rs.blk qk [.i sO,.sl ⟨B_,vV,Cc⟩]::R0) λR=>ROs (bd .u8) H R ⟨ax,au,ay⟩ ag/\ROs eI H R ⟨BY,vT,Ca⟩ Cd/\CR eI H R Cf Ce/\CR eI H R Cg nS) {r:VP} (hp:ac.pj30 F az ag aj ak sN sO nS ln=some r):Rt (ac.j30 F (cp.tw F) (aD.tw F) (aR.tw F) C29_ aA 0 qi 0 qj 0 qk 0 ln H) (ac.Q H0 Ri R0 ax au aA ay ag r):=by
 obtain ⟨w0,s0,aU,Om,On,Oo⟩:=h0
 subst bK
 subst Oi
 subst Oj
 subst Ol
 unfold ac.pj30 at hp
 unfold ac.j30
 exact ac.j29_P (@hC29) rfl rfl rfl rfl ⟨w0,s0,aU,Om,On,Oo⟩ hp
def ac.pj31 (F:Nat) (az:VO) (ag:VE) (aj:Int) (ak:Int) (sP:Int) (sQ:Int) (nT:VE) (lq:Int):Option (Int×List Int×Int×Int):=ac.pj28 F az ag aj ak sP sQ nT lq
theorem ac.j31_P {ax au aA ay ag} {C29_:VN} {az:VO} (hC29:ac.S29 H0 Ri R0 ax au aA ay ag C29_ az) {aj ak sP Oq sQ lq Ch Ci Cj vW ql vX qm vY qn Ck Cl Cm Cn Co nT Cp Cq} (bK:au=ag.length) (Ot:vW=Cn.length) (Ou:vX=Co.length) (Ov:vY=nT.length) (h0:Out H0 Ri H (Rs.blk aA [.sl ⟨ax,au,ay⟩,.i aj,.i ak]::Rs.blk ql [.i sP,.sl ⟨Ch,vW,Ck⟩]::Rs.own ⟨Ci,vX,Cl⟩ eI.z Cp::Rs.blk qm [.i Oq,.sl ⟨Ci,vX,Cl⟩]::Rs.own ⟨Cj,vY,Cm⟩ eI.z Cq::Rs.blk qn [.i sQ,.sl ⟨Cj,vY,Cm⟩]::R0) λR=>ROs (bd .u8) H R ⟨ax,au,ay⟩ ag/\ROs eI H R ⟨Ch,vW,Ck⟩ Cn/\CR eI H R Cp Co/\CR eI H R Cq nT) {r:VP} (hp:ac.pj31 F az ag aj ak sP sQ nT lq=some r):Rt (ac.j31 F (cp.tw F) (aD.tw F) (aR.tw F) C29_ aA 0 ql 0 qm 0 qn 0 lq H) (ac.Q H0 Ri R0 ax au aA ay ag r):=by
 obtain ⟨w0,s0,aU,Ox,Oy,Oz⟩:=h0
 subst bK
 subst Ot
 subst Ou
 subst Ov
 unfold ac.pj31 at hp
 unfold ac.j31
 exact ac.j28_P (@hC29) rfl rfl rfl rfl ⟨w0,s0,aU,Ox,Oy,Oz⟩ hp
def ac.pj32 (F:Nat) (az:VO) (ag:VE) (aj:Int) (ak:Int) (sR:Int) (sS:Int) (nU:VE) (lr:Int):Option (Int×List Int×Int×Int):=ac.pj28 F az ag aj ak sR sS nU lr
theorem ac.j32_P {ax au aA ay ag} {C29_:VN} {az:VO} (hC29:ac.S29 H0 Ri R0 ax au aA ay ag C29_ az) {aj ak sR OB sS lr Ct Cu Cv vZ qo v_ qp wa qq Cw Cx Cy Cz CA nU CB CC} (bK:au=ag.length) (OC:vZ=Cz.length) (OD:v_=CA.length) (OE:wa=nU.length) (h0:Out H0 Ri H (Rs.blk aA [.sl ⟨ax,au,ay⟩,.i aj,.i ak]::Rs.blk qo [.i sR,.sl ⟨Ct,vZ,Cw⟩]::Rs.own ⟨Cu,v_,Cx⟩ eI.z CB::Rs.blk qp [.i OB,.sl ⟨Cu,v_,Cx⟩]::Rs.own ⟨Cv,wa,Cy⟩ eI.z CC::Rs.blk qq [.i sS,.sl ⟨Cv,wa,Cy⟩]::R0) λR=>ROs (bd .u8) H R ⟨ax,au,ay⟩ ag/\ROs eI H R ⟨Ct,vZ,Cw⟩ Cz/\CR eI H R CB CA/\CR eI H R CC nU) {r:VP} (hp:ac.pj32 F az ag aj ak sR sS nU lr=some r):Rt (ac.j32 F (cp.tw F) (aD.tw F) (aR.tw F) C29_ aA 0 qo 0 qp 0 qq 0 lr H) (ac.Q H0 Ri R0 ax au aA ay ag r):=by
 obtain ⟨w0,s0,aU,OF,OG,OH⟩:=h0
 subst bK
 subst OC
 subst OD
 subst OE
 unfold ac.pj32 at hp
 unfold ac.j32
 exact ac.j28_P (@hC29) rfl rfl rfl rfl ⟨w0,s0,aU,OF,OG,OH⟩ hp
def ac.pj33 (F:Nat) (az:VO) (ag:VE) (aj:Int) (ak:Int) (sT:Int) (sU:Int) (nV:VE) (lu:Int):Option (Int×List Int×Int×Int):=ac.pj28 F az ag aj ak sT sU nV lu
theorem ac.j33_P {ax au aA ay ag} {C29_:VN} {az:VO} (hC29:ac.S29 H0 Ri R0 ax au aA ay ag C29_ az) {aj ak sT OI sU lu CD CE CF wb qs wc qt wd qu CG CH CI CJ CK nV CL CM} (bK:au=ag.length) (OJ:wb=CJ.length) (OK:wc=CK.length) (OM:wd=nV.length) (h0:Out H0 Ri H (Rs.blk aA [.sl ⟨ax,au,ay⟩,.i aj,.i ak]::Rs.blk qs [.i sT,.sl ⟨CD,wb,CG⟩]::Rs.own ⟨CE,wc,CH⟩ eI.z CL::Rs.blk qt [.i OI,.sl ⟨CE,wc,CH⟩]::Rs.own ⟨CF,wd,CI⟩ eI.z CM::Rs.blk qu [.i sU,.sl ⟨CF,wd,CI⟩]::R0) λR=>ROs (bd .u8) H R ⟨ax,au,ay⟩ ag/\ROs eI H R ⟨CD,wb,CG⟩ CJ/\CR eI H R CL CK/\CR eI H R CM nV) {r:VP} (hp:ac.pj33 F az ag aj ak sT sU nV lu=some r):Rt (ac.j33 F (cp.tw F) (aD.tw F) (aR.tw F) C29_ aA 0 qs 0 qt 0 qu 0 lu H) (ac.Q H0 Ri R0 ax au aA ay ag r):=by
 obtain ⟨w0,s0,aU,OO,OP,OQ⟩:=h0
 subst bK
 subst OJ
 subst OK
 subst OM
 unfold ac.pj33 at hp
 unfold ac.j33
 exact ac.j28_P (@hC29) rfl rfl rfl rfl ⟨w0,s0,aU,OO,OP,OQ⟩ hp
def ac.pj34 (F:Nat) (az:VO) (ag:VE) (aj:Int) (ak:Int) (sV:Int) (sW:Int) (nW:VE) (lx:Int):Option (Int×List Int×Int×Int):=az ag aj ak sV sW nW (wrap .i64 (lx - 1))
theorem ac.j34_P {ax au aA ay ag} {C29_:VN} {az:VO} (hC29:ac.S29 H0 Ri R0 ax au aA ay ag C29_ az) {aj ak sV OR sW lx CN CO CP wg qv wh qw wi qx CQ CS CT CU CV nW CW CX} (bK:au=ag.length) (OS:wg=CU.length) (OU:wh=CV.length) (OV:wi=nW.length) (h0:Out H0 Ri H (Rs.blk aA [.sl ⟨ax,au,ay⟩,.i aj,.i ak]::Rs.blk qv [.i sV,.sl ⟨CN,wg,CQ⟩]::Rs.own ⟨CO,wh,CS⟩ eI.z CW::Rs.blk qw [.i OR,.sl ⟨CO,wh,CS⟩]::Rs.own ⟨CP,wi,CT⟩ eI.z CX::Rs.blk qx [.i sW,.sl ⟨CP,wi,CT⟩]::R0) λR=>ROs (bd .u8) H R ⟨ax,au,ay⟩ ag/\ROs eI H R ⟨CN,wg,CQ⟩ CU/\CR eI H R CW CV/\CR eI H R CX nW) {r:VP} (hp:ac.pj34 F az ag aj ak sV sW nW lx=some r):Rt (ac.j34 F (cp.tw F) (aD.tw F) (aR.tw F) C29_ aA 0 qv 0 qw 0 qx 0 lx H) (ac.Q H0 Ri R0 ax au aA ay ag r):=by
 obtain ⟨w0,s0,aU,OW,OX,OY⟩:=h0
 subst bK
 subst OS
 subst OU
 subst OV
 unfold ac.pj34 at hp
 unfold ac.j34
 exact hC29 rfl rfl rfl rfl ⟨w0,s0,aU,OW,OX,OY⟩ hp
def ac.pj35 (F:Nat) (az:VO) (ag:VE) (aj:Int) (ak:Int) (sX:Int) (sY:Int) (nX:VE) (ly:Int):Option (Int×List Int×Int×Int):=ac.pj34 F az ag aj ak sX sY nX ly
theorem ac.j35_P {ax au aA ay ag} {C29_:VN} {az:VO} (hC29:ac.S29 H0 Ri R0 ax au aA ay ag C29_ az) {aj ak sX OZ sY ly CY CZ C_ wj qy wk qz wl qA Da Db Dc Dd De nX Df Dg} (bK:au=ag.length) (O_:wj=Dd.length) (Pa:wk=De.length) (Pb:wl=nX.length) (h0:Out H0 Ri H (Rs.blk aA [.sl ⟨ax,au,ay⟩,.i aj,.i ak]::Rs.blk qy [.i sX,.sl ⟨CY,wj,Da⟩]::Rs.own ⟨CZ,wk,Db⟩ eI.z Df::Rs.blk qz [.i OZ,.sl ⟨CZ,wk,Db⟩]::Rs.own ⟨C_,wl,Dc⟩ eI.z Dg::Rs.blk qA [.i sY,.sl ⟨C_,wl,Dc⟩]::R0) λR=>ROs (bd .u8) H R ⟨ax,au,ay⟩ ag/\ROs eI H R ⟨CY,wj,Da⟩ Dd/\CR eI H R Df De/\CR eI H R Dg nX) {r:VP} (hp:ac.pj35 F az ag aj ak sX sY nX ly=some r):Rt (ac.j35 F (cp.tw F) (aD.tw F) (aR.tw F) C29_ aA 0 qy 0 qz 0 qA 0 ly H) (ac.Q H0 Ri R0 ax au aA ay ag r):=by
 obtain ⟨w0,s0,aU,Pc,Pd,Pe⟩:=h0
 subst bK
 subst O_
 subst Pa
 subst Pb
 unfold ac.pj35 at hp
 unfold ac.j35
 exact ac.j34_P (@hC29) rfl rfl rfl rfl ⟨w0,s0,aU,Pc,Pd,Pe⟩ hp
def ac.pj36 (F:Nat) (az:VO) (ag:VE) (aj:Int) (ak:Int) (sZ:Int) (s_:Int) (nY:VE) (lz:Int):Option (Int×List Int×Int×Int):=ac.pj24 F az ag aj ak sZ s_ nY lz
theorem ac.j36_P {ax au aA ay ag} {C29_:VN} {az:VO} (hC29:ac.S29 H0 Ri R0 ax au aA ay ag C29_ az) {aj ak sZ Pf s_ lz Dh Di Dj wo qB wq qC wt qD Dk Dl Dm Dn Do nY Dp Dq} (bK:au=ag.length) (Ph:wo=Dn.length) (Pi:wq=Do.length) (Pj:wt=nY.length) (h0:Out H0 Ri H (Rs.blk aA [.sl ⟨ax,au,ay⟩,.i aj,.i ak]::Rs.blk qB [.i sZ,.sl ⟨Dh,wo,Dk⟩]::Rs.own ⟨Di,wq,Dl⟩ eI.z Dp::Rs.blk qC [.i Pf,.sl ⟨Di,wq,Dl⟩]::Rs.own ⟨Dj,wt,Dm⟩ eI.z Dq::Rs.blk qD [.i s_,.sl ⟨Dj,wt,Dm⟩]::R0) λR=>ROs (bd .u8) H R ⟨ax,au,ay⟩ ag/\ROs eI H R ⟨Dh,wo,Dk⟩ Dn/\CR eI H R Dp Do/\CR eI H R Dq nY) {r:VP} (hp:ac.pj36 F az ag aj ak sZ s_ nY lz=some r):Rt (ac.j36 F (cp.tw F) (aD.tw F) (aR.tw F) C29_ aA 0 qB 0 qC 0 qD 0 lz H) (ac.Q H0 Ri R0 ax au aA ay ag r):=by
 obtain ⟨w0,s0,aU,Pn,Po,Pp⟩:=h0
 subst bK
 subst Ph
 subst Pi
 subst Pj
 unfold ac.pj36 at hp
 unfold ac.j36
 exact ac.j24_P (@hC29) rfl rfl rfl rfl ⟨w0,s0,aU,Pn,Po,Pp⟩ hp
def ac.pj37 (F:Nat) (az:VO) (ag:VE) (aj:Int) (ak:Int) (ta:Int) (tc:Int) (nZ:VE) (lA:Int):Option (Int×List Int×Int×Int):=ac.pj36 F az ag aj ak ta tc nZ lA
theorem ac.j37_P {ax au aA ay ag} {C29_:VN} {az:VO} (hC29:ac.S29 H0 Ri R0 ax au aA ay ag C29_ az) {aj ak ta Pq tc lA Dr Ds Dt wu qE wv qF ww qG Du Dv Dw Dx Dy nZ Dz DA} (bK:au=ag.length) (Pr:wu=Dx.length) (Ps:wv=Dy.length) (Pt:ww=nZ.length) (h0:Out H0 Ri H (Rs.blk aA [.sl ⟨ax,au,ay⟩,.i aj,.i ak]::Rs.blk qE [.i ta,.sl ⟨Dr,wu,Du⟩]::Rs.own ⟨Ds,wv,Dv⟩ eI.z Dz::Rs.blk qF [.i Pq,.sl ⟨Ds,wv,Dv⟩]::Rs.own ⟨Dt,ww,Dw⟩ eI.z DA::Rs.blk qG [.i tc,.sl ⟨Dt,ww,Dw⟩]::R0) λR=>ROs (bd .u8) H R ⟨ax,au,ay⟩ ag/\ROs eI H R ⟨Dr,wu,Du⟩ Dx/\CR eI H R Dz Dy/\CR eI H R DA nZ) {r:VP} (hp:ac.pj37 F az ag aj ak ta tc nZ lA=some r):Rt (ac.j37 F (cp.tw F) (aD.tw F) (aR.tw F) C29_ aA 0 qE 0 qF 0 qG 0 lA H) (ac.Q H0 Ri R0 ax au aA ay ag r):=by
 obtain ⟨w0,s0,aU,Pu,Pv,Pw⟩:=h0
 subst bK
 subst Pr
 subst Ps
 subst Pt
 unfold ac.pj37 at hp
 unfold ac.j37
 exact ac.j36_P (@hC29) rfl rfl rfl rfl ⟨w0,s0,aU,Pu,Pv,Pw⟩ hp
def ac.pj38 (F:Nat) (az:VO) (ag:VE) (aj:Int) (ak:Int) (te:Int) (tf:Int) (n_:VE) (lC:Int):Option (Int×List Int×Int×Int):=ac.pj27 F az ag aj ak te tf n_ lC
theorem ac.j38_P {ax au aA ay ag} {C29_:VN} {az:VO} (hC29:ac.S29 H0 Ri R0 ax au aA ay ag C29_ az) {aj ak te Px tf lC DC DD DE wx qH wy qI wz qJ DF DG DH DI DJ n_ DK DL} (bK:au=ag.length) (Py:wx=DI.length) (Pz:wy=DJ.length) (PA:wz=n_.length) (h0:Out H0 Ri H (Rs.blk aA [.sl ⟨ax,au,ay⟩,.i aj,.i ak]::Rs.blk qH [.i te,.sl ⟨DC,wx,DF⟩]::Rs.own ⟨DD,wy,DG⟩ eI.z DK::Rs.blk qI [.i Px,.sl ⟨DD,wy,DG⟩]::Rs.own ⟨DE,wz,DH⟩ eI.z DL::Rs.blk qJ [.i tf,.sl ⟨DE,wz,DH⟩]::R0) λR=>ROs (bd .u8) H R ⟨ax,au,ay⟩ ag/\ROs eI H R ⟨DC,wx,DF⟩ DI/\CR eI H R DK DJ/\CR eI H R DL n_) {r:VP} (hp:ac.pj38 F az ag aj ak te tf n_ lC=some r):Rt (ac.j38 F (cp.tw F) (aD.tw F) (aR.tw F) C29_ aA 0 qH 0 qI 0 qJ 0 lC H) (ac.Q H0 Ri R0 ax au aA ay ag r):=by
 obtain ⟨w0,s0,aU,PB,PC,PD⟩:=h0
 subst bK
 subst Py
 subst Pz
 subst PA
 unfold ac.pj38 at hp
 unfold ac.j38
 exact ac.j27_P (@hC29) rfl rfl rfl rfl ⟨w0,s0,aU,PB,PC,PD⟩ hp
def ac.pj39 (F:Nat) (az:VO) (ag:VE) (aj:Int) (ak:Int) (tg:Int) (th:Int) (oa:VE) (lD:Int):Option (Int×List Int×Int×Int):=ac.pj38 F az ag aj ak tg th oa lD
theorem ac.j39_P {ax au aA ay ag} {C29_:VN} {az:VO} (hC29:ac.S29 H0 Ri R0 ax au aA ay ag C29_ az) {aj ak tg PE th lD DM DN DO wA qK wB qL wC qM DP DQ DR DS DT oa DU DV} (bK:au=ag.length) (PF:wA=DS.length) (PG:wB=DT.length) (PH:wC=oa.length) (h0:Out H0 Ri H (Rs.blk aA [.sl ⟨ax,au,ay⟩,.i aj,.i ak]::Rs.blk qK [.i tg,.sl ⟨DM,wA,DP⟩]::Rs.own ⟨DN,wB,DQ⟩ eI.z DU::Rs.blk qL [.i PE,.sl ⟨DN,wB,DQ⟩]::Rs.own ⟨DO,wC,DR⟩ eI.z DV::Rs.blk qM [.i th,.sl ⟨DO,wC,DR⟩]::R0) λR=>ROs (bd .u8) H R ⟨ax,au,ay⟩ ag/\ROs eI H R ⟨DM,wA,DP⟩ DS/\CR eI H R DU DT/\CR eI H R DV oa) {r:VP} (hp:ac.pj39 F az ag aj ak tg th oa lD=some r):Rt (ac.j39 F (cp.tw F) (aD.tw F) (aR.tw F) C29_ aA 0 qK 0 qL 0 qM 0 lD H) (ac.Q H0 Ri R0 ax au aA ay ag r):=by
 obtain ⟨w0,s0,aU,PI,PJ,PK⟩:=h0
 subst bK
 subst PF
 subst PG
 subst PH
 unfold ac.pj39 at hp
 unfold ac.j39
 exact ac.j38_P (@hC29) rfl rfl rfl rfl ⟨w0,s0,aU,PI,PJ,PK⟩ hp
def ac.pj40 (F:Nat) (az:VO) (ag:VE) (aj:Int) (ak:Int) (ti:Int) (tj:Int) (ob:VE) (lE:Int):Option (Int×List Int×Int×Int):=ac.pj39 F az ag aj ak ti tj ob lE
theorem ac.j40_P {ax au aA ay ag} {C29_:VN} {az:VO} (hC29:ac.S29 H0 Ri R0 ax au aA ay ag C29_ az) {aj ak ti PL tj lE DW DX DY wD qN wE qO wF qP DZ D_ Ea Eb Ec ob Ed Ee} (bK:au=ag.length) (PM:wD=Eb.length) (PO:wE=Ec.length) (PP:wF=ob.length) (h0:Out H0 Ri H (Rs.blk aA [.sl ⟨ax,au,ay⟩,.i aj,.i ak]::Rs.blk qN [.i ti,.sl ⟨DW,wD,DZ⟩]::Rs.own ⟨DX,wE,D_⟩ eI.z Ed::Rs.blk qO [.i PL,.sl ⟨DX,wE,D_⟩]::Rs.own ⟨DY,wF,Ea⟩ eI.z Ee::Rs.blk qP [.i tj,.sl ⟨DY,wF,Ea⟩]::R0) λR=>ROs (bd .u8) H R ⟨ax,au,ay⟩ ag/\ROs eI H R ⟨DW,wD,DZ⟩ Eb/\CR eI H R Ed Ec/\CR eI H R Ee ob) {r:VP} (hp:ac.pj40 F az ag aj ak ti tj ob lE=some r):Rt (ac.j40 F (cp.tw F) (aD.tw F) (aR.tw F) C29_ aA 0 qN 0 qO 0 qP 0 lE H) (ac.Q H0 Ri R0 ax au aA ay ag r):=by
 obtain ⟨w0,s0,aU,PQ,PR,PS⟩:=h0
 subst bK
 subst PM
 subst PO
 subst PP
 unfold ac.pj40 at hp
 unfold ac.j40
 exact ac.j39_P (@hC29) rfl rfl rfl rfl ⟨w0,s0,aU,PQ,PR,PS⟩ hp
def ac.pj41 (F:Nat) (az:VO) (ag:VE) (aj:Int) (ak:Int) (tn:Int) (tp:Int) (oc:VE) (lF:Int):Option (Int×List Int×Int×Int):=ac.pj38 F az ag aj ak tn tp oc lF
theorem ac.j41_P {ax au aA ay ag} {C29_:VN} {az:VO} (hC29:ac.S29 H0 Ri R0 ax au aA ay ag C29_ az) {aj ak tn PT tp lF Ef Eg Eh wG qQ wH qR wI qS Ei Ej Ek El Em oc En Eo} (bK:au=ag.length) (PU:wG=El.length) (PW:wH=Em.length) (PX:wI=oc.length) (h0:Out H0 Ri H (Rs.blk aA [.sl ⟨ax,au,ay⟩,.i aj,.i ak]::Rs.blk qQ [.i tn,.sl ⟨Ef,wG,Ei⟩]::Rs.own ⟨Eg,wH,Ej⟩ eI.z En::Rs.blk qR [.i PT,.sl ⟨Eg,wH,Ej⟩]::Rs.own ⟨Eh,wI,Ek⟩ eI.z Eo::Rs.blk qS [.i tp,.sl ⟨Eh,wI,Ek⟩]::R0) λR=>ROs (bd .u8) H R ⟨ax,au,ay⟩ ag/\ROs eI H R ⟨Ef,wG,Ei⟩ El/\CR eI H R En Em/\CR eI H R Eo oc) {r:VP} (hp:ac.pj41 F az ag aj ak tn tp oc lF=some r):Rt (ac.j41 F (cp.tw F) (aD.tw F) (aR.tw F) C29_ aA 0 qQ 0 qR 0 qS 0 lF H) (ac.Q H0 Ri R0 ax au aA ay ag r):=by
 obtain ⟨w0,s0,aU,PY,PZ,P_⟩:=h0
 subst bK
 subst PU
 subst PW
 subst PX
 unfold ac.pj41 at hp
 unfold ac.j41
 exact ac.j38_P (@hC29) rfl rfl rfl rfl ⟨w0,s0,aU,PY,PZ,P_⟩ hp
def ac.pj42 (F:Nat) (az:VO) (ag:VE) (aj:Int) (ak:Int) (tq:Int) (tt:Int) (od:VE) (lG:Int):Option (Int×List Int×Int×Int):=ac.pj38 F az ag aj ak tq tt od lG
theorem ac.j42_P {ax au aA ay ag} {C29_:VN} {az:VO} (hC29:ac.S29 H0 Ri R0 ax au aA ay ag C29_ az) {aj ak tq Qa tt lG Ep Er Es wJ qT wK qU wL qV Et Eu Ev Ew Ex od Ey Ez} (bK:au=ag.length) (Qb:wJ=Ew.length) (Qc:wK=Ex.length) (Qd:wL=od.length) (h0:Out H0 Ri H (Rs.blk aA [.sl ⟨ax,au,ay⟩,.i aj,.i ak]::Rs.blk qT [.i tq,.sl ⟨Ep,wJ,Et⟩]::Rs.own ⟨Er,wK,Eu⟩ eI.z Ey::Rs.blk qU [.i Qa,.sl ⟨Er,wK,Eu⟩]::Rs.own ⟨Es,wL,Ev⟩ eI.z Ez::Rs.blk qV [.i tt,.sl ⟨Es,wL,Ev⟩]::R0) λR=>ROs (bd .u8) H R ⟨ax,au,ay⟩ ag/\ROs eI H R ⟨Ep,wJ,Et⟩ Ew/\CR eI H R Ey Ex/\CR eI H R Ez od) {r:VP} (hp:ac.pj42 F az ag aj ak tq tt od lG=some r):Rt (ac.j42 F (cp.tw F) (aD.tw F) (aR.tw F) C29_ aA 0 qT 0 qU 0 qV 0 lG H) (ac.Q H0 Ri R0 ax au aA ay ag r):=by
 obtain ⟨w0,s0,aU,Qe,Qf,Qg⟩:=h0
 subst bK
 subst Qb
 subst Qc
 subst Qd
 unfold ac.pj42 at hp
 unfold ac.j42
 exact ac.j38_P (@hC29) rfl rfl rfl rfl ⟨w0,s0,aU,Qe,Qf,Qg⟩ hp
def ac.pj43 (F:Nat) (az:VO) (ag:VE) (aj:Int) (ak:Int) (tv:Int) (tz:Int) (oe:VE) (lH:Int):Option (Int×List Int×Int×Int):=ac.pj38 F az ag aj ak tv tz oe lH
theorem ac.j43_P {ax au aA ay ag} {C29_:VN} {az:VO} (hC29:ac.S29 H0 Ri R0 ax au aA ay ag C29_ az) {aj ak tv Qh tz lH EA EB EC wM qW wN qX wO qY ED EE EF EG EH oe EI EJ} (bK:au=ag.length) (Qi:wM=EG.length) (Qj:wN=EH.length) (Qk:wO=oe.length) (h0:Out H0 Ri H (Rs.blk aA [.sl ⟨ax,au,ay⟩,.i aj,.i ak]::Rs.blk qW [.i tv,.sl ⟨EA,wM,ED⟩]::Rs.own ⟨EB,wN,EE⟩ eI.z EI::Rs.blk qX [.i Qh,.sl ⟨EB,wN,EE⟩]::Rs.own ⟨EC,wO,EF⟩ eI.z EJ::Rs.blk qY [.i tz,.sl ⟨EC,wO,EF⟩]::R0) λR=>ROs (bd .u8) H R ⟨ax,au,ay⟩ ag/\ROs eI H R ⟨EA,wM,ED⟩ EG/\CR eI H R EI EH/\CR eI H R EJ oe) {r:VP} (hp:ac.pj43 F az ag aj ak tv tz oe lH=some r):Rt (ac.j43 F (cp.tw F) (aD.tw F) (aR.tw F) C29_ aA 0 qW 0 qX 0 qY 0 lH H) (ac.Q H0 Ri R0 ax au aA ay ag r):=by
 obtain ⟨w0,s0,aU,Ql,Qm,Qn⟩:=h0
 subst bK
 subst Qi
 subst Qj
 subst Qk
 unfold ac.pj43 at hp
 unfold ac.j43
 exact ac.j38_P (@hC29) rfl rfl rfl rfl ⟨w0,s0,aU,Ql,Qm,Qn⟩ hp
def ac.pj44 (F:Nat) (az:VO) (ag:VE) (aj:Int) (ak:Int) (tA:Int) (tB:Int) (og:VE) (lJ:Int):Option (Int×List Int×Int×Int):=ac.pj34 F az ag aj ak tA tB og lJ
theorem ac.j44_P {ax au aA ay ag} {C29_:VN} {az:VO} (hC29:ac.S29 H0 Ri R0 ax au aA ay ag C29_ az) {aj ak tA Qo tB lJ EK EL EM wP qZ wQ q_ wR rc EN EO EP EQ ER og ES ET} (bK:au=ag.length) (Qp:wP=EQ.length) (Qq:wQ=ER.length) (Qr:wR=og.length) (h0:Out H0 Ri H (Rs.blk aA [.sl ⟨ax,au,ay⟩,.i aj,.i ak]::Rs.blk qZ [.i tA,.sl ⟨EK,wP,EN⟩]::Rs.own ⟨EL,wQ,EO⟩ eI.z ES::Rs.blk q_ [.i Qo,.sl ⟨EL,wQ,EO⟩]::Rs.own ⟨EM,wR,EP⟩ eI.z ET::Rs.blk rc [.i tB,.sl ⟨EM,wR,EP⟩]::R0) λR=>ROs (bd .u8) H R ⟨ax,au,ay⟩ ag/\ROs eI H R ⟨EK,wP,EN⟩ EQ/\CR eI H R ES ER/\CR eI H R ET og) {r:VP} (hp:ac.pj44 F az ag aj ak tA tB og lJ=some r):Rt (ac.j44 F (cp.tw F) (aD.tw F) (aR.tw F) C29_ aA 0 qZ 0 q_ 0 rc 0 lJ H) (ac.Q H0 Ri R0 ax au aA ay ag r):=by
 obtain ⟨w0,s0,aU,Qs,Qt,Qu⟩:=h0
 subst bK
 subst Qp
 subst Qq
 subst Qr
 unfold ac.pj44 at hp
 unfold ac.j44
 exact ac.j34_P (@hC29) rfl rfl rfl rfl ⟨w0,s0,aU,Qs,Qt,Qu⟩ hp
def ac.pl29 (F:Nat) :Nat->List Int->Int->Int->Int->Int->List Int->Int->Option (Int×List Int×Int×Int)
 | 0,_,_,_,_,_,_,_=>none
 | k+1,ag,aj,ak,dH,dI,aP,bZ=>(bif (decide (bZ>0)) then ((bif (decide (dH>1)) then ((aD.p F ag aj ak (wrap .i64 ((aP.length:Int)+1))).bind λr1=>(aD.p F ag r1.2.1 r1.2.2 3).bind λr3=>(bif (r3.1==0) then ((bif (decide ((wrap .i64 ((aP.length:Int)+2))<=24)) then ((aD.p F ag r3.2.1 r3.2.2 (wrap .i64 (dH - 1))).bind λr5=>(cutf aP 0 r1.1).bind λl9=>(apn ([]:List Int) l9).bind λl11=>(apn l11 ([(wrap .i64 (1+r5.1)),(wrap .i64 (0 - (wrap .i64 (1+r5.1))))]:List Int)).bind λl14=>(cutf aP r1.1 (aP.length:Int)).bind λl16=>(apn l14 l16).bind λl18=>ac.pj23 F (ac.pl29 F k) ag r5.2.1 r5.2.2 dH dI l18 bZ) else ((bif (decide ((wrap .i64 (r1.1+2))<(aP.length:Int))) then ((ix aP r1.1).bind λn22=>(ix aP (wrap .i64 (r1.1+1))).bind λn23=>(ix aP (wrap .i64 (r1.1+2))).bind λn24=>(bif ((gt aP n22)==(gt aP n24)) then ((bif (decide ((gt aP n22)>0)) then ((bif (decide ((gt aP n23)>0)) then ((aR.p F (wrap .i64 ((gt aP n22) - (gt aP n23)))).bind λr25=>(bif (r25==1) then ((ix aP r1.1).bind λn27=>(some (aP.set n27 (gt aP n23))).bind λl28=>(ix l28 (wrap .i64 (r1.1+1))).bind λn30=>(some (l28.set n30 (gt aP n22))).bind λl31=>(ix l31 (wrap .i64 (r1.1+2))).bind λn33=>(some (l31.set n33 (gt aP n23))).bind λl34=>ac.pj26 F (ac.pl29 F k) ag r3.2.1 r3.2.2 dH dI l34 bZ) else ((aR.p F (gt aP n22)).bind λr36=>(aR.p F (gt aP n23)).bind λr38=>(aR.p F (wrap .i64 (r36 - r38))).bind λr40=>(bif (decide (r40>1)) then ((ix aP r1.1).bind λn42=>(some (aP.set n42 (gt aP n23))).bind λl43=>(ix l43 (wrap .i64 (r1.1+1))).bind λn45=>(some (l43.set n45 (gt aP n22))).bind λl46=>ac.pj30 F (ac.pl29 F k) ag r3.2.1 r3.2.2 dH dI l46 bZ) else (ac.pj30 F (ac.pl29 F k) ag r3.2.1 r3.2.2 dH dI aP bZ))))) else ((aR.p F (gt aP n22)).bind λr48=>(aR.p F (gt aP n23)).bind λr50=>(aR.p F (wrap .i64 (r48 - r50))).bind λr52=>(bif (decide (r52>1)) then ((ix aP r1.1).bind λn54=>(some (aP.set n54 (gt aP n23))).bind λl55=>(ix l55 (wrap .i64 (r1.1+1))).bind λn57=>(some (l55.set n57 (gt aP n22))).bind λl58=>ac.pj31 F (ac.pl29 F k) ag r3.2.1 r3.2.2 dH dI l58 bZ) else (ac.pj31 F (ac.pl29 F k) ag r3.2.1 r3.2.2 dH dI aP bZ))))) else ((aR.p F (gt aP n22)).bind λr60=>(aR.p F (gt aP n23)).bind λr62=>(aR.p F (wrap .i64 (r60 - r62))).bind λr64=>(bif (decide (r64>1)) then ((ix aP r1.1).bind λn66=>(some (aP.set n66 (gt aP n23))).bind λl67=>(ix l67 (wrap .i64 (r1.1+1))).bind λn69=>(some (l67.set n69 (gt aP n22))).bind λl70=>ac.pj32 F (ac.pl29 F k) ag r3.2.1 r3.2.2 dH dI l70 bZ) else (ac.pj32 F (ac.pl29 F k) ag r3.2.1 r3.2.2 dH dI aP bZ))))) else ((aR.p F (gt aP n22)).bind λr72=>(aR.p F (gt aP n23)).bind λr74=>(aR.p F (wrap .i64 (r72 - r74))).bind λr76=>(bif (decide (r76>1)) then ((ix aP r1.1).bind λn78=>(some (aP.set n78 (gt aP n23))).bind λl79=>(ix l79 (wrap .i64 (r1.1+1))).bind λn81=>(some (l79.set n81 (gt aP n22))).bind λl82=>ac.pj33 F (ac.pl29 F k) ag r3.2.1 r3.2.2 dH dI l82 bZ) else (ac.pj33 F (ac.pl29 F k) ag r3.2.1 r3.2.2 dH dI aP bZ))))) else (ac.pj35 F (ac.pl29 F k) ag r3.2.1 r3.2.2 dH dI aP bZ))))) else ((bif (decide ((wrap .i64 (r1.1+2))<(aP.length:Int))) then ((ix aP r1.1).bind λn84=>(ix aP (wrap .i64 (r1.1+1))).bind λn85=>(ix aP (wrap .i64 (r1.1+2))).bind λn86=>(bif ((gt aP n84)==(gt aP n86)) then ((bif (decide ((gt aP n84)>0)) then ((bif (decide ((gt aP n85)>0)) then ((aR.p F (wrap .i64 ((gt aP n84) - (gt aP n85)))).bind λr87=>(bif (r87==1) then ((ix aP r1.1).bind λn89=>(some (aP.set n89 (gt aP n85))).bind λl90=>(ix l90 (wrap .i64 (r1.1+1))).bind λn92=>(some (l90.set n92 (gt aP n84))).bind λl93=>(ix l93 (wrap .i64 (r1.1+2))).bind λn95=>(some (l93.set n95 (gt aP n85))).bind λl96=>ac.pj37 F (ac.pl29 F k) ag r3.2.1 r3.2.2 dH dI l96 bZ) else ((aR.p F (gt aP n84)).bind λr98=>(aR.p F (gt aP n85)).bind λr100=>(aR.p F (wrap .i64 (r98 - r100))).bind λr102=>(bif (decide (r102>1)) then ((ix aP r1.1).bind λn104=>(some (aP.set n104 (gt aP n85))).bind λl105=>(ix l105 (wrap .i64 (r1.1+1))).bind λn107=>(some (l105.set n107 (gt aP n84))).bind λl108=>ac.pj40 F (ac.pl29 F k) ag r3.2.1 r3.2.2 dH dI l108 bZ) else (ac.pj40 F (ac.pl29 F k) ag r3.2.1 r3.2.2 dH dI aP bZ))))) else ((aR.p F (gt aP n84)).bind λr110=>(aR.p F (gt aP n85)).bind λr112=>(aR.p F (wrap .i64 (r110 - r112))).bind λr114=>(bif (decide (r114>1)) then ((ix aP r1.1).bind λn116=>(some (aP.set n116 (gt aP n85))).bind λl117=>(ix l117 (wrap .i64 (r1.1+1))).bind λn119=>(some (l117.set n119 (gt aP n84))).bind λl120=>ac.pj41 F (ac.pl29 F k) ag r3.2.1 r3.2.2 dH dI l120 bZ) else (ac.pj41 F (ac.pl29 F k) ag r3.2.1 r3.2.2 dH dI aP bZ))))) else ((aR.p F (gt aP n84)).bind λr122=>(aR.p F (gt aP n85)).bind λr124=>(aR.p F (wrap .i64 (r122 - r124))).bind λr126=>(bif (decide (r126>1)) then ((ix aP r1.1).bind λn128=>(some (aP.set n128 (gt aP n85))).bind λl129=>(ix l129 (wrap .i64 (r1.1+1))).bind λn131=>(some (l129.set n131 (gt aP n84))).bind λl132=>ac.pj42 F (ac.pl29 F k) ag r3.2.1 r3.2.2 dH dI l132 bZ) else (ac.pj42 F (ac.pl29 F k) ag r3.2.1 r3.2.2 dH dI aP bZ))))) else ((aR.p F (gt aP n84)).bind λr134=>(aR.p F (gt aP n85)).bind λr136=>(aR.p F (wrap .i64 (r134 - r136))).bind λr138=>(bif (decide (r138>1)) then ((ix aP r1.1).bind λn140=>(some (aP.set n140 (gt aP n85))).bind λl141=>(ix l141 (wrap .i64 (r1.1+1))).bind λn143=>(some (l141.set n143 (gt aP n84))).bind λl144=>ac.pj43 F (ac.pl29 F k) ag r3.2.1 r3.2.2 dH dI l144 bZ) else (ac.pj43 F (ac.pl29 F k) ag r3.2.1 r3.2.2 dH dI aP bZ))))) else (ac.pj44 F (ac.pl29 F k) ag r3.2.1 r3.2.2 dH dI aP bZ))))) else (some (dI,aP,aj,ak)))) else (some (dI,aP,aj,ak)))
theorem ac.l29_P {ax au aA ay ag} :∀ k,ac.S29 H0 Ri R0 ax au aA ay ag (ac.l29 F (cp.tw F) (aD.tw F) (aR.tw F)  k) (ac.pl29 F  k):=by
 intro k
 induction k with
 | zero=>unfold ac.S29;intros;rename_i hp;cases hp
 | succ k ih=>
  intro aj ak dH AB dI bZ vn vo vp sj dt sk cX sv bA vq vr vt vu vv aP vw vx H bK Qv Qw Qx h0 r hp
  obtain ⟨w0,s0,aU,eT,eU,cK⟩:=h0
  subst bK
  subst Qv
  subst Qw
  subst Qx
  unfold ac.pl29 at hp
  unfold ac.l29
  refine aE hp (λhp=>?_) λhp=>?_
  ·refine lI w0 1 ?_
   refine aE hp (λhp=>?_) λhp=>?_
   ·refine lSl w0 5 ?_
    obtain ⟨r1,e1,hp⟩:=ae hp
    refine aG (aD.P rfl ⟨w0,aU⟩ e1) ?_
    rintro _ H2 ⟨rfl,w2,s2,_⟩
    refine br ?_
    obtain ⟨r3,e3,hp⟩:=ae hp
    refine aG (aD.P rfl ⟨w2,(aU.step s2)⟩ e3) ?_
    rintro _ H4 ⟨rfl,w4,s4,_⟩
    refine br ?_
    refine aE hp (λhp=>?_) λhp=>?_
    ·refine lSl w4 5 ?_
     refine aE hp (λhp=>?_) λhp=>?_
     ·refine lI w4 1 ?_
      obtain ⟨r5,e5,hp⟩:=ae hp
      refine aG (aD.P rfl ⟨w4,(aU.step (s2.trans s4))⟩ e5) ?_
      rintro _ H6 ⟨rfl,w6,s6,_⟩
      refine br ?_
      refine er eI w6 (n:=0) (l:=([]:List Int)) rfl CR.empty rfl λH7 w7 s7 c7=>?_
      refine lSl w7 6 ?_
      obtain ⟨w8,s8,f8⟩:=w7.frz (i:=5) eI rfl (cK.step (s2.trans (s4.trans (s6.trans s7))))
      obtain ⟨l9,e9,hp⟩:=ae hp
      obtain ⟨a9,d9,h9,f9⟩:=ROs.cutf f8 rfl e9
      refine ai h9 ?_
      obtain ⟨x10,h10,c10⟩:=f9.row rfl
      refine ai h10 ?_
      obtain ⟨l11,e11,hp⟩:=ae hp
      refine fj eI w8 (i:=0) rfl rfl (c7.step s8) c10 rfl rfl e11 λa12 d12 H12 w12 s12 c12 x12=>?_
      refine er eI w12 (n:=2) (l:=([(wrap .i64 (1+r5.1)),(wrap .i64 (0 - (wrap .i64 (1+r5.1))))]:List Int)) rfl (CR.cons1 rfl (CR.cons1 rfl CR.empty)) rfl λH13 w13 s13 c13=>?_
      refine ai (w13.rowo (i:=0) rfl) ?_
      obtain ⟨l14,e14,hp⟩:=ae hp
      refine fj eI w13 (i:=1) rfl rfl (c12.step s13) c13 (show 2=List.length ([(wrap .i64 (1+r5.1)),(wrap .i64 (0 - (wrap .i64 (1+r5.1))))]:List Int) from rfl) rfl e14 λa15 d15 H15 w15 s15 c15 x15=>?_
      refine lSl w15 6 ?_
      obtain ⟨l16,e16,hp⟩:=ae hp
      obtain ⟨a16,d16,h16,f16⟩:=ROs.cutf (f8.step (s12.trans (s13.trans s15))) rfl e16
      refine ai h16 ?_
      obtain ⟨x17,h17,c17⟩:=f16.row rfl
      refine ai h17 ?_
      obtain ⟨l18,e18,hp⟩:=ae hp
      refine fj eI w15 (i:=1) rfl rfl c15 c17 rfl rfl e18 λa19 d19 H19 w19 s19 c19 x19=>?_
      refine aM w19 6 λH20 w20 s20=>?_
      obtain ⟨w21,s21⟩:=w20.pp [2,3,4,5,1,6] 7
      exact ac.j23_P (@ih) rfl rfl rfl rfl ⟨w21,(s0.trans (s2.trans (s4.trans (s6.trans (s7.trans (s8.trans (s12.trans (s13.trans (s15.trans (s19.trans (s20.trans s21))))))))))),(aU.step (s2.trans (s4.trans (s6.trans (s7.trans (s8.trans (s12.trans (s13.trans (s15.trans (s19.trans (s20.trans s21))))))))))),(eT.step (s2.trans (s4.trans (s6.trans (s7.trans (s8.trans (s12.trans (s13.trans (s15.trans (s19.trans (s20.trans s21))))))))))),(eU.step (s2.trans (s4.trans (s6.trans (s7.trans (s8.trans (s12.trans (s13.trans (s15.trans (s19.trans (s20.trans s21))))))))))),(c19.step (s20.trans s21))⟩ hp
     ·refine lSl w4 5 ?_
      refine aE hp (λhp=>?_) λhp=>?_
      ·refine lSl w4 5 ?_
       obtain ⟨n22,g22,hp⟩:=ae hp
       obtain ⟨p22,q22,i22,h22,j22⟩:=W.ixo (E:=eI) w4 (i:=4) rfl rfl (cK.step (s2.trans s4)) g22
       refine ai i22 ?_
       have h22:_=[_]:=h22
       subst h22
       refine ai (bL (j22 0 _ rfl)) ?_
       refine lSl w4 5 ?_
       obtain ⟨n23,g23,hp⟩:=ae hp
       obtain ⟨p23,q23,i23,h23,j23⟩:=W.ixo (E:=eI) w4 (i:=4) rfl rfl (cK.step (s2.trans s4)) g23
       refine ai i23 ?_
       have h23:_=[_]:=h23
       subst h23
       refine ai (bL (j23 0 _ rfl)) ?_
       refine lSl w4 5 ?_
       obtain ⟨n24,g24,hp⟩:=ae hp
       obtain ⟨p24,q24,i24,h24,j24⟩:=W.ixo (E:=eI) w4 (i:=4) rfl rfl (cK.step (s2.trans s4)) g24
       refine ai i24 ?_
       have h24:_=[_]:=h24
       subst h24
       refine ai (bL (j24 0 _ rfl)) ?_
       refine aE hp (λhp=>?_) λhp=>?_
       ·refine aE hp (λhp=>?_) λhp=>?_
        ·refine aE hp (λhp=>?_) λhp=>?_
         ·obtain ⟨r25,e25,hp⟩:=ae hp
          refine aG (aR.P ⟨w4,trivial⟩ e25) ?_
          rintro _ H26 ⟨rfl,w26,s26,_⟩
          refine br ?_
          refine aE hp (λhp=>?_) λhp=>?_
          ·refine lSl w26 5 ?_
           obtain ⟨n27,g27,hp⟩:=ae hp
           obtain ⟨p27,q27,i27,h27,j27⟩:=W.ixo (E:=eI) w26 (i:=4) rfl rfl (cK.step (s2.trans (s4.trans s26))) g27
           refine ai i27 ?_
           obtain ⟨l28,e28,hp⟩:=ae hp
           refine dd eI w26 (i:=4) (j:=0) (p:=p27) rfl rfl (cK.step (s2.trans (s4.trans s26))) g27 i27 e28 rfl rfl (λ_ h=>by have h:_=[_]:=h;subst h;exact rfl) λH29 k29 w29 s29 c29=>?_
           refine lSl w29 5 ?_
           obtain ⟨n30,g30,hp⟩:=ae hp
           obtain ⟨p30,q30,i30,h30,j30⟩:=W.ixo (E:=eI) w29 (i:=4) rfl rfl c29 g30
           refine ai i30 ?_
           obtain ⟨l31,e31,hp⟩:=ae hp
           refine dd eI w29 (i:=4) (j:=0) (p:=p30) rfl rfl c29 g30 i30 e31 rfl rfl (λ_ h=>by have h:_=[_]:=h;subst h;exact rfl) λH32 k32 w32 s32 c32=>?_
           refine lSl w32 5 ?_
           obtain ⟨n33,g33,hp⟩:=ae hp
           obtain ⟨p33,q33,i33,h33,j33⟩:=W.ixo (E:=eI) w32 (i:=4) rfl rfl c32 g33
           refine ai i33 ?_
           obtain ⟨l34,e34,hp⟩:=ae hp
           refine dd eI w32 (i:=4) (j:=0) (p:=p33) rfl rfl c32 g33 i33 e34 rfl rfl (λ_ h=>by have h:_=[_]:=h;subst h;exact rfl) λH35 k35 w35 s35 c35=>?_
           exact ac.j26_P (@ih) rfl rfl rfl (((cT e28).symm.trans (cT e31).symm).trans (cT e34).symm) ⟨w35,(s0.trans (s2.trans (s4.trans (s26.trans (s29.trans (s32.trans s35)))))),(aU.step (s2.trans (s4.trans (s26.trans (s29.trans (s32.trans s35)))))),(eT.step (s2.trans (s4.trans (s26.trans (s29.trans (s32.trans s35)))))),(eU.step (s2.trans (s4.trans (s26.trans (s29.trans (s32.trans s35)))))),c35⟩ hp
          ·obtain ⟨r36,e36,hp⟩:=ae hp
           refine aG (aR.P ⟨w26,trivial⟩ e36) ?_
           rintro _ H37 ⟨rfl,w37,s37,_⟩
           refine br ?_
           obtain ⟨r38,e38,hp⟩:=ae hp
           refine aG (aR.P ⟨w37,trivial⟩ e38) ?_
           rintro _ H39 ⟨rfl,w39,s39,_⟩
           refine br ?_
           obtain ⟨r40,e40,hp⟩:=ae hp
           refine aG (aR.P ⟨w39,trivial⟩ e40) ?_
           rintro _ H41 ⟨rfl,w41,s41,_⟩
           refine br ?_
           refine aE hp (λhp=>?_) λhp=>?_
           ·refine lSl w41 5 ?_
            obtain ⟨n42,g42,hp⟩:=ae hp
            obtain ⟨p42,q42,i42,h42,j42⟩:=W.ixo (E:=eI) w41 (i:=4) rfl rfl (cK.step (s2.trans (s4.trans (s26.trans (s37.trans (s39.trans s41)))))) g42
            refine ai i42 ?_
            obtain ⟨l43,e43,hp⟩:=ae hp
            refine dd eI w41 (i:=4) (j:=0) (p:=p42) rfl rfl (cK.step (s2.trans (s4.trans (s26.trans (s37.trans (s39.trans s41)))))) g42 i42 e43 rfl rfl (λ_ h=>by have h:_=[_]:=h;subst h;exact rfl) λH44 k44 w44 s44 c44=>?_
            refine lSl w44 5 ?_
            obtain ⟨n45,g45,hp⟩:=ae hp
            obtain ⟨p45,q45,i45,h45,j45⟩:=W.ixo (E:=eI) w44 (i:=4) rfl rfl c44 g45
            refine ai i45 ?_
            obtain ⟨l46,e46,hp⟩:=ae hp
            refine dd eI w44 (i:=4) (j:=0) (p:=p45) rfl rfl c44 g45 i45 e46 rfl rfl (λ_ h=>by have h:_=[_]:=h;subst h;exact rfl) λH47 k47 w47 s47 c47=>?_
            exact ac.j30_P (@ih) rfl rfl rfl ((cT e43).symm.trans (cT e46).symm) ⟨w47,(s0.trans (s2.trans (s4.trans (s26.trans (s37.trans (s39.trans (s41.trans (s44.trans s47)))))))),(aU.step (s2.trans (s4.trans (s26.trans (s37.trans (s39.trans (s41.trans (s44.trans s47)))))))),(eT.step (s2.trans (s4.trans (s26.trans (s37.trans (s39.trans (s41.trans (s44.trans s47)))))))),(eU.step (s2.trans (s4.trans (s26.trans (s37.trans (s39.trans (s41.trans (s44.trans s47)))))))),c47⟩ hp
           ·exact ac.j30_P (@ih) rfl rfl rfl rfl ⟨w41,(s0.trans (s2.trans (s4.trans (s26.trans (s37.trans (s39.trans s41)))))),(aU.step (s2.trans (s4.trans (s26.trans (s37.trans (s39.trans s41)))))),(eT.step (s2.trans (s4.trans (s26.trans (s37.trans (s39.trans s41)))))),(eU.step (s2.trans (s4.trans (s26.trans (s37.trans (s39.trans s41)))))),(cK.step (s2.trans (s4.trans (s26.trans (s37.trans (s39.trans s41))))))⟩ hp
         ·obtain ⟨r48,e48,hp⟩:=ae hp
          refine aG (aR.P ⟨w4,trivial⟩ e48) ?_
          rintro _ H49 ⟨rfl,w49,s49,_⟩
          refine br ?_
          obtain ⟨r50,e50,hp⟩:=ae hp
          refine aG (aR.P ⟨w49,trivial⟩ e50) ?_
          rintro _ H51 ⟨rfl,w51,s51,_⟩
          refine br ?_
          obtain ⟨r52,e52,hp⟩:=ae hp
          refine aG (aR.P ⟨w51,trivial⟩ e52) ?_
          rintro _ H53 ⟨rfl,w53,s53,_⟩
          refine br ?_
          refine aE hp (λhp=>?_) λhp=>?_
          ·refine lSl w53 5 ?_
           obtain ⟨n54,g54,hp⟩:=ae hp
           obtain ⟨p54,q54,i54,h54,j54⟩:=W.ixo (E:=eI) w53 (i:=4) rfl rfl (cK.step (s2.trans (s4.trans (s49.trans (s51.trans s53))))) g54
           refine ai i54 ?_
           obtain ⟨l55,e55,hp⟩:=ae hp
           refine dd eI w53 (i:=4) (j:=0) (p:=p54) rfl rfl (cK.step (s2.trans (s4.trans (s49.trans (s51.trans s53))))) g54 i54 e55 rfl rfl (λ_ h=>by have h:_=[_]:=h;subst h;exact rfl) λH56 k56 w56 s56 c56=>?_
           refine lSl w56 5 ?_
           obtain ⟨n57,g57,hp⟩:=ae hp
           obtain ⟨p57,q57,i57,h57,j57⟩:=W.ixo (E:=eI) w56 (i:=4) rfl rfl c56 g57
           refine ai i57 ?_
           obtain ⟨l58,e58,hp⟩:=ae hp
           refine dd eI w56 (i:=4) (j:=0) (p:=p57) rfl rfl c56 g57 i57 e58 rfl rfl (λ_ h=>by have h:_=[_]:=h;subst h;exact rfl) λH59 k59 w59 s59 c59=>?_
           exact ac.j31_P (@ih) rfl rfl rfl ((cT e55).symm.trans (cT e58).symm) ⟨w59,(s0.trans (s2.trans (s4.trans (s49.trans (s51.trans (s53.trans (s56.trans s59))))))),(aU.step (s2.trans (s4.trans (s49.trans (s51.trans (s53.trans (s56.trans s59))))))),(eT.step (s2.trans (s4.trans (s49.trans (s51.trans (s53.trans (s56.trans s59))))))),(eU.step (s2.trans (s4.trans (s49.trans (s51.trans (s53.trans (s56.trans s59))))))),c59⟩ hp
          ·exact ac.j31_P (@ih) rfl rfl rfl rfl ⟨w53,(s0.trans (s2.trans (s4.trans (s49.trans (s51.trans s53))))),(aU.step (s2.trans (s4.trans (s49.trans (s51.trans s53))))),(eT.step (s2.trans (s4.trans (s49.trans (s51.trans s53))))),(eU.step (s2.trans (s4.trans (s49.trans (s51.trans s53))))),(cK.step (s2.trans (s4.trans (s49.trans (s51.trans s53)))))⟩ hp
        ·obtain ⟨r60,e60,hp⟩:=ae hp
         refine aG (aR.P ⟨w4,trivial⟩ e60) ?_
         rintro _ H61 ⟨rfl,w61,s61,_⟩
         refine br ?_
         obtain ⟨r62,e62,hp⟩:=ae hp
         refine aG (aR.P ⟨w61,trivial⟩ e62) ?_
         rintro _ H63 ⟨rfl,w63,s63,_⟩
         refine br ?_
         obtain ⟨r64,e64,hp⟩:=ae hp
         refine aG (aR.P ⟨w63,trivial⟩ e64) ?_
         rintro _ H65 ⟨rfl,w65,s65,_⟩
         refine br ?_
         refine aE hp (λhp=>?_) λhp=>?_
         ·refine lSl w65 5 ?_
          obtain ⟨n66,g66,hp⟩:=ae hp
          obtain ⟨p66,q66,i66,h66,j66⟩:=W.ixo (E:=eI) w65 (i:=4) rfl rfl (cK.step (s2.trans (s4.trans (s61.trans (s63.trans s65))))) g66
          refine ai i66 ?_
          obtain ⟨l67,e67,hp⟩:=ae hp
          refine dd eI w65 (i:=4) (j:=0) (p:=p66) rfl rfl (cK.step (s2.trans (s4.trans (s61.trans (s63.trans s65))))) g66 i66 e67 rfl rfl (λ_ h=>by have h:_=[_]:=h;subst h;exact rfl) λH68 k68 w68 s68 c68=>?_
          refine lSl w68 5 ?_
          obtain ⟨n69,g69,hp⟩:=ae hp
          obtain ⟨p69,q69,i69,h69,j69⟩:=W.ixo (E:=eI) w68 (i:=4) rfl rfl c68 g69
          refine ai i69 ?_
          obtain ⟨l70,e70,hp⟩:=ae hp
          refine dd eI w68 (i:=4) (j:=0) (p:=p69) rfl rfl c68 g69 i69 e70 rfl rfl (λ_ h=>by have h:_=[_]:=h;subst h;exact rfl) λH71 k71 w71 s71 c71=>?_
          exact ac.j32_P (@ih) rfl rfl rfl ((cT e67).symm.trans (cT e70).symm) ⟨w71,(s0.trans (s2.trans (s4.trans (s61.trans (s63.trans (s65.trans (s68.trans s71))))))),(aU.step (s2.trans (s4.trans (s61.trans (s63.trans (s65.trans (s68.trans s71))))))),(eT.step (s2.trans (s4.trans (s61.trans (s63.trans (s65.trans (s68.trans s71))))))),(eU.step (s2.trans (s4.trans (s61.trans (s63.trans (s65.trans (s68.trans s71))))))),c71⟩ hp
         ·exact ac.j32_P (@ih) rfl rfl rfl rfl ⟨w65,(s0.trans (s2.trans (s4.trans (s61.trans (s63.trans s65))))),(aU.step (s2.trans (s4.trans (s61.trans (s63.trans s65))))),(eT.step (s2.trans (s4.trans (s61.trans (s63.trans s65))))),(eU.step (s2.trans (s4.trans (s61.trans (s63.trans s65))))),(cK.step (s2.trans (s4.trans (s61.trans (s63.trans s65)))))⟩ hp
       ·obtain ⟨r72,e72,hp⟩:=ae hp
        refine aG (aR.P ⟨w4,trivial⟩ e72) ?_
        rintro _ H73 ⟨rfl,w73,s73,_⟩
        refine br ?_
        obtain ⟨r74,e74,hp⟩:=ae hp
        refine aG (aR.P ⟨w73,trivial⟩ e74) ?_
        rintro _ H75 ⟨rfl,w75,s75,_⟩
        refine br ?_
        obtain ⟨r76,e76,hp⟩:=ae hp
        refine aG (aR.P ⟨w75,trivial⟩ e76) ?_
        rintro _ H77 ⟨rfl,w77,s77,_⟩
        refine br ?_
        refine aE hp (λhp=>?_) λhp=>?_
        ·refine lSl w77 5 ?_
         obtain ⟨n78,g78,hp⟩:=ae hp
         obtain ⟨p78,q78,i78,h78,j78⟩:=W.ixo (E:=eI) w77 (i:=4) rfl rfl (cK.step (s2.trans (s4.trans (s73.trans (s75.trans s77))))) g78
         refine ai i78 ?_
         obtain ⟨l79,e79,hp⟩:=ae hp
         refine dd eI w77 (i:=4) (j:=0) (p:=p78) rfl rfl (cK.step (s2.trans (s4.trans (s73.trans (s75.trans s77))))) g78 i78 e79 rfl rfl (λ_ h=>by have h:_=[_]:=h;subst h;exact rfl) λH80 k80 w80 s80 c80=>?_
         refine lSl w80 5 ?_
         obtain ⟨n81,g81,hp⟩:=ae hp
         obtain ⟨p81,q81,i81,h81,j81⟩:=W.ixo (E:=eI) w80 (i:=4) rfl rfl c80 g81
         refine ai i81 ?_
         obtain ⟨l82,e82,hp⟩:=ae hp
         refine dd eI w80 (i:=4) (j:=0) (p:=p81) rfl rfl c80 g81 i81 e82 rfl rfl (λ_ h=>by have h:_=[_]:=h;subst h;exact rfl) λH83 k83 w83 s83 c83=>?_
         exact ac.j33_P (@ih) rfl rfl rfl ((cT e79).symm.trans (cT e82).symm) ⟨w83,(s0.trans (s2.trans (s4.trans (s73.trans (s75.trans (s77.trans (s80.trans s83))))))),(aU.step (s2.trans (s4.trans (s73.trans (s75.trans (s77.trans (s80.trans s83))))))),(eT.step (s2.trans (s4.trans (s73.trans (s75.trans (s77.trans (s80.trans s83))))))),(eU.step (s2.trans (s4.trans (s73.trans (s75.trans (s77.trans (s80.trans s83))))))),c83⟩ hp
        ·exact ac.j33_P (@ih) rfl rfl rfl rfl ⟨w77,(s0.trans (s2.trans (s4.trans (s73.trans (s75.trans s77))))),(aU.step (s2.trans (s4.trans (s73.trans (s75.trans s77))))),(eT.step (s2.trans (s4.trans (s73.trans (s75.trans s77))))),(eU.step (s2.trans (s4.trans (s73.trans (s75.trans s77))))),(cK.step (s2.trans (s4.trans (s73.trans (s75.trans s77)))))⟩ hp
      ·exact ac.j35_P (@ih) rfl rfl rfl rfl ⟨w4,(s0.trans (s2.trans s4)),(aU.step (s2.trans s4)),(eT.step (s2.trans s4)),(eU.step (s2.trans s4)),(cK.step (s2.trans s4))⟩ hp
    ·refine lSl w4 5 ?_
     refine aE hp (λhp=>?_) λhp=>?_
     ·refine lSl w4 5 ?_
      obtain ⟨n84,g84,hp⟩:=ae hp
      obtain ⟨p84,q84,i84,h84,j84⟩:=W.ixo (E:=eI) w4 (i:=4) rfl rfl (cK.step (s2.trans s4)) g84
      refine ai i84 ?_
      have h84:_=[_]:=h84
      subst h84
      refine ai (bL (j84 0 _ rfl)) ?_
      refine lSl w4 5 ?_
      obtain ⟨n85,g85,hp⟩:=ae hp
      obtain ⟨p85,q85,i85,h85,j85⟩:=W.ixo (E:=eI) w4 (i:=4) rfl rfl (cK.step (s2.trans s4)) g85
      refine ai i85 ?_
      have h85:_=[_]:=h85
      subst h85
      refine ai (bL (j85 0 _ rfl)) ?_
      refine lSl w4 5 ?_
      obtain ⟨n86,g86,hp⟩:=ae hp
      obtain ⟨p86,q86,i86,h86,j86⟩:=W.ixo (E:=eI) w4 (i:=4) rfl rfl (cK.step (s2.trans s4)) g86
      refine ai i86 ?_
      have h86:_=[_]:=h86
      subst h86
      refine ai (bL (j86 0 _ rfl)) ?_
      refine aE hp (λhp=>?_) λhp=>?_
      ·refine aE hp (λhp=>?_) λhp=>?_
       ·refine aE hp (λhp=>?_) λhp=>?_
        ·obtain ⟨r87,e87,hp⟩:=ae hp
         refine aG (aR.P ⟨w4,trivial⟩ e87) ?_
         rintro _ H88 ⟨rfl,w88,s88,_⟩
         refine br ?_
         refine aE hp (λhp=>?_) λhp=>?_
         ·refine lSl w88 5 ?_
          obtain ⟨n89,g89,hp⟩:=ae hp
          obtain ⟨p89,q89,i89,h89,j89⟩:=W.ixo (E:=eI) w88 (i:=4) rfl rfl (cK.step (s2.trans (s4.trans s88))) g89
          refine ai i89 ?_
          obtain ⟨l90,e90,hp⟩:=ae hp
          refine dd eI w88 (i:=4) (j:=0) (p:=p89) rfl rfl (cK.step (s2.trans (s4.trans s88))) g89 i89 e90 rfl rfl (λ_ h=>by have h:_=[_]:=h;subst h;exact rfl) λH91 k91 w91 s91 c91=>?_
          refine lSl w91 5 ?_
          obtain ⟨n92,g92,hp⟩:=ae hp
          obtain ⟨p92,q92,i92,h92,j92⟩:=W.ixo (E:=eI) w91 (i:=4) rfl rfl c91 g92
          refine ai i92 ?_
          obtain ⟨l93,e93,hp⟩:=ae hp
          refine dd eI w91 (i:=4) (j:=0) (p:=p92) rfl rfl c91 g92 i92 e93 rfl rfl (λ_ h=>by have h:_=[_]:=h;subst h;exact rfl) λH94 k94 w94 s94 c94=>?_
          refine lSl w94 5 ?_
          obtain ⟨n95,g95,hp⟩:=ae hp
          obtain ⟨p95,q95,i95,h95,j95⟩:=W.ixo (E:=eI) w94 (i:=4) rfl rfl c94 g95
          refine ai i95 ?_
          obtain ⟨l96,e96,hp⟩:=ae hp
          refine dd eI w94 (i:=4) (j:=0) (p:=p95) rfl rfl c94 g95 i95 e96 rfl rfl (λ_ h=>by have h:_=[_]:=h;subst h;exact rfl) λH97 k97 w97 s97 c97=>?_
          exact ac.j37_P (@ih) rfl rfl rfl (((cT e90).symm.trans (cT e93).symm).trans (cT e96).symm) ⟨w97,(s0.trans (s2.trans (s4.trans (s88.trans (s91.trans (s94.trans s97)))))),(aU.step (s2.trans (s4.trans (s88.trans (s91.trans (s94.trans s97)))))),(eT.step (s2.trans (s4.trans (s88.trans (s91.trans (s94.trans s97)))))),(eU.step (s2.trans (s4.trans (s88.trans (s91.trans (s94.trans s97)))))),c97⟩ hp
         ·obtain ⟨r98,e98,hp⟩:=ae hp
          refine aG (aR.P ⟨w88,trivial⟩ e98) ?_
          rintro _ H99 ⟨rfl,w99,s99,_⟩
          refine br ?_
          obtain ⟨r100,e100,hp⟩:=ae hp
          refine aG (aR.P ⟨w99,trivial⟩ e100) ?_
          rintro _ H101 ⟨rfl,w101,s101,_⟩
          refine br ?_
          obtain ⟨r102,e102,hp⟩:=ae hp
          refine aG (aR.P ⟨w101,trivial⟩ e102) ?_
          rintro _ H103 ⟨rfl,w103,s103,_⟩
          refine br ?_
          refine aE hp (λhp=>?_) λhp=>?_
          ·refine lSl w103 5 ?_
           obtain ⟨n104,g104,hp⟩:=ae hp
           obtain ⟨p104,q104,i104,h104,j104⟩:=W.ixo (E:=eI) w103 (i:=4) rfl rfl (cK.step (s2.trans (s4.trans (s88.trans (s99.trans (s101.trans s103)))))) g104
           refine ai i104 ?_
           obtain ⟨l105,e105,hp⟩:=ae hp
           refine dd eI w103 (i:=4) (j:=0) (p:=p104) rfl rfl (cK.step (s2.trans (s4.trans (s88.trans (s99.trans (s101.trans s103)))))) g104 i104 e105 rfl rfl (λ_ h=>by have h:_=[_]:=h;subst h;exact rfl) λH106 k106 w106 s106 c106=>?_
           refine lSl w106 5 ?_
           obtain ⟨n107,g107,hp⟩:=ae hp
           obtain ⟨p107,q107,i107,h107,j107⟩:=W.ixo (E:=eI) w106 (i:=4) rfl rfl c106 g107
           refine ai i107 ?_
           obtain ⟨l108,e108,hp⟩:=ae hp
           refine dd eI w106 (i:=4) (j:=0) (p:=p107) rfl rfl c106 g107 i107 e108 rfl rfl (λ_ h=>by have h:_=[_]:=h;subst h;exact rfl) λH109 k109 w109 s109 c109=>?_
           exact ac.j40_P (@ih) rfl rfl rfl ((cT e105).symm.trans (cT e108).symm) ⟨w109,(s0.trans (s2.trans (s4.trans (s88.trans (s99.trans (s101.trans (s103.trans (s106.trans s109)))))))),(aU.step (s2.trans (s4.trans (s88.trans (s99.trans (s101.trans (s103.trans (s106.trans s109)))))))),(eT.step (s2.trans (s4.trans (s88.trans (s99.trans (s101.trans (s103.trans (s106.trans s109)))))))),(eU.step (s2.trans (s4.trans (s88.trans (s99.trans (s101.trans (s103.trans (s106.trans s109)))))))),c109⟩ hp
          ·exact ac.j40_P (@ih) rfl rfl rfl rfl ⟨w103,(s0.trans (s2.trans (s4.trans (s88.trans (s99.trans (s101.trans s103)))))),(aU.step (s2.trans (s4.trans (s88.trans (s99.trans (s101.trans s103)))))),(eT.step (s2.trans (s4.trans (s88.trans (s99.trans (s101.trans s103)))))),(eU.step (s2.trans (s4.trans (s88.trans (s99.trans (s101.trans s103)))))),(cK.step (s2.trans (s4.trans (s88.trans (s99.trans (s101.trans s103))))))⟩ hp
        ·obtain ⟨r110,e110,hp⟩:=ae hp
         refine aG (aR.P ⟨w4,trivial⟩ e110) ?_
         rintro _ H111 ⟨rfl,w111,s111,_⟩
         refine br ?_
         obtain ⟨r112,e112,hp⟩:=ae hp
         refine aG (aR.P ⟨w111,trivial⟩ e112) ?_
         rintro _ H113 ⟨rfl,w113,s113,_⟩
         refine br ?_
         obtain ⟨r114,e114,hp⟩:=ae hp
         refine aG (aR.P ⟨w113,trivial⟩ e114) ?_
         rintro _ H115 ⟨rfl,w115,s115,_⟩
         refine br ?_
         refine aE hp (λhp=>?_) λhp=>?_
         ·refine lSl w115 5 ?_
          obtain ⟨n116,g116,hp⟩:=ae hp
          obtain ⟨p116,q116,i116,h116,j116⟩:=W.ixo (E:=eI) w115 (i:=4) rfl rfl (cK.step (s2.trans (s4.trans (s111.trans (s113.trans s115))))) g116
          refine ai i116 ?_
          obtain ⟨l117,e117,hp⟩:=ae hp
          refine dd eI w115 (i:=4) (j:=0) (p:=p116) rfl rfl (cK.step (s2.trans (s4.trans (s111.trans (s113.trans s115))))) g116 i116 e117 rfl rfl (λ_ h=>by have h:_=[_]:=h;subst h;exact rfl) λH118 k118 w118 s118 c118=>?_
          refine lSl w118 5 ?_
          obtain ⟨n119,g119,hp⟩:=ae hp
          obtain ⟨p119,q119,i119,h119,j119⟩:=W.ixo (E:=eI) w118 (i:=4) rfl rfl c118 g119
          refine ai i119 ?_
          obtain ⟨l120,e120,hp⟩:=ae hp
          refine dd eI w118 (i:=4) (j:=0) (p:=p119) rfl rfl c118 g119 i119 e120 rfl rfl (λ_ h=>by have h:_=[_]:=h;subst h;exact rfl) λH121 k121 w121 s121 c121=>?_
          exact ac.j41_P (@ih) rfl rfl rfl ((cT e117).symm.trans (cT e120).symm) ⟨w121,(s0.trans (s2.trans (s4.trans (s111.trans (s113.trans (s115.trans (s118.trans s121))))))),(aU.step (s2.trans (s4.trans (s111.trans (s113.trans (s115.trans (s118.trans s121))))))),(eT.step (s2.trans (s4.trans (s111.trans (s113.trans (s115.trans (s118.trans s121))))))),(eU.step (s2.trans (s4.trans (s111.trans (s113.trans (s115.trans (s118.trans s121))))))),c121⟩ hp
         ·exact ac.j41_P (@ih) rfl rfl rfl rfl ⟨w115,(s0.trans (s2.trans (s4.trans (s111.trans (s113.trans s115))))),(aU.step (s2.trans (s4.trans (s111.trans (s113.trans s115))))),(eT.step (s2.trans (s4.trans (s111.trans (s113.trans s115))))),(eU.step (s2.trans (s4.trans (s111.trans (s113.trans s115))))),(cK.step (s2.trans (s4.trans (s111.trans (s113.trans s115)))))⟩ hp
       ·obtain ⟨r122,e122,hp⟩:=ae hp
        refine aG (aR.P ⟨w4,trivial⟩ e122) ?_
        rintro _ H123 ⟨rfl,w123,s123,_⟩
        refine br ?_
        obtain ⟨r124,e124,hp⟩:=ae hp
        refine aG (aR.P ⟨w123,trivial⟩ e124) ?_
        rintro _ H125 ⟨rfl,w125,s125,_⟩
        refine br ?_
        obtain ⟨r126,e126,hp⟩:=ae hp
        refine aG (aR.P ⟨w125,trivial⟩ e126) ?_
        rintro _ H127 ⟨rfl,w127,s127,_⟩
        refine br ?_
        refine aE hp (λhp=>?_) λhp=>?_
        ·refine lSl w127 5 ?_
         obtain ⟨n128,g128,hp⟩:=ae hp
         obtain ⟨p128,q128,i128,h128,j128⟩:=W.ixo (E:=eI) w127 (i:=4) rfl rfl (cK.step (s2.trans (s4.trans (s123.trans (s125.trans s127))))) g128
         refine ai i128 ?_
         obtain ⟨l129,e129,hp⟩:=ae hp
         refine dd eI w127 (i:=4) (j:=0) (p:=p128) rfl rfl (cK.step (s2.trans (s4.trans (s123.trans (s125.trans s127))))) g128 i128 e129 rfl rfl (λ_ h=>by have h:_=[_]:=h;subst h;exact rfl) λH130 k130 w130 s130 c130=>?_
         refine lSl w130 5 ?_
         obtain ⟨n131,g131,hp⟩:=ae hp
         obtain ⟨p131,q131,i131,h131,j131⟩:=W.ixo (E:=eI) w130 (i:=4) rfl rfl c130 g131
         refine ai i131 ?_
         obtain ⟨l132,e132,hp⟩:=ae hp
         refine dd eI w130 (i:=4) (j:=0) (p:=p131) rfl rfl c130 g131 i131 e132 rfl rfl (λ_ h=>by have h:_=[_]:=h;subst h;exact rfl) λH133 k133 w133 s133 c133=>?_
         exact ac.j42_P (@ih) rfl rfl rfl ((cT e129).symm.trans (cT e132).symm) ⟨w133,(s0.trans (s2.trans (s4.trans (s123.trans (s125.trans (s127.trans (s130.trans s133))))))),(aU.step (s2.trans (s4.trans (s123.trans (s125.trans (s127.trans (s130.trans s133))))))),(eT.step (s2.trans (s4.trans (s123.trans (s125.trans (s127.trans (s130.trans s133))))))),(eU.step (s2.trans (s4.trans (s123.trans (s125.trans (s127.trans (s130.trans s133))))))),c133⟩ hp
        ·exact ac.j42_P (@ih) rfl rfl rfl rfl ⟨w127,(s0.trans (s2.trans (s4.trans (s123.trans (s125.trans s127))))),(aU.step (s2.trans (s4.trans (s123.trans (s125.trans s127))))),(eT.step (s2.trans (s4.trans (s123.trans (s125.trans s127))))),(eU.step (s2.trans (s4.trans (s123.trans (s125.trans s127))))),(cK.step (s2.trans (s4.trans (s123.trans (s125.trans s127)))))⟩ hp
      ·obtain ⟨r134,e134,hp⟩:=ae hp
       refine aG (aR.P ⟨w4,trivial⟩ e134) ?_
       rintro _ H135 ⟨rfl,w135,s135,_⟩
       refine br ?_
       obtain ⟨r136,e136,hp⟩:=ae hp
       refine aG (aR.P ⟨w135,trivial⟩ e136) ?_
       rintro _ H137 ⟨rfl,w137,s137,_⟩
       refine br ?_
       obtain ⟨r138,e138,hp⟩:=ae hp
       refine aG (aR.P ⟨w137,trivial⟩ e138) ?_
       rintro _ H139 ⟨rfl,w139,s139,_⟩
       refine br ?_
       refine aE hp (λhp=>?_) λhp=>?_
       ·refine lSl w139 5 ?_
        obtain ⟨n140,g140,hp⟩:=ae hp
        obtain ⟨p140,q140,i140,h140,j140⟩:=W.ixo (E:=eI) w139 (i:=4) rfl rfl (cK.step (s2.trans (s4.trans (s135.trans (s137.trans s139))))) g140
        refine ai i140 ?_
        obtain ⟨l141,e141,hp⟩:=ae hp
        refine dd eI w139 (i:=4) (j:=0) (p:=p140) rfl rfl (cK.step (s2.trans (s4.trans (s135.trans (s137.trans s139))))) g140 i140 e141 rfl rfl (λ_ h=>by have h:_=[_]:=h;subst h;exact rfl) λH142 k142 w142 s142 c142=>?_
        refine lSl w142 5 ?_
        obtain ⟨n143,g143,hp⟩:=ae hp
        obtain ⟨p143,q143,i143,h143,j143⟩:=W.ixo (E:=eI) w142 (i:=4) rfl rfl c142 g143
        refine ai i143 ?_
        obtain ⟨l144,e144,hp⟩:=ae hp
        refine dd eI w142 (i:=4) (j:=0) (p:=p143) rfl rfl c142 g143 i143 e144 rfl rfl (λ_ h=>by have h:_=[_]:=h;subst h;exact rfl) λH145 k145 w145 s145 c145=>?_
        exact ac.j43_P (@ih) rfl rfl rfl ((cT e141).symm.trans (cT e144).symm) ⟨w145,(s0.trans (s2.trans (s4.trans (s135.trans (s137.trans (s139.trans (s142.trans s145))))))),(aU.step (s2.trans (s4.trans (s135.trans (s137.trans (s139.trans (s142.trans s145))))))),(eT.step (s2.trans (s4.trans (s135.trans (s137.trans (s139.trans (s142.trans s145))))))),(eU.step (s2.trans (s4.trans (s135.trans (s137.trans (s139.trans (s142.trans s145))))))),c145⟩ hp
       ·exact ac.j43_P (@ih) rfl rfl rfl rfl ⟨w139,(s0.trans (s2.trans (s4.trans (s135.trans (s137.trans s139))))),(aU.step (s2.trans (s4.trans (s135.trans (s137.trans s139))))),(eT.step (s2.trans (s4.trans (s135.trans (s137.trans s139))))),(eU.step (s2.trans (s4.trans (s135.trans (s137.trans s139))))),(cK.step (s2.trans (s4.trans (s135.trans (s137.trans s139)))))⟩ hp
     ·exact ac.j44_P (@ih) rfl rfl rfl rfl ⟨w4,(s0.trans (s2.trans s4)),(aU.step (s2.trans s4)),(eT.step (s2.trans s4)),(eU.step (s2.trans s4)),(cK.step (s2.trans s4))⟩ hp
   ·refine lI w0 5 ?_
    refine lSl w0 5 ?_
    refine aM w0 3 λH146 w146 s146=>?_
    refine aM w146 3 λH147 w147 s147=>?_
    refine lI w147 3 ?_
    refine lSl w147 3 ?_
    obtain ⟨w148,s148⟩:=w147.pp [4,0] 6
    exact aJ hp ⟨_,_,_,_,rfl,rfl,w148,(s0.trans (s146.trans (s147.trans s148))),(cK.step (s146.trans (s147.trans s148)))⟩
  ·refine lI w0 5 ?_
   refine lSl w0 5 ?_
   refine aM w0 3 λH149 w149 s149=>?_
   refine aM w149 3 λH150 w150 s150=>?_
   refine lI w150 3 ?_
   refine lSl w150 3 ?_
   obtain ⟨w151,s151⟩:=w150.pp [4,0] 6
   exact aJ hp ⟨_,_,_,_,rfl,rfl,w151,(s0.trans (s149.trans (s150.trans s151))),(cK.step (s149.trans (s150.trans s151)))⟩
def ac.p (F:Nat) (cA:VE) (aj:Int) (ak:Int) (aC:Int) (cW:VE):Option (Int×List Int×Int×Int):=(cp.p F aC cW).bind λr3=>(aD.p F cA aj ak 6).bind λr9=>ac.pl29 F F cA r9.2.1 r9.2.2 aC r3.1 r3.2 r9.1
theorem ac.P {dD gq dl aa fd dE gr cA cW aj ak aC} (kv:dl=cA.length) (jl:fd=cW.length) (h0:Inn H (Rs.blk aa [.sl ⟨dD,dl,dE⟩,.i aj,.i ak]::R0) λR=>ROs (bd .u8) H R ⟨dD,dl,dE⟩ cA/\ROs eI H R ⟨gq,fd,gr⟩ cW) {r:VP} (hp:ac.p F cA aj ak aC cW=some r):Rt (ac.tw F aa 0 aC ⟨gq,fd,gr⟩ H) (ac.Q H (Rs.blk aa [.sl ⟨dD,dl,dE⟩,.i aj,.i ak]::R0) R0 dD dl aa dE cA r):=by
 obtain ⟨w0,eS,gP⟩:=h0
 subst kv
 subst jl
 unfold ac.p at hp
 unfold ac.tw ac.twX
 have s0:=w0.rf
 refine cg w0 λH1 w1 s1=>?_
 refine cg w1 λH2 w2 s2=>?_
 refine lI w2 1 ?_
 refine lSl w2 1 ?_
 obtain ⟨r3,e3,hp⟩:=ae hp
 refine aG (cp.P rfl ⟨w2,(gP.step (s1.trans s2))⟩ e3) ?_
 rintro _ H4 ⟨o1a_4,o1n_4,o1c_4,o1k_4,rfl,rfl,w4,s4,f4_0⟩
 refine br (br (br (br (br ?_))))
 refine cg w4 λH5 w5 s5=>?_
 refine aM w5 0 λH6 w6 s6=>?_
 refine aM w6 0 λH7 w7 s7=>?_
 obtain ⟨w8,s8⟩:=w7.pp [4,0,1,2,3] 5
 obtain ⟨r9,e9,hp⟩:=ae hp
 refine aG (aD.P rfl ⟨w8,(eS.step (s1.trans (s2.trans (s4.trans (s5.trans (s6.trans (s7.trans s8)))))))⟩ e9) ?_
 rintro _ H10 ⟨rfl,w10,s10,_⟩
 refine br ?_
 obtain ⟨w11,s11⟩:=w10.nilS eI.z (by decide)
 obtain ⟨w12,s12⟩:=w11.pp [1,5,0,4,3,2] 6
 exact ac.l29_P F rfl rfl rfl rfl ⟨w12,(s0.trans (s1.trans (s2.trans (s4.trans (s5.trans (s6.trans (s7.trans (s8.trans (s10.trans (s11.trans s12)))))))))),(eS.step (s1.trans (s2.trans (s4.trans (s5.trans (s6.trans (s7.trans (s8.trans (s10.trans (s11.trans s12)))))))))),(gP.step (s1.trans (s2.trans (s4.trans (s5.trans (s6.trans (s7.trans (s8.trans (s10.trans (s11.trans s12)))))))))),((CR.empty:CR eI _ _ [] []).step s12),(f4_0.step (s5.trans (s6.trans (s7.trans (s8.trans (s10.trans (s11.trans s12)))))))⟩ hp
def di.Q (H0:Hp) (Ri R0:VJ)  (r:Wx) (v:AV) (H':Hp):Prop:=∃ o1a:ON,∃ o1n:Nat,∃ o1c:Cap,∃ o1k:List AV,∃ o3a:ON,∃ o3n:Nat,∃ o3c:Cap,∃ o3k:List AV,v=(.tup [(.agg [(.i r.1),(.sl ⟨o1a,o1n,o1c⟩)]),(.agg [(.i r.2.2.1),(.sl ⟨o3a,o3n,o3c⟩)])])/\o1n=(r.2.1).length/\o3n=(r.2.2.2).length/\Out H0 Ri H' (Rs.own ⟨o1a,o1n,o1c⟩ eI.z o1k::Rs.own ⟨o3a,o3n,o3c⟩ eI.z o3k::R0) λR=>CR eI H' R o1k (r.2.1)/\CR eI H' R o3k (r.2.2.2)
def di.p (F:Nat) (ar:VE):Option (Int×List Int×Int×List Int):=(bR.p F ar).bind λr3=>(aN.p F r3.1 r3.2.1 r3.2.2 8).bind λr5=>(aD.p F r3.1 r5.2.2.1 r5.2.2.2 3).bind λr11=>(bif (r11.1==0) then ((bG.p F r3.1 r11.2.1 r11.2.2).bind λr13=>some (r5.1,r5.2.1,r13.1,r13.2.1)) else ((ac.p F r3.1 r11.2.1 r11.2.2 r5.1 r5.2.1).bind λr22=>some (r5.1,r5.2.1,r22.1,r22.2.1)))
theorem di.P {aY aL aZ ar} (cq:aL=ar.length) (h0:Inn H R0 λR=>ROs (bd .u8) H R ⟨aY,aL,aZ⟩ ar) {r:Wx} (hp:di.p F ar=some r):Rt (di.tw F ⟨aY,aL,aZ⟩ H) (di.Q H R0 R0  r):=by
 obtain ⟨w0,cj⟩:=h0
 subst cq
 unfold di.p at hp
 unfold di.tw di.twX
 have s0:=w0.rf
 refine cg w0 λH1 w1 s1=>?_
 refine cg w1 λH2 w2 s2=>?_
 obtain ⟨r3,e3,hp⟩:=ae hp
 refine aG (bR.P rfl ⟨w2,(cj.step (s1.trans s2))⟩ e3) ?_
 rintro _ H4 ⟨o0a_4,o0n_4,o0c_4,ob0_4,rfl,rfl,w4,s4,f4_0⟩
 refine br ?_
 obtain ⟨r5,e5,hp⟩:=ae hp
 refine aG (aN.P rfl ⟨w4,f4_0⟩ e5) ?_
 rintro _ H6 ⟨o1a_6,o1n_6,o1c_6,o1k_6,rfl,rfl,w6,s6,f6_0⟩
 refine br (br (br (br (br ?_))))
 refine cg w6 λH7 w7 s7=>?_
 refine aM w7 0 λH8 w8 s8=>?_
 refine aM w8 0 λH9 w9 s9=>?_
 obtain ⟨w10,s10⟩:=w9.pp [2,0,1,3,4] 5
 obtain ⟨r11,e11,hp⟩:=ae hp
 refine aG (aD.P rfl ⟨w10,(f4_0.step (s6.trans (s7.trans (s8.trans (s9.trans s10)))))⟩ e11) ?_
 rintro _ H12 ⟨rfl,w12,s12,_⟩
 refine br ?_
 refine aE hp (λhp=>?_) λhp=>?_
 ·refine lI w12 1 ?_
  refine lSl w12 1 ?_
  obtain ⟨r13,e13,hp⟩:=ae hp
  refine aG (bG.P rfl ⟨w12,(f4_0.step (s6.trans (s7.trans (s8.trans (s9.trans (s10.trans s12))))))⟩ e13) ?_
  rintro _ H14 ⟨o1a_14,o1n_14,o1c_14,o1k_14,rfl,rfl,w14,s14,f14_0⟩
  refine br (br (br (br (br ?_))))
  refine aM w14 5 λH15 w15 s15=>?_
  refine aM w15 5 λH16 w16 s16=>?_
  refine aM w16 4 λH17 w17 s17=>?_
  refine aM w17 4 λH18 w18 s18=>?_
  refine kH ⟨⟨(cH (bL (w16.ld (i:=2) rfl rfl)) (cH (ck (w16.ld (i:=2) rfl rfl)) (es _ _))),(cH (bL (w14.ld (i:=2) rfl rfl)) (cH (ck (w14.ld (i:=2) rfl rfl)) (es _ _))),(cH (bL (w12.ld (i:=1) rfl rfl)) (cH (ck (w12.ld (i:=1) rfl rfl)) (es _ _))),trivial⟩,trivial⟩ ?_
  refine lI w18 5 ?_
  refine lSl w18 5 ?_
  refine lI w18 4 ?_
  refine lSl w18 4 ?_
  obtain ⟨w19,s19⟩:=w18.pp [3,0] 6
  exact aJ hp ⟨_,_,_,_,_,_,_,_,rfl,rfl,rfl,w19,(s0.trans (s1.trans (s2.trans (s4.trans (s6.trans (s7.trans (s8.trans (s9.trans (s10.trans (s12.trans (s14.trans (s15.trans (s16.trans (s17.trans (s18.trans s19))))))))))))))),(f6_0.step (s7.trans (s8.trans (s9.trans (s10.trans (s12.trans (s14.trans (s15.trans (s16.trans (s17.trans (s18.trans s19))))))))))),(f14_0.step (s15.trans (s16.trans (s17.trans (s18.trans s19)))))⟩
 ·refine lI w12 1 ?_
  refine lSl w12 1 ?_
  refine lI w12 1 ?_
  refine lSl w12 1 ?_
  obtain ⟨w20,s20⟩:=w12.pp [2,0,1,3,4] 5
  have f21:=W.borrow1 eI w20 (f6_0.step (s7.trans (s8.trans (s9.trans (s10.trans (s12.trans s20))))))
  obtain ⟨w21,s21⟩:=w20.right1
  obtain ⟨r22,e22,hp⟩:=ae hp
  refine aG (ac.P rfl rfl ⟨w21,((f4_0.step (s6.trans (s7.trans (s8.trans (s9.trans (s10.trans (s12.trans s20))))))).step s21),f21⟩ e22) ?_
  rintro _ H23 ⟨o1a_23,o1n_23,o1c_23,o1k_23,rfl,rfl,w23,s23,f23_0⟩
  obtain ⟨w24,s24⟩:=W.frame1 w20 w23 s23
  refine br (br (br (br (br ?_))))
  refine aM w24 5 λH25 w25 s25=>?_
  refine aM w25 5 λH26 w26 s26=>?_
  refine aM w26 4 λH27 w27 s27=>?_
  refine aM w27 4 λH28 w28 s28=>?_
  refine kH ⟨⟨(cH (bL (w26.ld (i:=3) rfl rfl)) (cH (ck (w26.ld (i:=3) rfl rfl)) (es _ _))),(cH (bL (w24.ld (i:=3) rfl rfl)) (cH (ck (w24.ld (i:=3) rfl rfl)) (es _ _))),(cH (bL (w12.ld (i:=1) rfl rfl)) (cH (ck (w12.ld (i:=1) rfl rfl)) (es _ _))),trivial⟩,trivial⟩ ?_
  refine lI w28 5 ?_
  refine lSl w28 5 ?_
  refine lI w28 4 ?_
  refine lSl w28 4 ?_
  obtain ⟨w29,s29⟩:=w28.pp [0,1] 6
  dsimp only [pk,pks,nth,List.drop,List.set,List.eraseIdx] at w29 s8 s9 s10 s20 s25 s26 s27 s28 s29
  exact aJ hp ⟨_,_,_,_,_,_,_,_,rfl,rfl,rfl,w29,(s0.trans (s1.trans (s2.trans (s4.trans (s6.trans (s7.trans (s8.trans (s9.trans (s10.trans (s12.trans (s20.trans (s24.trans (s25.trans (s26.trans (s27.trans (s28.trans s29)))))))))))))))),(f6_0.step (s7.trans (s8.trans (s9.trans (s10.trans (s12.trans (s20.trans (s24.trans (s25.trans (s26.trans (s27.trans (s28.trans s29)))))))))))),((CR.flat (gC .i64) f23_0).step (s25.trans (s26.trans (s27.trans (s28.trans s29)))))⟩
def dV.Q (H0:Hp) (Ri R0:VJ)  (r:Bool) (v:AV) (H':Hp):Prop:=v=(.bool r)/\Out H0 Ri H' (R0) λR=>True
def dV.p (F:Nat) (aa:Int) (av:Int) (fk:Int):Option (Bool):=(bif (decide (av<=aa)) then (some (decide (aa<=fk))) else (some false))
theorem dV.P {aa av fk}  (h0:Inn H R0 λR=>True) {r:Bool} (hp:dV.p F aa av fk=some r):Rt (dV.tw F aa av fk H) (dV.Q H R0 R0  r):=by
 obtain ⟨w0,_⟩:=h0
 unfold dV.p at hp
 unfold dV.tw dV.twX
 have s0:=w0.rf
 refine aE hp (λhp=>?_) λhp=>?_
 ·exact aJ hp ⟨rfl,w0,s0,trivial⟩
 ·exact aJ hp ⟨rfl,w0,s0,trivial⟩
def dW.Q (H0:Hp) (Ri R0:VJ)  (r:Bool) (v:AV) (H':Hp):Prop:=v=(.bool r)/\Out H0 Ri H' (R0) λR=>True
def dW.p (F:Nat) (aa:Int) (av:Int):Option (Bool):=(bif (av != 0) then ((dV.p F av (wrap .i64 (1 - aa)) (wrap .i64 (aa - 1))).bind λr1=>some r1) else (some false))
theorem dW.P {aa av}  (h0:Inn H R0 λR=>True) {r:Bool} (hp:dW.p F aa av=some r):Rt (dW.tw F aa av H) (dW.Q H R0 R0  r):=by
 obtain ⟨w0,_⟩:=h0
 unfold dW.p at hp
 unfold dW.tw dW.twX
 have s0:=w0.rf
 refine aE hp (λhp=>?_) λhp=>?_
 ·obtain ⟨r1,e1,hp⟩:=ae hp
  refine aG (dV.P ⟨w0,trivial⟩ e1) ?_
  rintro _ H2 ⟨rfl,w2,s2,_⟩
  refine br ?_
  exact aJ hp ⟨rfl,w2,(s0.trans s2),trivial⟩
 ·exact aJ hp ⟨rfl,w0,s0,trivial⟩
def dQ.Q (H0:Hp) (Ri R0:VJ) (dR:Int) (fA:Sl) (av:Nat) (r:Bool) (v:AV) (H':Hp):Prop:=v=(.bool r)/\Out H0 Ri H' (Rs.blk av [.i dR,.sl fA]::R0) λR=>True
def dQ.p (F:Nat) (aa:Int) (dR:Int):Option (Bool):=(dW.p F dR aa).bind λr1=>some (!r1)
theorem dQ.P {aa dR fA av}  (h0:Inn H (Rs.blk av [.i dR,.sl fA]::R0) λR=>True) {r:Bool} (hp:dQ.p F aa dR=some r):Rt (dQ.tw F aa av 0 H) (dQ.Q H (Rs.blk av [.i dR,.sl fA]::R0) R0 dR fA av r):=by
 obtain ⟨w0,_⟩:=h0
 unfold dQ.p at hp
 unfold dQ.tw dQ.twX
 have s0:=w0.rf
 refine lI w0 0 ?_
 obtain ⟨r1,e1,hp⟩:=ae hp
 refine aG (dW.P ⟨w0,trivial⟩ e1) ?_
 rintro _ H2 ⟨rfl,w2,s2,_⟩
 refine br ?_
 exact aJ hp ⟨rfl,w2,(s0.trans s2),trivial⟩
def bS.Q (H0:Hp) (Ri R0:VJ) (dR:Int) (fA:Sl) (av:Nat) (r:Int) (v:AV) (H':Hp):Prop:=v=(.i r)/\Out H0 Ri H' (Rs.blk av [.i dR,.sl fA]::R0) λR=>True
def bS.S13 (H0:Hp) (Ri R0:VJ) (jP:Int) (tC:Sl) (oh:Nat) (C:Sl->Nat->Nat->Int->Int->Hp->OA) (pC:List Int->Int->Int->Int->Option (Int)):Prop:=∀ {kw jm kx ed ib fL},∀ {H:Hp},jm=ed.length->(Out H0 Ri H (Rs.blk oh [.i jP,.sl tC]::R0) λR=>ROs eI H R ⟨kw,jm,kx⟩ ed)->∀ {r:Int},pC ed jP ib fL=some r->Rt (C ⟨kw,jm,kx⟩ oh 0 ib fL H) (bS.Q H0 Ri R0 jP tC oh r)
def bS.pl13 (F:Nat) :Nat->List Int->Int->Int->Int->Option (Int)
 | 0,_,_,_,_=>none
 | k+1,ed,jP,ib,fL=>(bif (decide (fL<ib)) then ((ix ed fL).bind λn1=>(dQ.p F (gt ed n1) jP).bind λr2=>(bif r2 then (some fL) else (bS.pl13 F k ed jP ib (wrap .i64 (fL+1))))) else (some (-1)))
theorem bS.l13_P {jP tC oh} :∀ k,bS.S13 H0 Ri R0 jP tC oh (bS.l13 F (dQ.tw F)  k) (bS.pl13 F  k):=by
 intro k
 induction k with
 | zero=>unfold bS.S13;intros;rename_i hp;cases hp
 | succ k ih=>
  intro kw jm kx ed ib fL H wS h0 r hp
  obtain ⟨w0,s0,jQ⟩:=h0
  subst wS
  unfold bS.pl13 at hp
  unfold bS.l13
  refine aE hp (λhp=>?_) λhp=>?_
  ·obtain ⟨n1,g1,hp⟩:=ae hp
   obtain ⟨p1,q1,i1,h1,j1⟩:=ROs.ixr jQ rfl g1
   refine ai i1 ?_
   have h1:_=[_]:=h1
   subst h1
   refine ai (bL (j1 0 _ rfl)) ?_
   obtain ⟨r2,e2,hp⟩:=ae hp
   refine aG (dQ.P ⟨w0,trivial⟩ e2) ?_
   rintro _ H3 ⟨rfl,w3,s3,_⟩
   refine br ?_
   refine aE hp (λhp=>?_) λhp=>?_
   ·exact aJ hp ⟨rfl,w3,(s0.trans s3),trivial⟩
   ·exact ih rfl ⟨w3,(s0.trans s3),(jQ.step s3)⟩ hp
  ·exact aJ hp ⟨rfl,w0,s0,trivial⟩
def bS.p (F:Nat) (ar:VE) (dR:Int):Option (Int):=bS.pl13 F F ar dR (ar.length:Int) 0
theorem bS.P {aY aL av aZ ar dR fA} (cq:aL=ar.length) (h0:Inn H (Rs.blk av [.i dR,.sl fA]::R0) λR=>ROs eI H R ⟨aY,aL,aZ⟩ ar) {r:Int} (hp:bS.p F ar dR=some r):Rt (bS.tw F ⟨aY,aL,aZ⟩ av 0 H) (bS.Q H (Rs.blk av [.i dR,.sl fA]::R0) R0 dR fA av r):=by
 obtain ⟨w0,cj⟩:=h0
 subst cq
 unfold bS.p at hp
 unfold bS.tw bS.twX
 have s0:=w0.rf
 exact bS.l13_P F rfl ⟨w0,s0,cj⟩ hp
def ee.Q (H0:Hp) (Ri R0:VJ) (dR:Int) (fA:Sl) (av:Nat) (r:Bool) (v:AV) (H':Hp):Prop:=v=(.bool r)/\Out H0 Ri H' (Rs.blk av [.i dR,.sl fA]::R0) λR=>True
def ee.p (F:Nat) (ar:VE) (dR:Int):Option (Bool):=(bS.p F ar dR).bind λr1=>some (decide (r1>=0))
theorem ee.P {aY aL av aZ ar dR fA} (cq:aL=ar.length) (h0:Inn H (Rs.blk av [.i dR,.sl fA]::R0) λR=>ROs eI H R ⟨aY,aL,aZ⟩ ar) {r:Bool} (hp:ee.p F ar dR=some r):Rt (ee.tw F ⟨aY,aL,aZ⟩ av 0 H) (ee.Q H (Rs.blk av [.i dR,.sl fA]::R0) R0 dR fA av r):=by
 obtain ⟨w0,cj⟩:=h0
 subst cq
 unfold ee.p at hp
 unfold ee.tw ee.twX
 have s0:=w0.rf
 obtain ⟨r1,e1,hp⟩:=ae hp
 refine aG (bS.P rfl ⟨w0,cj⟩ e1) ?_
 rintro _ H2 ⟨rfl,w2,s2,_⟩
 refine br ?_
 exact aJ hp ⟨rfl,w2,(s0.trans s2),trivial⟩
def b_.Q (H0:Hp) (Ri R0:VJ)  (r:Bool) (v:AV) (H':Hp):Prop:=v=(.bool r)/\Out H0 Ri H' (R0) λR=>True
def b_.p (F:Nat) (aa:Int) (aW:VE):Option (Bool):=(dV.p F aa 1 6).bind λr2=>(bif r2 then ((bif (decide ((aW.length:Int)<=24)) then ((ee.p F aW aa).bind λr4=>some (!r4)) else (some false))) else (some false))
theorem b_.P {aa cY ct cZ aW} (eD:ct=aW.length) (h0:Inn H R0 λR=>ROs eI H R ⟨cY,ct,cZ⟩ aW) {r:Bool} (hp:b_.p F aa aW=some r):Rt (b_.tw F aa ⟨cY,ct,cZ⟩ H) (b_.Q H R0 R0  r):=by
 obtain ⟨w0,dG⟩:=h0
 subst eD
 unfold b_.p at hp
 unfold b_.tw b_.twX
 have s0:=w0.rf
 refine cg w0 λH1 w1 s1=>?_
 refine lI w1 0 ?_
 obtain ⟨r2,e2,hp⟩:=ae hp
 refine aG (dV.P ⟨w1,trivial⟩ e2) ?_
 rintro _ H3 ⟨rfl,w3,s3,_⟩
 refine br ?_
 refine aE hp (λhp=>?_) λhp=>?_
 ·refine lSl w3 0 ?_
  refine aE hp (λhp=>?_) λhp=>?_
  ·refine lSl w3 0 ?_
   obtain ⟨r4,e4,hp⟩:=ae hp
   refine aG (ee.P rfl ⟨w3,(dG.step (s1.trans s3))⟩ e4) ?_
   rintro _ H5 ⟨rfl,w5,s5,_⟩
   refine br ?_
   obtain ⟨w6,s6⟩:=w5.pp [] 1
   exact aJ hp ⟨rfl,w6,(s0.trans (s1.trans (s3.trans (s5.trans s6)))),trivial⟩
  ·obtain ⟨w7,s7⟩:=w3.pp [] 1
   exact aJ hp ⟨rfl,w7,(s0.trans (s1.trans (s3.trans s7))),trivial⟩
 ·obtain ⟨w8,s8⟩:=w3.pp [] 1
  exact aJ hp ⟨rfl,w8,(s0.trans (s1.trans (s3.trans s8))),trivial⟩
def bc.Q (H0:Hp) (Ri R0:VJ)  (r:VE) (v:AV) (H':Hp):Prop:=∃ o0a:ON,∃ o0n:Nat,∃ o0c:Cap,∃ o0k:List AV,v=(.sl ⟨o0a,o0n,o0c⟩)/\o0n=(r).length/\Out H0 Ri H' (Rs.own ⟨o0a,o0n,o0c⟩ eI.z o0k::R0) λR=>CR eI H' R o0k (r)
def bc.S29 (H0:Hp) (Ri R0:VJ)  (C:Sl->Int->Int->Hp->OA) (pC:Wy):Prop:=∀ {wT tD wU ky wV ic fM},∀ {H:Hp},tD=ky.length->(Out H0 Ri H (Rs.own ⟨wT,tD,wU⟩ eI.z wV::R0) λR=>CR eI H R wV ky)->∀ {r:VE},pC ky ic fM=some r->Rt (C ⟨wT,tD,wU⟩ ic fM H) (bc.Q H0 Ri R0  r)
def bc.pl29 (F:Nat) :Nat->List Int->Int->Int->Option (List Int)
 | 0,_,_,_=>none
 | k+1,ky,ic,fM=>(bif (decide (fM<ic)) then ((apn ky ([fM]:List Int)).bind λl2=>bc.pl29 F k l2 ic (wrap .i64 (fM+1))) else (some ky))
theorem bc.l29_P  :∀ k,bc.S29 H0 Ri R0  (bc.l29 F   k) (bc.pl29 F  k):=by
 intro k
 induction k with
 | zero=>unfold bc.S29;intros;rename_i hp;cases hp
 | succ k ih=>
  intro wT tD wU ky wV ic fM H Qy h0 r hp
  obtain ⟨w0,s0,EU⟩:=h0
  subst Qy
  unfold bc.pl29 at hp
  unfold bc.l29
  refine aE hp (λhp=>?_) λhp=>?_
  ·refine er eI w0 (n:=1) (l:=([fM]:List Int)) rfl (CR.cons1 rfl CR.empty) rfl λH1 w1 s1 c1=>?_
   refine ai (w1.rowo (i:=0) rfl) ?_
   obtain ⟨l2,e2,hp⟩:=ae hp
   refine fj eI w1 (i:=1) rfl rfl (EU.step s1) c1 (show 1=List.length ([fM]:List Int) from rfl) rfl e2 λa3 d3 H3 w3 s3 c3 x3=>?_
   obtain ⟨w4,s4⟩:=w3.pp [1] 2
   exact ih rfl ⟨w4,(s0.trans (s1.trans (s3.trans s4))),(c3.step s4)⟩ hp
  ·exact aJ hp ⟨_,_,_,_,rfl,rfl,w0,s0,EU⟩
def bc.p (F:Nat) (aa:Int):Option (List Int):=bc.pl29 F F ([]:List Int) aa 0
theorem bc.P {aa}  (h0:Inn H R0 λR=>True) {r:VE} (hp:bc.p F aa=some r):Rt (bc.tw F aa H) (bc.Q H R0 R0  r):=by
 obtain ⟨w0,_⟩:=h0
 unfold bc.p at hp
 unfold bc.tw bc.twX
 have s0:=w0.rf
 obtain ⟨w1,s1⟩:=w0.nilS eI.z (by decide)
 exact bc.l29_P F rfl ⟨w1,(s0.trans s1),(CR.empty:CR eI _ _ [] [])⟩ hp
def db.Q (H0:Hp) (Ri R0:VJ)  (r:Int) (v:AV) (H':Hp):Prop:=v=(.i r)/\Out H0 Ri H' (R0) λR=>True
def db.p (F:Nat) (ar:VE):Option (Int):=some (ar.length:Int)
theorem db.P {aY aL aZ ar} (cq:aL=ar.length) (h0:Inn H R0 λR=>ROs eI H R ⟨aY,aL,aZ⟩ ar) {r:Int} (hp:db.p F ar=some r):Rt (db.tw F ⟨aY,aL,aZ⟩ H) (db.Q H R0 R0  r):=by
 obtain ⟨w0,cj⟩:=h0
 subst cq
 unfold db.p at hp
 unfold db.tw db.twX
 have s0:=w0.rf
 exact aJ hp ⟨rfl,w0,s0,trivial⟩
def bx.Q (H0:Hp) (Ri R0:VJ)  (r:VE) (v:AV) (H':Hp):Prop:=∃ o0a:ON,∃ o0n:Nat,∃ o0c:Cap,∃ o0k:List AV,v=(.sl ⟨o0a,o0n,o0c⟩)/\o0n=(r).length/\Out H0 Ri H' (Rs.own ⟨o0a,o0n,o0c⟩ eI.z o0k::R0) λR=>CR eI H' R o0k (r)
def bx.S61 (H0:Hp) (Ri R0:VJ)  (C:Int->Sl->Sl->Int->Int->Hp->OA) (pC:Int->List Int->List Int->Int->Int->Option (List Int)):Prop:=∀ {ef ig fN wW wX tE tF wY wZ jR jS w_},∀ {H:Hp},tE=jR.length->tF=jS.length->(Out H0 Ri H (Rs.own ⟨wW,tE,wY⟩ eI.z w_::R0) λR=>CR eI H R w_ jR/\ROs eI H R ⟨wX,tF,wZ⟩ jS)->∀ {r:VE},pC ef jR jS ig fN=some r->Rt (C ef ⟨wW,tE,wY⟩ ⟨wX,tF,wZ⟩ ig fN H) (bx.Q H0 Ri R0  r)
def bx.pl61 (F:Nat) :Nat->Int->List Int->List Int->Int->Int->Option (List Int)
 | 0,_,_,_,_,_=>none
 | k+1,ef,jR,jS,ig,fN=>(bif (decide (fN<ig)) then ((ix jS fN).bind λn1=>(ix jR (wrap .i64 (ef - fN))).bind λn2=>(some (jR.set n2 (wrap .i64 (ef - (gt jS n1))))).bind λl3=>bx.pl61 F k ef l3 jS ig (wrap .i64 (fN+1))) else (some jR))
theorem bx.l61_P  :∀ k,bx.S61 H0 Ri R0  (bx.l61 F (db.tw F)  k) (bx.pl61 F  k):=by
 intro k
 induction k with
 | zero=>unfold bx.S61;intros;rename_i hp;cases hp
 | succ k ih=>
  intro ef ig fN wW wX tE tF wY wZ jR jS w_ H Qz QA h0 r hp
  obtain ⟨w0,s0,xa,EV⟩:=h0
  subst Qz
  subst QA
  unfold bx.pl61 at hp
  unfold bx.l61
  refine aE hp (λhp=>?_) λhp=>?_
  ·obtain ⟨n1,g1,hp⟩:=ae hp
   obtain ⟨p1,q1,i1,h1,j1⟩:=ROs.ixr EV rfl g1
   refine ai i1 ?_
   have h1:_=[_]:=h1
   subst h1
   refine ai (bL (j1 0 _ rfl)) ?_
   obtain ⟨n2,g2,hp⟩:=ae hp
   obtain ⟨p2,q2,i2,h2,j2⟩:=W.ixo (E:=eI) w0 (i:=0) rfl rfl xa g2
   refine ai i2 ?_
   obtain ⟨l3,e3,hp⟩:=ae hp
   refine dd eI w0 (i:=0) (j:=0) (p:=p2) rfl rfl xa g2 i2 e3 rfl rfl (λ_ h=>by have h:_=[_]:=h;subst h;exact rfl) λH4 k4 w4 s4 c4=>?_
   exact ih ((cT e3).symm) rfl ⟨w4,(s0.trans s4),c4,(EV.step s4)⟩ hp
  ·exact aJ hp ⟨_,_,_,_,rfl,rfl,w0,s0,xa⟩
def bx.p (F:Nat) (ar:VE):Option (List Int):=(db.p F ar).bind λr1=>(mkn (ar.length:Int) (0:Int)).bind λl3=>bx.pl61 F F (wrap .i64 (r1 - 1)) l3 ar (ar.length:Int) 0
theorem bx.P {aY aL aZ ar} (cq:aL=ar.length) (h0:Inn H R0 λR=>ROs eI H R ⟨aY,aL,aZ⟩ ar) {r:VE} (hp:bx.p F ar=some r):Rt (bx.tw F ⟨aY,aL,aZ⟩ H) (bx.Q H R0 R0  r):=by
 obtain ⟨w0,cj⟩:=h0
 subst cq
 unfold bx.p at hp
 unfold bx.tw bx.twX
 have s0:=w0.rf
 obtain ⟨r1,e1,hp⟩:=ae hp
 refine aG (db.P rfl ⟨w0,cj⟩ e1) ?_
 rintro _ H2 ⟨rfl,w2,s2,_⟩
 refine br ?_
 obtain ⟨l3,e3,hp⟩:=ae hp
 refine zt eI (0:Int) w2 rfl rfl rfl e3 λH4 k4 w4 s4 c4=>?_
 exact bx.l61_P F rfl rfl ⟨w4,(s0.trans (s2.trans s4)),c4,(cj.step (s2.trans s4))⟩ hp
def ch.Q (H0:Hp) (Ri R0:VJ) (aY:ON) (aL:Nat) (aZ:Cap) (fB:Bool) (fC fD:VS) (r:VE) (v:AV) (H':Hp):Prop:=∃ jT:List AV,v=(.tup [])/\aL=(r).length/\Out H0 Ri H' (Rs.ow fB ⟨aY,aL,aZ⟩ eI.z fC jT fD::R0) λR=>CR eI H' R jT (r)
def ch.S3 (H0:Hp) (Ri R0:VJ) (df:ON) (cN:Nat) (dg:Cap) (dJ:Bool) (dK dL:VS) (C:Sl->Int->Int->Hp->OA) (pC:Wy):Prop:=∀ {hG xb fO cP},∀ {H:Hp},cN=hG.length->(Out H0 Ri H (Rs.ow dJ ⟨df,cN,dg⟩ eI.z dK xb dL::R0) λR=>CR eI H R xb hG)->∀ {r:VE},pC hG fO cP=some r->Rt (C ⟨df,cN,dg⟩ fO cP H) (ch.Q H0 Ri R0 df cN dg dJ dK dL r)
def ch.pl3 (F:Nat) :Nat->List Int->Int->Int->Option (List Int)
 | 0,_,_,_=>none
 | k+1,hG,fO,cP=>(bif (decide (fO<cP)) then ((ix hG cP).bind λn1=>(ix hG fO).bind λn2=>(ix hG fO).bind λn3=>(some (hG.set n3 (gt hG n1))).bind λl4=>(ix l4 cP).bind λn6=>(some (l4.set n6 (gt hG n2))).bind λl7=>ch.pl3 F k l7 (wrap .i64 (fO+1)) (wrap .i64 (cP - 1))) else (some hG))
theorem ch.l3_P {df cN dg dJ dK dL} :∀ k,ch.S3 H0 Ri R0 df cN dg dJ dK dL (ch.l3 F   k) (ch.pl3 F  k):=by
 intro k
 induction k with
 | zero=>unfold ch.S3;intros;rename_i hp;cases hp
 | succ k ih=>
  intro hG xb fO cP H QB h0 r hp
  obtain ⟨w0,s0,oq⟩:=h0
  subst QB
  unfold ch.pl3 at hp
  unfold ch.l3
  refine aE hp (λhp=>?_) λhp=>?_
  ·obtain ⟨n1,g1,hp⟩:=ae hp
   obtain ⟨p1,q1,i1,h1,j1⟩:=W.ixo (E:=eI) w0 (i:=0) rfl rfl oq g1
   refine ai i1 ?_
   have h1:_=[_]:=h1
   subst h1
   refine ai (bL (j1 0 _ rfl)) ?_
   obtain ⟨n2,g2,hp⟩:=ae hp
   obtain ⟨p2,q2,i2,h2,j2⟩:=W.ixo (E:=eI) w0 (i:=0) rfl rfl oq g2
   refine ai i2 ?_
   have h2:_=[_]:=h2
   subst h2
   refine ai (bL (j2 0 _ rfl)) ?_
   obtain ⟨n3,g3,hp⟩:=ae hp
   obtain ⟨p3,q3,i3,h3,j3⟩:=W.ixo (E:=eI) w0 (i:=0) rfl rfl oq g3
   refine ai i3 ?_
   obtain ⟨l4,e4,hp⟩:=ae hp
   refine dd eI w0 (i:=0) (j:=0) (p:=p3) rfl rfl oq g3 i3 e4 rfl rfl (λ_ h=>by have h:_=[_]:=h;subst h;exact rfl) λH5 k5 w5 s5 c5=>?_
   obtain ⟨n6,g6,hp⟩:=ae hp
   obtain ⟨p6,q6,i6,h6,j6⟩:=W.ixo (E:=eI) w5 (i:=0) rfl rfl c5 g6
   refine ai i6 ?_
   obtain ⟨l7,e7,hp⟩:=ae hp
   refine dd eI w5 (i:=0) (j:=0) (p:=p6) rfl rfl c5 g6 i6 e7 rfl rfl (λ_ h=>by have h:_=[_]:=h;subst h;exact rfl) λH8 k8 w8 s8 c8=>?_
   exact ih ((cT e4).symm.trans (cT e7).symm) ⟨w8,(s0.trans (s5.trans s8)),c8⟩ hp
  ·exact aJ hp ⟨_,rfl,rfl,w0,s0,oq⟩
def ch.p (F:Nat) (ar:VE):Option (List Int):=ch.pl3 F F ar 0 (wrap .i64 ((ar.length:Int) - 1))
theorem ch.P {aY aL aZ ar fB fC fD iz} (cq:aL=ar.length) (h0:Inn H (Rs.ow fB ⟨aY,aL,aZ⟩ eI.z fC iz fD::R0) λR=>CR eI H R iz ar) {r:VE} (hp:ch.p F ar=some r):Rt (ch.tw F ⟨aY,aL,aZ⟩ H) (ch.Q H (Rs.ow fB ⟨aY,aL,aZ⟩ eI.z fC iz fD::R0) R0 aY aL aZ fB fC fD r):=by
 obtain ⟨w0,cj⟩:=h0
 subst cq
 unfold ch.p at hp
 unfold ch.tw ch.twX
 have s0:=w0.rf
 exact ch.l3_P F rfl ⟨w0,s0,cj⟩ hp
def cy.Q (H0:Hp) (Ri R0:VJ)  (r:VE) (v:AV) (H':Hp):Prop:=∃ o0a:ON,∃ o0n:Nat,∃ o0c:Cap,∃ o0k:List AV,v=(.sl ⟨o0a,o0n,o0c⟩)/\o0n=(r).length/\Out H0 Ri H' (Rs.own ⟨o0a,o0n,o0c⟩ eI.z o0k::R0) λR=>CR eI H' R o0k (r)
def cy.p (F:Nat) (aa:Int):Option (List Int):=(bc.p F aa).bind λr1=>(ch.p F r1).bind λr3=>some r3
theorem cy.P {aa}  (h0:Inn H R0 λR=>True) {r:VE} (hp:cy.p F aa=some r):Rt (cy.tw F aa H) (cy.Q H R0 R0  r):=by
 obtain ⟨w0,_⟩:=h0
 unfold cy.p at hp
 unfold cy.tw cy.twX
 have s0:=w0.rf
 obtain ⟨r1,e1,hp⟩:=ae hp
 refine aG (bc.P ⟨w0,trivial⟩ e1) ?_
 rintro _ H2 ⟨o0a_2,o0n_2,o0c_2,o0k_2,rfl,rfl,w2,s2,f2_0⟩
 refine br ?_
 obtain ⟨r3,e3,hp⟩:=ae hp
 refine aG (ch.P rfl ⟨w2,f2_0⟩ e3) ?_
 rintro _ H4 ⟨UV,rfl,hl4_0,w4,s4,f4_0⟩
 exact aJ hp ⟨_,_,_,_,rfl,hl4_0,w4,(s0.trans (s2.trans s4)),f4_0⟩
def a_.Q (H0:Hp) (Ri R0:VJ)  (r:VE) (v:AV) (H':Hp):Prop:=∃ o0a:ON,∃ o0n:Nat,∃ o0c:Cap,∃ o0k:List AV,v=(.sl ⟨o0a,o0n,o0c⟩)/\o0n=(r).length/\Out H0 Ri H' (Rs.own ⟨o0a,o0n,o0c⟩ eI.z o0k::R0) λR=>CR eI H' R o0k (r)
def a_.S29 (H0:Hp) (Ri R0:VJ)  (C:Wl) (pC:Wz):Prop:=∀ {fY xc fh tG fZ xd dh jU f_ ii fP},∀ {H:Hp},fh=dh.length->tG=jU.length->(Out H0 Ri H (Rs.own ⟨fY,fh,fZ⟩ eI.z f_::R0) λR=>CR eI H R f_ dh/\ROs eI H R ⟨xc,tG,xd⟩ jU)->∀ {r:VE},pC dh jU ii fP=some r->Rt (C ⟨fY,fh,fZ⟩ ⟨xc,tG,xd⟩ ii fP H) (a_.Q H0 Ri R0  r)
def a_.pl29 (F:Nat) :Nat->List Int->List Int->Int->Int->Option (List Int)
 | 0,_,_,_,_=>none
 | k+1,dh,jU,ii,fP=>(bif (decide (fP<ii)) then ((ix jU fP).bind λn1=>(ix dh (gt jU n1)).bind λn2=>(some (dh.set n2 fP)).bind λl3=>a_.pl29 F k l3 jU ii (wrap .i64 (fP+1))) else (some dh))
theorem a_.l29_P  :∀ k,a_.S29 H0 Ri R0  (a_.l29 F   k) (a_.pl29 F  k):=by
 intro k
 induction k with
 | zero=>unfold a_.S29;intros;rename_i hp;cases hp
 | succ k ih=>
  intro fY xc fh tG fZ xd dh jU f_ ii fP H kz QC h0 r hp
  obtain ⟨w0,s0,gQ,EW⟩:=h0
  subst kz
  subst QC
  unfold a_.pl29 at hp
  unfold a_.l29
  refine aE hp (λhp=>?_) λhp=>?_
  ·obtain ⟨n1,g1,hp⟩:=ae hp
   obtain ⟨p1,q1,i1,h1,j1⟩:=ROs.ixr EW rfl g1
   refine ai i1 ?_
   have h1:_=[_]:=h1
   subst h1
   refine ai (bL (j1 0 _ rfl)) ?_
   obtain ⟨n2,g2,hp⟩:=ae hp
   obtain ⟨p2,q2,i2,h2,j2⟩:=W.ixo (E:=eI) w0 (i:=0) rfl rfl gQ g2
   refine ai i2 ?_
   obtain ⟨l3,e3,hp⟩:=ae hp
   refine dd eI w0 (i:=0) (j:=0) (p:=p2) rfl rfl gQ g2 i2 e3 rfl rfl (λ_ h=>by have h:_=[_]:=h;subst h;exact rfl) λH4 k4 w4 s4 c4=>?_
   exact ih ((cT e3).symm) rfl ⟨w4,(s0.trans s4),c4,(EW.step s4)⟩ hp
  ·exact aJ hp ⟨_,_,_,_,rfl,rfl,w0,s0,gQ⟩
def a_.p (F:Nat) (ar:VE):Option (List Int):=(mkn (ar.length:Int) (0:Int)).bind λl1=>a_.pl29 F F l1 ar (ar.length:Int) 0
theorem a_.P {aY aL aZ ar} (cq:aL=ar.length) (h0:Inn H R0 λR=>ROs eI H R ⟨aY,aL,aZ⟩ ar) {r:VE} (hp:a_.p F ar=some r):Rt (a_.tw F ⟨aY,aL,aZ⟩ H) (a_.Q H R0 R0  r):=by
 obtain ⟨w0,cj⟩:=h0
 subst cq
 unfold a_.p at hp
 unfold a_.tw a_.twX
 have s0:=w0.rf
 obtain ⟨l1,e1,hp⟩:=ae hp
 refine zt eI (0:Int) w0 rfl rfl rfl e1 λH2 k2 w2 s2 c2=>?_
 exact a_.l29_P F rfl rfl ⟨w2,(s0.trans s2),c2,(cj.step s2)⟩ hp
def cE.Q (H0:Hp) (Ri R0:VJ)  (r:Int) (v:AV) (H':Hp):Prop:=v=(.i r)/\Out H0 Ri H' (R0) λR=>True
def cE.p (F:Nat) (aa:Int):Option (Int):=(bif (decide (aa<0)) then (some (wrap .i64 (0 - aa))) else (some aa))
theorem cE.P {aa}  (h0:Inn H R0 λR=>True) {r:Int} (hp:cE.p F aa=some r):Rt (cE.tw F aa H) (cE.Q H R0 R0  r):=by
 obtain ⟨w0,_⟩:=h0
 unfold cE.p at hp
 unfold cE.tw cE.twX
 have s0:=w0.rf
 refine aE hp (λhp=>?_) λhp=>?_
 ·exact aJ hp ⟨rfl,w0,s0,trivial⟩
 ·exact aJ hp ⟨rfl,w0,s0,trivial⟩
def bP.Q (H0:Hp) (Ri R0:VJ) (aY:ON) (aL:Nat) (aZ:Cap) (fB:Bool) (fC fD:VS) (r:VE) (v:AV) (H':Hp):Prop:=∃ jT:List AV,v=(.tup [])/\aL=(r).length/\Out H0 Ri H' (Rs.ow fB ⟨aY,aL,aZ⟩ eI.z fC jT fD::R0) λR=>CR eI H' R jT (r)
def bP.p (F:Nat) (ar:VE) (av:Int):Option (List Int):=(ix ar av).bind λn1=>(ix ar (wrap .i64 (av - 1))).bind λn2=>(ix ar (wrap .i64 (av - 1))).bind λn3=>(some (ar.set n3 (gt ar n1))).bind λl4=>(ix l4 av).bind λn6=>(some (l4.set n6 (gt ar n2))).bind λl7=>some l7
theorem bP.P {aY aL aZ ar fB fC fD iz av} (cq:aL=ar.length) (h0:Inn H (Rs.ow fB ⟨aY,aL,aZ⟩ eI.z fC iz fD::R0) λR=>CR eI H R iz ar) {r:VE} (hp:bP.p F ar av=some r):Rt (bP.tw F ⟨aY,aL,aZ⟩ av H) (bP.Q H (Rs.ow fB ⟨aY,aL,aZ⟩ eI.z fC iz fD::R0) R0 aY aL aZ fB fC fD r):=by
 obtain ⟨w0,cj⟩:=h0
 subst cq
 unfold bP.p at hp
 unfold bP.tw bP.twX
 have s0:=w0.rf
 obtain ⟨n1,g1,hp⟩:=ae hp
 obtain ⟨p1,q1,i1,h1,j1⟩:=W.ixo (E:=eI) w0 (i:=0) rfl rfl cj g1
 refine ai i1 ?_
 have h1:_=[_]:=h1
 subst h1
 refine ai (bL (j1 0 _ rfl)) ?_
 obtain ⟨n2,g2,hp⟩:=ae hp
 obtain ⟨p2,q2,i2,h2,j2⟩:=W.ixo (E:=eI) w0 (i:=0) rfl rfl cj g2
 refine ai i2 ?_
 have h2:_=[_]:=h2
 subst h2
 refine ai (bL (j2 0 _ rfl)) ?_
 obtain ⟨n3,g3,hp⟩:=ae hp
 obtain ⟨p3,q3,i3,h3,j3⟩:=W.ixo (E:=eI) w0 (i:=0) rfl rfl cj g3
 refine ai i3 ?_
 obtain ⟨l4,e4,hp⟩:=ae hp
 refine dd eI w0 (i:=0) (j:=0) (p:=p3) rfl rfl cj g3 i3 e4 rfl rfl (λ_ h=>by have h:_=[_]:=h;subst h;exact rfl) λH5 k5 w5 s5 c5=>?_
 obtain ⟨n6,g6,hp⟩:=ae hp
 obtain ⟨p6,q6,i6,h6,j6⟩:=W.ixo (E:=eI) w5 (i:=0) rfl rfl c5 g6
 refine ai i6 ?_
 obtain ⟨l7,e7,hp⟩:=ae hp
 refine dd eI w5 (i:=0) (j:=0) (p:=p6) rfl rfl c5 g6 i6 e7 rfl rfl (λ_ h=>by have h:_=[_]:=h;subst h;exact rfl) λH8 k8 w8 s8 c8=>?_
 exact aJ hp ⟨_,rfl,((cT e4).symm.trans (cT e7).symm),w8,(s0.trans (s5.trans s8)),c8⟩
def aB.Q (H0:Hp) (Ri R0:VJ) (aY eV:ON) (aL dw:Nat) (aZ eW:Cap) (fB ou:Bool) (fC fD ov ox:VS) (r:Wf) (v:AV) (H':Hp):Prop:=∃ jT:List AV,∃ EY:List AV,v=(.bool r.1)/\aL=(r.2.1).length/\dw=(r.2.2).length/\Out H0 Ri H' (Rs.ow fB ⟨aY,aL,aZ⟩ eI.z fC jT fD::Rs.ow ou ⟨eV,dw,eW⟩ eI.z ov EY ox::R0) λR=>CR eI H' R jT (r.2.1)/\CR eI H' R EY (r.2.2)
def aB.S29 (H0:Hp) (Ri R0:VJ) (df dM:ON) (cN dj:Nat) (dg dN:Cap) (dJ eL:Bool) (dK dL eM eN:VS) (C:Wc) (pC:Wg):Prop:=∀ {bp cC xe xf ij jb},∀ {H:Hp},cN=bp.length->dj=cC.length->(Out H0 Ri H (Rs.ow dJ ⟨df,cN,dg⟩ eI.z dK xe dL::Rs.ow eL ⟨dM,dj,dN⟩ eI.z eM xf eN::R0) λR=>CR eI H R xe bp/\CR eI H R xf cC)->∀ {r:Wf},pC bp cC ij jb=some r->Rt (C ⟨df,cN,dg⟩ ⟨dM,dj,dN⟩ ij jb H) (aB.Q H0 Ri R0 df dM cN dj dg dN dJ eL dK dL eM eN r)
def aB.S943 (H0:Hp) (Ri R0:VJ) (df dM:ON) (cN dj:Nat) (dg dN:Cap) (dJ eL:Bool) (dK dL eM eN:VS) (C:Wp) (pC:Wu):Prop:=∀ {iR gR hO xg xh xi gF gG xj tH xk dy},∀ {H:Hp},cN=iR.length->dj=gR.length->tH=hO.length->(Out H0 Ri H (Rs.ow dJ ⟨df,cN,dg⟩ eI.z dK xg dL::Rs.ow eL ⟨dM,dj,dN⟩ eI.z eM xh eN::Rs.own ⟨xj,tH,xk⟩ eI.z xi::R0) λR=>CR eI H R xg iR/\CR eI H R xh gR/\CR eI H R xi hO)->∀ {r:Wf},pC iR gR gF gG hO dy=some r->Rt (C ⟨df,cN,dg⟩ ⟨dM,dj,dN⟩ gF gG ⟨xj,tH,xk⟩ dy H) (aB.Q H0 Ri R0 df dM cN dj dg dN dJ eL dK dL eM eN r)
def aB.pj8 (F:Nat) (tI:Wu) (oy:VE) (oz:VE) (lY:Bool) (lZ:Bool) (oA:VE) (l_:Int):Option (Bool×List Int×List Int):=tI oy oz lY lZ oA (wrap .i64 (l_+1))
theorem aB.j8_P {df dM cN dj dg dN dJ eL dK dL eM eN} {C943_:Wp} {tI:Wu} (hC943:aB.S943 H0 Ri R0 df dM cN dj dg dN dJ eL dK dL eM eN C943_ tI) {oy oz oA EZ E_ Fa lY lZ Fb xl Fc l_} (QD:cN=oy.length) (QE:dj=oz.length) (QF:xl=oA.length) (h0:Out H0 Ri H (Rs.ow dJ ⟨df,cN,dg⟩ eI.z dK EZ dL::Rs.ow eL ⟨dM,dj,dN⟩ eI.z eM E_ eN::Rs.own ⟨Fb,xl,Fc⟩ eI.z Fa::R0) λR=>CR eI H R EZ oy/\CR eI H R E_ oz/\CR eI H R Fa oA) {r:Wf} (hp:aB.pj8 F tI oy oz lY lZ oA l_=some r):Rt (aB.j8 F (a_.tw F) (db.tw F) (bP.tw F) C943_ ⟨df,cN,dg⟩ ⟨dM,dj,dN⟩ lY lZ ⟨Fb,xl,Fc⟩ l_ H) (aB.Q H0 Ri R0 df dM cN dj dg dN dJ eL dK dL eM eN r):=by
 obtain ⟨w0,s0,QG,QH,QI⟩:=h0
 subst QD
 subst QE
 subst QF
 unfold aB.pj8 at hp
 unfold aB.j8
 exact hC943 rfl rfl rfl ⟨w0,s0,QG,QH,QI⟩ hp
def aB.pj6 (F:Nat) (az:Wg) (oB:VE) (oC:VE) (lU:Bool) (lV:Bool):Option (Bool×List Int×List Int):=az oB oC lU lV
theorem aB.j6_P {df dM cN dj dg dN dJ eL dK dL eM eN} {C29_:Wc} {az:Wg} (hC29:aB.S29 H0 Ri R0 df dM cN dj dg dN dJ eL dK dL eM eN C29_ az) {oB oC Fe Ff lU lV} (QJ:cN=oB.length) (QK:dj=oC.length) (h0:Out H0 Ri H (Rs.ow dJ ⟨df,cN,dg⟩ eI.z dK Fe dL::Rs.ow eL ⟨dM,dj,dN⟩ eI.z eM Ff eN::R0) λR=>CR eI H R Fe oB/\CR eI H R Ff oC) {r:Wf} (hp:aB.pj6 F az oB oC lU lV=some r):Rt (aB.j6 F (a_.tw F) (db.tw F) (bP.tw F) C29_ ⟨df,cN,dg⟩ ⟨dM,dj,dN⟩ lU lV H) (aB.Q H0 Ri R0 df dM cN dj dg dN dJ eL dK dL eM eN r):=by
 obtain ⟨w0,s0,QL,QM⟩:=h0
 subst QJ
 subst QK
 unfold aB.pj6 at hp
 unfold aB.j6
 exact hC29 rfl rfl ⟨w0,s0,QL,QM⟩ hp
def aB.pj7 (F:Nat) (az:Wg) (oD:VE) (oE:VE) (lW:Bool) (lX:Bool):Option (Bool×List Int×List Int):=aB.pj6 F az oD oE lW lX
theorem aB.j7_P {df dM cN dj dg dN dJ eL dK dL eM eN} {C29_:Wc} {az:Wg} (hC29:aB.S29 H0 Ri R0 df dM cN dj dg dN dJ eL dK dL eM eN C29_ az) {oD oE Fg Fh lW lX} (QN:cN=oD.length) (QO:dj=oE.length) (h0:Out H0 Ri H (Rs.ow dJ ⟨df,cN,dg⟩ eI.z dK Fg dL::Rs.ow eL ⟨dM,dj,dN⟩ eI.z eM Fh eN::R0) λR=>CR eI H R Fg oD/\CR eI H R Fh oE) {r:Wf} (hp:aB.pj7 F az oD oE lW lX=some r):Rt (aB.j7 F (a_.tw F) (db.tw F) (bP.tw F) C29_ ⟨df,cN,dg⟩ ⟨dM,dj,dN⟩ lW lX H) (aB.Q H0 Ri R0 df dM cN dj dg dN dJ eL dK dL eM eN r):=by
 obtain ⟨w0,s0,QP,QQ⟩:=h0
 subst QN
 subst QO
 unfold aB.pj7 at hp
 unfold aB.j7
 exact aB.j6_P (@hC29) rfl rfl ⟨w0,s0,QP,QQ⟩ hp
def aB.pl943 (F:Nat) (az:Wg):Nat->List Int->List Int->Bool->Bool->List Int->Int->Option (Bool×List Int×List Int)
 | 0,_,_,_,_,_,_=>none
 | k+1,iR,gR,gF,gG,hO,dy=>(db.p F iR).bind λr2=>(bif (decide (dy<r2)) then ((ix gR (wrap .i64 (dy - 1))).bind λn5=>(ix gR dy).bind λn6=>(bif (decide ((gt gR n5)>(gt gR n6))) then ((ix hO (wrap .i64 (dy - 1))).bind λn7=>(ix hO dy).bind λn8=>(bif (decide ((gt hO n7)<(gt hO n8))) then ((bP.p F gR dy).bind λr10=>(bP.p F hO dy).bind λr13=>(a_.p F r13).bind λr16=>(some (cpl iR r16)).bind λl19=>aB.pj8 F (aB.pl943 F az k) l19 r10 true true r13 dy) else (aB.pj8 F (aB.pl943 F az k) iR gR gF gG hO dy))) else (aB.pl943 F az k iR gR gF gG hO (wrap .i64 (dy+1))))) else (aB.pj7 F az iR gR gF gG))
theorem aB.l943_P {df dM cN dj dg dN dJ eL dK dL eM eN} {C29_:Wc} {az:Wg} (hC29:aB.S29 H0 Ri R0 df dM cN dj dg dN dJ eL dK dL eM eN C29_ az):∀ k,aB.S943 H0 Ri R0 df dM cN dj dg dN dJ eL dK dL eM eN (aB.l943 F (a_.tw F) (db.tw F) (bP.tw F) C29_ k) (aB.pl943 F az k):=by
 intro k
 induction k with
 | zero=>unfold aB.S943;intros;rename_i hp;cases hp
 | succ k ih=>
  intro iR gR hO xg xh xi gF gG xj tH xk dy H QR QT QU h0 r hp
  obtain ⟨w0,s0,oF,mP,oG⟩:=h0
  subst QR
  subst QT
  subst QU
  unfold aB.pl943 at hp
  unfold aB.l943
  have f1:=W.borrow1 eI w0 oF
  obtain ⟨w1,s1⟩:=w0.right1
  obtain ⟨r2,e2,hp⟩:=ae hp
  refine aG (db.P rfl ⟨w1,f1⟩ e2) ?_
  rintro _ H3 ⟨rfl,w3,s3,_⟩
  obtain ⟨w4,s4⟩:=W.frame1 w0 w3 s3
  refine br ?_
  refine aE hp (λhp=>?_) λhp=>?_
  ·obtain ⟨n5,g5,hp⟩:=ae hp
   obtain ⟨p5,q5,i5,h5,j5⟩:=W.ixo (E:=eI) w4 (i:=1) rfl rfl (mP.step s4) g5
   refine ai i5 ?_
   have h5:_=[_]:=h5
   subst h5
   refine ai (bL (j5 0 _ rfl)) ?_
   obtain ⟨n6,g6,hp⟩:=ae hp
   obtain ⟨p6,q6,i6,h6,j6⟩:=W.ixo (E:=eI) w4 (i:=1) rfl rfl (mP.step s4) g6
   refine ai i6 ?_
   have h6:_=[_]:=h6
   subst h6
   refine ai (bL (j6 0 _ rfl)) ?_
   refine aE hp (λhp=>?_) λhp=>?_
   ·obtain ⟨n7,g7,hp⟩:=ae hp
    obtain ⟨p7,q7,i7,h7,j7⟩:=W.ixo (E:=eI) w4 (i:=2) rfl rfl (oG.step s4) g7
    refine ai i7 ?_
    have h7:_=[_]:=h7
    subst h7
    refine ai (bL (j7 0 _ rfl)) ?_
    obtain ⟨n8,g8,hp⟩:=ae hp
    obtain ⟨p8,q8,i8,h8,j8⟩:=W.ixo (E:=eI) w4 (i:=2) rfl rfl (oG.step s4) g8
    refine ai i8 ?_
    have h8:_=[_]:=h8
    subst h8
    refine ai (bL (j8 0 _ rfl)) ?_
    refine aE hp (λhp=>?_) λhp=>?_
    ·obtain ⟨w9,s9⟩:=w4.pp [1,0,2] 3
     obtain ⟨r10,e10,hp⟩:=ae hp
     refine aG (bP.P rfl ⟨w9,(mP.step (s4.trans s9))⟩ e10) ?_
     rintro _ H11 ⟨UW,rfl,hl11_0,w11,s11,f11_0⟩
     obtain ⟨w12,s12⟩:=w11.pp [2,0,1] 3
     obtain ⟨r13,e13,hp⟩:=ae hp
     refine aG (bP.P rfl ⟨w12,(oG.step (s4.trans (s9.trans (s11.trans s12))))⟩ e13) ?_
     rintro _ H14 ⟨UX,rfl,hl14_0,w14,s14,f14_0⟩
     have f15:=W.borrow1 eI w14 f14_0
     obtain ⟨w15,s15⟩:=w14.right1
     obtain ⟨r16,e16,hp⟩:=ae hp
     refine aG (a_.P hl14_0 ⟨w15,f15⟩ e16) ?_
     rintro _ H17 ⟨o0a_17,o0n_17,o0c_17,o0k_17,rfl,rfl,w17,s17,f17_0⟩
     obtain ⟨w18,s18⟩:=W.frame1 w14 w17 s17
     refine br ?_
     obtain ⟨l19,e19,hp⟩:=ae hp
     refine Tq eI w18 (i:=3) rfl rfl (oF.step (s4.trans (s9.trans (s11.trans (s12.trans (s14.trans s18)))))) (w18.rowo (i:=1) rfl) (CR.flat (gC .i64) f17_0) rfl rfl e19 λk20 H20 w20 s20 c20=>?_
     obtain ⟨w21,s21⟩:=w20.pp [3,2,0] 4
     exact aB.j8_P (@ih) ((Ts e19).symm) hl11_0 hl14_0 ⟨w21,(s0.trans (s4.trans (s9.trans (s11.trans (s12.trans (s14.trans (s18.trans (s20.trans s21)))))))),(c20.step s21),(f11_0.step (s12.trans (s14.trans (s18.trans (s20.trans s21))))),(f14_0.step (s18.trans (s20.trans s21)))⟩ hp
    ·exact aB.j8_P (@ih) rfl rfl rfl ⟨w4,(s0.trans s4),(oF.step s4),(mP.step s4),(oG.step s4)⟩ hp
   ·exact ih rfl rfl rfl ⟨w4,(s0.trans s4),(oF.step s4),(mP.step s4),(oG.step s4)⟩ hp
  ·obtain ⟨w22,s22⟩:=w4.pp [0,1] 3
   exact aB.j7_P (@hC29) rfl rfl ⟨w22,(s0.trans (s4.trans s22)),(oF.step (s4.trans s22)),(mP.step (s4.trans s22))⟩ hp
def aB.pl29 (F:Nat) :Nat->List Int->List Int->Bool->Bool->Option (Bool×List Int×List Int)
 | 0,_,_,_,_=>none
 | k+1,bp,cC,ij,jb=>(bif jb then ((a_.p F bp).bind λr2=>aB.pl943 F (aB.pl29 F k) F bp cC ij false r2 1) else (some (ij,bp,cC)))
theorem aB.l29_P {df dM cN dj dg dN dJ eL dK dL eM eN} :∀ k,aB.S29 H0 Ri R0 df dM cN dj dg dN dJ eL dK dL eM eN (aB.l29 F (a_.tw F) (db.tw F) (bP.tw F)  k) (aB.pl29 F  k):=by
 intro k
 induction k with
 | zero=>unfold aB.S29;intros;rename_i hp;cases hp
 | succ k ih=>
  intro bp cC xe xf ij jb H gO jn h0 r hp
  obtain ⟨w0,s0,eC,gv⟩:=h0
  subst gO
  subst jn
  unfold aB.pl29 at hp
  unfold aB.l29
  refine aE hp (λhp=>?_) λhp=>?_
  ·have f1:=W.borrow1 eI w0 eC
   obtain ⟨w1,s1⟩:=w0.right1
   obtain ⟨r2,e2,hp⟩:=ae hp
   refine aG (a_.P rfl ⟨w1,f1⟩ e2) ?_
   rintro _ H3 ⟨o0a_3,o0n_3,o0c_3,o0k_3,rfl,rfl,w3,s3,f3_0⟩
   obtain ⟨w4,s4⟩:=W.frame1 w0 w3 s3
   refine br ?_
   obtain ⟨w5,s5⟩:=w4.pp [0,2,1] 3
   exact aB.l943_P (@ih) F rfl rfl rfl ⟨w5,(s0.trans (s4.trans s5)),(eC.step (s4.trans s5)),(gv.step (s4.trans s5)),((CR.flat (gC .i64) f3_0).step s5)⟩ hp
  ·exact aJ hp ⟨_,_,rfl,rfl,rfl,w0,s0,eC,gv⟩
def aB.p (F:Nat) (ar:VE) (cO:VE):Option (Bool×List Int×List Int):=aB.pl29 F F ar cO false true
theorem aB.P {aY eV aL dw aZ eW ar cO fB ou fC fD iz ov ox xm} (cq:aL=ar.length) (iA:dw=cO.length) (h0:Inn H (Rs.ow fB ⟨aY,aL,aZ⟩ eI.z fC iz fD::Rs.ow ou ⟨eV,dw,eW⟩ eI.z ov xm ox::R0) λR=>CR eI H R iz ar/\CR eI H R xm cO) {r:Wf} (hp:aB.p F ar cO=some r):Rt (aB.tw F ⟨aY,aL,aZ⟩ ⟨eV,dw,eW⟩ H) (aB.Q H (Rs.ow fB ⟨aY,aL,aZ⟩ eI.z fC iz fD::Rs.ow ou ⟨eV,dw,eW⟩ eI.z ov xm ox::R0) R0 aY eV aL dw aZ eW fB ou fC fD ov ox r):=by
 obtain ⟨w0,cj,iB⟩:=h0
 subst cq
 subst iA
 unfold aB.p at hp
 unfold aB.tw aB.twX
 have s0:=w0.rf
 exact aB.l29_P F rfl rfl ⟨w0,s0,cj,iB⟩ hp
def bv.Q (H0:Hp) (Ri R0:VJ)  (r:Bool) (v:AV) (H':Hp):Prop:=v=(.bool r)/\Out H0 Ri H' (R0) λR=>True
def bv.S29 (H0:Hp) (Ri R0:VJ)  (C:Wl) (pC:List Int->List Int->Int->Int->Option (Bool)):Prop:=∀ {en ga dr fi eo gg bp cC ik fQ},∀ {H:Hp},dr=bp.length->fi=cC.length->(Out H0 Ri H R0 λR=>ROs eI H R ⟨en,dr,eo⟩ bp/\ROs eI H R ⟨ga,fi,gg⟩ cC)->∀ {r:Bool},pC bp cC ik fQ=some r->Rt (C ⟨en,dr,eo⟩ ⟨ga,fi,gg⟩ ik fQ H) (bv.Q H0 Ri R0  r)
def bv.pl29 (F:Nat) :Nat->List Int->List Int->Int->Int->Option (Bool)
 | 0,_,_,_,_=>none
 | k+1,bp,cC,ik,fQ=>(bif (decide (fQ<ik)) then ((ix bp fQ).bind λn1=>(ix cC fQ).bind λn2=>(bif ((gt bp n1) != (gt cC n2)) then (some false) else (bv.pl29 F k bp cC ik (wrap .i64 (fQ+1))))) else (some true))
theorem bv.l29_P  :∀ k,bv.S29 H0 Ri R0  (bv.l29 F   k) (bv.pl29 F  k):=by
 intro k
 induction k with
 | zero=>unfold bv.S29;intros;rename_i hp;cases hp
 | succ k ih=>
  intro en ga dr fi eo gg bp cC ik fQ H gO jn h0 r hp
  obtain ⟨w0,s0,eC,gv⟩:=h0
  subst gO
  subst jn
  unfold bv.pl29 at hp
  unfold bv.l29
  refine aE hp (λhp=>?_) λhp=>?_
  ·obtain ⟨n1,g1,hp⟩:=ae hp
   obtain ⟨p1,q1,i1,h1,j1⟩:=ROs.ixr eC rfl g1
   refine ai i1 ?_
   have h1:_=[_]:=h1
   subst h1
   refine ai (bL (j1 0 _ rfl)) ?_
   obtain ⟨n2,g2,hp⟩:=ae hp
   obtain ⟨p2,q2,i2,h2,j2⟩:=ROs.ixr gv rfl g2
   refine ai i2 ?_
   have h2:_=[_]:=h2
   subst h2
   refine ai (bL (j2 0 _ rfl)) ?_
   refine aE hp (λhp=>?_) λhp=>?_
   ·exact aJ hp ⟨rfl,w0,s0,trivial⟩
   ·exact ih rfl rfl ⟨w0,s0,eC,gv⟩ hp
  ·exact aJ hp ⟨rfl,w0,s0,trivial⟩
def bv.p (F:Nat) (ar:VE) (cO:VE):Option (Bool):=(bif ((ar.length:Int) != (cO.length:Int)) then (some false) else (bv.pl29 F F ar cO (ar.length:Int) 0))
theorem bv.P {aY eV aL dw aZ eW ar cO} (cq:aL=ar.length) (iA:dw=cO.length) (h0:Inn H R0 λR=>ROs eI H R ⟨aY,aL,aZ⟩ ar/\ROs eI H R ⟨eV,dw,eW⟩ cO) {r:Bool} (hp:bv.p F ar cO=some r):Rt (bv.tw F ⟨aY,aL,aZ⟩ ⟨eV,dw,eW⟩ H) (bv.Q H R0 R0  r):=by
 obtain ⟨w0,cj,iB⟩:=h0
 subst cq
 subst iA
 unfold bv.p at hp
 unfold bv.tw bv.twX
 have s0:=w0.rf
 refine aE hp (λhp=>?_) λhp=>?_
 ·exact aJ hp ⟨rfl,w0,s0,trivial⟩
 ·exact bv.l29_P F rfl rfl ⟨w0,s0,cj,iB⟩ hp
def bU.Q (H0:Hp) (Ri R0:VJ)  (r:VU) (v:AV) (H':Hp):Prop:=∃ o1a:ON,∃ o1n:Nat,∃ o1c:Cap,∃ o1k:List AV,∃ o1m:List Ow,v=(.agg [(.i r.1),(.sl ⟨o1a,o1n,o1c⟩)])/\o1n=(r.2).length/\Out H0 Ri H' (Rs.own ⟨o1a,o1n,o1c⟩ (eSl eI).z o1k::Rs.many o1m::R0) λR=>OL (oSl (cU eI)) o1m o1k (r.2)
def bU.p (F:Nat) (aa:Int) (aW:VE):Option (Int×List (List Int)):=nfP (bc.p F) (bx.p F) (cy.p F) (a_.p F) (cE.p F) (bP.p F) (aB.p F) (bv.p F) F aa aW
theorem bU.P {aa cY ct cZ aW} (eD:ct=aW.length) (h0:Inn H R0 λR=>ROs eI H R ⟨cY,ct,cZ⟩ aW) {r:VU} (hp:bU.p F aa aW=some r):Rt (bU.tw F aa ⟨cY,ct,cZ⟩ H) (bU.Q H R0 R0  r):=by
 obtain ⟨w0,f0⟩:=h0
 subst eD
 unfold bU.p nfP at hp
 have hco:OkI (bc.tw F) (bc.p F):=by
  intro H R n r w e
  obtain ⟨v,H',e1,a1,n1,c1,k1,rfl,hn,w1,s1,f1⟩:=bc.P (F:=F) (R0:=R) ⟨w,trivial⟩ e
  obtain rfl:=f1.ints_eq
  exact ⟨_,H',e1,w1,s1⟩
 have hrv:OkI (cy.tw F) (cy.p F):=by
  intro H R n r w e
  obtain ⟨v,H',e1,a1,n1,c1,k1,rfl,hn,w1,s1,f1⟩:=cy.P (F:=F) (R0:=R) ⟨w,trivial⟩ e
  obtain rfl:=f1.ints_eq
  exact ⟨_,H',e1,w1,s1⟩
 have htu:OkS (bx.tw F) (bx.p F):=by
  intro H R e x r w f e0
  obtain ⟨a0,n0,c0⟩:=e
  obtain ⟨v,H',e1,a1,n1,c1,k1,rfl,hn,w1,s1,f1⟩:=bx.P (F:=F) (R0:=R) f.n ⟨w,f⟩ e0
  obtain rfl:=f1.ints_eq
  exact ⟨_,H',e1,w1,s1⟩
 have hiv:OkS (a_.tw F) (a_.p F):=by
  intro H R e x r w f e0
  obtain ⟨a0,n0,c0⟩:=e
  obtain ⟨v,H',e1,a1,n1,c1,k1,rfl,hn,w1,s1,f1⟩:=a_.P (F:=F) (R0:=R) f.n ⟨w,f⟩ e0
  obtain rfl:=f1.ints_eq
  exact ⟨_,H',e1,w1,s1⟩
 have hab:OkA (cE.tw F) (cE.p F):=by
  intro H R n r w e
  obtain ⟨v,H',e1,rfl,w1,s1,_⟩:=cE.P (F:=F) (R0:=R) ⟨w,trivial⟩ e
  exact ⟨H',e1,w1,s1⟩
 have hsw:OkW (bP.tw F) (bP.p F):=by
  intro H R q x r k hz hc w e
  obtain ⟨t,⟨a,n,c⟩,z,pre,cells,rest⟩:=q
  obtain rfl:z=1:=hz
  obtain rfl:cells=nI x:=hc
  obtain ⟨v,H',e1,k1,rfl,hn1,w1,s1,f1⟩:=bP.P (F:=F) (R0:=R) (W.own_n (E:=bd .i64) w (i:=0) rfl (CR.ints _ _ _ _)) ⟨w,CR.ints _ _ _ _⟩ e
  obtain rfl:=f1.ints_eq
  exact ⟨H',e1,w1,s1⟩
 have hsh:OkH (aB.tw F) (aB.p F):=by
  intro H R q q' x x' r hz hz' hc hc' w e
  obtain ⟨t,⟨a,n,c⟩,z,pre,cells,rest⟩:=q
  obtain ⟨t',⟨a',n',c'⟩,z',pre',cells',rest'⟩:=q'
  obtain rfl:z=1:=hz
  obtain rfl:cells=nI x:=hc
  obtain rfl:z'=1:=hz'
  obtain rfl:cells'=nI x':=hc'
  obtain ⟨v,H',e1,k1,k2,rfl,hn1,hn2,w1,s1,f1,f2⟩:=aB.P (F:=F) (R0:=R) (W.own_n (E:=bd .i64) w (i:=0) rfl (CR.ints _ _ _ _)) (W.own_n (E:=bd .i64) w (i:=1) rfl (CR.ints _ _ _ _)) ⟨w,CR.ints _ _ _ _,CR.ints _ _ _ _⟩ e
  obtain rfl:=f1.ints_eq
  obtain rfl:=f2.ints_eq
  exact ⟨H',e1,w1,s1⟩
 have heq:OkE (bv.tw F) (bv.p F):=by
  intro H R e e' x x' r w f f' e0
  obtain ⟨a,n,c⟩:=e
  obtain ⟨a',n',c'⟩:=e'
  obtain ⟨v,H',e1,rfl,w1,s1,_⟩:=bv.P (F:=F) (R0:=R) f.n f'.n ⟨w,f,f'⟩ e0
  exact ⟨H',e1,w1,s1⟩
 obtain ⟨⟨hF,hl⟩,hp⟩:=eY hp
 obtain ⟨st,e1,e2⟩:=Option.bind_eq_some_iff.1 hp
 obtain ⟨v,H',t1,⟨sa,sn,sc⟩,ro,rfl,w1,s1,h1⟩:=Tt (add:=λf k H=>cz.tw F f 0 k H) (fin:=λf H=>bj.tw F f 0 H) (λ{H0 H R0 R f k s rows st res} w fr hr e=>Tu hco htu hrv hiv hab hsw (F:=F) (x:=λH=>cz.tw F f 0 k H) (T:=λs H=>cz.j3 F (bc.tw F) (bx.tw F) (cy.tw F) (a_.tw F) (cE.tw F) (bP.tw F) f 0 k s H) (J:=λs H=>cz.j1 F (bc.tw F) (bx.tw F) (cy.tw F) (a_.tw F) (cE.tw F) (bP.tw F) f 0 k s H) (J2:=λH=>cz.j2 F (bc.tw F) (bx.tw F) (cy.tw F) (a_.tw F) (cE.tw F) (bP.tw F) f 0 k H) (Lp:=λg s m i H=>cz.l105 F (bc.tw F) (bx.tw F) (cy.tw F) (a_.tw F) (cE.tw F) (bP.tw F) g f 0 k s m i H) (λ_=>rfl) (λ_ _=>rfl) (λ_ _=>rfl) (λ_ _ _ _ _=>rfl) (λ_=>rfl) w fr hr e) (λ{H0 H R0 R f s rows st res} w fr hr e=>Tv hco hrv hsh heq (F:=F) (x:=λH=>bj.tw F f 0 H) (Lf:=λy2 g y H=>bj.l13 F (aB.tw F) (bc.tw F) (cy.tw F) (bv.tw F) g f 0 y2 0 y H) (J9:=λy2 H=>bj.j9 F (aB.tw F) (bc.tw F) (cy.tw F) (bv.tw F) f 0 y2 0 H) (Lq:=λy2 c g y i H=>bj.l215 F (aB.tw F) (bc.tw F) (cy.tw F) (bv.tw F) (bj.l13 F (aB.tw F) (bc.tw F) (cy.tw F) (bv.tw F) c) g f 0 y2 0 y i H) (Lp:=λg pl fl y2 o s m i H=>bj.l125 F (aB.tw F) (bc.tw F) (cy.tw F) (bv.tw F) g y2 0 pl fl o 0 s m i H) (J:=Tw) (λ_=>rfl) (λ_ _ _ _=>rfl) (λ_ _ _ _ _ _=>rfl) (λ_ _=>rfl) (λ_ _ _ _ _ _ _ _ _=>rfl) (λ_ _ _=>rfl) w fr hr e) (F:=F) (x:=λs H=>bU.tw F aa s H) (Lp:=λg y2 y3 s m i H=>bU.l29 F (cz.tw F) (bj.tw F) g y2 0 y3 0 s m i H) (λ_ _=>rfl) (λ_ _ _ _ _ _ _=>rfl) w0 f0 hF hl e1 e2
 refine ⟨_,H',t1,sa,sn,sc,slc ro,ro,rfl,?_,w1,s1,h1.ol⟩
 have h3:=(w1.ok _ List.mem_cons_self).1
 rw [mY,h1.len,Nat.mul_one] at h3
 exact h3.symm
def bH.Q (H0:Hp) (Ri R0:VJ)  (r:Bool) (v:AV) (H':Hp):Prop:=v=(.bool r)/\Out H0 Ri H' (R0) λR=>True
def bH.S29 (H0:Hp) (Ri R0:VJ)  (C:Wl) (pC:List (List Int)->List (List Int)->Int->Int->Option (Bool)):Prop:=∀ {ga xn fi tJ gg xo cC jV io fR},∀ {H:Hp},fi=cC.length->tJ=jV.length->(Out H0 Ri H R0 λR=>ROs (eSl eI) H R ⟨ga,fi,gg⟩ cC/\ROs (eSl eI) H R ⟨xn,tJ,xo⟩ jV)->∀ {r:Bool},pC cC jV io fR=some r->Rt (C ⟨ga,fi,gg⟩ ⟨xn,tJ,xo⟩ io fR H) (bH.Q H0 Ri R0  r)
def bH.pl29 (F:Nat) :Nat->List (List Int)->List (List Int)->Int->Int->Option (Bool)
 | 0,_,_,_,_=>none
 | k+1,cC,jV,io,fR=>(bif (decide (fR<io)) then ((ix jV fR).bind λn1=>(ix cC fR).bind λn2=>(bv.p F (gt jV n1) (gt cC n2)).bind λr3=>(bif (!r3) then (some false) else (bH.pl29 F k cC jV io (wrap .i64 (fR+1))))) else (some true))
theorem bH.l29_P  :∀ k,bH.S29 H0 Ri R0  (bH.l29 F (bv.tw F)  k) (bH.pl29 F  k):=by
 intro k
 induction k with
 | zero=>unfold bH.S29;intros;rename_i hp;cases hp
 | succ k ih=>
  intro ga xn fi tJ gg xo cC jV io fR H jn QV h0 r hp
  obtain ⟨w0,s0,gv,Fi⟩:=h0
  subst jn
  subst QV
  unfold bH.pl29 at hp
  unfold bH.l29
  refine aE hp (λhp=>?_) λhp=>?_
  ·obtain ⟨n1,g1,hp⟩:=ae hp
   obtain ⟨p1,q1,i1,h1,j1⟩:=ROs.ixr Fi rfl g1
   refine ai i1 ?_
   obtain ⟨⟨oH,m1_0,c1_0⟩,rfl,f1_0⟩:=h1
   obtain rfl:m1_0=_:=f1_0.n
   refine ai (ck (j1 0 _ rfl)) ?_
   obtain ⟨n2,g2,hp⟩:=ae hp
   obtain ⟨p2,q2,i2,h2,j2⟩:=ROs.ixr gv rfl g2
   refine ai i2 ?_
   obtain ⟨⟨xp,m2_0,c2_0⟩,rfl,f2_0⟩:=h2
   obtain rfl:m2_0=_:=f2_0.n
   refine ai (ck (j2 0 _ rfl)) ?_
   obtain ⟨r3,e3,hp⟩:=ae hp
   refine aG (bv.P rfl rfl ⟨w0,f1_0,f2_0⟩ e3) ?_
   rintro _ H4 ⟨rfl,w4,s4,_⟩
   refine br ?_
   refine aE hp (λhp=>?_) λhp=>?_
   ·exact aJ hp ⟨rfl,w4,(s0.trans s4),trivial⟩
   ·exact ih rfl rfl ⟨w4,(s0.trans s4),(gv.step s4),(Fi.step s4)⟩ hp
  ·exact aJ hp ⟨rfl,w0,s0,trivial⟩
def bH.p (F:Nat) (ar:VR) (cO:VR):Option (Bool):=(bif ((ar.length:Int) != (cO.length:Int)) then (some false) else (bH.pl29 F F cO ar (ar.length:Int) 0))
theorem bH.P {aY eV aL dw aZ eW ar cO} (cq:aL=ar.length) (iA:dw=cO.length) (h0:Inn H R0 λR=>ROs (eSl eI) H R ⟨aY,aL,aZ⟩ ar/\ROs (eSl eI) H R ⟨eV,dw,eW⟩ cO) {r:Bool} (hp:bH.p F ar cO=some r):Rt (bH.tw F ⟨aY,aL,aZ⟩ ⟨eV,dw,eW⟩ H) (bH.Q H R0 R0  r):=by
 obtain ⟨w0,cj,iB⟩:=h0
 subst cq
 subst iA
 unfold bH.p at hp
 unfold bH.tw bH.twX
 have s0:=w0.rf
 refine aE hp (λhp=>?_) λhp=>?_
 ·exact aJ hp ⟨rfl,w0,s0,trivial⟩
 ·exact bH.l29_P F rfl rfl ⟨w0,s0,iB,cj⟩ hp
def cF.Q (H0:Hp) (Ri R0:VJ)  (r:Bool) (v:AV) (H':Hp):Prop:=v=(.bool r)/\Out H0 Ri H' (R0) λR=>True
def cF.p (F:Nat) (aa:Int) (aW:VE) (aC:Int) (cW:VE):Option (Bool):=(b_.p F aa aW).bind λr3=>(bif (!r3) then (some false) else ((b_.p F aC cW).bind λr6=>(bif (!r6) then (some false) else ((bif (aa != aC) then (some false) else ((bU.p F aa aW).bind λr10=>(bU.p F aC cW).bind λr13=>(bif (r10.1==r13.1) then ((bH.p F r10.2 r13.2).bind λr25=>some r25) else (some false))))))))
theorem cF.P {aa aC cY gq ct fd cZ gr aW cW} (eD:ct=aW.length) (jl:fd=cW.length) (h0:Inn H R0 λR=>ROs eI H R ⟨cY,ct,cZ⟩ aW/\ROs eI H R ⟨gq,fd,gr⟩ cW) {r:Bool} (hp:cF.p F aa aW aC cW=some r):Rt (cF.tw F aa ⟨cY,ct,cZ⟩ aC ⟨gq,fd,gr⟩ H) (cF.Q H R0 R0  r):=by
 obtain ⟨w0,dG,gP⟩:=h0
 subst eD
 subst jl
 unfold cF.p at hp
 unfold cF.tw cF.twX
 have s0:=w0.rf
 refine cg w0 λH1 w1 s1=>?_
 refine cg w1 λH2 w2 s2=>?_
 refine lI w2 1 ?_
 refine lSl w2 1 ?_
 obtain ⟨r3,e3,hp⟩:=ae hp
 refine aG (b_.P rfl ⟨w2,(dG.step (s1.trans s2))⟩ e3) ?_
 rintro _ H4 ⟨rfl,w4,s4,_⟩
 refine br ?_
 refine aE hp (λhp=>?_) λhp=>?_
 ·obtain ⟨w5,s5⟩:=w4.pp [] 2
  exact aJ hp ⟨rfl,w5,(s0.trans (s1.trans (s2.trans (s4.trans s5)))),trivial⟩
 ·refine lI w4 0 ?_
  refine lSl w4 0 ?_
  obtain ⟨r6,e6,hp⟩:=ae hp
  refine aG (b_.P rfl ⟨w4,(gP.step (s1.trans (s2.trans s4)))⟩ e6) ?_
  rintro _ H7 ⟨rfl,w7,s7,_⟩
  refine br ?_
  refine aE hp (λhp=>?_) λhp=>?_
  ·obtain ⟨w8,s8⟩:=w7.pp [] 2
   exact aJ hp ⟨rfl,w8,(s0.trans (s1.trans (s2.trans (s4.trans (s7.trans s8))))),trivial⟩
  ·refine lI w7 1 ?_
   refine lI w7 0 ?_
   refine aE hp (λhp=>?_) λhp=>?_
   ·obtain ⟨w9,s9⟩:=w7.pp [] 2
    exact aJ hp ⟨rfl,w9,(s0.trans (s1.trans (s2.trans (s4.trans (s7.trans s9))))),trivial⟩
   ·refine lI w7 1 ?_
    refine lSl w7 1 ?_
    obtain ⟨r10,e10,hp⟩:=ae hp
    refine aG (bU.P rfl ⟨w7,(dG.step (s1.trans (s2.trans (s4.trans s7))))⟩ e10) ?_
    rintro _ H11 ⟨o1a_11,o1n_11,o1c_11,o1k_11,o1m_11,rfl,rfl,w11,s11,f11_0⟩
    refine br (br (br (br (br ?_))))
    refine iE (W.cons_of (Rn:=[_,_]) w7 w11 s11) ?_
    refine lI w11 2 ?_
    refine lSl w11 2 ?_
    obtain ⟨r13,e13,hp⟩:=ae hp
    refine aG (bU.P rfl ⟨w11,(gP.step (s1.trans (s2.trans (s4.trans (s7.trans s11)))))⟩ e13) ?_
    rintro _ H14 ⟨o1a_14,o1n_14,o1c_14,o1k_14,o1m_14,rfl,rfl,w14,s14,f14_0⟩
    refine br (br (br (br (br ?_))))
    refine iE (W.cons_of (Rn:=[_,_]) w11 w14 s14) ?_
    refine cg w14 λH16 w16 s16=>?_
    refine cg w16 λH17 w17 s17=>?_
    refine aM w17 1 λH18 w18 s18=>?_
    refine aM w18 1 λH19 w19 s19=>?_
    refine aM w19 0 λH20 w20 s20=>?_
    refine aM w20 0 λH21 w21 s21=>?_
    refine lI w21 1 ?_
    refine lI w21 0 ?_
    refine aE hp (λhp=>?_) λhp=>?_
    ·refine lSl w21 1 ?_
     refine lSl w21 0 ?_
     obtain ⟨w22,s22⟩:=w21.pp [4,5,2,3,0,1,6,7] 8
     dsimp only [pk,pks,nth,List.drop,List.set,List.eraseIdx] at w22 s18 s19 s20 s21 s22
     have f23:ROs (eSl eI) _ _ _ _:=W.borrow2 (oSl (cU eI)) w22 f11_0
     obtain ⟨w23,s23⟩:=w22.right2
     have f24:ROs (eSl eI) _ _ _ _:=W.borrow2 (oSl (cU eI)) w23 f14_0
     obtain ⟨w24,s24⟩:=w23.right2
     obtain ⟨r25,e25,hp⟩:=ae hp
     refine aG (bH.P rfl rfl ⟨w24,(f23.step s24),f24⟩ e25) ?_
     rintro _ H26 ⟨rfl,w26,s26,_⟩
     obtain ⟨w27,s27⟩:=W.frame2 w23 w26 s26
     obtain ⟨w28,s28⟩:=W.frame2 w22 w27 s27
     refine br ?_
     obtain ⟨w29,s29⟩:=w28.pp [] 8
     exact aJ hp ⟨rfl,w29,(s0.trans (s1.trans (s2.trans (s4.trans (s7.trans (s11.trans (s14.trans (s16.trans (s17.trans (s18.trans (s19.trans (s20.trans (s21.trans (s22.trans (s28.trans s29))))))))))))))),trivial⟩
    ·obtain ⟨w30,s30⟩:=w21.pp [] 8
     exact aJ hp ⟨rfl,w30,(s0.trans (s1.trans (s2.trans (s4.trans (s7.trans (s11.trans (s14.trans (s16.trans (s17.trans (s18.trans (s19.trans (s20.trans (s21.trans s30))))))))))))),trivial⟩
def dz.Q (H0:Hp) (Ri R0:VJ)  (r:Bool) (v:AV) (H':Hp):Prop:=v=(.bool r)/\Out H0 Ri H' (R0) λR=>True
def dz.p (F:Nat) (aa:Int) (av:Int) (fk:Int):Option (Bool):=(bif (decide (aa>=av)) then (some (decide (aa<=fk))) else (some false))
theorem dz.P {aa av fk}  (h0:Inn H R0 λR=>True) {r:Bool} (hp:dz.p F aa av fk=some r):Rt (dz.tw F aa av fk H) (dz.Q H R0 R0  r):=by
 obtain ⟨w0,_⟩:=h0
 unfold dz.p at hp
 unfold dz.tw dz.twX
 have s0:=w0.rf
 refine aE hp (λhp=>?_) λhp=>?_
 ·exact aJ hp ⟨rfl,w0,s0,trivial⟩
 ·exact aJ hp ⟨rfl,w0,s0,trivial⟩
def dA.Q (H0:Hp) (Ri R0:VJ)  (r:Bool) (v:AV) (H':Hp):Prop:=v=(.bool r)/\Out H0 Ri H' (R0) λR=>True
def dA.p (F:Nat) (aa:Int) (av:Int):Option (Bool):=(bif (aa != 0) then ((dz.p F aa (wrap .i64 (1 - av)) (wrap .i64 (av - 1))).bind λr1=>some r1) else (some false))
theorem dA.P {aa av}  (h0:Inn H R0 λR=>True) {r:Bool} (hp:dA.p F aa av=some r):Rt (dA.tw F aa av H) (dA.Q H R0 R0  r):=by
 obtain ⟨w0,_⟩:=h0
 unfold dA.p at hp
 unfold dA.tw dA.twX
 have s0:=w0.rf
 refine aE hp (λhp=>?_) λhp=>?_
 ·obtain ⟨r1,e1,hp⟩:=ae hp
  refine aG (dz.P ⟨w0,trivial⟩ e1) ?_
  rintro _ H2 ⟨rfl,w2,s2,_⟩
  refine br ?_
  exact aJ hp ⟨rfl,w2,(s0.trans s2),trivial⟩
 ·exact aJ hp ⟨rfl,w0,s0,trivial⟩
def bo.Q (H0:Hp) (Ri R0:VJ)  (r:Bool) (v:AV) (H':Hp):Prop:=v=(.bool r)/\Out H0 Ri H' (R0) λR=>True
def bo.S29 (H0:Hp) (Ri R0:VJ)  (C:VL) (pC:Int->List Int->Int->Option (Bool)):Prop:=∀ {mQ fb xq tK eF xr jo},∀ {H:Hp},tK=jo.length->(Out H0 Ri H (Rs.blk eF [.i mQ,.sl ⟨xq,tK,xr⟩]::R0) λR=>ROs eI H R ⟨xq,tK,xr⟩ jo)->∀ {r:Bool},pC mQ jo fb=some r->Rt (C eF 0 fb H) (bo.Q H0 Ri R0  r)
def bo.pl29 (F:Nat) :Nat->Int->List Int->Int->Option (Bool)
 | 0,_,_,_=>none
 | k+1,mQ,jo,fb=>(bif (decide (fb<(jo.length:Int))) then ((ix jo fb).bind λn1=>(dA.p F (gt jo n1) mQ).bind λr2=>(bif (!r2) then (some false) else (bo.pl29 F k mQ jo (wrap .i64 (fb+1))))) else (some true))
theorem bo.l29_P  :∀ k,bo.S29 H0 Ri R0  (bo.l29 F (dz.tw F) (dA.tw F)  k) (bo.pl29 F  k):=by
 intro k
 induction k with
 | zero=>unfold bo.S29;intros;rename_i hp;cases hp
 | succ k ih=>
  intro mQ fb xq tK eF xr jo H QW h0 r hp
  obtain ⟨w0,s0,Fj⟩:=h0
  subst QW
  unfold bo.pl29 at hp
  unfold bo.l29
  refine lSl w0 0 ?_
  refine aE hp (λhp=>?_) λhp=>?_
  ·refine lSl w0 0 ?_
   obtain ⟨n1,g1,hp⟩:=ae hp
   obtain ⟨p1,q1,i1,h1,j1⟩:=ROs.ixr Fj rfl g1
   refine ai i1 ?_
   have h1:_=[_]:=h1
   subst h1
   refine ai (bL (j1 0 _ rfl)) ?_
   refine lI w0 0 ?_
   obtain ⟨r2,e2,hp⟩:=ae hp
   refine aG (dA.P ⟨w0,trivial⟩ e2) ?_
   rintro _ H3 ⟨rfl,w3,s3,_⟩
   refine br ?_
   refine aE hp (λhp=>?_) λhp=>?_
   ·obtain ⟨w4,s4⟩:=w3.pp [] 1
    exact aJ hp ⟨rfl,w4,(s0.trans (s3.trans s4)),trivial⟩
   ·exact ih rfl ⟨w3,(s0.trans s3),(Fj.step s3)⟩ hp
  ·obtain ⟨w5,s5⟩:=w0.pp [] 1
   exact aJ hp ⟨rfl,w5,(s0.trans s5),trivial⟩
def bo.p (F:Nat) (aa:Int) (aW:VE):Option (Bool):=(dz.p F aa 1 6).bind λr2=>(bif (!r2) then (some false) else ((bif (decide ((aW.length:Int)>24)) then (some false) else (bo.pl29 F F aa aW 0))))
theorem bo.P {aa cY ct cZ aW} (eD:ct=aW.length) (h0:Inn H R0 λR=>ROs eI H R ⟨cY,ct,cZ⟩ aW) {r:Bool} (hp:bo.p F aa aW=some r):Rt (bo.tw F aa ⟨cY,ct,cZ⟩ H) (bo.Q H R0 R0  r):=by
 obtain ⟨w0,dG⟩:=h0
 subst eD
 unfold bo.p at hp
 unfold bo.tw bo.twX
 have s0:=w0.rf
 refine cg w0 λH1 w1 s1=>?_
 refine lI w1 0 ?_
 obtain ⟨r2,e2,hp⟩:=ae hp
 refine aG (dz.P ⟨w1,trivial⟩ e2) ?_
 rintro _ H3 ⟨rfl,w3,s3,_⟩
 refine br ?_
 refine aE hp (λhp=>?_) λhp=>?_
 ·obtain ⟨w4,s4⟩:=w3.pp [] 1
  exact aJ hp ⟨rfl,w4,(s0.trans (s1.trans (s3.trans s4))),trivial⟩
 ·refine lSl w3 0 ?_
  refine aE hp (λhp=>?_) λhp=>?_
  ·obtain ⟨w5,s5⟩:=w3.pp [] 1
   exact aJ hp ⟨rfl,w5,(s0.trans (s1.trans (s3.trans s5))),trivial⟩
  ·exact bo.l29_P F rfl ⟨w3,(s0.trans (s1.trans s3)),(dG.step (s1.trans s3))⟩ hp
def bD.Q (H0:Hp) (Ri R0:VJ)  (r:VE) (v:AV) (H':Hp):Prop:=∃ o0a:ON,∃ o0n:Nat,∃ o0c:Cap,∃ o0k:List AV,v=(.sl ⟨o0a,o0n,o0c⟩)/\o0n=(r).length/\Out H0 Ri H' (Rs.own ⟨o0a,o0n,o0c⟩ eI.z o0k::R0) λR=>CR eI H' R o0k (r)
def bD.S29 (H0:Hp) (Ri R0:VJ)  (C:Int->Sl->Int->Hp->OA) (pC:WA):Prop:=∀ {bz bu fY fh fZ dh f_},∀ {H:Hp},fh=dh.length->(Out H0 Ri H (Rs.own ⟨fY,fh,fZ⟩ eI.z f_::R0) λR=>CR eI H R f_ dh)->∀ {r:VE},pC bz dh bu=some r->Rt (C bz ⟨fY,fh,fZ⟩ bu H) (bD.Q H0 Ri R0  r)
def bD.pl29 (F:Nat) :Nat->Int->List Int->Int->Option (List Int)
 | 0,_,_,_=>none
 | k+1,bz,dh,bu=>(bif (decide (bu<bz)) then ((apn dh ([bu]:List Int)).bind λl2=>bD.pl29 F k bz l2 (wrap .i64 (bu+1))) else (some dh))
theorem bD.l29_P  :∀ k,bD.S29 H0 Ri R0  (bD.l29 F   k) (bD.pl29 F  k):=by
 intro k
 induction k with
 | zero=>unfold bD.S29;intros;rename_i hp;cases hp
 | succ k ih=>
  intro bz bu fY fh fZ dh f_ H kz h0 r hp
  obtain ⟨w0,s0,gQ⟩:=h0
  subst kz
  unfold bD.pl29 at hp
  unfold bD.l29
  refine aE hp (λhp=>?_) λhp=>?_
  ·refine er eI w0 (n:=1) (l:=([bu]:List Int)) rfl (CR.cons1 rfl CR.empty) rfl λH1 w1 s1 c1=>?_
   refine ai (w1.rowo (i:=0) rfl) ?_
   obtain ⟨l2,e2,hp⟩:=ae hp
   refine fj eI w1 (i:=1) rfl rfl (gQ.step s1) c1 (show 1=List.length ([bu]:List Int) from rfl) rfl e2 λa3 d3 H3 w3 s3 c3 x3=>?_
   obtain ⟨w4,s4⟩:=w3.pp [1] 2
   exact ih rfl ⟨w4,(s0.trans (s1.trans (s3.trans s4))),(c3.step s4)⟩ hp
  ·exact aJ hp ⟨_,_,_,_,rfl,rfl,w0,s0,gQ⟩
def bD.p (F:Nat) (aa:Int):Option (List Int):=bD.pl29 F F aa ([]:List Int) 0
theorem bD.P {aa}  (h0:Inn H R0 λR=>True) {r:VE} (hp:bD.p F aa=some r):Rt (bD.tw F aa H) (bD.Q H R0 R0  r):=by
 obtain ⟨w0,_⟩:=h0
 unfold bD.p at hp
 unfold bD.tw bD.twX
 have s0:=w0.rf
 refine er eI w0 (n:=0) (l:=([]:List Int)) rfl CR.empty rfl λH1 w1 s1 c1=>?_
 exact bD.l29_P F (show 0=List.length ([]:List Int) from rfl) ⟨w1,(s0.trans s1),c1⟩ hp
def aI.Q (H0:Hp) (Ri R0:VJ)  (r:VE) (v:AV) (H':Hp):Prop:=∃ o0a:ON,∃ o0n:Nat,∃ o0c:Cap,∃ o0k:List AV,v=(.sl ⟨o0a,o0n,o0c⟩)/\o0n=(r).length/\Out H0 Ri H' (Rs.own ⟨o0a,o0n,o0c⟩ eI.z o0k::R0) λR=>CR eI H' R o0k (r)
def aI.S29 (H0:Hp) (Ri R0:VJ)  (C:Wa) (pC:Wb):Prop:=∀ {kw xt jm tL kx xu ed jp dZ fc xv},∀ {H:Hp},jm=ed.length->tL=jp.length->(Out H0 Ri H (Rs.own ⟨xt,tL,xu⟩ eI.z xv::R0) λR=>ROs eI H R ⟨kw,jm,kx⟩ ed/\CR eI H R xv jp)->∀ {r:VE},pC ed dZ jp fc=some r->Rt (C ⟨kw,jm,kx⟩ dZ ⟨xt,tL,xu⟩ fc H) (aI.Q H0 Ri R0  r)
def aI.pj4 (F:Nat) (az:Wb) (oI:VE) (mh:Int) (oJ:VE) (mi:Int):Option (List Int):=az oI mh oJ (wrap .i64 (mi+1))
theorem aI.j4_P  {C29_:Wa} {az:Wb} (hC29:aI.S29 H0 Ri R0  C29_ az) {Fk Fl xw xx Fo Fp oI oJ mh mi Fq} (QX:xw=oI.length) (QY:xx=oJ.length) (h0:Out H0 Ri H (Rs.own ⟨Fl,xx,Fp⟩ eI.z Fq::R0) λR=>ROs eI H R ⟨Fk,xw,Fo⟩ oI/\CR eI H R Fq oJ) {r:VE} (hp:aI.pj4 F az oI mh oJ mi=some r):Rt (aI.j4 F  C29_ ⟨Fk,xw,Fo⟩ mh ⟨Fl,xx,Fp⟩ mi H) (aI.Q H0 Ri R0  r):=by
 obtain ⟨w0,s0,QZ,Q_⟩:=h0
 subst QX
 subst QY
 unfold aI.pj4 at hp
 unfold aI.j4
 exact hC29 rfl rfl ⟨w0,s0,QZ,Q_⟩ hp
def aI.pj5 (F:Nat) (az:Wb) (oK:VE) (mj:Int) (oM:VE) (ml:Int):Option (List Int):=az oK mj oM (wrap .i64 (ml+1))
theorem aI.j5_P  {C29_:Wa} {az:Wb} (hC29:aI.S29 H0 Ri R0  C29_ az) {Fs Ft xy xz Fu Fv oK oM mj ml Fw} (Ra:xy=oK.length) (Rc:xz=oM.length) (h0:Out H0 Ri H (Rs.own ⟨Ft,xz,Fv⟩ eI.z Fw::R0) λR=>ROs eI H R ⟨Fs,xy,Fu⟩ oK/\CR eI H R Fw oM) {r:VE} (hp:aI.pj5 F az oK mj oM ml=some r):Rt (aI.j5 F  C29_ ⟨Fs,xy,Fu⟩ mj ⟨Ft,xz,Fv⟩ ml H) (aI.Q H0 Ri R0  r):=by
 obtain ⟨w0,s0,Rd,Re⟩:=h0
 subst Ra
 subst Rc
 unfold aI.pj5 at hp
 unfold aI.j5
 exact hC29 rfl rfl ⟨w0,s0,Rd,Re⟩ hp
def aI.pj6 (F:Nat) (az:Wb) (oN:VE) (mm:Int) (oO:VE) (mn:Int):Option (List Int):=aI.pj5 F az oN mm oO mn
theorem aI.j6_P  {C29_:Wa} {az:Wb} (hC29:aI.S29 H0 Ri R0  C29_ az) {Fx Fy xA xB Fz FA oN oO mm mn FB} (Rf:xA=oN.length) (Rg:xB=oO.length) (h0:Out H0 Ri H (Rs.own ⟨Fy,xB,FA⟩ eI.z FB::R0) λR=>ROs eI H R ⟨Fx,xA,Fz⟩ oN/\CR eI H R FB oO) {r:VE} (hp:aI.pj6 F az oN mm oO mn=some r):Rt (aI.j6 F  C29_ ⟨Fx,xA,Fz⟩ mm ⟨Fy,xB,FA⟩ mn H) (aI.Q H0 Ri R0  r):=by
 obtain ⟨w0,s0,Rh,Rj⟩:=h0
 subst Rf
 subst Rg
 unfold aI.pj6 at hp
 unfold aI.j6
 exact aI.j5_P (@hC29) rfl rfl ⟨w0,s0,Rh,Rj⟩ hp
def aI.pl29 (F:Nat) :Nat->List Int->Int->List Int->Int->Option (List Int)
 | 0,_,_,_,_=>none
 | k+1,ed,dZ,jp,fc=>(bif (decide (fc<(ed.length:Int))) then ((ix ed fc).bind λn1=>(bif ((gt ed n1)==(wrap .i64 (dZ - 1))) then ((apn jp ([dZ]:List Int)).bind λl3=>aI.pj4 F (aI.pl29 F k) ed dZ l3 fc) else ((bif ((gt ed n1)==dZ) then ((apn jp ([(wrap .i64 (dZ - 1))]:List Int)).bind λl7=>aI.pj6 F (aI.pl29 F k) ed dZ l7 fc) else ((ix ed fc).bind λn10=>(apn jp ([(gt ed n10)]:List Int)).bind λl12=>aI.pj6 F (aI.pl29 F k) ed dZ l12 fc))))) else (some jp))
theorem aI.l29_P  :∀ k,aI.S29 H0 Ri R0  (aI.l29 F   k) (aI.pl29 F  k):=by
 intro k
 induction k with
 | zero=>unfold aI.S29;intros;rename_i hp;cases hp
 | succ k ih=>
  intro kw xt jm tL kx xu ed jp dZ fc xv H wS Rk h0 r hp
  obtain ⟨w0,s0,jQ,tM⟩:=h0
  subst wS
  subst Rk
  unfold aI.pl29 at hp
  unfold aI.l29
  refine aE hp (λhp=>?_) λhp=>?_
  ·obtain ⟨n1,g1,hp⟩:=ae hp
   obtain ⟨p1,q1,i1,h1,j1⟩:=ROs.ixr jQ rfl g1
   refine ai i1 ?_
   have h1:_=[_]:=h1
   subst h1
   refine ai (bL (j1 0 _ rfl)) ?_
   refine aE hp (λhp=>?_) λhp=>?_
   ·refine er eI w0 (n:=1) (l:=([dZ]:List Int)) rfl (CR.cons1 rfl CR.empty) rfl λH2 w2 s2 c2=>?_
    refine ai (w2.rowo (i:=0) rfl) ?_
    obtain ⟨l3,e3,hp⟩:=ae hp
    refine fj eI w2 (i:=1) rfl rfl (tM.step s2) c2 (show 1=List.length ([dZ]:List Int) from rfl) rfl e3 λa4 d4 H4 w4 s4 c4 x4=>?_
    obtain ⟨w5,s5⟩:=w4.pp [1] 2
    exact aI.j4_P (@ih) rfl rfl ⟨w5,(s0.trans (s2.trans (s4.trans s5))),(jQ.step (s2.trans (s4.trans s5))),(c4.step s5)⟩ hp
   ·refine aE hp (λhp=>?_) λhp=>?_
    ·refine er eI w0 (n:=1) (l:=([(wrap .i64 (dZ - 1))]:List Int)) rfl (CR.cons1 rfl CR.empty) rfl λH6 w6 s6 c6=>?_
     refine ai (w6.rowo (i:=0) rfl) ?_
     obtain ⟨l7,e7,hp⟩:=ae hp
     refine fj eI w6 (i:=1) rfl rfl (tM.step s6) c6 (show 1=List.length ([(wrap .i64 (dZ - 1))]:List Int) from rfl) rfl e7 λa8 d8 H8 w8 s8 c8 x8=>?_
     obtain ⟨w9,s9⟩:=w8.pp [1] 2
     exact aI.j6_P (@ih) rfl rfl ⟨w9,(s0.trans (s6.trans (s8.trans s9))),(jQ.step (s6.trans (s8.trans s9))),(c8.step s9)⟩ hp
    ·obtain ⟨n10,g10,hp⟩:=ae hp
     obtain ⟨p10,q10,i10,h10,j10⟩:=ROs.ixr jQ rfl g10
     refine ai i10 ?_
     have h10:_=[_]:=h10
     subst h10
     refine ai (bL (j10 0 _ rfl)) ?_
     refine er eI w0 (n:=1) (l:=([(gt ed n10)]:List Int)) rfl (CR.cons1 rfl CR.empty) rfl λH11 w11 s11 c11=>?_
     refine ai (w11.rowo (i:=0) rfl) ?_
     obtain ⟨l12,e12,hp⟩:=ae hp
     refine fj eI w11 (i:=1) rfl rfl (tM.step s11) c11 (show 1=List.length ([(gt ed n10)]:List Int) from rfl) rfl e12 λa13 d13 H13 w13 s13 c13 x13=>?_
     obtain ⟨w14,s14⟩:=w13.pp [1] 2
     exact aI.j6_P (@ih) rfl rfl ⟨w14,(s0.trans (s11.trans (s13.trans s14))),(jQ.step (s11.trans (s13.trans s14))),(c13.step s14)⟩ hp
  ·exact aJ hp ⟨_,_,_,_,rfl,rfl,w0,s0,tM⟩
def aI.p (F:Nat) (ar:VE) (av:Int):Option (List Int):=aI.pl29 F F ar av ([]:List Int) 0
theorem aI.P {aY aL aZ ar av} (cq:aL=ar.length) (h0:Inn H R0 λR=>ROs eI H R ⟨aY,aL,aZ⟩ ar) {r:VE} (hp:aI.p F ar av=some r):Rt (aI.tw F ⟨aY,aL,aZ⟩ av H) (aI.Q H R0 R0  r):=by
 obtain ⟨w0,cj⟩:=h0
 subst cq
 unfold aI.p at hp
 unfold aI.tw aI.twX
 have s0:=w0.rf
 refine er eI w0 (n:=0) (l:=([]:List Int)) rfl CR.empty rfl λH1 w1 s1 c1=>?_
 exact aI.l29_P F rfl (show 0=List.length ([]:List Int) from rfl) ⟨w1,(s0.trans s1),(cj.step s1),c1⟩ hp
def bI.Q (H0:Hp) (Ri R0:VJ)  (r:VE) (v:AV) (H':Hp):Prop:=∃ o0a:ON,∃ o0n:Nat,∃ o0c:Cap,∃ o0k:List AV,v=(.sl ⟨o0a,o0n,o0c⟩)/\o0n=(r).length/\Out H0 Ri H' (Rs.own ⟨o0a,o0n,o0c⟩ eI.z o0k::R0) λR=>CR eI H' R o0k (r)
def bI.S61 (H0:Hp) (Ri R0:VJ)  (C:Wa) (pC:Wb):Prop:=∀ {en xC dr tN eo xD bp kA cn bV xE},∀ {H:Hp},dr=bp.length->tN=kA.length->(Out H0 Ri H (Rs.own ⟨xC,tN,xD⟩ eI.z xE::R0) λR=>ROs eI H R ⟨en,dr,eo⟩ bp/\CR eI H R xE kA)->∀ {r:VE},pC bp cn kA bV=some r->Rt (C ⟨en,dr,eo⟩ cn ⟨xC,tN,xD⟩ bV H) (bI.Q H0 Ri R0  r)
def bI.pl61 (F:Nat) :Nat->List Int->Int->List Int->Int->Option (List Int)
 | 0,_,_,_,_=>none
 | k+1,bp,cn,kA,bV=>(bif (decide (bV<cn)) then ((ix bp (wrap .i64 ((wrap .i64 (cn - 1)) - bV))).bind λn1=>(apn kA ([(wrap .i64 ((wrap .i64 (cn - 1)) - (gt bp n1)))]:List Int)).bind λl3=>bI.pl61 F k bp cn l3 (wrap .i64 (bV+1))) else (some kA))
theorem bI.l61_P  :∀ k,bI.S61 H0 Ri R0  (bI.l61 F   k) (bI.pl61 F  k):=by
 intro k
 induction k with
 | zero=>unfold bI.S61;intros;rename_i hp;cases hp
 | succ k ih=>
  intro en xC dr tN eo xD bp kA cn bV xE H gO Rl h0 r hp
  obtain ⟨w0,s0,eC,FC⟩:=h0
  subst gO
  subst Rl
  unfold bI.pl61 at hp
  unfold bI.l61
  refine aE hp (λhp=>?_) λhp=>?_
  ·obtain ⟨n1,g1,hp⟩:=ae hp
   obtain ⟨p1,q1,i1,h1,j1⟩:=ROs.ixr eC rfl g1
   refine ai i1 ?_
   have h1:_=[_]:=h1
   subst h1
   refine ai (bL (j1 0 _ rfl)) ?_
   refine er eI w0 (n:=1) (l:=([(wrap .i64 ((wrap .i64 (cn - 1)) - (gt bp n1)))]:List Int)) rfl (CR.cons1 rfl CR.empty) rfl λH2 w2 s2 c2=>?_
   refine ai (w2.rowo (i:=0) rfl) ?_
   obtain ⟨l3,e3,hp⟩:=ae hp
   refine fj eI w2 (i:=1) rfl rfl (FC.step s2) c2 (show 1=List.length ([(wrap .i64 ((wrap .i64 (cn - 1)) - (gt bp n1)))]:List Int) from rfl) rfl e3 λa4 d4 H4 w4 s4 c4 x4=>?_
   obtain ⟨w5,s5⟩:=w4.pp [1] 2
   exact ih rfl rfl ⟨w5,(s0.trans (s2.trans (s4.trans s5))),(eC.step (s2.trans (s4.trans s5))),(c4.step s5)⟩ hp
  ·exact aJ hp ⟨_,_,_,_,rfl,rfl,w0,s0,FC⟩
def bI.p (F:Nat) (ar:VE):Option (List Int):=bI.pl61 F F ar (ar.length:Int) ([]:List Int) 0
theorem bI.P {aY aL aZ ar} (cq:aL=ar.length) (h0:Inn H R0 λR=>ROs eI H R ⟨aY,aL,aZ⟩ ar) {r:VE} (hp:bI.p F ar=some r):Rt (bI.tw F ⟨aY,aL,aZ⟩ H) (bI.Q H R0 R0  r):=by
 obtain ⟨w0,cj⟩:=h0
 subst cq
 unfold bI.p at hp
 unfold bI.tw bI.twX
 have s0:=w0.rf
 refine er eI w0 (n:=0) (l:=([]:List Int)) rfl CR.empty rfl λH1 w1 s1 c1=>?_
 exact bI.l61_P F rfl (show 0=List.length ([]:List Int) from rfl) ⟨w1,(s0.trans s1),(cj.step s1),c1⟩ hp
def bE.Q (H0:Hp) (Ri R0:VJ)  (r:VE) (v:AV) (H':Hp):Prop:=∃ o0a:ON,∃ o0n:Nat,∃ o0c:Cap,∃ o0k:List AV,v=(.sl ⟨o0a,o0n,o0c⟩)/\o0n=(r).length/\Out H0 Ri H' (Rs.own ⟨o0a,o0n,o0c⟩ eI.z o0k::R0) λR=>CR eI H' R o0k (r)
def bE.S29 (H0:Hp) (Ri R0:VJ)  (C:Int->Sl->Int->Hp->OA) (pC:WA):Prop:=∀ {bz bu fY fh fZ dh f_},∀ {H:Hp},fh=dh.length->(Out H0 Ri H (Rs.own ⟨fY,fh,fZ⟩ eI.z f_::R0) λR=>CR eI H R f_ dh)->∀ {r:VE},pC bz dh bu=some r->Rt (C bz ⟨fY,fh,fZ⟩ bu H) (bE.Q H0 Ri R0  r)
def bE.pl29 (F:Nat) :Nat->Int->List Int->Int->Option (List Int)
 | 0,_,_,_=>none
 | k+1,bz,dh,bu=>(bif (decide (bu<bz)) then ((apn dh ([(wrap .i64 ((wrap .i64 (bz - 1)) - bu))]:List Int)).bind λl2=>bE.pl29 F k bz l2 (wrap .i64 (bu+1))) else (some dh))
theorem bE.l29_P  :∀ k,bE.S29 H0 Ri R0  (bE.l29 F   k) (bE.pl29 F  k):=by
 intro k
 induction k with
 | zero=>unfold bE.S29;intros;rename_i hp;cases hp
 | succ k ih=>
  intro bz bu fY fh fZ dh f_ H kz h0 r hp
  obtain ⟨w0,s0,gQ⟩:=h0
  subst kz
  unfold bE.pl29 at hp
  unfold bE.l29
  refine aE hp (λhp=>?_) λhp=>?_
  ·refine er eI w0 (n:=1) (l:=([(wrap .i64 ((wrap .i64 (bz - 1)) - bu))]:List Int)) rfl (CR.cons1 rfl CR.empty) rfl λH1 w1 s1 c1=>?_
   refine ai (w1.rowo (i:=0) rfl) ?_
   obtain ⟨l2,e2,hp⟩:=ae hp
   refine fj eI w1 (i:=1) rfl rfl (gQ.step s1) c1 (show 1=List.length ([(wrap .i64 ((wrap .i64 (bz - 1)) - bu))]:List Int) from rfl) rfl e2 λa3 d3 H3 w3 s3 c3 x3=>?_
   obtain ⟨w4,s4⟩:=w3.pp [1] 2
   exact ih rfl ⟨w4,(s0.trans (s1.trans (s3.trans s4))),(c3.step s4)⟩ hp
  ·exact aJ hp ⟨_,_,_,_,rfl,rfl,w0,s0,gQ⟩
def bE.p (F:Nat) (aa:Int):Option (List Int):=bE.pl29 F F aa ([]:List Int) 0
theorem bE.P {aa}  (h0:Inn H R0 λR=>True) {r:VE} (hp:bE.p F aa=some r):Rt (bE.tw F aa H) (bE.Q H R0 R0  r):=by
 obtain ⟨w0,_⟩:=h0
 unfold bE.p at hp
 unfold bE.tw bE.twX
 have s0:=w0.rf
 refine er eI w0 (n:=0) (l:=([]:List Int)) rfl CR.empty rfl λH1 w1 s1 c1=>?_
 exact bE.l29_P F (show 0=List.length ([]:List Int) from rfl) ⟨w1,(s0.trans s1),c1⟩ hp
def bW.Q (H0:Hp) (Ri R0:VJ)  (r:VE) (v:AV) (H':Hp):Prop:=∃ o0a:ON,∃ o0n:Nat,∃ o0c:Cap,∃ o0k:List AV,v=(.sl ⟨o0a,o0n,o0c⟩)/\o0n=(r).length/\Out H0 Ri H' (Rs.own ⟨o0a,o0n,o0c⟩ eI.z o0k::R0) λR=>CR eI H' R o0k (r)
def bW.S29 (H0:Hp) (Ri R0:VJ)  (C:Wv) (pC:List Int->List Int->Int->Option (List Int)):Prop:=∀ {en fY dr fh eo fZ bp dh f_ bu},∀ {H:Hp},dr=bp.length->fh=dh.length->(Out H0 Ri H (Rs.own ⟨fY,fh,fZ⟩ eI.z f_::R0) λR=>ROs eI H R ⟨en,dr,eo⟩ bp/\CR eI H R f_ dh)->∀ {r:VE},pC bp dh bu=some r->Rt (C ⟨en,dr,eo⟩ ⟨fY,fh,fZ⟩ bu H) (bW.Q H0 Ri R0  r)
def bW.pl29 (F:Nat) :Nat->List Int->List Int->Int->Option (List Int)
 | 0,_,_,_=>none
 | k+1,bp,dh,bu=>(bif (decide (bu<(bp.length:Int))) then ((ix bp bu).bind λn1=>(ix dh (gt bp n1)).bind λn2=>(some (dh.set n2 bu)).bind λl3=>bW.pl29 F k bp l3 (wrap .i64 (bu+1))) else (some dh))
theorem bW.l29_P  :∀ k,bW.S29 H0 Ri R0  (bW.l29 F   k) (bW.pl29 F  k):=by
 intro k
 induction k with
 | zero=>unfold bW.S29;intros;rename_i hp;cases hp
 | succ k ih=>
  intro en fY dr fh eo fZ bp dh f_ bu H gO kz h0 r hp
  obtain ⟨w0,s0,eC,gQ⟩:=h0
  subst gO
  subst kz
  unfold bW.pl29 at hp
  unfold bW.l29
  refine aE hp (λhp=>?_) λhp=>?_
  ·obtain ⟨n1,g1,hp⟩:=ae hp
   obtain ⟨p1,q1,i1,h1,j1⟩:=ROs.ixr eC rfl g1
   refine ai i1 ?_
   have h1:_=[_]:=h1
   subst h1
   refine ai (bL (j1 0 _ rfl)) ?_
   obtain ⟨n2,g2,hp⟩:=ae hp
   obtain ⟨p2,q2,i2,h2,j2⟩:=W.ixo (E:=eI) w0 (i:=0) rfl rfl gQ g2
   refine ai i2 ?_
   obtain ⟨l3,e3,hp⟩:=ae hp
   refine dd eI w0 (i:=0) (j:=0) (p:=p2) rfl rfl gQ g2 i2 e3 rfl rfl (λ_ h=>by have h:_=[_]:=h;subst h;exact rfl) λH4 k4 w4 s4 c4=>?_
   exact ih rfl ((cT e3).symm) ⟨w4,(s0.trans s4),(eC.step s4),c4⟩ hp
  ·exact aJ hp ⟨_,_,_,_,rfl,rfl,w0,s0,gQ⟩
def bW.p (F:Nat) (ar:VE):Option (List Int):=(mkn (ar.length:Int) (0:Int)).bind λl1=>bW.pl29 F F ar l1 0
theorem bW.P {aY aL aZ ar} (cq:aL=ar.length) (h0:Inn H R0 λR=>ROs eI H R ⟨aY,aL,aZ⟩ ar) {r:VE} (hp:bW.p F ar=some r):Rt (bW.tw F ⟨aY,aL,aZ⟩ H) (bW.Q H R0 R0  r):=by
 obtain ⟨w0,cj⟩:=h0
 subst cq
 unfold bW.p at hp
 unfold bW.tw bW.twX
 have s0:=w0.rf
 obtain ⟨l1,e1,hp⟩:=ae hp
 refine zt eI (0:Int) w0 rfl rfl rfl e1 λH2 k2 w2 s2 c2=>?_
 exact bW.l29_P F rfl rfl ⟨w2,(s0.trans s2),(cj.step s2),c2⟩ hp
def ew.Q (H0:Hp) (Ri R0:VJ)  (r:VE) (v:AV) (H':Hp):Prop:=∃ o0a:ON,∃ o0n:Nat,∃ o0c:Cap,∃ o0k:List AV,v=(.sl ⟨o0a,o0n,o0c⟩)/\o0n=(r).length/\Out H0 Ri H' (Rs.own ⟨o0a,o0n,o0c⟩ eI.z o0k::R0) λR=>CR eI H' R o0k (r)
def ew.p (F:Nat) (ar:VE) (av:Int):Option (List Int):=(apn ([]:List Int) ar).bind λl3=>(ix ar av).bind λn5=>(ix l3 (wrap .i64 (av - 1))).bind λn6=>(some (l3.set n6 (gt ar n5))).bind λl7=>(ix ar (wrap .i64 (av - 1))).bind λn9=>(ix l7 av).bind λn10=>(some (l7.set n10 (gt ar n9))).bind λl11=>some l11
theorem ew.P {aY aL aZ ar av} (cq:aL=ar.length) (h0:Inn H R0 λR=>ROs eI H R ⟨aY,aL,aZ⟩ ar) {r:VE} (hp:ew.p F ar av=some r):Rt (ew.tw F ⟨aY,aL,aZ⟩ av H) (ew.Q H R0 R0  r):=by
 obtain ⟨w0,cj⟩:=h0
 subst cq
 unfold ew.p at hp
 unfold ew.tw ew.twX
 have s0:=w0.rf
 refine er eI w0 (n:=0) (l:=([]:List Int)) rfl CR.empty rfl λH1 w1 s1 c1=>?_
 obtain ⟨x2,h2,c2⟩:=(cj.step s1).row rfl
 refine ai h2 ?_
 obtain ⟨l3,e3,hp⟩:=ae hp
 refine fj eI w1 (i:=0) rfl rfl c1 c2 rfl rfl e3 λa4 d4 H4 w4 s4 c4 x4=>?_
 obtain ⟨n5,g5,hp⟩:=ae hp
 obtain ⟨p5,q5,i5,h5,j5⟩:=ROs.ixr (cj.step (s1.trans s4)) rfl g5
 refine ai i5 ?_
 have h5:_=[_]:=h5
 subst h5
 refine ai (bL (j5 0 _ rfl)) ?_
 obtain ⟨n6,g6,hp⟩:=ae hp
 obtain ⟨p6,q6,i6,h6,j6⟩:=W.ixo (E:=eI) w4 (i:=0) rfl rfl c4 g6
 refine ai i6 ?_
 obtain ⟨l7,e7,hp⟩:=ae hp
 refine dd eI w4 (i:=0) (j:=0) (p:=p6) rfl rfl c4 g6 i6 e7 rfl rfl (λ_ h=>by have h:_=[_]:=h;subst h;exact rfl) λH8 k8 w8 s8 c8=>?_
 obtain ⟨n9,g9,hp⟩:=ae hp
 obtain ⟨p9,q9,i9,h9,j9⟩:=ROs.ixr (cj.step (s1.trans (s4.trans s8))) rfl g9
 refine ai i9 ?_
 have h9:_=[_]:=h9
 subst h9
 refine ai (bL (j9 0 _ rfl)) ?_
 obtain ⟨n10,g10,hp⟩:=ae hp
 obtain ⟨p10,q10,i10,h10,j10⟩:=W.ixo (E:=eI) w8 (i:=0) rfl rfl c8 g10
 refine ai i10 ?_
 obtain ⟨l11,e11,hp⟩:=ae hp
 refine dd eI w8 (i:=0) (j:=0) (p:=p10) rfl rfl c8 g10 i10 e11 rfl rfl (λ_ h=>by have h:_=[_]:=h;subst h;exact rfl) λH12 k12 w12 s12 c12=>?_
 exact aJ hp ⟨_,_,_,_,rfl,((cT e7).symm.trans (cT e11).symm),w12,(s0.trans (s1.trans (s4.trans (s8.trans s12)))),c12⟩
def bg.Q (H0:Hp) (Ri R0:VJ)  (r:Wm) (v:AV) (H':Hp):Prop:=∃ o0a:ON,∃ o0n:Nat,∃ o0c:Cap,∃ o1a:ON,∃ o1n:Nat,∃ o1c:Cap,v=(.tup [(.sl ⟨o0a,o0n,o0c⟩),(.sl ⟨o1a,o1n,o1c⟩),(.bool r.2.2)])/\o0n=(r.1).length/\o1n=(r.2.1).length/\Out H0 Ri H' (R0) λR=>ROs eI H' R ⟨o0a,o0n,o0c⟩ (r.1)/\ROs eI H' R ⟨o1a,o1n,o1c⟩ (r.2.1)
def bg.S29 (H0:Hp) (Ri R0:VJ)  (C:Sl->Sl->Sl->Int->Hp->OA) (pC:List Int->List Int->List Int->Int->Option (List Int×List Int×Bool)):Prop:=∀ {xF xG xH tO tP tQ xI xJ xK iS gS iC xL d_},∀ {H:Hp},tO=iS.length->tP=gS.length->tQ=iC.length->(Out H0 Ri H (Rs.own ⟨xH,tQ,xK⟩ eI.z xL::R0) λR=>ROs eI H R ⟨xF,tO,xI⟩ iS/\ROs eI H R ⟨xG,tP,xJ⟩ gS/\CR eI H R xL iC)->∀ {r:Wm},pC iS gS iC d_=some r->Rt (C ⟨xF,tO,xI⟩ ⟨xG,tP,xJ⟩ ⟨xH,tQ,xK⟩ d_ H) (bg.Q H0 Ri R0  r)
def bg.pj1 (F:Nat)  (oP:VE) (oQ:VE):Option (List Int×List Int×Bool):=some (oP,oQ,false)
theorem bg.j1_P   {FD FE xM xN FF FG oP oQ} (Rm:xM=oP.length) (Rp:xN=oQ.length) (h0:Out H0 Ri H R0 λR=>ROs eI H R ⟨FD,xM,FF⟩ oP/\ROs eI H R ⟨FE,xN,FG⟩ oQ) {r:Wm} (hp:bg.pj1 F  oP oQ=some r):Rt (bg.j1 F (bW.tw F) (aI.tw F) (ew.tw F)  ⟨FD,xM,FF⟩ ⟨FE,xN,FG⟩ H) (bg.Q H0 Ri R0  r):=by
 obtain ⟨w0,s0,Rq,Rr⟩:=h0
 subst Rm
 subst Rp
 unfold bg.pj1 at hp
 unfold bg.j1
 exact aJ hp ⟨_,_,_,_,_,_,rfl,rfl,rfl,w0,s0,Rq,Rr⟩
def bg.pl29 (F:Nat) :Nat->List Int->List Int->List Int->Int->Option (List Int×List Int×Bool)
 | 0,_,_,_,_=>none
 | k+1,iS,gS,iC,d_=>(bif (decide (d_<(iS.length:Int))) then ((ix gS (wrap .i64 (d_ - 1))).bind λn1=>(ix gS d_).bind λn2=>(bif (decide ((gt gS n1)>(gt gS n2))) then ((ix iC (wrap .i64 (d_ - 1))).bind λn3=>(ix iC d_).bind λn4=>(bif (decide ((gt iC n3)<(gt iC n4))) then ((aI.p F iS d_).bind λr5=>(ew.p F gS d_).bind λr7=>some (r5,r7,true)) else (bg.pl29 F k iS gS iC (wrap .i64 (d_+1))))) else (bg.pl29 F k iS gS iC (wrap .i64 (d_+1))))) else (bg.pj1 F iS gS))
theorem bg.l29_P  :∀ k,bg.S29 H0 Ri R0  (bg.l29 F (bW.tw F) (aI.tw F) (ew.tw F)  k) (bg.pl29 F  k):=by
 intro k
 induction k with
 | zero=>unfold bg.S29;intros;rename_i hp;cases hp
 | succ k ih=>
  intro xF xG xH tO tP tQ xI xJ xK iS gS iC xL d_ H Ru Rv Rw h0 r hp
  obtain ⟨w0,s0,tR,mR,tS⟩:=h0
  subst Ru
  subst Rv
  subst Rw
  unfold bg.pl29 at hp
  unfold bg.l29
  refine aE hp (λhp=>?_) λhp=>?_
  ·obtain ⟨n1,g1,hp⟩:=ae hp
   obtain ⟨p1,q1,i1,h1,j1⟩:=ROs.ixr mR rfl g1
   refine ai i1 ?_
   have h1:_=[_]:=h1
   subst h1
   refine ai (bL (j1 0 _ rfl)) ?_
   obtain ⟨n2,g2,hp⟩:=ae hp
   obtain ⟨p2,q2,i2,h2,j2⟩:=ROs.ixr mR rfl g2
   refine ai i2 ?_
   have h2:_=[_]:=h2
   subst h2
   refine ai (bL (j2 0 _ rfl)) ?_
   refine aE hp (λhp=>?_) λhp=>?_
   ·obtain ⟨n3,g3,hp⟩:=ae hp
    obtain ⟨p3,q3,i3,h3,j3⟩:=W.ixo (E:=eI) w0 (i:=0) rfl rfl tS g3
    refine ai i3 ?_
    have h3:_=[_]:=h3
    subst h3
    refine ai (bL (j3 0 _ rfl)) ?_
    obtain ⟨n4,g4,hp⟩:=ae hp
    obtain ⟨p4,q4,i4,h4,j4⟩:=W.ixo (E:=eI) w0 (i:=0) rfl rfl tS g4
    refine ai i4 ?_
    have h4:_=[_]:=h4
    subst h4
    refine ai (bL (j4 0 _ rfl)) ?_
    refine aE hp (λhp=>?_) λhp=>?_
    ·obtain ⟨r5,e5,hp⟩:=ae hp
     refine aG (aI.P rfl ⟨w0,tR⟩ e5) ?_
     rintro _ H6 ⟨o0a_6,o0n_6,o0c_6,o0k_6,rfl,rfl,w6,s6,f6_0⟩
     refine br ?_
     obtain ⟨r7,e7,hp⟩:=ae hp
     refine aG (ew.P rfl ⟨w6,(mR.step s6)⟩ e7) ?_
     rintro _ H8 ⟨o0a_8,o0n_8,o0c_8,o0k_8,rfl,rfl,w8,s8,f8_0⟩
     refine br ?_
     obtain ⟨w9,s9,f9⟩:=w8.frz (i:=1) eI rfl (f6_0.step s8)
     obtain ⟨w10,s10,f10⟩:=w9.frz (i:=0) eI rfl (f8_0.step s9)
     obtain ⟨w11,s11⟩:=w10.pp [] 1
     exact aJ hp ⟨_,_,_,_,_,_,rfl,rfl,rfl,w11,(s0.trans (s6.trans (s8.trans (s9.trans (s10.trans s11))))),(f9.step (s10.trans s11)),(f10.step s11)⟩
    ·exact ih rfl rfl rfl ⟨w0,s0,tR,mR,tS⟩ hp
   ·exact ih rfl rfl rfl ⟨w0,s0,tR,mR,tS⟩ hp
  ·obtain ⟨w12,s12⟩:=w0.pp [] 1
   exact bg.j1_P rfl rfl ⟨w12,(s0.trans s12),(tR.step s12),(mR.step s12)⟩ hp
def bg.p (F:Nat) (ar:VE) (cO:VE):Option (List Int×List Int×Bool):=(bW.p F ar).bind λr1=>bg.pl29 F F ar cO r1 1
theorem bg.P {aY eV aL dw aZ eW ar cO} (cq:aL=ar.length) (iA:dw=cO.length) (h0:Inn H R0 λR=>ROs eI H R ⟨aY,aL,aZ⟩ ar/\ROs eI H R ⟨eV,dw,eW⟩ cO) {r:Wm} (hp:bg.p F ar cO=some r):Rt (bg.tw F ⟨aY,aL,aZ⟩ ⟨eV,dw,eW⟩ H) (bg.Q H R0 R0  r):=by
 obtain ⟨w0,cj,iB⟩:=h0
 subst cq
 subst iA
 unfold bg.p at hp
 unfold bg.tw bg.twX
 have s0:=w0.rf
 obtain ⟨r1,e1,hp⟩:=ae hp
 refine aG (bW.P rfl ⟨w0,cj⟩ e1) ?_
 rintro _ H2 ⟨o0a_2,o0n_2,o0c_2,o0k_2,rfl,rfl,w2,s2,f2_0⟩
 refine br ?_
 exact bg.l29_P F rfl rfl rfl ⟨w2,(s0.trans s2),(cj.step s2),(iB.step s2),f2_0⟩ hp
def aT.Q (H0:Hp) (Ri R0:VJ)  (r:VR) (v:AV) (H':Hp):Prop:=∃ o0a:ON,∃ o0n:Nat,∃ o0c:Cap,∃ o0k:List AV,v=(.sl ⟨o0a,o0n,o0c⟩)/\o0n=(r).length/\Out H0 Ri H' (Rs.own ⟨o0a,o0n,o0c⟩ (eSl eI).z o0k::R0) λR=>CR (eSl eI) H' R o0k (r)
def aT.S29 (H0:Hp) (Ri R0:VJ)  (C:VK) (pC:Ww):Prop:=∀ {xO tT xP gy xQ dX},∀ {H:Hp},tT=gy.length->(Out H0 Ri H (Rs.own ⟨xO,tT,xP⟩ (eSl eI).z xQ::R0) λR=>CR (eSl eI) H R xQ gy)->∀ {r:VR},pC gy dX=some r->Rt (C ⟨xO,tT,xP⟩ dX H) (aT.Q H0 Ri R0  r)
def aT.pj2 (F:Nat) (az:Ww) (oR:VR) (mq:Int):Option (List (List Int)):=az oR (wrap .i64 (mq+1))
theorem aT.j2_P  {C29_:VK} {az:Ww} (hC29:aT.S29 H0 Ri R0  C29_ az) {FH xR FI oR FJ mq} (Rx:xR=oR.length) (h0:Out H0 Ri H (Rs.own ⟨FH,xR,FI⟩ (eSl eI).z FJ::R0) λR=>CR (eSl eI) H R FJ oR) {r:VR} (hp:aT.pj2 F az oR mq=some r):Rt (aT.j2 F (bg.tw F) C29_ ⟨FH,xR,FI⟩ mq H) (aT.Q H0 Ri R0  r):=by
 obtain ⟨w0,s0,Ry⟩:=h0
 subst Rx
 unfold aT.pj2 at hp
 unfold aT.j2
 exact hC29 rfl ⟨w0,s0,Ry⟩ hp
def aT.pl29 (F:Nat) :Nat->List (List Int)->Int->Option (List (List Int))
 | 0,_,_=>none
 | k+1,gy,dX=>(bif (decide ((wrap .i64 (dX+1))<(gy.length:Int))) then ((ix gy dX).bind λn1=>(ix gy (wrap .i64 (dX+1))).bind λn2=>(bg.p F (gt gy n1) (gt gy n2)).bind λr3=>(bif r3.2.2 then ((ix gy dX).bind λn5=>(some (gy.set n5 r3.1)).bind λl6=>(ix l6 (wrap .i64 (dX+1))).bind λn8=>(some (l6.set n8 r3.2.1)).bind λl9=>aT.pj2 F (aT.pl29 F k) l9 (-1)) else (aT.pj2 F (aT.pl29 F k) gy dX))) else (some gy))
theorem aT.l29_P  :∀ k,aT.S29 H0 Ri R0  (aT.l29 F (bg.tw F)  k) (aT.pl29 F  k):=by
 intro k
 induction k with
 | zero=>unfold aT.S29;intros;rename_i hp;cases hp
 | succ k ih=>
  intro xO tT xP gy xQ dX H Rz h0 r hp
  obtain ⟨w0,s0,mS⟩:=h0
  subst Rz
  unfold aT.pl29 at hp
  unfold aT.l29
  refine aE hp (λhp=>?_) λhp=>?_
  ·obtain ⟨n1,g1,hp⟩:=ae hp
   obtain ⟨p1,q1,i1,h1,j1⟩:=W.ixo (E:=(eSl eI)) w0 (i:=0) rfl rfl mS g1
   refine ai i1 ?_
   obtain ⟨⟨oH,m1_0,c1_0⟩,rfl,f1_0⟩:=h1
   obtain rfl:m1_0=_:=f1_0.n
   refine ai (ck (j1 0 _ rfl)) ?_
   obtain ⟨n2,g2,hp⟩:=ae hp
   obtain ⟨p2,q2,i2,h2,j2⟩:=W.ixo (E:=(eSl eI)) w0 (i:=0) rfl rfl mS g2
   refine ai i2 ?_
   obtain ⟨⟨xp,m2_0,c2_0⟩,rfl,f2_0⟩:=h2
   obtain rfl:m2_0=_:=f2_0.n
   refine ai (ck (j2 0 _ rfl)) ?_
   obtain ⟨r3,e3,hp⟩:=ae hp
   refine aG (bg.P rfl rfl ⟨w0,f1_0,f2_0⟩ e3) ?_
   rintro _ H4 ⟨o0a_4,o0n_4,o0c_4,o1a_4,o1n_4,o1c_4,rfl,rfl,rfl,w4,s4,f4_0,f4_1⟩
   refine br (br (br (br (br (br (br ?_))))))
   refine aE hp (λhp=>?_) λhp=>?_
   ·obtain ⟨n5,g5,hp⟩:=ae hp
    obtain ⟨p5,q5,i5,h5,j5⟩:=W.ixo (E:=(eSl eI)) w4 (i:=0) rfl rfl (mS.step s4) g5
    refine ai i5 ?_
    obtain ⟨l6,e6,hp⟩:=ae hp
    refine dd (eSl eI) w4 (i:=0) (j:=0) (p:=p5) rfl rfl (mS.step s4) g5 i5 e6 rfl rfl (λ_ h=>by obtain ⟨_,h,_⟩:=h;subst h;exact ⟨_,rfl,f4_0⟩) λH7 k7 w7 s7 c7=>?_
    obtain ⟨n8,g8,hp⟩:=ae hp
    obtain ⟨p8,q8,i8,h8,j8⟩:=W.ixo (E:=(eSl eI)) w7 (i:=0) rfl rfl c7 g8
    refine ai i8 ?_
    obtain ⟨l9,e9,hp⟩:=ae hp
    refine dd (eSl eI) w7 (i:=0) (j:=0) (p:=p8) rfl rfl c7 g8 i8 e9 rfl rfl (λ_ h=>by obtain ⟨_,h,_⟩:=h;subst h;exact ⟨_,rfl,(f4_1.step s7)⟩) λH10 k10 w10 s10 c10=>?_
    exact aT.j2_P (@ih) ((cT e6).symm.trans (cT e9).symm) ⟨w10,(s0.trans (s4.trans (s7.trans s10))),c10⟩ hp
   ·exact aT.j2_P (@ih) rfl ⟨w4,(s0.trans s4),(mS.step s4)⟩ hp
  ·exact aJ hp ⟨_,_,_,_,rfl,rfl,w0,s0,mS⟩
def aT.p (F:Nat) (ar:VR):Option (List (List Int)):=(apn ([]:List (List Int)) ar).bind λl3=>aT.pl29 F F l3 0
theorem aT.P {aY aL aZ ar} (cq:aL=ar.length) (h0:Inn H R0 λR=>ROs (eSl eI) H R ⟨aY,aL,aZ⟩ ar) {r:VR} (hp:aT.p F ar=some r):Rt (aT.tw F ⟨aY,aL,aZ⟩ H) (aT.Q H R0 R0  r):=by
 obtain ⟨w0,cj⟩:=h0
 subst cq
 unfold aT.p at hp
 unfold aT.tw aT.twX
 have s0:=w0.rf
 refine er (eSl eI) w0 (n:=0) (l:=([]:List (List Int))) rfl CR.empty rfl λH1 w1 s1 c1=>?_
 obtain ⟨x2,h2,c2⟩:=(cj.step s1).row rfl
 refine ai h2 ?_
 obtain ⟨l3,e3,hp⟩:=ae hp
 refine fj (eSl eI) w1 (i:=0) rfl rfl c1 c2 rfl rfl e3 λa4 d4 H4 w4 s4 c4 x4=>?_
 exact aT.l29_P F rfl ⟨w4,(s0.trans (s1.trans s4)),c4⟩ hp
def bl.Q (H0:Hp) (Ri R0:VJ)  (r:Bool) (v:AV) (H':Hp):Prop:=v=(.bool r)/\Out H0 Ri H' (R0) λR=>True
def bl.S29 (H0:Hp) (Ri R0:VJ)  (C:Wv) (pC:WB):Prop:=∀ {en ga dr fi eo gg bp cC bV},∀ {H:Hp},dr=bp.length->fi=cC.length->(Out H0 Ri H R0 λR=>ROs eI H R ⟨en,dr,eo⟩ bp/\ROs eI H R ⟨ga,fi,gg⟩ cC)->∀ {r:Bool},pC bp cC bV=some r->Rt (C ⟨en,dr,eo⟩ ⟨ga,fi,gg⟩ bV H) (bl.Q H0 Ri R0  r)
def bl.pl29 (F:Nat) :Nat->List Int->List Int->Int->Option (Bool)
 | 0,_,_,_=>none
 | k+1,bp,cC,bV=>(bif (decide (bV<(bp.length:Int))) then ((ix bp bV).bind λn1=>(ix cC bV).bind λn2=>(bif ((gt bp n1) != (gt cC n2)) then (some false) else (bl.pl29 F k bp cC (wrap .i64 (bV+1))))) else (some true))
theorem bl.l29_P  :∀ k,bl.S29 H0 Ri R0  (bl.l29 F   k) (bl.pl29 F  k):=by
 intro k
 induction k with
 | zero=>unfold bl.S29;intros;rename_i hp;cases hp
 | succ k ih=>
  intro en ga dr fi eo gg bp cC bV H gO jn h0 r hp
  obtain ⟨w0,s0,eC,gv⟩:=h0
  subst gO
  subst jn
  unfold bl.pl29 at hp
  unfold bl.l29
  refine aE hp (λhp=>?_) λhp=>?_
  ·obtain ⟨n1,g1,hp⟩:=ae hp
   obtain ⟨p1,q1,i1,h1,j1⟩:=ROs.ixr eC rfl g1
   refine ai i1 ?_
   have h1:_=[_]:=h1
   subst h1
   refine ai (bL (j1 0 _ rfl)) ?_
   obtain ⟨n2,g2,hp⟩:=ae hp
   obtain ⟨p2,q2,i2,h2,j2⟩:=ROs.ixr gv rfl g2
   refine ai i2 ?_
   have h2:_=[_]:=h2
   subst h2
   refine ai (bL (j2 0 _ rfl)) ?_
   refine aE hp (λhp=>?_) λhp=>?_
   ·exact aJ hp ⟨rfl,w0,s0,trivial⟩
   ·exact ih rfl rfl ⟨w0,s0,eC,gv⟩ hp
  ·exact aJ hp ⟨rfl,w0,s0,trivial⟩
def bl.p (F:Nat) (ar:VE) (cO:VE):Option (Bool):=(bif ((ar.length:Int) != (cO.length:Int)) then (some false) else (bl.pl29 F F ar cO 0))
theorem bl.P {aY eV aL dw aZ eW ar cO} (cq:aL=ar.length) (iA:dw=cO.length) (h0:Inn H R0 λR=>ROs eI H R ⟨aY,aL,aZ⟩ ar/\ROs eI H R ⟨eV,dw,eW⟩ cO) {r:Bool} (hp:bl.p F ar cO=some r):Rt (bl.tw F ⟨aY,aL,aZ⟩ ⟨eV,dw,eW⟩ H) (bl.Q H R0 R0  r):=by
 obtain ⟨w0,cj,iB⟩:=h0
 subst cq
 subst iA
 unfold bl.p at hp
 unfold bl.tw bl.twX
 have s0:=w0.rf
 refine aE hp (λhp=>?_) λhp=>?_
 ·exact aJ hp ⟨rfl,w0,s0,trivial⟩
 ·exact bl.l29_P F rfl rfl ⟨w0,s0,cj,iB⟩ hp
def ah.Q (H0:Hp) (Ri R0:VJ)  (r:VU) (v:AV) (H':Hp):Prop:=∃ o1a:ON,∃ o1n:Nat,∃ o1c:Cap,∃ o1k:List AV,v=(.agg [(.i r.1),(.sl ⟨o1a,o1n,o1c⟩)])/\o1n=(r.2).length/\Out H0 Ri H' (Rs.own ⟨o1a,o1n,o1c⟩ (eSl eI).z o1k::R0) λR=>CR (eSl eI) H' R o1k (r.2)
def ah.S125 (H0:Hp) (Ri R0:VJ)  (C:VY) (pC:VZ):Prop:=∀ {FK FL fU gJ fV xS xT xU tU iM tV jg tW xV xW xX hP xY jW xZ x_},∀ {H:Hp},tU=hP.length->tV=xY.length->tW=jW.length->(Out H0 Ri H (Rs.blk iM [.i FK,.sl ⟨xS,tU,xV⟩]::Rs.own ⟨xT,tV,xW⟩ (eSl eI).z xZ::Rs.blk jg [.i FL,.sl ⟨xT,tV,xW⟩]::Rs.own ⟨xU,tW,xX⟩ (eSl eI).z x_::R0) λR=>ROs eI H R ⟨xS,tU,xV⟩ hP/\CR (eSl eI) H R xZ xY/\CR (eSl eI) H R x_ jW)->∀ {r:VU},pC hP fU gJ jW fV=some r->Rt (C iM 0 jg 0 fU gJ ⟨xU,tW,xX⟩ fV H) (ah.Q H0 Ri R0  r)
def ah.pj11 (F:Nat) (eX:VZ) (oS:VE) (mD:Int) (mE:Int) (oT:VR) (mF:Int):Option (Int×List (List Int)):=eX oS mD mE oT (wrap .i64 (mF+1))
theorem ah.j11_P  {C125_:VY} {eX:VZ} (hC125:ah.S125 H0 Ri R0  C125_ eX) {RA RB mD mE mF FM FO FP ya rH yb rI yc FQ FR FS oS FT oT FU FV} (RC:ya=oS.length) (RD:yb=FT.length) (RE:yc=oT.length) (h0:Out H0 Ri H (Rs.blk rH [.i RA,.sl ⟨FM,ya,FQ⟩]::Rs.own ⟨FO,yb,FR⟩ (eSl eI).z FU::Rs.blk rI [.i RB,.sl ⟨FO,yb,FR⟩]::Rs.own ⟨FP,yc,FS⟩ (eSl eI).z FV::R0) λR=>ROs eI H R ⟨FM,ya,FQ⟩ oS/\CR (eSl eI) H R FU FT/\CR (eSl eI) H R FV oT) {r:VU} (hp:ah.pj11 F eX oS mD mE oT mF=some r):Rt (ah.j11 F (bD.tw F) (aI.tw F) (bI.tw F) (bE.tw F) (aT.tw F) (bl.tw F) C125_ rH 0 rI 0 mD mE ⟨FP,yc,FS⟩ mF H) (ah.Q H0 Ri R0  r):=by
 obtain ⟨w0,s0,RF,RG,RH⟩:=h0
 subst RC
 subst RD
 subst RE
 unfold ah.pj11 at hp
 unfold ah.j11
 exact hC125 rfl rfl rfl ⟨w0,s0,RF,RG,RH⟩ hp
def ah.S32093 (H0:Hp) (Ri R0:VJ)  (C:Nat->Nat->Nat->Nat->Int->Int->Sl->Int->Int->Int->Hp->OA) (pC:List Int->Int->Int->List (List Int)->Int->Int->Int->Option (Int×List (List Int))):Prop:=∀ {FW FX iq ir iu iw fT yd ye yf tX jH tY jI tZ yg yh yi kB yj iD yk yl},∀ {H:Hp},tX=kB.length->tY=yj.length->tZ=iD.length->(Out H0 Ri H (Rs.blk jH [.i FW,.sl ⟨yd,tX,yg⟩]::Rs.own ⟨ye,tY,yh⟩ (eSl eI).z yk::Rs.blk jI [.i FX,.sl ⟨ye,tY,yh⟩]::Rs.own ⟨yf,tZ,yi⟩ (eSl eI).z yl::R0) λR=>ROs eI H R ⟨yd,tX,yg⟩ kB/\CR (eSl eI) H R yk yj/\CR (eSl eI) H R yl iD)->∀ {r:VU},pC kB iq ir iD iu iw fT=some r->Rt (C jH 0 jI 0 iq ir ⟨yf,tZ,yi⟩ iu iw fT H) (ah.Q H0 Ri R0  r)
def ah.pj12 (F:Nat) (eX:VZ) (oU:VE) (mG:Int) (mH:Int) (oV:VR) (mI:Int):Option (Int×List (List Int)):=eX oU mG mH oV (wrap .i64 (mI+1))
theorem ah.j12_P  {C125_:VY} {eX:VZ} (hC125:ah.S125 H0 Ri R0  C125_ eX) {RI RJ mG mH mI FY FZ F_ ym rJ yn rK yo Ga Gb Gc oU Ge oV Gf Gg} (RK:ym=oU.length) (RN:yn=Ge.length) (RO:yo=oV.length) (h0:Out H0 Ri H (Rs.blk rJ [.i RI,.sl ⟨FY,ym,Ga⟩]::Rs.own ⟨FZ,yn,Gb⟩ (eSl eI).z Gf::Rs.blk rK [.i RJ,.sl ⟨FZ,yn,Gb⟩]::Rs.own ⟨F_,yo,Gc⟩ (eSl eI).z Gg::R0) λR=>ROs eI H R ⟨FY,ym,Ga⟩ oU/\CR (eSl eI) H R Gf Ge/\CR (eSl eI) H R Gg oV) {r:VU} (hp:ah.pj12 F eX oU mG mH oV mI=some r):Rt (ah.j12 F (bD.tw F) (aI.tw F) (bI.tw F) (bE.tw F) (aT.tw F) (bl.tw F) C125_ rJ 0 rK 0 mG mH ⟨F_,yo,Gc⟩ mI H) (ah.Q H0 Ri R0  r):=by
 obtain ⟨w0,s0,RP,RQ,RR⟩:=h0
 subst RK
 subst RN
 subst RO
 unfold ah.pj12 at hp
 unfold ah.j12
 exact hC125 rfl rfl rfl ⟨w0,s0,RP,RQ,RR⟩ hp
def ah.pj13 (F:Nat) (eX:VZ) (oW:VE) (jG:Int) (mJ:Int) (oX:VR) (mK:Int) (mL:Int):Option (Int×List (List Int)):=(bE.p F jG).bind λr1=>(aI.p F r1 (wrap .i64 (0 - mL))).bind λr4=>(apn oX ([r4]:List (List Int))).bind λl9=>ah.pj12 F eX oW jG mJ l9 mK
theorem ah.j13_P  {C125_:VY} {eX:VZ} (hC125:ah.S125 H0 Ri R0  C125_ eX) {RS RT jG mJ mK mL Gh Gi Gj yp rL yq rM yr Gk Gl Gm oW Gn oX Gp Gq} (RU:yp=oW.length) (RV:yq=Gn.length) (RW:yr=oX.length) (h0:Out H0 Ri H (Rs.blk rL [.i RS,.sl ⟨Gh,yp,Gk⟩]::Rs.own ⟨Gi,yq,Gl⟩ (eSl eI).z Gp::Rs.blk rM [.i RT,.sl ⟨Gi,yq,Gl⟩]::Rs.own ⟨Gj,yr,Gm⟩ (eSl eI).z Gq::R0) λR=>ROs eI H R ⟨Gh,yp,Gk⟩ oW/\CR (eSl eI) H R Gp Gn/\CR (eSl eI) H R Gq oX) {r:VU} (hp:ah.pj13 F eX oW jG mJ oX mK mL=some r):Rt (ah.j13 F (bD.tw F) (aI.tw F) (bI.tw F) (bE.tw F) (aT.tw F) (bl.tw F) C125_ rL 0 rM 0 jG mJ ⟨Gj,yr,Gm⟩ mK mL H) (ah.Q H0 Ri R0  r):=by
 obtain ⟨w0,s0,RX,RY,RZ⟩:=h0
 subst RU
 subst RV
 subst RW
 unfold ah.pj13 at hp
 unfold ah.j13
 obtain ⟨r1,e1,hp⟩:=ae hp
 refine aG (bE.P ⟨w0,trivial⟩ e1) ?_
 rintro _ H2 ⟨o0a_2,o0n_2,o0c_2,o0k_2,rfl,rfl,w2,s2,f2_0⟩
 refine br ?_
 have f3:=W.borrow1 eI w2 f2_0
 obtain ⟨w3,s3⟩:=w2.right1
 obtain ⟨r4,e4,hp⟩:=ae hp
 refine aG (aI.P rfl ⟨w3,f3⟩ e4) ?_
 rintro _ H5 ⟨o0a_5,o0n_5,o0c_5,o0k_5,rfl,rfl,w5,s5,f5_0⟩
 obtain ⟨w6,s6⟩:=W.frame1 w2 w5 s5
 refine br ?_
 obtain ⟨w7,s7,f7⟩:=w6.frz (i:=1) eI rfl (CR.flat (gC .i64) f5_0)
 refine er (eSl eI) w7 (n:=1) (l:=([r4]:List (List Int))) rfl (CR.cons1 ⟨_,rfl,f7⟩ CR.empty) rfl λH8 w8 s8 c8=>?_
 refine ai (w8.rowo (i:=0) rfl) ?_
 obtain ⟨l9,e9,hp⟩:=ae hp
 refine fj (eSl eI) w8 (i:=5) rfl rfl (RZ.step (s2.trans (s6.trans (s7.trans s8)))) c8 (show 1=List.length ([r4]:List (List Int)) from rfl) rfl e9 λa10 d10 H10 w10 s10 c10 x10=>?_
 obtain ⟨w11,s11⟩:=w10.pp [2,3,4,5] 6
 exact ah.j12_P (@hC125) rfl rfl rfl ⟨w11,(s0.trans (s2.trans (s6.trans (s7.trans (s8.trans (s10.trans s11)))))),(RX.step (s2.trans (s6.trans (s7.trans (s8.trans (s10.trans s11)))))),(RY.step (s2.trans (s6.trans (s7.trans (s8.trans (s10.trans s11)))))),(c10.step s11)⟩ hp
def ah.pl32093 (F:Nat) (eX:VZ):Nat->List Int->Int->Int->List (List Int)->Int->Int->Int->Option (Int×List (List Int))
 | 0,_,_,_,_,_,_,_=>none
 | k+1,kB,iq,ir,iD,iu,iw,fT=>(bif (decide (fT<(iD.length:Int))) then ((ix iD fT).bind λn1=>(bI.p F (gt iD n1)).bind λr2=>(ix iD fT).bind λn4=>(some (iD.set n4 r2)).bind λl6=>ah.pl32093 F eX k kB iq ir l6 iu iw (wrap .i64 (fT+1))) else (ah.pj13 F eX kB iq ir iD iu iw))
theorem ah.l32093_P  {C125_:VY} {eX:VZ} (hC125:ah.S125 H0 Ri R0  C125_ eX):∀ k,ah.S32093 H0 Ri R0  (ah.l32093 F (bD.tw F) (aI.tw F) (bI.tw F) (bE.tw F) (aT.tw F) (bl.tw F) C125_ k) (ah.pl32093 F eX k):=by
 intro k
 induction k with
 | zero=>unfold ah.S32093;intros;rename_i hp;cases hp
 | succ k ih=>
  intro FW FX iq ir iu iw fT yd ye yf tX jH tY jI tZ yg yh yi kB yj iD yk yl H R_ Sa Sb h0 r hp
  obtain ⟨w0,s0,Gr,Gs,t_⟩:=h0
  subst R_
  subst Sa
  subst Sb
  unfold ah.pl32093 at hp
  unfold ah.l32093
  refine aE hp (λhp=>?_) λhp=>?_
  ·obtain ⟨n1,g1,hp⟩:=ae hp
   obtain ⟨p1,q1,i1,h1,j1⟩:=W.ixo (E:=(eSl eI)) w0 (i:=3) rfl rfl t_ g1
   refine ai i1 ?_
   obtain ⟨⟨oH,m1_0,c1_0⟩,rfl,f1_0⟩:=h1
   obtain rfl:m1_0=_:=f1_0.n
   refine ai (ck (j1 0 _ rfl)) ?_
   obtain ⟨r2,e2,hp⟩:=ae hp
   refine aG (bI.P rfl ⟨w0,f1_0⟩ e2) ?_
   rintro _ H3 ⟨o0a_3,o0n_3,o0c_3,o0k_3,rfl,rfl,w3,s3,f3_0⟩
   refine br ?_
   obtain ⟨n4,g4,hp⟩:=ae hp
   obtain ⟨p4,q4,i4,h4,j4⟩:=W.ixo (E:=(eSl eI)) w3 (i:=4) rfl rfl (t_.step s3) g4
   refine ai i4 ?_
   obtain ⟨w5,s5,f5⟩:=w3.frz (i:=0) eI rfl f3_0
   obtain ⟨l6,e6,hp⟩:=ae hp
   refine dd (eSl eI) w5 (i:=3) (j:=0) (p:=p4) rfl rfl (t_.step (s3.trans s5)) g4 i4 e6 rfl rfl (λ_ h=>by obtain ⟨_,h,_⟩:=h;subst h;exact ⟨_,rfl,f5⟩) λH7 k7 w7 s7 c7=>?_
   exact ih rfl rfl ((cT e6).symm) ⟨w7,(s0.trans (s3.trans (s5.trans s7))),(Gr.step (s3.trans (s5.trans s7))),(Gs.step (s3.trans (s5.trans s7))),c7⟩ hp
  ·exact ah.j13_P (@hC125) rfl rfl rfl ⟨w0,s0,Gr,Gs,t_⟩ hp
def ah.S1021 (H0:Hp) (Ri R0:VJ)  (C:We) (pC:Wh):Prop:=∀ {Gt fz jX eR yt yu yv ua gI ub uc fS yw yx yy yz fE jq yA yB yC},∀ {H:Hp},ua=yz.length->ub=fE.length->uc=jq.length->(Out H0 Ri H (Rs.own ⟨yt,ua,yw⟩ (eSl eI).z yA::Rs.blk gI [.i Gt,.sl ⟨yt,ua,yw⟩]::Rs.own ⟨yu,ub,yx⟩ (eSl eI).z yB::Rs.own ⟨yv,uc,yy⟩ (eSl eI).z yC::Rs.blk fS [.i jX,.sl ⟨yv,uc,yy⟩]::R0) λR=>CR (eSl eI) H R yA yz/\CR (eSl eI) H R yB fE/\CR (eSl eI) H R yC jq)->∀ {r:VU},pC fz fE jX jq eR=some r->Rt (C gI 0 fz ⟨yu,ub,yx⟩ fS 0 eR H) (ah.Q H0 Ri R0  r)
def ah.pj7 (F:Nat) (gB:Wh) (mr:Int) (oY:VR) (ud:Int) (oZ:VR) (mu:Int):Option (Int×List (List Int)):=gB mr oY ud oZ (wrap .i64 (mu+1))
theorem ah.j7_P  {C1021_:We} {gB:Wh} (hC1021:ah.S1021 H0 Ri R0  C1021_ gB) {Sc mr ud mu Gu Gv Gw yD rA yE yF rB Gx Gy Gz GB oY oZ GC GD GE} (Sd:yD=GB.length) (Se:yE=oY.length) (Sf:yF=oZ.length) (h0:Out H0 Ri H (Rs.own ⟨Gu,yD,Gx⟩ (eSl eI).z GC::Rs.blk rA [.i Sc,.sl ⟨Gu,yD,Gx⟩]::Rs.own ⟨Gv,yE,Gy⟩ (eSl eI).z GD::Rs.own ⟨Gw,yF,Gz⟩ (eSl eI).z GE::Rs.blk rB [.i ud,.sl ⟨Gw,yF,Gz⟩]::R0) λR=>CR (eSl eI) H R GC GB/\CR (eSl eI) H R GD oY/\CR (eSl eI) H R GE oZ) {r:VU} (hp:ah.pj7 F gB mr oY ud oZ mu=some r):Rt (ah.j7 F (bD.tw F) (aI.tw F) (bI.tw F) (bE.tw F) (aT.tw F) (bl.tw F) C1021_ rA 0 mr ⟨Gv,yE,Gy⟩ rB 0 mu H) (ah.Q H0 Ri R0  r):=by
 obtain ⟨w0,s0,Sg,Sh,Si⟩:=h0
 subst Sd
 subst Se
 subst Sf
 unfold ah.pj7 at hp
 unfold ah.j7
 exact hC1021 rfl rfl rfl ⟨w0,s0,Sg,Sh,Si⟩ hp
def ah.pj8 (F:Nat) (gB:Wh) (mv:Int) (o_:VR) (ue:Int) (pc:VR) (mw:Int):Option (Int×List (List Int)):=gB mv o_ ue pc (wrap .i64 (mw+1))
theorem ah.j8_P  {C1021_:We} {gB:Wh} (hC1021:ah.S1021 H0 Ri R0  C1021_ gB) {Sj mv ue mw GF GG GH yG rC yH yI rD GI GJ GK GL o_ pc GM GN GO} (Sk:yG=GL.length) (Sn:yH=o_.length) (So:yI=pc.length) (h0:Out H0 Ri H (Rs.own ⟨GF,yG,GI⟩ (eSl eI).z GM::Rs.blk rC [.i Sj,.sl ⟨GF,yG,GI⟩]::Rs.own ⟨GG,yH,GJ⟩ (eSl eI).z GN::Rs.own ⟨GH,yI,GK⟩ (eSl eI).z GO::Rs.blk rD [.i ue,.sl ⟨GH,yI,GK⟩]::R0) λR=>CR (eSl eI) H R GM GL/\CR (eSl eI) H R GN o_/\CR (eSl eI) H R GO pc) {r:VU} (hp:ah.pj8 F gB mv o_ ue pc mw=some r):Rt (ah.j8 F (bD.tw F) (aI.tw F) (bI.tw F) (bE.tw F) (aT.tw F) (bl.tw F) C1021_ rC 0 mv ⟨GG,yH,GJ⟩ rD 0 mw H) (ah.Q H0 Ri R0  r):=by
 obtain ⟨w0,s0,Sp,Sq,Sr⟩:=h0
 subst Sk
 subst Sn
 subst So
 unfold ah.pj8 at hp
 unfold ah.j8
 exact hC1021 rfl rfl rfl ⟨w0,s0,Sp,Sq,Sr⟩ hp
def ah.pj9 (F:Nat) (gB:Wh) (mz:Int) (pd:VR) (uf:Int) (pe:VR) (mA:Int):Option (Int×List (List Int)):=ah.pj8 F gB mz pd uf pe mA
theorem ah.j9_P  {C1021_:We} {gB:Wh} (hC1021:ah.S1021 H0 Ri R0  C1021_ gB) {Su mz uf mA GP GQ GR yJ rE yK yL rF GS GT GU GV pd pe GW GX GY} (Sv:yJ=GV.length) (Sw:yK=pd.length) (Sx:yL=pe.length) (h0:Out H0 Ri H (Rs.own ⟨GP,yJ,GS⟩ (eSl eI).z GW::Rs.blk rE [.i Su,.sl ⟨GP,yJ,GS⟩]::Rs.own ⟨GQ,yK,GT⟩ (eSl eI).z GX::Rs.own ⟨GR,yL,GU⟩ (eSl eI).z GY::Rs.blk rF [.i uf,.sl ⟨GR,yL,GU⟩]::R0) λR=>CR (eSl eI) H R GW GV/\CR (eSl eI) H R GX pd/\CR (eSl eI) H R GY pe) {r:VU} (hp:ah.pj9 F gB mz pd uf pe mA=some r):Rt (ah.j9 F (bD.tw F) (aI.tw F) (bI.tw F) (bE.tw F) (aT.tw F) (bl.tw F) C1021_ rE 0 mz ⟨GQ,yK,GT⟩ rF 0 mA H) (ah.Q H0 Ri R0  r):=by
 obtain ⟨w0,s0,Sy,Sz,SA⟩:=h0
 subst Sv
 subst Sw
 subst Sx
 unfold ah.pj9 at hp
 unfold ah.j9
 exact ah.j8_P (@hC1021) rfl rfl rfl ⟨w0,s0,Sy,Sz,SA⟩ hp
def ah.pl1021 (F:Nat) :Nat->Int->List (List Int)->Int->List (List Int)->Int->Option (Int×List (List Int))
 | 0,_,_,_,_,_=>none
 | k+1,fz,fE,jX,jq,eR=>(bif (decide (eR<(fE.length:Int))) then ((ix fE eR).bind λn1=>(bD.p F fz).bind λr2=>(bl.p F (gt fE n1) r2).bind λr6=>(bif r6 then (ah.pj7 F (ah.pl1021 F k) fz fE jX jq eR) else ((ix fE eR).bind λn10=>(bE.p F fz).bind λr11=>(bl.p F (gt fE n10) r11).bind λr15=>(bif r15 then (ah.pj9 F (ah.pl1021 F k) fz fE (wrap .i64 (jX+1)) jq eR) else ((ix fE eR).bind λn20=>(apn jq ([(gt fE n20)]:List (List Int))).bind λl22=>ah.pj9 F (ah.pl1021 F k) fz fE jX l22 eR))))) else (some (jX,jq)))
theorem ah.l1021_P  :∀ k,ah.S1021 H0 Ri R0  (ah.l1021 F (bD.tw F) (aI.tw F) (bI.tw F) (bE.tw F) (aT.tw F) (bl.tw F)  k) (ah.pl1021 F  k):=by
 intro k
 induction k with
 | zero=>unfold ah.S1021;intros;rename_i hp;cases hp
 | succ k ih=>
  intro Gt fz jX eR yt yu yv ua gI ub uc fS yw yx yy yz fE jq yA yB yC H SB SC SD h0 r hp
  obtain ⟨w0,s0,yM,mT,ug⟩:=h0
  subst SB
  subst SC
  subst SD
  unfold ah.pl1021 at hp
  unfold ah.l1021
  refine aE hp (λhp=>?_) λhp=>?_
  ·obtain ⟨n1,g1,hp⟩:=ae hp
   obtain ⟨p1,q1,i1,h1,j1⟩:=W.ixo (E:=(eSl eI)) w0 (i:=2) rfl rfl mT g1
   refine ai i1 ?_
   obtain ⟨⟨oH,m1_0,c1_0⟩,rfl,f1_0⟩:=h1
   obtain rfl:m1_0=_:=f1_0.n
   refine ai (ck (j1 0 _ rfl)) ?_
   obtain ⟨r2,e2,hp⟩:=ae hp
   refine aG (bD.P ⟨w0,trivial⟩ e2) ?_
   rintro _ H3 ⟨o0a_3,o0n_3,o0c_3,o0k_3,rfl,rfl,w3,s3,f3_0⟩
   refine br ?_
   refine iE (W.cons_of (Rn:=[_]) w0 w3 s3) ?_
   have f5:=W.borrow1 eI w3 f3_0
   obtain ⟨w5,s5⟩:=w3.right1
   obtain ⟨r6,e6,hp⟩:=ae hp
   refine aG (bl.P rfl rfl ⟨w5,((f1_0.step s3).step s5),f5⟩ e6) ?_
   rintro _ H7 ⟨rfl,w7,s7,_⟩
   obtain ⟨w8,s8⟩:=W.frame1 w3 w7 s7
   refine br ?_
   refine aE hp (λhp=>?_) λhp=>?_
   ·obtain ⟨w9,s9⟩:=w8.pp [1,2,3,4,5] 6
    exact ah.j7_P (@ih) rfl rfl rfl ⟨w9,(s0.trans (s3.trans (s8.trans s9))),(yM.step (s3.trans (s8.trans s9))),(mT.step (s3.trans (s8.trans s9))),(ug.step (s3.trans (s8.trans s9)))⟩ hp
   ·obtain ⟨n10,g10,hp⟩:=ae hp
    obtain ⟨p10,q10,i10,h10,j10⟩:=W.ixo (E:=(eSl eI)) w8 (i:=3) rfl rfl (mT.step (s3.trans s8)) g10
    refine ai i10 ?_
    obtain ⟨⟨UY,m10_0,c10_0⟩,rfl,f10_0⟩:=h10
    obtain rfl:m10_0=_:=f10_0.n
    refine ai (ck (j10 0 _ rfl)) ?_
    obtain ⟨r11,e11,hp⟩:=ae hp
    refine aG (bE.P ⟨w8,trivial⟩ e11) ?_
    rintro _ H12 ⟨o0a_12,o0n_12,o0c_12,o0k_12,rfl,rfl,w12,s12,f12_0⟩
    refine br ?_
    refine iE (W.cons_of (Rn:=[_]) w8 w12 s12) ?_
    have f14:=W.borrow1 eI w12 f12_0
    obtain ⟨w14,s14⟩:=w12.right1
    obtain ⟨r15,e15,hp⟩:=ae hp
    refine aG (bl.P rfl rfl ⟨w14,((f10_0.step s12).step s14),f14⟩ e15) ?_
    rintro _ H16 ⟨rfl,w16,s16,_⟩
    obtain ⟨w17,s17⟩:=W.frame1 w12 w16 s16
    refine br ?_
    refine aE hp (λhp=>?_) λhp=>?_
    ·refine lI w17 6 ?_
     refine aM w17 6 λH18 w18 s18=>?_
     obtain ⟨w19,s19⟩:=w18.pp [2,3,4,5,6] 7
     exact ah.j9_P (@ih) rfl rfl rfl ⟨w19,(s0.trans (s3.trans (s8.trans (s12.trans (s17.trans (s18.trans s19)))))),(yM.step (s3.trans (s8.trans (s12.trans (s17.trans (s18.trans s19)))))),(mT.step (s3.trans (s8.trans (s12.trans (s17.trans (s18.trans s19)))))),(ug.step (s3.trans (s8.trans (s12.trans (s17.trans (s18.trans s19))))))⟩ hp
    ·refine lSl w17 6 ?_
     obtain ⟨n20,g20,hp⟩:=ae hp
     obtain ⟨p20,q20,i20,h20,j20⟩:=W.ixo (E:=(eSl eI)) w17 (i:=4) rfl rfl (mT.step (s3.trans (s8.trans (s12.trans s17)))) g20
     refine ai i20 ?_
     obtain ⟨⟨UZ,m20_0,c20_0⟩,rfl,f20_0⟩:=h20
     obtain rfl:m20_0=_:=f20_0.n
     refine ai (ck (j20 0 _ rfl)) ?_
     refine er (eSl eI) w17 (n:=1) (l:=([(gt fE n20)]:List (List Int))) rfl (CR.cons1 ⟨_,rfl,f20_0⟩ CR.empty) rfl λH21 w21 s21 c21=>?_
     refine ai (w21.rowo (i:=0) rfl) ?_
     obtain ⟨l22,e22,hp⟩:=ae hp
     refine fj (eSl eI) w21 (i:=6) rfl rfl (ug.step (s3.trans (s8.trans (s12.trans (s17.trans s21))))) c21 (show 1=List.length ([(gt fE n20)]:List (List Int)) from rfl) rfl e22 λa23 d23 H23 w23 s23 c23 x23=>?_
     refine aM w23 7 λH24 w24 s24=>?_
     obtain ⟨w25,s25⟩:=w24.pp [3,4,5,6,7] 8
     exact ah.j9_P (@ih) rfl rfl rfl ⟨w25,(s0.trans (s3.trans (s8.trans (s12.trans (s17.trans (s21.trans (s23.trans (s24.trans s25)))))))),(yM.step (s3.trans (s8.trans (s12.trans (s17.trans (s21.trans (s23.trans (s24.trans s25)))))))),(mT.step (s3.trans (s8.trans (s12.trans (s17.trans (s21.trans (s23.trans (s24.trans s25)))))))),(c23.step (s24.trans s25))⟩ hp
  ·refine lI w0 4 ?_
   refine lSl w0 4 ?_
   refine aM w0 1 λH26 w26 s26=>?_
   refine aM w26 1 λH27 w27 s27=>?_
   refine lI w27 1 ?_
   refine lSl w27 1 ?_
   obtain ⟨w28,s28⟩:=w27.pp [3] 5
   exact aJ hp ⟨_,_,_,_,rfl,rfl,w28,(s0.trans (s26.trans (s27.trans s28))),(ug.step (s26.trans (s27.trans s28)))⟩
def ah.pj10 (F:Nat)  (mB:Int) (mC:Int) (pf:VR):Option (Int×List (List Int)):=(aT.p F pf).bind λr2=>ah.pl1021 F F mB r2 mC ([]:List (List Int)) 0
theorem ah.j10_P   {SF mB mC GZ G_ yN rG yO Ha Hb Hc pf Hd He} (SG:yN=Hc.length) (SH:yO=pf.length) (h0:Out H0 Ri H (Rs.own ⟨GZ,yN,Ha⟩ (eSl eI).z Hd::Rs.blk rG [.i SF,.sl ⟨GZ,yN,Ha⟩]::Rs.own ⟨G_,yO,Hb⟩ (eSl eI).z He::R0) λR=>CR (eSl eI) H R Hd Hc/\CR (eSl eI) H R He pf) {r:VU} (hp:ah.pj10 F  mB mC pf=some r):Rt (ah.j10 F (bD.tw F) (aI.tw F) (bI.tw F) (bE.tw F) (aT.tw F) (bl.tw F)  rG 0 mB mC ⟨G_,yO,Hb⟩ H) (ah.Q H0 Ri R0  r):=by
 obtain ⟨w0,s0,SI,SJ⟩:=h0
 subst SG
 subst SH
 unfold ah.pj10 at hp
 unfold ah.j10
 obtain ⟨w1,s1,f1⟩:=w0.frz (i:=2) (eSl eI) rfl SJ
 obtain ⟨r2,e2,hp⟩:=ae hp
 refine aG (aT.P rfl ⟨w1,f1⟩ e2) ?_
 rintro _ H3 ⟨o0a_3,o0n_3,o0c_3,o0k_3,rfl,rfl,w3,s3,f3_0⟩
 refine br ?_
 refine cg w3 λH4 w4 s4=>?_
 refine aM w4 0 λH5 w5 s5=>?_
 refine aM w5 0 λH6 w6 s6=>?_
 obtain ⟨w7,s7⟩:=w6.nilS (eSl eI).z (by decide)
 obtain ⟨w8,s8⟩:=w7.pp [3,4,2,0,1] 5
 exact ah.l1021_P F rfl rfl rfl ⟨w8,(s0.trans (s1.trans (s3.trans (s4.trans (s5.trans (s6.trans (s7.trans s8))))))),(SI.step (s1.trans (s3.trans (s4.trans (s5.trans (s6.trans (s7.trans s8))))))),(f3_0.step (s4.trans (s5.trans (s6.trans (s7.trans s8))))),((CR.empty:CR (eSl eI) _ _ [] []).step s8)⟩ hp
def ah.pl125 (F:Nat) :Nat->List Int->Int->Int->List (List Int)->Int->Option (Int×List (List Int))
 | 0,_,_,_,_,_=>none
 | k+1,hP,fU,gJ,jW,fV=>(bif (decide (fV<(hP.length:Int))) then ((ix hP fV).bind λn1=>(bif (decide ((gt hP n1)>0)) then ((bD.p F fU).bind λr2=>(aI.p F r2 (gt hP n1)).bind λr5=>(apn jW ([r5]:List (List Int))).bind λl10=>ah.pj11 F (ah.pl125 F k) hP fU gJ l10 fV) else (ah.pl32093 F (ah.pl125 F k) F hP fU (wrap .i64 (gJ - 1)) jW fV (gt hP n1) 0))) else (ah.pj10 F fU gJ jW))
theorem ah.l125_P  :∀ k,ah.S125 H0 Ri R0  (ah.l125 F (bD.tw F) (aI.tw F) (bI.tw F) (bE.tw F) (aT.tw F) (bl.tw F)  k) (ah.pl125 F  k):=by
 intro k
 induction k with
 | zero=>unfold ah.S125;intros;rename_i hp;cases hp
 | succ k ih=>
  intro FK FL fU gJ fV xS xT xU tU iM tV jg tW xV xW xX hP xY jW xZ x_ H SK SL SM h0 r hp
  obtain ⟨w0,s0,yP,yQ,yR⟩:=h0
  subst SK
  subst SL
  subst SM
  unfold ah.pl125 at hp
  unfold ah.l125
  refine lSl w0 0 ?_
  refine aE hp (λhp=>?_) λhp=>?_
  ·refine lSl w0 0 ?_
   obtain ⟨n1,g1,hp⟩:=ae hp
   obtain ⟨p1,q1,i1,h1,j1⟩:=ROs.ixr yP rfl g1
   refine ai i1 ?_
   have h1:_=[_]:=h1
   subst h1
   refine ai (bL (j1 0 _ rfl)) ?_
   refine aE hp (λhp=>?_) λhp=>?_
   ·obtain ⟨r2,e2,hp⟩:=ae hp
    refine aG (bD.P ⟨w0,trivial⟩ e2) ?_
    rintro _ H3 ⟨o0a_3,o0n_3,o0c_3,o0k_3,rfl,rfl,w3,s3,f3_0⟩
    refine br ?_
    have f4:=W.borrow1 eI w3 f3_0
    obtain ⟨w4,s4⟩:=w3.right1
    obtain ⟨r5,e5,hp⟩:=ae hp
    refine aG (aI.P rfl ⟨w4,f4⟩ e5) ?_
    rintro _ H6 ⟨o0a_6,o0n_6,o0c_6,o0k_6,rfl,rfl,w6,s6,f6_0⟩
    obtain ⟨w7,s7⟩:=W.frame1 w3 w6 s6
    refine br ?_
    obtain ⟨w8,s8,f8⟩:=w7.frz (i:=1) eI rfl (CR.flat (gC .i64) f6_0)
    refine er (eSl eI) w8 (n:=1) (l:=([r5]:List (List Int))) rfl (CR.cons1 ⟨_,rfl,f8⟩ CR.empty) rfl λH9 w9 s9 c9=>?_
    refine ai (w9.rowo (i:=0) rfl) ?_
    obtain ⟨l10,e10,hp⟩:=ae hp
    refine fj (eSl eI) w9 (i:=5) rfl rfl (yR.step (s3.trans (s7.trans (s8.trans s9)))) c9 (show 1=List.length ([r5]:List (List Int)) from rfl) rfl e10 λa11 d11 H11 w11 s11 c11 x11=>?_
    obtain ⟨w12,s12⟩:=w11.pp [2,3,4,5] 6
    exact ah.j11_P (@ih) rfl rfl rfl ⟨w12,(s0.trans (s3.trans (s7.trans (s8.trans (s9.trans (s11.trans s12)))))),(yP.step (s3.trans (s7.trans (s8.trans (s9.trans (s11.trans s12)))))),(yQ.step (s3.trans (s7.trans (s8.trans (s9.trans (s11.trans s12)))))),(c11.step s12)⟩ hp
   ·exact ah.l32093_P (@ih) F rfl rfl rfl ⟨w0,s0,yP,yQ,yR⟩ hp
  ·obtain ⟨w13,s13⟩:=w0.pp [1,2,3] 4
   exact ah.j10_P rfl rfl ⟨w13,(s0.trans s13),(yQ.step s13),(yR.step s13)⟩ hp
def ah.p (F:Nat) (aa:Int) (aW:VE):Option (Int×List (List Int)):=ah.pl125 F F aW aa 0 ([]:List (List Int)) 0
theorem ah.P {aa cY ct cZ aW} (eD:ct=aW.length) (h0:Inn H R0 λR=>ROs eI H R ⟨cY,ct,cZ⟩ aW) {r:VU} (hp:ah.p F aa aW=some r):Rt (ah.tw F aa ⟨cY,ct,cZ⟩ H) (ah.Q H R0 R0  r):=by
 obtain ⟨w0,dG⟩:=h0
 subst eD
 unfold ah.p at hp
 unfold ah.tw ah.twX
 have s0:=w0.rf
 refine cg w0 λH1 w1 s1=>?_
 refine cg w1 λH2 w2 s2=>?_
 refine lI w2 1 ?_
 refine er (eSl eI) w2 (n:=0) (l:=([]:List (List Int))) rfl CR.empty rfl λH3 w3 s3 c3=>?_
 obtain ⟨w4,s4⟩:=w3.nilS (eSl eI).z (by decide)
 obtain ⟨w5,s5⟩:=w4.pp [3,0,2,1] 4
 exact ah.l125_P F rfl rfl (show 0=List.length ([]:List (List Int)) from rfl) ⟨w5,(s0.trans (s1.trans (s2.trans (s3.trans (s4.trans s5))))),(dG.step (s1.trans (s2.trans (s3.trans (s4.trans s5))))),((CR.empty:CR (eSl eI) _ _ [] []).step s5),(c3.step (s4.trans s5))⟩ hp
def bF.Q (H0:Hp) (Ri R0:VJ)  (r:Bool) (v:AV) (H':Hp):Prop:=v=(.bool r)/\Out H0 Ri H' (R0) λR=>True
def bF.S29 (H0:Hp) (Ri R0:VJ)  (C:Nat->Nat->Nat->Nat->Int->Hp->OA) (pC:List (List Int)->List (List Int)->Int->Option (Bool)):Prop:=∀ {Hf Hg fW yS yT uh jh ui jJ yU yV jr jY},∀ {H:Hp},uh=jr.length->ui=jY.length->(Out H0 Ri H (Rs.blk jh [.i Hf,.sl ⟨yS,uh,yU⟩]::Rs.blk jJ [.i Hg,.sl ⟨yT,ui,yV⟩]::R0) λR=>ROs (eSl eI) H R ⟨yS,uh,yU⟩ jr/\ROs (eSl eI) H R ⟨yT,ui,yV⟩ jY)->∀ {r:Bool},pC jr jY fW=some r->Rt (C jh 0 jJ 0 fW H) (bF.Q H0 Ri R0  r)
def bF.pl29 (F:Nat) :Nat->List (List Int)->List (List Int)->Int->Option (Bool)
 | 0,_,_,_=>none
 | k+1,jr,jY,fW=>(bif (decide (fW<(jr.length:Int))) then ((ix jr fW).bind λn1=>(ix jY fW).bind λn2=>(bl.p F (gt jr n1) (gt jY n2)).bind λr3=>(bif (!r3) then (some false) else (bF.pl29 F k jr jY (wrap .i64 (fW+1))))) else (some true))
theorem bF.l29_P  :∀ k,bF.S29 H0 Ri R0  (bF.l29 F (bl.tw F)  k) (bF.pl29 F  k):=by
 intro k
 induction k with
 | zero=>unfold bF.S29;intros;rename_i hp;cases hp
 | succ k ih=>
  intro Hf Hg fW yS yT uh jh ui jJ yU yV jr jY H SN SO h0 r hp
  obtain ⟨w0,s0,Hh,Hj⟩:=h0
  subst SN
  subst SO
  unfold bF.pl29 at hp
  unfold bF.l29
  refine lSl w0 0 ?_
  refine aE hp (λhp=>?_) λhp=>?_
  ·refine lSl w0 0 ?_
   obtain ⟨n1,g1,hp⟩:=ae hp
   obtain ⟨p1,q1,i1,h1,j1⟩:=ROs.ixr Hh rfl g1
   refine ai i1 ?_
   obtain ⟨⟨oH,m1_0,c1_0⟩,rfl,f1_0⟩:=h1
   obtain rfl:m1_0=_:=f1_0.n
   refine ai (ck (j1 0 _ rfl)) ?_
   refine lSl w0 1 ?_
   obtain ⟨n2,g2,hp⟩:=ae hp
   obtain ⟨p2,q2,i2,h2,j2⟩:=ROs.ixr Hj rfl g2
   refine ai i2 ?_
   obtain ⟨⟨xp,m2_0,c2_0⟩,rfl,f2_0⟩:=h2
   obtain rfl:m2_0=_:=f2_0.n
   refine ai (ck (j2 0 _ rfl)) ?_
   obtain ⟨r3,e3,hp⟩:=ae hp
   refine aG (bl.P rfl rfl ⟨w0,f1_0,f2_0⟩ e3) ?_
   rintro _ H4 ⟨rfl,w4,s4,_⟩
   refine br ?_
   refine aE hp (λhp=>?_) λhp=>?_
   ·obtain ⟨w5,s5⟩:=w4.pp [] 2
    exact aJ hp ⟨rfl,w5,(s0.trans (s4.trans s5)),trivial⟩
   ·exact ih rfl rfl ⟨w4,(s0.trans s4),(Hh.step s4),(Hj.step s4)⟩ hp
  ·obtain ⟨w6,s6⟩:=w0.pp [] 2
   exact aJ hp ⟨rfl,w6,(s0.trans s6),trivial⟩
def bF.p (F:Nat) (aa:Int) (aW:VR) (aC:Int) (cW:VR):Option (Bool):=(bif (aa != aC) then (some false) else ((bif ((aW.length:Int) != (cW.length:Int)) then (some false) else (bF.pl29 F F aW cW 0))))
theorem bF.P {aa aC cY gq ct fd cZ gr aW cW} (eD:ct=aW.length) (jl:fd=cW.length) (h0:Inn H R0 λR=>ROs (eSl eI) H R ⟨cY,ct,cZ⟩ aW/\ROs (eSl eI) H R ⟨gq,fd,gr⟩ cW) {r:Bool} (hp:bF.p F aa aW aC cW=some r):Rt (bF.tw F aa ⟨cY,ct,cZ⟩ aC ⟨gq,fd,gr⟩ H) (bF.Q H R0 R0  r):=by
 obtain ⟨w0,dG,gP⟩:=h0
 subst eD
 subst jl
 unfold bF.p at hp
 unfold bF.tw bF.twX
 have s0:=w0.rf
 refine cg w0 λH1 w1 s1=>?_
 refine cg w1 λH2 w2 s2=>?_
 refine lI w2 1 ?_
 refine lI w2 0 ?_
 refine aE hp (λhp=>?_) λhp=>?_
 ·obtain ⟨w3,s3⟩:=w2.pp [] 2
  exact aJ hp ⟨rfl,w3,(s0.trans (s1.trans (s2.trans s3))),trivial⟩
 ·refine lSl w2 1 ?_
  refine lSl w2 0 ?_
  refine aE hp (λhp=>?_) λhp=>?_
  ·obtain ⟨w4,s4⟩:=w2.pp [] 2
   exact aJ hp ⟨rfl,w4,(s0.trans (s1.trans (s2.trans s4))),trivial⟩
  ·obtain ⟨w5,s5⟩:=w2.pp [1,0] 2
   exact bF.l29_P F rfl rfl ⟨w5,(s0.trans (s1.trans (s2.trans s5))),(dG.step (s1.trans (s2.trans s5))),(gP.step (s1.trans (s2.trans s5)))⟩ hp
def cQ.Q (H0:Hp) (Ri R0:VJ)  (r:Bool) (v:AV) (H':Hp):Prop:=v=(.bool r)/\Out H0 Ri H' (R0) λR=>True
def cQ.p (F:Nat) (aa:Int) (aW:VE) (aC:Int) (cW:VE):Option (Bool):=(bo.p F aa aW).bind λr3=>(bif r3 then ((bo.p F aC cW).bind λr5=>(bif r5 then ((bif (aa==aC) then ((ah.p F aa aW).bind λr7=>(ah.p F aC cW).bind λr10=>(bF.p F r7.1 r7.2 r10.1 r10.2).bind λr15=>some r15) else (some false))) else (some false))) else (some false))
theorem cQ.P {aa aC cY gq ct fd cZ gr aW cW} (eD:ct=aW.length) (jl:fd=cW.length) (h0:Inn H R0 λR=>ROs eI H R ⟨cY,ct,cZ⟩ aW/\ROs eI H R ⟨gq,fd,gr⟩ cW) {r:Bool} (hp:cQ.p F aa aW aC cW=some r):Rt (cQ.tw F aa ⟨cY,ct,cZ⟩ aC ⟨gq,fd,gr⟩ H) (cQ.Q H R0 R0  r):=by
 obtain ⟨w0,dG,gP⟩:=h0
 subst eD
 subst jl
 unfold cQ.p at hp
 unfold cQ.tw cQ.twX
 have s0:=w0.rf
 refine cg w0 λH1 w1 s1=>?_
 refine cg w1 λH2 w2 s2=>?_
 refine lI w2 1 ?_
 refine lSl w2 1 ?_
 obtain ⟨r3,e3,hp⟩:=ae hp
 refine aG (bo.P rfl ⟨w2,(dG.step (s1.trans s2))⟩ e3) ?_
 rintro _ H4 ⟨rfl,w4,s4,_⟩
 refine br ?_
 refine aE hp (λhp=>?_) λhp=>?_
 ·refine lI w4 0 ?_
  refine lSl w4 0 ?_
  obtain ⟨r5,e5,hp⟩:=ae hp
  refine aG (bo.P rfl ⟨w4,(gP.step (s1.trans (s2.trans s4)))⟩ e5) ?_
  rintro _ H6 ⟨rfl,w6,s6,_⟩
  refine br ?_
  refine aE hp (λhp=>?_) λhp=>?_
  ·refine lI w6 1 ?_
   refine lI w6 0 ?_
   refine aE hp (λhp=>?_) λhp=>?_
   ·refine lI w6 1 ?_
    refine lSl w6 1 ?_
    obtain ⟨r7,e7,hp⟩:=ae hp
    refine aG (ah.P rfl ⟨w6,(dG.step (s1.trans (s2.trans (s4.trans s6))))⟩ e7) ?_
    rintro _ H8 ⟨o1a_8,o1n_8,o1c_8,o1k_8,rfl,rfl,w8,s8,f8_0⟩
    refine br (br (br (br (br ?_))))
    refine iE (W.cons_of (Rn:=[_]) w6 w8 s8) ?_
    refine lI w8 1 ?_
    refine lSl w8 1 ?_
    obtain ⟨r10,e10,hp⟩:=ae hp
    refine aG (ah.P rfl ⟨w8,(gP.step (s1.trans (s2.trans (s4.trans (s6.trans s8)))))⟩ e10) ?_
    rintro _ H11 ⟨o1a_11,o1n_11,o1c_11,o1k_11,rfl,rfl,w11,s11,f11_0⟩
    refine br (br (br (br (br ?_))))
    obtain ⟨w12,s12⟩:=w11.pp [1,0,2,3] 4
    have f13:=W.borrow1 (eSl eI) w12 (f8_0.step (s11.trans s12))
    obtain ⟨w13,s13⟩:=w12.right1
    have f14:=W.borrow1 (eSl eI) w13 ((f11_0.step s12).step s13)
    obtain ⟨w14,s14⟩:=w13.right1
    obtain ⟨r15,e15,hp⟩:=ae hp
    refine aG (bF.P rfl rfl ⟨w14,(f13.step s14),f14⟩ e15) ?_
    rintro _ H16 ⟨rfl,w16,s16,_⟩
    obtain ⟨w17,s17⟩:=W.frame1 w13 w16 s16
    obtain ⟨w18,s18⟩:=W.frame1 w12 w17 s17
    refine br ?_
    obtain ⟨w19,s19⟩:=w18.pp [] 4
    exact aJ hp ⟨rfl,w19,(s0.trans (s1.trans (s2.trans (s4.trans (s6.trans (s8.trans (s11.trans (s12.trans (s18.trans s19))))))))),trivial⟩
   ·obtain ⟨w20,s20⟩:=w6.pp [] 2
    exact aJ hp ⟨rfl,w20,(s0.trans (s1.trans (s2.trans (s4.trans (s6.trans s20))))),trivial⟩
  ·obtain ⟨w21,s21⟩:=w6.pp [] 2
   exact aJ hp ⟨rfl,w21,(s0.trans (s1.trans (s2.trans (s4.trans (s6.trans s21))))),trivial⟩
 ·obtain ⟨w22,s22⟩:=w4.pp [] 2
  exact aJ hp ⟨rfl,w22,(s0.trans (s1.trans (s2.trans (s4.trans s22)))),trivial⟩
def dB.Q (H0:Hp) (Ri R0:VJ)  (r:VE) (v:AV) (H':Hp):Prop:=∃ o0a:ON,∃ o0n:Nat,∃ o0c:Cap,∃ o0k:List AV,v=(.sl ⟨o0a,o0n,o0c⟩)/\o0n=(r).length/\Out H0 Ri H' (Rs.own ⟨o0a,o0n,o0c⟩ eI.z o0k::R0) λR=>CR eI H' R o0k (r)
def dB.p (F:Nat) (ar:VE):Option (List Int):=(if ar.length<=1000000/\wfs ar=true then some (ngv ar) else none)
theorem dB.P {aY aL aZ ar} (cq:aL=ar.length) (h0:Inn H R0 λR=>ROs eI H R ⟨aY,aL,aZ⟩ ar) {r:VE} (hp:dB.p F ar=some r):Rt (dB.tw F ⟨aY,aL,aZ⟩ H) (dB.Q H R0 R0  r):=by
 obtain ⟨w0,f0⟩:=h0
 subst cq
 unfold dB.p at hp
 unfold dB.tw pj
 have s0:=w0.rf
 obtain ⟨hc,hp⟩:=eY hp
 have hp:=Option.some.inj hp
 obtain ⟨xs,hx,cx⟩:=f0.row rfl
 refine ai hx ?_
 obtain rfl:=cx.ints_eq
 refine ai (HI _) ?_
 refine iE hc ?_
 by_cases hz:ar.length=0
 ·rw [if_pos hz]
  obtain ⟨w1,s1⟩:=w0.nilS eI.z (by decide)
  obtain rfl:r=[]:=List.length_eq_zero_iff.1 (by rw [<- hp,mX,hz])
  exact ⟨_,_,rfl,none,0,.ex 0,[],rfl,rfl,w1,s0.trans s1,CR.empty⟩
 ·rw [if_neg hz]
  obtain ⟨H2,e2,w2,s2⟩:=w0.newF ((ngv ar).map (AV.int .i64)) ar.length eI.z (by rw [List.length_map,mX];exact (Nat.mul_one _).symm) (by decide)
  subst e2
  subst hp
  exact ⟨_,_,rfl,some (_,0),_,.full 1,_,rfl,(mX _).symm,w2,s0.trans s2,CR.ints _ _ _ _⟩
def de.Q (H0:Hp) (Ri R0:VJ)  (r:Wn) (v:AV) (H':Hp):Prop:=∃ o1a:ON,∃ o1n:Nat,∃ o1c:Cap,∃ o1k:List AV,v=(.tup [(.agg [(.i r.1),(.sl ⟨o1a,o1n,o1c⟩)]),(.i r.2.2)])/\o1n=(r.2.1).length/\Out H0 Ri H' (Rs.own ⟨o1a,o1n,o1c⟩ eI.z o1k::R0) λR=>CR eI H' R o1k (r.2.1)
def de.p (F:Nat) (aa:Int) (aW:VE):Option (Int×List Int×Int):=(b_.p F aa aW).bind λr3=>(bif (!r3) then (some (0,([]:List Int),1)) else ((dB.p F aW).bind λr9=>some (aa,r9,0)))
theorem de.P {aa cY ct cZ aW} (eD:ct=aW.length) (h0:Inn H R0 λR=>ROs eI H R ⟨cY,ct,cZ⟩ aW) {r:Wn} (hp:de.p F aa aW=some r):Rt (de.tw F aa ⟨cY,ct,cZ⟩ H) (de.Q H R0 R0  r):=by
 obtain ⟨w0,dG⟩:=h0
 subst eD
 unfold de.p at hp
 unfold de.tw de.twX
 have s0:=w0.rf
 refine cg w0 λH1 w1 s1=>?_
 refine cg w1 λH2 w2 s2=>?_
 refine lI w2 1 ?_
 refine lSl w2 1 ?_
 obtain ⟨r3,e3,hp⟩:=ae hp
 refine aG (b_.P rfl ⟨w2,(dG.step (s1.trans s2))⟩ e3) ?_
 rintro _ H4 ⟨rfl,w4,s4,_⟩
 refine br ?_
 refine aE hp (λhp=>?_) λhp=>?_
 ·refine aM w4 0 λH5 w5 s5=>?_
  refine aM w5 0 λH6 w6 s6=>?_
  refine lI w6 0 ?_
  refine lSl w6 0 ?_
  obtain ⟨w7,s7⟩:=w6.nilS eI.z (by decide)
  obtain ⟨w8,s8⟩:=w7.pp [0] 3
  exact aJ hp ⟨_,_,_,_,rfl,rfl,w8,(s0.trans (s1.trans (s2.trans (s4.trans (s5.trans (s6.trans (s7.trans s8))))))),((CR.empty:CR eI _ _ [] []).step s8)⟩
 ·refine lI w4 1 ?_
  refine lSl w4 1 ?_
  obtain ⟨r9,e9,hp⟩:=ae hp
  refine aG (dB.P rfl ⟨w4,(dG.step (s1.trans (s2.trans s4)))⟩ e9) ?_
  rintro _ H10 ⟨o0a_10,o0n_10,o0c_10,o0k_10,rfl,rfl,w10,s10,f10_0⟩
  refine br ?_
  refine iE (W.cons_of (Rn:=[_]) w4 w10 s10) ?_
  refine aM w10 1 λH12 w12 s12=>?_
  refine aM w12 1 λH13 w13 s13=>?_
  refine lI w13 1 ?_
  refine lSl w13 1 ?_
  obtain ⟨w14,s14⟩:=w13.pp [0] 3
  exact aJ hp ⟨_,_,_,_,rfl,rfl,w14,(s0.trans (s1.trans (s2.trans (s4.trans (s10.trans (s12.trans (s13.trans s14))))))),(f10_0.step (s12.trans (s13.trans s14)))⟩
def bs.Q (H0:Hp) (Ri R0:VJ)  (r:VE) (v:AV) (H':Hp):Prop:=∃ o0a:ON,∃ o0n:Nat,∃ o0c:Cap,∃ o0k:List AV,v=(.sl ⟨o0a,o0n,o0c⟩)/\o0n=(r).length/\Out H0 Ri H' (Rs.own ⟨o0a,o0n,o0c⟩ eI.z o0k::R0) λR=>CR eI H' R o0k (r)
theorem bs.cat1 {F:Nat} {g:VK} {H:Hp} {R:VJ} {w:Sl} {L:VR} (f:ROs (eSl eI) H R w L):∀ (m k i acc:Nat),L.length - i=m->m<k->i<=L.length->L.length<=4294967296->acc+(L.drop i).flatten.length<=4294967296 ->
  bs.l29 F g k w (acc:Int) w (L.length:Int) (i:Int) H=bs.j2 F g w ((acc+(L.drop i).flatten.length:Nat):Int) H:=by
 intro m
 induction m with
 | zero=>
  intro k i acc hm hk hi hL hc
  obtain ⟨k,rfl⟩:∃ k',k=k'+1:=⟨k - 1,by omega⟩
  rw [bs.l29,decide_eq_false (by omega),cond_false,List.drop_eq_nil_of_le (by omega)]
  rfl
 | succ m ih=>
  intro k i acc hm hk hi hL hc
  obtain ⟨k,rfl⟩:∃ k',k=k'+1:=⟨k - 1,by omega⟩
  have hi':i<L.length:=by omega
  obtain ⟨p,cs,e1,e2,e3⟩:=ROs.ixr (z:=1) f rfl (show ix L (i:Int)=some i by unfold ix;rw [if_pos ⟨by omega,by omega⟩];rfl)
  obtain ⟨se,rfl,fe⟩:=e2
  have hx:H.ldSl p.1 p.2=some se:=ck (e3 0 _ rfl)
  have hg:gt L i=L[i]:=by unfold gt;simp [hi']
  have hd:L.drop i=gt L i::L.drop (i+1):=by rw [hg];exact List.drop_eq_getElem_cons hi'
  have hsn:se.n=(gt L i).length:=fe.n
  rw [hd,List.flatten_cons,List.length_append] at hc ⊢
  rw [bs.l29,decide_eq_true (by omega),cond_true,e1,Option.bind_some,hx,Option.bind_some,hsn,aS (x:=(acc:Int)+((gt L i).length:Int)) (by omega) (by omega),decide_eq_false (by omega),cond_false]
  unfold bs.j3
  rw [aS (x:=(i:Int)+1) (by omega) (by omega)]
  have:=ih k (i+1) (acc+(gt L i).length) (by omega) (by omega) (by omega) hL (by omega)
  rw [show ((acc:Int)+((gt L i).length:Int))=((acc+(gt L i).length:Nat):Int) by omega,show ((i:Int)+1)=((i+1:Nat):Int) by omega,this,Nat.add_assoc]
theorem bs.cat2 {F:Nat} {g:VK} {H0:Hp} {R:VJ} {w:Sl} {L:VR} (f:ROs (eSl eI) H0 R w L):∀ (m k i:Nat) (H:Hp) (s:Sl) (l:VE) (r:Nat),L.length - i=m->m<k->i<=L.length->L.length<=4294967296->(L.drop i).flatten.length=r->l.length+r<=4294967296->GA H0 R H s l r ->
  ∃ s' H',bs.l125 F g k s w (L.length:Int) (i:Int) H=some (.sl s',H')/\GA H0 R H' s' (l++(L.drop i).flatten) 0:=by
 intro m
 induction m with
 | zero=>
  intro k i H s l r hm hk hi hL hr hl h
  obtain ⟨k,rfl⟩:∃ k',k=k'+1:=⟨k - 1,by omega⟩
  rw [List.drop_eq_nil_of_le (by omega)] at hr ⊢
  obtain rfl:r=0:=by rw [<- hr];rfl
  rw [bs.l125,decide_eq_false (by omega),cond_false]
  exact ⟨s,H,rfl,by simpa using h⟩
 | succ m ih=>
  intro k i H s l r hm hk hi hL hr hl h
  obtain ⟨k,rfl⟩:∃ k',k=k'+1:=⟨k - 1,by omega⟩
  have hi':i<L.length:=by omega
  obtain ⟨R',f'⟩:=h.ro f
  obtain ⟨p,cs,e1,e2,e3⟩:=ROs.ixr (z:=1) f' rfl (show ix L (i:Int)=some i by unfold ix;rw [if_pos ⟨by omega,by omega⟩];rfl)
  obtain ⟨se,rfl,fe⟩:=e2
  have hx:H.ldSl p.1 p.2=some se:=ck (e3 0 _ rfl)
  have hg:gt L i=L[i]:=by unfold gt;simp [hi']
  have hd:L.drop i=gt L i::L.drop (i+1):=by rw [hg];exact List.drop_eq_getElem_cons hi'
  have hsn:se.n=(gt L i).length:=fe.n
  rw [hd,List.flatten_cons] at hr ⊢
  rw [List.length_append] at hr
  obtain ⟨xs,x1,x2⟩:=fe.row (z:=1) rfl
  obtain rfl:=x2.ints_eq
  obtain ⟨s',H',a1,a2⟩:=h.app (gt L i) (by omega) (by omega)
  obtain ⟨s2,H2,q1,q2⟩:=ih k (i+1) H' s' (l++gt L i) (r - (gt L i).length) (by omega) (by omega) (by omega) hL (by omega) (by rw [List.length_append];omega) a2
  rw [bs.l125,decide_eq_true (by omega),cond_true,e1,Option.bind_some,hx,Option.bind_some,x1,Option.bind_some,hsn,a1,Option.bind_some,aS (x:=(i:Int)+1) (by omega) (by omega),show ((i:Int)+1)=((i+1:Nat):Int) by omega]
  exact ⟨s2,H2,q1,by rw [List.append_assoc] at q2;exact q2⟩
theorem bs.cat {F:Nat} {H:Hp} {R:VJ} {w:Sl} {L:VR} (w0:W H R) (f:ROs (eSl eI) H R w L) (hF:L.length<F) (hL:L.length<=4294967296) (hc:L.flatten.length<=4294967296):∃ s' H',bs.tw F w H=some (.sl s',H')/\GA H R H' s' L.flatten 0:=by
 have hn:w.n=L.length:=f.n
 have e1:bs.l29 F (ey.tw F) F w 0 w (L.length:Int) 0 H=bs.j2 F (ey.tw F) w ((L.flatten.length:Nat):Int) H:=by
  have:=bs.cat1 (F:=F) (g:=ey.tw F) f L.length F 0 0 (by omega) hF (Nat.zero_le _) hL (by simpa using hc)
  simpa using this
 have e0:∀ n:Nat,n<=4294967296->wrap .i64 ((n:Int) - wrap .i64 (((0:Nat):Int) - (((⟨none,0,.ex 0⟩:Sl).n:Nat):Int)))=(n:Int):=λn h=>by
  show wrap .i64 ((n:Int) - wrap .i64 (((0:Nat):Int) - ((0:Nat):Int)))=(n:Int)
  rw [aS (x:=((0:Nat):Int) - ((0:Nat):Int)) (by omega) (by omega),aS (by omega) (by omega)];omega
 have gz:∀ n:Nat,n=0->ey.tw F ⟨none,0,.ex 0⟩ (n:Int) H=some (.sl ⟨none,0,.ex 0⟩,H):=λn h0=>by
  unfold ey.tw ey.twX ey.j1
  rw [decide_eq_false (show ¬ (n:Int)<0 by omega),cond_false]
  dsimp only [Sl.capK]
  rw [e0 _ (by omega),decide_eq_false (show ¬ (n:Int)>0 by omega),cond_false]
 have gp:∀ n:Nat,0<n->n<=4294967296->∃ H1,ey.tw F ⟨none,0,.ex 0⟩ (n:Int) H=some (.sl ⟨some (H.length,0),0,.full 1⟩,H1)/\GA H R H1 ⟨some (H.length,0),0,.full 1⟩ [] n:=λn h0 hl=>by
  obtain ⟨H1,g1,g2,g3⟩:=GA.grow w0 (n:=n) h0 hl
  refine ⟨H1,?_,g3⟩
  unfold ey.tw ey.twX ey.j1
  rw [decide_eq_false (show ¬ (n:Int)<0 by omega),cond_false]
  dsimp only [Sl.capK]
  have g0:Sl.cut (⟨none,0,.ex 0⟩:Sl) 1 0 ((0:Nat):Int)=some ⟨none,0,.ex 0⟩:=by unfold Sl.cut;simp
  have g2:Sl.cut (⟨some (H.length,0),n,.full 1⟩:Sl) 1 0 (((⟨none,0,.ex 0⟩:Sl).n:Nat):Int)=some ⟨some (H.length,0),0,.full 1⟩:=g2
  rw [e0 _ hl,decide_eq_true (show (n:Int)>0 by omega),cond_true,g0,Option.bind_some,if_pos ⟨by omega,by omega⟩,Int.toNat_natCast,g1,Option.bind_some,g2,Option.bind_some]
 unfold bs.tw bs.twX
 rw [hn,e1]
 unfold bs.j2
 by_cases h0:L.flatten.length=0
 ·rw [gz _ h0,Option.bind_some]
  obtain ⟨s2,H2,q1,q2⟩:=bs.cat2 (F:=F) (g:=ey.tw F) f L.length F 0 H ⟨none,0,.ex 0⟩ [] 0 (by omega) hF (Nat.zero_le _) hL (by simpa using h0) (by simp) ⟨rfl,.inl ⟨rfl,rfl,rfl,w0,w0.rf⟩⟩
  refine ⟨s2,H2,?_,by simpa using q2⟩
  show (AV.asSl (.sl (⟨none,0,.ex 0⟩:Sl))).bind _=_
  rw [show AV.asSl (.sl (⟨none,0,.ex 0⟩:Sl))=some ⟨none,0,.ex 0⟩ from rfl,Option.bind_some,hn]
  exact q1
 ·obtain ⟨H1,g1,g3⟩:=gp _ (by omega) hc
  rw [g1,Option.bind_some]
  obtain ⟨s2,H2,q1,q2⟩:=bs.cat2 (F:=F) (g:=ey.tw F) f L.length F 0 H1 _ [] _ (by omega) hF (Nat.zero_le _) hL (by simp) (by simpa using hc) g3
  refine ⟨s2,H2,?_,by simpa using q2⟩
  show (AV.asSl (.sl (⟨some (H.length,0),0,.full 1⟩:Sl))).bind _=_
  rw [show AV.asSl (.sl (⟨some (H.length,0),0,.full 1⟩:Sl))=some ⟨some (H.length,0),0,.full 1⟩ from rfl,Option.bind_some,hn]
  exact q1
def bs.p (F:Nat) (ar:VR):Option (List Int):=(if ar.length<F/\ar.length<=4294967296/\ar.flatten.length<=4294967296 then some ar.flatten else none)
theorem bs.P {aY aL aZ ar} (cq:aL=ar.length) (h0:Inn H R0 λR=>ROs (eSl eI) H R ⟨aY,aL,aZ⟩ ar) {r:VE} (hp:bs.p F ar=some r):Rt (bs.tw F ⟨aY,aL,aZ⟩ H) (bs.Q H R0 R0  r):=by
 obtain ⟨w0,f0⟩:=h0
 subst cq
 unfold bs.p at hp
 obtain ⟨⟨hF,hL,hc⟩,hp⟩:=eY hp
 obtain rfl:=Option.some.inj hp
 obtain ⟨s',H2,e,h2⟩:=bs.cat (F:=F) w0 f0 hF hL hc
 obtain ⟨a,c,rfl,w3,fr⟩:=h2.out
 exact ⟨_,_,e,a,_,c,_,rfl,rfl,w3,fr,CR.ints _ _ _ _⟩
def dc.Q (H0:Hp) (Ri R0:VJ)  (r:Wn) (v:AV) (H':Hp):Prop:=∃ o1a:ON,∃ o1n:Nat,∃ o1c:Cap,∃ o1k:List AV,v=(.tup [(.agg [(.i r.1),(.sl ⟨o1a,o1n,o1c⟩)]),(.i r.2.2)])/\o1n=(r.2.1).length/\Out H0 Ri H' (Rs.own ⟨o1a,o1n,o1c⟩ eI.z o1k::R0) λR=>CR eI H' R o1k (r.2.1)
def dc.p (F:Nat) (aa:Int) (aW:VE) (aC:Int) (cW:VE):Option (Int×List Int×Int):=(b_.p F aa aW).bind λr4=>(bif (!r4) then (some (0,([]:List Int),1)) else ((b_.p F aC cW).bind λr10=>(bif (!r10) then (some (0,([]:List Int),1)) else ((bif (aa != aC) then (some (0,([]:List Int),1)) else ((bif (decide ((wrap .i64 ((aW.length:Int)+(cW.length:Int)))>24)) then (some (0,([]:List Int),3)) else ((bs.p F ([aW,cW]:List (List Int))).bind λr26=>some (aa,r26,0)))))))))
theorem dc.P {aa aC cY gq ct fd cZ gr aW cW} (eD:ct=aW.length) (jl:fd=cW.length) (h0:Inn H R0 λR=>ROs eI H R ⟨cY,ct,cZ⟩ aW/\ROs eI H R ⟨gq,fd,gr⟩ cW) {r:Wn} (hp:dc.p F aa aW aC cW=some r):Rt (dc.tw F aa ⟨cY,ct,cZ⟩ aC ⟨gq,fd,gr⟩ H) (dc.Q H R0 R0  r):=by
 obtain ⟨w0,dG,gP⟩:=h0
 subst eD
 subst jl
 unfold dc.p at hp
 unfold dc.tw dc.twX
 have s0:=w0.rf
 refine cg w0 λH1 w1 s1=>?_
 refine cg w1 λH2 w2 s2=>?_
 refine cg w2 λH3 w3 s3=>?_
 refine lI w3 2 ?_
 refine lSl w3 2 ?_
 obtain ⟨r4,e4,hp⟩:=ae hp
 refine aG (b_.P rfl ⟨w3,(dG.step (s1.trans (s2.trans s3)))⟩ e4) ?_
 rintro _ H5 ⟨rfl,w5,s5,_⟩
 refine br ?_
 refine aE hp (λhp=>?_) λhp=>?_
 ·refine aM w5 0 λH6 w6 s6=>?_
  refine aM w6 0 λH7 w7 s7=>?_
  refine lI w7 0 ?_
  refine lSl w7 0 ?_
  obtain ⟨w8,s8⟩:=w7.nilS eI.z (by decide)
  obtain ⟨w9,s9⟩:=w8.pp [0] 4
  exact aJ hp ⟨_,_,_,_,rfl,rfl,w9,(s0.trans (s1.trans (s2.trans (s3.trans (s5.trans (s6.trans (s7.trans (s8.trans s9)))))))),((CR.empty:CR eI _ _ [] []).step s9)⟩
 ·refine lI w5 1 ?_
  refine lSl w5 1 ?_
  obtain ⟨r10,e10,hp⟩:=ae hp
  refine aG (b_.P rfl ⟨w5,(gP.step (s1.trans (s2.trans (s3.trans s5))))⟩ e10) ?_
  rintro _ H11 ⟨rfl,w11,s11,_⟩
  refine br ?_
  refine aE hp (λhp=>?_) λhp=>?_
  ·refine aM w11 0 λH12 w12 s12=>?_
   refine aM w12 0 λH13 w13 s13=>?_
   refine lI w13 0 ?_
   refine lSl w13 0 ?_
   obtain ⟨w14,s14⟩:=w13.nilS eI.z (by decide)
   obtain ⟨w15,s15⟩:=w14.pp [0] 4
   exact aJ hp ⟨_,_,_,_,rfl,rfl,w15,(s0.trans (s1.trans (s2.trans (s3.trans (s5.trans (s11.trans (s12.trans (s13.trans (s14.trans s15))))))))),((CR.empty:CR eI _ _ [] []).step s15)⟩
  ·refine lI w11 2 ?_
   refine lI w11 1 ?_
   refine aE hp (λhp=>?_) λhp=>?_
   ·refine aM w11 0 λH16 w16 s16=>?_
    refine aM w16 0 λH17 w17 s17=>?_
    refine lI w17 0 ?_
    refine lSl w17 0 ?_
    obtain ⟨w18,s18⟩:=w17.nilS eI.z (by decide)
    obtain ⟨w19,s19⟩:=w18.pp [0] 4
    exact aJ hp ⟨_,_,_,_,rfl,rfl,w19,(s0.trans (s1.trans (s2.trans (s3.trans (s5.trans (s11.trans (s16.trans (s17.trans (s18.trans s19))))))))),((CR.empty:CR eI _ _ [] []).step s19)⟩
   ·refine lSl w11 2 ?_
    refine lSl w11 1 ?_
    refine aE hp (λhp=>?_) λhp=>?_
    ·refine aM w11 0 λH20 w20 s20=>?_
     refine aM w20 0 λH21 w21 s21=>?_
     refine lI w21 0 ?_
     refine lSl w21 0 ?_
     obtain ⟨w22,s22⟩:=w21.nilS eI.z (by decide)
     obtain ⟨w23,s23⟩:=w22.pp [0] 4
     exact aJ hp ⟨_,_,_,_,rfl,rfl,w23,(s0.trans (s1.trans (s2.trans (s3.trans (s5.trans (s11.trans (s20.trans (s21.trans (s22.trans s23))))))))),((CR.empty:CR eI _ _ [] []).step s23)⟩
    ·refine lI w11 2 ?_
     refine lSl w11 2 ?_
     refine lSl w11 1 ?_
     refine er (eSl eI) w11 (n:=2) (l:=([aW,cW]:List (List Int))) rfl (CR.cons1 ⟨_,rfl,(dG.step (s1.trans (s2.trans (s3.trans (s5.trans s11)))))⟩ (CR.cons1 ⟨_,rfl,(gP.step (s1.trans (s2.trans (s3.trans (s5.trans s11)))))⟩ CR.empty)) rfl λH24 w24 s24 c24=>?_
     have f25:=W.borrow1 (eSl eI) w24 c24
     obtain ⟨w25,s25⟩:=w24.right1
     obtain ⟨r26,e26,hp⟩:=ae hp
     refine aG (bs.P (show 2=List.length ([aW,cW]:List (List Int)) from rfl) ⟨w25,f25⟩ e26) ?_
     rintro _ H27 ⟨o0a_27,o0n_27,o0c_27,o0k_27,rfl,rfl,w27,s27,f27_0⟩
     obtain ⟨w28,s28⟩:=W.frame1 w24 w27 s27
     refine br ?_
     refine iE (W.cons_of (Rn:=[_]) w25 w27 s27) ?_
     refine aM w28 2 λH30 w30 s30=>?_
     refine aM w30 2 λH31 w31 s31=>?_
     refine lI w31 2 ?_
     refine lSl w31 2 ?_
     obtain ⟨w32,s32⟩:=w31.pp [1] 5
     exact aJ hp ⟨_,_,_,_,rfl,rfl,w32,(s0.trans (s1.trans (s2.trans (s3.trans (s5.trans (s11.trans (s24.trans (s28.trans (s30.trans (s31.trans s32)))))))))),((CR.flat (gC .i64) f27_0).step (s30.trans (s31.trans s32)))⟩
def cJ.Q (H0:Hp) (Ri R0:VJ)  (r:WC) (v:AV) (H':Hp):Prop:=∃ o1a:ON,∃ o1n:Nat,∃ o1c:Cap,∃ o1k:List AV,∃ o1m:List Ow,v=(.tup [(.agg [(.i r.1),(.sl ⟨o1a,o1n,o1c⟩)]),(.i r.2.2)])/\o1n=(r.2.1).length/\Out H0 Ri H' (Rs.own ⟨o1a,o1n,o1c⟩ (eSl eI).z o1k::Rs.many o1m::R0) λR=>OL (oSl (cU eI)) o1m o1k (r.2.1)
def cJ.p (F:Nat) (aa:Int) (aW:VE):Option (Int×List (List Int)×Int):=(b_.p F aa aW).bind λr3=>(bif (!r3) then (some (0,([]:List (List Int)),1)) else ((bU.p F aa aW).bind λr10=>some (r10.1,r10.2,0)))
theorem cJ.P {aa cY ct cZ aW} (eD:ct=aW.length) (h0:Inn H R0 λR=>ROs eI H R ⟨cY,ct,cZ⟩ aW) {r:WC} (hp:cJ.p F aa aW=some r):Rt (cJ.tw F aa ⟨cY,ct,cZ⟩ H) (cJ.Q H R0 R0  r):=by
 obtain ⟨w0,dG⟩:=h0
 subst eD
 unfold cJ.p at hp
 unfold cJ.tw cJ.twX
 have s0:=w0.rf
 refine cg w0 λH1 w1 s1=>?_
 refine cg w1 λH2 w2 s2=>?_
 refine lI w2 1 ?_
 refine lSl w2 1 ?_
 obtain ⟨r3,e3,hp⟩:=ae hp
 refine aG (b_.P rfl ⟨w2,(dG.step (s1.trans s2))⟩ e3) ?_
 rintro _ H4 ⟨rfl,w4,s4,_⟩
 refine br ?_
 refine aE hp (λhp=>?_) λhp=>?_
 ·refine aM w4 0 λH5 w5 s5=>?_
  refine aM w5 0 λH6 w6 s6=>?_
  refine lI w6 0 ?_
  refine lSl w6 0 ?_
  obtain ⟨w7,s7⟩:=w6.nilS (eSl eI).z (by decide)
  obtain ⟨w8,s8⟩:=w7.nM
  obtain ⟨w9,s9⟩:=w8.pp [1,0] 4
  exact aJ hp ⟨_,_,_,_,_,rfl,rfl,w9,(s0.trans (s1.trans (s2.trans (s4.trans (s5.trans (s6.trans (s7.trans (s8.trans s9)))))))),(OL.nil:OL (oSl (cU eI)) [] [] [])⟩
 ·refine lI w4 1 ?_
  refine lSl w4 1 ?_
  obtain ⟨r10,e10,hp⟩:=ae hp
  refine aG (bU.P rfl ⟨w4,(dG.step (s1.trans (s2.trans s4)))⟩ e10) ?_
  rintro _ H11 ⟨o1a_11,o1n_11,o1c_11,o1k_11,o1m_11,rfl,rfl,w11,s11,f11_0⟩
  refine br (br (br (br (br ?_))))
  refine aM w11 2 λH12 w12 s12=>?_
  refine aM w12 2 λH13 w13 s13=>?_
  refine lI w13 2 ?_
  refine lSl w13 2 ?_
  obtain ⟨w14,s14⟩:=w13.pp [0,1] 4
  exact aJ hp ⟨_,_,_,_,_,rfl,rfl,w14,(s0.trans (s1.trans (s2.trans (s4.trans (s11.trans (s12.trans (s13.trans s14))))))),f11_0⟩
def bQ.Q (H0:Hp) (Ri R0:VJ)  (r:Bool) (v:AV) (H':Hp):Prop:=v=(.bool r)/\Out H0 Ri H' (R0) λR=>True
def bQ.S29 (H0:Hp) (Ri R0:VJ)  (C:Wv) (pC:WB):Prop:=∀ {en ga dr fi eo gg bp cC bV},∀ {H:Hp},dr=bp.length->fi=cC.length->(Out H0 Ri H R0 λR=>ROs eI H R ⟨en,dr,eo⟩ bp/\ROs eI H R ⟨ga,fi,gg⟩ cC)->∀ {r:Bool},pC bp cC bV=some r->Rt (C ⟨en,dr,eo⟩ ⟨ga,fi,gg⟩ bV H) (bQ.Q H0 Ri R0  r)
def bQ.pl29 (F:Nat) :Nat->List Int->List Int->Int->Option (Bool)
 | 0,_,_,_=>none
 | k+1,bp,cC,bV=>(bif (decide (bV<(bp.length:Int))) then ((ix bp bV).bind λn1=>(ix cC bV).bind λn2=>(bif ((gt bp n1) != (gt cC n2)) then (some false) else (bQ.pl29 F k bp cC (wrap .i64 (bV+1))))) else (some true))
theorem bQ.l29_P  :∀ k,bQ.S29 H0 Ri R0  (bQ.l29 F   k) (bQ.pl29 F  k):=by
 intro k
 induction k with
 | zero=>unfold bQ.S29;intros;rename_i hp;cases hp
 | succ k ih=>
  intro en ga dr fi eo gg bp cC bV H gO jn h0 r hp
  obtain ⟨w0,s0,eC,gv⟩:=h0
  subst gO
  subst jn
  unfold bQ.pl29 at hp
  unfold bQ.l29
  refine aE hp (λhp=>?_) λhp=>?_
  ·obtain ⟨n1,g1,hp⟩:=ae hp
   obtain ⟨p1,q1,i1,h1,j1⟩:=ROs.ixr eC rfl g1
   refine ai i1 ?_
   have h1:_=[_]:=h1
   subst h1
   refine ai (bL (j1 0 _ rfl)) ?_
   obtain ⟨n2,g2,hp⟩:=ae hp
   obtain ⟨p2,q2,i2,h2,j2⟩:=ROs.ixr gv rfl g2
   refine ai i2 ?_
   have h2:_=[_]:=h2
   subst h2
   refine ai (bL (j2 0 _ rfl)) ?_
   refine aE hp (λhp=>?_) λhp=>?_
   ·exact aJ hp ⟨rfl,w0,s0,trivial⟩
   ·exact ih rfl rfl ⟨w0,s0,eC,gv⟩ hp
  ·exact aJ hp ⟨rfl,w0,s0,trivial⟩
def bQ.p (F:Nat) (ar:VE) (cO:VE):Option (Bool):=(bif ((ar.length:Int) != (cO.length:Int)) then (some false) else (bQ.pl29 F F ar cO 0))
theorem bQ.P {aY eV aL dw aZ eW ar cO} (cq:aL=ar.length) (iA:dw=cO.length) (h0:Inn H R0 λR=>ROs eI H R ⟨aY,aL,aZ⟩ ar/\ROs eI H R ⟨eV,dw,eW⟩ cO) {r:Bool} (hp:bQ.p F ar cO=some r):Rt (bQ.tw F ⟨aY,aL,aZ⟩ ⟨eV,dw,eW⟩ H) (bQ.Q H R0 R0  r):=by
 obtain ⟨w0,cj,iB⟩:=h0
 subst cq
 subst iA
 unfold bQ.p at hp
 unfold bQ.tw bQ.twX
 have s0:=w0.rf
 refine aE hp (λhp=>?_) λhp=>?_
 ·exact aJ hp ⟨rfl,w0,s0,trivial⟩
 ·exact bQ.l29_P F rfl rfl ⟨w0,s0,cj,iB⟩ hp
def bJ.Q (H0:Hp) (Ri R0:VJ)  (r:VE) (v:AV) (H':Hp):Prop:=∃ o0a:ON,∃ o0n:Nat,∃ o0c:Cap,∃ o0k:List AV,v=(.sl ⟨o0a,o0n,o0c⟩)/\o0n=(r).length/\Out H0 Ri H' (Rs.own ⟨o0a,o0n,o0c⟩ eI.z o0k::R0) λR=>CR eI H' R o0k (r)
def bJ.S61 (H0:Hp) (Ri R0:VJ)  (C:Wl) (pC:Wz):Prop:=∀ {yW yX uj uk yY yZ kC jZ y_ iy gK},∀ {H:Hp},uj=kC.length->uk=jZ.length->(Out H0 Ri H (Rs.own ⟨yW,uj,yY⟩ eI.z y_::R0) λR=>CR eI H R y_ kC/\ROs eI H R ⟨yX,uk,yZ⟩ jZ)->∀ {r:VE},pC kC jZ iy gK=some r->Rt (C ⟨yW,uj,yY⟩ ⟨yX,uk,yZ⟩ iy gK H) (bJ.Q H0 Ri R0  r)
def bJ.pl61 (F:Nat) :Nat->List Int->List Int->Int->Int->Option (List Int)
 | 0,_,_,_,_=>none
 | k+1,kC,jZ,iy,gK=>(bif (decide (gK<iy)) then ((ix jZ gK).bind λn1=>(cE.p F (gt jZ n1)).bind λr2=>(bP.p F kC r2).bind λr4=>bJ.pl61 F k r4 jZ iy (wrap .i64 (gK+1))) else ((a_.p F kC).bind λr7=>some r7))
theorem bJ.l61_P  :∀ k,bJ.S61 H0 Ri R0  (bJ.l61 F (b_.tw F) (bc.tw F) (cE.tw F) (bP.tw F) (a_.tw F)  k) (bJ.pl61 F  k):=by
 intro k
 induction k with
 | zero=>unfold bJ.S61;intros;rename_i hp;cases hp
 | succ k ih=>
  intro yW yX uj uk yY yZ kC jZ y_ iy gK H SP SQ h0 r hp
  obtain ⟨w0,s0,Hk,Hl⟩:=h0
  subst SP
  subst SQ
  unfold bJ.pl61 at hp
  unfold bJ.l61
  refine aE hp (λhp=>?_) λhp=>?_
  ·obtain ⟨n1,g1,hp⟩:=ae hp
   obtain ⟨p1,q1,i1,h1,j1⟩:=ROs.ixr Hl rfl g1
   refine ai i1 ?_
   have h1:_=[_]:=h1
   subst h1
   refine ai (bL (j1 0 _ rfl)) ?_
   obtain ⟨r2,e2,hp⟩:=ae hp
   refine aG (cE.P ⟨w0,trivial⟩ e2) ?_
   rintro _ H3 ⟨rfl,w3,s3,_⟩
   refine br ?_
   obtain ⟨r4,e4,hp⟩:=ae hp
   refine aG (bP.P rfl ⟨w3,(Hk.step s3)⟩ e4) ?_
   rintro _ H5 ⟨U_,rfl,hl5_0,w5,s5,f5_0⟩
   exact ih hl5_0 rfl ⟨w5,(s0.trans (s3.trans s5)),f5_0,(Hl.step (s3.trans s5))⟩ hp
  ·have f6:=W.borrow1 eI w0 Hk
   obtain ⟨w6,s6⟩:=w0.right1
   obtain ⟨r7,e7,hp⟩:=ae hp
   refine aG (a_.P rfl ⟨w6,f6⟩ e7) ?_
   rintro _ H8 ⟨o0a_8,o0n_8,o0c_8,o0k_8,rfl,rfl,w8,s8,f8_0⟩
   obtain ⟨w9,s9⟩:=W.frame1 w0 w8 s8
   refine br ?_
   obtain ⟨w10,s10⟩:=w9.pp [1] 2
   exact aJ hp ⟨_,_,_,_,rfl,rfl,w10,(s0.trans (s9.trans s10)),((CR.flat (gC .i64) f8_0).step s10)⟩
def bJ.p (F:Nat) (aa:Int) (aW:VE):Option (List Int):=(b_.p F aa aW).bind λr2=>(bif (!r2) then (some ([]:List Int)) else ((bc.p F aa).bind λr6=>bJ.pl61 F F r6 aW (aW.length:Int) 0))
theorem bJ.P {aa cY ct cZ aW} (eD:ct=aW.length) (h0:Inn H R0 λR=>ROs eI H R ⟨cY,ct,cZ⟩ aW) {r:VE} (hp:bJ.p F aa aW=some r):Rt (bJ.tw F aa ⟨cY,ct,cZ⟩ H) (bJ.Q H R0 R0  r):=by
 obtain ⟨w0,dG⟩:=h0
 subst eD
 unfold bJ.p at hp
 unfold bJ.tw bJ.twX
 have s0:=w0.rf
 refine cg w0 λH1 w1 s1=>?_
 refine lI w1 0 ?_
 refine lSl w1 0 ?_
 obtain ⟨r2,e2,hp⟩:=ae hp
 refine aG (b_.P rfl ⟨w1,(dG.step s1)⟩ e2) ?_
 rintro _ H3 ⟨rfl,w3,s3,_⟩
 refine br ?_
 refine aE hp (λhp=>?_) λhp=>?_
 ·obtain ⟨w4,s4⟩:=w3.nilS eI.z (by decide)
  obtain ⟨w5,s5⟩:=w4.pp [0] 2
  exact aJ hp ⟨_,_,_,_,rfl,rfl,w5,(s0.trans (s1.trans (s3.trans (s4.trans s5)))),((CR.empty:CR eI _ _ [] []).step s5)⟩
 ·refine lI w3 0 ?_
  obtain ⟨r6,e6,hp⟩:=ae hp
  refine aG (bc.P ⟨w3,trivial⟩ e6) ?_
  rintro _ H7 ⟨o0a_7,o0n_7,o0c_7,o0k_7,rfl,rfl,w7,s7,f7_0⟩
  refine br ?_
  refine lSl w7 1 ?_
  obtain ⟨w8,s8⟩:=w7.pp [0] 2
  exact bJ.l61_P F rfl rfl ⟨w8,(s0.trans (s1.trans (s3.trans (s7.trans s8)))),(f7_0.step s8),(dG.step (s1.trans (s3.trans (s7.trans s8))))⟩ hp
def aX.Q (H0:Hp) (Ri R0:VJ)  (r:Bool) (v:AV) (H':Hp):Prop:=v=(.bool r)/\Out H0 Ri H' (R0) λR=>True
def aX.S131069 (H0:Hp) (Ri R0:VJ)  (C:VN) (pC:Int->List Int->Int->List Int->List (List Int)->List (List Int)->Int->Option (Bool)):Prop:=∀ {mU mV Hm Hn fX za zb zd ze ul jK um jL un ji uo jN zf zg zh zi kD kE zj zk js j_},∀ {H:Hp},ul=kD.length->um=kE.length->un=js.length->uo=j_.length->(Out H0 Ri H (Rs.own ⟨za,ul,zf⟩ eI.z zj::Rs.blk jK [.i mU,.sl ⟨za,ul,zf⟩]::Rs.own ⟨zb,um,zg⟩ eI.z zk::Rs.blk jL [.i mV,.sl ⟨zb,um,zg⟩]::Rs.blk ji [.i Hm,.sl ⟨zd,un,zh⟩]::Rs.blk jN [.i Hn,.sl ⟨ze,uo,zi⟩]::R0) λR=>CR eI H R zj kD/\CR eI H R zk kE/\ROs (eSl eI) H R ⟨zd,un,zh⟩ js/\ROs (eSl eI) H R ⟨ze,uo,zi⟩ j_)->∀ {r:Bool},pC mU kD mV kE js j_ fX=some r->Rt (C jK 0 jL 0 ji 0 jN 0 fX H) (aX.Q H0 Ri R0  r)
def aX.pj1 (F:Nat)  (uq:Int) (pg:VE) (ur:Int) (ph:VE):Option (Bool):=(bJ.p F uq pg).bind λr2=>(bJ.p F ur ph).bind λr7=>(bQ.p F r2 r7).bind λr13=>some r13
theorem aX.j1_P   {uq ur Ho Hq zm nE zn gN Hr Hs pg ph Ht Hu} (SU:zm=pg.length) (SV:zn=ph.length) (h0:Out H0 Ri H (Rs.own ⟨Ho,zm,Hr⟩ eI.z Ht::Rs.blk nE [.i uq,.sl ⟨Ho,zm,Hr⟩]::Rs.own ⟨Hq,zn,Hs⟩ eI.z Hu::Rs.blk gN [.i ur,.sl ⟨Hq,zn,Hs⟩]::R0) λR=>CR eI H R Ht pg/\CR eI H R Hu ph) {r:Bool} (hp:aX.pj1 F  uq pg ur ph=some r):Rt (aX.j1 F (eE.tw F) (di.tw F) (cF.tw F) (cQ.tw F) (de.tw F) (bo.tw F) (dc.tw F) (cJ.tw F) (bQ.tw F) (bJ.tw F)  nE 0 gN 0 H) (aX.Q H0 Ri R0  r):=by
 obtain ⟨w0,s0,SW,SX⟩:=h0
 subst SU
 subst SV
 unfold aX.pj1 at hp
 unfold aX.j1
 refine lI w0 1 ?_
 refine lSl w0 1 ?_
 have f1:=W.borrow1 eI w0 SW
 obtain ⟨w1,s1⟩:=w0.right1
 obtain ⟨r2,e2,hp⟩:=ae hp
 refine aG (bJ.P rfl ⟨w1,f1⟩ e2) ?_
 rintro _ H3 ⟨o0a_3,o0n_3,o0c_3,o0k_3,rfl,rfl,w3,s3,f3_0⟩
 obtain ⟨w4,s4⟩:=W.frame1 w0 w3 s3
 refine br ?_
 refine lI w4 4 ?_
 refine lSl w4 4 ?_
 obtain ⟨w5,s5⟩:=w4.pp [3,0,1,2,4] 5
 have f6:=W.borrow1 eI w5 (SX.step (s4.trans s5))
 obtain ⟨w6,s6⟩:=w5.right1
 obtain ⟨r7,e7,hp⟩:=ae hp
 refine aG (bJ.P rfl ⟨w6,f6⟩ e7) ?_
 rintro _ H8 ⟨o0a_8,o0n_8,o0c_8,o0k_8,rfl,rfl,w8,s8,f8_0⟩
 obtain ⟨w9,s9⟩:=W.frame1 w5 w8 s8
 refine br ?_
 obtain ⟨w10,s10⟩:=w9.pp [3,1,0,2,4,5] 6
 have f11:=W.borrow1 eI w10 ((CR.flat (gC .i64) f3_0).step (s5.trans (s9.trans s10)))
 obtain ⟨w11,s11⟩:=w10.right1
 have f12:=W.borrow1 eI w11 (((CR.flat (gC .i64) f8_0).step s10).step s11)
 obtain ⟨w12,s12⟩:=w11.right1
 obtain ⟨r13,e13,hp⟩:=ae hp
 refine aG (bQ.P rfl rfl ⟨w12,(f11.step s12),f12⟩ e13) ?_
 rintro _ H14 ⟨rfl,w14,s14,_⟩
 obtain ⟨w15,s15⟩:=W.frame1 w11 w14 s14
 obtain ⟨w16,s16⟩:=W.frame1 w10 w15 s15
 refine br ?_
 refine kH ⟨⟨(cH (bL (w16.ld (i:=5) rfl rfl)) (cH (ck (w16.ld (i:=5) rfl rfl)) (es _ _))),(cH (bL (w9.ld (i:=5) rfl rfl)) (cH (ck (w9.ld (i:=5) rfl rfl)) (es _ _))),(cH (bL (w4.ld (i:=4) rfl rfl)) (cH (ck (w4.ld (i:=4) rfl rfl)) (es _ _))),(cH (bL (w0.ld (i:=3) rfl rfl)) (cH (ck (w0.ld (i:=3) rfl rfl)) (es _ _))),trivial⟩,trivial⟩ ?_
 obtain ⟨w17,s17⟩:=w16.pp [] 6
 exact aJ hp ⟨rfl,w17,(s0.trans (s4.trans (s5.trans (s9.trans (s10.trans (s16.trans s17)))))),trivial⟩
def aX.pl131069 (F:Nat) :Nat->Int->List Int->Int->List Int->List (List Int)->List (List Int)->Int->Option (Bool)
 | 0,_,_,_,_,_,_,_=>none
 | k+1,mU,kD,mV,kE,js,j_,fX=>(bif (decide (fX<(js.length:Int))) then ((ix js fX).bind λn1=>(ix j_ fX).bind λn2=>(bQ.p F (gt js n1) (gt j_ n2)).bind λr3=>(bif (!r3) then (some false) else (aX.pl131069 F k mU kD mV kE js j_ (wrap .i64 (fX+1))))) else (aX.pj1 F mU kD mV kE))
theorem aX.l131069_P  :∀ k,aX.S131069 H0 Ri R0  (aX.l131069 F (eE.tw F) (di.tw F) (cF.tw F) (cQ.tw F) (de.tw F) (bo.tw F) (dc.tw F) (cJ.tw F) (bQ.tw F) (bJ.tw F)  k) (aX.pl131069 F  k):=by
 intro k
 induction k with
 | zero=>unfold aX.S131069;intros;rename_i hp;cases hp
 | succ k ih=>
  intro mU mV Hm Hn fX za zb zd ze ul jK um jL un ji uo jN zf zg zh zi kD kE zj zk js j_ H SY SZ S_ Ta h0 r hp
  obtain ⟨w0,s0,Hv,Hw,Hy,Hz⟩:=h0
  subst SY
  subst SZ
  subst S_
  subst Ta
  unfold aX.pl131069 at hp
  unfold aX.l131069
  refine lSl w0 4 ?_
  refine aE hp (λhp=>?_) λhp=>?_
  ·refine lSl w0 4 ?_
   obtain ⟨n1,g1,hp⟩:=ae hp
   obtain ⟨p1,q1,i1,h1,j1⟩:=ROs.ixr Hy rfl g1
   refine ai i1 ?_
   obtain ⟨⟨oH,m1_0,c1_0⟩,rfl,f1_0⟩:=h1
   obtain rfl:m1_0=_:=f1_0.n
   refine ai (ck (j1 0 _ rfl)) ?_
   refine lSl w0 5 ?_
   obtain ⟨n2,g2,hp⟩:=ae hp
   obtain ⟨p2,q2,i2,h2,j2⟩:=ROs.ixr Hz rfl g2
   refine ai i2 ?_
   obtain ⟨⟨xp,m2_0,c2_0⟩,rfl,f2_0⟩:=h2
   obtain rfl:m2_0=_:=f2_0.n
   refine ai (ck (j2 0 _ rfl)) ?_
   obtain ⟨r3,e3,hp⟩:=ae hp
   refine aG (bQ.P rfl rfl ⟨w0,f1_0,f2_0⟩ e3) ?_
   rintro _ H4 ⟨rfl,w4,s4,_⟩
   refine br ?_
   refine aE hp (λhp=>?_) λhp=>?_
   ·obtain ⟨w5,s5⟩:=w4.pp [] 6
    exact aJ hp ⟨rfl,w5,(s0.trans (s4.trans s5)),trivial⟩
   ·exact ih rfl rfl rfl rfl ⟨w4,(s0.trans s4),(Hv.step s4),(Hw.step s4),(Hy.step s4),(Hz.step s4)⟩ hp
  ·obtain ⟨w6,s6⟩:=w0.pp [0,1,2,3] 6
   exact aX.j1_P rfl rfl ⟨w6,(s0.trans s6),(Hv.step s6),(Hw.step s6)⟩ hp
def aX.p (F:Nat) (ar:VE):Option (Bool):=(eE.p F ar).bind λr1=>(bif r1 then (some true) else ((di.p F ar).bind λr3=>(cF.p F r3.1 r3.2.1 r3.2.2.1 r3.2.2.2).bind λr14=>(cQ.p F r3.1 r3.2.1 r3.2.2.1 r3.2.2.2).bind λr20=>(bif (!(r14==r20)) then (some false) else ((de.p F r3.1 r3.2.1).bind λr26=>(bif (r26.2.2 != 0) then ((bo.p F r3.1 r3.2.1).bind λr34=>some (!r34)) else ((dc.p F r3.1 r3.2.1 r26.1 r26.2.1).bind λr41=>(dc.p F r26.1 r26.2.1 r3.1 r3.2.1).bind λr51=>(bif (r41.2.2==0) then ((bif (r51.2.2==0) then ((cF.p F r41.1 r41.2.1 r3.1 ([]:List Int)).bind λr63=>(bif (!r63) then (some false) else ((cF.p F r51.1 r51.2.1 r3.1 ([]:List Int)).bind λr69=>(bif (!r69) then (some false) else ((cQ.p F r3.1 r3.2.1 r3.2.2.1 r3.2.2.2).bind λr76=>(bif (!r76) then (some true) else ((cJ.p F r3.1 r3.2.1).bind λr82=>(cJ.p F r3.2.2.1 r3.2.2.2).bind λr90=>(bif (r82.2.2 != 0) then (some false) else ((bif (r90.2.2 != 0) then (some false) else ((bif (r82.1 != r90.1) then (some false) else ((bif ((r82.2.1.length:Int) != (r90.2.1.length:Int)) then (some false) else (aX.pl131069 F F r3.1 r3.2.1 r3.2.2.1 r3.2.2.2 r82.2.1 r90.2.1 0))))))))))))))) else ((cQ.p F r3.1 r3.2.1 r3.2.2.1 r3.2.2.2).bind λr108=>(bif (!r108) then (some true) else ((cJ.p F r3.1 r3.2.1).bind λr114=>(cJ.p F r3.2.2.1 r3.2.2.2).bind λr122=>(bif (r114.2.2 != 0) then (some false) else ((bif (r122.2.2 != 0) then (some false) else ((bif (r114.1 != r122.1) then (some false) else ((bif ((r114.2.1.length:Int) != (r122.2.1.length:Int)) then (some false) else (aX.pl131069 F F r3.1 r3.2.1 r3.2.2.1 r3.2.2.2 r114.2.1 r122.2.1 0))))))))))))) else ((cQ.p F r3.1 r3.2.1 r3.2.2.1 r3.2.2.2).bind λr140=>(bif (!r140) then (some true) else ((cJ.p F r3.1 r3.2.1).bind λr146=>(cJ.p F r3.2.2.1 r3.2.2.2).bind λr154=>(bif (r146.2.2 != 0) then (some false) else ((bif (r154.2.2 != 0) then (some false) else ((bif (r146.1 != r154.1) then (some false) else ((bif ((r146.2.1.length:Int) != (r154.2.1.length:Int)) then (some false) else (aX.pl131069 F F r3.1 r3.2.1 r3.2.2.1 r3.2.2.2 r146.2.1 r154.2.1 0))))))))))))))))))
theorem aX.P {aY aL aZ ar} (cq:aL=ar.length) (h0:Inn H R0 λR=>ROs (bd .u8) H R ⟨aY,aL,aZ⟩ ar) {r:Bool} (hp:aX.p F ar=some r):Rt (aX.tw F ⟨aY,aL,aZ⟩ H) (aX.Q H R0 R0  r):=by
 obtain ⟨w0,cj⟩:=h0
 subst cq
 unfold aX.p at hp
 unfold aX.tw aX.twX
 have s0:=w0.rf
 obtain ⟨r1,e1,hp⟩:=ae hp
 refine aG (eE.P rfl ⟨w0,cj⟩ e1) ?_
 rintro _ H2 ⟨rfl,w2,s2,_⟩
 refine br ?_
 refine aE hp (λhp=>?_) λhp=>?_
 ·exact aJ hp ⟨rfl,w2,(s0.trans s2),trivial⟩
 ·obtain ⟨r3,e3,hp⟩:=ae hp
  refine aG (di.P rfl ⟨w2,(cj.step s2)⟩ e3) ?_
  rintro _ H4 ⟨o1a_4,o1n_4,o1c_4,o1k_4,o3a_4,o3n_4,o3c_4,o3k_4,rfl,rfl,rfl,w4,s4,f4_0,f4_1⟩
  refine br (br (br (br (br (br (br (br (br (br (br (br (br ?_))))))))))))
  refine cg w4 λH5 w5 s5=>?_
  refine cg w5 λH6 w6 s6=>?_
  refine aM w6 1 λH7 w7 s7=>?_
  refine aM w7 1 λH8 w8 s8=>?_
  refine aM w8 0 λH9 w9 s9=>?_
  refine aM w9 0 λH10 w10 s10=>?_
  refine lI w10 1 ?_
  refine lSl w10 1 ?_
  refine lI w10 0 ?_
  refine lSl w10 0 ?_
  obtain ⟨w11,s11⟩:=w10.pp [2,3,0,1] 4
  have f12:=W.borrow1 eI w11 (f4_0.step (s5.trans (s6.trans (s7.trans (s8.trans (s9.trans (s10.trans s11)))))))
  obtain ⟨w12,s12⟩:=w11.right1
  have f13:=W.borrow1 eI w12 ((f4_1.step (s5.trans (s6.trans (s7.trans (s8.trans (s9.trans (s10.trans s11))))))).step s12)
  obtain ⟨w13,s13⟩:=w12.right1
  obtain ⟨r14,e14,hp⟩:=ae hp
  refine aG (cF.P rfl rfl ⟨w13,(f12.step s13),f13⟩ e14) ?_
  rintro _ H15 ⟨rfl,w15,s15,_⟩
  obtain ⟨w16,s16⟩:=W.frame1 w12 w15 s15
  obtain ⟨w17,s17⟩:=W.frame1 w11 w16 s16
  refine br ?_
  refine lI w17 3 ?_
  refine lSl w17 3 ?_
  refine lI w17 2 ?_
  refine lSl w17 2 ?_
  have f18:=W.borrow1 eI w17 (f4_0.step (s5.trans (s6.trans (s7.trans (s8.trans (s9.trans (s10.trans (s11.trans s17))))))))
  obtain ⟨w18,s18⟩:=w17.right1
  have f19:=W.borrow1 eI w18 ((f4_1.step (s5.trans (s6.trans (s7.trans (s8.trans (s9.trans (s10.trans (s11.trans s17)))))))).step s18)
  obtain ⟨w19,s19⟩:=w18.right1
  obtain ⟨r20,e20,hp⟩:=ae hp
  refine aG (cQ.P rfl rfl ⟨w19,(f18.step s19),f19⟩ e20) ?_
  rintro _ H21 ⟨rfl,w21,s21,_⟩
  obtain ⟨w22,s22⟩:=W.frame1 w18 w21 s21
  obtain ⟨w23,s23⟩:=W.frame1 w17 w22 s22
  refine br ?_
  refine kH ⟨⟨(cH (bL (w23.ld (i:=2) rfl rfl)) (cH (ck (w23.ld (i:=2) rfl rfl)) (es _ _))),(cH (bL (w17.ld (i:=2) rfl rfl)) (cH (ck (w17.ld (i:=2) rfl rfl)) (es _ _))),(cH (bL (w10.ld (i:=0) rfl rfl)) (cH (ck (w10.ld (i:=0) rfl rfl)) (es _ _))),trivial⟩,⟨(cH (bL (w23.ld (i:=3) rfl rfl)) (cH (ck (w23.ld (i:=3) rfl rfl)) (es _ _))),(cH (bL (w17.ld (i:=3) rfl rfl)) (cH (ck (w17.ld (i:=3) rfl rfl)) (es _ _))),(cH (bL (w10.ld (i:=1) rfl rfl)) (cH (ck (w10.ld (i:=1) rfl rfl)) (es _ _))),trivial⟩,trivial⟩ ?_
  refine aE hp (λhp=>?_) λhp=>?_
  ·obtain ⟨w24,s24⟩:=w23.pp [] 4
   exact aJ hp ⟨rfl,w24,(s0.trans (s2.trans (s4.trans (s5.trans (s6.trans (s7.trans (s8.trans (s9.trans (s10.trans (s11.trans (s17.trans (s23.trans s24)))))))))))),trivial⟩
  ·refine lI w23 3 ?_
   refine lSl w23 3 ?_
   have f25:=W.borrow1 eI w23 (f4_0.step (s5.trans (s6.trans (s7.trans (s8.trans (s9.trans (s10.trans (s11.trans (s17.trans s23)))))))))
   obtain ⟨w25,s25⟩:=w23.right1
   obtain ⟨r26,e26,hp⟩:=ae hp
   refine aG (de.P rfl ⟨w25,f25⟩ e26) ?_
   rintro _ H27 ⟨o1a_27,o1n_27,o1c_27,o1k_27,rfl,rfl,w27,s27,f27_0⟩
   obtain ⟨w28,s28⟩:=W.frame1 w23 w27 s27
   refine br (br (br (br (br (br (br (br (br ?_))))))))
   refine cg w28 λH29 w29 s29=>?_
   refine aM w29 0 λH30 w30 s30=>?_
   refine aM w30 0 λH31 w31 s31=>?_
   refine aE hp (λhp=>?_) λhp=>?_
   ·refine lI w31 5 ?_
    refine lSl w31 5 ?_
    obtain ⟨w32,s32⟩:=w31.pp [1,0,2,3,4,5] 6
    have f33:=W.borrow1 eI w32 (f4_0.step (s5.trans (s6.trans (s7.trans (s8.trans (s9.trans (s10.trans (s11.trans (s17.trans (s23.trans (s28.trans (s29.trans (s30.trans (s31.trans s32))))))))))))))
    obtain ⟨w33,s33⟩:=w32.right1
    obtain ⟨r34,e34,hp⟩:=ae hp
    refine aG (bo.P rfl ⟨w33,f33⟩ e34) ?_
    rintro _ H35 ⟨rfl,w35,s35,_⟩
    obtain ⟨w36,s36⟩:=W.frame1 w32 w35 s35
    refine br ?_
    obtain ⟨w37,s37⟩:=w36.pp [] 6
    dsimp only [pk,pks,nth,List.drop,List.set,List.eraseIdx] at w37 s7 s8 s9 s10 s11 s29 s30 s31 s32 s37
    exact aJ hp ⟨rfl,w37,(s0.trans (s2.trans (s4.trans (s5.trans (s6.trans (s7.trans (s8.trans (s9.trans (s10.trans (s11.trans (s17.trans (s23.trans (s28.trans (s29.trans (s30.trans (s31.trans (s32.trans (s36.trans s37)))))))))))))))))),trivial⟩
   ·refine lI w31 5 ?_
    refine lSl w31 5 ?_
    refine lI w31 0 ?_
    refine lSl w31 0 ?_
    obtain ⟨w38,s38⟩:=w31.pp [1,2,0,3,4,5] 6
    have f39:=W.borrow1 eI w38 (f4_0.step (s5.trans (s6.trans (s7.trans (s8.trans (s9.trans (s10.trans (s11.trans (s17.trans (s23.trans (s28.trans (s29.trans (s30.trans (s31.trans s38))))))))))))))
    obtain ⟨w39,s39⟩:=w38.right1
    have f40:=W.borrow1 eI w39 (((CR.flat (gC .i64) f27_0).step (s29.trans (s30.trans (s31.trans s38)))).step s39)
    obtain ⟨w40,s40⟩:=w39.right1
    obtain ⟨r41,e41,hp⟩:=ae hp
    refine aG (dc.P rfl rfl ⟨w40,(f39.step s40),f40⟩ e41) ?_
    rintro _ H42 ⟨o1a_42,o1n_42,o1c_42,o1k_42,rfl,rfl,w42,s42,f42_0⟩
    obtain ⟨w43,s43⟩:=W.frame1 w39 w42 s42
    obtain ⟨w44,s44⟩:=W.frame1 w38 w43 s43
    refine br (br (br (br (br (br (br (br (br ?_))))))))
    refine cg w44 λH45 w45 s45=>?_
    refine aM w45 0 λH46 w46 s46=>?_
    dsimp only [pk,pks,nth,List.drop,List.set,List.eraseIdx] at w46 s7 s8 s9 s10 s11 s29 s30 s31 s38 s45 s46
    refine aM w46 0 λH47 w47 s47=>?_
    refine lI w47 4 ?_
    refine lSl w47 4 ?_
    refine lI w47 7 ?_
    refine lSl w47 7 ?_
    obtain ⟨w48,s48⟩:=w47.pp [2,1,0,3,4,5,6,7] 8
    have f49:=W.borrow1 eI w48 ((CR.flat (gC .i64) f27_0).step (s29.trans (s30.trans (s31.trans (s38.trans (s44.trans (s45.trans (s46.trans (s47.trans s48)))))))))
    obtain ⟨w49,s49⟩:=w48.right1
    have f50:=W.borrow1 eI w49 ((f4_0.step (s5.trans (s6.trans (s7.trans (s8.trans (s9.trans (s10.trans (s11.trans (s17.trans (s23.trans (s28.trans (s29.trans (s30.trans (s31.trans (s38.trans (s44.trans (s45.trans (s46.trans (s47.trans s48))))))))))))))))))).step s49)
    obtain ⟨w50,s50⟩:=w49.right1
    obtain ⟨r51,e51,hp⟩:=ae hp
    refine aG (dc.P rfl rfl ⟨w50,(f49.step s50),f50⟩ e51) ?_
    rintro _ H52 ⟨o1a_52,o1n_52,o1c_52,o1k_52,rfl,rfl,w52,s52,f52_0⟩
    obtain ⟨w53,s53⟩:=W.frame1 w49 w52 s52
    obtain ⟨w54,s54⟩:=W.frame1 w48 w53 s53
    refine br (br (br (br (br (br (br (br (br ?_))))))))
    refine cg w54 λH55 w55 s55=>?_
    refine aM w55 0 λH56 w56 s56=>?_
    refine aM w56 0 λH57 w57 s57=>?_
    refine lI w57 9 ?_
    refine cg w57 λH58 w58 s58=>?_
    refine aM w58 0 λH59 w59 s59=>?_
    refine aM w59 0 λH60 w60 s60=>?_
    refine aE hp (λhp=>?_) λhp=>?_
    ·refine aE hp (λhp=>?_) λhp=>?_
     ·refine lI w60 5 ?_
      refine lSl w60 5 ?_
      refine lI w60 0 ?_
      refine lSl w60 0 ?_
      obtain ⟨w61,s61⟩:=w60.pp [6,0,1,2,3,4,5,7,8,9,10] 11
      have f62:=W.borrow1 eI w61 ((CR.flat (gC .i64) f42_0).step (s45.trans (s46.trans (s47.trans (s48.trans (s54.trans (s55.trans (s56.trans (s57.trans (s58.trans (s59.trans (s60.trans s61))))))))))))
      obtain ⟨w62,s62⟩:=w61.right1
      obtain ⟨r63,e63,hp⟩:=ae hp
      refine aG (cF.P rfl rfl ⟨w62,f62,ROs.nil⟩ e63) ?_
      rintro _ H64 ⟨rfl,w64,s64,_⟩
      obtain ⟨w65,s65⟩:=W.frame1 w61 w64 s64
      refine br ?_
      refine aE hp (λhp=>?_) λhp=>?_
      ·obtain ⟨w66,s66⟩:=w65.pp [] 11
       exact aJ hp ⟨rfl,w66,(s0.trans (s2.trans (s4.trans (s5.trans (s6.trans (s7.trans (s8.trans (s9.trans (s10.trans (s11.trans (s17.trans (s23.trans (s28.trans (s29.trans (s30.trans (s31.trans (s38.trans (s44.trans (s45.trans (s46.trans (s47.trans (s48.trans (s54.trans (s55.trans (s56.trans (s57.trans (s58.trans (s59.trans (s60.trans (s61.trans (s65.trans s66))))))))))))))))))))))))))))))),trivial⟩
      ·refine lI w65 2 ?_
       refine lSl w65 2 ?_
       refine lI w65 1 ?_
       refine lSl w65 1 ?_
       obtain ⟨w67,s67⟩:=w65.pp [5,0,1,2,3,4,6,7,8,9,10] 11
       have f68:=W.borrow1 eI w67 ((CR.flat (gC .i64) f52_0).step (s55.trans (s56.trans (s57.trans (s58.trans (s59.trans (s60.trans (s61.trans (s65.trans s67)))))))))
       obtain ⟨w68,s68⟩:=w67.right1
       obtain ⟨r69,e69,hp⟩:=ae hp
       refine aG (cF.P rfl rfl ⟨w68,f68,ROs.nil⟩ e69) ?_
       rintro _ H70 ⟨rfl,w70,s70,_⟩
       obtain ⟨w71,s71⟩:=W.frame1 w67 w70 s70
       refine br ?_
       refine aE hp (λhp=>?_) λhp=>?_
       ·obtain ⟨w72,s72⟩:=w71.pp [] 11
        dsimp only [pk,pks,nth,List.drop,List.set,List.eraseIdx] at w72 s47 s48 s55 s56 s57 s58 s59 s60 s61 s67 s72
        exact aJ hp ⟨rfl,w72,(s0.trans (s2.trans (s4.trans (s5.trans (s6.trans (s7.trans (s8.trans (s9.trans (s10.trans (s11.trans (s17.trans (s23.trans (s28.trans (s29.trans (s30.trans (s31.trans (s38.trans (s44.trans (s45.trans (s46.trans (s47.trans (s48.trans (s54.trans (s55.trans (s56.trans (s57.trans (s58.trans (s59.trans (s60.trans (s61.trans (s65.trans (s67.trans (s71.trans s72))))))))))))))))))))))))))))))))),trivial⟩
       ·refine lI w71 10 ?_
        refine lSl w71 10 ?_
        refine lI w71 9 ?_
        refine lSl w71 9 ?_
        obtain ⟨w73,s73⟩:=w71.pp [5,8,0,1,2,3,4,6,7,9,10] 11
        dsimp only [pk,pks,nth,List.drop,List.set,List.eraseIdx] at w73 s47 s48 s55 s56 s57 s58 s59 s60 s61 s67 s73
        have f74:=W.borrow1 eI w73 (f4_0.step (s5.trans (s6.trans (s7.trans (s8.trans (s9.trans (s10.trans (s11.trans (s17.trans (s23.trans (s28.trans (s29.trans (s30.trans (s31.trans (s38.trans (s44.trans (s45.trans (s46.trans (s47.trans (s48.trans (s54.trans (s55.trans (s56.trans (s57.trans (s58.trans (s59.trans (s60.trans (s61.trans (s65.trans (s67.trans (s71.trans s73)))))))))))))))))))))))))))))))
        obtain ⟨w74,s74⟩:=w73.right1
        have f75:=W.borrow1 eI w74 ((f4_1.step (s5.trans (s6.trans (s7.trans (s8.trans (s9.trans (s10.trans (s11.trans (s17.trans (s23.trans (s28.trans (s29.trans (s30.trans (s31.trans (s38.trans (s44.trans (s45.trans (s46.trans (s47.trans (s48.trans (s54.trans (s55.trans (s56.trans (s57.trans (s58.trans (s59.trans (s60.trans (s61.trans (s65.trans (s67.trans (s71.trans s73))))))))))))))))))))))))))))))).step s74)
        obtain ⟨w75,s75⟩:=w74.right1
        obtain ⟨r76,e76,hp⟩:=ae hp
        refine aG (cQ.P rfl rfl ⟨w75,(f74.step s75),f75⟩ e76) ?_
        rintro _ H77 ⟨rfl,w77,s77,_⟩
        obtain ⟨w78,s78⟩:=W.frame1 w74 w77 s77
        obtain ⟨w79,s79⟩:=W.frame1 w73 w78 s78
        refine br ?_
        refine aE hp (λhp=>?_) λhp=>?_
        ·obtain ⟨w80,s80⟩:=w79.pp [] 11
         exact aJ hp ⟨rfl,w80,(s0.trans (s2.trans (s4.trans (s5.trans (s6.trans (s7.trans (s8.trans (s9.trans (s10.trans (s11.trans (s17.trans (s23.trans (s28.trans (s29.trans (s30.trans (s31.trans (s38.trans (s44.trans (s45.trans (s46.trans (s47.trans (s48.trans (s54.trans (s55.trans (s56.trans (s57.trans (s58.trans (s59.trans (s60.trans (s61.trans (s65.trans (s67.trans (s71.trans (s73.trans (s79.trans s80))))))))))))))))))))))))))))))))))),trivial⟩
        ·refine lI w79 10 ?_
         refine lSl w79 10 ?_
         have f81:=W.borrow1 eI w79 (f4_0.step (s5.trans (s6.trans (s7.trans (s8.trans (s9.trans (s10.trans (s11.trans (s17.trans (s23.trans (s28.trans (s29.trans (s30.trans (s31.trans (s38.trans (s44.trans (s45.trans (s46.trans (s47.trans (s48.trans (s54.trans (s55.trans (s56.trans (s57.trans (s58.trans (s59.trans (s60.trans (s61.trans (s65.trans (s67.trans (s71.trans (s73.trans s79))))))))))))))))))))))))))))))))
         obtain ⟨w81,s81⟩:=w79.right1
         obtain ⟨r82,e82,hp⟩:=ae hp
         refine aG (cJ.P rfl ⟨w81,f81⟩ e82) ?_
         rintro _ H83 ⟨o1a_83,o1n_83,o1c_83,o1k_83,o1m_83,rfl,rfl,w83,s83,f83_0⟩
         obtain ⟨w84,s84⟩:=W.frame1 w79 w83 s83
         refine br (br (br (br (br (br (br (br (br ?_))))))))
         refine cg w84 λH85 w85 s85=>?_
         refine aM w85 0 λH86 w86 s86=>?_
         refine aM w86 0 λH87 w87 s87=>?_
         refine lI w87 12 ?_
         refine lSl w87 12 ?_
         obtain ⟨w88,s88⟩:=w87.pp [4,0,1,2,3,5,6,7,8,9,10,11,12,13] 14
         have f89:=W.borrow1 eI w88 (f4_1.step (s5.trans (s6.trans (s7.trans (s8.trans (s9.trans (s10.trans (s11.trans (s17.trans (s23.trans (s28.trans (s29.trans (s30.trans (s31.trans (s38.trans (s44.trans (s45.trans (s46.trans (s47.trans (s48.trans (s54.trans (s55.trans (s56.trans (s57.trans (s58.trans (s59.trans (s60.trans (s61.trans (s65.trans (s67.trans (s71.trans (s73.trans (s79.trans (s84.trans (s85.trans (s86.trans (s87.trans s88)))))))))))))))))))))))))))))))))))))
         obtain ⟨w89,s89⟩:=w88.right1
         obtain ⟨r90,e90,hp⟩:=ae hp
         refine aG (cJ.P rfl ⟨w89,f89⟩ e90) ?_
         rintro _ H91 ⟨o1a_91,o1n_91,o1c_91,o1k_91,o1m_91,rfl,rfl,w91,s91,f91_0⟩
         obtain ⟨w92,s92⟩:=W.frame1 w88 w91 s91
         refine br (br (br (br (br (br (br (br (br ?_))))))))
         refine cg w92 λH93 w93 s93=>?_
         refine aM w93 0 λH94 w94 s94=>?_
         refine aM w94 0 λH95 w95 s95=>?_
         refine aE hp (λhp=>?_) λhp=>?_
         ·obtain ⟨w96,s96⟩:=w95.pp [] 17
          exact aJ hp ⟨rfl,w96,(s0.trans (s2.trans (s4.trans (s5.trans (s6.trans (s7.trans (s8.trans (s9.trans (s10.trans (s11.trans (s17.trans (s23.trans (s28.trans (s29.trans (s30.trans (s31.trans (s38.trans (s44.trans (s45.trans (s46.trans (s47.trans (s48.trans (s54.trans (s55.trans (s56.trans (s57.trans (s58.trans (s59.trans (s60.trans (s61.trans (s65.trans (s67.trans (s71.trans (s73.trans (s79.trans (s84.trans (s85.trans (s86.trans (s87.trans (s88.trans (s92.trans (s93.trans (s94.trans (s95.trans s96)))))))))))))))))))))))))))))))))))))))))))),trivial⟩
         ·refine aE hp (λhp=>?_) λhp=>?_
          ·obtain ⟨w97,s97⟩:=w95.pp [] 17
           exact aJ hp ⟨rfl,w97,(s0.trans (s2.trans (s4.trans (s5.trans (s6.trans (s7.trans (s8.trans (s9.trans (s10.trans (s11.trans (s17.trans (s23.trans (s28.trans (s29.trans (s30.trans (s31.trans (s38.trans (s44.trans (s45.trans (s46.trans (s47.trans (s48.trans (s54.trans (s55.trans (s56.trans (s57.trans (s58.trans (s59.trans (s60.trans (s61.trans (s65.trans (s67.trans (s71.trans (s73.trans (s79.trans (s84.trans (s85.trans (s86.trans (s87.trans (s88.trans (s92.trans (s93.trans (s94.trans (s95.trans s97)))))))))))))))))))))))))))))))))))))))))))),trivial⟩
          ·refine lI w95 4 ?_
           refine lI w95 0 ?_
           refine aE hp (λhp=>?_) λhp=>?_
           ·obtain ⟨w98,s98⟩:=w95.pp [] 17
            exact aJ hp ⟨rfl,w98,(s0.trans (s2.trans (s4.trans (s5.trans (s6.trans (s7.trans (s8.trans (s9.trans (s10.trans (s11.trans (s17.trans (s23.trans (s28.trans (s29.trans (s30.trans (s31.trans (s38.trans (s44.trans (s45.trans (s46.trans (s47.trans (s48.trans (s54.trans (s55.trans (s56.trans (s57.trans (s58.trans (s59.trans (s60.trans (s61.trans (s65.trans (s67.trans (s71.trans (s73.trans (s79.trans (s84.trans (s85.trans (s86.trans (s87.trans (s88.trans (s92.trans (s93.trans (s94.trans (s95.trans s98)))))))))))))))))))))))))))))))))))))))))))),trivial⟩
           ·refine lSl w95 4 ?_
            refine lSl w95 0 ?_
            refine aE hp (λhp=>?_) λhp=>?_
            ·obtain ⟨w99,s99⟩:=w95.pp [] 17
             exact aJ hp ⟨rfl,w99,(s0.trans (s2.trans (s4.trans (s5.trans (s6.trans (s7.trans (s8.trans (s9.trans (s10.trans (s11.trans (s17.trans (s23.trans (s28.trans (s29.trans (s30.trans (s31.trans (s38.trans (s44.trans (s45.trans (s46.trans (s47.trans (s48.trans (s54.trans (s55.trans (s56.trans (s57.trans (s58.trans (s59.trans (s60.trans (s61.trans (s65.trans (s67.trans (s71.trans (s73.trans (s79.trans (s84.trans (s85.trans (s86.trans (s87.trans (s88.trans (s92.trans (s93.trans (s94.trans (s95.trans s99)))))))))))))))))))))))))))))))))))))))))))),trivial⟩
            ·obtain ⟨w100,s100⟩:=w95.pp [6,7,0,1,2,3,4,5,8,9,10,11,12,13,14,15,16] 17
             dsimp only [pk,pks,nth,List.drop,List.set,List.eraseIdx] at w100 s86 s87 s88 s93 s94 s95 s100
             have f101:ROs (eSl eI) _ _ _ _:=W.borrow2 (oSl (cU eI)) w100 f83_0
             obtain ⟨w101,s101⟩:=w100.right2
             obtain ⟨w102,s102⟩:=w101.pp [2,3,0,1,4,5,6,7,8,9,10,11,12,13,14] 15
             dsimp only [pk,pks,nth,List.drop,List.set,List.eraseIdx] at w102 s102
             have f103:ROs (eSl eI) _ _ _ _:=W.borrow2 (oSl (cU eI)) w102 f91_0
             obtain ⟨w103,s103⟩:=w102.right2
             obtain ⟨w104,s104⟩:=w103.pp [3,12,1,11,2,0] 13
             exact aX.l131069_P F rfl rfl rfl rfl ⟨w104,(s0.trans (s2.trans (s4.trans (s5.trans (s6.trans (s7.trans (s8.trans (s9.trans (s10.trans (s11.trans (s17.trans (s23.trans (s28.trans (s29.trans (s30.trans (s31.trans (s38.trans (s44.trans (s45.trans (s46.trans (s47.trans (s48.trans (s54.trans (s55.trans (s56.trans (s57.trans (s58.trans (s59.trans (s60.trans (s61.trans (s65.trans (s67.trans (s71.trans (s73.trans (s79.trans (s84.trans (s85.trans (s86.trans (s87.trans (s88.trans (s92.trans (s93.trans (s94.trans (s95.trans (s100.trans (s101.trans (s102.trans (s103.trans s104)))))))))))))))))))))))))))))))))))))))))))))))),(f4_0.step (s5.trans (s6.trans (s7.trans (s8.trans (s9.trans (s10.trans (s11.trans (s17.trans (s23.trans (s28.trans (s29.trans (s30.trans (s31.trans (s38.trans (s44.trans (s45.trans (s46.trans (s47.trans (s48.trans (s54.trans (s55.trans (s56.trans (s57.trans (s58.trans (s59.trans (s60.trans (s61.trans (s65.trans (s67.trans (s71.trans (s73.trans (s79.trans (s84.trans (s85.trans (s86.trans (s87.trans (s88.trans (s92.trans (s93.trans (s94.trans (s95.trans (s100.trans (s101.trans (s102.trans (s103.trans s104)))))))))))))))))))))))))))))))))))))))))))))),(f4_1.step (s5.trans (s6.trans (s7.trans (s8.trans (s9.trans (s10.trans (s11.trans (s17.trans (s23.trans (s28.trans (s29.trans (s30.trans (s31.trans (s38.trans (s44.trans (s45.trans (s46.trans (s47.trans (s48.trans (s54.trans (s55.trans (s56.trans (s57.trans (s58.trans (s59.trans (s60.trans (s61.trans (s65.trans (s67.trans (s71.trans (s73.trans (s79.trans (s84.trans (s85.trans (s86.trans (s87.trans (s88.trans (s92.trans (s93.trans (s94.trans (s95.trans (s100.trans (s101.trans (s102.trans (s103.trans s104)))))))))))))))))))))))))))))))))))))))))))))),(f101.step (s102.trans (s103.trans s104))),(f103.step s104)⟩ hp
     ·refine lI w60 10 ?_
      refine lSl w60 10 ?_
      refine lI w60 9 ?_
      refine lSl w60 9 ?_
      obtain ⟨w105,s105⟩:=w60.pp [3,8,0,1,2,4,5,6,7,9,10] 11
      have f106:=W.borrow1 eI w105 (f4_0.step (s5.trans (s6.trans (s7.trans (s8.trans (s9.trans (s10.trans (s11.trans (s17.trans (s23.trans (s28.trans (s29.trans (s30.trans (s31.trans (s38.trans (s44.trans (s45.trans (s46.trans (s47.trans (s48.trans (s54.trans (s55.trans (s56.trans (s57.trans (s58.trans (s59.trans (s60.trans s105)))))))))))))))))))))))))))
      obtain ⟨w106,s106⟩:=w105.right1
      have f107:=W.borrow1 eI w106 ((f4_1.step (s5.trans (s6.trans (s7.trans (s8.trans (s9.trans (s10.trans (s11.trans (s17.trans (s23.trans (s28.trans (s29.trans (s30.trans (s31.trans (s38.trans (s44.trans (s45.trans (s46.trans (s47.trans (s48.trans (s54.trans (s55.trans (s56.trans (s57.trans (s58.trans (s59.trans (s60.trans s105))))))))))))))))))))))))))).step s106)
      obtain ⟨w107,s107⟩:=w106.right1
      obtain ⟨r108,e108,hp⟩:=ae hp
      refine aG (cQ.P rfl rfl ⟨w107,(f106.step s107),f107⟩ e108) ?_
      rintro _ H109 ⟨rfl,w109,s109,_⟩
      obtain ⟨w110,s110⟩:=W.frame1 w106 w109 s109
      obtain ⟨w111,s111⟩:=W.frame1 w105 w110 s110
      refine br ?_
      refine aE hp (λhp=>?_) λhp=>?_
      ·obtain ⟨w112,s112⟩:=w111.pp [] 11
       exact aJ hp ⟨rfl,w112,(s0.trans (s2.trans (s4.trans (s5.trans (s6.trans (s7.trans (s8.trans (s9.trans (s10.trans (s11.trans (s17.trans (s23.trans (s28.trans (s29.trans (s30.trans (s31.trans (s38.trans (s44.trans (s45.trans (s46.trans (s47.trans (s48.trans (s54.trans (s55.trans (s56.trans (s57.trans (s58.trans (s59.trans (s60.trans (s105.trans (s111.trans s112))))))))))))))))))))))))))))))),trivial⟩
      ·refine lI w111 10 ?_
       refine lSl w111 10 ?_
       have f113:=W.borrow1 eI w111 (f4_0.step (s5.trans (s6.trans (s7.trans (s8.trans (s9.trans (s10.trans (s11.trans (s17.trans (s23.trans (s28.trans (s29.trans (s30.trans (s31.trans (s38.trans (s44.trans (s45.trans (s46.trans (s47.trans (s48.trans (s54.trans (s55.trans (s56.trans (s57.trans (s58.trans (s59.trans (s60.trans (s105.trans s111))))))))))))))))))))))))))))
       obtain ⟨w113,s113⟩:=w111.right1
       obtain ⟨r114,e114,hp⟩:=ae hp
       refine aG (cJ.P rfl ⟨w113,f113⟩ e114) ?_
       rintro _ H115 ⟨o1a_115,o1n_115,o1c_115,o1k_115,o1m_115,rfl,rfl,w115,s115,f115_0⟩
       obtain ⟨w116,s116⟩:=W.frame1 w111 w115 s115
       refine br (br (br (br (br (br (br (br (br ?_))))))))
       refine cg w116 λH117 w117 s117=>?_
       refine aM w117 0 λH118 w118 s118=>?_
       refine aM w118 0 λH119 w119 s119=>?_
       dsimp only [pk,pks,nth,List.drop,List.set,List.eraseIdx] at w119 s47 s48 s55 s56 s57 s58 s59 s60 s105 s117 s118 s119
       refine lI w119 12 ?_
       refine lSl w119 12 ?_
       obtain ⟨w120,s120⟩:=w119.pp [4,0,1,2,3,5,6,7,8,9,10,11,12,13] 14
       have f121:=W.borrow1 eI w120 (f4_1.step (s5.trans (s6.trans (s7.trans (s8.trans (s9.trans (s10.trans (s11.trans (s17.trans (s23.trans (s28.trans (s29.trans (s30.trans (s31.trans (s38.trans (s44.trans (s45.trans (s46.trans (s47.trans (s48.trans (s54.trans (s55.trans (s56.trans (s57.trans (s58.trans (s59.trans (s60.trans (s105.trans (s111.trans (s116.trans (s117.trans (s118.trans (s119.trans s120)))))))))))))))))))))))))))))))))
       obtain ⟨w121,s121⟩:=w120.right1
       obtain ⟨r122,e122,hp⟩:=ae hp
       refine aG (cJ.P rfl ⟨w121,f121⟩ e122) ?_
       rintro _ H123 ⟨o1a_123,o1n_123,o1c_123,o1k_123,o1m_123,rfl,rfl,w123,s123,f123_0⟩
       obtain ⟨w124,s124⟩:=W.frame1 w120 w123 s123
       refine br (br (br (br (br (br (br (br (br ?_))))))))
       refine cg w124 λH125 w125 s125=>?_
       refine aM w125 0 λH126 w126 s126=>?_
       refine aM w126 0 λH127 w127 s127=>?_
       refine aE hp (λhp=>?_) λhp=>?_
       ·obtain ⟨w128,s128⟩:=w127.pp [] 17
        exact aJ hp ⟨rfl,w128,(s0.trans (s2.trans (s4.trans (s5.trans (s6.trans (s7.trans (s8.trans (s9.trans (s10.trans (s11.trans (s17.trans (s23.trans (s28.trans (s29.trans (s30.trans (s31.trans (s38.trans (s44.trans (s45.trans (s46.trans (s47.trans (s48.trans (s54.trans (s55.trans (s56.trans (s57.trans (s58.trans (s59.trans (s60.trans (s105.trans (s111.trans (s116.trans (s117.trans (s118.trans (s119.trans (s120.trans (s124.trans (s125.trans (s126.trans (s127.trans s128)))))))))))))))))))))))))))))))))))))))),trivial⟩
       ·refine aE hp (λhp=>?_) λhp=>?_
        ·obtain ⟨w129,s129⟩:=w127.pp [] 17
         exact aJ hp ⟨rfl,w129,(s0.trans (s2.trans (s4.trans (s5.trans (s6.trans (s7.trans (s8.trans (s9.trans (s10.trans (s11.trans (s17.trans (s23.trans (s28.trans (s29.trans (s30.trans (s31.trans (s38.trans (s44.trans (s45.trans (s46.trans (s47.trans (s48.trans (s54.trans (s55.trans (s56.trans (s57.trans (s58.trans (s59.trans (s60.trans (s105.trans (s111.trans (s116.trans (s117.trans (s118.trans (s119.trans (s120.trans (s124.trans (s125.trans (s126.trans (s127.trans s129)))))))))))))))))))))))))))))))))))))))),trivial⟩
        ·refine lI w127 4 ?_
         refine lI w127 0 ?_
         refine aE hp (λhp=>?_) λhp=>?_
         ·obtain ⟨w130,s130⟩:=w127.pp [] 17
          exact aJ hp ⟨rfl,w130,(s0.trans (s2.trans (s4.trans (s5.trans (s6.trans (s7.trans (s8.trans (s9.trans (s10.trans (s11.trans (s17.trans (s23.trans (s28.trans (s29.trans (s30.trans (s31.trans (s38.trans (s44.trans (s45.trans (s46.trans (s47.trans (s48.trans (s54.trans (s55.trans (s56.trans (s57.trans (s58.trans (s59.trans (s60.trans (s105.trans (s111.trans (s116.trans (s117.trans (s118.trans (s119.trans (s120.trans (s124.trans (s125.trans (s126.trans (s127.trans s130)))))))))))))))))))))))))))))))))))))))),trivial⟩
         ·refine lSl w127 4 ?_
          refine lSl w127 0 ?_
          refine aE hp (λhp=>?_) λhp=>?_
          ·obtain ⟨w131,s131⟩:=w127.pp [] 17
           exact aJ hp ⟨rfl,w131,(s0.trans (s2.trans (s4.trans (s5.trans (s6.trans (s7.trans (s8.trans (s9.trans (s10.trans (s11.trans (s17.trans (s23.trans (s28.trans (s29.trans (s30.trans (s31.trans (s38.trans (s44.trans (s45.trans (s46.trans (s47.trans (s48.trans (s54.trans (s55.trans (s56.trans (s57.trans (s58.trans (s59.trans (s60.trans (s105.trans (s111.trans (s116.trans (s117.trans (s118.trans (s119.trans (s120.trans (s124.trans (s125.trans (s126.trans (s127.trans s131)))))))))))))))))))))))))))))))))))))))),trivial⟩
          ·obtain ⟨w132,s132⟩:=w127.pp [6,7,0,1,2,3,4,5,8,9,10,11,12,13,14,15,16] 17
           dsimp only [pk,pks,nth,List.drop,List.set,List.eraseIdx] at w132 s120 s125 s126 s127 s132
           have f133:ROs (eSl eI) _ _ _ _:=W.borrow2 (oSl (cU eI)) w132 f115_0
           obtain ⟨w133,s133⟩:=w132.right2
           obtain ⟨w134,s134⟩:=w133.pp [2,3,0,1,4,5,6,7,8,9,10,11,12,13,14] 15
           dsimp only [pk,pks,nth,List.drop,List.set,List.eraseIdx] at w134 s134
           have f135:ROs (eSl eI) _ _ _ _:=W.borrow2 (oSl (cU eI)) w134 f123_0
           obtain ⟨w135,s135⟩:=w134.right2
           obtain ⟨w136,s136⟩:=w135.pp [3,12,1,11,2,0] 13
           exact aX.l131069_P F rfl rfl rfl rfl ⟨w136,(s0.trans (s2.trans (s4.trans (s5.trans (s6.trans (s7.trans (s8.trans (s9.trans (s10.trans (s11.trans (s17.trans (s23.trans (s28.trans (s29.trans (s30.trans (s31.trans (s38.trans (s44.trans (s45.trans (s46.trans (s47.trans (s48.trans (s54.trans (s55.trans (s56.trans (s57.trans (s58.trans (s59.trans (s60.trans (s105.trans (s111.trans (s116.trans (s117.trans (s118.trans (s119.trans (s120.trans (s124.trans (s125.trans (s126.trans (s127.trans (s132.trans (s133.trans (s134.trans (s135.trans s136)))))))))))))))))))))))))))))))))))))))))))),(f4_0.step (s5.trans (s6.trans (s7.trans (s8.trans (s9.trans (s10.trans (s11.trans (s17.trans (s23.trans (s28.trans (s29.trans (s30.trans (s31.trans (s38.trans (s44.trans (s45.trans (s46.trans (s47.trans (s48.trans (s54.trans (s55.trans (s56.trans (s57.trans (s58.trans (s59.trans (s60.trans (s105.trans (s111.trans (s116.trans (s117.trans (s118.trans (s119.trans (s120.trans (s124.trans (s125.trans (s126.trans (s127.trans (s132.trans (s133.trans (s134.trans (s135.trans s136)))))))))))))))))))))))))))))))))))))))))),(f4_1.step (s5.trans (s6.trans (s7.trans (s8.trans (s9.trans (s10.trans (s11.trans (s17.trans (s23.trans (s28.trans (s29.trans (s30.trans (s31.trans (s38.trans (s44.trans (s45.trans (s46.trans (s47.trans (s48.trans (s54.trans (s55.trans (s56.trans (s57.trans (s58.trans (s59.trans (s60.trans (s105.trans (s111.trans (s116.trans (s117.trans (s118.trans (s119.trans (s120.trans (s124.trans (s125.trans (s126.trans (s127.trans (s132.trans (s133.trans (s134.trans (s135.trans s136)))))))))))))))))))))))))))))))))))))))))),(f133.step (s134.trans (s135.trans s136))),(f135.step s136)⟩ hp
    ·refine lI w60 10 ?_
     refine lSl w60 10 ?_
     refine lI w60 9 ?_
     refine lSl w60 9 ?_
     obtain ⟨w137,s137⟩:=w60.pp [3,8,0,1,2,4,5,6,7,9,10] 11
     have f138:=W.borrow1 eI w137 (f4_0.step (s5.trans (s6.trans (s7.trans (s8.trans (s9.trans (s10.trans (s11.trans (s17.trans (s23.trans (s28.trans (s29.trans (s30.trans (s31.trans (s38.trans (s44.trans (s45.trans (s46.trans (s47.trans (s48.trans (s54.trans (s55.trans (s56.trans (s57.trans (s58.trans (s59.trans (s60.trans s137)))))))))))))))))))))))))))
     obtain ⟨w138,s138⟩:=w137.right1
     have f139:=W.borrow1 eI w138 ((f4_1.step (s5.trans (s6.trans (s7.trans (s8.trans (s9.trans (s10.trans (s11.trans (s17.trans (s23.trans (s28.trans (s29.trans (s30.trans (s31.trans (s38.trans (s44.trans (s45.trans (s46.trans (s47.trans (s48.trans (s54.trans (s55.trans (s56.trans (s57.trans (s58.trans (s59.trans (s60.trans s137))))))))))))))))))))))))))).step s138)
     obtain ⟨w139,s139⟩:=w138.right1
     obtain ⟨r140,e140,hp⟩:=ae hp
     refine aG (cQ.P rfl rfl ⟨w139,(f138.step s139),f139⟩ e140) ?_
     rintro _ H141 ⟨rfl,w141,s141,_⟩
     obtain ⟨w142,s142⟩:=W.frame1 w138 w141 s141
     obtain ⟨w143,s143⟩:=W.frame1 w137 w142 s142
     refine br ?_
     refine aE hp (λhp=>?_) λhp=>?_
     ·obtain ⟨w144,s144⟩:=w143.pp [] 11
      exact aJ hp ⟨rfl,w144,(s0.trans (s2.trans (s4.trans (s5.trans (s6.trans (s7.trans (s8.trans (s9.trans (s10.trans (s11.trans (s17.trans (s23.trans (s28.trans (s29.trans (s30.trans (s31.trans (s38.trans (s44.trans (s45.trans (s46.trans (s47.trans (s48.trans (s54.trans (s55.trans (s56.trans (s57.trans (s58.trans (s59.trans (s60.trans (s137.trans (s143.trans s144))))))))))))))))))))))))))))))),trivial⟩
     ·refine lI w143 10 ?_
      refine lSl w143 10 ?_
      have f145:=W.borrow1 eI w143 (f4_0.step (s5.trans (s6.trans (s7.trans (s8.trans (s9.trans (s10.trans (s11.trans (s17.trans (s23.trans (s28.trans (s29.trans (s30.trans (s31.trans (s38.trans (s44.trans (s45.trans (s46.trans (s47.trans (s48.trans (s54.trans (s55.trans (s56.trans (s57.trans (s58.trans (s59.trans (s60.trans (s137.trans s143))))))))))))))))))))))))))))
      obtain ⟨w145,s145⟩:=w143.right1
      obtain ⟨r146,e146,hp⟩:=ae hp
      refine aG (cJ.P rfl ⟨w145,f145⟩ e146) ?_
      rintro _ H147 ⟨o1a_147,o1n_147,o1c_147,o1k_147,o1m_147,rfl,rfl,w147,s147,f147_0⟩
      obtain ⟨w148,s148⟩:=W.frame1 w143 w147 s147
      refine br (br (br (br (br (br (br (br (br ?_))))))))
      refine cg w148 λH149 w149 s149=>?_
      refine aM w149 0 λH150 w150 s150=>?_
      refine aM w150 0 λH151 w151 s151=>?_
      dsimp only [pk,pks,nth,List.drop,List.set,List.eraseIdx] at w151 s47 s48 s55 s56 s57 s58 s59 s60 s137 s149 s150 s151
      refine lI w151 12 ?_
      refine lSl w151 12 ?_
      obtain ⟨w152,s152⟩:=w151.pp [4,0,1,2,3,5,6,7,8,9,10,11,12,13] 14
      have f153:=W.borrow1 eI w152 (f4_1.step (s5.trans (s6.trans (s7.trans (s8.trans (s9.trans (s10.trans (s11.trans (s17.trans (s23.trans (s28.trans (s29.trans (s30.trans (s31.trans (s38.trans (s44.trans (s45.trans (s46.trans (s47.trans (s48.trans (s54.trans (s55.trans (s56.trans (s57.trans (s58.trans (s59.trans (s60.trans (s137.trans (s143.trans (s148.trans (s149.trans (s150.trans (s151.trans s152)))))))))))))))))))))))))))))))))
      obtain ⟨w153,s153⟩:=w152.right1
      obtain ⟨r154,e154,hp⟩:=ae hp
      refine aG (cJ.P rfl ⟨w153,f153⟩ e154) ?_
      rintro _ H155 ⟨o1a_155,o1n_155,o1c_155,o1k_155,o1m_155,rfl,rfl,w155,s155,f155_0⟩
      obtain ⟨w156,s156⟩:=W.frame1 w152 w155 s155
      refine br (br (br (br (br (br (br (br (br ?_))))))))
      refine cg w156 λH157 w157 s157=>?_
      refine aM w157 0 λH158 w158 s158=>?_
      refine aM w158 0 λH159 w159 s159=>?_
      refine aE hp (λhp=>?_) λhp=>?_
      ·obtain ⟨w160,s160⟩:=w159.pp [] 17
       exact aJ hp ⟨rfl,w160,(s0.trans (s2.trans (s4.trans (s5.trans (s6.trans (s7.trans (s8.trans (s9.trans (s10.trans (s11.trans (s17.trans (s23.trans (s28.trans (s29.trans (s30.trans (s31.trans (s38.trans (s44.trans (s45.trans (s46.trans (s47.trans (s48.trans (s54.trans (s55.trans (s56.trans (s57.trans (s58.trans (s59.trans (s60.trans (s137.trans (s143.trans (s148.trans (s149.trans (s150.trans (s151.trans (s152.trans (s156.trans (s157.trans (s158.trans (s159.trans s160)))))))))))))))))))))))))))))))))))))))),trivial⟩
      ·refine aE hp (λhp=>?_) λhp=>?_
       ·obtain ⟨w161,s161⟩:=w159.pp [] 17
        exact aJ hp ⟨rfl,w161,(s0.trans (s2.trans (s4.trans (s5.trans (s6.trans (s7.trans (s8.trans (s9.trans (s10.trans (s11.trans (s17.trans (s23.trans (s28.trans (s29.trans (s30.trans (s31.trans (s38.trans (s44.trans (s45.trans (s46.trans (s47.trans (s48.trans (s54.trans (s55.trans (s56.trans (s57.trans (s58.trans (s59.trans (s60.trans (s137.trans (s143.trans (s148.trans (s149.trans (s150.trans (s151.trans (s152.trans (s156.trans (s157.trans (s158.trans (s159.trans s161)))))))))))))))))))))))))))))))))))))))),trivial⟩
       ·refine lI w159 4 ?_
        refine lI w159 0 ?_
        refine aE hp (λhp=>?_) λhp=>?_
        ·obtain ⟨w162,s162⟩:=w159.pp [] 17
         exact aJ hp ⟨rfl,w162,(s0.trans (s2.trans (s4.trans (s5.trans (s6.trans (s7.trans (s8.trans (s9.trans (s10.trans (s11.trans (s17.trans (s23.trans (s28.trans (s29.trans (s30.trans (s31.trans (s38.trans (s44.trans (s45.trans (s46.trans (s47.trans (s48.trans (s54.trans (s55.trans (s56.trans (s57.trans (s58.trans (s59.trans (s60.trans (s137.trans (s143.trans (s148.trans (s149.trans (s150.trans (s151.trans (s152.trans (s156.trans (s157.trans (s158.trans (s159.trans s162)))))))))))))))))))))))))))))))))))))))),trivial⟩
        ·refine lSl w159 4 ?_
         refine lSl w159 0 ?_
         refine aE hp (λhp=>?_) λhp=>?_
         ·obtain ⟨w163,s163⟩:=w159.pp [] 17
          exact aJ hp ⟨rfl,w163,(s0.trans (s2.trans (s4.trans (s5.trans (s6.trans (s7.trans (s8.trans (s9.trans (s10.trans (s11.trans (s17.trans (s23.trans (s28.trans (s29.trans (s30.trans (s31.trans (s38.trans (s44.trans (s45.trans (s46.trans (s47.trans (s48.trans (s54.trans (s55.trans (s56.trans (s57.trans (s58.trans (s59.trans (s60.trans (s137.trans (s143.trans (s148.trans (s149.trans (s150.trans (s151.trans (s152.trans (s156.trans (s157.trans (s158.trans (s159.trans s163)))))))))))))))))))))))))))))))))))))))),trivial⟩
         ·obtain ⟨w164,s164⟩:=w159.pp [6,7,0,1,2,3,4,5,8,9,10,11,12,13,14,15,16] 17
          dsimp only [pk,pks,nth,List.drop,List.set,List.eraseIdx] at w164 s152 s157 s158 s159 s164
          have f165:ROs (eSl eI) _ _ _ _:=W.borrow2 (oSl (cU eI)) w164 f147_0
          obtain ⟨w165,s165⟩:=w164.right2
          obtain ⟨w166,s166⟩:=w165.pp [2,3,0,1,4,5,6,7,8,9,10,11,12,13,14] 15
          dsimp only [pk,pks,nth,List.drop,List.set,List.eraseIdx] at w166 s166
          have f167:ROs (eSl eI) _ _ _ _:=W.borrow2 (oSl (cU eI)) w166 f155_0
          obtain ⟨w167,s167⟩:=w166.right2
          obtain ⟨w168,s168⟩:=w167.pp [3,12,1,11,2,0] 13
          exact aX.l131069_P F rfl rfl rfl rfl ⟨w168,(s0.trans (s2.trans (s4.trans (s5.trans (s6.trans (s7.trans (s8.trans (s9.trans (s10.trans (s11.trans (s17.trans (s23.trans (s28.trans (s29.trans (s30.trans (s31.trans (s38.trans (s44.trans (s45.trans (s46.trans (s47.trans (s48.trans (s54.trans (s55.trans (s56.trans (s57.trans (s58.trans (s59.trans (s60.trans (s137.trans (s143.trans (s148.trans (s149.trans (s150.trans (s151.trans (s152.trans (s156.trans (s157.trans (s158.trans (s159.trans (s164.trans (s165.trans (s166.trans (s167.trans s168)))))))))))))))))))))))))))))))))))))))))))),(f4_0.step (s5.trans (s6.trans (s7.trans (s8.trans (s9.trans (s10.trans (s11.trans (s17.trans (s23.trans (s28.trans (s29.trans (s30.trans (s31.trans (s38.trans (s44.trans (s45.trans (s46.trans (s47.trans (s48.trans (s54.trans (s55.trans (s56.trans (s57.trans (s58.trans (s59.trans (s60.trans (s137.trans (s143.trans (s148.trans (s149.trans (s150.trans (s151.trans (s152.trans (s156.trans (s157.trans (s158.trans (s159.trans (s164.trans (s165.trans (s166.trans (s167.trans s168)))))))))))))))))))))))))))))))))))))))))),(f4_1.step (s5.trans (s6.trans (s7.trans (s8.trans (s9.trans (s10.trans (s11.trans (s17.trans (s23.trans (s28.trans (s29.trans (s30.trans (s31.trans (s38.trans (s44.trans (s45.trans (s46.trans (s47.trans (s48.trans (s54.trans (s55.trans (s56.trans (s57.trans (s58.trans (s59.trans (s60.trans (s137.trans (s143.trans (s148.trans (s149.trans (s150.trans (s151.trans (s152.trans (s156.trans (s157.trans (s158.trans (s159.trans (s164.trans (s165.trans (s166.trans (s167.trans s168)))))))))))))))))))))))))))))))))))))))))),(f165.step (s166.trans (s167.trans s168))),(f167.step s168)⟩ hp
end
end Go.Proofs.Ytodfdhnlhiaohaa.AE
