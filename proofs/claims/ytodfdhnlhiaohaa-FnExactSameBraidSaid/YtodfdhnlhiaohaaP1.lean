import Derived.Test.YtodfdhnlhiaohaaT1
import Derived.Test.YtodfdhnlhiaohaaE2
set_option linter.unusedVariables false
set_option linter.unusedSimpArgs false
namespace Go.Proofs.Ytodfdhnlhiaohaa.AE
open Go Go.AE Go.Proofs IntKind
set_option linter.unusedVariables false
variable {F:Nat} {H H0:Hp} {Ri R0:Bc}
set_option maxHeartbeats 4000000
set_option maxRecDepth 100000
noncomputable section
def du.Q (H0:Hp) (Ri R0:Bc)  (r:Int) (v:AV) (H':Hp):Prop:=v=(.i r)/\Out H0 Ri H' (R0) λR=>True
def du.p (F:Nat) (ai:Ba) (ag:Int):Option (Int):=(bif (decide ((wrap .i64 (ag - (ai.length:Int)))<0)) then (some (-1)) else (some (wrap .i64 (ag - (ai.length:Int)))))
theorem du.P {aI au aJ ai ag} (bI:au=ai.length) (h0:Inn H R0 λR=>ROs eI H R ⟨aI,au,aJ⟩ ai) {r:Int} (hp:du.p F ai ag=some r):Rt (du.tw F ⟨aI,au,aJ⟩ ag H) (du.Q H R0 R0  r):=by
 obtain ⟨w0,bz⟩:=h0
 subst bI
 unfold du.p at hp
 unfold du.tw du.twX
 have s0:=w0.rf
 refine aE hp (λhp=>?_) λhp=>?_
 ·exact ax hp ⟨rfl,w0,s0,trivial⟩
 ·exact ax hp ⟨rfl,w0,s0,trivial⟩
def cj.Q (H0:Hp) (Ri R0:Bc)  (r:Int) (v:AV) (H':Hp):Prop:=v=(.i r)/\Out H0 Ri H' (R0) λR=>True
def cj.p (F:Nat) (az:Ba) (ak:Int):Option (Int):=(du.p F az ak).bind λr2=>(bif (decide (r2<0)) then (some (-1)) else (some r2))
theorem cj.P {aa ak bX bC bY az} (dn:bC=az.length) (h0:Inn H R0 λR=>ROs eI H R ⟨bX,bC,bY⟩ az) {r:Int} (hp:cj.p F az ak=some r):Rt (cj.tw F aa ⟨bX,bC,bY⟩ ak H) (cj.Q H R0 R0  r):=by
 obtain ⟨w0,cW⟩:=h0
 subst dn
 unfold cj.p at hp
 unfold cj.tw cj.twX
 have s0:=w0.rf
 refine cu w0 λH1 w1 s1=>?_
 refine lSl w1 0 ?_
 obtain ⟨r2,e2,hp⟩:=af hp
 refine aZ (du.P rfl ⟨w1,(cW.step s1)⟩ e2) ?_
 rintro _ H3 ⟨rfl,w3,s3,_⟩
 refine br ?_
 refine aE hp (λhp=>?_) λhp=>?_
 ·obtain ⟨w4,s4⟩:=w3.pp [] 1
  exact ax hp ⟨rfl,w4,(s0.trans (s1.trans (s3.trans s4))),trivial⟩
 ·obtain ⟨w5,s5⟩:=w3.pp [] 1
  exact ax hp ⟨rfl,w5,(s0.trans (s1.trans (s3.trans s5))),trivial⟩
def bs.Q (H0:Hp) (Ri R0:Bc)  (r:Ba) (v:AV) (H':Hp):Prop:=∃ o0a:ON,∃ o0n:Nat,∃ o0c:Cap,∃ o0k:List AV,v=(.sl ⟨o0a,o0n,o0c⟩)/\o0n=(r).length/\Out H0 Ri H' (Rs.own ⟨o0a,o0n,o0c⟩ eI.z o0k::R0) λR=>CR eI H' R o0k (r)
def bs.S29 (H0:Hp) (Ri R0:Bc)  (C:BA) (pC:BJ):Prop:=∀ {dc dz cn cX dd dA aM bF dB aL},∀ {H:Hp},cn=aM.length->cX=bF.length->(Out H0 Ri H (Rs.own ⟨dz,cX,dA⟩ eI.z dB::R0) λR=>ROs eI H R ⟨dc,cn,dd⟩ aM/\CR eI H R dB bF)->∀ {r:Ba},pC aM bF aL=some r->Rt (C ⟨dc,cn,dd⟩ ⟨dz,cX,dA⟩ aL H) (bs.Q H0 Ri R0  r)
def bs.pl29 (F:Nat) :Nat->List Int->List Int->Int->Option (List Int)
 | 0,_,_,_=>none
 | k+1,aM,bF,aL=>(bif (decide (aL<(aM.length:Int))) then ((ix aM aL).bind λn1=>(ix bF aL).bind λn2=>(some (bF.set n2 (gt aM n1))).bind λl3=>bs.pl29 F k aM l3 (wrap .i64 (aL+1))) else (some bF))
theorem bs.l29_P  :∀ k,bs.S29 H0 Ri R0  (bs.l29 F   k) (bs.pl29 F  k):=by
 intro k
 induction k with
 | zero=>unfold bs.S29;intros;rename_i hp;cases hp
 | succ k ih=>
  intro dc dz cn cX dd dA aM bF dB aL H eM fX h0 r hp
  obtain ⟨w0,s0,dp,dN⟩:=h0
  subst eM
  subst fX
  unfold bs.pl29 at hp
  unfold bs.l29
  refine aE hp (λhp=>?_) λhp=>?_
  ·obtain ⟨n1,g1,hp⟩:=af hp
   obtain ⟨p1,q1,i1,h1,j1⟩:=ROs.ixr dp rfl g1
   refine ah i1 ?_
   have h1:_=[_]:=h1
   subst h1
   refine ah (b_ (j1 0 _ rfl)) ?_
   obtain ⟨n2,g2,hp⟩:=af hp
   obtain ⟨p2,q2,i2,h2,j2⟩:=W.ixo (E:=eI) w0 (i:=0) rfl rfl dN g2
   refine ah i2 ?_
   obtain ⟨l3,e3,hp⟩:=af hp
   refine eP eI w0 (i:=0) (j:=0) (p:=p2) rfl rfl dN g2 i2 e3 rfl rfl (λ_ h=>by have h:_=[_]:=h;subst h;exact rfl) λH4 k4 w4 s4 c4=>?_
   exact ih rfl ((dV e3).symm) ⟨w4,(s0.trans s4),(dp.step s4),c4⟩ hp
  ·exact ax hp ⟨_,_,_,_,rfl,rfl,w0,s0,dN⟩
def bs.p (F:Nat) (ai:Ba):Option (List Int):=(mkn (ai.length:Int) (0:Int)).bind λl1=>bs.pl29 F F ai l1 0
theorem bs.P {aI au aJ ai} (bI:au=ai.length) (h0:Inn H R0 λR=>ROs eI H R ⟨aI,au,aJ⟩ ai) {r:Ba} (hp:bs.p F ai=some r):Rt (bs.tw F ⟨aI,au,aJ⟩ H) (bs.Q H R0 R0  r):=by
 obtain ⟨w0,bz⟩:=h0
 subst bI
 unfold bs.p at hp
 unfold bs.tw bs.twX
 have s0:=w0.rf
 obtain ⟨l1,e1,hp⟩:=af hp
 refine mD eI (0:Int) w0 rfl rfl rfl e1 λH2 k2 w2 s2 c2=>?_
 exact bs.l29_P F rfl rfl ⟨w2,(s0.trans s2),(bz.step s2),c2⟩ hp
def bQ.Q (H0:Hp) (Ri R0:Bc)  (r:Int×List Int) (v:AV) (H':Hp):Prop:=∃ o1a:ON,∃ o1n:Nat,∃ o1c:Cap,∃ o1k:List AV,v=(.agg [(.i r.1),(.sl ⟨o1a,o1n,o1c⟩)])/\o1n=(r.2).length/\Out H0 Ri H' (Rs.own ⟨o1a,o1n,o1c⟩ eI.z o1k::R0) λR=>CR eI H' R o1k (r.2)
def bQ.p (F:Nat) (aa:Int) (az:Ba):Option (Int×List Int):=(bs.p F az).bind λr5=>some (aa,r5)
theorem bQ.P {aa bX bC bY az} (dn:bC=az.length) (h0:Inn H R0 λR=>ROs eI H R ⟨bX,bC,bY⟩ az) {r:Int×List Int} (hp:bQ.p F aa az=some r):Rt (bQ.tw F aa ⟨bX,bC,bY⟩ H) (bQ.Q H R0 R0  r):=by
 obtain ⟨w0,cW⟩:=h0
 subst dn
 unfold bQ.p at hp
 unfold bQ.tw bQ.twX
 have s0:=w0.rf
 refine cu w0 λH1 w1 s1=>?_
 refine cu w1 λH2 w2 s2=>?_
 refine cu w2 λH3 w3 s3=>?_
 refine lI w3 2 ?_
 refine cv w3 0 λH4 w4 s4=>?_
 refine lSl w4 2 ?_
 obtain ⟨r5,e5,hp⟩:=af hp
 refine aZ (bs.P rfl ⟨w4,(cW.step (s1.trans (s2.trans (s3.trans s4))))⟩ e5) ?_
 rintro _ H6 ⟨o0a_6,o0n_6,o0c_6,o0k_6,rfl,rfl,w6,s6,f6_0⟩
 refine br ?_
 refine cv w6 1 λH7 w7 s7=>?_
 refine lI w7 1 ?_
 refine lSl w7 1 ?_
 refine cv w7 2 λH8 w8 s8=>?_
 refine cv w8 2 λH9 w9 s9=>?_
 refine lI w9 2 ?_
 refine lSl w9 2 ?_
 obtain ⟨w10,s10⟩:=w9.pp [0] 4
 exact ax hp ⟨_,_,_,_,rfl,rfl,w10,(s0.trans (s1.trans (s2.trans (s3.trans (s4.trans (s6.trans (s7.trans (s8.trans (s9.trans s10))))))))),(f6_0.step (s7.trans (s8.trans (s9.trans s10))))⟩
def cw.Q (H0:Hp) (Ri R0:Bc)  (r:Bool) (v:AV) (H':Hp):Prop:=v=(.bool r)/\Out H0 Ri H' (R0) λR=>True
def cw.p (F:Nat) (aa:Int) (ag:Int) (dE:Int):Option (Bool):=(bif (decide (aa>=ag)) then (some (decide (aa<=dE))) else (some false))
theorem cw.P {aa ag dE}  (h0:Inn H R0 λR=>True) {r:Bool} (hp:cw.p F aa ag dE=some r):Rt (cw.tw F aa ag dE H) (cw.Q H R0 R0  r):=by
 obtain ⟨w0,_⟩:=h0
 unfold cw.p at hp
 unfold cw.tw cw.twX
 have s0:=w0.rf
 refine aE hp (λhp=>?_) λhp=>?_
 ·exact ax hp ⟨rfl,w0,s0,trivial⟩
 ·exact ax hp ⟨rfl,w0,s0,trivial⟩
def cx.Q (H0:Hp) (Ri R0:Bc)  (r:Bool) (v:AV) (H':Hp):Prop:=v=(.bool r)/\Out H0 Ri H' (R0) λR=>True
def cx.p (F:Nat) (aa:Int) (ag:Int):Option (Bool):=(bif (aa != 0) then ((cw.p F aa (wrap .i64 (1 - ag)) (wrap .i64 (ag - 1))).bind λr1=>some r1) else (some false))
theorem cx.P {aa ag}  (h0:Inn H R0 λR=>True) {r:Bool} (hp:cx.p F aa ag=some r):Rt (cx.tw F aa ag H) (cx.Q H R0 R0  r):=by
 obtain ⟨w0,_⟩:=h0
 unfold cx.p at hp
 unfold cx.tw cx.twX
 have s0:=w0.rf
 refine aE hp (λhp=>?_) λhp=>?_
 ·obtain ⟨r1,e1,hp⟩:=af hp
  refine aZ (cw.P ⟨w0,trivial⟩ e1) ?_
  rintro _ H2 ⟨rfl,w2,s2,_⟩
  refine br ?_
  exact ax hp ⟨rfl,w2,(s0.trans s2),trivial⟩
 ·exact ax hp ⟨rfl,w0,s0,trivial⟩
def aS.Q (H0:Hp) (Ri R0:Bc)  (r:Bool) (v:AV) (H':Hp):Prop:=v=(.bool r)/\Out H0 Ri H' (R0) λR=>True
def aS.S29 (H0:Hp) (Ri R0:Bc)  (C:Bm) (pC:Int->List Int->Int->Option (Bool)):Prop:=∀ {jp dx ne lM de ng fY},∀ {H:Hp},lM=fY.length->(Out H0 Ri H (Rs.blk de [.i jp,.sl ⟨ne,lM,ng⟩]::R0) λR=>ROs eI H R ⟨ne,lM,ng⟩ fY)->∀ {r:Bool},pC jp fY dx=some r->Rt (C de 0 dx H) (aS.Q H0 Ri R0  r)
def aS.pl29 (F:Nat) :Nat->Int->List Int->Int->Option (Bool)
 | 0,_,_,_=>none
 | k+1,jp,fY,dx=>(bif (decide (dx<(fY.length:Int))) then ((ix fY dx).bind λn1=>(cx.p F (gt fY n1) jp).bind λr2=>(bif (!r2) then (some false) else (aS.pl29 F k jp fY (wrap .i64 (dx+1))))) else (some true))
theorem aS.l29_P  :∀ k,aS.S29 H0 Ri R0  (aS.l29 F (cw.tw F) (cx.tw F)  k) (aS.pl29 F  k):=by
 intro k
 induction k with
 | zero=>unfold aS.S29;intros;rename_i hp;cases hp
 | succ k ih=>
  intro jp dx ne lM de ng fY H wk h0 r hp
  obtain ⟨w0,s0,qy⟩:=h0
  subst wk
  unfold aS.pl29 at hp
  unfold aS.l29
  refine lSl w0 0 ?_
  refine aE hp (λhp=>?_) λhp=>?_
  ·refine lSl w0 0 ?_
   obtain ⟨n1,g1,hp⟩:=af hp
   obtain ⟨p1,q1,i1,h1,j1⟩:=ROs.ixr qy rfl g1
   refine ah i1 ?_
   have h1:_=[_]:=h1
   subst h1
   refine ah (b_ (j1 0 _ rfl)) ?_
   refine lI w0 0 ?_
   obtain ⟨r2,e2,hp⟩:=af hp
   refine aZ (cx.P ⟨w0,trivial⟩ e2) ?_
   rintro _ H3 ⟨rfl,w3,s3,_⟩
   refine br ?_
   refine aE hp (λhp=>?_) λhp=>?_
   ·obtain ⟨w4,s4⟩:=w3.pp [] 1
    exact ax hp ⟨rfl,w4,(s0.trans (s3.trans s4)),trivial⟩
   ·exact ih rfl ⟨w3,(s0.trans s3),(qy.step s3)⟩ hp
  ·obtain ⟨w5,s5⟩:=w0.pp [] 1
   exact ax hp ⟨rfl,w5,(s0.trans s5),trivial⟩
def aS.p (F:Nat) (aa:Int) (az:Ba):Option (Bool):=(cw.p F aa 1 6).bind λr2=>(bif (!r2) then (some false) else ((bif (decide ((az.length:Int)>24)) then (some false) else (aS.pl29 F F aa az 0))))
theorem aS.P {aa bX bC bY az} (dn:bC=az.length) (h0:Inn H R0 λR=>ROs eI H R ⟨bX,bC,bY⟩ az) {r:Bool} (hp:aS.p F aa az=some r):Rt (aS.tw F aa ⟨bX,bC,bY⟩ H) (aS.Q H R0 R0  r):=by
 obtain ⟨w0,cW⟩:=h0
 subst dn
 unfold aS.p at hp
 unfold aS.tw aS.twX
 have s0:=w0.rf
 refine cu w0 λH1 w1 s1=>?_
 refine lI w1 0 ?_
 obtain ⟨r2,e2,hp⟩:=af hp
 refine aZ (cw.P ⟨w1,trivial⟩ e2) ?_
 rintro _ H3 ⟨rfl,w3,s3,_⟩
 refine br ?_
 refine aE hp (λhp=>?_) λhp=>?_
 ·obtain ⟨w4,s4⟩:=w3.pp [] 1
  exact ax hp ⟨rfl,w4,(s0.trans (s1.trans (s3.trans s4))),trivial⟩
 ·refine lSl w3 0 ?_
  refine aE hp (λhp=>?_) λhp=>?_
  ·obtain ⟨w5,s5⟩:=w3.pp [] 1
   exact ax hp ⟨rfl,w5,(s0.trans (s1.trans (s3.trans s5))),trivial⟩
  ·exact aS.l29_P F rfl ⟨w3,(s0.trans (s1.trans s3)),(cW.step (s1.trans s3))⟩ hp
def aU.Q (H0:Hp) (Ri R0:Bc)  (r:Ba) (v:AV) (H':Hp):Prop:=∃ o0a:ON,∃ o0n:Nat,∃ o0c:Cap,∃ o0k:List AV,v=(.sl ⟨o0a,o0n,o0c⟩)/\o0n=(r).length/\Out H0 Ri H' (Rs.own ⟨o0a,o0n,o0c⟩ eI.z o0k::R0) λR=>CR eI H' R o0k (r)
def aU.S29 (H0:Hp) (Ri R0:Bc)  (C:Bu) (pC:BK):Prop:=∀ {aP aL dz cX dA bF dB},∀ {H:Hp},cX=bF.length->(Out H0 Ri H (Rs.own ⟨dz,cX,dA⟩ eI.z dB::R0) λR=>CR eI H R dB bF)->∀ {r:Ba},pC aP bF aL=some r->Rt (C aP ⟨dz,cX,dA⟩ aL H) (aU.Q H0 Ri R0  r)
def aU.pl29 (F:Nat) :Nat->Int->List Int->Int->Option (List Int)
 | 0,_,_,_=>none
 | k+1,aP,bF,aL=>(bif (decide (aL<aP)) then ((apn bF ([aL]:List Int)).bind λl2=>aU.pl29 F k aP l2 (wrap .i64 (aL+1))) else (some bF))
theorem aU.l29_P  :∀ k,aU.S29 H0 Ri R0  (aU.l29 F   k) (aU.pl29 F  k):=by
 intro k
 induction k with
 | zero=>unfold aU.S29;intros;rename_i hp;cases hp
 | succ k ih=>
  intro aP aL dz cX dA bF dB H fX h0 r hp
  obtain ⟨w0,s0,dN⟩:=h0
  subst fX
  unfold aU.pl29 at hp
  unfold aU.l29
  refine aE hp (λhp=>?_) λhp=>?_
  ·refine dU eI w0 (n:=1) (l:=([aL]:List Int)) rfl (CR.cons1 rfl CR.empty) rfl λH1 w1 s1 c1=>?_
   refine ah (w1.rowo (i:=0) rfl) ?_
   obtain ⟨l2,e2,hp⟩:=af hp
   refine eZ eI w1 (i:=1) rfl rfl (dN.step s1) c1 (show 1=List.length ([aL]:List Int) from rfl) rfl e2 λa3 d3 H3 w3 s3 c3 x3=>?_
   obtain ⟨w4,s4⟩:=w3.pp [1] 2
   exact ih rfl ⟨w4,(s0.trans (s1.trans (s3.trans s4))),(c3.step s4)⟩ hp
  ·exact ax hp ⟨_,_,_,_,rfl,rfl,w0,s0,dN⟩
def aU.p (F:Nat) (aa:Int):Option (List Int):=aU.pl29 F F aa ([]:List Int) 0
theorem aU.P {aa}  (h0:Inn H R0 λR=>True) {r:Ba} (hp:aU.p F aa=some r):Rt (aU.tw F aa H) (aU.Q H R0 R0  r):=by
 obtain ⟨w0,_⟩:=h0
 unfold aU.p at hp
 unfold aU.tw aU.twX
 have s0:=w0.rf
 refine dU eI w0 (n:=0) (l:=([]:List Int)) rfl CR.empty rfl λH1 w1 s1 c1=>?_
 exact aU.l29_P F (show 0=List.length ([]:List Int) from rfl) ⟨w1,(s0.trans s1),c1⟩ hp
def ap.Q (H0:Hp) (Ri R0:Bc)  (r:Ba) (v:AV) (H':Hp):Prop:=∃ o0a:ON,∃ o0n:Nat,∃ o0c:Cap,∃ o0k:List AV,v=(.sl ⟨o0a,o0n,o0c⟩)/\o0n=(r).length/\Out H0 Ri H' (Rs.own ⟨o0a,o0n,o0c⟩ eI.z o0k::R0) λR=>CR eI H' R o0k (r)
def ap.S29 (H0:Hp) (Ri R0:Bc)  (C:Br) (pC:Bt):Prop:=∀ {hR nh fZ lN hU ni cS f_ cK dy nj},∀ {H:Hp},fZ=cS.length->lN=f_.length->(Out H0 Ri H (Rs.own ⟨nh,lN,ni⟩ eI.z nj::R0) λR=>ROs eI H R ⟨hR,fZ,hU⟩ cS/\CR eI H R nj f_)->∀ {r:Ba},pC cS cK f_ dy=some r->Rt (C ⟨hR,fZ,hU⟩ cK ⟨nh,lN,ni⟩ dy H) (ap.Q H0 Ri R0  r)
def ap.pj4 (F:Nat) (bO:Bt) (jV:Ba) (ir:Int) (jW:Ba) (iu:Int):Option (List Int):=bO jV ir jW (wrap .i64 (iu+1))
theorem ap.j4_P  {C29_:Br} {bO:Bt} (hC29:ap.S29 H0 Ri R0  C29_ bO) {qz qA nk nl qB qC jV jW ir iu qD} (wl:nk=jV.length) (wo:nl=jW.length) (h0:Out H0 Ri H (Rs.own ⟨qA,nl,qC⟩ eI.z qD::R0) λR=>ROs eI H R ⟨qz,nk,qB⟩ jV/\CR eI H R qD jW) {r:Ba} (hp:ap.pj4 F bO jV ir jW iu=some r):Rt (ap.j4 F  C29_ ⟨qz,nk,qB⟩ ir ⟨qA,nl,qC⟩ iu H) (ap.Q H0 Ri R0  r):=by
 obtain ⟨w0,s0,wq,wt⟩:=h0
 subst wl
 subst wo
 unfold ap.pj4 at hp
 unfold ap.j4
 exact hC29 rfl rfl ⟨w0,s0,wq,wt⟩ hp
def ap.pj5 (F:Nat) (bO:Bt) (jX:Ba) (iw:Int) (jY:Ba) (iy:Int):Option (List Int):=bO jX iw jY (wrap .i64 (iy+1))
theorem ap.j5_P  {C29_:Br} {bO:Bt} (hC29:ap.S29 H0 Ri R0  C29_ bO) {qE qF nm nn qG qH jX jY iw iy qI} (wu:nm=jX.length) (wv:nn=jY.length) (h0:Out H0 Ri H (Rs.own ⟨qF,nn,qH⟩ eI.z qI::R0) λR=>ROs eI H R ⟨qE,nm,qG⟩ jX/\CR eI H R qI jY) {r:Ba} (hp:ap.pj5 F bO jX iw jY iy=some r):Rt (ap.j5 F  C29_ ⟨qE,nm,qG⟩ iw ⟨qF,nn,qH⟩ iy H) (ap.Q H0 Ri R0  r):=by
 obtain ⟨w0,s0,ww,wx⟩:=h0
 subst wu
 subst wv
 unfold ap.pj5 at hp
 unfold ap.j5
 exact hC29 rfl rfl ⟨w0,s0,ww,wx⟩ hp
def ap.pj6 (F:Nat) (bO:Bt) (jZ:Ba) (iz:Int) (j_:Ba) (iA:Int):Option (List Int):=ap.pj5 F bO jZ iz j_ iA
theorem ap.j6_P  {C29_:Br} {bO:Bt} (hC29:ap.S29 H0 Ri R0  C29_ bO) {qJ qK np nq qL qM jZ j_ iz iA qN} (wy:np=jZ.length) (wz:nq=j_.length) (h0:Out H0 Ri H (Rs.own ⟨qK,nq,qM⟩ eI.z qN::R0) λR=>ROs eI H R ⟨qJ,np,qL⟩ jZ/\CR eI H R qN j_) {r:Ba} (hp:ap.pj6 F bO jZ iz j_ iA=some r):Rt (ap.j6 F  C29_ ⟨qJ,np,qL⟩ iz ⟨qK,nq,qM⟩ iA H) (ap.Q H0 Ri R0  r):=by
 obtain ⟨w0,s0,wA,wB⟩:=h0
 subst wy
 subst wz
 unfold ap.pj6 at hp
 unfold ap.j6
 exact ap.j5_P (@hC29) rfl rfl ⟨w0,s0,wA,wB⟩ hp
def ap.pl29 (F:Nat) :Nat->List Int->Int->List Int->Int->Option (List Int)
 | 0,_,_,_,_=>none
 | k+1,cS,cK,f_,dy=>(bif (decide (dy<(cS.length:Int))) then ((ix cS dy).bind λn1=>(bif ((gt cS n1)==(wrap .i64 (cK - 1))) then ((apn f_ ([cK]:List Int)).bind λl3=>ap.pj4 F (ap.pl29 F k) cS cK l3 dy) else ((bif ((gt cS n1)==cK) then ((apn f_ ([(wrap .i64 (cK - 1))]:List Int)).bind λl7=>ap.pj6 F (ap.pl29 F k) cS cK l7 dy) else ((ix cS dy).bind λn10=>(apn f_ ([(gt cS n10)]:List Int)).bind λl12=>ap.pj6 F (ap.pl29 F k) cS cK l12 dy))))) else (some f_))
theorem ap.l29_P  :∀ k,ap.S29 H0 Ri R0  (ap.l29 F   k) (ap.pl29 F  k):=by
 intro k
 induction k with
 | zero=>unfold ap.S29;intros;rename_i hp;cases hp
 | succ k ih=>
  intro hR nh fZ lN hU ni cS f_ cK dy nj H nr wC h0 r hp
  obtain ⟨w0,s0,gB,lO⟩:=h0
  subst nr
  subst wC
  unfold ap.pl29 at hp
  unfold ap.l29
  refine aE hp (λhp=>?_) λhp=>?_
  ·obtain ⟨n1,g1,hp⟩:=af hp
   obtain ⟨p1,q1,i1,h1,j1⟩:=ROs.ixr gB rfl g1
   refine ah i1 ?_
   have h1:_=[_]:=h1
   subst h1
   refine ah (b_ (j1 0 _ rfl)) ?_
   refine aE hp (λhp=>?_) λhp=>?_
   ·refine dU eI w0 (n:=1) (l:=([cK]:List Int)) rfl (CR.cons1 rfl CR.empty) rfl λH2 w2 s2 c2=>?_
    refine ah (w2.rowo (i:=0) rfl) ?_
    obtain ⟨l3,e3,hp⟩:=af hp
    refine eZ eI w2 (i:=1) rfl rfl (lO.step s2) c2 (show 1=List.length ([cK]:List Int) from rfl) rfl e3 λa4 d4 H4 w4 s4 c4 x4=>?_
    obtain ⟨w5,s5⟩:=w4.pp [1] 2
    exact ap.j4_P (@ih) rfl rfl ⟨w5,(s0.trans (s2.trans (s4.trans s5))),(gB.step (s2.trans (s4.trans s5))),(c4.step s5)⟩ hp
   ·refine aE hp (λhp=>?_) λhp=>?_
    ·refine dU eI w0 (n:=1) (l:=([(wrap .i64 (cK - 1))]:List Int)) rfl (CR.cons1 rfl CR.empty) rfl λH6 w6 s6 c6=>?_
     refine ah (w6.rowo (i:=0) rfl) ?_
     obtain ⟨l7,e7,hp⟩:=af hp
     refine eZ eI w6 (i:=1) rfl rfl (lO.step s6) c6 (show 1=List.length ([(wrap .i64 (cK - 1))]:List Int) from rfl) rfl e7 λa8 d8 H8 w8 s8 c8 x8=>?_
     obtain ⟨w9,s9⟩:=w8.pp [1] 2
     exact ap.j6_P (@ih) rfl rfl ⟨w9,(s0.trans (s6.trans (s8.trans s9))),(gB.step (s6.trans (s8.trans s9))),(c8.step s9)⟩ hp
    ·obtain ⟨n10,g10,hp⟩:=af hp
     obtain ⟨p10,q10,i10,h10,j10⟩:=ROs.ixr gB rfl g10
     refine ah i10 ?_
     have h10:_=[_]:=h10
     subst h10
     refine ah (b_ (j10 0 _ rfl)) ?_
     refine dU eI w0 (n:=1) (l:=([(gt cS n10)]:List Int)) rfl (CR.cons1 rfl CR.empty) rfl λH11 w11 s11 c11=>?_
     refine ah (w11.rowo (i:=0) rfl) ?_
     obtain ⟨l12,e12,hp⟩:=af hp
     refine eZ eI w11 (i:=1) rfl rfl (lO.step s11) c11 (show 1=List.length ([(gt cS n10)]:List Int) from rfl) rfl e12 λa13 d13 H13 w13 s13 c13 x13=>?_
     obtain ⟨w14,s14⟩:=w13.pp [1] 2
     exact ap.j6_P (@ih) rfl rfl ⟨w14,(s0.trans (s11.trans (s13.trans s14))),(gB.step (s11.trans (s13.trans s14))),(c13.step s14)⟩ hp
  ·exact ax hp ⟨_,_,_,_,rfl,rfl,w0,s0,lO⟩
def ap.p (F:Nat) (ai:Ba) (ag:Int):Option (List Int):=ap.pl29 F F ai ag ([]:List Int) 0
theorem ap.P {aI au aJ ai ag} (bI:au=ai.length) (h0:Inn H R0 λR=>ROs eI H R ⟨aI,au,aJ⟩ ai) {r:Ba} (hp:ap.p F ai ag=some r):Rt (ap.tw F ⟨aI,au,aJ⟩ ag H) (ap.Q H R0 R0  r):=by
 obtain ⟨w0,bz⟩:=h0
 subst bI
 unfold ap.p at hp
 unfold ap.tw ap.twX
 have s0:=w0.rf
 refine dU eI w0 (n:=0) (l:=([]:List Int)) rfl CR.empty rfl λH1 w1 s1 c1=>?_
 exact ap.l29_P F rfl (show 0=List.length ([]:List Int) from rfl) ⟨w1,(s0.trans s1),(bz.step s1),c1⟩ hp
def aX.Q (H0:Hp) (Ri R0:Bc)  (r:Ba) (v:AV) (H':Hp):Prop:=∃ o0a:ON,∃ o0n:Nat,∃ o0c:Cap,∃ o0k:List AV,v=(.sl ⟨o0a,o0n,o0c⟩)/\o0n=(r).length/\Out H0 Ri H' (Rs.own ⟨o0a,o0n,o0c⟩ eI.z o0k::R0) λR=>CR eI H' R o0k (r)
def aX.S61 (H0:Hp) (Ri R0:Bc)  (C:Br) (pC:Bt):Prop:=∀ {dc ns cn lP dd nu aM hY bv bg nv},∀ {H:Hp},cn=aM.length->lP=hY.length->(Out H0 Ri H (Rs.own ⟨ns,lP,nu⟩ eI.z nv::R0) λR=>ROs eI H R ⟨dc,cn,dd⟩ aM/\CR eI H R nv hY)->∀ {r:Ba},pC aM bv hY bg=some r->Rt (C ⟨dc,cn,dd⟩ bv ⟨ns,lP,nu⟩ bg H) (aX.Q H0 Ri R0  r)
def aX.pl61 (F:Nat) :Nat->List Int->Int->List Int->Int->Option (List Int)
 | 0,_,_,_,_=>none
 | k+1,aM,bv,hY,bg=>(bif (decide (bg<bv)) then ((ix aM (wrap .i64 ((wrap .i64 (bv - 1)) - bg))).bind λn1=>(apn hY ([(wrap .i64 ((wrap .i64 (bv - 1)) - (gt aM n1)))]:List Int)).bind λl3=>aX.pl61 F k aM bv l3 (wrap .i64 (bg+1))) else (some hY))
theorem aX.l61_P  :∀ k,aX.S61 H0 Ri R0  (aX.l61 F   k) (aX.pl61 F  k):=by
 intro k
 induction k with
 | zero=>unfold aX.S61;intros;rename_i hp;cases hp
 | succ k ih=>
  intro dc ns cn lP dd nu aM hY bv bg nv H eM wD h0 r hp
  obtain ⟨w0,s0,dp,qO⟩:=h0
  subst eM
  subst wD
  unfold aX.pl61 at hp
  unfold aX.l61
  refine aE hp (λhp=>?_) λhp=>?_
  ·obtain ⟨n1,g1,hp⟩:=af hp
   obtain ⟨p1,q1,i1,h1,j1⟩:=ROs.ixr dp rfl g1
   refine ah i1 ?_
   have h1:_=[_]:=h1
   subst h1
   refine ah (b_ (j1 0 _ rfl)) ?_
   refine dU eI w0 (n:=1) (l:=([(wrap .i64 ((wrap .i64 (bv - 1)) - (gt aM n1)))]:List Int)) rfl (CR.cons1 rfl CR.empty) rfl λH2 w2 s2 c2=>?_
   refine ah (w2.rowo (i:=0) rfl) ?_
   obtain ⟨l3,e3,hp⟩:=af hp
   refine eZ eI w2 (i:=1) rfl rfl (qO.step s2) c2 (show 1=List.length ([(wrap .i64 ((wrap .i64 (bv - 1)) - (gt aM n1)))]:List Int) from rfl) rfl e3 λa4 d4 H4 w4 s4 c4 x4=>?_
   obtain ⟨w5,s5⟩:=w4.pp [1] 2
   exact ih rfl rfl ⟨w5,(s0.trans (s2.trans (s4.trans s5))),(dp.step (s2.trans (s4.trans s5))),(c4.step s5)⟩ hp
  ·exact ax hp ⟨_,_,_,_,rfl,rfl,w0,s0,qO⟩
def aX.p (F:Nat) (ai:Ba):Option (List Int):=aX.pl61 F F ai (ai.length:Int) ([]:List Int) 0
theorem aX.P {aI au aJ ai} (bI:au=ai.length) (h0:Inn H R0 λR=>ROs eI H R ⟨aI,au,aJ⟩ ai) {r:Ba} (hp:aX.p F ai=some r):Rt (aX.tw F ⟨aI,au,aJ⟩ H) (aX.Q H R0 R0  r):=by
 obtain ⟨w0,bz⟩:=h0
 subst bI
 unfold aX.p at hp
 unfold aX.tw aX.twX
 have s0:=w0.rf
 refine dU eI w0 (n:=0) (l:=([]:List Int)) rfl CR.empty rfl λH1 w1 s1 c1=>?_
 exact aX.l61_P F rfl (show 0=List.length ([]:List Int) from rfl) ⟨w1,(s0.trans s1),(bz.step s1),c1⟩ hp
def aV.Q (H0:Hp) (Ri R0:Bc)  (r:Ba) (v:AV) (H':Hp):Prop:=∃ o0a:ON,∃ o0n:Nat,∃ o0c:Cap,∃ o0k:List AV,v=(.sl ⟨o0a,o0n,o0c⟩)/\o0n=(r).length/\Out H0 Ri H' (Rs.own ⟨o0a,o0n,o0c⟩ eI.z o0k::R0) λR=>CR eI H' R o0k (r)
def aV.S29 (H0:Hp) (Ri R0:Bc)  (C:Bu) (pC:BK):Prop:=∀ {aP aL dz cX dA bF dB},∀ {H:Hp},cX=bF.length->(Out H0 Ri H (Rs.own ⟨dz,cX,dA⟩ eI.z dB::R0) λR=>CR eI H R dB bF)->∀ {r:Ba},pC aP bF aL=some r->Rt (C aP ⟨dz,cX,dA⟩ aL H) (aV.Q H0 Ri R0  r)
def aV.pl29 (F:Nat) :Nat->Int->List Int->Int->Option (List Int)
 | 0,_,_,_=>none
 | k+1,aP,bF,aL=>(bif (decide (aL<aP)) then ((apn bF ([(wrap .i64 ((wrap .i64 (aP - 1)) - aL))]:List Int)).bind λl2=>aV.pl29 F k aP l2 (wrap .i64 (aL+1))) else (some bF))
theorem aV.l29_P  :∀ k,aV.S29 H0 Ri R0  (aV.l29 F   k) (aV.pl29 F  k):=by
 intro k
 induction k with
 | zero=>unfold aV.S29;intros;rename_i hp;cases hp
 | succ k ih=>
  intro aP aL dz cX dA bF dB H fX h0 r hp
  obtain ⟨w0,s0,dN⟩:=h0
  subst fX
  unfold aV.pl29 at hp
  unfold aV.l29
  refine aE hp (λhp=>?_) λhp=>?_
  ·refine dU eI w0 (n:=1) (l:=([(wrap .i64 ((wrap .i64 (aP - 1)) - aL))]:List Int)) rfl (CR.cons1 rfl CR.empty) rfl λH1 w1 s1 c1=>?_
   refine ah (w1.rowo (i:=0) rfl) ?_
   obtain ⟨l2,e2,hp⟩:=af hp
   refine eZ eI w1 (i:=1) rfl rfl (dN.step s1) c1 (show 1=List.length ([(wrap .i64 ((wrap .i64 (aP - 1)) - aL))]:List Int) from rfl) rfl e2 λa3 d3 H3 w3 s3 c3 x3=>?_
   obtain ⟨w4,s4⟩:=w3.pp [1] 2
   exact ih rfl ⟨w4,(s0.trans (s1.trans (s3.trans s4))),(c3.step s4)⟩ hp
  ·exact ax hp ⟨_,_,_,_,rfl,rfl,w0,s0,dN⟩
def aV.p (F:Nat) (aa:Int):Option (List Int):=aV.pl29 F F aa ([]:List Int) 0
theorem aV.P {aa}  (h0:Inn H R0 λR=>True) {r:Ba} (hp:aV.p F aa=some r):Rt (aV.tw F aa H) (aV.Q H R0 R0  r):=by
 obtain ⟨w0,_⟩:=h0
 unfold aV.p at hp
 unfold aV.tw aV.twX
 have s0:=w0.rf
 refine dU eI w0 (n:=0) (l:=([]:List Int)) rfl CR.empty rfl λH1 w1 s1 c1=>?_
 exact aV.l29_P F (show 0=List.length ([]:List Int) from rfl) ⟨w1,(s0.trans s1),c1⟩ hp
def bh.Q (H0:Hp) (Ri R0:Bc)  (r:Ba) (v:AV) (H':Hp):Prop:=∃ o0a:ON,∃ o0n:Nat,∃ o0c:Cap,∃ o0k:List AV,v=(.sl ⟨o0a,o0n,o0c⟩)/\o0n=(r).length/\Out H0 Ri H' (Rs.own ⟨o0a,o0n,o0c⟩ eI.z o0k::R0) λR=>CR eI H' R o0k (r)
def bh.S29 (H0:Hp) (Ri R0:Bc)  (C:BA) (pC:BJ):Prop:=∀ {dc dz cn cX dd dA aM bF dB aL},∀ {H:Hp},cn=aM.length->cX=bF.length->(Out H0 Ri H (Rs.own ⟨dz,cX,dA⟩ eI.z dB::R0) λR=>ROs eI H R ⟨dc,cn,dd⟩ aM/\CR eI H R dB bF)->∀ {r:Ba},pC aM bF aL=some r->Rt (C ⟨dc,cn,dd⟩ ⟨dz,cX,dA⟩ aL H) (bh.Q H0 Ri R0  r)
def bh.pl29 (F:Nat) :Nat->List Int->List Int->Int->Option (List Int)
 | 0,_,_,_=>none
 | k+1,aM,bF,aL=>(bif (decide (aL<(aM.length:Int))) then ((ix aM aL).bind λn1=>(ix bF (gt aM n1)).bind λn2=>(some (bF.set n2 aL)).bind λl3=>bh.pl29 F k aM l3 (wrap .i64 (aL+1))) else (some bF))
theorem bh.l29_P  :∀ k,bh.S29 H0 Ri R0  (bh.l29 F   k) (bh.pl29 F  k):=by
 intro k
 induction k with
 | zero=>unfold bh.S29;intros;rename_i hp;cases hp
 | succ k ih=>
  intro dc dz cn cX dd dA aM bF dB aL H eM fX h0 r hp
  obtain ⟨w0,s0,dp,dN⟩:=h0
  subst eM
  subst fX
  unfold bh.pl29 at hp
  unfold bh.l29
  refine aE hp (λhp=>?_) λhp=>?_
  ·obtain ⟨n1,g1,hp⟩:=af hp
   obtain ⟨p1,q1,i1,h1,j1⟩:=ROs.ixr dp rfl g1
   refine ah i1 ?_
   have h1:_=[_]:=h1
   subst h1
   refine ah (b_ (j1 0 _ rfl)) ?_
   obtain ⟨n2,g2,hp⟩:=af hp
   obtain ⟨p2,q2,i2,h2,j2⟩:=W.ixo (E:=eI) w0 (i:=0) rfl rfl dN g2
   refine ah i2 ?_
   obtain ⟨l3,e3,hp⟩:=af hp
   refine eP eI w0 (i:=0) (j:=0) (p:=p2) rfl rfl dN g2 i2 e3 rfl rfl (λ_ h=>by have h:_=[_]:=h;subst h;exact rfl) λH4 k4 w4 s4 c4=>?_
   exact ih rfl ((dV e3).symm) ⟨w4,(s0.trans s4),(dp.step s4),c4⟩ hp
  ·exact ax hp ⟨_,_,_,_,rfl,rfl,w0,s0,dN⟩
def bh.p (F:Nat) (ai:Ba):Option (List Int):=(mkn (ai.length:Int) (0:Int)).bind λl1=>bh.pl29 F F ai l1 0
theorem bh.P {aI au aJ ai} (bI:au=ai.length) (h0:Inn H R0 λR=>ROs eI H R ⟨aI,au,aJ⟩ ai) {r:Ba} (hp:bh.p F ai=some r):Rt (bh.tw F ⟨aI,au,aJ⟩ H) (bh.Q H R0 R0  r):=by
 obtain ⟨w0,bz⟩:=h0
 subst bI
 unfold bh.p at hp
 unfold bh.tw bh.twX
 have s0:=w0.rf
 obtain ⟨l1,e1,hp⟩:=af hp
 refine mD eI (0:Int) w0 rfl rfl rfl e1 λH2 k2 w2 s2 c2=>?_
 exact bh.l29_P F rfl rfl ⟨w2,(s0.trans s2),(bz.step s2),c2⟩ hp
def da.Q (H0:Hp) (Ri R0:Bc)  (r:Ba) (v:AV) (H':Hp):Prop:=∃ o0a:ON,∃ o0n:Nat,∃ o0c:Cap,∃ o0k:List AV,v=(.sl ⟨o0a,o0n,o0c⟩)/\o0n=(r).length/\Out H0 Ri H' (Rs.own ⟨o0a,o0n,o0c⟩ eI.z o0k::R0) λR=>CR eI H' R o0k (r)
def da.p (F:Nat) (ai:Ba) (ag:Int):Option (List Int):=(apn ([]:List Int) ai).bind λl3=>(ix ai ag).bind λn5=>(ix l3 (wrap .i64 (ag - 1))).bind λn6=>(some (l3.set n6 (gt ai n5))).bind λl7=>(ix ai (wrap .i64 (ag - 1))).bind λn9=>(ix l7 ag).bind λn10=>(some (l7.set n10 (gt ai n9))).bind λl11=>some l11
theorem da.P {aI au aJ ai ag} (bI:au=ai.length) (h0:Inn H R0 λR=>ROs eI H R ⟨aI,au,aJ⟩ ai) {r:Ba} (hp:da.p F ai ag=some r):Rt (da.tw F ⟨aI,au,aJ⟩ ag H) (da.Q H R0 R0  r):=by
 obtain ⟨w0,bz⟩:=h0
 subst bI
 unfold da.p at hp
 unfold da.tw da.twX
 have s0:=w0.rf
 refine dU eI w0 (n:=0) (l:=([]:List Int)) rfl CR.empty rfl λH1 w1 s1 c1=>?_
 obtain ⟨x2,h2,c2⟩:=(bz.step s1).row rfl
 refine ah h2 ?_
 obtain ⟨l3,e3,hp⟩:=af hp
 refine eZ eI w1 (i:=0) rfl rfl c1 c2 rfl rfl e3 λa4 d4 H4 w4 s4 c4 x4=>?_
 obtain ⟨n5,g5,hp⟩:=af hp
 obtain ⟨p5,q5,i5,h5,j5⟩:=ROs.ixr (bz.step (s1.trans s4)) rfl g5
 refine ah i5 ?_
 have h5:_=[_]:=h5
 subst h5
 refine ah (b_ (j5 0 _ rfl)) ?_
 obtain ⟨n6,g6,hp⟩:=af hp
 obtain ⟨p6,q6,i6,h6,j6⟩:=W.ixo (E:=eI) w4 (i:=0) rfl rfl c4 g6
 refine ah i6 ?_
 obtain ⟨l7,e7,hp⟩:=af hp
 refine eP eI w4 (i:=0) (j:=0) (p:=p6) rfl rfl c4 g6 i6 e7 rfl rfl (λ_ h=>by have h:_=[_]:=h;subst h;exact rfl) λH8 k8 w8 s8 c8=>?_
 obtain ⟨n9,g9,hp⟩:=af hp
 obtain ⟨p9,q9,i9,h9,j9⟩:=ROs.ixr (bz.step (s1.trans (s4.trans s8))) rfl g9
 refine ah i9 ?_
 have h9:_=[_]:=h9
 subst h9
 refine ah (b_ (j9 0 _ rfl)) ?_
 obtain ⟨n10,g10,hp⟩:=af hp
 obtain ⟨p10,q10,i10,h10,j10⟩:=W.ixo (E:=eI) w8 (i:=0) rfl rfl c8 g10
 refine ah i10 ?_
 obtain ⟨l11,e11,hp⟩:=af hp
 refine eP eI w8 (i:=0) (j:=0) (p:=p10) rfl rfl c8 g10 i10 e11 rfl rfl (λ_ h=>by have h:_=[_]:=h;subst h;exact rfl) λH12 k12 w12 s12 c12=>?_
 exact ax hp ⟨_,_,_,_,rfl,((dV e7).symm.trans (dV e11).symm),w12,(s0.trans (s1.trans (s4.trans (s8.trans s12)))),c12⟩
def ay.Q (H0:Hp) (Ri R0:Bc)  (r:BC) (v:AV) (H':Hp):Prop:=∃ o0a:ON,∃ o0n:Nat,∃ o0c:Cap,∃ o1a:ON,∃ o1n:Nat,∃ o1c:Cap,v=(.tup [(.sl ⟨o0a,o0n,o0c⟩),(.sl ⟨o1a,o1n,o1c⟩),(.bool r.2.2)])/\o0n=(r.1).length/\o1n=(r.2.1).length/\Out H0 Ri H' (R0) λR=>ROs eI H' R ⟨o0a,o0n,o0c⟩ (r.1)/\ROs eI H' R ⟨o1a,o1n,o1c⟩ (r.2.1)
def ay.S29 (H0:Hp) (Ri R0:Bc)  (C:Sl->Sl->Sl->Int->Hp->OA) (pC:List Int->List Int->List Int->Int->Option (List Int×List Int×Bool)):Prop:=∀ {nw nx ny lQ lR lT nz nA nB fH eN fy nC cN},∀ {H:Hp},lQ=fH.length->lR=eN.length->lT=fy.length->(Out H0 Ri H (Rs.own ⟨ny,lT,nB⟩ eI.z nC::R0) λR=>ROs eI H R ⟨nw,lQ,nz⟩ fH/\ROs eI H R ⟨nx,lR,nA⟩ eN/\CR eI H R nC fy)->∀ {r:BC},pC fH eN fy cN=some r->Rt (C ⟨nw,lQ,nz⟩ ⟨nx,lR,nA⟩ ⟨ny,lT,nB⟩ cN H) (ay.Q H0 Ri R0  r)
def ay.pj1 (F:Nat)  (ka:Ba) (kb:Ba):Option (List Int×List Int×Bool):=some (ka,kb,false)
theorem ay.j1_P   {qP qQ nD nE qR qS ka kb} (wE:nD=ka.length) (wF:nE=kb.length) (h0:Out H0 Ri H R0 λR=>ROs eI H R ⟨qP,nD,qR⟩ ka/\ROs eI H R ⟨qQ,nE,qS⟩ kb) {r:BC} (hp:ay.pj1 F  ka kb=some r):Rt (ay.j1 F (bh.tw F) (ap.tw F) (da.tw F)  ⟨qP,nD,qR⟩ ⟨qQ,nE,qS⟩ H) (ay.Q H0 Ri R0  r):=by
 obtain ⟨w0,s0,wG,wH⟩:=h0
 subst wE
 subst wF
 unfold ay.pj1 at hp
 unfold ay.j1
 exact ax hp ⟨_,_,_,_,_,_,rfl,rfl,rfl,w0,s0,wG,wH⟩
def ay.pl29 (F:Nat) :Nat->List Int->List Int->List Int->Int->Option (List Int×List Int×Bool)
 | 0,_,_,_,_=>none
 | k+1,fH,eN,fy,cN=>(bif (decide (cN<(fH.length:Int))) then ((ix eN (wrap .i64 (cN - 1))).bind λn1=>(ix eN cN).bind λn2=>(bif (decide ((gt eN n1)>(gt eN n2))) then ((ix fy (wrap .i64 (cN - 1))).bind λn3=>(ix fy cN).bind λn4=>(bif (decide ((gt fy n3)<(gt fy n4))) then ((ap.p F fH cN).bind λr5=>(da.p F eN cN).bind λr7=>some (r5,r7,true)) else (ay.pl29 F k fH eN fy (wrap .i64 (cN+1))))) else (ay.pl29 F k fH eN fy (wrap .i64 (cN+1))))) else (ay.pj1 F fH eN))
theorem ay.l29_P  :∀ k,ay.S29 H0 Ri R0  (ay.l29 F (bh.tw F) (ap.tw F) (da.tw F)  k) (ay.pl29 F  k):=by
 intro k
 induction k with
 | zero=>unfold ay.S29;intros;rename_i hp;cases hp
 | succ k ih=>
  intro nw nx ny lQ lR lT nz nA nB fH eN fy nC cN H wI wJ wK h0 r hp
  obtain ⟨w0,s0,lU,jq,lV⟩:=h0
  subst wI
  subst wJ
  subst wK
  unfold ay.pl29 at hp
  unfold ay.l29
  refine aE hp (λhp=>?_) λhp=>?_
  ·obtain ⟨n1,g1,hp⟩:=af hp
   obtain ⟨p1,q1,i1,h1,j1⟩:=ROs.ixr jq rfl g1
   refine ah i1 ?_
   have h1:_=[_]:=h1
   subst h1
   refine ah (b_ (j1 0 _ rfl)) ?_
   obtain ⟨n2,g2,hp⟩:=af hp
   obtain ⟨p2,q2,i2,h2,j2⟩:=ROs.ixr jq rfl g2
   refine ah i2 ?_
   have h2:_=[_]:=h2
   subst h2
   refine ah (b_ (j2 0 _ rfl)) ?_
   refine aE hp (λhp=>?_) λhp=>?_
   ·obtain ⟨n3,g3,hp⟩:=af hp
    obtain ⟨p3,q3,i3,h3,j3⟩:=W.ixo (E:=eI) w0 (i:=0) rfl rfl lV g3
    refine ah i3 ?_
    have h3:_=[_]:=h3
    subst h3
    refine ah (b_ (j3 0 _ rfl)) ?_
    obtain ⟨n4,g4,hp⟩:=af hp
    obtain ⟨p4,q4,i4,h4,j4⟩:=W.ixo (E:=eI) w0 (i:=0) rfl rfl lV g4
    refine ah i4 ?_
    have h4:_=[_]:=h4
    subst h4
    refine ah (b_ (j4 0 _ rfl)) ?_
    refine aE hp (λhp=>?_) λhp=>?_
    ·obtain ⟨r5,e5,hp⟩:=af hp
     refine aZ (ap.P rfl ⟨w0,lU⟩ e5) ?_
     rintro _ H6 ⟨o0a_6,o0n_6,o0c_6,o0k_6,rfl,rfl,w6,s6,f6_0⟩
     refine br ?_
     obtain ⟨r7,e7,hp⟩:=af hp
     refine aZ (da.P rfl ⟨w6,(jq.step s6)⟩ e7) ?_
     rintro _ H8 ⟨o0a_8,o0n_8,o0c_8,o0k_8,rfl,rfl,w8,s8,f8_0⟩
     refine br ?_
     obtain ⟨w9,s9,f9⟩:=w8.frz (i:=1) eI rfl (f6_0.step s8)
     obtain ⟨w10,s10,f10⟩:=w9.frz (i:=0) eI rfl (f8_0.step s9)
     obtain ⟨w11,s11⟩:=w10.pp [] 1
     exact ax hp ⟨_,_,_,_,_,_,rfl,rfl,rfl,w11,(s0.trans (s6.trans (s8.trans (s9.trans (s10.trans s11))))),(f9.step (s10.trans s11)),(f10.step s11)⟩
    ·exact ih rfl rfl rfl ⟨w0,s0,lU,jq,lV⟩ hp
   ·exact ih rfl rfl rfl ⟨w0,s0,lU,jq,lV⟩ hp
  ·obtain ⟨w12,s12⟩:=w0.pp [] 1
   exact ay.j1_P rfl rfl ⟨w12,(s0.trans s12),(lU.step s12),(jq.step s12)⟩ hp
def ay.p (F:Nat) (ai:Ba) (bJ:Ba):Option (List Int×List Int×Bool):=(bh.p F ai).bind λr1=>ay.pl29 F F ai bJ r1 1
theorem ay.P {aI dq au ct aJ dr ai bJ} (bI:au=ai.length) (fz:ct=bJ.length) (h0:Inn H R0 λR=>ROs eI H R ⟨aI,au,aJ⟩ ai/\ROs eI H R ⟨dq,ct,dr⟩ bJ) {r:BC} (hp:ay.p F ai bJ=some r):Rt (ay.tw F ⟨aI,au,aJ⟩ ⟨dq,ct,dr⟩ H) (ay.Q H R0 R0  r):=by
 obtain ⟨w0,bz,fA⟩:=h0
 subst bI
 subst fz
 unfold ay.p at hp
 unfold ay.tw ay.twX
 have s0:=w0.rf
 obtain ⟨r1,e1,hp⟩:=af hp
 refine aZ (bh.P rfl ⟨w0,bz⟩ e1) ?_
 rintro _ H2 ⟨o0a_2,o0n_2,o0c_2,o0k_2,rfl,rfl,w2,s2,f2_0⟩
 refine br ?_
 exact ay.l29_P F rfl rfl rfl ⟨w2,(s0.trans s2),(bz.step s2),(fA.step s2),f2_0⟩ hp
def av.Q (H0:Hp) (Ri R0:Bc)  (r:Bg) (v:AV) (H':Hp):Prop:=∃ o0a:ON,∃ o0n:Nat,∃ o0c:Cap,∃ o0k:List AV,v=(.sl ⟨o0a,o0n,o0c⟩)/\o0n=(r).length/\Out H0 Ri H' (Rs.own ⟨o0a,o0n,o0c⟩ (eSl eI).z o0k::R0) λR=>CR (eSl eI) H' R o0k (r)
def av.S29 (H0:Hp) (Ri R0:Bc)  (C:Bd) (pC:BG):Prop:=∀ {nF lW nG ew nH cO},∀ {H:Hp},lW=ew.length->(Out H0 Ri H (Rs.own ⟨nF,lW,nG⟩ (eSl eI).z nH::R0) λR=>CR (eSl eI) H R nH ew)->∀ {r:Bg},pC ew cO=some r->Rt (C ⟨nF,lW,nG⟩ cO H) (av.Q H0 Ri R0  r)
def av.pj2 (F:Nat) (bO:BG) (kc:Bg) (iD:Int):Option (List (List Int)):=bO kc (wrap .i64 (iD+1))
theorem av.j2_P  {C29_:Bd} {bO:BG} (hC29:av.S29 H0 Ri R0  C29_ bO) {qT nJ qU kc qV iD} (wL:nJ=kc.length) (h0:Out H0 Ri H (Rs.own ⟨qT,nJ,qU⟩ (eSl eI).z qV::R0) λR=>CR (eSl eI) H R qV kc) {r:Bg} (hp:av.pj2 F bO kc iD=some r):Rt (av.j2 F (ay.tw F) C29_ ⟨qT,nJ,qU⟩ iD H) (av.Q H0 Ri R0  r):=by
 obtain ⟨w0,s0,wM⟩:=h0
 subst wL
 unfold av.pj2 at hp
 unfold av.j2
 exact hC29 rfl ⟨w0,s0,wM⟩ hp
def av.pl29 (F:Nat) :Nat->List (List Int)->Int->Option (List (List Int))
 | 0,_,_=>none
 | k+1,ew,cO=>(bif (decide ((wrap .i64 (cO+1))<(ew.length:Int))) then ((ix ew cO).bind λn1=>(ix ew (wrap .i64 (cO+1))).bind λn2=>(ay.p F (gt ew n1) (gt ew n2)).bind λr3=>(bif r3.2.2 then ((ix ew cO).bind λn5=>(some (ew.set n5 r3.1)).bind λl6=>(ix l6 (wrap .i64 (cO+1))).bind λn8=>(some (l6.set n8 r3.2.1)).bind λl9=>av.pj2 F (av.pl29 F k) l9 (-1)) else (av.pj2 F (av.pl29 F k) ew cO))) else (some ew))
theorem av.l29_P  :∀ k,av.S29 H0 Ri R0  (av.l29 F (ay.tw F)  k) (av.pl29 F  k):=by
 intro k
 induction k with
 | zero=>unfold av.S29;intros;rename_i hp;cases hp
 | succ k ih=>
  intro nF lW nG ew nH cO H wN h0 r hp
  obtain ⟨w0,s0,jr⟩:=h0
  subst wN
  unfold av.pl29 at hp
  unfold av.l29
  refine aE hp (λhp=>?_) λhp=>?_
  ·obtain ⟨n1,g1,hp⟩:=af hp
   obtain ⟨p1,q1,i1,h1,j1⟩:=W.ixo (E:=(eSl eI)) w0 (i:=0) rfl rfl jr g1
   refine ah i1 ?_
   obtain ⟨⟨hZ,m1_0,c1_0⟩,rfl,f1_0⟩:=h1
   obtain rfl:m1_0=_:=f1_0.n
   refine ah (dt (j1 0 _ rfl)) ?_
   obtain ⟨n2,g2,hp⟩:=af hp
   obtain ⟨p2,q2,i2,h2,j2⟩:=W.ixo (E:=(eSl eI)) w0 (i:=0) rfl rfl jr g2
   refine ah i2 ?_
   obtain ⟨⟨qW,m2_0,c2_0⟩,rfl,f2_0⟩:=h2
   obtain rfl:m2_0=_:=f2_0.n
   refine ah (dt (j2 0 _ rfl)) ?_
   obtain ⟨r3,e3,hp⟩:=af hp
   refine aZ (ay.P rfl rfl ⟨w0,f1_0,f2_0⟩ e3) ?_
   rintro _ H4 ⟨o0a_4,o0n_4,o0c_4,o1a_4,o1n_4,o1c_4,rfl,rfl,rfl,w4,s4,f4_0,f4_1⟩
   refine br (br (br (br (br (br (br ?_))))))
   refine aE hp (λhp=>?_) λhp=>?_
   ·obtain ⟨n5,g5,hp⟩:=af hp
    obtain ⟨p5,q5,i5,h5,j5⟩:=W.ixo (E:=(eSl eI)) w4 (i:=0) rfl rfl (jr.step s4) g5
    refine ah i5 ?_
    obtain ⟨l6,e6,hp⟩:=af hp
    refine eP (eSl eI) w4 (i:=0) (j:=0) (p:=p5) rfl rfl (jr.step s4) g5 i5 e6 rfl rfl (λ_ h=>by obtain ⟨_,h,_⟩:=h;subst h;exact ⟨_,rfl,f4_0⟩) λH7 k7 w7 s7 c7=>?_
    obtain ⟨n8,g8,hp⟩:=af hp
    obtain ⟨p8,q8,i8,h8,j8⟩:=W.ixo (E:=(eSl eI)) w7 (i:=0) rfl rfl c7 g8
    refine ah i8 ?_
    obtain ⟨l9,e9,hp⟩:=af hp
    refine eP (eSl eI) w7 (i:=0) (j:=0) (p:=p8) rfl rfl c7 g8 i8 e9 rfl rfl (λ_ h=>by obtain ⟨_,h,_⟩:=h;subst h;exact ⟨_,rfl,(f4_1.step s7)⟩) λH10 k10 w10 s10 c10=>?_
    exact av.j2_P (@ih) ((dV e6).symm.trans (dV e9).symm) ⟨w10,(s0.trans (s4.trans (s7.trans s10))),c10⟩ hp
   ·exact av.j2_P (@ih) rfl ⟨w4,(s0.trans s4),(jr.step s4)⟩ hp
  ·exact ax hp ⟨_,_,_,_,rfl,rfl,w0,s0,jr⟩
def av.p (F:Nat) (ai:Bg):Option (List (List Int)):=(apn ([]:List (List Int)) ai).bind λl3=>av.pl29 F F l3 0
theorem av.P {aI au aJ ai} (bI:au=ai.length) (h0:Inn H R0 λR=>ROs (eSl eI) H R ⟨aI,au,aJ⟩ ai) {r:Bg} (hp:av.p F ai=some r):Rt (av.tw F ⟨aI,au,aJ⟩ H) (av.Q H R0 R0  r):=by
 obtain ⟨w0,bz⟩:=h0
 subst bI
 unfold av.p at hp
 unfold av.tw av.twX
 have s0:=w0.rf
 refine dU (eSl eI) w0 (n:=0) (l:=([]:List (List Int))) rfl CR.empty rfl λH1 w1 s1 c1=>?_
 obtain ⟨x2,h2,c2⟩:=(bz.step s1).row rfl
 refine ah h2 ?_
 obtain ⟨l3,e3,hp⟩:=af hp
 refine eZ (eSl eI) w1 (i:=0) rfl rfl c1 c2 rfl rfl e3 λa4 d4 H4 w4 s4 c4 x4=>?_
 exact av.l29_P F rfl ⟨w4,(s0.trans (s1.trans s4)),c4⟩ hp
def aF.Q (H0:Hp) (Ri R0:Bc)  (r:Bool) (v:AV) (H':Hp):Prop:=v=(.bool r)/\Out H0 Ri H' (R0) λR=>True
def aF.S29 (H0:Hp) (Ri R0:Bc)  (C:BA) (pC:BL):Prop:=∀ {dc er cn dC dd es aM bD bg},∀ {H:Hp},cn=aM.length->dC=bD.length->(Out H0 Ri H R0 λR=>ROs eI H R ⟨dc,cn,dd⟩ aM/\ROs eI H R ⟨er,dC,es⟩ bD)->∀ {r:Bool},pC aM bD bg=some r->Rt (C ⟨dc,cn,dd⟩ ⟨er,dC,es⟩ bg H) (aF.Q H0 Ri R0  r)
def aF.pl29 (F:Nat) :Nat->List Int->List Int->Int->Option (Bool)
 | 0,_,_,_=>none
 | k+1,aM,bD,bg=>(bif (decide (bg<(aM.length:Int))) then ((ix aM bg).bind λn1=>(ix bD bg).bind λn2=>(bif ((gt aM n1) != (gt bD n2)) then (some false) else (aF.pl29 F k aM bD (wrap .i64 (bg+1))))) else (some true))
theorem aF.l29_P  :∀ k,aF.S29 H0 Ri R0  (aF.l29 F   k) (aF.pl29 F  k):=by
 intro k
 induction k with
 | zero=>unfold aF.S29;intros;rename_i hp;cases hp
 | succ k ih=>
  intro dc er cn dC dd es aM bD bg H eM ga h0 r hp
  obtain ⟨w0,s0,dp,ey⟩:=h0
  subst eM
  subst ga
  unfold aF.pl29 at hp
  unfold aF.l29
  refine aE hp (λhp=>?_) λhp=>?_
  ·obtain ⟨n1,g1,hp⟩:=af hp
   obtain ⟨p1,q1,i1,h1,j1⟩:=ROs.ixr dp rfl g1
   refine ah i1 ?_
   have h1:_=[_]:=h1
   subst h1
   refine ah (b_ (j1 0 _ rfl)) ?_
   obtain ⟨n2,g2,hp⟩:=af hp
   obtain ⟨p2,q2,i2,h2,j2⟩:=ROs.ixr ey rfl g2
   refine ah i2 ?_
   have h2:_=[_]:=h2
   subst h2
   refine ah (b_ (j2 0 _ rfl)) ?_
   refine aE hp (λhp=>?_) λhp=>?_
   ·exact ax hp ⟨rfl,w0,s0,trivial⟩
   ·exact ih rfl rfl ⟨w0,s0,dp,ey⟩ hp
  ·exact ax hp ⟨rfl,w0,s0,trivial⟩
def aF.p (F:Nat) (ai:Ba) (bJ:Ba):Option (Bool):=(bif ((ai.length:Int) != (bJ.length:Int)) then (some false) else (aF.pl29 F F ai bJ 0))
theorem aF.P {aI dq au ct aJ dr ai bJ} (bI:au=ai.length) (fz:ct=bJ.length) (h0:Inn H R0 λR=>ROs eI H R ⟨aI,au,aJ⟩ ai/\ROs eI H R ⟨dq,ct,dr⟩ bJ) {r:Bool} (hp:aF.p F ai bJ=some r):Rt (aF.tw F ⟨aI,au,aJ⟩ ⟨dq,ct,dr⟩ H) (aF.Q H R0 R0  r):=by
 obtain ⟨w0,bz,fA⟩:=h0
 subst bI
 subst fz
 unfold aF.p at hp
 unfold aF.tw aF.twX
 have s0:=w0.rf
 refine aE hp (λhp=>?_) λhp=>?_
 ·exact ax hp ⟨rfl,w0,s0,trivial⟩
 ·exact aF.l29_P F rfl rfl ⟨w0,s0,bz,fA⟩ hp
def ae.Q (H0:Hp) (Ri R0:Bc)  (r:Bk) (v:AV) (H':Hp):Prop:=∃ o1a:ON,∃ o1n:Nat,∃ o1c:Cap,∃ o1k:List AV,v=(.agg [(.i r.1),(.sl ⟨o1a,o1n,o1c⟩)])/\o1n=(r.2).length/\Out H0 Ri H' (Rs.own ⟨o1a,o1n,o1c⟩ (eSl eI).z o1k::R0) λR=>CR (eSl eI) H' R o1k (r.2)
def ae.S125 (H0:Hp) (Ri R0:Bc)  (C:Bn) (pC:Bq):Prop:=∀ {qX qY dZ eH d_ nK nL nO lX fG lY fQ lZ nP nQ nR eV nS gC nT nU},∀ {H:Hp},lX=eV.length->lY=nS.length->lZ=gC.length->(Out H0 Ri H (Rs.blk fG [.i qX,.sl ⟨nK,lX,nP⟩]::Rs.own ⟨nL,lY,nQ⟩ (eSl eI).z nT::Rs.blk fQ [.i qY,.sl ⟨nL,lY,nQ⟩]::Rs.own ⟨nO,lZ,nR⟩ (eSl eI).z nU::R0) λR=>ROs eI H R ⟨nK,lX,nP⟩ eV/\CR (eSl eI) H R nT nS/\CR (eSl eI) H R nU gC)->∀ {r:Bk},pC eV dZ eH gC d_=some r->Rt (C fG 0 fQ 0 dZ eH ⟨nO,lZ,nR⟩ d_ H) (ae.Q H0 Ri R0  r)
def ae.pj11 (F:Nat) (dw:Bq) (kd:Ba) (iM:Int) (iN:Int) (ke:Bg) (iO:Int):Option (Int×List (List Int)):=dw kd iM iN ke (wrap .i64 (iO+1))
theorem ae.j11_P  {C125_:Bn} {dw:Bq} (hC125:ae.S125 H0 Ri R0  C125_ dw) {wO wP iM iN iO qZ q_ rc nV lg nW li nX rh ri rj kd rk ke rl rm} (wQ:nV=kd.length) (wR:nW=rk.length) (wS:nX=ke.length) (h0:Out H0 Ri H (Rs.blk lg [.i wO,.sl ⟨qZ,nV,rh⟩]::Rs.own ⟨q_,nW,ri⟩ (eSl eI).z rl::Rs.blk li [.i wP,.sl ⟨q_,nW,ri⟩]::Rs.own ⟨rc,nX,rj⟩ (eSl eI).z rm::R0) λR=>ROs eI H R ⟨qZ,nV,rh⟩ kd/\CR (eSl eI) H R rl rk/\CR (eSl eI) H R rm ke) {r:Bk} (hp:ae.pj11 F dw kd iM iN ke iO=some r):Rt (ae.j11 F (aU.tw F) (ap.tw F) (aX.tw F) (aV.tw F) (av.tw F) (aF.tw F) C125_ lg 0 li 0 iM iN ⟨rc,nX,rj⟩ iO H) (ae.Q H0 Ri R0  r):=by
 obtain ⟨w0,s0,wT,wU,wV⟩:=h0
 subst wQ
 subst wR
 subst wS
 unfold ae.pj11 at hp
 unfold ae.j11
 exact hC125 rfl rfl rfl ⟨w0,s0,wT,wU,wV⟩ hp
def ae.S32093 (H0:Hp) (Ri R0:Bc)  (C:Nat->Nat->Nat->Nat->Int->Int->Sl->Int->Int->Int->Hp->OA) (pC:List Int->Int->Int->List (List Int)->Int->Int->Int->Option (Int×List (List Int))):Prop:=∀ {rn rp fc fd fh fi dY nY nZ n_ l_ gr ma gu mb oa ob oc h_ od fB oe og},∀ {H:Hp},l_=h_.length->ma=od.length->mb=fB.length->(Out H0 Ri H (Rs.blk gr [.i rn,.sl ⟨nY,l_,oa⟩]::Rs.own ⟨nZ,ma,ob⟩ (eSl eI).z oe::Rs.blk gu [.i rp,.sl ⟨nZ,ma,ob⟩]::Rs.own ⟨n_,mb,oc⟩ (eSl eI).z og::R0) λR=>ROs eI H R ⟨nY,l_,oa⟩ h_/\CR (eSl eI) H R oe od/\CR (eSl eI) H R og fB)->∀ {r:Bk},pC h_ fc fd fB fh fi dY=some r->Rt (C gr 0 gu 0 fc fd ⟨n_,mb,oc⟩ fh fi dY H) (ae.Q H0 Ri R0  r)
def ae.pj12 (F:Nat) (dw:Bq) (kf:Ba) (iP:Int) (iQ:Int) (kg:Bg) (iR:Int):Option (Int×List (List Int)):=dw kf iP iQ kg (wrap .i64 (iR+1))
theorem ae.j12_P  {C125_:Bn} {dw:Bq} (hC125:ae.S125 H0 Ri R0  C125_ dw) {wW wX iP iQ iR rq ru rx oh lj oq ll ou ry rz rA kf rB kg rC rD} (wY:oh=kf.length) (wZ:oq=rB.length) (w_:ou=kg.length) (h0:Out H0 Ri H (Rs.blk lj [.i wW,.sl ⟨rq,oh,ry⟩]::Rs.own ⟨ru,oq,rz⟩ (eSl eI).z rC::Rs.blk ll [.i wX,.sl ⟨ru,oq,rz⟩]::Rs.own ⟨rx,ou,rA⟩ (eSl eI).z rD::R0) λR=>ROs eI H R ⟨rq,oh,ry⟩ kf/\CR (eSl eI) H R rC rB/\CR (eSl eI) H R rD kg) {r:Bk} (hp:ae.pj12 F dw kf iP iQ kg iR=some r):Rt (ae.j12 F (aU.tw F) (ap.tw F) (aX.tw F) (aV.tw F) (av.tw F) (aF.tw F) C125_ lj 0 ll 0 iP iQ ⟨rx,ou,rA⟩ iR H) (ae.Q H0 Ri R0  r):=by
 obtain ⟨w0,s0,xa,xb,xc⟩:=h0
 subst wY
 subst wZ
 subst w_
 unfold ae.pj12 at hp
 unfold ae.j12
 exact hC125 rfl rfl rfl ⟨w0,s0,xa,xb,xc⟩ hp
def ae.pj13 (F:Nat) (dw:Bq) (ki:Ba) (gq:Int) (iS:Int) (kj:Bg) (iT:Int) (iU:Int):Option (Int×List (List Int)):=(aV.p F gq).bind λr1=>(ap.p F r1 (wrap .i64 (0 - iU))).bind λr4=>(apn kj ([r4]:List (List Int))).bind λl9=>ae.pj12 F dw ki gq iS l9 iT
theorem ae.j13_P  {C125_:Bn} {dw:Bq} (hC125:ae.S125 H0 Ri R0  C125_ dw) {xd xe gq iS iT iU rE rF rG ov lm ox ln oy rH rI rJ ki rK kj rL rM} (xf:ov=ki.length) (xg:ox=rK.length) (xh:oy=kj.length) (h0:Out H0 Ri H (Rs.blk lm [.i xd,.sl ⟨rE,ov,rH⟩]::Rs.own ⟨rF,ox,rI⟩ (eSl eI).z rL::Rs.blk ln [.i xe,.sl ⟨rF,ox,rI⟩]::Rs.own ⟨rG,oy,rJ⟩ (eSl eI).z rM::R0) λR=>ROs eI H R ⟨rE,ov,rH⟩ ki/\CR (eSl eI) H R rL rK/\CR (eSl eI) H R rM kj) {r:Bk} (hp:ae.pj13 F dw ki gq iS kj iT iU=some r):Rt (ae.j13 F (aU.tw F) (ap.tw F) (aX.tw F) (aV.tw F) (av.tw F) (aF.tw F) C125_ lm 0 ln 0 gq iS ⟨rG,oy,rJ⟩ iT iU H) (ae.Q H0 Ri R0  r):=by
 obtain ⟨w0,s0,xi,xj,xk⟩:=h0
 subst xf
 subst xg
 subst xh
 unfold ae.pj13 at hp
 unfold ae.j13
 obtain ⟨r1,e1,hp⟩:=af hp
 refine aZ (aV.P ⟨w0,trivial⟩ e1) ?_
 rintro _ H2 ⟨o0a_2,o0n_2,o0c_2,o0k_2,rfl,rfl,w2,s2,f2_0⟩
 refine br ?_
 have f3:=W.borrow1 eI w2 f2_0
 obtain ⟨w3,s3⟩:=w2.right1
 obtain ⟨r4,e4,hp⟩:=af hp
 refine aZ (ap.P rfl ⟨w3,f3⟩ e4) ?_
 rintro _ H5 ⟨o0a_5,o0n_5,o0c_5,o0k_5,rfl,rfl,w5,s5,f5_0⟩
 obtain ⟨w6,s6⟩:=W.frame1 w2 w5 s5
 refine br ?_
 obtain ⟨w7,s7,f7⟩:=w6.frz (i:=1) eI rfl (CR.flat (kJ .i64) f5_0)
 refine dU (eSl eI) w7 (n:=1) (l:=([r4]:List (List Int))) rfl (CR.cons1 ⟨_,rfl,f7⟩ CR.empty) rfl λH8 w8 s8 c8=>?_
 refine ah (w8.rowo (i:=0) rfl) ?_
 obtain ⟨l9,e9,hp⟩:=af hp
 refine eZ (eSl eI) w8 (i:=5) rfl rfl (xk.step (s2.trans (s6.trans (s7.trans s8)))) c8 (show 1=List.length ([r4]:List (List Int)) from rfl) rfl e9 λa10 d10 H10 w10 s10 c10 x10=>?_
 obtain ⟨w11,s11⟩:=w10.pp [2,3,4,5] 6
 exact ae.j12_P (@hC125) rfl rfl rfl ⟨w11,(s0.trans (s2.trans (s6.trans (s7.trans (s8.trans (s10.trans s11)))))),(xi.step (s2.trans (s6.trans (s7.trans (s8.trans (s10.trans s11)))))),(xj.step (s2.trans (s6.trans (s7.trans (s8.trans (s10.trans s11)))))),(c10.step s11)⟩ hp
def ae.pl32093 (F:Nat) (dw:Bq):Nat->List Int->Int->Int->List (List Int)->Int->Int->Int->Option (Int×List (List Int))
 | 0,_,_,_,_,_,_,_=>none
 | k+1,h_,fc,fd,fB,fh,fi,dY=>(bif (decide (dY<(fB.length:Int))) then ((ix fB dY).bind λn1=>(aX.p F (gt fB n1)).bind λr2=>(ix fB dY).bind λn4=>(some (fB.set n4 r2)).bind λl6=>ae.pl32093 F dw k h_ fc fd l6 fh fi (wrap .i64 (dY+1))) else (ae.pj13 F dw h_ fc fd fB fh fi))
theorem ae.l32093_P  {C125_:Bn} {dw:Bq} (hC125:ae.S125 H0 Ri R0  C125_ dw):∀ k,ae.S32093 H0 Ri R0  (ae.l32093 F (aU.tw F) (ap.tw F) (aX.tw F) (aV.tw F) (av.tw F) (aF.tw F) C125_ k) (ae.pl32093 F dw k):=by
 intro k
 induction k with
 | zero=>unfold ae.S32093;intros;rename_i hp;cases hp
 | succ k ih=>
  intro rn rp fc fd fh fi dY nY nZ n_ l_ gr ma gu mb oa ob oc h_ od fB oe og H xl xm xn h0 r hp
  obtain ⟨w0,s0,rN,rO,mc⟩:=h0
  subst xl
  subst xm
  subst xn
  unfold ae.pl32093 at hp
  unfold ae.l32093
  refine aE hp (λhp=>?_) λhp=>?_
  ·obtain ⟨n1,g1,hp⟩:=af hp
   obtain ⟨p1,q1,i1,h1,j1⟩:=W.ixo (E:=(eSl eI)) w0 (i:=3) rfl rfl mc g1
   refine ah i1 ?_
   obtain ⟨⟨hZ,m1_0,c1_0⟩,rfl,f1_0⟩:=h1
   obtain rfl:m1_0=_:=f1_0.n
   refine ah (dt (j1 0 _ rfl)) ?_
   obtain ⟨r2,e2,hp⟩:=af hp
   refine aZ (aX.P rfl ⟨w0,f1_0⟩ e2) ?_
   rintro _ H3 ⟨o0a_3,o0n_3,o0c_3,o0k_3,rfl,rfl,w3,s3,f3_0⟩
   refine br ?_
   obtain ⟨n4,g4,hp⟩:=af hp
   obtain ⟨p4,q4,i4,h4,j4⟩:=W.ixo (E:=(eSl eI)) w3 (i:=4) rfl rfl (mc.step s3) g4
   refine ah i4 ?_
   obtain ⟨w5,s5,f5⟩:=w3.frz (i:=0) eI rfl f3_0
   obtain ⟨l6,e6,hp⟩:=af hp
   refine eP (eSl eI) w5 (i:=3) (j:=0) (p:=p4) rfl rfl (mc.step (s3.trans s5)) g4 i4 e6 rfl rfl (λ_ h=>by obtain ⟨_,h,_⟩:=h;subst h;exact ⟨_,rfl,f5⟩) λH7 k7 w7 s7 c7=>?_
   exact ih rfl rfl ((dV e6).symm) ⟨w7,(s0.trans (s3.trans (s5.trans s7))),(rN.step (s3.trans (s5.trans s7))),(rO.step (s3.trans (s5.trans s7))),c7⟩ hp
  ·exact ae.j13_P (@hC125) rfl rfl rfl ⟨w0,s0,rN,rO,mc⟩ hp
def ae.S1021 (H0:Hp) (Ri R0:Bc)  (C:Bv) (pC:Bx):Prop:=∀ {rP dM gD dl oz oA oB md eF mf mg dX oC oD oE oF dO gb oG oH oI},∀ {H:Hp},md=oF.length->mf=dO.length->mg=gb.length->(Out H0 Ri H (Rs.own ⟨oz,md,oC⟩ (eSl eI).z oG::Rs.blk eF [.i rP,.sl ⟨oz,md,oC⟩]::Rs.own ⟨oA,mf,oD⟩ (eSl eI).z oH::Rs.own ⟨oB,mg,oE⟩ (eSl eI).z oI::Rs.blk dX [.i gD,.sl ⟨oB,mg,oE⟩]::R0) λR=>CR (eSl eI) H R oG oF/\CR (eSl eI) H R oH dO/\CR (eSl eI) H R oI gb)->∀ {r:Bk},pC dM dO gD gb dl=some r->Rt (C eF 0 dM ⟨oA,mf,oD⟩ dX 0 dl H) (ae.Q H0 Ri R0  r)
def ae.pj7 (F:Nat) (ez:Bx) (iE:Int) (kl:Bg) (mh:Int) (kn:Bg) (iF:Int):Option (Int×List (List Int)):=ez iE kl mh kn (wrap .i64 (iF+1))
theorem ae.j7_P  {C1021_:Bv} {ez:Bx} (hC1021:ae.S1021 H0 Ri R0  C1021_ ez) {xo iE mh iF rQ rR rS oJ kW oK oL kX rT rU rV rW kl kn rX rY rZ} (xp:oJ=rW.length) (xq:oK=kl.length) (xr:oL=kn.length) (h0:Out H0 Ri H (Rs.own ⟨rQ,oJ,rT⟩ (eSl eI).z rX::Rs.blk kW [.i xo,.sl ⟨rQ,oJ,rT⟩]::Rs.own ⟨rR,oK,rU⟩ (eSl eI).z rY::Rs.own ⟨rS,oL,rV⟩ (eSl eI).z rZ::Rs.blk kX [.i mh,.sl ⟨rS,oL,rV⟩]::R0) λR=>CR (eSl eI) H R rX rW/\CR (eSl eI) H R rY kl/\CR (eSl eI) H R rZ kn) {r:Bk} (hp:ae.pj7 F ez iE kl mh kn iF=some r):Rt (ae.j7 F (aU.tw F) (ap.tw F) (aX.tw F) (aV.tw F) (av.tw F) (aF.tw F) C1021_ kW 0 iE ⟨rR,oK,rU⟩ kX 0 iF H) (ae.Q H0 Ri R0  r):=by
 obtain ⟨w0,s0,xt,xu,xv⟩:=h0
 subst xp
 subst xq
 subst xr
 unfold ae.pj7 at hp
 unfold ae.j7
 exact hC1021 rfl rfl rfl ⟨w0,s0,xt,xu,xv⟩ hp
def ae.pj8 (F:Nat) (ez:Bx) (iG:Int) (ko:Bg) (mi:Int) (kp:Bg) (iH:Int):Option (Int×List (List Int)):=ez iG ko mi kp (wrap .i64 (iH+1))
theorem ae.j8_P  {C1021_:Bv} {ez:Bx} (hC1021:ae.S1021 H0 Ri R0  C1021_ ez) {xw iG mi iH r_ sb sd oM kY oN oO kZ sf sg si sj ko kp sk sv sx} (xx:oM=sj.length) (xy:oN=ko.length) (xz:oO=kp.length) (h0:Out H0 Ri H (Rs.own ⟨r_,oM,sf⟩ (eSl eI).z sk::Rs.blk kY [.i xw,.sl ⟨r_,oM,sf⟩]::Rs.own ⟨sb,oN,sg⟩ (eSl eI).z sv::Rs.own ⟨sd,oO,si⟩ (eSl eI).z sx::Rs.blk kZ [.i mi,.sl ⟨sd,oO,si⟩]::R0) λR=>CR (eSl eI) H R sk sj/\CR (eSl eI) H R sv ko/\CR (eSl eI) H R sx kp) {r:Bk} (hp:ae.pj8 F ez iG ko mi kp iH=some r):Rt (ae.j8 F (aU.tw F) (ap.tw F) (aX.tw F) (aV.tw F) (av.tw F) (aF.tw F) C1021_ kY 0 iG ⟨sb,oN,sg⟩ kZ 0 iH H) (ae.Q H0 Ri R0  r):=by
 obtain ⟨w0,s0,xA,xB,xC⟩:=h0
 subst xx
 subst xy
 subst xz
 unfold ae.pj8 at hp
 unfold ae.j8
 exact hC1021 rfl rfl rfl ⟨w0,s0,xA,xB,xC⟩ hp
def ae.pj9 (F:Nat) (ez:Bx) (iI:Int) (kq:Bg) (mj:Int) (kr:Bg) (iJ:Int):Option (Int×List (List Int)):=ae.pj8 F ez iI kq mj kr iJ
theorem ae.j9_P  {C1021_:Bv} {ez:Bx} (hC1021:ae.S1021 H0 Ri R0  C1021_ ez) {xD iI mj iJ sA sB sC oP k_ oQ oR lb sD sE sF sG kq kr sH sI sJ} (xE:oP=sG.length) (xF:oQ=kq.length) (xG:oR=kr.length) (h0:Out H0 Ri H (Rs.own ⟨sA,oP,sD⟩ (eSl eI).z sH::Rs.blk k_ [.i xD,.sl ⟨sA,oP,sD⟩]::Rs.own ⟨sB,oQ,sE⟩ (eSl eI).z sI::Rs.own ⟨sC,oR,sF⟩ (eSl eI).z sJ::Rs.blk lb [.i mj,.sl ⟨sC,oR,sF⟩]::R0) λR=>CR (eSl eI) H R sH sG/\CR (eSl eI) H R sI kq/\CR (eSl eI) H R sJ kr) {r:Bk} (hp:ae.pj9 F ez iI kq mj kr iJ=some r):Rt (ae.j9 F (aU.tw F) (ap.tw F) (aX.tw F) (aV.tw F) (av.tw F) (aF.tw F) C1021_ k_ 0 iI ⟨sB,oQ,sE⟩ lb 0 iJ H) (ae.Q H0 Ri R0  r):=by
 obtain ⟨w0,s0,xH,xI,xJ⟩:=h0
 subst xE
 subst xF
 subst xG
 unfold ae.pj9 at hp
 unfold ae.j9
 exact ae.j8_P (@hC1021) rfl rfl rfl ⟨w0,s0,xH,xI,xJ⟩ hp
def ae.pl1021 (F:Nat) :Nat->Int->List (List Int)->Int->List (List Int)->Int->Option (Int×List (List Int))
 | 0,_,_,_,_,_=>none
 | k+1,dM,dO,gD,gb,dl=>(bif (decide (dl<(dO.length:Int))) then ((ix dO dl).bind λn1=>(aU.p F dM).bind λr2=>(aF.p F (gt dO n1) r2).bind λr6=>(bif r6 then (ae.pj7 F (ae.pl1021 F k) dM dO gD gb dl) else ((ix dO dl).bind λn10=>(aV.p F dM).bind λr11=>(aF.p F (gt dO n10) r11).bind λr15=>(bif r15 then (ae.pj9 F (ae.pl1021 F k) dM dO (wrap .i64 (gD+1)) gb dl) else ((ix dO dl).bind λn20=>(apn gb ([(gt dO n20)]:List (List Int))).bind λl22=>ae.pj9 F (ae.pl1021 F k) dM dO gD l22 dl))))) else (some (gD,gb)))
theorem ae.l1021_P  :∀ k,ae.S1021 H0 Ri R0  (ae.l1021 F (aU.tw F) (ap.tw F) (aX.tw F) (aV.tw F) (av.tw F) (aF.tw F)  k) (ae.pl1021 F  k):=by
 intro k
 induction k with
 | zero=>unfold ae.S1021;intros;rename_i hp;cases hp
 | succ k ih=>
  intro rP dM gD dl oz oA oB md eF mf mg dX oC oD oE oF dO gb oG oH oI H xK xL xM h0 r hp
  obtain ⟨w0,s0,oS,js,ml⟩:=h0
  subst xK
  subst xL
  subst xM
  unfold ae.pl1021 at hp
  unfold ae.l1021
  refine aE hp (λhp=>?_) λhp=>?_
  ·obtain ⟨n1,g1,hp⟩:=af hp
   obtain ⟨p1,q1,i1,h1,j1⟩:=W.ixo (E:=(eSl eI)) w0 (i:=2) rfl rfl js g1
   refine ah i1 ?_
   obtain ⟨⟨hZ,m1_0,c1_0⟩,rfl,f1_0⟩:=h1
   obtain rfl:m1_0=_:=f1_0.n
   refine ah (dt (j1 0 _ rfl)) ?_
   obtain ⟨r2,e2,hp⟩:=af hp
   refine aZ (aU.P ⟨w0,trivial⟩ e2) ?_
   rintro _ H3 ⟨o0a_3,o0n_3,o0c_3,o0k_3,rfl,rfl,w3,s3,f3_0⟩
   refine br ?_
   refine fJ (W.cons_of (Rn:=[_]) w0 w3 s3) ?_
   have f5:=W.borrow1 eI w3 f3_0
   obtain ⟨w5,s5⟩:=w3.right1
   obtain ⟨r6,e6,hp⟩:=af hp
   refine aZ (aF.P rfl rfl ⟨w5,((f1_0.step s3).step s5),f5⟩ e6) ?_
   rintro _ H7 ⟨rfl,w7,s7,_⟩
   obtain ⟨w8,s8⟩:=W.frame1 w3 w7 s7
   refine br ?_
   refine aE hp (λhp=>?_) λhp=>?_
   ·obtain ⟨w9,s9⟩:=w8.pp [1,2,3,4,5] 6
    exact ae.j7_P (@ih) rfl rfl rfl ⟨w9,(s0.trans (s3.trans (s8.trans s9))),(oS.step (s3.trans (s8.trans s9))),(js.step (s3.trans (s8.trans s9))),(ml.step (s3.trans (s8.trans s9)))⟩ hp
   ·obtain ⟨n10,g10,hp⟩:=af hp
    obtain ⟨p10,q10,i10,h10,j10⟩:=W.ixo (E:=(eSl eI)) w8 (i:=3) rfl rfl (js.step (s3.trans s8)) g10
    refine ah i10 ?_
    obtain ⟨⟨Ah,m10_0,c10_0⟩,rfl,f10_0⟩:=h10
    obtain rfl:m10_0=_:=f10_0.n
    refine ah (dt (j10 0 _ rfl)) ?_
    obtain ⟨r11,e11,hp⟩:=af hp
    refine aZ (aV.P ⟨w8,trivial⟩ e11) ?_
    rintro _ H12 ⟨o0a_12,o0n_12,o0c_12,o0k_12,rfl,rfl,w12,s12,f12_0⟩
    refine br ?_
    refine fJ (W.cons_of (Rn:=[_]) w8 w12 s12) ?_
    have f14:=W.borrow1 eI w12 f12_0
    obtain ⟨w14,s14⟩:=w12.right1
    obtain ⟨r15,e15,hp⟩:=af hp
    refine aZ (aF.P rfl rfl ⟨w14,((f10_0.step s12).step s14),f14⟩ e15) ?_
    rintro _ H16 ⟨rfl,w16,s16,_⟩
    obtain ⟨w17,s17⟩:=W.frame1 w12 w16 s16
    refine br ?_
    refine aE hp (λhp=>?_) λhp=>?_
    ·refine lI w17 6 ?_
     refine cv w17 6 λH18 w18 s18=>?_
     obtain ⟨w19,s19⟩:=w18.pp [2,3,4,5,6] 7
     exact ae.j9_P (@ih) rfl rfl rfl ⟨w19,(s0.trans (s3.trans (s8.trans (s12.trans (s17.trans (s18.trans s19)))))),(oS.step (s3.trans (s8.trans (s12.trans (s17.trans (s18.trans s19)))))),(js.step (s3.trans (s8.trans (s12.trans (s17.trans (s18.trans s19)))))),(ml.step (s3.trans (s8.trans (s12.trans (s17.trans (s18.trans s19))))))⟩ hp
    ·refine lSl w17 6 ?_
     obtain ⟨n20,g20,hp⟩:=af hp
     obtain ⟨p20,q20,i20,h20,j20⟩:=W.ixo (E:=(eSl eI)) w17 (i:=4) rfl rfl (js.step (s3.trans (s8.trans (s12.trans s17)))) g20
     refine ah i20 ?_
     obtain ⟨⟨Ai,m20_0,c20_0⟩,rfl,f20_0⟩:=h20
     obtain rfl:m20_0=_:=f20_0.n
     refine ah (dt (j20 0 _ rfl)) ?_
     refine dU (eSl eI) w17 (n:=1) (l:=([(gt dO n20)]:List (List Int))) rfl (CR.cons1 ⟨_,rfl,f20_0⟩ CR.empty) rfl λH21 w21 s21 c21=>?_
     refine ah (w21.rowo (i:=0) rfl) ?_
     obtain ⟨l22,e22,hp⟩:=af hp
     refine eZ (eSl eI) w21 (i:=6) rfl rfl (ml.step (s3.trans (s8.trans (s12.trans (s17.trans s21))))) c21 (show 1=List.length ([(gt dO n20)]:List (List Int)) from rfl) rfl e22 λa23 d23 H23 w23 s23 c23 x23=>?_
     refine cv w23 7 λH24 w24 s24=>?_
     obtain ⟨w25,s25⟩:=w24.pp [3,4,5,6,7] 8
     exact ae.j9_P (@ih) rfl rfl rfl ⟨w25,(s0.trans (s3.trans (s8.trans (s12.trans (s17.trans (s21.trans (s23.trans (s24.trans s25)))))))),(oS.step (s3.trans (s8.trans (s12.trans (s17.trans (s21.trans (s23.trans (s24.trans s25)))))))),(js.step (s3.trans (s8.trans (s12.trans (s17.trans (s21.trans (s23.trans (s24.trans s25)))))))),(c23.step (s24.trans s25))⟩ hp
  ·refine lI w0 4 ?_
   refine lSl w0 4 ?_
   refine cv w0 1 λH26 w26 s26=>?_
   refine cv w26 1 λH27 w27 s27=>?_
   refine lI w27 1 ?_
   refine lSl w27 1 ?_
   obtain ⟨w28,s28⟩:=w27.pp [3] 5
   exact ax hp ⟨_,_,_,_,rfl,rfl,w28,(s0.trans (s26.trans (s27.trans s28))),(ml.step (s26.trans (s27.trans s28)))⟩
def ae.pj10 (F:Nat)  (iK:Int) (iL:Int) (kt:Bg):Option (Int×List (List Int)):=(av.p F kt).bind λr2=>ae.pl1021 F F iK r2 iL ([]:List (List Int)) 0
theorem ae.j10_P   {xN iK iL sK sL oT lc oU sM sN sO kt sP sQ} (xO:oT=sO.length) (xP:oU=kt.length) (h0:Out H0 Ri H (Rs.own ⟨sK,oT,sM⟩ (eSl eI).z sP::Rs.blk lc [.i xN,.sl ⟨sK,oT,sM⟩]::Rs.own ⟨sL,oU,sN⟩ (eSl eI).z sQ::R0) λR=>CR (eSl eI) H R sP sO/\CR (eSl eI) H R sQ kt) {r:Bk} (hp:ae.pj10 F  iK iL kt=some r):Rt (ae.j10 F (aU.tw F) (ap.tw F) (aX.tw F) (aV.tw F) (av.tw F) (aF.tw F)  lc 0 iK iL ⟨sL,oU,sN⟩ H) (ae.Q H0 Ri R0  r):=by
 obtain ⟨w0,s0,xQ,xR⟩:=h0
 subst xO
 subst xP
 unfold ae.pj10 at hp
 unfold ae.j10
 obtain ⟨w1,s1,f1⟩:=w0.frz (i:=2) (eSl eI) rfl xR
 obtain ⟨r2,e2,hp⟩:=af hp
 refine aZ (av.P rfl ⟨w1,f1⟩ e2) ?_
 rintro _ H3 ⟨o0a_3,o0n_3,o0c_3,o0k_3,rfl,rfl,w3,s3,f3_0⟩
 refine br ?_
 refine cu w3 λH4 w4 s4=>?_
 refine cv w4 0 λH5 w5 s5=>?_
 refine cv w5 0 λH6 w6 s6=>?_
 obtain ⟨w7,s7⟩:=w6.nilS (eSl eI).z (by decide)
 obtain ⟨w8,s8⟩:=w7.pp [3,4,2,0,1] 5
 exact ae.l1021_P F rfl rfl rfl ⟨w8,(s0.trans (s1.trans (s3.trans (s4.trans (s5.trans (s6.trans (s7.trans s8))))))),(xQ.step (s1.trans (s3.trans (s4.trans (s5.trans (s6.trans (s7.trans s8))))))),(f3_0.step (s4.trans (s5.trans (s6.trans (s7.trans s8))))),((CR.empty:CR (eSl eI) _ _ [] []).step s8)⟩ hp
def ae.pl125 (F:Nat) :Nat->List Int->Int->Int->List (List Int)->Int->Option (Int×List (List Int))
 | 0,_,_,_,_,_=>none
 | k+1,eV,dZ,eH,gC,d_=>(bif (decide (d_<(eV.length:Int))) then ((ix eV d_).bind λn1=>(bif (decide ((gt eV n1)>0)) then ((aU.p F dZ).bind λr2=>(ap.p F r2 (gt eV n1)).bind λr5=>(apn gC ([r5]:List (List Int))).bind λl10=>ae.pj11 F (ae.pl125 F k) eV dZ eH l10 d_) else (ae.pl32093 F (ae.pl125 F k) F eV dZ (wrap .i64 (eH - 1)) gC d_ (gt eV n1) 0))) else (ae.pj10 F dZ eH gC))
theorem ae.l125_P  :∀ k,ae.S125 H0 Ri R0  (ae.l125 F (aU.tw F) (ap.tw F) (aX.tw F) (aV.tw F) (av.tw F) (aF.tw F)  k) (ae.pl125 F  k):=by
 intro k
 induction k with
 | zero=>unfold ae.S125;intros;rename_i hp;cases hp
 | succ k ih=>
  intro qX qY dZ eH d_ nK nL nO lX fG lY fQ lZ nP nQ nR eV nS gC nT nU H xS xT xU h0 r hp
  obtain ⟨w0,s0,oV,oW,oX⟩:=h0
  subst xS
  subst xT
  subst xU
  unfold ae.pl125 at hp
  unfold ae.l125
  refine lSl w0 0 ?_
  refine aE hp (λhp=>?_) λhp=>?_
  ·refine lSl w0 0 ?_
   obtain ⟨n1,g1,hp⟩:=af hp
   obtain ⟨p1,q1,i1,h1,j1⟩:=ROs.ixr oV rfl g1
   refine ah i1 ?_
   have h1:_=[_]:=h1
   subst h1
   refine ah (b_ (j1 0 _ rfl)) ?_
   refine aE hp (λhp=>?_) λhp=>?_
   ·obtain ⟨r2,e2,hp⟩:=af hp
    refine aZ (aU.P ⟨w0,trivial⟩ e2) ?_
    rintro _ H3 ⟨o0a_3,o0n_3,o0c_3,o0k_3,rfl,rfl,w3,s3,f3_0⟩
    refine br ?_
    have f4:=W.borrow1 eI w3 f3_0
    obtain ⟨w4,s4⟩:=w3.right1
    obtain ⟨r5,e5,hp⟩:=af hp
    refine aZ (ap.P rfl ⟨w4,f4⟩ e5) ?_
    rintro _ H6 ⟨o0a_6,o0n_6,o0c_6,o0k_6,rfl,rfl,w6,s6,f6_0⟩
    obtain ⟨w7,s7⟩:=W.frame1 w3 w6 s6
    refine br ?_
    obtain ⟨w8,s8,f8⟩:=w7.frz (i:=1) eI rfl (CR.flat (kJ .i64) f6_0)
    refine dU (eSl eI) w8 (n:=1) (l:=([r5]:List (List Int))) rfl (CR.cons1 ⟨_,rfl,f8⟩ CR.empty) rfl λH9 w9 s9 c9=>?_
    refine ah (w9.rowo (i:=0) rfl) ?_
    obtain ⟨l10,e10,hp⟩:=af hp
    refine eZ (eSl eI) w9 (i:=5) rfl rfl (oX.step (s3.trans (s7.trans (s8.trans s9)))) c9 (show 1=List.length ([r5]:List (List Int)) from rfl) rfl e10 λa11 d11 H11 w11 s11 c11 x11=>?_
    obtain ⟨w12,s12⟩:=w11.pp [2,3,4,5] 6
    exact ae.j11_P (@ih) rfl rfl rfl ⟨w12,(s0.trans (s3.trans (s7.trans (s8.trans (s9.trans (s11.trans s12)))))),(oV.step (s3.trans (s7.trans (s8.trans (s9.trans (s11.trans s12)))))),(oW.step (s3.trans (s7.trans (s8.trans (s9.trans (s11.trans s12)))))),(c11.step s12)⟩ hp
   ·exact ae.l32093_P (@ih) F rfl rfl rfl ⟨w0,s0,oV,oW,oX⟩ hp
  ·obtain ⟨w13,s13⟩:=w0.pp [1,2,3] 4
   exact ae.j10_P rfl rfl ⟨w13,(s0.trans s13),(oW.step s13),(oX.step s13)⟩ hp
def ae.p (F:Nat) (aa:Int) (az:Ba):Option (Int×List (List Int)):=ae.pl125 F F az aa 0 ([]:List (List Int)) 0
theorem ae.P {aa bX bC bY az} (dn:bC=az.length) (h0:Inn H R0 λR=>ROs eI H R ⟨bX,bC,bY⟩ az) {r:Bk} (hp:ae.p F aa az=some r):Rt (ae.tw F aa ⟨bX,bC,bY⟩ H) (ae.Q H R0 R0  r):=by
 obtain ⟨w0,cW⟩:=h0
 subst dn
 unfold ae.p at hp
 unfold ae.tw ae.twX
 have s0:=w0.rf
 refine cu w0 λH1 w1 s1=>?_
 refine cu w1 λH2 w2 s2=>?_
 refine lI w2 1 ?_
 refine dU (eSl eI) w2 (n:=0) (l:=([]:List (List Int))) rfl CR.empty rfl λH3 w3 s3 c3=>?_
 obtain ⟨w4,s4⟩:=w3.nilS (eSl eI).z (by decide)
 obtain ⟨w5,s5⟩:=w4.pp [3,0,2,1] 4
 exact ae.l125_P F rfl rfl (show 0=List.length ([]:List (List Int)) from rfl) ⟨w5,(s0.trans (s1.trans (s2.trans (s3.trans (s4.trans s5))))),(cW.step (s1.trans (s2.trans (s3.trans (s4.trans s5))))),((CR.empty:CR (eSl eI) _ _ [] []).step s5),(c3.step (s4.trans s5))⟩ hp
def aW.Q (H0:Hp) (Ri R0:Bc)  (r:Bool) (v:AV) (H':Hp):Prop:=v=(.bool r)/\Out H0 Ri H' (R0) λR=>True
def aW.S29 (H0:Hp) (Ri R0:Bc)  (C:Nat->Nat->Nat->Nat->Int->Hp->OA) (pC:List (List Int)->List (List Int)->Int->Option (Bool)):Prop:=∀ {sR sS ec oY oZ mm fR mn gw o_ pc gd gE},∀ {H:Hp},mm=gd.length->mn=gE.length->(Out H0 Ri H (Rs.blk fR [.i sR,.sl ⟨oY,mm,o_⟩]::Rs.blk gw [.i sS,.sl ⟨oZ,mn,pc⟩]::R0) λR=>ROs (eSl eI) H R ⟨oY,mm,o_⟩ gd/\ROs (eSl eI) H R ⟨oZ,mn,pc⟩ gE)->∀ {r:Bool},pC gd gE ec=some r->Rt (C fR 0 gw 0 ec H) (aW.Q H0 Ri R0  r)
def aW.pl29 (F:Nat) :Nat->List (List Int)->List (List Int)->Int->Option (Bool)
 | 0,_,_,_=>none
 | k+1,gd,gE,ec=>(bif (decide (ec<(gd.length:Int))) then ((ix gd ec).bind λn1=>(ix gE ec).bind λn2=>(aF.p F (gt gd n1) (gt gE n2)).bind λr3=>(bif (!r3) then (some false) else (aW.pl29 F k gd gE (wrap .i64 (ec+1))))) else (some true))
theorem aW.l29_P  :∀ k,aW.S29 H0 Ri R0  (aW.l29 F (aF.tw F)  k) (aW.pl29 F  k):=by
 intro k
 induction k with
 | zero=>unfold aW.S29;intros;rename_i hp;cases hp
 | succ k ih=>
  intro sR sS ec oY oZ mm fR mn gw o_ pc gd gE H xV xW h0 r hp
  obtain ⟨w0,s0,sT,sU⟩:=h0
  subst xV
  subst xW
  unfold aW.pl29 at hp
  unfold aW.l29
  refine lSl w0 0 ?_
  refine aE hp (λhp=>?_) λhp=>?_
  ·refine lSl w0 0 ?_
   obtain ⟨n1,g1,hp⟩:=af hp
   obtain ⟨p1,q1,i1,h1,j1⟩:=ROs.ixr sT rfl g1
   refine ah i1 ?_
   obtain ⟨⟨hZ,m1_0,c1_0⟩,rfl,f1_0⟩:=h1
   obtain rfl:m1_0=_:=f1_0.n
   refine ah (dt (j1 0 _ rfl)) ?_
   refine lSl w0 1 ?_
   obtain ⟨n2,g2,hp⟩:=af hp
   obtain ⟨p2,q2,i2,h2,j2⟩:=ROs.ixr sU rfl g2
   refine ah i2 ?_
   obtain ⟨⟨qW,m2_0,c2_0⟩,rfl,f2_0⟩:=h2
   obtain rfl:m2_0=_:=f2_0.n
   refine ah (dt (j2 0 _ rfl)) ?_
   obtain ⟨r3,e3,hp⟩:=af hp
   refine aZ (aF.P rfl rfl ⟨w0,f1_0,f2_0⟩ e3) ?_
   rintro _ H4 ⟨rfl,w4,s4,_⟩
   refine br ?_
   refine aE hp (λhp=>?_) λhp=>?_
   ·obtain ⟨w5,s5⟩:=w4.pp [] 2
    exact ax hp ⟨rfl,w5,(s0.trans (s4.trans s5)),trivial⟩
   ·exact ih rfl rfl ⟨w4,(s0.trans s4),(sT.step s4),(sU.step s4)⟩ hp
  ·obtain ⟨w6,s6⟩:=w0.pp [] 2
   exact ax hp ⟨rfl,w6,(s0.trans s6),trivial⟩
def aW.p (F:Nat) (aa:Int) (az:Bg) (ak:Int) (bK:Bg):Option (Bool):=(bif (aa != ak) then (some false) else ((bif ((az.length:Int) != (bK.length:Int)) then (some false) else (aW.pl29 F F az bK 0))))
theorem aW.P {aa ak bX eA bC dD bY eB az bK} (dn:bC=az.length) (gg:dD=bK.length) (h0:Inn H R0 λR=>ROs (eSl eI) H R ⟨bX,bC,bY⟩ az/\ROs (eSl eI) H R ⟨eA,dD,eB⟩ bK) {r:Bool} (hp:aW.p F aa az ak bK=some r):Rt (aW.tw F aa ⟨bX,bC,bY⟩ ak ⟨eA,dD,eB⟩ H) (aW.Q H R0 R0  r):=by
 obtain ⟨w0,cW,eC⟩:=h0
 subst dn
 subst gg
 unfold aW.p at hp
 unfold aW.tw aW.twX
 have s0:=w0.rf
 refine cu w0 λH1 w1 s1=>?_
 refine cu w1 λH2 w2 s2=>?_
 refine lI w2 1 ?_
 refine lI w2 0 ?_
 refine aE hp (λhp=>?_) λhp=>?_
 ·obtain ⟨w3,s3⟩:=w2.pp [] 2
  exact ax hp ⟨rfl,w3,(s0.trans (s1.trans (s2.trans s3))),trivial⟩
 ·refine lSl w2 1 ?_
  refine lSl w2 0 ?_
  refine aE hp (λhp=>?_) λhp=>?_
  ·obtain ⟨w4,s4⟩:=w2.pp [] 2
   exact ax hp ⟨rfl,w4,(s0.trans (s1.trans (s2.trans s4))),trivial⟩
  ·obtain ⟨w5,s5⟩:=w2.pp [1,0] 2
   exact aW.l29_P F rfl rfl ⟨w5,(s0.trans (s1.trans (s2.trans s5))),(cW.step (s1.trans (s2.trans s5))),(eC.step (s1.trans (s2.trans s5)))⟩ hp
def ck.Q (H0:Hp) (Ri R0:Bc)  (r:Bool) (v:AV) (H':Hp):Prop:=v=(.bool r)/\Out H0 Ri H' (R0) λR=>True
def ck.p (F:Nat) (aa:Int) (az:Ba) (ak:Int) (bK:Ba):Option (Bool):=(aS.p F aa az).bind λr3=>(bif r3 then ((aS.p F ak bK).bind λr5=>(bif r5 then ((bif (aa==ak) then ((ae.p F aa az).bind λr7=>(ae.p F ak bK).bind λr10=>(aW.p F r7.1 r7.2 r10.1 r10.2).bind λr15=>some r15) else (some false))) else (some false))) else (some false))
theorem ck.P {aa ak bX eA bC dD bY eB az bK} (dn:bC=az.length) (gg:dD=bK.length) (h0:Inn H R0 λR=>ROs eI H R ⟨bX,bC,bY⟩ az/\ROs eI H R ⟨eA,dD,eB⟩ bK) {r:Bool} (hp:ck.p F aa az ak bK=some r):Rt (ck.tw F aa ⟨bX,bC,bY⟩ ak ⟨eA,dD,eB⟩ H) (ck.Q H R0 R0  r):=by
 obtain ⟨w0,cW,eC⟩:=h0
 subst dn
 subst gg
 unfold ck.p at hp
 unfold ck.tw ck.twX
 have s0:=w0.rf
 refine cu w0 λH1 w1 s1=>?_
 refine cu w1 λH2 w2 s2=>?_
 refine lI w2 1 ?_
 refine lSl w2 1 ?_
 obtain ⟨r3,e3,hp⟩:=af hp
 refine aZ (aS.P rfl ⟨w2,(cW.step (s1.trans s2))⟩ e3) ?_
 rintro _ H4 ⟨rfl,w4,s4,_⟩
 refine br ?_
 refine aE hp (λhp=>?_) λhp=>?_
 ·refine lI w4 0 ?_
  refine lSl w4 0 ?_
  obtain ⟨r5,e5,hp⟩:=af hp
  refine aZ (aS.P rfl ⟨w4,(eC.step (s1.trans (s2.trans s4)))⟩ e5) ?_
  rintro _ H6 ⟨rfl,w6,s6,_⟩
  refine br ?_
  refine aE hp (λhp=>?_) λhp=>?_
  ·refine lI w6 1 ?_
   refine lI w6 0 ?_
   refine aE hp (λhp=>?_) λhp=>?_
   ·refine lI w6 1 ?_
    refine lSl w6 1 ?_
    obtain ⟨r7,e7,hp⟩:=af hp
    refine aZ (ae.P rfl ⟨w6,(cW.step (s1.trans (s2.trans (s4.trans s6))))⟩ e7) ?_
    rintro _ H8 ⟨o1a_8,o1n_8,o1c_8,o1k_8,rfl,rfl,w8,s8,f8_0⟩
    refine br (br (br (br (br ?_))))
    refine fJ (W.cons_of (Rn:=[_]) w6 w8 s8) ?_
    refine lI w8 1 ?_
    refine lSl w8 1 ?_
    obtain ⟨r10,e10,hp⟩:=af hp
    refine aZ (ae.P rfl ⟨w8,(eC.step (s1.trans (s2.trans (s4.trans (s6.trans s8)))))⟩ e10) ?_
    rintro _ H11 ⟨o1a_11,o1n_11,o1c_11,o1k_11,rfl,rfl,w11,s11,f11_0⟩
    refine br (br (br (br (br ?_))))
    obtain ⟨w12,s12⟩:=w11.pp [1,0,2,3] 4
    have f13:=W.borrow1 (eSl eI) w12 (f8_0.step (s11.trans s12))
    obtain ⟨w13,s13⟩:=w12.right1
    have f14:=W.borrow1 (eSl eI) w13 ((f11_0.step s12).step s13)
    obtain ⟨w14,s14⟩:=w13.right1
    obtain ⟨r15,e15,hp⟩:=af hp
    refine aZ (aW.P rfl rfl ⟨w14,(f13.step s14),f14⟩ e15) ?_
    rintro _ H16 ⟨rfl,w16,s16,_⟩
    obtain ⟨w17,s17⟩:=W.frame1 w13 w16 s16
    obtain ⟨w18,s18⟩:=W.frame1 w12 w17 s17
    refine br ?_
    obtain ⟨w19,s19⟩:=w18.pp [] 4
    exact ax hp ⟨rfl,w19,(s0.trans (s1.trans (s2.trans (s4.trans (s6.trans (s8.trans (s11.trans (s12.trans (s18.trans s19))))))))),trivial⟩
   ·obtain ⟨w20,s20⟩:=w6.pp [] 2
    exact ax hp ⟨rfl,w20,(s0.trans (s1.trans (s2.trans (s4.trans (s6.trans s20))))),trivial⟩
  ·obtain ⟨w21,s21⟩:=w6.pp [] 2
   exact ax hp ⟨rfl,w21,(s0.trans (s1.trans (s2.trans (s4.trans (s6.trans s21))))),trivial⟩
 ·obtain ⟨w22,s22⟩:=w4.pp [] 2
  exact ax hp ⟨rfl,w22,(s0.trans (s1.trans (s2.trans (s4.trans s22)))),trivial⟩
def cP.Q (H0:Hp) (Ri R0:Bc)  (r:Bool) (v:AV) (H':Hp):Prop:=v=(.bool r)/\Out H0 Ri H' (R0) λR=>True
def cP.p (F:Nat) (aa:Int) (ag:Int) (dE:Int):Option (Bool):=(bif (decide (ag<=aa)) then (some (decide (aa<=dE))) else (some false))
theorem cP.P {aa ag dE}  (h0:Inn H R0 λR=>True) {r:Bool} (hp:cP.p F aa ag dE=some r):Rt (cP.tw F aa ag dE H) (cP.Q H R0 R0  r):=by
 obtain ⟨w0,_⟩:=h0
 unfold cP.p at hp
 unfold cP.tw cP.twX
 have s0:=w0.rf
 refine aE hp (λhp=>?_) λhp=>?_
 ·exact ax hp ⟨rfl,w0,s0,trivial⟩
 ·exact ax hp ⟨rfl,w0,s0,trivial⟩
def cQ.Q (H0:Hp) (Ri R0:Bc)  (r:Bool) (v:AV) (H':Hp):Prop:=v=(.bool r)/\Out H0 Ri H' (R0) λR=>True
def cQ.p (F:Nat) (aa:Int) (ag:Int):Option (Bool):=(bif (ag != 0) then ((cP.p F ag (wrap .i64 (1 - aa)) (wrap .i64 (aa - 1))).bind λr1=>some r1) else (some false))
theorem cQ.P {aa ag}  (h0:Inn H R0 λR=>True) {r:Bool} (hp:cQ.p F aa ag=some r):Rt (cQ.tw F aa ag H) (cQ.Q H R0 R0  r):=by
 obtain ⟨w0,_⟩:=h0
 unfold cQ.p at hp
 unfold cQ.tw cQ.twX
 have s0:=w0.rf
 refine aE hp (λhp=>?_) λhp=>?_
 ·obtain ⟨r1,e1,hp⟩:=af hp
  refine aZ (cP.P ⟨w0,trivial⟩ e1) ?_
  rintro _ H2 ⟨rfl,w2,s2,_⟩
  refine br ?_
  exact ax hp ⟨rfl,w2,(s0.trans s2),trivial⟩
 ·exact ax hp ⟨rfl,w0,s0,trivial⟩
def cH.Q (H0:Hp) (Ri R0:Bc) (cI:Int) (dP:Sl) (ag:Nat) (r:Bool) (v:AV) (H':Hp):Prop:=v=(.bool r)/\Out H0 Ri H' (Rs.blk ag [.i cI,.sl dP]::R0) λR=>True
def cH.p (F:Nat) (aa:Int) (cI:Int):Option (Bool):=(cQ.p F cI aa).bind λr1=>some (!r1)
theorem cH.P {aa cI dP ag}  (h0:Inn H (Rs.blk ag [.i cI,.sl dP]::R0) λR=>True) {r:Bool} (hp:cH.p F aa cI=some r):Rt (cH.tw F aa ag 0 H) (cH.Q H (Rs.blk ag [.i cI,.sl dP]::R0) R0 cI dP ag r):=by
 obtain ⟨w0,_⟩:=h0
 unfold cH.p at hp
 unfold cH.tw cH.twX
 have s0:=w0.rf
 refine lI w0 0 ?_
 obtain ⟨r1,e1,hp⟩:=af hp
 refine aZ (cQ.P ⟨w0,trivial⟩ e1) ?_
 rintro _ H2 ⟨rfl,w2,s2,_⟩
 refine br ?_
 exact ax hp ⟨rfl,w2,(s0.trans s2),trivial⟩
def bc.Q (H0:Hp) (Ri R0:Bc) (cI:Int) (dP:Sl) (ag:Nat) (r:Int) (v:AV) (H':Hp):Prop:=v=(.i r)/\Out H0 Ri H' (Rs.blk ag [.i cI,.sl dP]::R0) λR=>True
def bc.S13 (H0:Hp) (Ri R0:Bc) (gF:Int) (mo:Sl) (ku:Nat) (C:Sl->Nat->Nat->Int->Int->Hp->OA) (pC:List Int->Int->Int->Int->Option (Int)):Prop:=∀ {hR fZ hU cS fj ed},∀ {H:Hp},fZ=cS.length->(Out H0 Ri H (Rs.blk ku [.i gF,.sl mo]::R0) λR=>ROs eI H R ⟨hR,fZ,hU⟩ cS)->∀ {r:Int},pC cS gF fj ed=some r->Rt (C ⟨hR,fZ,hU⟩ ku 0 fj ed H) (bc.Q H0 Ri R0 gF mo ku r)
def bc.pl13 (F:Nat) :Nat->List Int->Int->Int->Int->Option (Int)
 | 0,_,_,_,_=>none
 | k+1,cS,gF,fj,ed=>(bif (decide (ed<fj)) then ((ix cS ed).bind λn1=>(cH.p F (gt cS n1) gF).bind λr2=>(bif r2 then (some ed) else (bc.pl13 F k cS gF fj (wrap .i64 (ed+1))))) else (some (-1)))
theorem bc.l13_P {gF mo ku} :∀ k,bc.S13 H0 Ri R0 gF mo ku (bc.l13 F (cH.tw F)  k) (bc.pl13 F  k):=by
 intro k
 induction k with
 | zero=>unfold bc.S13;intros;rename_i hp;cases hp
 | succ k ih=>
  intro hR fZ hU cS fj ed H nr h0 r hp
  obtain ⟨w0,s0,gB⟩:=h0
  subst nr
  unfold bc.pl13 at hp
  unfold bc.l13
  refine aE hp (λhp=>?_) λhp=>?_
  ·obtain ⟨n1,g1,hp⟩:=af hp
   obtain ⟨p1,q1,i1,h1,j1⟩:=ROs.ixr gB rfl g1
   refine ah i1 ?_
   have h1:_=[_]:=h1
   subst h1
   refine ah (b_ (j1 0 _ rfl)) ?_
   obtain ⟨r2,e2,hp⟩:=af hp
   refine aZ (cH.P ⟨w0,trivial⟩ e2) ?_
   rintro _ H3 ⟨rfl,w3,s3,_⟩
   refine br ?_
   refine aE hp (λhp=>?_) λhp=>?_
   ·exact ax hp ⟨rfl,w3,(s0.trans s3),trivial⟩
   ·exact ih rfl ⟨w3,(s0.trans s3),(gB.step s3)⟩ hp
  ·exact ax hp ⟨rfl,w0,s0,trivial⟩
def bc.p (F:Nat) (ai:Ba) (cI:Int):Option (Int):=bc.pl13 F F ai cI (ai.length:Int) 0
theorem bc.P {aI au ag aJ ai cI dP} (bI:au=ai.length) (h0:Inn H (Rs.blk ag [.i cI,.sl dP]::R0) λR=>ROs eI H R ⟨aI,au,aJ⟩ ai) {r:Int} (hp:bc.p F ai cI=some r):Rt (bc.tw F ⟨aI,au,aJ⟩ ag 0 H) (bc.Q H (Rs.blk ag [.i cI,.sl dP]::R0) R0 cI dP ag r):=by
 obtain ⟨w0,bz⟩:=h0
 subst bI
 unfold bc.p at hp
 unfold bc.tw bc.twX
 have s0:=w0.rf
 exact bc.l13_P F rfl ⟨w0,s0,bz⟩ hp
def cU.Q (H0:Hp) (Ri R0:Bc) (cI:Int) (dP:Sl) (ag:Nat) (r:Bool) (v:AV) (H':Hp):Prop:=v=(.bool r)/\Out H0 Ri H' (Rs.blk ag [.i cI,.sl dP]::R0) λR=>True
def cU.p (F:Nat) (ai:Ba) (cI:Int):Option (Bool):=(bc.p F ai cI).bind λr1=>some (decide (r1>=0))
theorem cU.P {aI au ag aJ ai cI dP} (bI:au=ai.length) (h0:Inn H (Rs.blk ag [.i cI,.sl dP]::R0) λR=>ROs eI H R ⟨aI,au,aJ⟩ ai) {r:Bool} (hp:cU.p F ai cI=some r):Rt (cU.tw F ⟨aI,au,aJ⟩ ag 0 H) (cU.Q H (Rs.blk ag [.i cI,.sl dP]::R0) R0 cI dP ag r):=by
 obtain ⟨w0,bz⟩:=h0
 subst bI
 unfold cU.p at hp
 unfold cU.tw cU.twX
 have s0:=w0.rf
 obtain ⟨r1,e1,hp⟩:=af hp
 refine aZ (bc.P rfl ⟨w0,bz⟩ e1) ?_
 rintro _ H2 ⟨rfl,w2,s2,_⟩
 refine br ?_
 exact ax hp ⟨rfl,w2,(s0.trans s2),trivial⟩
def cy.Q (H0:Hp) (Ri R0:Bc)  (r:Bool) (v:AV) (H':Hp):Prop:=v=(.bool r)/\Out H0 Ri H' (R0) λR=>True
def cy.p (F:Nat) (aa:Int) (az:Ba):Option (Bool):=(cP.p F aa 1 6).bind λr2=>(bif r2 then ((bif (decide ((az.length:Int)<=24)) then ((cU.p F az aa).bind λr4=>some (!r4)) else (some false))) else (some false))
theorem cy.P {aa bX bC bY az} (dn:bC=az.length) (h0:Inn H R0 λR=>ROs eI H R ⟨bX,bC,bY⟩ az) {r:Bool} (hp:cy.p F aa az=some r):Rt (cy.tw F aa ⟨bX,bC,bY⟩ H) (cy.Q H R0 R0  r):=by
 obtain ⟨w0,cW⟩:=h0
 subst dn
 unfold cy.p at hp
 unfold cy.tw cy.twX
 have s0:=w0.rf
 refine cu w0 λH1 w1 s1=>?_
 refine lI w1 0 ?_
 obtain ⟨r2,e2,hp⟩:=af hp
 refine aZ (cP.P ⟨w1,trivial⟩ e2) ?_
 rintro _ H3 ⟨rfl,w3,s3,_⟩
 refine br ?_
 refine aE hp (λhp=>?_) λhp=>?_
 ·refine lSl w3 0 ?_
  refine aE hp (λhp=>?_) λhp=>?_
  ·refine lSl w3 0 ?_
   obtain ⟨r4,e4,hp⟩:=af hp
   refine aZ (cU.P rfl ⟨w3,(cW.step (s1.trans s3))⟩ e4) ?_
   rintro _ H5 ⟨rfl,w5,s5,_⟩
   refine br ?_
   obtain ⟨w6,s6⟩:=w5.pp [] 1
   exact ax hp ⟨rfl,w6,(s0.trans (s1.trans (s3.trans (s5.trans s6)))),trivial⟩
  ·obtain ⟨w7,s7⟩:=w3.pp [] 1
   exact ax hp ⟨rfl,w7,(s0.trans (s1.trans (s3.trans s7))),trivial⟩
 ·obtain ⟨w8,s8⟩:=w3.pp [] 1
  exact ax hp ⟨rfl,w8,(s0.trans (s1.trans (s3.trans s8))),trivial⟩
def aH.Q (H0:Hp) (Ri R0:Bc)  (r:Ba) (v:AV) (H':Hp):Prop:=∃ o0a:ON,∃ o0n:Nat,∃ o0c:Cap,∃ o0k:List AV,v=(.sl ⟨o0a,o0n,o0c⟩)/\o0n=(r).length/\Out H0 Ri H' (Rs.own ⟨o0a,o0n,o0c⟩ eI.z o0k::R0) λR=>CR eI H' R o0k (r)
def aH.S29 (H0:Hp) (Ri R0:Bc)  (C:Sl->Int->Int->Hp->OA) (pC:BM):Prop:=∀ {pd mq pe ia pf fk ee},∀ {H:Hp},mq=ia.length->(Out H0 Ri H (Rs.own ⟨pd,mq,pe⟩ eI.z pf::R0) λR=>CR eI H R pf ia)->∀ {r:Ba},pC ia fk ee=some r->Rt (C ⟨pd,mq,pe⟩ fk ee H) (aH.Q H0 Ri R0  r)
def aH.pl29 (F:Nat) :Nat->List Int->Int->Int->Option (List Int)
 | 0,_,_,_=>none
 | k+1,ia,fk,ee=>(bif (decide (ee<fk)) then ((apn ia ([ee]:List Int)).bind λl2=>aH.pl29 F k l2 fk (wrap .i64 (ee+1))) else (some ia))
theorem aH.l29_P  :∀ k,aH.S29 H0 Ri R0  (aH.l29 F   k) (aH.pl29 F  k):=by
 intro k
 induction k with
 | zero=>unfold aH.S29;intros;rename_i hp;cases hp
 | succ k ih=>
  intro pd mq pe ia pf fk ee H xX h0 r hp
  obtain ⟨w0,s0,sV⟩:=h0
  subst xX
  unfold aH.pl29 at hp
  unfold aH.l29
  refine aE hp (λhp=>?_) λhp=>?_
  ·refine dU eI w0 (n:=1) (l:=([ee]:List Int)) rfl (CR.cons1 rfl CR.empty) rfl λH1 w1 s1 c1=>?_
   refine ah (w1.rowo (i:=0) rfl) ?_
   obtain ⟨l2,e2,hp⟩:=af hp
   refine eZ eI w1 (i:=1) rfl rfl (sV.step s1) c1 (show 1=List.length ([ee]:List Int) from rfl) rfl e2 λa3 d3 H3 w3 s3 c3 x3=>?_
   obtain ⟨w4,s4⟩:=w3.pp [1] 2
   exact ih rfl ⟨w4,(s0.trans (s1.trans (s3.trans s4))),(c3.step s4)⟩ hp
  ·exact ax hp ⟨_,_,_,_,rfl,rfl,w0,s0,sV⟩
def aH.p (F:Nat) (aa:Int):Option (List Int):=aH.pl29 F F ([]:List Int) aa 0
theorem aH.P {aa}  (h0:Inn H R0 λR=>True) {r:Ba} (hp:aH.p F aa=some r):Rt (aH.tw F aa H) (aH.Q H R0 R0  r):=by
 obtain ⟨w0,_⟩:=h0
 unfold aH.p at hp
 unfold aH.tw aH.twX
 have s0:=w0.rf
 obtain ⟨w1,s1⟩:=w0.nilS eI.z (by decide)
 exact aH.l29_P F rfl ⟨w1,(s0.trans s1),(CR.empty:CR eI _ _ [] [])⟩ hp
def bR.Q (H0:Hp) (Ri R0:Bc)  (r:Int) (v:AV) (H':Hp):Prop:=v=(.i r)/\Out H0 Ri H' (R0) λR=>True
def bR.p (F:Nat) (ai:Ba):Option (Int):=some (ai.length:Int)
theorem bR.P {aI au aJ ai} (bI:au=ai.length) (h0:Inn H R0 λR=>ROs eI H R ⟨aI,au,aJ⟩ ai) {r:Int} (hp:bR.p F ai=some r):Rt (bR.tw F ⟨aI,au,aJ⟩ H) (bR.Q H R0 R0  r):=by
 obtain ⟨w0,bz⟩:=h0
 subst bI
 unfold bR.p at hp
 unfold bR.tw bR.twX
 have s0:=w0.rf
 exact ax hp ⟨rfl,w0,s0,trivial⟩
def aQ.Q (H0:Hp) (Ri R0:Bc)  (r:Ba) (v:AV) (H':Hp):Prop:=∃ o0a:ON,∃ o0n:Nat,∃ o0c:Cap,∃ o0k:List AV,v=(.sl ⟨o0a,o0n,o0c⟩)/\o0n=(r).length/\Out H0 Ri H' (Rs.own ⟨o0a,o0n,o0c⟩ eI.z o0k::R0) λR=>CR eI H' R o0k (r)
def aQ.S61 (H0:Hp) (Ri R0:Bc)  (C:Int->Sl->Sl->Int->Int->Hp->OA) (pC:Int->List Int->List Int->Int->Int->Option (List Int)):Prop:=∀ {cT fm ef pg ph mr mu pi pj gG gH pm},∀ {H:Hp},mr=gG.length->mu=gH.length->(Out H0 Ri H (Rs.own ⟨pg,mr,pi⟩ eI.z pm::R0) λR=>CR eI H R pm gG/\ROs eI H R ⟨ph,mu,pj⟩ gH)->∀ {r:Ba},pC cT gG gH fm ef=some r->Rt (C cT ⟨pg,mr,pi⟩ ⟨ph,mu,pj⟩ fm ef H) (aQ.Q H0 Ri R0  r)
def aQ.pl61 (F:Nat) :Nat->Int->List Int->List Int->Int->Int->Option (List Int)
 | 0,_,_,_,_,_=>none
 | k+1,cT,gG,gH,fm,ef=>(bif (decide (ef<fm)) then ((ix gH ef).bind λn1=>(ix gG (wrap .i64 (cT - ef))).bind λn2=>(some (gG.set n2 (wrap .i64 (cT - (gt gH n1))))).bind λl3=>aQ.pl61 F k cT l3 gH fm (wrap .i64 (ef+1))) else (some gG))
theorem aQ.l61_P  :∀ k,aQ.S61 H0 Ri R0  (aQ.l61 F (bR.tw F)  k) (aQ.pl61 F  k):=by
 intro k
 induction k with
 | zero=>unfold aQ.S61;intros;rename_i hp;cases hp
 | succ k ih=>
  intro cT fm ef pg ph mr mu pi pj gG gH pm H xY xZ h0 r hp
  obtain ⟨w0,s0,pt,sW⟩:=h0
  subst xY
  subst xZ
  unfold aQ.pl61 at hp
  unfold aQ.l61
  refine aE hp (λhp=>?_) λhp=>?_
  ·obtain ⟨n1,g1,hp⟩:=af hp
   obtain ⟨p1,q1,i1,h1,j1⟩:=ROs.ixr sW rfl g1
   refine ah i1 ?_
   have h1:_=[_]:=h1
   subst h1
   refine ah (b_ (j1 0 _ rfl)) ?_
   obtain ⟨n2,g2,hp⟩:=af hp
   obtain ⟨p2,q2,i2,h2,j2⟩:=W.ixo (E:=eI) w0 (i:=0) rfl rfl pt g2
   refine ah i2 ?_
   obtain ⟨l3,e3,hp⟩:=af hp
   refine eP eI w0 (i:=0) (j:=0) (p:=p2) rfl rfl pt g2 i2 e3 rfl rfl (λ_ h=>by have h:_=[_]:=h;subst h;exact rfl) λH4 k4 w4 s4 c4=>?_
   exact ih ((dV e3).symm) rfl ⟨w4,(s0.trans s4),c4,(sW.step s4)⟩ hp
  ·exact ax hp ⟨_,_,_,_,rfl,rfl,w0,s0,pt⟩
def aQ.p (F:Nat) (ai:Ba):Option (List Int):=(bR.p F ai).bind λr1=>(mkn (ai.length:Int) (0:Int)).bind λl3=>aQ.pl61 F F (wrap .i64 (r1 - 1)) l3 ai (ai.length:Int) 0
theorem aQ.P {aI au aJ ai} (bI:au=ai.length) (h0:Inn H R0 λR=>ROs eI H R ⟨aI,au,aJ⟩ ai) {r:Ba} (hp:aQ.p F ai=some r):Rt (aQ.tw F ⟨aI,au,aJ⟩ H) (aQ.Q H R0 R0  r):=by
 obtain ⟨w0,bz⟩:=h0
 subst bI
 unfold aQ.p at hp
 unfold aQ.tw aQ.twX
 have s0:=w0.rf
 obtain ⟨r1,e1,hp⟩:=af hp
 refine aZ (bR.P rfl ⟨w0,bz⟩ e1) ?_
 rintro _ H2 ⟨rfl,w2,s2,_⟩
 refine br ?_
 obtain ⟨l3,e3,hp⟩:=af hp
 refine mD eI (0:Int) w2 rfl rfl rfl e3 λH4 k4 w4 s4 c4=>?_
 exact aQ.l61_P F rfl rfl ⟨w4,(s0.trans (s2.trans s4)),c4,(bz.step (s2.trans s4))⟩ hp
def bo.Q (H0:Hp) (Ri R0:Bc) (aI:ON) (au:Nat) (aJ:Cap) (dQ:Bool) (dR dS:Bf) (r:Ba) (v:AV) (H':Hp):Prop:=∃ gI:List AV,v=(.tup [])/\au=(r).length/\Out H0 Ri H' (Rs.ow dQ ⟨aI,au,aJ⟩ eI.z dR gI dS::R0) λR=>CR eI H' R gI (r)
def bo.S3 (H0:Hp) (Ri R0:Bc) (bT:ON) (bL:Nat) (bU:Cap) (cB:Bool) (cC cD:Bf) (C:Sl->Int->Int->Hp->OA) (pC:BM):Prop:=∀ {eW pu eg dv},∀ {H:Hp},bL=eW.length->(Out H0 Ri H (Rs.ow cB ⟨bT,bL,bU⟩ eI.z cC pu cD::R0) λR=>CR eI H R pu eW)->∀ {r:Ba},pC eW eg dv=some r->Rt (C ⟨bT,bL,bU⟩ eg dv H) (bo.Q H0 Ri R0 bT bL bU cB cC cD r)
def bo.pl3 (F:Nat) :Nat->List Int->Int->Int->Option (List Int)
 | 0,_,_,_=>none
 | k+1,eW,eg,dv=>(bif (decide (eg<dv)) then ((ix eW dv).bind λn1=>(ix eW eg).bind λn2=>(ix eW eg).bind λn3=>(some (eW.set n3 (gt eW n1))).bind λl4=>(ix l4 dv).bind λn6=>(some (l4.set n6 (gt eW n2))).bind λl7=>bo.pl3 F k l7 (wrap .i64 (eg+1)) (wrap .i64 (dv - 1))) else (some eW))
theorem bo.l3_P {bT bL bU cB cC cD} :∀ k,bo.S3 H0 Ri R0 bT bL bU cB cC cD (bo.l3 F   k) (bo.pl3 F  k):=by
 intro k
 induction k with
 | zero=>unfold bo.S3;intros;rename_i hp;cases hp
 | succ k ih=>
  intro eW pu eg dv H x_ h0 r hp
  obtain ⟨w0,s0,kv⟩:=h0
  subst x_
  unfold bo.pl3 at hp
  unfold bo.l3
  refine aE hp (λhp=>?_) λhp=>?_
  ·obtain ⟨n1,g1,hp⟩:=af hp
   obtain ⟨p1,q1,i1,h1,j1⟩:=W.ixo (E:=eI) w0 (i:=0) rfl rfl kv g1
   refine ah i1 ?_
   have h1:_=[_]:=h1
   subst h1
   refine ah (b_ (j1 0 _ rfl)) ?_
   obtain ⟨n2,g2,hp⟩:=af hp
   obtain ⟨p2,q2,i2,h2,j2⟩:=W.ixo (E:=eI) w0 (i:=0) rfl rfl kv g2
   refine ah i2 ?_
   have h2:_=[_]:=h2
   subst h2
   refine ah (b_ (j2 0 _ rfl)) ?_
   obtain ⟨n3,g3,hp⟩:=af hp
   obtain ⟨p3,q3,i3,h3,j3⟩:=W.ixo (E:=eI) w0 (i:=0) rfl rfl kv g3
   refine ah i3 ?_
   obtain ⟨l4,e4,hp⟩:=af hp
   refine eP eI w0 (i:=0) (j:=0) (p:=p3) rfl rfl kv g3 i3 e4 rfl rfl (λ_ h=>by have h:_=[_]:=h;subst h;exact rfl) λH5 k5 w5 s5 c5=>?_
   obtain ⟨n6,g6,hp⟩:=af hp
   obtain ⟨p6,q6,i6,h6,j6⟩:=W.ixo (E:=eI) w5 (i:=0) rfl rfl c5 g6
   refine ah i6 ?_
   obtain ⟨l7,e7,hp⟩:=af hp
   refine eP eI w5 (i:=0) (j:=0) (p:=p6) rfl rfl c5 g6 i6 e7 rfl rfl (λ_ h=>by have h:_=[_]:=h;subst h;exact rfl) λH8 k8 w8 s8 c8=>?_
   exact ih ((dV e4).symm.trans (dV e7).symm) ⟨w8,(s0.trans (s5.trans s8)),c8⟩ hp
  ·exact ax hp ⟨_,rfl,rfl,w0,s0,kv⟩
def bo.p (F:Nat) (ai:Ba):Option (List Int):=bo.pl3 F F ai 0 (wrap .i64 ((ai.length:Int) - 1))
theorem bo.P {aI au aJ ai dQ dR dS fC} (bI:au=ai.length) (h0:Inn H (Rs.ow dQ ⟨aI,au,aJ⟩ eI.z dR fC dS::R0) λR=>CR eI H R fC ai) {r:Ba} (hp:bo.p F ai=some r):Rt (bo.tw F ⟨aI,au,aJ⟩ H) (bo.Q H (Rs.ow dQ ⟨aI,au,aJ⟩ eI.z dR fC dS::R0) R0 aI au aJ dQ dR dS r):=by
 obtain ⟨w0,bz⟩:=h0
 subst bI
 unfold bo.p at hp
 unfold bo.tw bo.twX
 have s0:=w0.rf
 exact bo.l3_P F rfl ⟨w0,s0,bz⟩ hp
def bB.Q (H0:Hp) (Ri R0:Bc)  (r:Ba) (v:AV) (H':Hp):Prop:=∃ o0a:ON,∃ o0n:Nat,∃ o0c:Cap,∃ o0k:List AV,v=(.sl ⟨o0a,o0n,o0c⟩)/\o0n=(r).length/\Out H0 Ri H' (Rs.own ⟨o0a,o0n,o0c⟩ eI.z o0k::R0) λR=>CR eI H' R o0k (r)
def bB.p (F:Nat) (aa:Int):Option (List Int):=(aH.p F aa).bind λr1=>(bo.p F r1).bind λr3=>some r3
theorem bB.P {aa}  (h0:Inn H R0 λR=>True) {r:Ba} (hp:bB.p F aa=some r):Rt (bB.tw F aa H) (bB.Q H R0 R0  r):=by
 obtain ⟨w0,_⟩:=h0
 unfold bB.p at hp
 unfold bB.tw bB.twX
 have s0:=w0.rf
 obtain ⟨r1,e1,hp⟩:=af hp
 refine aZ (aH.P ⟨w0,trivial⟩ e1) ?_
 rintro _ H2 ⟨o0a_2,o0n_2,o0c_2,o0k_2,rfl,rfl,w2,s2,f2_0⟩
 refine br ?_
 obtain ⟨r3,e3,hp⟩:=af hp
 refine aZ (bo.P rfl ⟨w2,f2_0⟩ e3) ?_
 rintro _ H4 ⟨Aj,rfl,hl4_0,w4,s4,f4_0⟩
 exact ax hp ⟨_,_,_,_,rfl,hl4_0,w4,(s0.trans (s2.trans s4)),f4_0⟩
def aD.Q (H0:Hp) (Ri R0:Bc)  (r:Ba) (v:AV) (H':Hp):Prop:=∃ o0a:ON,∃ o0n:Nat,∃ o0c:Cap,∃ o0k:List AV,v=(.sl ⟨o0a,o0n,o0c⟩)/\o0n=(r).length/\Out H0 Ri H' (Rs.own ⟨o0a,o0n,o0c⟩ eI.z o0k::R0) λR=>CR eI H' R o0k (r)
def aD.S29 (H0:Hp) (Ri R0:Bc)  (C:BH) (pC:List Int->List Int->Int->Int->Option (List Int)):Prop:=∀ {dz pv cX mv dA pz bF gJ dB fo el},∀ {H:Hp},cX=bF.length->mv=gJ.length->(Out H0 Ri H (Rs.own ⟨dz,cX,dA⟩ eI.z dB::R0) λR=>CR eI H R dB bF/\ROs eI H R ⟨pv,mv,pz⟩ gJ)->∀ {r:Ba},pC bF gJ fo el=some r->Rt (C ⟨dz,cX,dA⟩ ⟨pv,mv,pz⟩ fo el H) (aD.Q H0 Ri R0  r)
def aD.pl29 (F:Nat) :Nat->List Int->List Int->Int->Int->Option (List Int)
 | 0,_,_,_,_=>none
 | k+1,bF,gJ,fo,el=>(bif (decide (el<fo)) then ((ix gJ el).bind λn1=>(ix bF (gt gJ n1)).bind λn2=>(some (bF.set n2 el)).bind λl3=>aD.pl29 F k l3 gJ fo (wrap .i64 (el+1))) else (some bF))
theorem aD.l29_P  :∀ k,aD.S29 H0 Ri R0  (aD.l29 F   k) (aD.pl29 F  k):=by
 intro k
 induction k with
 | zero=>unfold aD.S29;intros;rename_i hp;cases hp
 | succ k ih=>
  intro dz pv cX mv dA pz bF gJ dB fo el H fX ya h0 r hp
  obtain ⟨w0,s0,dN,sX⟩:=h0
  subst fX
  subst ya
  unfold aD.pl29 at hp
  unfold aD.l29
  refine aE hp (λhp=>?_) λhp=>?_
  ·obtain ⟨n1,g1,hp⟩:=af hp
   obtain ⟨p1,q1,i1,h1,j1⟩:=ROs.ixr sX rfl g1
   refine ah i1 ?_
   have h1:_=[_]:=h1
   subst h1
   refine ah (b_ (j1 0 _ rfl)) ?_
   obtain ⟨n2,g2,hp⟩:=af hp
   obtain ⟨p2,q2,i2,h2,j2⟩:=W.ixo (E:=eI) w0 (i:=0) rfl rfl dN g2
   refine ah i2 ?_
   obtain ⟨l3,e3,hp⟩:=af hp
   refine eP eI w0 (i:=0) (j:=0) (p:=p2) rfl rfl dN g2 i2 e3 rfl rfl (λ_ h=>by have h:_=[_]:=h;subst h;exact rfl) λH4 k4 w4 s4 c4=>?_
   exact ih ((dV e3).symm) rfl ⟨w4,(s0.trans s4),c4,(sX.step s4)⟩ hp
  ·exact ax hp ⟨_,_,_,_,rfl,rfl,w0,s0,dN⟩
def aD.p (F:Nat) (ai:Ba):Option (List Int):=(mkn (ai.length:Int) (0:Int)).bind λl1=>aD.pl29 F F l1 ai (ai.length:Int) 0
theorem aD.P {aI au aJ ai} (bI:au=ai.length) (h0:Inn H R0 λR=>ROs eI H R ⟨aI,au,aJ⟩ ai) {r:Ba} (hp:aD.p F ai=some r):Rt (aD.tw F ⟨aI,au,aJ⟩ H) (aD.Q H R0 R0  r):=by
 obtain ⟨w0,bz⟩:=h0
 subst bI
 unfold aD.p at hp
 unfold aD.tw aD.twX
 have s0:=w0.rf
 obtain ⟨l1,e1,hp⟩:=af hp
 refine mD eI (0:Int) w0 rfl rfl rfl e1 λH2 k2 w2 s2 c2=>?_
 exact aD.l29_P F rfl rfl ⟨w2,(s0.trans s2),c2,(bz.step s2)⟩ hp
def ce.Q (H0:Hp) (Ri R0:Bc)  (r:Int) (v:AV) (H':Hp):Prop:=v=(.i r)/\Out H0 Ri H' (R0) λR=>True
def ce.p (F:Nat) (aa:Int):Option (Int):=(bif (decide (aa<0)) then (some (wrap .i64 (0 - aa))) else (some aa))
theorem ce.P {aa}  (h0:Inn H R0 λR=>True) {r:Int} (hp:ce.p F aa=some r):Rt (ce.tw F aa H) (ce.Q H R0 R0  r):=by
 obtain ⟨w0,_⟩:=h0
 unfold ce.p at hp
 unfold ce.tw ce.twX
 have s0:=w0.rf
 refine aE hp (λhp=>?_) λhp=>?_
 ·exact ax hp ⟨rfl,w0,s0,trivial⟩
 ·exact ax hp ⟨rfl,w0,s0,trivial⟩
def bu.Q (H0:Hp) (Ri R0:Bc) (aI:ON) (au:Nat) (aJ:Cap) (dQ:Bool) (dR dS:Bf) (r:Ba) (v:AV) (H':Hp):Prop:=∃ gI:List AV,v=(.tup [])/\au=(r).length/\Out H0 Ri H' (Rs.ow dQ ⟨aI,au,aJ⟩ eI.z dR gI dS::R0) λR=>CR eI H' R gI (r)
def bu.p (F:Nat) (ai:Ba) (ag:Int):Option (List Int):=(ix ai ag).bind λn1=>(ix ai (wrap .i64 (ag - 1))).bind λn2=>(ix ai (wrap .i64 (ag - 1))).bind λn3=>(some (ai.set n3 (gt ai n1))).bind λl4=>(ix l4 ag).bind λn6=>(some (l4.set n6 (gt ai n2))).bind λl7=>some l7
theorem bu.P {aI au aJ ai dQ dR dS fC ag} (bI:au=ai.length) (h0:Inn H (Rs.ow dQ ⟨aI,au,aJ⟩ eI.z dR fC dS::R0) λR=>CR eI H R fC ai) {r:Ba} (hp:bu.p F ai ag=some r):Rt (bu.tw F ⟨aI,au,aJ⟩ ag H) (bu.Q H (Rs.ow dQ ⟨aI,au,aJ⟩ eI.z dR fC dS::R0) R0 aI au aJ dQ dR dS r):=by
 obtain ⟨w0,bz⟩:=h0
 subst bI
 unfold bu.p at hp
 unfold bu.tw bu.twX
 have s0:=w0.rf
 obtain ⟨n1,g1,hp⟩:=af hp
 obtain ⟨p1,q1,i1,h1,j1⟩:=W.ixo (E:=eI) w0 (i:=0) rfl rfl bz g1
 refine ah i1 ?_
 have h1:_=[_]:=h1
 subst h1
 refine ah (b_ (j1 0 _ rfl)) ?_
 obtain ⟨n2,g2,hp⟩:=af hp
 obtain ⟨p2,q2,i2,h2,j2⟩:=W.ixo (E:=eI) w0 (i:=0) rfl rfl bz g2
 refine ah i2 ?_
 have h2:_=[_]:=h2
 subst h2
 refine ah (b_ (j2 0 _ rfl)) ?_
 obtain ⟨n3,g3,hp⟩:=af hp
 obtain ⟨p3,q3,i3,h3,j3⟩:=W.ixo (E:=eI) w0 (i:=0) rfl rfl bz g3
 refine ah i3 ?_
 obtain ⟨l4,e4,hp⟩:=af hp
 refine eP eI w0 (i:=0) (j:=0) (p:=p3) rfl rfl bz g3 i3 e4 rfl rfl (λ_ h=>by have h:_=[_]:=h;subst h;exact rfl) λH5 k5 w5 s5 c5=>?_
 obtain ⟨n6,g6,hp⟩:=af hp
 obtain ⟨p6,q6,i6,h6,j6⟩:=W.ixo (E:=eI) w5 (i:=0) rfl rfl c5 g6
 refine ah i6 ?_
 obtain ⟨l7,e7,hp⟩:=af hp
 refine eP eI w5 (i:=0) (j:=0) (p:=p6) rfl rfl c5 g6 i6 e7 rfl rfl (λ_ h=>by have h:_=[_]:=h;subst h;exact rfl) λH8 k8 w8 s8 c8=>?_
 exact ax hp ⟨_,rfl,((dV e4).symm.trans (dV e7).symm),w8,(s0.trans (s5.trans s8)),c8⟩
def aj.Q (H0:Hp) (Ri R0:Bc) (aI dq:ON) (au ct:Nat) (aJ dr:Cap) (dQ kw:Bool) (dR dS kx ky:Bf) (r:By) (v:AV) (H':Hp):Prop:=∃ gI:List AV,∃ sY:List AV,v=(.bool r.1)/\au=(r.2.1).length/\ct=(r.2.2).length/\Out H0 Ri H' (Rs.ow dQ ⟨aI,au,aJ⟩ eI.z dR gI dS::Rs.ow kw ⟨dq,ct,dr⟩ eI.z kx sY ky::R0) λR=>CR eI H' R gI (r.2.1)/\CR eI H' R sY (r.2.2)
def aj.S29 (H0:Hp) (Ri R0:Bc) (bT cE:ON) (bL bZ:Nat) (bU cF:Cap) (cB dg:Bool) (cC cD dh di:Bf) (C:Bw) (pC:Bz):Prop:=∀ {aM bD pA pB fp fU},∀ {H:Hp},bL=aM.length->bZ=bD.length->(Out H0 Ri H (Rs.ow cB ⟨bT,bL,bU⟩ eI.z cC pA cD::Rs.ow dg ⟨cE,bZ,cF⟩ eI.z dh pB di::R0) λR=>CR eI H R pA aM/\CR eI H R pB bD)->∀ {r:By},pC aM bD fp fU=some r->Rt (C ⟨bT,bL,bU⟩ ⟨cE,bZ,cF⟩ fp fU H) (aj.Q H0 Ri R0 bT cE bL bZ bU cF cB dg cC cD dh di r)
def aj.S943 (H0:Hp) (Ri R0:Bc) (bT cE:ON) (bL bZ:Nat) (bU cF:Cap) (cB dg:Bool) (cC cD dh di:Bf) (C:BD) (pC:BI):Prop:=∀ {fI eO eX pD pE pF eK eL pG mw pH cz},∀ {H:Hp},bL=fI.length->bZ=eO.length->mw=eX.length->(Out H0 Ri H (Rs.ow cB ⟨bT,bL,bU⟩ eI.z cC pD cD::Rs.ow dg ⟨cE,bZ,cF⟩ eI.z dh pE di::Rs.own ⟨pG,mw,pH⟩ eI.z pF::R0) λR=>CR eI H R pD fI/\CR eI H R pE eO/\CR eI H R pF eX)->∀ {r:By},pC fI eO eK eL eX cz=some r->Rt (C ⟨bT,bL,bU⟩ ⟨cE,bZ,cF⟩ eK eL ⟨pG,mw,pH⟩ cz H) (aj.Q H0 Ri R0 bT cE bL bZ bU cF cB dg cC cD dh di r)
def aj.pj8 (F:Nat) (mz:BI) (kz:Ba) (kA:Ba) (je:Bool) (jf:Bool) (kB:Ba) (jg:Int):Option (Bool×List Int×List Int):=mz kz kA je jf kB (wrap .i64 (jg+1))
theorem aj.j8_P {bT cE bL bZ bU cF cB dg cC cD dh di} {C943_:BD} {mz:BI} (hC943:aj.S943 H0 Ri R0 bT cE bL bZ bU cF cB dg cC cD dh di C943_ mz) {kz kA kB sZ s_ ta je jf tc pI td jg} (yb:bL=kz.length) (yc:bZ=kA.length) (yd:pI=kB.length) (h0:Out H0 Ri H (Rs.ow cB ⟨bT,bL,bU⟩ eI.z cC sZ cD::Rs.ow dg ⟨cE,bZ,cF⟩ eI.z dh s_ di::Rs.own ⟨tc,pI,td⟩ eI.z ta::R0) λR=>CR eI H R sZ kz/\CR eI H R s_ kA/\CR eI H R ta kB) {r:By} (hp:aj.pj8 F mz kz kA je jf kB jg=some r):Rt (aj.j8 F (aD.tw F) (bR.tw F) (bu.tw F) C943_ ⟨bT,bL,bU⟩ ⟨cE,bZ,cF⟩ je jf ⟨tc,pI,td⟩ jg H) (aj.Q H0 Ri R0 bT cE bL bZ bU cF cB dg cC cD dh di r):=by
 obtain ⟨w0,s0,ye,yf,yg⟩:=h0
 subst yb
 subst yc
 subst yd
 unfold aj.pj8 at hp
 unfold aj.j8
 exact hC943 rfl rfl rfl ⟨w0,s0,ye,yf,yg⟩ hp
def aj.pj6 (F:Nat) (bO:Bz) (kC:Ba) (kD:Ba) (ja:Bool) (jb:Bool):Option (Bool×List Int×List Int):=bO kC kD ja jb
theorem aj.j6_P {bT cE bL bZ bU cF cB dg cC cD dh di} {C29_:Bw} {bO:Bz} (hC29:aj.S29 H0 Ri R0 bT cE bL bZ bU cF cB dg cC cD dh di C29_ bO) {kC kD te tf ja jb} (yh:bL=kC.length) (yi:bZ=kD.length) (h0:Out H0 Ri H (Rs.ow cB ⟨bT,bL,bU⟩ eI.z cC te cD::Rs.ow dg ⟨cE,bZ,cF⟩ eI.z dh tf di::R0) λR=>CR eI H R te kC/\CR eI H R tf kD) {r:By} (hp:aj.pj6 F bO kC kD ja jb=some r):Rt (aj.j6 F (aD.tw F) (bR.tw F) (bu.tw F) C29_ ⟨bT,bL,bU⟩ ⟨cE,bZ,cF⟩ ja jb H) (aj.Q H0 Ri R0 bT cE bL bZ bU cF cB dg cC cD dh di r):=by
 obtain ⟨w0,s0,yj,yk⟩:=h0
 subst yh
 subst yi
 unfold aj.pj6 at hp
 unfold aj.j6
 exact hC29 rfl rfl ⟨w0,s0,yj,yk⟩ hp
def aj.pj7 (F:Nat) (bO:Bz) (kE:Ba) (kF:Ba) (jc:Bool) (jd:Bool):Option (Bool×List Int×List Int):=aj.pj6 F bO kE kF jc jd
theorem aj.j7_P {bT cE bL bZ bU cF cB dg cC cD dh di} {C29_:Bw} {bO:Bz} (hC29:aj.S29 H0 Ri R0 bT cE bL bZ bU cF cB dg cC cD dh di C29_ bO) {kE kF tg th jc jd} (yl:bL=kE.length) (ym:bZ=kF.length) (h0:Out H0 Ri H (Rs.ow cB ⟨bT,bL,bU⟩ eI.z cC tg cD::Rs.ow dg ⟨cE,bZ,cF⟩ eI.z dh th di::R0) λR=>CR eI H R tg kE/\CR eI H R th kF) {r:By} (hp:aj.pj7 F bO kE kF jc jd=some r):Rt (aj.j7 F (aD.tw F) (bR.tw F) (bu.tw F) C29_ ⟨bT,bL,bU⟩ ⟨cE,bZ,cF⟩ jc jd H) (aj.Q H0 Ri R0 bT cE bL bZ bU cF cB dg cC cD dh di r):=by
 obtain ⟨w0,s0,yn,yo⟩:=h0
 subst yl
 subst ym
 unfold aj.pj7 at hp
 unfold aj.j7
 exact aj.j6_P (@hC29) rfl rfl ⟨w0,s0,yn,yo⟩ hp
def aj.pl943 (F:Nat) (bO:Bz):Nat->List Int->List Int->Bool->Bool->List Int->Int->Option (Bool×List Int×List Int)
 | 0,_,_,_,_,_,_=>none
 | k+1,fI,eO,eK,eL,eX,cz=>(bR.p F fI).bind λr2=>(bif (decide (cz<r2)) then ((ix eO (wrap .i64 (cz - 1))).bind λn5=>(ix eO cz).bind λn6=>(bif (decide ((gt eO n5)>(gt eO n6))) then ((ix eX (wrap .i64 (cz - 1))).bind λn7=>(ix eX cz).bind λn8=>(bif (decide ((gt eX n7)<(gt eX n8))) then ((bu.p F eO cz).bind λr10=>(bu.p F eX cz).bind λr13=>(aD.p F r13).bind λr16=>(some (cpl fI r16)).bind λl19=>aj.pj8 F (aj.pl943 F bO k) l19 r10 true true r13 cz) else (aj.pj8 F (aj.pl943 F bO k) fI eO eK eL eX cz))) else (aj.pl943 F bO k fI eO eK eL eX (wrap .i64 (cz+1))))) else (aj.pj7 F bO fI eO eK eL))
theorem aj.l943_P {bT cE bL bZ bU cF cB dg cC cD dh di} {C29_:Bw} {bO:Bz} (hC29:aj.S29 H0 Ri R0 bT cE bL bZ bU cF cB dg cC cD dh di C29_ bO):∀ k,aj.S943 H0 Ri R0 bT cE bL bZ bU cF cB dg cC cD dh di (aj.l943 F (aD.tw F) (bR.tw F) (bu.tw F) C29_ k) (aj.pl943 F bO k):=by
 intro k
 induction k with
 | zero=>unfold aj.S943;intros;rename_i hp;cases hp
 | succ k ih=>
  intro fI eO eX pD pE pF eK eL pG mw pH cz H yp yq yr h0 r hp
  obtain ⟨w0,s0,kG,jt,kH⟩:=h0
  subst yp
  subst yq
  subst yr
  unfold aj.pl943 at hp
  unfold aj.l943
  have f1:=W.borrow1 eI w0 kG
  obtain ⟨w1,s1⟩:=w0.right1
  obtain ⟨r2,e2,hp⟩:=af hp
  refine aZ (bR.P rfl ⟨w1,f1⟩ e2) ?_
  rintro _ H3 ⟨rfl,w3,s3,_⟩
  obtain ⟨w4,s4⟩:=W.frame1 w0 w3 s3
  refine br ?_
  refine aE hp (λhp=>?_) λhp=>?_
  ·obtain ⟨n5,g5,hp⟩:=af hp
   obtain ⟨p5,q5,i5,h5,j5⟩:=W.ixo (E:=eI) w4 (i:=1) rfl rfl (jt.step s4) g5
   refine ah i5 ?_
   have h5:_=[_]:=h5
   subst h5
   refine ah (b_ (j5 0 _ rfl)) ?_
   obtain ⟨n6,g6,hp⟩:=af hp
   obtain ⟨p6,q6,i6,h6,j6⟩:=W.ixo (E:=eI) w4 (i:=1) rfl rfl (jt.step s4) g6
   refine ah i6 ?_
   have h6:_=[_]:=h6
   subst h6
   refine ah (b_ (j6 0 _ rfl)) ?_
   refine aE hp (λhp=>?_) λhp=>?_
   ·obtain ⟨n7,g7,hp⟩:=af hp
    obtain ⟨p7,q7,i7,h7,j7⟩:=W.ixo (E:=eI) w4 (i:=2) rfl rfl (kH.step s4) g7
    refine ah i7 ?_
    have h7:_=[_]:=h7
    subst h7
    refine ah (b_ (j7 0 _ rfl)) ?_
    obtain ⟨n8,g8,hp⟩:=af hp
    obtain ⟨p8,q8,i8,h8,j8⟩:=W.ixo (E:=eI) w4 (i:=2) rfl rfl (kH.step s4) g8
    refine ah i8 ?_
    have h8:_=[_]:=h8
    subst h8
    refine ah (b_ (j8 0 _ rfl)) ?_
    refine aE hp (λhp=>?_) λhp=>?_
    ·obtain ⟨w9,s9⟩:=w4.pp [1,0,2] 3
     obtain ⟨r10,e10,hp⟩:=af hp
     refine aZ (bu.P rfl ⟨w9,(jt.step (s4.trans s9))⟩ e10) ?_
     rintro _ H11 ⟨Ak,rfl,hl11_0,w11,s11,f11_0⟩
     obtain ⟨w12,s12⟩:=w11.pp [2,0,1] 3
     obtain ⟨r13,e13,hp⟩:=af hp
     refine aZ (bu.P rfl ⟨w12,(kH.step (s4.trans (s9.trans (s11.trans s12))))⟩ e13) ?_
     rintro _ H14 ⟨Al,rfl,hl14_0,w14,s14,f14_0⟩
     have f15:=W.borrow1 eI w14 f14_0
     obtain ⟨w15,s15⟩:=w14.right1
     obtain ⟨r16,e16,hp⟩:=af hp
     refine aZ (aD.P hl14_0 ⟨w15,f15⟩ e16) ?_
     rintro _ H17 ⟨o0a_17,o0n_17,o0c_17,o0k_17,rfl,rfl,w17,s17,f17_0⟩
     obtain ⟨w18,s18⟩:=W.frame1 w14 w17 s17
     refine br ?_
     obtain ⟨l19,e19,hp⟩:=af hp
     refine yI eI w18 (i:=3) rfl rfl (kG.step (s4.trans (s9.trans (s11.trans (s12.trans (s14.trans s18)))))) (w18.rowo (i:=1) rfl) (CR.flat (kJ .i64) f17_0) rfl rfl e19 λk20 H20 w20 s20 c20=>?_
     obtain ⟨w21,s21⟩:=w20.pp [3,2,0] 4
     exact aj.j8_P (@ih) ((yJ e19).symm) hl11_0 hl14_0 ⟨w21,(s0.trans (s4.trans (s9.trans (s11.trans (s12.trans (s14.trans (s18.trans (s20.trans s21)))))))),(c20.step s21),(f11_0.step (s12.trans (s14.trans (s18.trans (s20.trans s21))))),(f14_0.step (s18.trans (s20.trans s21)))⟩ hp
    ·exact aj.j8_P (@ih) rfl rfl rfl ⟨w4,(s0.trans s4),(kG.step s4),(jt.step s4),(kH.step s4)⟩ hp
   ·exact ih rfl rfl rfl ⟨w4,(s0.trans s4),(kG.step s4),(jt.step s4),(kH.step s4)⟩ hp
  ·obtain ⟨w22,s22⟩:=w4.pp [0,1] 3
   exact aj.j7_P (@hC29) rfl rfl ⟨w22,(s0.trans (s4.trans s22)),(kG.step (s4.trans s22)),(jt.step (s4.trans s22))⟩ hp
def aj.pl29 (F:Nat) :Nat->List Int->List Int->Bool->Bool->Option (Bool×List Int×List Int)
 | 0,_,_,_,_=>none
 | k+1,aM,bD,fp,fU=>(bif fU then ((aD.p F aM).bind λr2=>aj.pl943 F (aj.pl29 F k) F aM bD fp false r2 1) else (some (fp,aM,bD)))
theorem aj.l29_P {bT cE bL bZ bU cF cB dg cC cD dh di} :∀ k,aj.S29 H0 Ri R0 bT cE bL bZ bU cF cB dg cC cD dh di (aj.l29 F (aD.tw F) (bR.tw F) (bu.tw F)  k) (aj.pl29 F  k):=by
 intro k
 induction k with
 | zero=>unfold aj.S29;intros;rename_i hp;cases hp
 | succ k ih=>
  intro aM bD pA pB fp fU H eM ga h0 r hp
  obtain ⟨w0,s0,dp,ey⟩:=h0
  subst eM
  subst ga
  unfold aj.pl29 at hp
  unfold aj.l29
  refine aE hp (λhp=>?_) λhp=>?_
  ·have f1:=W.borrow1 eI w0 dp
   obtain ⟨w1,s1⟩:=w0.right1
   obtain ⟨r2,e2,hp⟩:=af hp
   refine aZ (aD.P rfl ⟨w1,f1⟩ e2) ?_
   rintro _ H3 ⟨o0a_3,o0n_3,o0c_3,o0k_3,rfl,rfl,w3,s3,f3_0⟩
   obtain ⟨w4,s4⟩:=W.frame1 w0 w3 s3
   refine br ?_
   obtain ⟨w5,s5⟩:=w4.pp [0,2,1] 3
   exact aj.l943_P (@ih) F rfl rfl rfl ⟨w5,(s0.trans (s4.trans s5)),(dp.step (s4.trans s5)),(ey.step (s4.trans s5)),((CR.flat (kJ .i64) f3_0).step s5)⟩ hp
  ·exact ax hp ⟨_,_,rfl,rfl,rfl,w0,s0,dp,ey⟩
def aj.p (F:Nat) (ai:Ba) (bJ:Ba):Option (Bool×List Int×List Int):=aj.pl29 F F ai bJ false true
theorem aj.P {aI dq au ct aJ dr ai bJ dQ kw dR dS fC kx ky pJ} (bI:au=ai.length) (fz:ct=bJ.length) (h0:Inn H (Rs.ow dQ ⟨aI,au,aJ⟩ eI.z dR fC dS::Rs.ow kw ⟨dq,ct,dr⟩ eI.z kx pJ ky::R0) λR=>CR eI H R fC ai/\CR eI H R pJ bJ) {r:By} (hp:aj.p F ai bJ=some r):Rt (aj.tw F ⟨aI,au,aJ⟩ ⟨dq,ct,dr⟩ H) (aj.Q H (Rs.ow dQ ⟨aI,au,aJ⟩ eI.z dR fC dS::Rs.ow kw ⟨dq,ct,dr⟩ eI.z kx pJ ky::R0) R0 aI dq au ct aJ dr dQ kw dR dS kx ky r):=by
 obtain ⟨w0,bz,fA⟩:=h0
 subst bI
 subst fz
 unfold aj.p at hp
 unfold aj.tw aj.twX
 have s0:=w0.rf
 exact aj.l29_P F rfl rfl ⟨w0,s0,bz,fA⟩ hp
def aN.Q (H0:Hp) (Ri R0:Bc)  (r:Bool) (v:AV) (H':Hp):Prop:=v=(.bool r)/\Out H0 Ri H' (R0) λR=>True
def aN.S29 (H0:Hp) (Ri R0:Bc)  (C:BH) (pC:List Int->List Int->Int->Int->Option (Bool)):Prop:=∀ {dc er cn dC dd es aM bD fq en},∀ {H:Hp},cn=aM.length->dC=bD.length->(Out H0 Ri H R0 λR=>ROs eI H R ⟨dc,cn,dd⟩ aM/\ROs eI H R ⟨er,dC,es⟩ bD)->∀ {r:Bool},pC aM bD fq en=some r->Rt (C ⟨dc,cn,dd⟩ ⟨er,dC,es⟩ fq en H) (aN.Q H0 Ri R0  r)
def aN.pl29 (F:Nat) :Nat->List Int->List Int->Int->Int->Option (Bool)
 | 0,_,_,_,_=>none
 | k+1,aM,bD,fq,en=>(bif (decide (en<fq)) then ((ix aM en).bind λn1=>(ix bD en).bind λn2=>(bif ((gt aM n1) != (gt bD n2)) then (some false) else (aN.pl29 F k aM bD fq (wrap .i64 (en+1))))) else (some true))
theorem aN.l29_P  :∀ k,aN.S29 H0 Ri R0  (aN.l29 F   k) (aN.pl29 F  k):=by
 intro k
 induction k with
 | zero=>unfold aN.S29;intros;rename_i hp;cases hp
 | succ k ih=>
  intro dc er cn dC dd es aM bD fq en H eM ga h0 r hp
  obtain ⟨w0,s0,dp,ey⟩:=h0
  subst eM
  subst ga
  unfold aN.pl29 at hp
  unfold aN.l29
  refine aE hp (λhp=>?_) λhp=>?_
  ·obtain ⟨n1,g1,hp⟩:=af hp
   obtain ⟨p1,q1,i1,h1,j1⟩:=ROs.ixr dp rfl g1
   refine ah i1 ?_
   have h1:_=[_]:=h1
   subst h1
   refine ah (b_ (j1 0 _ rfl)) ?_
   obtain ⟨n2,g2,hp⟩:=af hp
   obtain ⟨p2,q2,i2,h2,j2⟩:=ROs.ixr ey rfl g2
   refine ah i2 ?_
   have h2:_=[_]:=h2
   subst h2
   refine ah (b_ (j2 0 _ rfl)) ?_
   refine aE hp (λhp=>?_) λhp=>?_
   ·exact ax hp ⟨rfl,w0,s0,trivial⟩
   ·exact ih rfl rfl ⟨w0,s0,dp,ey⟩ hp
  ·exact ax hp ⟨rfl,w0,s0,trivial⟩
def aN.p (F:Nat) (ai:Ba) (bJ:Ba):Option (Bool):=(bif ((ai.length:Int) != (bJ.length:Int)) then (some false) else (aN.pl29 F F ai bJ (ai.length:Int) 0))
theorem aN.P {aI dq au ct aJ dr ai bJ} (bI:au=ai.length) (fz:ct=bJ.length) (h0:Inn H R0 λR=>ROs eI H R ⟨aI,au,aJ⟩ ai/\ROs eI H R ⟨dq,ct,dr⟩ bJ) {r:Bool} (hp:aN.p F ai bJ=some r):Rt (aN.tw F ⟨aI,au,aJ⟩ ⟨dq,ct,dr⟩ H) (aN.Q H R0 R0  r):=by
 obtain ⟨w0,bz,fA⟩:=h0
 subst bI
 subst fz
 unfold aN.p at hp
 unfold aN.tw aN.twX
 have s0:=w0.rf
 refine aE hp (λhp=>?_) λhp=>?_
 ·exact ax hp ⟨rfl,w0,s0,trivial⟩
 ·exact aN.l29_P F rfl rfl ⟨w0,s0,bz,fA⟩ hp
def bG.Q (H0:Hp) (Ri R0:Bc)  (r:Bk) (v:AV) (H':Hp):Prop:=∃ o1a:ON,∃ o1n:Nat,∃ o1c:Cap,∃ o1k:List AV,∃ o1m:List Ow,v=(.agg [(.i r.1),(.sl ⟨o1a,o1n,o1c⟩)])/\o1n=(r.2).length/\Out H0 Ri H' (Rs.own ⟨o1a,o1n,o1c⟩ (eSl eI).z o1k::Rs.many o1m::R0) λR=>OL (oSl (cp eI)) o1m o1k (r.2)
def bG.p (F:Nat) (aa:Int) (az:Ba):Option (Int×List (List Int)):=nfP (aH.p F) (aQ.p F) (bB.p F) (aD.p F) (ce.p F) (bu.p F) (aj.p F) (aN.p F) F aa az
theorem bG.P {aa bX bC bY az} (dn:bC=az.length) (h0:Inn H R0 λR=>ROs eI H R ⟨bX,bC,bY⟩ az) {r:Bk} (hp:bG.p F aa az=some r):Rt (bG.tw F aa ⟨bX,bC,bY⟩ H) (bG.Q H R0 R0  r):=by
 obtain ⟨w0,f0⟩:=h0
 subst dn
 unfold bG.p nfP at hp
 have hco:OkI (aH.tw F) (aH.p F):=by
  intro H R n r w e
  obtain ⟨v,H',e1,a1,n1,c1,k1,rfl,hn,w1,s1,f1⟩:=aH.P (F:=F) (R0:=R) ⟨w,trivial⟩ e
  obtain rfl:=f1.ints_eq
  exact ⟨_,H',e1,w1,s1⟩
 have hrv:OkI (bB.tw F) (bB.p F):=by
  intro H R n r w e
  obtain ⟨v,H',e1,a1,n1,c1,k1,rfl,hn,w1,s1,f1⟩:=bB.P (F:=F) (R0:=R) ⟨w,trivial⟩ e
  obtain rfl:=f1.ints_eq
  exact ⟨_,H',e1,w1,s1⟩
 have htu:OkS (aQ.tw F) (aQ.p F):=by
  intro H R e x r w f e0
  obtain ⟨a0,n0,c0⟩:=e
  obtain ⟨v,H',e1,a1,n1,c1,k1,rfl,hn,w1,s1,f1⟩:=aQ.P (F:=F) (R0:=R) f.n ⟨w,f⟩ e0
  obtain rfl:=f1.ints_eq
  exact ⟨_,H',e1,w1,s1⟩
 have hiv:OkS (aD.tw F) (aD.p F):=by
  intro H R e x r w f e0
  obtain ⟨a0,n0,c0⟩:=e
  obtain ⟨v,H',e1,a1,n1,c1,k1,rfl,hn,w1,s1,f1⟩:=aD.P (F:=F) (R0:=R) f.n ⟨w,f⟩ e0
  obtain rfl:=f1.ints_eq
  exact ⟨_,H',e1,w1,s1⟩
 have hab:OkA (ce.tw F) (ce.p F):=by
  intro H R n r w e
  obtain ⟨v,H',e1,rfl,w1,s1,_⟩:=ce.P (F:=F) (R0:=R) ⟨w,trivial⟩ e
  exact ⟨H',e1,w1,s1⟩
 have hsw:OkW (bu.tw F) (bu.p F):=by
  intro H R q x r k hz hc w e
  obtain ⟨t,⟨a,n,c⟩,z,pre,cells,rest⟩:=q
  obtain rfl:z=1:=hz
  obtain rfl:cells=nI x:=hc
  obtain ⟨v,H',e1,k1,rfl,hn1,w1,s1,f1⟩:=bu.P (F:=F) (R0:=R) (W.own_n (E:=bM .i64) w (i:=0) rfl (CR.ints _ _ _ _)) ⟨w,CR.ints _ _ _ _⟩ e
  obtain rfl:=f1.ints_eq
  exact ⟨H',e1,w1,s1⟩
 have hsh:OkH (aj.tw F) (aj.p F):=by
  intro H R q q' x x' r hz hz' hc hc' w e
  obtain ⟨t,⟨a,n,c⟩,z,pre,cells,rest⟩:=q
  obtain ⟨t',⟨a',n',c'⟩,z',pre',cells',rest'⟩:=q'
  obtain rfl:z=1:=hz
  obtain rfl:cells=nI x:=hc
  obtain rfl:z'=1:=hz'
  obtain rfl:cells'=nI x':=hc'
  obtain ⟨v,H',e1,k1,k2,rfl,hn1,hn2,w1,s1,f1,f2⟩:=aj.P (F:=F) (R0:=R) (W.own_n (E:=bM .i64) w (i:=0) rfl (CR.ints _ _ _ _)) (W.own_n (E:=bM .i64) w (i:=1) rfl (CR.ints _ _ _ _)) ⟨w,CR.ints _ _ _ _,CR.ints _ _ _ _⟩ e
  obtain rfl:=f1.ints_eq
  obtain rfl:=f2.ints_eq
  exact ⟨H',e1,w1,s1⟩
 have heq:OkE (aN.tw F) (aN.p F):=by
  intro H R e e' x x' r w f f' e0
  obtain ⟨a,n,c⟩:=e
  obtain ⟨a',n',c'⟩:=e'
  obtain ⟨v,H',e1,rfl,w1,s1,_⟩:=aN.P (F:=F) (R0:=R) f.n f'.n ⟨w,f,f'⟩ e0
  exact ⟨H',e1,w1,s1⟩
 obtain ⟨⟨hF,hl⟩,hp⟩:=eD hp
 obtain ⟨st,e1,e2⟩:=Option.bind_eq_some_iff.1 hp
 obtain ⟨v,H',t1,⟨sa,sn,sc⟩,ro,rfl,w1,s1,h1⟩:=yK (add:=λf k H=>bw.tw F f 0 k H) (fin:=λf H=>aC.tw F f 0 H) (λ{H0 H R0 R f k s rows st res} w fr hr e=>yL hco htu hrv hiv hab hsw (F:=F) (x:=λH=>bw.tw F f 0 k H) (T:=λs H=>bw.j3 F (aH.tw F) (aQ.tw F) (bB.tw F) (aD.tw F) (ce.tw F) (bu.tw F) f 0 k s H) (J:=λs H=>bw.j1 F (aH.tw F) (aQ.tw F) (bB.tw F) (aD.tw F) (ce.tw F) (bu.tw F) f 0 k s H) (J2:=λH=>bw.j2 F (aH.tw F) (aQ.tw F) (bB.tw F) (aD.tw F) (ce.tw F) (bu.tw F) f 0 k H) (Lp:=λg s m i H=>bw.l105 F (aH.tw F) (aQ.tw F) (bB.tw F) (aD.tw F) (ce.tw F) (bu.tw F) g f 0 k s m i H) (λ_=>rfl) (λ_ _=>rfl) (λ_ _=>rfl) (λ_ _ _ _ _=>rfl) (λ_=>rfl) w fr hr e) (λ{H0 H R0 R f s rows st res} w fr hr e=>yM hco hrv hsh heq (F:=F) (x:=λH=>aC.tw F f 0 H) (Lf:=λy2 g y H=>aC.l13 F (aj.tw F) (aH.tw F) (bB.tw F) (aN.tw F) g f 0 y2 0 y H) (J9:=λy2 H=>aC.j9 F (aj.tw F) (aH.tw F) (bB.tw F) (aN.tw F) f 0 y2 0 H) (Lq:=λy2 c g y i H=>aC.l215 F (aj.tw F) (aH.tw F) (bB.tw F) (aN.tw F) (aC.l13 F (aj.tw F) (aH.tw F) (bB.tw F) (aN.tw F) c) g f 0 y2 0 y i H) (Lp:=λg pl fl y2 o s m i H=>aC.l125 F (aj.tw F) (aH.tw F) (bB.tw F) (aN.tw F) g y2 0 pl fl o 0 s m i H) (J:=yN) (λ_=>rfl) (λ_ _ _ _=>rfl) (λ_ _ _ _ _ _=>rfl) (λ_ _=>rfl) (λ_ _ _ _ _ _ _ _ _=>rfl) (λ_ _ _=>rfl) w fr hr e) (F:=F) (x:=λs H=>bG.tw F aa s H) (Lp:=λg y2 y3 s m i H=>bG.l29 F (bw.tw F) (aC.tw F) g y2 0 y3 0 s m i H) (λ_ _=>rfl) (λ_ _ _ _ _ _ _=>rfl) w0 f0 hF hl e1 e2
 refine ⟨_,H',t1,sa,sn,sc,slc ro,ro,rfl,?_,w1,s1,h1.ol⟩
 have h3:=(w1.ok _ List.mem_cons_self).1
 rw [ju,h1.len,Nat.mul_one] at h3
 exact h3.symm
def ba.Q (H0:Hp) (Ri R0:Bc)  (r:Bool) (v:AV) (H':Hp):Prop:=v=(.bool r)/\Out H0 Ri H' (R0) λR=>True
def ba.S29 (H0:Hp) (Ri R0:Bc)  (C:BH) (pC:List (List Int)->List (List Int)->Int->Int->Option (Bool)):Prop:=∀ {er pK dC mA es pL bD gK fw eo},∀ {H:Hp},dC=bD.length->mA=gK.length->(Out H0 Ri H R0 λR=>ROs (eSl eI) H R ⟨er,dC,es⟩ bD/\ROs (eSl eI) H R ⟨pK,mA,pL⟩ gK)->∀ {r:Bool},pC bD gK fw eo=some r->Rt (C ⟨er,dC,es⟩ ⟨pK,mA,pL⟩ fw eo H) (ba.Q H0 Ri R0  r)
def ba.pl29 (F:Nat) :Nat->List (List Int)->List (List Int)->Int->Int->Option (Bool)
 | 0,_,_,_,_=>none
 | k+1,bD,gK,fw,eo=>(bif (decide (eo<fw)) then ((ix gK eo).bind λn1=>(ix bD eo).bind λn2=>(aN.p F (gt gK n1) (gt bD n2)).bind λr3=>(bif (!r3) then (some false) else (ba.pl29 F k bD gK fw (wrap .i64 (eo+1))))) else (some true))
theorem ba.l29_P  :∀ k,ba.S29 H0 Ri R0  (ba.l29 F (aN.tw F)  k) (ba.pl29 F  k):=by
 intro k
 induction k with
 | zero=>unfold ba.S29;intros;rename_i hp;cases hp
 | succ k ih=>
  intro er pK dC mA es pL bD gK fw eo H ga ys h0 r hp
  obtain ⟨w0,s0,ey,ti⟩:=h0
  subst ga
  subst ys
  unfold ba.pl29 at hp
  unfold ba.l29
  refine aE hp (λhp=>?_) λhp=>?_
  ·obtain ⟨n1,g1,hp⟩:=af hp
   obtain ⟨p1,q1,i1,h1,j1⟩:=ROs.ixr ti rfl g1
   refine ah i1 ?_
   obtain ⟨⟨hZ,m1_0,c1_0⟩,rfl,f1_0⟩:=h1
   obtain rfl:m1_0=_:=f1_0.n
   refine ah (dt (j1 0 _ rfl)) ?_
   obtain ⟨n2,g2,hp⟩:=af hp
   obtain ⟨p2,q2,i2,h2,j2⟩:=ROs.ixr ey rfl g2
   refine ah i2 ?_
   obtain ⟨⟨qW,m2_0,c2_0⟩,rfl,f2_0⟩:=h2
   obtain rfl:m2_0=_:=f2_0.n
   refine ah (dt (j2 0 _ rfl)) ?_
   obtain ⟨r3,e3,hp⟩:=af hp
   refine aZ (aN.P rfl rfl ⟨w0,f1_0,f2_0⟩ e3) ?_
   rintro _ H4 ⟨rfl,w4,s4,_⟩
   refine br ?_
   refine aE hp (λhp=>?_) λhp=>?_
   ·exact ax hp ⟨rfl,w4,(s0.trans s4),trivial⟩
   ·exact ih rfl rfl ⟨w4,(s0.trans s4),(ey.step s4),(ti.step s4)⟩ hp
  ·exact ax hp ⟨rfl,w0,s0,trivial⟩
def ba.p (F:Nat) (ai:Bg) (bJ:Bg):Option (Bool):=(bif ((ai.length:Int) != (bJ.length:Int)) then (some false) else (ba.pl29 F F bJ ai (ai.length:Int) 0))
theorem ba.P {aI dq au ct aJ dr ai bJ} (bI:au=ai.length) (fz:ct=bJ.length) (h0:Inn H R0 λR=>ROs (eSl eI) H R ⟨aI,au,aJ⟩ ai/\ROs (eSl eI) H R ⟨dq,ct,dr⟩ bJ) {r:Bool} (hp:ba.p F ai bJ=some r):Rt (ba.tw F ⟨aI,au,aJ⟩ ⟨dq,ct,dr⟩ H) (ba.Q H R0 R0  r):=by
 obtain ⟨w0,bz,fA⟩:=h0
 subst bI
 subst fz
 unfold ba.p at hp
 unfold ba.tw ba.twX
 have s0:=w0.rf
 refine aE hp (λhp=>?_) λhp=>?_
 ·exact ax hp ⟨rfl,w0,s0,trivial⟩
 ·exact ba.l29_P F rfl rfl ⟨w0,s0,fA,bz⟩ hp
def cl.Q (H0:Hp) (Ri R0:Bc)  (r:Bool) (v:AV) (H':Hp):Prop:=v=(.bool r)/\Out H0 Ri H' (R0) λR=>True
def cl.p (F:Nat) (aa:Int) (az:Ba) (ak:Int) (bK:Ba):Option (Bool):=(cy.p F aa az).bind λr3=>(bif (!r3) then (some false) else ((cy.p F ak bK).bind λr6=>(bif (!r6) then (some false) else ((bif (aa != ak) then (some false) else ((bG.p F aa az).bind λr10=>(bG.p F ak bK).bind λr13=>(bif (r10.1==r13.1) then ((ba.p F r10.2 r13.2).bind λr25=>some r25) else (some false))))))))
theorem cl.P {aa ak bX eA bC dD bY eB az bK} (dn:bC=az.length) (gg:dD=bK.length) (h0:Inn H R0 λR=>ROs eI H R ⟨bX,bC,bY⟩ az/\ROs eI H R ⟨eA,dD,eB⟩ bK) {r:Bool} (hp:cl.p F aa az ak bK=some r):Rt (cl.tw F aa ⟨bX,bC,bY⟩ ak ⟨eA,dD,eB⟩ H) (cl.Q H R0 R0  r):=by
 obtain ⟨w0,cW,eC⟩:=h0
 subst dn
 subst gg
 unfold cl.p at hp
 unfold cl.tw cl.twX
 have s0:=w0.rf
 refine cu w0 λH1 w1 s1=>?_
 refine cu w1 λH2 w2 s2=>?_
 refine lI w2 1 ?_
 refine lSl w2 1 ?_
 obtain ⟨r3,e3,hp⟩:=af hp
 refine aZ (cy.P rfl ⟨w2,(cW.step (s1.trans s2))⟩ e3) ?_
 rintro _ H4 ⟨rfl,w4,s4,_⟩
 refine br ?_
 refine aE hp (λhp=>?_) λhp=>?_
 ·obtain ⟨w5,s5⟩:=w4.pp [] 2
  exact ax hp ⟨rfl,w5,(s0.trans (s1.trans (s2.trans (s4.trans s5)))),trivial⟩
 ·refine lI w4 0 ?_
  refine lSl w4 0 ?_
  obtain ⟨r6,e6,hp⟩:=af hp
  refine aZ (cy.P rfl ⟨w4,(eC.step (s1.trans (s2.trans s4)))⟩ e6) ?_
  rintro _ H7 ⟨rfl,w7,s7,_⟩
  refine br ?_
  refine aE hp (λhp=>?_) λhp=>?_
  ·obtain ⟨w8,s8⟩:=w7.pp [] 2
   exact ax hp ⟨rfl,w8,(s0.trans (s1.trans (s2.trans (s4.trans (s7.trans s8))))),trivial⟩
  ·refine lI w7 1 ?_
   refine lI w7 0 ?_
   refine aE hp (λhp=>?_) λhp=>?_
   ·obtain ⟨w9,s9⟩:=w7.pp [] 2
    exact ax hp ⟨rfl,w9,(s0.trans (s1.trans (s2.trans (s4.trans (s7.trans s9))))),trivial⟩
   ·refine lI w7 1 ?_
    refine lSl w7 1 ?_
    obtain ⟨r10,e10,hp⟩:=af hp
    refine aZ (bG.P rfl ⟨w7,(cW.step (s1.trans (s2.trans (s4.trans s7))))⟩ e10) ?_
    rintro _ H11 ⟨o1a_11,o1n_11,o1c_11,o1k_11,o1m_11,rfl,rfl,w11,s11,f11_0⟩
    refine br (br (br (br (br ?_))))
    refine fJ (W.cons_of (Rn:=[_,_]) w7 w11 s11) ?_
    refine lI w11 2 ?_
    refine lSl w11 2 ?_
    obtain ⟨r13,e13,hp⟩:=af hp
    refine aZ (bG.P rfl ⟨w11,(eC.step (s1.trans (s2.trans (s4.trans (s7.trans s11)))))⟩ e13) ?_
    rintro _ H14 ⟨o1a_14,o1n_14,o1c_14,o1k_14,o1m_14,rfl,rfl,w14,s14,f14_0⟩
    refine br (br (br (br (br ?_))))
    refine fJ (W.cons_of (Rn:=[_,_]) w11 w14 s14) ?_
    refine cu w14 λH16 w16 s16=>?_
    refine cu w16 λH17 w17 s17=>?_
    refine cv w17 1 λH18 w18 s18=>?_
    refine cv w18 1 λH19 w19 s19=>?_
    refine cv w19 0 λH20 w20 s20=>?_
    refine cv w20 0 λH21 w21 s21=>?_
    refine lI w21 1 ?_
    refine lI w21 0 ?_
    refine aE hp (λhp=>?_) λhp=>?_
    ·refine lSl w21 1 ?_
     refine lSl w21 0 ?_
     obtain ⟨w22,s22⟩:=w21.pp [4,5,2,3,0,1,6,7] 8
     dsimp only [pk,pks,nth,List.drop,List.set,List.eraseIdx] at w22 s18 s19 s20 s21 s22
     have f23:ROs (eSl eI) _ _ _ _:=W.borrow2 (oSl (cp eI)) w22 f11_0
     obtain ⟨w23,s23⟩:=w22.right2
     have f24:ROs (eSl eI) _ _ _ _:=W.borrow2 (oSl (cp eI)) w23 f14_0
     obtain ⟨w24,s24⟩:=w23.right2
     obtain ⟨r25,e25,hp⟩:=af hp
     refine aZ (ba.P rfl rfl ⟨w24,(f23.step s24),f24⟩ e25) ?_
     rintro _ H26 ⟨rfl,w26,s26,_⟩
     obtain ⟨w27,s27⟩:=W.frame2 w23 w26 s26
     obtain ⟨w28,s28⟩:=W.frame2 w22 w27 s27
     refine br ?_
     obtain ⟨w29,s29⟩:=w28.pp [] 8
     exact ax hp ⟨rfl,w29,(s0.trans (s1.trans (s2.trans (s4.trans (s7.trans (s11.trans (s14.trans (s16.trans (s17.trans (s18.trans (s19.trans (s20.trans (s21.trans (s22.trans (s28.trans s29))))))))))))))),trivial⟩
    ·obtain ⟨w30,s30⟩:=w21.pp [] 8
     exact ax hp ⟨rfl,w30,(s0.trans (s1.trans (s2.trans (s4.trans (s7.trans (s11.trans (s14.trans (s16.trans (s17.trans (s18.trans (s19.trans (s20.trans (s21.trans s30))))))))))))),trivial⟩
def bm.Q (H0:Hp) (Ri R0:Bc)  (r:Bool) (v:AV) (H':Hp):Prop:=v=(.bool r)/\Out H0 Ri H' (R0) λR=>True
def bm.S29 (H0:Hp) (Ri R0:Bc)  (C:BA) (pC:BL):Prop:=∀ {dc er cn dC dd es aM bD bg},∀ {H:Hp},cn=aM.length->dC=bD.length->(Out H0 Ri H R0 λR=>ROs eI H R ⟨dc,cn,dd⟩ aM/\ROs eI H R ⟨er,dC,es⟩ bD)->∀ {r:Bool},pC aM bD bg=some r->Rt (C ⟨dc,cn,dd⟩ ⟨er,dC,es⟩ bg H) (bm.Q H0 Ri R0  r)
def bm.pl29 (F:Nat) :Nat->List Int->List Int->Int->Option (Bool)
 | 0,_,_,_=>none
 | k+1,aM,bD,bg=>(bif (decide (bg<(aM.length:Int))) then ((ix aM bg).bind λn1=>(ix bD bg).bind λn2=>(bif ((gt aM n1) != (gt bD n2)) then (some false) else (bm.pl29 F k aM bD (wrap .i64 (bg+1))))) else (some true))
theorem bm.l29_P  :∀ k,bm.S29 H0 Ri R0  (bm.l29 F   k) (bm.pl29 F  k):=by
 intro k
 induction k with
 | zero=>unfold bm.S29;intros;rename_i hp;cases hp
 | succ k ih=>
  intro dc er cn dC dd es aM bD bg H eM ga h0 r hp
  obtain ⟨w0,s0,dp,ey⟩:=h0
  subst eM
  subst ga
  unfold bm.pl29 at hp
  unfold bm.l29
  refine aE hp (λhp=>?_) λhp=>?_
  ·obtain ⟨n1,g1,hp⟩:=af hp
   obtain ⟨p1,q1,i1,h1,j1⟩:=ROs.ixr dp rfl g1
   refine ah i1 ?_
   have h1:_=[_]:=h1
   subst h1
   refine ah (b_ (j1 0 _ rfl)) ?_
   obtain ⟨n2,g2,hp⟩:=af hp
   obtain ⟨p2,q2,i2,h2,j2⟩:=ROs.ixr ey rfl g2
   refine ah i2 ?_
   have h2:_=[_]:=h2
   subst h2
   refine ah (b_ (j2 0 _ rfl)) ?_
   refine aE hp (λhp=>?_) λhp=>?_
   ·exact ax hp ⟨rfl,w0,s0,trivial⟩
   ·exact ih rfl rfl ⟨w0,s0,dp,ey⟩ hp
  ·exact ax hp ⟨rfl,w0,s0,trivial⟩
def bm.p (F:Nat) (ai:Ba) (bJ:Ba):Option (Bool):=(bif ((ai.length:Int) != (bJ.length:Int)) then (some false) else (bm.pl29 F F ai bJ 0))
theorem bm.P {aI dq au ct aJ dr ai bJ} (bI:au=ai.length) (fz:ct=bJ.length) (h0:Inn H R0 λR=>ROs eI H R ⟨aI,au,aJ⟩ ai/\ROs eI H R ⟨dq,ct,dr⟩ bJ) {r:Bool} (hp:bm.p F ai bJ=some r):Rt (bm.tw F ⟨aI,au,aJ⟩ ⟨dq,ct,dr⟩ H) (bm.Q H R0 R0  r):=by
 obtain ⟨w0,bz,fA⟩:=h0
 subst bI
 subst fz
 unfold bm.p at hp
 unfold bm.tw bm.twX
 have s0:=w0.rf
 refine aE hp (λhp=>?_) λhp=>?_
 ·exact ax hp ⟨rfl,w0,s0,trivial⟩
 ·exact bm.l29_P F rfl rfl ⟨w0,s0,bz,fA⟩ hp
def cA.Q (H0:Hp) (Ri R0:Bc)  (r:Bool) (v:AV) (H':Hp):Prop:=v=(.bool r)/\Out H0 Ri H' (R0) λR=>True
def cA.p (F:Nat) (aa:Int) (az:Ba) (ak:Int) (bK:Ba):Option (Bool):=(bif (aa != ak) then (some false) else ((bm.p F az bK).bind λr4=>(bif (!r4) then (some false) else (some true))))
theorem cA.P {aa ak bX eA bC dD bY eB az bK} (dn:bC=az.length) (gg:dD=bK.length) (h0:Inn H R0 λR=>ROs eI H R ⟨bX,bC,bY⟩ az/\ROs eI H R ⟨eA,dD,eB⟩ bK) {r:Bool} (hp:cA.p F aa az ak bK=some r):Rt (cA.tw F aa ⟨bX,bC,bY⟩ ak ⟨eA,dD,eB⟩ H) (cA.Q H R0 R0  r):=by
 obtain ⟨w0,cW,eC⟩:=h0
 subst dn
 subst gg
 unfold cA.p at hp
 unfold cA.tw cA.twX
 have s0:=w0.rf
 refine cu w0 λH1 w1 s1=>?_
 refine cu w1 λH2 w2 s2=>?_
 refine lI w2 1 ?_
 refine lI w2 0 ?_
 refine aE hp (λhp=>?_) λhp=>?_
 ·obtain ⟨w3,s3⟩:=w2.pp [] 2
  exact ax hp ⟨rfl,w3,(s0.trans (s1.trans (s2.trans s3))),trivial⟩
 ·refine lSl w2 1 ?_
  refine lSl w2 0 ?_
  obtain ⟨r4,e4,hp⟩:=af hp
  refine aZ (bm.P rfl rfl ⟨w2,(cW.step (s1.trans s2)),(eC.step (s1.trans s2))⟩ e4) ?_
  rintro _ H5 ⟨rfl,w5,s5,_⟩
  refine br ?_
  refine aE hp (λhp=>?_) λhp=>?_
  ·obtain ⟨w6,s6⟩:=w5.pp [] 2
   exact ax hp ⟨rfl,w6,(s0.trans (s1.trans (s2.trans (s5.trans s6)))),trivial⟩
  ·obtain ⟨w7,s7⟩:=w5.pp [] 2
   exact ax hp ⟨rfl,w7,(s0.trans (s1.trans (s2.trans (s5.trans s7)))),trivial⟩
def ch.Q (H0:Hp) (Ri R0:Bc)  (r:Bool) (v:AV) (H':Hp):Prop:=v=(.bool r)/\Out H0 Ri H' (R0) λR=>True
def ch.p (F:Nat) (aa:Int) (az:Ba) (ak:Int) (bK:Ba):Option (Bool):=(cj.p F az 1048576).bind λr3=>(bif (decide (r3<0)) then (some true) else ((cj.p F bK r3).bind λr6=>(bif (decide (r6<0)) then (some true) else ((bQ.p F aa az).bind λr9=>(bQ.p F ak bK).bind λr12=>(ck.p F r9.1 r9.2 r12.1 r12.2).bind λr17=>(bQ.p F aa az).bind λr21=>(bQ.p F ak bK).bind λr26=>(cl.p F r21.1 r21.2 r26.1 r26.2).bind λr34=>(bif (!(r34==r17)) then (some false) else ((bQ.p F aa az).bind λr39=>(cA.p F r21.1 r21.2 r39.1 r39.2).bind λr45=>(bif (!r45) then (some false) else ((bQ.p F ak bK).bind λr50=>(cA.p F r26.1 r26.2 r50.1 r50.2).bind λr56=>(bif (!r56) then (some false) else (some true))))))))))
theorem ch.P {aa ak bX eA bC dD bY eB az bK} (dn:bC=az.length) (gg:dD=bK.length) (h0:Inn H R0 λR=>ROs eI H R ⟨bX,bC,bY⟩ az/\ROs eI H R ⟨eA,dD,eB⟩ bK) {r:Bool} (hp:ch.p F aa az ak bK=some r):Rt (ch.tw F aa ⟨bX,bC,bY⟩ ak ⟨eA,dD,eB⟩ H) (ch.Q H R0 R0  r):=by
 obtain ⟨w0,cW,eC⟩:=h0
 subst dn
 subst gg
 unfold ch.p at hp
 unfold ch.tw ch.twX
 have s0:=w0.rf
 refine cu w0 λH1 w1 s1=>?_
 refine cu w1 λH2 w2 s2=>?_
 refine lI w2 1 ?_
 refine lSl w2 1 ?_
 obtain ⟨r3,e3,hp⟩:=af hp
 refine aZ (cj.P rfl ⟨w2,(cW.step (s1.trans s2))⟩ e3) ?_
 rintro _ H4 ⟨rfl,w4,s4,_⟩
 refine br ?_
 refine aE hp (λhp=>?_) λhp=>?_
 ·obtain ⟨w5,s5⟩:=w4.pp [] 2
  exact ax hp ⟨rfl,w5,(s0.trans (s1.trans (s2.trans (s4.trans s5)))),trivial⟩
 ·refine lI w4 0 ?_
  refine lSl w4 0 ?_
  obtain ⟨r6,e6,hp⟩:=af hp
  refine aZ (cj.P rfl ⟨w4,(eC.step (s1.trans (s2.trans s4)))⟩ e6) ?_
  rintro _ H7 ⟨rfl,w7,s7,_⟩
  refine br ?_
  refine aE hp (λhp=>?_) λhp=>?_
  ·obtain ⟨w8,s8⟩:=w7.pp [] 2
   exact ax hp ⟨rfl,w8,(s0.trans (s1.trans (s2.trans (s4.trans (s7.trans s8))))),trivial⟩
  ·refine lI w7 1 ?_
   refine lSl w7 1 ?_
   obtain ⟨r9,e9,hp⟩:=af hp
   refine aZ (bQ.P rfl ⟨w7,(cW.step (s1.trans (s2.trans (s4.trans s7))))⟩ e9) ?_
   rintro _ H10 ⟨o1a_10,o1n_10,o1c_10,o1k_10,rfl,rfl,w10,s10,f10_0⟩
   refine br (br (br (br (br ?_))))
   refine fJ (W.cons_of (Rn:=[_]) w7 w10 s10) ?_
   refine lI w10 1 ?_
   refine lSl w10 1 ?_
   obtain ⟨r12,e12,hp⟩:=af hp
   refine aZ (bQ.P rfl ⟨w10,(eC.step (s1.trans (s2.trans (s4.trans (s7.trans s10)))))⟩ e12) ?_
   rintro _ H13 ⟨o1a_13,o1n_13,o1c_13,o1k_13,rfl,rfl,w13,s13,f13_0⟩
   refine br (br (br (br (br ?_))))
   obtain ⟨w14,s14⟩:=w13.pp [1,0,2,3] 4
   have f15:=W.borrow1 eI w14 (f10_0.step (s13.trans s14))
   obtain ⟨w15,s15⟩:=w14.right1
   have f16:=W.borrow1 eI w15 ((f13_0.step s14).step s15)
   obtain ⟨w16,s16⟩:=w15.right1
   obtain ⟨r17,e17,hp⟩:=af hp
   refine aZ (ck.P rfl rfl ⟨w16,(f15.step s16),f16⟩ e17) ?_
   rintro _ H18 ⟨rfl,w18,s18,_⟩
   obtain ⟨w19,s19⟩:=W.frame1 w15 w18 s18
   obtain ⟨w20,s20⟩:=W.frame1 w14 w19 s19
   refine br ?_
   refine lI w20 3 ?_
   refine lSl w20 3 ?_
   obtain ⟨r21,e21,hp⟩:=af hp
   refine aZ (bQ.P rfl ⟨w20,(cW.step (s1.trans (s2.trans (s4.trans (s7.trans (s10.trans (s13.trans (s14.trans s20))))))))⟩ e21) ?_
   rintro _ H22 ⟨o1a_22,o1n_22,o1c_22,o1k_22,rfl,rfl,w22,s22,f22_0⟩
   refine br (br (br (br (br ?_))))
   refine cu w22 λH23 w23 s23=>?_
   refine cv w23 0 λH24 w24 s24=>?_
   refine cv w24 0 λH25 w25 s25=>?_
   refine lI w25 4 ?_
   refine lSl w25 4 ?_
   obtain ⟨r26,e26,hp⟩:=af hp
   refine aZ (bQ.P rfl ⟨w25,(eC.step (s1.trans (s2.trans (s4.trans (s7.trans (s10.trans (s13.trans (s14.trans (s20.trans (s22.trans (s23.trans (s24.trans s25))))))))))))⟩ e26) ?_
   rintro _ H27 ⟨o1a_27,o1n_27,o1c_27,o1k_27,rfl,rfl,w27,s27,f27_0⟩
   refine br (br (br (br (br ?_))))
   refine cu w27 λH28 w28 s28=>?_
   refine cv w28 0 λH29 w29 s29=>?_
   refine cv w29 0 λH30 w30 s30=>?_
   refine lI w30 2 ?_
   refine lSl w30 2 ?_
   refine lI w30 0 ?_
   refine lSl w30 0 ?_
   obtain ⟨w31,s31⟩:=w30.pp [3,1,0,2,4,5,6,7] 8
   have f32:=W.borrow1 eI w31 (f22_0.step (s23.trans (s24.trans (s25.trans (s27.trans (s28.trans (s29.trans (s30.trans s31))))))))
   obtain ⟨w32,s32⟩:=w31.right1
   have f33:=W.borrow1 eI w32 ((f27_0.step (s28.trans (s29.trans (s30.trans s31)))).step s32)
   obtain ⟨w33,s33⟩:=w32.right1
   obtain ⟨r34,e34,hp⟩:=af hp
   refine aZ (cl.P rfl rfl ⟨w33,(f32.step s33),f33⟩ e34) ?_
   rintro _ H35 ⟨rfl,w35,s35,_⟩
   obtain ⟨w36,s36⟩:=W.frame1 w32 w35 s35
   obtain ⟨w37,s37⟩:=W.frame1 w31 w36 s36
   refine br ?_
   refine aE hp (λhp=>?_) λhp=>?_
   ·obtain ⟨w38,s38⟩:=w37.pp [] 8
    exact ax hp ⟨rfl,w38,(s0.trans (s1.trans (s2.trans (s4.trans (s7.trans (s10.trans (s13.trans (s14.trans (s20.trans (s22.trans (s23.trans (s24.trans (s25.trans (s27.trans (s28.trans (s29.trans (s30.trans (s31.trans (s37.trans s38))))))))))))))))))),trivial⟩
   ·refine lI w37 3 ?_
    refine lSl w37 3 ?_
    refine lI w37 7 ?_
    refine lSl w37 7 ?_
    obtain ⟨r39,e39,hp⟩:=af hp
    refine aZ (bQ.P rfl ⟨w37,(cW.step (s1.trans (s2.trans (s4.trans (s7.trans (s10.trans (s13.trans (s14.trans (s20.trans (s22.trans (s23.trans (s24.trans (s25.trans (s27.trans (s28.trans (s29.trans (s30.trans (s31.trans s37))))))))))))))))))⟩ e39) ?_
    rintro _ H40 ⟨o1a_40,o1n_40,o1c_40,o1k_40,rfl,rfl,w40,s40,f40_0⟩
    refine br (br (br (br (br ?_))))
    refine fJ (W.cons_of (Rn:=[_]) w37 w40 s40) ?_
    obtain ⟨w42,s42⟩:=w40.pp [1,0,2,3,4,5,6,7,8] 9
    have f43:=W.borrow1 eI w42 (f22_0.step (s23.trans (s24.trans (s25.trans (s27.trans (s28.trans (s29.trans (s30.trans (s31.trans (s37.trans (s40.trans s42)))))))))))
    obtain ⟨w43,s43⟩:=w42.right1
    have f44:=W.borrow1 eI w43 ((f40_0.step s42).step s43)
    obtain ⟨w44,s44⟩:=w43.right1
    obtain ⟨r45,e45,hp⟩:=af hp
    refine aZ (cA.P rfl rfl ⟨w44,(f43.step s44),f44⟩ e45) ?_
    rintro _ H46 ⟨rfl,w46,s46,_⟩
    obtain ⟨w47,s47⟩:=W.frame1 w43 w46 s46
    obtain ⟨w48,s48⟩:=W.frame1 w42 w47 s47
    refine br ?_
    refine aE hp (λhp=>?_) λhp=>?_
    ·obtain ⟨w49,s49⟩:=w48.pp [] 9
     exact ax hp ⟨rfl,w49,(s0.trans (s1.trans (s2.trans (s4.trans (s7.trans (s10.trans (s13.trans (s14.trans (s20.trans (s22.trans (s23.trans (s24.trans (s25.trans (s27.trans (s28.trans (s29.trans (s30.trans (s31.trans (s37.trans (s40.trans (s42.trans (s48.trans s49)))))))))))))))))))))),trivial⟩
    ·refine lI w48 3 ?_
     refine lSl w48 3 ?_
     refine lI w48 7 ?_
     refine lSl w48 7 ?_
     obtain ⟨r50,e50,hp⟩:=af hp
     refine aZ (bQ.P rfl ⟨w48,(eC.step (s1.trans (s2.trans (s4.trans (s7.trans (s10.trans (s13.trans (s14.trans (s20.trans (s22.trans (s23.trans (s24.trans (s25.trans (s27.trans (s28.trans (s29.trans (s30.trans (s31.trans (s37.trans (s40.trans (s42.trans s48)))))))))))))))))))))⟩ e50) ?_
     rintro _ H51 ⟨o1a_51,o1n_51,o1c_51,o1k_51,rfl,rfl,w51,s51,f51_0⟩
     refine br (br (br (br (br ?_))))
     refine fJ (W.cons_of (Rn:=[_]) w48 w51 s51) ?_
     obtain ⟨w53,s53⟩:=w51.pp [3,0,1,2,4,5,6,7,8,9] 10
     have f54:=W.borrow1 eI w53 (f27_0.step (s28.trans (s29.trans (s30.trans (s31.trans (s37.trans (s40.trans (s42.trans (s48.trans (s51.trans s53))))))))))
     obtain ⟨w54,s54⟩:=w53.right1
     have f55:=W.borrow1 eI w54 ((f51_0.step s53).step s54)
     obtain ⟨w55,s55⟩:=w54.right1
     obtain ⟨r56,e56,hp⟩:=af hp
     refine aZ (cA.P rfl rfl ⟨w55,(f54.step s55),f55⟩ e56) ?_
     rintro _ H57 ⟨rfl,w57,s57,_⟩
     obtain ⟨w58,s58⟩:=W.frame1 w54 w57 s57
     obtain ⟨w59,s59⟩:=W.frame1 w53 w58 s58
     refine br ?_
     refine aE hp (λhp=>?_) λhp=>?_
     ·obtain ⟨w60,s60⟩:=w59.pp [] 10
      dsimp only [pk,pks,nth,List.drop,List.set,List.eraseIdx] at w60 s14 s23 s24 s25 s28 s29 s30 s31 s42 s53 s60
      exact ax hp ⟨rfl,w60,(s0.trans (s1.trans (s2.trans (s4.trans (s7.trans (s10.trans (s13.trans (s14.trans (s20.trans (s22.trans (s23.trans (s24.trans (s25.trans (s27.trans (s28.trans (s29.trans (s30.trans (s31.trans (s37.trans (s40.trans (s42.trans (s48.trans (s51.trans (s53.trans (s59.trans s60))))))))))))))))))))))))),trivial⟩
     ·obtain ⟨w61,s61⟩:=w59.pp [] 10
      dsimp only [pk,pks,nth,List.drop,List.set,List.eraseIdx] at w61 s14 s23 s24 s25 s28 s29 s30 s31 s42 s53 s61
      exact ax hp ⟨rfl,w61,(s0.trans (s1.trans (s2.trans (s4.trans (s7.trans (s10.trans (s13.trans (s14.trans (s20.trans (s22.trans (s23.trans (s24.trans (s25.trans (s27.trans (s28.trans (s29.trans (s30.trans (s31.trans (s37.trans (s40.trans (s42.trans (s48.trans (s51.trans (s53.trans (s59.trans s61))))))))))))))))))))))))),trivial⟩
end
end Go.Proofs.Ytodfdhnlhiaohaa.AE
