import Derived.Test.YtodfdhnlhiaohaaT1
import Derived.Test.YtodfdhnlhiaohaaE2
set_option linter.unusedVariables false
set_option linter.unusedSimpArgs false
namespace Go.Proofs.Ytodfdhnlhiaohaa.AE
open Go Go.AE Go.Proofs IntKind
set_option linter.unusedVariables false
variable {F:Nat} {H H0:Hp} {Ri R0:Ba}
set_option maxHeartbeats 4000000
set_option maxRecDepth 100000
noncomputable section
def dK.Q (H0:Hp) (Ri R0:Ba)  (r:Int) (v:AV) (H':Hp):Prop:=v=(.i r)/\Out H0 Ri H' (R0) λR=>True
def dK.p (F:Nat) (ah:AZ) (ag:Int):Option (Int):=(bif (decide ((wrap .i64 (ag - (ah.length:Int)))<0)) then (some (-1)) else (some (wrap .i64 (ag - (ah.length:Int)))))
theorem dK.P {ay ak az ah ag} (bE:ak=ah.length) (h0:Inn H R0 λR=>ROs eI H R ⟨ay,ak,az⟩ ah) {r:Int} (hp:dK.p F ah ag=some r):Rt (dK.tw F ⟨ay,ak,az⟩ ag H) (dK.Q H R0 R0  r):=by
 obtain ⟨w0,bx⟩:=h0
 subst bE
 unfold dK.p at hp
 unfold dK.tw dK.twX
 have s0:=w0.rf
 refine aE hp (λhp=>?_) λhp=>?_
 ·exact aA hp ⟨rfl,w0,s0,trivial⟩
 ·exact aA hp ⟨rfl,w0,s0,trivial⟩
def cU.Q (H0:Hp) (Ri R0:Ba)  (r:Int) (v:AV) (H':Hp):Prop:=v=(.i r)/\Out H0 Ri H' (R0) λR=>True
def cU.p (F:Nat) (ax:AZ) (ar:Int):Option (Int):=(dK.p F ax ar).bind λr2=>(bif (decide (r2<0)) then (some (-1)) else (some r2))
theorem cU.P {aa ar bA aR bB ax} (cP:aR=ax.length) (h0:Inn H R0 λR=>ROs eI H R ⟨bA,aR,bB⟩ ax) {r:Int} (hp:cU.p F ax ar=some r):Rt (cU.tw F aa ⟨bA,aR,bB⟩ ar H) (cU.Q H R0 R0  r):=by
 obtain ⟨w0,cx⟩:=h0
 subst cP
 unfold cU.p at hp
 unfold cU.tw cU.twX
 have s0:=w0.rf
 refine cA w0 λH1 w1 s1=>?_
 refine lSl w1 0 ?_
 obtain ⟨r2,e2,hp⟩:=ae hp
 refine bd (dK.P rfl ⟨w1,(cx.step s1)⟩ e2) ?_
 rintro _ H3 ⟨rfl,w3,s3,_⟩
 refine br ?_
 refine aE hp (λhp=>?_) λhp=>?_
 ·obtain ⟨w4,s4⟩:=w3.pp [] 1
  exact aA hp ⟨rfl,w4,(s0.trans (s1.trans (s3.trans s4))),trivial⟩
 ·obtain ⟨w5,s5⟩:=w3.pp [] 1
  exact aA hp ⟨rfl,w5,(s0.trans (s1.trans (s3.trans s5))),trivial⟩
def bC.Q (H0:Hp) (Ri R0:Ba)  (r:AZ) (v:AV) (H':Hp):Prop:=∃ o0a:ON,∃ o0n:Nat,∃ o0c:Cap,∃ o0k:List AV,v=(.sl ⟨o0a,o0n,o0c⟩)/\o0n=(r).length/\Out H0 Ri H' (Rs.own ⟨o0a,o0n,o0c⟩ eI.z o0k::R0) λR=>CR eI H' R o0k (r)
def bC.S29 (H0:Hp) (Ri R0:Ba)  (C:Bz) (pC:BJ):Prop:=∀ {ce dN bK dl cf dO au bQ dP aL},∀ {H:Hp},bK=au.length->dl=bQ.length->(Out H0 Ri H (Rs.own ⟨dN,dl,dO⟩ eI.z dP::R0) λR=>ROs eI H R ⟨ce,bK,cf⟩ au/\CR eI H R dP bQ)->∀ {r:AZ},pC au bQ aL=some r->Rt (C ⟨ce,bK,cf⟩ ⟨dN,dl,dO⟩ aL H) (bC.Q H0 Ri R0  r)
def bC.pl29 (F:Nat) :Nat->List Int->List Int->Int->Option (List Int)
 | 0,_,_,_=>none
 | k+1,au,bQ,aL=>(bif (decide (aL<(au.length:Int))) then ((ix au aL).bind λn1=>(ix bQ aL).bind λn2=>(some (bQ.set n2 (gt au n1))).bind λl3=>bC.pl29 F k au l3 (wrap .i64 (aL+1))) else (some bQ))
theorem bC.l29_P  :∀ k,bC.S29 H0 Ri R0  (bC.l29 F   k) (bC.pl29 F  k):=by
 intro k
 induction k with
 | zero=>unfold bC.S29;intros;rename_i hp;cases hp
 | succ k ih=>
  intro ce dN bK dl cf dO au bQ dP aL H dC gg h0 r hp
  obtain ⟨w0,s0,ch,ec⟩:=h0
  subst dC
  subst gg
  unfold bC.pl29 at hp
  unfold bC.l29
  refine aE hp (λhp=>?_) λhp=>?_
  ·obtain ⟨n1,g1,hp⟩:=ae hp
   obtain ⟨p1,q1,i1,h1,j1⟩:=ROs.ixr ch rfl g1
   refine ai i1 ?_
   have h1:_=[_]:=h1
   subst h1
   refine ai (ck (j1 0 _ rfl)) ?_
   obtain ⟨n2,g2,hp⟩:=ae hp
   obtain ⟨p2,q2,i2,h2,j2⟩:=W.ixo (E:=eI) w0 (i:=0) rfl rfl ec g2
   refine ai i2 ?_
   obtain ⟨l3,e3,hp⟩:=ae hp
   refine eM eI w0 (i:=0) (j:=0) (p:=p2) rfl rfl ec g2 i2 e3 rfl rfl (λ_ h=>by have h:_=[_]:=h;subst h;exact rfl) λH4 k4 w4 s4 c4=>?_
   exact ih rfl ((ef e3).symm) ⟨w4,(s0.trans s4),(ch.step s4),c4⟩ hp
  ·exact aA hp ⟨_,_,_,_,rfl,rfl,w0,s0,ec⟩
def bC.p (F:Nat) (ah:AZ):Option (List Int):=(mkn (ah.length:Int) (0:Int)).bind λl1=>bC.pl29 F F ah l1 0
theorem bC.P {ay ak az ah} (bE:ak=ah.length) (h0:Inn H R0 λR=>ROs eI H R ⟨ay,ak,az⟩ ah) {r:AZ} (hp:bC.p F ah=some r):Rt (bC.tw F ⟨ay,ak,az⟩ H) (bC.Q H R0 R0  r):=by
 obtain ⟨w0,bx⟩:=h0
 subst bE
 unfold bC.p at hp
 unfold bC.tw bC.twX
 have s0:=w0.rf
 obtain ⟨l1,e1,hp⟩:=ae hp
 refine mK eI (0:Int) w0 rfl rfl rfl e1 λH2 k2 w2 s2 c2=>?_
 exact bC.l29_P F rfl rfl ⟨w2,(s0.trans s2),(bx.step s2),c2⟩ hp
def cv.Q (H0:Hp) (Ri R0:Ba)  (r:Bs) (v:AV) (H':Hp):Prop:=∃ o1a:ON,∃ o1n:Nat,∃ o1c:Cap,∃ o1k:List AV,v=(.agg [(.i r.1),(.sl ⟨o1a,o1n,o1c⟩)])/\o1n=(r.2).length/\Out H0 Ri H' (Rs.own ⟨o1a,o1n,o1c⟩ eI.z o1k::R0) λR=>CR eI H' R o1k (r.2)
def cv.p (F:Nat) (aa:Int) (ax:AZ):Option (Int×List Int):=(bC.p F ax).bind λr5=>some (aa,r5)
theorem cv.P {aa bA aR bB ax} (cP:aR=ax.length) (h0:Inn H R0 λR=>ROs eI H R ⟨bA,aR,bB⟩ ax) {r:Bs} (hp:cv.p F aa ax=some r):Rt (cv.tw F aa ⟨bA,aR,bB⟩ H) (cv.Q H R0 R0  r):=by
 obtain ⟨w0,cx⟩:=h0
 subst cP
 unfold cv.p at hp
 unfold cv.tw cv.twX
 have s0:=w0.rf
 refine cA w0 λH1 w1 s1=>?_
 refine cA w1 λH2 w2 s2=>?_
 refine cA w2 λH3 w3 s3=>?_
 refine lI w3 2 ?_
 refine b_ w3 0 λH4 w4 s4=>?_
 refine lSl w4 2 ?_
 obtain ⟨r5,e5,hp⟩:=ae hp
 refine bd (bC.P rfl ⟨w4,(cx.step (s1.trans (s2.trans (s3.trans s4))))⟩ e5) ?_
 rintro _ H6 ⟨o0a_6,o0n_6,o0c_6,o0k_6,rfl,rfl,w6,s6,f6_0⟩
 refine br ?_
 refine b_ w6 1 λH7 w7 s7=>?_
 refine lI w7 1 ?_
 refine lSl w7 1 ?_
 refine b_ w7 2 λH8 w8 s8=>?_
 refine b_ w8 2 λH9 w9 s9=>?_
 refine lI w9 2 ?_
 refine lSl w9 2 ?_
 obtain ⟨w10,s10⟩:=w9.pp [0] 4
 exact aA hp ⟨_,_,_,_,rfl,rfl,w10,(s0.trans (s1.trans (s2.trans (s3.trans (s4.trans (s6.trans (s7.trans (s8.trans (s9.trans s10))))))))),(f6_0.step (s7.trans (s8.trans (s9.trans s10))))⟩
def cB.Q (H0:Hp) (Ri R0:Ba)  (r:Bool) (v:AV) (H':Hp):Prop:=v=(.bool r)/\Out H0 Ri H' (R0) λR=>True
def cB.p (F:Nat) (aa:Int) (ag:Int) (dR:Int):Option (Bool):=(bif (decide (aa>=ag)) then (some (decide (aa<=dR))) else (some false))
theorem cB.P {aa ag dR}  (h0:Inn H R0 λR=>True) {r:Bool} (hp:cB.p F aa ag dR=some r):Rt (cB.tw F aa ag dR H) (cB.Q H R0 R0  r):=by
 obtain ⟨w0,_⟩:=h0
 unfold cB.p at hp
 unfold cB.tw cB.twX
 have s0:=w0.rf
 refine aE hp (λhp=>?_) λhp=>?_
 ·exact aA hp ⟨rfl,w0,s0,trivial⟩
 ·exact aA hp ⟨rfl,w0,s0,trivial⟩
def cI.Q (H0:Hp) (Ri R0:Ba)  (r:Bool) (v:AV) (H':Hp):Prop:=v=(.bool r)/\Out H0 Ri H' (R0) λR=>True
def cI.p (F:Nat) (aa:Int) (ag:Int):Option (Bool):=(bif (aa != 0) then ((cB.p F aa (wrap .i64 (1 - ag)) (wrap .i64 (ag - 1))).bind λr1=>some r1) else (some false))
theorem cI.P {aa ag}  (h0:Inn H R0 λR=>True) {r:Bool} (hp:cI.p F aa ag=some r):Rt (cI.tw F aa ag H) (cI.Q H R0 R0  r):=by
 obtain ⟨w0,_⟩:=h0
 unfold cI.p at hp
 unfold cI.tw cI.twX
 have s0:=w0.rf
 refine aE hp (λhp=>?_) λhp=>?_
 ·obtain ⟨r1,e1,hp⟩:=ae hp
  refine bd (cB.P ⟨w0,trivial⟩ e1) ?_
  rintro _ H2 ⟨rfl,w2,s2,_⟩
  refine br ?_
  exact aA hp ⟨rfl,w2,(s0.trans s2),trivial⟩
 ·exact aA hp ⟨rfl,w0,s0,trivial⟩
def aY.Q (H0:Hp) (Ri R0:Ba)  (r:Bool) (v:AV) (H':Hp):Prop:=v=(.bool r)/\Out H0 Ri H' (R0) λR=>True
def aY.S29 (H0:Hp) (Ri R0:Ba)  (C:Bk) (pC:Int->List Int->Int->Option (Bool)):Prop:=∀ {jw dL nm lU du nn gh},∀ {H:Hp},lU=gh.length->(Out H0 Ri H (Rs.blk du [.i jw,.sl ⟨nm,lU,nn⟩]::R0) λR=>ROs eI H R ⟨nm,lU,nn⟩ gh)->∀ {r:Bool},pC jw gh dL=some r->Rt (C du 0 dL H) (aY.Q H0 Ri R0  r)
def aY.pl29 (F:Nat) :Nat->Int->List Int->Int->Option (Bool)
 | 0,_,_,_=>none
 | k+1,jw,gh,dL=>(bif (decide (dL<(gh.length:Int))) then ((ix gh dL).bind λn1=>(cI.p F (gt gh n1) jw).bind λr2=>(bif (!r2) then (some false) else (aY.pl29 F k jw gh (wrap .i64 (dL+1))))) else (some true))
theorem aY.l29_P  :∀ k,aY.S29 H0 Ri R0  (aY.l29 F (cB.tw F) (cI.tw F)  k) (aY.pl29 F  k):=by
 intro k
 induction k with
 | zero=>unfold aY.S29;intros;rename_i hp;cases hp
 | succ k ih=>
  intro jw dL nm lU du nn gh H wj h0 r hp
  obtain ⟨w0,s0,qB⟩:=h0
  subst wj
  unfold aY.pl29 at hp
  unfold aY.l29
  refine lSl w0 0 ?_
  refine aE hp (λhp=>?_) λhp=>?_
  ·refine lSl w0 0 ?_
   obtain ⟨n1,g1,hp⟩:=ae hp
   obtain ⟨p1,q1,i1,h1,j1⟩:=ROs.ixr qB rfl g1
   refine ai i1 ?_
   have h1:_=[_]:=h1
   subst h1
   refine ai (ck (j1 0 _ rfl)) ?_
   refine lI w0 0 ?_
   obtain ⟨r2,e2,hp⟩:=ae hp
   refine bd (cI.P ⟨w0,trivial⟩ e2) ?_
   rintro _ H3 ⟨rfl,w3,s3,_⟩
   refine br ?_
   refine aE hp (λhp=>?_) λhp=>?_
   ·obtain ⟨w4,s4⟩:=w3.pp [] 1
    exact aA hp ⟨rfl,w4,(s0.trans (s3.trans s4)),trivial⟩
   ·exact ih rfl ⟨w3,(s0.trans s3),(qB.step s3)⟩ hp
  ·obtain ⟨w5,s5⟩:=w0.pp [] 1
   exact aA hp ⟨rfl,w5,(s0.trans s5),trivial⟩
def aY.p (F:Nat) (aa:Int) (ax:AZ):Option (Bool):=(cB.p F aa 1 6).bind λr2=>(bif (!r2) then (some false) else ((bif (decide ((ax.length:Int)>24)) then (some false) else (aY.pl29 F F aa ax 0))))
theorem aY.P {aa bA aR bB ax} (cP:aR=ax.length) (h0:Inn H R0 λR=>ROs eI H R ⟨bA,aR,bB⟩ ax) {r:Bool} (hp:aY.p F aa ax=some r):Rt (aY.tw F aa ⟨bA,aR,bB⟩ H) (aY.Q H R0 R0  r):=by
 obtain ⟨w0,cx⟩:=h0
 subst cP
 unfold aY.p at hp
 unfold aY.tw aY.twX
 have s0:=w0.rf
 refine cA w0 λH1 w1 s1=>?_
 refine lI w1 0 ?_
 obtain ⟨r2,e2,hp⟩:=ae hp
 refine bd (cB.P ⟨w1,trivial⟩ e2) ?_
 rintro _ H3 ⟨rfl,w3,s3,_⟩
 refine br ?_
 refine aE hp (λhp=>?_) λhp=>?_
 ·obtain ⟨w4,s4⟩:=w3.pp [] 1
  exact aA hp ⟨rfl,w4,(s0.trans (s1.trans (s3.trans s4))),trivial⟩
 ·refine lSl w3 0 ?_
  refine aE hp (λhp=>?_) λhp=>?_
  ·obtain ⟨w5,s5⟩:=w3.pp [] 1
   exact aA hp ⟨rfl,w5,(s0.trans (s1.trans (s3.trans s5))),trivial⟩
  ·exact aY.l29_P F rfl ⟨w3,(s0.trans (s1.trans s3)),(cx.step (s1.trans s3))⟩ hp
def aW.Q (H0:Hp) (Ri R0:Ba)  (r:AZ) (v:AV) (H':Hp):Prop:=∃ o0a:ON,∃ o0n:Nat,∃ o0c:Cap,∃ o0k:List AV,v=(.sl ⟨o0a,o0n,o0c⟩)/\o0n=(r).length/\Out H0 Ri H' (Rs.own ⟨o0a,o0n,o0c⟩ eI.z o0k::R0) λR=>CR eI H' R o0k (r)
def aW.S29 (H0:Hp) (Ri R0:Ba)  (C:Bi) (pC:BK):Prop:=∀ {aw aL dN dl dO bQ dP},∀ {H:Hp},dl=bQ.length->(Out H0 Ri H (Rs.own ⟨dN,dl,dO⟩ eI.z dP::R0) λR=>CR eI H R dP bQ)->∀ {r:AZ},pC aw bQ aL=some r->Rt (C aw ⟨dN,dl,dO⟩ aL H) (aW.Q H0 Ri R0  r)
def aW.pl29 (F:Nat) :Nat->Int->List Int->Int->Option (List Int)
 | 0,_,_,_=>none
 | k+1,aw,bQ,aL=>(bif (decide (aL<aw)) then ((apn bQ ([aL]:List Int)).bind λl2=>aW.pl29 F k aw l2 (wrap .i64 (aL+1))) else (some bQ))
theorem aW.l29_P  :∀ k,aW.S29 H0 Ri R0  (aW.l29 F   k) (aW.pl29 F  k):=by
 intro k
 induction k with
 | zero=>unfold aW.S29;intros;rename_i hp;cases hp
 | succ k ih=>
  intro aw aL dN dl dO bQ dP H gg h0 r hp
  obtain ⟨w0,s0,ec⟩:=h0
  subst gg
  unfold aW.pl29 at hp
  unfold aW.l29
  refine aE hp (λhp=>?_) λhp=>?_
  ·refine eg eI w0 (n:=1) (l:=([aL]:List Int)) rfl (CR.cons1 rfl CR.empty) rfl λH1 w1 s1 c1=>?_
   refine ai (w1.rowo (i:=0) rfl) ?_
   obtain ⟨l2,e2,hp⟩:=ae hp
   refine fk eI w1 (i:=1) rfl rfl (ec.step s1) c1 (show 1=List.length ([aL]:List Int) from rfl) rfl e2 λa3 d3 H3 w3 s3 c3 x3=>?_
   obtain ⟨w4,s4⟩:=w3.pp [1] 2
   exact ih rfl ⟨w4,(s0.trans (s1.trans (s3.trans s4))),(c3.step s4)⟩ hp
  ·exact aA hp ⟨_,_,_,_,rfl,rfl,w0,s0,ec⟩
def aW.p (F:Nat) (aa:Int):Option (List Int):=aW.pl29 F F aa ([]:List Int) 0
theorem aW.P {aa}  (h0:Inn H R0 λR=>True) {r:AZ} (hp:aW.p F aa=some r):Rt (aW.tw F aa H) (aW.Q H R0 R0  r):=by
 obtain ⟨w0,_⟩:=h0
 unfold aW.p at hp
 unfold aW.tw aW.twX
 have s0:=w0.rf
 refine eg eI w0 (n:=0) (l:=([]:List Int)) rfl CR.empty rfl λH1 w1 s1 c1=>?_
 exact aW.l29_P F (show 0=List.length ([]:List Int) from rfl) ⟨w1,(s0.trans s1),c1⟩ hp
def ap.Q (H0:Hp) (Ri R0:Ba)  (r:AZ) (v:AV) (H':Hp):Prop:=∃ o0a:ON,∃ o0n:Nat,∃ o0c:Cap,∃ o0k:List AV,v=(.sl ⟨o0a,o0n,o0c⟩)/\o0n=(r).length/\Out H0 Ri H' (Rs.own ⟨o0a,o0n,o0c⟩ eI.z o0k::R0) λR=>CR eI H' R o0k (r)
def ap.S29 (H0:Hp) (Ri R0:Ba)  (C:Bp) (pC:Bt):Prop:=∀ {hP np gi lV hQ nq dh gj cW dM nr},∀ {H:Hp},gi=dh.length->lV=gj.length->(Out H0 Ri H (Rs.own ⟨np,lV,nq⟩ eI.z nr::R0) λR=>ROs eI H R ⟨hP,gi,hQ⟩ dh/\CR eI H R nr gj)->∀ {r:AZ},pC dh cW gj dM=some r->Rt (C ⟨hP,gi,hQ⟩ cW ⟨np,lV,nq⟩ dM H) (ap.Q H0 Ri R0  r)
def ap.pj4 (F:Nat) (bY:Bt) (ka:AZ) (ir:Int) (kb:AZ) (iu:Int):Option (List Int):=bY ka ir kb (wrap .i64 (iu+1))
theorem ap.j4_P  {C29_:Bp} {bY:Bt} (hC29:ap.S29 H0 Ri R0  C29_ bY) {qC qD ns nu qE qF ka kb ir iu qG} (wk:ns=ka.length) (wl:nu=kb.length) (h0:Out H0 Ri H (Rs.own ⟨qD,nu,qF⟩ eI.z qG::R0) λR=>ROs eI H R ⟨qC,ns,qE⟩ ka/\CR eI H R qG kb) {r:AZ} (hp:ap.pj4 F bY ka ir kb iu=some r):Rt (ap.j4 F  C29_ ⟨qC,ns,qE⟩ ir ⟨qD,nu,qF⟩ iu H) (ap.Q H0 Ri R0  r):=by
 obtain ⟨w0,s0,wo,wq⟩:=h0
 subst wk
 subst wl
 unfold ap.pj4 at hp
 unfold ap.j4
 exact hC29 rfl rfl ⟨w0,s0,wo,wq⟩ hp
def ap.pj5 (F:Nat) (bY:Bt) (kc:AZ) (iw:Int) (kd:AZ) (iy:Int):Option (List Int):=bY kc iw kd (wrap .i64 (iy+1))
theorem ap.j5_P  {C29_:Bp} {bY:Bt} (hC29:ap.S29 H0 Ri R0  C29_ bY) {qH qI nv nw qJ qK kc kd iw iy qL} (wt:nv=kc.length) (wu:nw=kd.length) (h0:Out H0 Ri H (Rs.own ⟨qI,nw,qK⟩ eI.z qL::R0) λR=>ROs eI H R ⟨qH,nv,qJ⟩ kc/\CR eI H R qL kd) {r:AZ} (hp:ap.pj5 F bY kc iw kd iy=some r):Rt (ap.j5 F  C29_ ⟨qH,nv,qJ⟩ iw ⟨qI,nw,qK⟩ iy H) (ap.Q H0 Ri R0  r):=by
 obtain ⟨w0,s0,wv,ww⟩:=h0
 subst wt
 subst wu
 unfold ap.pj5 at hp
 unfold ap.j5
 exact hC29 rfl rfl ⟨w0,s0,wv,ww⟩ hp
def ap.pj6 (F:Nat) (bY:Bt) (ke:AZ) (iz:Int) (kf:AZ) (iA:Int):Option (List Int):=ap.pj5 F bY ke iz kf iA
theorem ap.j6_P  {C29_:Bp} {bY:Bt} (hC29:ap.S29 H0 Ri R0  C29_ bY) {qM qN nx ny qO qP ke kf iz iA qQ} (wx:nx=ke.length) (wy:ny=kf.length) (h0:Out H0 Ri H (Rs.own ⟨qN,ny,qP⟩ eI.z qQ::R0) λR=>ROs eI H R ⟨qM,nx,qO⟩ ke/\CR eI H R qQ kf) {r:AZ} (hp:ap.pj6 F bY ke iz kf iA=some r):Rt (ap.j6 F  C29_ ⟨qM,nx,qO⟩ iz ⟨qN,ny,qP⟩ iA H) (ap.Q H0 Ri R0  r):=by
 obtain ⟨w0,s0,wz,wA⟩:=h0
 subst wx
 subst wy
 unfold ap.pj6 at hp
 unfold ap.j6
 exact ap.j5_P (@hC29) rfl rfl ⟨w0,s0,wz,wA⟩ hp
def ap.pl29 (F:Nat) :Nat->List Int->Int->List Int->Int->Option (List Int)
 | 0,_,_,_,_=>none
 | k+1,dh,cW,gj,dM=>(bif (decide (dM<(dh.length:Int))) then ((ix dh dM).bind λn1=>(bif ((gt dh n1)==(wrap .i64 (cW - 1))) then ((apn gj ([cW]:List Int)).bind λl3=>ap.pj4 F (ap.pl29 F k) dh cW l3 dM) else ((bif ((gt dh n1)==cW) then ((apn gj ([(wrap .i64 (cW - 1))]:List Int)).bind λl7=>ap.pj6 F (ap.pl29 F k) dh cW l7 dM) else ((ix dh dM).bind λn10=>(apn gj ([(gt dh n10)]:List Int)).bind λl12=>ap.pj6 F (ap.pl29 F k) dh cW l12 dM))))) else (some gj))
theorem ap.l29_P  :∀ k,ap.S29 H0 Ri R0  (ap.l29 F   k) (ap.pl29 F  k):=by
 intro k
 induction k with
 | zero=>unfold ap.S29;intros;rename_i hp;cases hp
 | succ k ih=>
  intro hP np gi lV hQ nq dh gj cW dM nr H nz wB h0 r hp
  obtain ⟨w0,s0,gF,lW⟩:=h0
  subst nz
  subst wB
  unfold ap.pl29 at hp
  unfold ap.l29
  refine aE hp (λhp=>?_) λhp=>?_
  ·obtain ⟨n1,g1,hp⟩:=ae hp
   obtain ⟨p1,q1,i1,h1,j1⟩:=ROs.ixr gF rfl g1
   refine ai i1 ?_
   have h1:_=[_]:=h1
   subst h1
   refine ai (ck (j1 0 _ rfl)) ?_
   refine aE hp (λhp=>?_) λhp=>?_
   ·refine eg eI w0 (n:=1) (l:=([cW]:List Int)) rfl (CR.cons1 rfl CR.empty) rfl λH2 w2 s2 c2=>?_
    refine ai (w2.rowo (i:=0) rfl) ?_
    obtain ⟨l3,e3,hp⟩:=ae hp
    refine fk eI w2 (i:=1) rfl rfl (lW.step s2) c2 (show 1=List.length ([cW]:List Int) from rfl) rfl e3 λa4 d4 H4 w4 s4 c4 x4=>?_
    obtain ⟨w5,s5⟩:=w4.pp [1] 2
    exact ap.j4_P (@ih) rfl rfl ⟨w5,(s0.trans (s2.trans (s4.trans s5))),(gF.step (s2.trans (s4.trans s5))),(c4.step s5)⟩ hp
   ·refine aE hp (λhp=>?_) λhp=>?_
    ·refine eg eI w0 (n:=1) (l:=([(wrap .i64 (cW - 1))]:List Int)) rfl (CR.cons1 rfl CR.empty) rfl λH6 w6 s6 c6=>?_
     refine ai (w6.rowo (i:=0) rfl) ?_
     obtain ⟨l7,e7,hp⟩:=ae hp
     refine fk eI w6 (i:=1) rfl rfl (lW.step s6) c6 (show 1=List.length ([(wrap .i64 (cW - 1))]:List Int) from rfl) rfl e7 λa8 d8 H8 w8 s8 c8 x8=>?_
     obtain ⟨w9,s9⟩:=w8.pp [1] 2
     exact ap.j6_P (@ih) rfl rfl ⟨w9,(s0.trans (s6.trans (s8.trans s9))),(gF.step (s6.trans (s8.trans s9))),(c8.step s9)⟩ hp
    ·obtain ⟨n10,g10,hp⟩:=ae hp
     obtain ⟨p10,q10,i10,h10,j10⟩:=ROs.ixr gF rfl g10
     refine ai i10 ?_
     have h10:_=[_]:=h10
     subst h10
     refine ai (ck (j10 0 _ rfl)) ?_
     refine eg eI w0 (n:=1) (l:=([(gt dh n10)]:List Int)) rfl (CR.cons1 rfl CR.empty) rfl λH11 w11 s11 c11=>?_
     refine ai (w11.rowo (i:=0) rfl) ?_
     obtain ⟨l12,e12,hp⟩:=ae hp
     refine fk eI w11 (i:=1) rfl rfl (lW.step s11) c11 (show 1=List.length ([(gt dh n10)]:List Int) from rfl) rfl e12 λa13 d13 H13 w13 s13 c13 x13=>?_
     obtain ⟨w14,s14⟩:=w13.pp [1] 2
     exact ap.j6_P (@ih) rfl rfl ⟨w14,(s0.trans (s11.trans (s13.trans s14))),(gF.step (s11.trans (s13.trans s14))),(c13.step s14)⟩ hp
  ·exact aA hp ⟨_,_,_,_,rfl,rfl,w0,s0,lW⟩
def ap.p (F:Nat) (ah:AZ) (ag:Int):Option (List Int):=ap.pl29 F F ah ag ([]:List Int) 0
theorem ap.P {ay ak az ah ag} (bE:ak=ah.length) (h0:Inn H R0 λR=>ROs eI H R ⟨ay,ak,az⟩ ah) {r:AZ} (hp:ap.p F ah ag=some r):Rt (ap.tw F ⟨ay,ak,az⟩ ag H) (ap.Q H R0 R0  r):=by
 obtain ⟨w0,bx⟩:=h0
 subst bE
 unfold ap.p at hp
 unfold ap.tw ap.twX
 have s0:=w0.rf
 refine eg eI w0 (n:=0) (l:=([]:List Int)) rfl CR.empty rfl λH1 w1 s1 c1=>?_
 exact ap.l29_P F rfl (show 0=List.length ([]:List Int) from rfl) ⟨w1,(s0.trans s1),(bx.step s1),c1⟩ hp
def aZ.Q (H0:Hp) (Ri R0:Ba)  (r:AZ) (v:AV) (H':Hp):Prop:=∃ o0a:ON,∃ o0n:Nat,∃ o0c:Cap,∃ o0k:List AV,v=(.sl ⟨o0a,o0n,o0c⟩)/\o0n=(r).length/\Out H0 Ri H' (Rs.own ⟨o0a,o0n,o0c⟩ eI.z o0k::R0) λR=>CR eI H' R o0k (r)
def aZ.S61 (H0:Hp) (Ri R0:Ba)  (C:Bp) (pC:Bt):Prop:=∀ {ce nA bK lX cf nB au hR bG aM nC},∀ {H:Hp},bK=au.length->lX=hR.length->(Out H0 Ri H (Rs.own ⟨nA,lX,nB⟩ eI.z nC::R0) λR=>ROs eI H R ⟨ce,bK,cf⟩ au/\CR eI H R nC hR)->∀ {r:AZ},pC au bG hR aM=some r->Rt (C ⟨ce,bK,cf⟩ bG ⟨nA,lX,nB⟩ aM H) (aZ.Q H0 Ri R0  r)
def aZ.pl61 (F:Nat) :Nat->List Int->Int->List Int->Int->Option (List Int)
 | 0,_,_,_,_=>none
 | k+1,au,bG,hR,aM=>(bif (decide (aM<bG)) then ((ix au (wrap .i64 ((wrap .i64 (bG - 1)) - aM))).bind λn1=>(apn hR ([(wrap .i64 ((wrap .i64 (bG - 1)) - (gt au n1)))]:List Int)).bind λl3=>aZ.pl61 F k au bG l3 (wrap .i64 (aM+1))) else (some hR))
theorem aZ.l61_P  :∀ k,aZ.S61 H0 Ri R0  (aZ.l61 F   k) (aZ.pl61 F  k):=by
 intro k
 induction k with
 | zero=>unfold aZ.S61;intros;rename_i hp;cases hp
 | succ k ih=>
  intro ce nA bK lX cf nB au hR bG aM nC H dC wC h0 r hp
  obtain ⟨w0,s0,ch,qR⟩:=h0
  subst dC
  subst wC
  unfold aZ.pl61 at hp
  unfold aZ.l61
  refine aE hp (λhp=>?_) λhp=>?_
  ·obtain ⟨n1,g1,hp⟩:=ae hp
   obtain ⟨p1,q1,i1,h1,j1⟩:=ROs.ixr ch rfl g1
   refine ai i1 ?_
   have h1:_=[_]:=h1
   subst h1
   refine ai (ck (j1 0 _ rfl)) ?_
   refine eg eI w0 (n:=1) (l:=([(wrap .i64 ((wrap .i64 (bG - 1)) - (gt au n1)))]:List Int)) rfl (CR.cons1 rfl CR.empty) rfl λH2 w2 s2 c2=>?_
   refine ai (w2.rowo (i:=0) rfl) ?_
   obtain ⟨l3,e3,hp⟩:=ae hp
   refine fk eI w2 (i:=1) rfl rfl (qR.step s2) c2 (show 1=List.length ([(wrap .i64 ((wrap .i64 (bG - 1)) - (gt au n1)))]:List Int) from rfl) rfl e3 λa4 d4 H4 w4 s4 c4 x4=>?_
   obtain ⟨w5,s5⟩:=w4.pp [1] 2
   exact ih rfl rfl ⟨w5,(s0.trans (s2.trans (s4.trans s5))),(ch.step (s2.trans (s4.trans s5))),(c4.step s5)⟩ hp
  ·exact aA hp ⟨_,_,_,_,rfl,rfl,w0,s0,qR⟩
def aZ.p (F:Nat) (ah:AZ):Option (List Int):=aZ.pl61 F F ah (ah.length:Int) ([]:List Int) 0
theorem aZ.P {ay ak az ah} (bE:ak=ah.length) (h0:Inn H R0 λR=>ROs eI H R ⟨ay,ak,az⟩ ah) {r:AZ} (hp:aZ.p F ah=some r):Rt (aZ.tw F ⟨ay,ak,az⟩ H) (aZ.Q H R0 R0  r):=by
 obtain ⟨w0,bx⟩:=h0
 subst bE
 unfold aZ.p at hp
 unfold aZ.tw aZ.twX
 have s0:=w0.rf
 refine eg eI w0 (n:=0) (l:=([]:List Int)) rfl CR.empty rfl λH1 w1 s1 c1=>?_
 exact aZ.l61_P F rfl (show 0=List.length ([]:List Int) from rfl) ⟨w1,(s0.trans s1),(bx.step s1),c1⟩ hp
def aX.Q (H0:Hp) (Ri R0:Ba)  (r:AZ) (v:AV) (H':Hp):Prop:=∃ o0a:ON,∃ o0n:Nat,∃ o0c:Cap,∃ o0k:List AV,v=(.sl ⟨o0a,o0n,o0c⟩)/\o0n=(r).length/\Out H0 Ri H' (Rs.own ⟨o0a,o0n,o0c⟩ eI.z o0k::R0) λR=>CR eI H' R o0k (r)
def aX.S29 (H0:Hp) (Ri R0:Ba)  (C:Bi) (pC:BK):Prop:=∀ {aw aL dN dl dO bQ dP},∀ {H:Hp},dl=bQ.length->(Out H0 Ri H (Rs.own ⟨dN,dl,dO⟩ eI.z dP::R0) λR=>CR eI H R dP bQ)->∀ {r:AZ},pC aw bQ aL=some r->Rt (C aw ⟨dN,dl,dO⟩ aL H) (aX.Q H0 Ri R0  r)
def aX.pl29 (F:Nat) :Nat->Int->List Int->Int->Option (List Int)
 | 0,_,_,_=>none
 | k+1,aw,bQ,aL=>(bif (decide (aL<aw)) then ((apn bQ ([(wrap .i64 ((wrap .i64 (aw - 1)) - aL))]:List Int)).bind λl2=>aX.pl29 F k aw l2 (wrap .i64 (aL+1))) else (some bQ))
theorem aX.l29_P  :∀ k,aX.S29 H0 Ri R0  (aX.l29 F   k) (aX.pl29 F  k):=by
 intro k
 induction k with
 | zero=>unfold aX.S29;intros;rename_i hp;cases hp
 | succ k ih=>
  intro aw aL dN dl dO bQ dP H gg h0 r hp
  obtain ⟨w0,s0,ec⟩:=h0
  subst gg
  unfold aX.pl29 at hp
  unfold aX.l29
  refine aE hp (λhp=>?_) λhp=>?_
  ·refine eg eI w0 (n:=1) (l:=([(wrap .i64 ((wrap .i64 (aw - 1)) - aL))]:List Int)) rfl (CR.cons1 rfl CR.empty) rfl λH1 w1 s1 c1=>?_
   refine ai (w1.rowo (i:=0) rfl) ?_
   obtain ⟨l2,e2,hp⟩:=ae hp
   refine fk eI w1 (i:=1) rfl rfl (ec.step s1) c1 (show 1=List.length ([(wrap .i64 ((wrap .i64 (aw - 1)) - aL))]:List Int) from rfl) rfl e2 λa3 d3 H3 w3 s3 c3 x3=>?_
   obtain ⟨w4,s4⟩:=w3.pp [1] 2
   exact ih rfl ⟨w4,(s0.trans (s1.trans (s3.trans s4))),(c3.step s4)⟩ hp
  ·exact aA hp ⟨_,_,_,_,rfl,rfl,w0,s0,ec⟩
def aX.p (F:Nat) (aa:Int):Option (List Int):=aX.pl29 F F aa ([]:List Int) 0
theorem aX.P {aa}  (h0:Inn H R0 λR=>True) {r:AZ} (hp:aX.p F aa=some r):Rt (aX.tw F aa H) (aX.Q H R0 R0  r):=by
 obtain ⟨w0,_⟩:=h0
 unfold aX.p at hp
 unfold aX.tw aX.twX
 have s0:=w0.rf
 refine eg eI w0 (n:=0) (l:=([]:List Int)) rfl CR.empty rfl λH1 w1 s1 c1=>?_
 exact aX.l29_P F (show 0=List.length ([]:List Int) from rfl) ⟨w1,(s0.trans s1),c1⟩ hp
def bk.Q (H0:Hp) (Ri R0:Ba)  (r:AZ) (v:AV) (H':Hp):Prop:=∃ o0a:ON,∃ o0n:Nat,∃ o0c:Cap,∃ o0k:List AV,v=(.sl ⟨o0a,o0n,o0c⟩)/\o0n=(r).length/\Out H0 Ri H' (Rs.own ⟨o0a,o0n,o0c⟩ eI.z o0k::R0) λR=>CR eI H' R o0k (r)
def bk.S29 (H0:Hp) (Ri R0:Ba)  (C:Bz) (pC:BJ):Prop:=∀ {ce dN bK dl cf dO au bQ dP aL},∀ {H:Hp},bK=au.length->dl=bQ.length->(Out H0 Ri H (Rs.own ⟨dN,dl,dO⟩ eI.z dP::R0) λR=>ROs eI H R ⟨ce,bK,cf⟩ au/\CR eI H R dP bQ)->∀ {r:AZ},pC au bQ aL=some r->Rt (C ⟨ce,bK,cf⟩ ⟨dN,dl,dO⟩ aL H) (bk.Q H0 Ri R0  r)
def bk.pl29 (F:Nat) :Nat->List Int->List Int->Int->Option (List Int)
 | 0,_,_,_=>none
 | k+1,au,bQ,aL=>(bif (decide (aL<(au.length:Int))) then ((ix au aL).bind λn1=>(ix bQ (gt au n1)).bind λn2=>(some (bQ.set n2 aL)).bind λl3=>bk.pl29 F k au l3 (wrap .i64 (aL+1))) else (some bQ))
theorem bk.l29_P  :∀ k,bk.S29 H0 Ri R0  (bk.l29 F   k) (bk.pl29 F  k):=by
 intro k
 induction k with
 | zero=>unfold bk.S29;intros;rename_i hp;cases hp
 | succ k ih=>
  intro ce dN bK dl cf dO au bQ dP aL H dC gg h0 r hp
  obtain ⟨w0,s0,ch,ec⟩:=h0
  subst dC
  subst gg
  unfold bk.pl29 at hp
  unfold bk.l29
  refine aE hp (λhp=>?_) λhp=>?_
  ·obtain ⟨n1,g1,hp⟩:=ae hp
   obtain ⟨p1,q1,i1,h1,j1⟩:=ROs.ixr ch rfl g1
   refine ai i1 ?_
   have h1:_=[_]:=h1
   subst h1
   refine ai (ck (j1 0 _ rfl)) ?_
   obtain ⟨n2,g2,hp⟩:=ae hp
   obtain ⟨p2,q2,i2,h2,j2⟩:=W.ixo (E:=eI) w0 (i:=0) rfl rfl ec g2
   refine ai i2 ?_
   obtain ⟨l3,e3,hp⟩:=ae hp
   refine eM eI w0 (i:=0) (j:=0) (p:=p2) rfl rfl ec g2 i2 e3 rfl rfl (λ_ h=>by have h:_=[_]:=h;subst h;exact rfl) λH4 k4 w4 s4 c4=>?_
   exact ih rfl ((ef e3).symm) ⟨w4,(s0.trans s4),(ch.step s4),c4⟩ hp
  ·exact aA hp ⟨_,_,_,_,rfl,rfl,w0,s0,ec⟩
def bk.p (F:Nat) (ah:AZ):Option (List Int):=(mkn (ah.length:Int) (0:Int)).bind λl1=>bk.pl29 F F ah l1 0
theorem bk.P {ay ak az ah} (bE:ak=ah.length) (h0:Inn H R0 λR=>ROs eI H R ⟨ay,ak,az⟩ ah) {r:AZ} (hp:bk.p F ah=some r):Rt (bk.tw F ⟨ay,ak,az⟩ H) (bk.Q H R0 R0  r):=by
 obtain ⟨w0,bx⟩:=h0
 subst bE
 unfold bk.p at hp
 unfold bk.tw bk.twX
 have s0:=w0.rf
 obtain ⟨l1,e1,hp⟩:=ae hp
 refine mK eI (0:Int) w0 rfl rfl rfl e1 λH2 k2 w2 s2 c2=>?_
 exact bk.l29_P F rfl rfl ⟨w2,(s0.trans s2),(bx.step s2),c2⟩ hp
def dr.Q (H0:Hp) (Ri R0:Ba)  (r:AZ) (v:AV) (H':Hp):Prop:=∃ o0a:ON,∃ o0n:Nat,∃ o0c:Cap,∃ o0k:List AV,v=(.sl ⟨o0a,o0n,o0c⟩)/\o0n=(r).length/\Out H0 Ri H' (Rs.own ⟨o0a,o0n,o0c⟩ eI.z o0k::R0) λR=>CR eI H' R o0k (r)
def dr.p (F:Nat) (ah:AZ) (ag:Int):Option (List Int):=(apn ([]:List Int) ah).bind λl3=>(ix ah ag).bind λn5=>(ix l3 (wrap .i64 (ag - 1))).bind λn6=>(some (l3.set n6 (gt ah n5))).bind λl7=>(ix ah (wrap .i64 (ag - 1))).bind λn9=>(ix l7 ag).bind λn10=>(some (l7.set n10 (gt ah n9))).bind λl11=>some l11
theorem dr.P {ay ak az ah ag} (bE:ak=ah.length) (h0:Inn H R0 λR=>ROs eI H R ⟨ay,ak,az⟩ ah) {r:AZ} (hp:dr.p F ah ag=some r):Rt (dr.tw F ⟨ay,ak,az⟩ ag H) (dr.Q H R0 R0  r):=by
 obtain ⟨w0,bx⟩:=h0
 subst bE
 unfold dr.p at hp
 unfold dr.tw dr.twX
 have s0:=w0.rf
 refine eg eI w0 (n:=0) (l:=([]:List Int)) rfl CR.empty rfl λH1 w1 s1 c1=>?_
 obtain ⟨x2,h2,c2⟩:=(bx.step s1).row rfl
 refine ai h2 ?_
 obtain ⟨l3,e3,hp⟩:=ae hp
 refine fk eI w1 (i:=0) rfl rfl c1 c2 rfl rfl e3 λa4 d4 H4 w4 s4 c4 x4=>?_
 obtain ⟨n5,g5,hp⟩:=ae hp
 obtain ⟨p5,q5,i5,h5,j5⟩:=ROs.ixr (bx.step (s1.trans s4)) rfl g5
 refine ai i5 ?_
 have h5:_=[_]:=h5
 subst h5
 refine ai (ck (j5 0 _ rfl)) ?_
 obtain ⟨n6,g6,hp⟩:=ae hp
 obtain ⟨p6,q6,i6,h6,j6⟩:=W.ixo (E:=eI) w4 (i:=0) rfl rfl c4 g6
 refine ai i6 ?_
 obtain ⟨l7,e7,hp⟩:=ae hp
 refine eM eI w4 (i:=0) (j:=0) (p:=p6) rfl rfl c4 g6 i6 e7 rfl rfl (λ_ h=>by have h:_=[_]:=h;subst h;exact rfl) λH8 k8 w8 s8 c8=>?_
 obtain ⟨n9,g9,hp⟩:=ae hp
 obtain ⟨p9,q9,i9,h9,j9⟩:=ROs.ixr (bx.step (s1.trans (s4.trans s8))) rfl g9
 refine ai i9 ?_
 have h9:_=[_]:=h9
 subst h9
 refine ai (ck (j9 0 _ rfl)) ?_
 obtain ⟨n10,g10,hp⟩:=ae hp
 obtain ⟨p10,q10,i10,h10,j10⟩:=W.ixo (E:=eI) w8 (i:=0) rfl rfl c8 g10
 refine ai i10 ?_
 obtain ⟨l11,e11,hp⟩:=ae hp
 refine eM eI w8 (i:=0) (j:=0) (p:=p10) rfl rfl c8 g10 i10 e11 rfl rfl (λ_ h=>by have h:_=[_]:=h;subst h;exact rfl) λH12 k12 w12 s12 c12=>?_
 exact aA hp ⟨_,_,_,_,rfl,((ef e7).symm.trans (ef e11).symm),w12,(s0.trans (s1.trans (s4.trans (s8.trans s12)))),c12⟩
def aF.Q (H0:Hp) (Ri R0:Ba)  (r:BC) (v:AV) (H':Hp):Prop:=∃ o0a:ON,∃ o0n:Nat,∃ o0c:Cap,∃ o1a:ON,∃ o1n:Nat,∃ o1c:Cap,v=(.tup [(.sl ⟨o0a,o0n,o0c⟩),(.sl ⟨o1a,o1n,o1c⟩),(.bool r.2.2)])/\o0n=(r.1).length/\o1n=(r.2.1).length/\Out H0 Ri H' (R0) λR=>ROs eI H' R ⟨o0a,o0n,o0c⟩ (r.1)/\ROs eI H' R ⟨o1a,o1n,o1c⟩ (r.2.1)
def aF.S29 (H0:Hp) (Ri R0:Ba)  (C:Sl->Sl->Sl->Int->Hp->OA) (pC:List Int->List Int->List Int->Int->Option (List Int×List Int×Bool)):Prop:=∀ {nD nE nF lY lZ l_ nG nH nJ fP eV fD nK cX},∀ {H:Hp},lY=fP.length->lZ=eV.length->l_=fD.length->(Out H0 Ri H (Rs.own ⟨nF,l_,nJ⟩ eI.z nK::R0) λR=>ROs eI H R ⟨nD,lY,nG⟩ fP/\ROs eI H R ⟨nE,lZ,nH⟩ eV/\CR eI H R nK fD)->∀ {r:BC},pC fP eV fD cX=some r->Rt (C ⟨nD,lY,nG⟩ ⟨nE,lZ,nH⟩ ⟨nF,l_,nJ⟩ cX H) (aF.Q H0 Ri R0  r)
def aF.pj1 (F:Nat)  (kg:AZ) (ki:AZ):Option (List Int×List Int×Bool):=some (kg,ki,false)
theorem aF.j1_P   {qS qT nL nO qU qV kg ki} (wD:nL=kg.length) (wE:nO=ki.length) (h0:Out H0 Ri H R0 λR=>ROs eI H R ⟨qS,nL,qU⟩ kg/\ROs eI H R ⟨qT,nO,qV⟩ ki) {r:BC} (hp:aF.pj1 F  kg ki=some r):Rt (aF.j1 F (bk.tw F) (ap.tw F) (dr.tw F)  ⟨qS,nL,qU⟩ ⟨qT,nO,qV⟩ H) (aF.Q H0 Ri R0  r):=by
 obtain ⟨w0,s0,wF,wG⟩:=h0
 subst wD
 subst wE
 unfold aF.pj1 at hp
 unfold aF.j1
 exact aA hp ⟨_,_,_,_,_,_,rfl,rfl,rfl,w0,s0,wF,wG⟩
def aF.pl29 (F:Nat) :Nat->List Int->List Int->List Int->Int->Option (List Int×List Int×Bool)
 | 0,_,_,_,_=>none
 | k+1,fP,eV,fD,cX=>(bif (decide (cX<(fP.length:Int))) then ((ix eV (wrap .i64 (cX - 1))).bind λn1=>(ix eV cX).bind λn2=>(bif (decide ((gt eV n1)>(gt eV n2))) then ((ix fD (wrap .i64 (cX - 1))).bind λn3=>(ix fD cX).bind λn4=>(bif (decide ((gt fD n3)<(gt fD n4))) then ((ap.p F fP cX).bind λr5=>(dr.p F eV cX).bind λr7=>some (r5,r7,true)) else (aF.pl29 F k fP eV fD (wrap .i64 (cX+1))))) else (aF.pl29 F k fP eV fD (wrap .i64 (cX+1))))) else (aF.pj1 F fP eV))
theorem aF.l29_P  :∀ k,aF.S29 H0 Ri R0  (aF.l29 F (bk.tw F) (ap.tw F) (dr.tw F)  k) (aF.pl29 F  k):=by
 intro k
 induction k with
 | zero=>unfold aF.S29;intros;rename_i hp;cases hp
 | succ k ih=>
  intro nD nE nF lY lZ l_ nG nH nJ fP eV fD nK cX H wH wI wJ h0 r hp
  obtain ⟨w0,s0,ma,jx,mc⟩:=h0
  subst wH
  subst wI
  subst wJ
  unfold aF.pl29 at hp
  unfold aF.l29
  refine aE hp (λhp=>?_) λhp=>?_
  ·obtain ⟨n1,g1,hp⟩:=ae hp
   obtain ⟨p1,q1,i1,h1,j1⟩:=ROs.ixr jx rfl g1
   refine ai i1 ?_
   have h1:_=[_]:=h1
   subst h1
   refine ai (ck (j1 0 _ rfl)) ?_
   obtain ⟨n2,g2,hp⟩:=ae hp
   obtain ⟨p2,q2,i2,h2,j2⟩:=ROs.ixr jx rfl g2
   refine ai i2 ?_
   have h2:_=[_]:=h2
   subst h2
   refine ai (ck (j2 0 _ rfl)) ?_
   refine aE hp (λhp=>?_) λhp=>?_
   ·obtain ⟨n3,g3,hp⟩:=ae hp
    obtain ⟨p3,q3,i3,h3,j3⟩:=W.ixo (E:=eI) w0 (i:=0) rfl rfl mc g3
    refine ai i3 ?_
    have h3:_=[_]:=h3
    subst h3
    refine ai (ck (j3 0 _ rfl)) ?_
    obtain ⟨n4,g4,hp⟩:=ae hp
    obtain ⟨p4,q4,i4,h4,j4⟩:=W.ixo (E:=eI) w0 (i:=0) rfl rfl mc g4
    refine ai i4 ?_
    have h4:_=[_]:=h4
    subst h4
    refine ai (ck (j4 0 _ rfl)) ?_
    refine aE hp (λhp=>?_) λhp=>?_
    ·obtain ⟨r5,e5,hp⟩:=ae hp
     refine bd (ap.P rfl ⟨w0,ma⟩ e5) ?_
     rintro _ H6 ⟨o0a_6,o0n_6,o0c_6,o0k_6,rfl,rfl,w6,s6,f6_0⟩
     refine br ?_
     obtain ⟨r7,e7,hp⟩:=ae hp
     refine bd (dr.P rfl ⟨w6,(jx.step s6)⟩ e7) ?_
     rintro _ H8 ⟨o0a_8,o0n_8,o0c_8,o0k_8,rfl,rfl,w8,s8,f8_0⟩
     refine br ?_
     obtain ⟨w9,s9,f9⟩:=w8.frz (i:=1) eI rfl (f6_0.step s8)
     obtain ⟨w10,s10,f10⟩:=w9.frz (i:=0) eI rfl (f8_0.step s9)
     obtain ⟨w11,s11⟩:=w10.pp [] 1
     exact aA hp ⟨_,_,_,_,_,_,rfl,rfl,rfl,w11,(s0.trans (s6.trans (s8.trans (s9.trans (s10.trans s11))))),(f9.step (s10.trans s11)),(f10.step s11)⟩
    ·exact ih rfl rfl rfl ⟨w0,s0,ma,jx,mc⟩ hp
   ·exact ih rfl rfl rfl ⟨w0,s0,ma,jx,mc⟩ hp
  ·obtain ⟨w12,s12⟩:=w0.pp [] 1
   exact aF.j1_P rfl rfl ⟨w12,(s0.trans s12),(ma.step s12),(jx.step s12)⟩ hp
def aF.p (F:Nat) (ah:AZ) (bT:AZ):Option (List Int×List Int×Bool):=(bk.p F ah).bind λr1=>aF.pl29 F F ah bT r1 1
theorem aF.P {ay dD ak cH az dE ah bT} (bE:ak=ah.length) (fE:cH=bT.length) (h0:Inn H R0 λR=>ROs eI H R ⟨ay,ak,az⟩ ah/\ROs eI H R ⟨dD,cH,dE⟩ bT) {r:BC} (hp:aF.p F ah bT=some r):Rt (aF.tw F ⟨ay,ak,az⟩ ⟨dD,cH,dE⟩ H) (aF.Q H R0 R0  r):=by
 obtain ⟨w0,bx,fF⟩:=h0
 subst bE
 subst fE
 unfold aF.p at hp
 unfold aF.tw aF.twX
 have s0:=w0.rf
 obtain ⟨r1,e1,hp⟩:=ae hp
 refine bd (bk.P rfl ⟨w0,bx⟩ e1) ?_
 rintro _ H2 ⟨o0a_2,o0n_2,o0c_2,o0k_2,rfl,rfl,w2,s2,f2_0⟩
 refine br ?_
 exact aF.l29_P F rfl rfl rfl ⟨w2,(s0.trans s2),(bx.step s2),(fF.step s2),f2_0⟩ hp
def aB.Q (H0:Hp) (Ri R0:Ba)  (r:Be) (v:AV) (H':Hp):Prop:=∃ o0a:ON,∃ o0n:Nat,∃ o0c:Cap,∃ o0k:List AV,v=(.sl ⟨o0a,o0n,o0c⟩)/\o0n=(r).length/\Out H0 Ri H' (Rs.own ⟨o0a,o0n,o0c⟩ (eSl eI).z o0k::R0) λR=>CR (eSl eI) H' R o0k (r)
def aB.S29 (H0:Hp) (Ri R0:Ba)  (C:A_) (pC:BH):Prop:=∀ {nP md nQ eH nR cY},∀ {H:Hp},md=eH.length->(Out H0 Ri H (Rs.own ⟨nP,md,nQ⟩ (eSl eI).z nR::R0) λR=>CR (eSl eI) H R nR eH)->∀ {r:Be},pC eH cY=some r->Rt (C ⟨nP,md,nQ⟩ cY H) (aB.Q H0 Ri R0  r)
def aB.pj2 (F:Nat) (bY:BH) (kj:Be) (iD:Int):Option (List (List Int)):=bY kj (wrap .i64 (iD+1))
theorem aB.j2_P  {C29_:A_} {bY:BH} (hC29:aB.S29 H0 Ri R0  C29_ bY) {qW nS qX kj qY iD} (wK:nS=kj.length) (h0:Out H0 Ri H (Rs.own ⟨qW,nS,qX⟩ (eSl eI).z qY::R0) λR=>CR (eSl eI) H R qY kj) {r:Be} (hp:aB.pj2 F bY kj iD=some r):Rt (aB.j2 F (aF.tw F) C29_ ⟨qW,nS,qX⟩ iD H) (aB.Q H0 Ri R0  r):=by
 obtain ⟨w0,s0,wL⟩:=h0
 subst wK
 unfold aB.pj2 at hp
 unfold aB.j2
 exact hC29 rfl ⟨w0,s0,wL⟩ hp
def aB.pl29 (F:Nat) :Nat->List (List Int)->Int->Option (List (List Int))
 | 0,_,_=>none
 | k+1,eH,cY=>(bif (decide ((wrap .i64 (cY+1))<(eH.length:Int))) then ((ix eH cY).bind λn1=>(ix eH (wrap .i64 (cY+1))).bind λn2=>(aF.p F (gt eH n1) (gt eH n2)).bind λr3=>(bif r3.2.2 then ((ix eH cY).bind λn5=>(some (eH.set n5 r3.1)).bind λl6=>(ix l6 (wrap .i64 (cY+1))).bind λn8=>(some (l6.set n8 r3.2.1)).bind λl9=>aB.pj2 F (aB.pl29 F k) l9 (-1)) else (aB.pj2 F (aB.pl29 F k) eH cY))) else (some eH))
theorem aB.l29_P  :∀ k,aB.S29 H0 Ri R0  (aB.l29 F (aF.tw F)  k) (aB.pl29 F  k):=by
 intro k
 induction k with
 | zero=>unfold aB.S29;intros;rename_i hp;cases hp
 | succ k ih=>
  intro nP md nQ eH nR cY H wM h0 r hp
  obtain ⟨w0,s0,jy⟩:=h0
  subst wM
  unfold aB.pl29 at hp
  unfold aB.l29
  refine aE hp (λhp=>?_) λhp=>?_
  ·obtain ⟨n1,g1,hp⟩:=ae hp
   obtain ⟨p1,q1,i1,h1,j1⟩:=W.ixo (E:=(eSl eI)) w0 (i:=0) rfl rfl jy g1
   refine ai i1 ?_
   obtain ⟨⟨mf,m1_0,c1_0⟩,rfl,f1_0⟩:=h1
   obtain rfl:m1_0=_:=f1_0.n
   refine ai (dJ (j1 0 _ rfl)) ?_
   obtain ⟨n2,g2,hp⟩:=ae hp
   obtain ⟨p2,q2,i2,h2,j2⟩:=W.ixo (E:=(eSl eI)) w0 (i:=0) rfl rfl jy g2
   refine ai i2 ?_
   obtain ⟨⟨wN,m2_0,c2_0⟩,rfl,f2_0⟩:=h2
   obtain rfl:m2_0=_:=f2_0.n
   refine ai (dJ (j2 0 _ rfl)) ?_
   obtain ⟨r3,e3,hp⟩:=ae hp
   refine bd (aF.P rfl rfl ⟨w0,f1_0,f2_0⟩ e3) ?_
   rintro _ H4 ⟨o0a_4,o0n_4,o0c_4,o1a_4,o1n_4,o1c_4,rfl,rfl,rfl,w4,s4,f4_0,f4_1⟩
   refine br (br (br (br (br (br (br ?_))))))
   refine aE hp (λhp=>?_) λhp=>?_
   ·obtain ⟨n5,g5,hp⟩:=ae hp
    obtain ⟨p5,q5,i5,h5,j5⟩:=W.ixo (E:=(eSl eI)) w4 (i:=0) rfl rfl (jy.step s4) g5
    refine ai i5 ?_
    obtain ⟨l6,e6,hp⟩:=ae hp
    refine eM (eSl eI) w4 (i:=0) (j:=0) (p:=p5) rfl rfl (jy.step s4) g5 i5 e6 rfl rfl (λ_ h=>by obtain ⟨_,h,_⟩:=h;subst h;exact ⟨_,rfl,f4_0⟩) λH7 k7 w7 s7 c7=>?_
    obtain ⟨n8,g8,hp⟩:=ae hp
    obtain ⟨p8,q8,i8,h8,j8⟩:=W.ixo (E:=(eSl eI)) w7 (i:=0) rfl rfl c7 g8
    refine ai i8 ?_
    obtain ⟨l9,e9,hp⟩:=ae hp
    refine eM (eSl eI) w7 (i:=0) (j:=0) (p:=p8) rfl rfl c7 g8 i8 e9 rfl rfl (λ_ h=>by obtain ⟨_,h,_⟩:=h;subst h;exact ⟨_,rfl,(f4_1.step s7)⟩) λH10 k10 w10 s10 c10=>?_
    exact aB.j2_P (@ih) ((ef e6).symm.trans (ef e9).symm) ⟨w10,(s0.trans (s4.trans (s7.trans s10))),c10⟩ hp
   ·exact aB.j2_P (@ih) rfl ⟨w4,(s0.trans s4),(jy.step s4)⟩ hp
  ·exact aA hp ⟨_,_,_,_,rfl,rfl,w0,s0,jy⟩
def aB.p (F:Nat) (ah:Be):Option (List (List Int)):=(apn ([]:List (List Int)) ah).bind λl3=>aB.pl29 F F l3 0
theorem aB.P {ay ak az ah} (bE:ak=ah.length) (h0:Inn H R0 λR=>ROs (eSl eI) H R ⟨ay,ak,az⟩ ah) {r:Be} (hp:aB.p F ah=some r):Rt (aB.tw F ⟨ay,ak,az⟩ H) (aB.Q H R0 R0  r):=by
 obtain ⟨w0,bx⟩:=h0
 subst bE
 unfold aB.p at hp
 unfold aB.tw aB.twX
 have s0:=w0.rf
 refine eg (eSl eI) w0 (n:=0) (l:=([]:List (List Int))) rfl CR.empty rfl λH1 w1 s1 c1=>?_
 obtain ⟨x2,h2,c2⟩:=(bx.step s1).row rfl
 refine ai h2 ?_
 obtain ⟨l3,e3,hp⟩:=ae hp
 refine fk (eSl eI) w1 (i:=0) rfl rfl c1 c2 rfl rfl e3 λa4 d4 H4 w4 s4 c4 x4=>?_
 exact aB.l29_P F rfl ⟨w4,(s0.trans (s1.trans s4)),c4⟩ hp
def aS.Q (H0:Hp) (Ri R0:Ba)  (r:Bool) (v:AV) (H':Hp):Prop:=v=(.bool r)/\Out H0 Ri H' (R0) λR=>True
def aS.S29 (H0:Hp) (Ri R0:Ba)  (C:Bz) (pC:BL):Prop:=∀ {ce eA bK dQ cf eB au bN aM},∀ {H:Hp},bK=au.length->dQ=bN.length->(Out H0 Ri H R0 λR=>ROs eI H R ⟨ce,bK,cf⟩ au/\ROs eI H R ⟨eA,dQ,eB⟩ bN)->∀ {r:Bool},pC au bN aM=some r->Rt (C ⟨ce,bK,cf⟩ ⟨eA,dQ,eB⟩ aM H) (aS.Q H0 Ri R0  r)
def aS.pl29 (F:Nat) :Nat->List Int->List Int->Int->Option (Bool)
 | 0,_,_,_=>none
 | k+1,au,bN,aM=>(bif (decide (aM<(au.length:Int))) then ((ix au aM).bind λn1=>(ix bN aM).bind λn2=>(bif ((gt au n1) != (gt bN n2)) then (some false) else (aS.pl29 F k au bN (wrap .i64 (aM+1))))) else (some true))
theorem aS.l29_P  :∀ k,aS.S29 H0 Ri R0  (aS.l29 F   k) (aS.pl29 F  k):=by
 intro k
 induction k with
 | zero=>unfold aS.S29;intros;rename_i hp;cases hp
 | succ k ih=>
  intro ce eA bK dQ cf eB au bN aM H dC gk h0 r hp
  obtain ⟨w0,s0,ch,eJ⟩:=h0
  subst dC
  subst gk
  unfold aS.pl29 at hp
  unfold aS.l29
  refine aE hp (λhp=>?_) λhp=>?_
  ·obtain ⟨n1,g1,hp⟩:=ae hp
   obtain ⟨p1,q1,i1,h1,j1⟩:=ROs.ixr ch rfl g1
   refine ai i1 ?_
   have h1:_=[_]:=h1
   subst h1
   refine ai (ck (j1 0 _ rfl)) ?_
   obtain ⟨n2,g2,hp⟩:=ae hp
   obtain ⟨p2,q2,i2,h2,j2⟩:=ROs.ixr eJ rfl g2
   refine ai i2 ?_
   have h2:_=[_]:=h2
   subst h2
   refine ai (ck (j2 0 _ rfl)) ?_
   refine aE hp (λhp=>?_) λhp=>?_
   ·exact aA hp ⟨rfl,w0,s0,trivial⟩
   ·exact ih rfl rfl ⟨w0,s0,ch,eJ⟩ hp
  ·exact aA hp ⟨rfl,w0,s0,trivial⟩
def aS.p (F:Nat) (ah:AZ) (bT:AZ):Option (Bool):=(bif ((ah.length:Int) != (bT.length:Int)) then (some false) else (aS.pl29 F F ah bT 0))
theorem aS.P {ay dD ak cH az dE ah bT} (bE:ak=ah.length) (fE:cH=bT.length) (h0:Inn H R0 λR=>ROs eI H R ⟨ay,ak,az⟩ ah/\ROs eI H R ⟨dD,cH,dE⟩ bT) {r:Bool} (hp:aS.p F ah bT=some r):Rt (aS.tw F ⟨ay,ak,az⟩ ⟨dD,cH,dE⟩ H) (aS.Q H R0 R0  r):=by
 obtain ⟨w0,bx,fF⟩:=h0
 subst bE
 subst fE
 unfold aS.p at hp
 unfold aS.tw aS.twX
 have s0:=w0.rf
 refine aE hp (λhp=>?_) λhp=>?_
 ·exact aA hp ⟨rfl,w0,s0,trivial⟩
 ·exact aS.l29_P F rfl rfl ⟨w0,s0,bx,fF⟩ hp
def af.Q (H0:Hp) (Ri R0:Ba)  (r:Bh) (v:AV) (H':Hp):Prop:=∃ o1a:ON,∃ o1n:Nat,∃ o1c:Cap,∃ o1k:List AV,v=(.agg [(.i r.1),(.sl ⟨o1a,o1n,o1c⟩)])/\o1n=(r.2).length/\Out H0 Ri H' (Rs.own ⟨o1a,o1n,o1c⟩ (eSl eI).z o1k::R0) λR=>CR (eSl eI) H' R o1k (r.2)
def af.S125 (H0:Hp) (Ri R0:Ba)  (C:Bl) (pC:Bo):Prop:=∀ {qZ q_ er eQ es nT nU nV mg fO mh fX mi nW nX nY fd nZ gG n_ oa},∀ {H:Hp},mg=fd.length->mh=nZ.length->mi=gG.length->(Out H0 Ri H (Rs.blk fO [.i qZ,.sl ⟨nT,mg,nW⟩]::Rs.own ⟨nU,mh,nX⟩ (eSl eI).z n_::Rs.blk fX [.i q_,.sl ⟨nU,mh,nX⟩]::Rs.own ⟨nV,mi,nY⟩ (eSl eI).z oa::R0) λR=>ROs eI H R ⟨nT,mg,nW⟩ fd/\CR (eSl eI) H R n_ nZ/\CR (eSl eI) H R oa gG)->∀ {r:Bh},pC fd er eQ gG es=some r->Rt (C fO 0 fX 0 er eQ ⟨nV,mi,nY⟩ es H) (af.Q H0 Ri R0  r)
def af.pj11 (F:Nat) (dH:Bo) (kl:AZ) (iM:Int) (iN:Int) (kn:Be) (iO:Int):Option (Int×List (List Int)):=dH kl iM iN kn (wrap .i64 (iO+1))
theorem af.j11_P  {C125_:Bl} {dH:Bo} (hC125:af.S125 H0 Ri R0  C125_ dH) {wO wP iM iN iO rc rh ri ob lx oc ly od rj rk rl kl rm kn rn rp} (wQ:ob=kl.length) (wR:oc=rm.length) (wT:od=kn.length) (h0:Out H0 Ri H (Rs.blk lx [.i wO,.sl ⟨rc,ob,rj⟩]::Rs.own ⟨rh,oc,rk⟩ (eSl eI).z rn::Rs.blk ly [.i wP,.sl ⟨rh,oc,rk⟩]::Rs.own ⟨ri,od,rl⟩ (eSl eI).z rp::R0) λR=>ROs eI H R ⟨rc,ob,rj⟩ kl/\CR (eSl eI) H R rn rm/\CR (eSl eI) H R rp kn) {r:Bh} (hp:af.pj11 F dH kl iM iN kn iO=some r):Rt (af.j11 F (aW.tw F) (ap.tw F) (aZ.tw F) (aX.tw F) (aB.tw F) (aS.tw F) C125_ lx 0 ly 0 iM iN ⟨ri,od,rl⟩ iO H) (af.Q H0 Ri R0  r):=by
 obtain ⟨w0,s0,wU,wV,wW⟩:=h0
 subst wQ
 subst wR
 subst wT
 unfold af.pj11 at hp
 unfold af.j11
 exact hC125 rfl rfl rfl ⟨w0,s0,wU,wV,wW⟩ hp
def af.S32093 (H0:Hp) (Ri R0:Ba)  (C:Nat->Nat->Nat->Nat->Int->Int->Sl->Int->Int->Int->Hp->OA) (pC:List Int->Int->Int->List (List Int)->Int->Int->Int->Option (Int×List (List Int))):Prop:=∀ {rq ru fp fq ft fv eo oe og oh mj gy ml gz mm oq ou ov hU ox fG oy oz},∀ {H:Hp},mj=hU.length->ml=ox.length->mm=fG.length->(Out H0 Ri H (Rs.blk gy [.i rq,.sl ⟨oe,mj,oq⟩]::Rs.own ⟨og,ml,ou⟩ (eSl eI).z oy::Rs.blk gz [.i ru,.sl ⟨og,ml,ou⟩]::Rs.own ⟨oh,mm,ov⟩ (eSl eI).z oz::R0) λR=>ROs eI H R ⟨oe,mj,oq⟩ hU/\CR (eSl eI) H R oy ox/\CR (eSl eI) H R oz fG)->∀ {r:Bh},pC hU fp fq fG ft fv eo=some r->Rt (C gy 0 gz 0 fp fq ⟨oh,mm,ov⟩ ft fv eo H) (af.Q H0 Ri R0  r)
def af.pj12 (F:Nat) (dH:Bo) (ko:AZ) (iP:Int) (iQ:Int) (kp:Be) (iR:Int):Option (Int×List (List Int)):=dH ko iP iQ kp (wrap .i64 (iR+1))
theorem af.j12_P  {C125_:Bl} {dH:Bo} (hC125:af.S125 H0 Ri R0  C125_ dH) {wX wY iP iQ iR rx ry rz oA lz oB lA oC rA rB rC ko rD kp rE rF} (wZ:oA=ko.length) (w_:oB=rD.length) (xa:oC=kp.length) (h0:Out H0 Ri H (Rs.blk lz [.i wX,.sl ⟨rx,oA,rA⟩]::Rs.own ⟨ry,oB,rB⟩ (eSl eI).z rE::Rs.blk lA [.i wY,.sl ⟨ry,oB,rB⟩]::Rs.own ⟨rz,oC,rC⟩ (eSl eI).z rF::R0) λR=>ROs eI H R ⟨rx,oA,rA⟩ ko/\CR (eSl eI) H R rE rD/\CR (eSl eI) H R rF kp) {r:Bh} (hp:af.pj12 F dH ko iP iQ kp iR=some r):Rt (af.j12 F (aW.tw F) (ap.tw F) (aZ.tw F) (aX.tw F) (aB.tw F) (aS.tw F) C125_ lz 0 lA 0 iP iQ ⟨rz,oC,rC⟩ iR H) (af.Q H0 Ri R0  r):=by
 obtain ⟨w0,s0,xb,xc,xd⟩:=h0
 subst wZ
 subst w_
 subst xa
 unfold af.pj12 at hp
 unfold af.j12
 exact hC125 rfl rfl rfl ⟨w0,s0,xb,xc,xd⟩ hp
def af.pj13 (F:Nat) (dH:Bo) (kq:AZ) (gw:Int) (iS:Int) (kr:Be) (iT:Int) (iU:Int):Option (Int×List (List Int)):=(aX.p F gw).bind λr1=>(ap.p F r1 (wrap .i64 (0 - iU))).bind λr4=>(apn kr ([r4]:List (List Int))).bind λl9=>af.pj12 F dH kq gw iS l9 iT
theorem af.j13_P  {C125_:Bl} {dH:Bo} (hC125:af.S125 H0 Ri R0  C125_ dH) {xe xf gw iS iT iU rG rH rI oD lC oE lD oF rJ rK rL kq rM kr rN rO} (xg:oD=kq.length) (xh:oE=rM.length) (xi:oF=kr.length) (h0:Out H0 Ri H (Rs.blk lC [.i xe,.sl ⟨rG,oD,rJ⟩]::Rs.own ⟨rH,oE,rK⟩ (eSl eI).z rN::Rs.blk lD [.i xf,.sl ⟨rH,oE,rK⟩]::Rs.own ⟨rI,oF,rL⟩ (eSl eI).z rO::R0) λR=>ROs eI H R ⟨rG,oD,rJ⟩ kq/\CR (eSl eI) H R rN rM/\CR (eSl eI) H R rO kr) {r:Bh} (hp:af.pj13 F dH kq gw iS kr iT iU=some r):Rt (af.j13 F (aW.tw F) (ap.tw F) (aZ.tw F) (aX.tw F) (aB.tw F) (aS.tw F) C125_ lC 0 lD 0 gw iS ⟨rI,oF,rL⟩ iT iU H) (af.Q H0 Ri R0  r):=by
 obtain ⟨w0,s0,xj,xk,xl⟩:=h0
 subst xg
 subst xh
 subst xi
 unfold af.pj13 at hp
 unfold af.j13
 obtain ⟨r1,e1,hp⟩:=ae hp
 refine bd (aX.P ⟨w0,trivial⟩ e1) ?_
 rintro _ H2 ⟨o0a_2,o0n_2,o0c_2,o0k_2,rfl,rfl,w2,s2,f2_0⟩
 refine br ?_
 have f3:=W.borrow1 eI w2 f2_0
 obtain ⟨w3,s3⟩:=w2.right1
 obtain ⟨r4,e4,hp⟩:=ae hp
 refine bd (ap.P rfl ⟨w3,f3⟩ e4) ?_
 rintro _ H5 ⟨o0a_5,o0n_5,o0c_5,o0k_5,rfl,rfl,w5,s5,f5_0⟩
 obtain ⟨w6,s6⟩:=W.frame1 w2 w5 s5
 refine br ?_
 obtain ⟨w7,s7,f7⟩:=w6.frz (i:=1) eI rfl (CR.flat (jB .i64) f5_0)
 refine eg (eSl eI) w7 (n:=1) (l:=([r4]:List (List Int))) rfl (CR.cons1 ⟨_,rfl,f7⟩ CR.empty) rfl λH8 w8 s8 c8=>?_
 refine ai (w8.rowo (i:=0) rfl) ?_
 obtain ⟨l9,e9,hp⟩:=ae hp
 refine fk (eSl eI) w8 (i:=5) rfl rfl (xl.step (s2.trans (s6.trans (s7.trans s8)))) c8 (show 1=List.length ([r4]:List (List Int)) from rfl) rfl e9 λa10 d10 H10 w10 s10 c10 x10=>?_
 obtain ⟨w11,s11⟩:=w10.pp [2,3,4,5] 6
 exact af.j12_P (@hC125) rfl rfl rfl ⟨w11,(s0.trans (s2.trans (s6.trans (s7.trans (s8.trans (s10.trans s11)))))),(xj.step (s2.trans (s6.trans (s7.trans (s8.trans (s10.trans s11)))))),(xk.step (s2.trans (s6.trans (s7.trans (s8.trans (s10.trans s11)))))),(c10.step s11)⟩ hp
def af.pl32093 (F:Nat) (dH:Bo):Nat->List Int->Int->Int->List (List Int)->Int->Int->Int->Option (Int×List (List Int))
 | 0,_,_,_,_,_,_,_=>none
 | k+1,hU,fp,fq,fG,ft,fv,eo=>(bif (decide (eo<(fG.length:Int))) then ((ix fG eo).bind λn1=>(aZ.p F (gt fG n1)).bind λr2=>(ix fG eo).bind λn4=>(some (fG.set n4 r2)).bind λl6=>af.pl32093 F dH k hU fp fq l6 ft fv (wrap .i64 (eo+1))) else (af.pj13 F dH hU fp fq fG ft fv))
theorem af.l32093_P  {C125_:Bl} {dH:Bo} (hC125:af.S125 H0 Ri R0  C125_ dH):∀ k,af.S32093 H0 Ri R0  (af.l32093 F (aW.tw F) (ap.tw F) (aZ.tw F) (aX.tw F) (aB.tw F) (aS.tw F) C125_ k) (af.pl32093 F dH k):=by
 intro k
 induction k with
 | zero=>unfold af.S32093;intros;rename_i hp;cases hp
 | succ k ih=>
  intro rq ru fp fq ft fv eo oe og oh mj gy ml gz mm oq ou ov hU ox fG oy oz H xm xn xo h0 r hp
  obtain ⟨w0,s0,rP,rQ,mn⟩:=h0
  subst xm
  subst xn
  subst xo
  unfold af.pl32093 at hp
  unfold af.l32093
  refine aE hp (λhp=>?_) λhp=>?_
  ·obtain ⟨n1,g1,hp⟩:=ae hp
   obtain ⟨p1,q1,i1,h1,j1⟩:=W.ixo (E:=(eSl eI)) w0 (i:=3) rfl rfl mn g1
   refine ai i1 ?_
   obtain ⟨⟨mf,m1_0,c1_0⟩,rfl,f1_0⟩:=h1
   obtain rfl:m1_0=_:=f1_0.n
   refine ai (dJ (j1 0 _ rfl)) ?_
   obtain ⟨r2,e2,hp⟩:=ae hp
   refine bd (aZ.P rfl ⟨w0,f1_0⟩ e2) ?_
   rintro _ H3 ⟨o0a_3,o0n_3,o0c_3,o0k_3,rfl,rfl,w3,s3,f3_0⟩
   refine br ?_
   obtain ⟨n4,g4,hp⟩:=ae hp
   obtain ⟨p4,q4,i4,h4,j4⟩:=W.ixo (E:=(eSl eI)) w3 (i:=4) rfl rfl (mn.step s3) g4
   refine ai i4 ?_
   obtain ⟨w5,s5,f5⟩:=w3.frz (i:=0) eI rfl f3_0
   obtain ⟨l6,e6,hp⟩:=ae hp
   refine eM (eSl eI) w5 (i:=3) (j:=0) (p:=p4) rfl rfl (mn.step (s3.trans s5)) g4 i4 e6 rfl rfl (λ_ h=>by obtain ⟨_,h,_⟩:=h;subst h;exact ⟨_,rfl,f5⟩) λH7 k7 w7 s7 c7=>?_
   exact ih rfl rfl ((ef e6).symm) ⟨w7,(s0.trans (s3.trans (s5.trans s7))),(rP.step (s3.trans (s5.trans s7))),(rQ.step (s3.trans (s5.trans s7))),c7⟩ hp
  ·exact af.j13_P (@hC125) rfl rfl rfl ⟨w0,s0,rP,rQ,mn⟩ hp
def af.S1021 (H0:Hp) (Ri R0:Ba)  (C:Bu) (pC:Bw):Prop:=∀ {rR d_ gH dB oG oH oI mo eO mq mr en oJ oK oL oM ed gm oN oO oP},∀ {H:Hp},mo=oM.length->mq=ed.length->mr=gm.length->(Out H0 Ri H (Rs.own ⟨oG,mo,oJ⟩ (eSl eI).z oN::Rs.blk eO [.i rR,.sl ⟨oG,mo,oJ⟩]::Rs.own ⟨oH,mq,oK⟩ (eSl eI).z oO::Rs.own ⟨oI,mr,oL⟩ (eSl eI).z oP::Rs.blk en [.i gH,.sl ⟨oI,mr,oL⟩]::R0) λR=>CR (eSl eI) H R oN oM/\CR (eSl eI) H R oO ed/\CR (eSl eI) H R oP gm)->∀ {r:Bh},pC d_ ed gH gm dB=some r->Rt (C eO 0 d_ ⟨oH,mq,oK⟩ en 0 dB H) (af.Q H0 Ri R0  r)
def af.pj7 (F:Nat) (eK:Bw) (iE:Int) (kt:Be) (mu:Int) (ku:Be) (iF:Int):Option (Int×List (List Int)):=eK iE kt mu ku (wrap .i64 (iF+1))
theorem af.j7_P  {C1021_:Bu} {eK:Bw} (hC1021:af.S1021 H0 Ri R0  C1021_ eK) {xp iE mu iF rS rT rU oQ lj oR oS ll rV rW rX rY kt ku rZ r_ sb} (xq:oQ=rY.length) (xr:oR=kt.length) (xt:oS=ku.length) (h0:Out H0 Ri H (Rs.own ⟨rS,oQ,rV⟩ (eSl eI).z rZ::Rs.blk lj [.i xp,.sl ⟨rS,oQ,rV⟩]::Rs.own ⟨rT,oR,rW⟩ (eSl eI).z r_::Rs.own ⟨rU,oS,rX⟩ (eSl eI).z sb::Rs.blk ll [.i mu,.sl ⟨rU,oS,rX⟩]::R0) λR=>CR (eSl eI) H R rZ rY/\CR (eSl eI) H R r_ kt/\CR (eSl eI) H R sb ku) {r:Bh} (hp:af.pj7 F eK iE kt mu ku iF=some r):Rt (af.j7 F (aW.tw F) (ap.tw F) (aZ.tw F) (aX.tw F) (aB.tw F) (aS.tw F) C1021_ lj 0 iE ⟨rT,oR,rW⟩ ll 0 iF H) (af.Q H0 Ri R0  r):=by
 obtain ⟨w0,s0,xu,xv,xw⟩:=h0
 subst xq
 subst xr
 subst xt
 unfold af.pj7 at hp
 unfold af.j7
 exact hC1021 rfl rfl rfl ⟨w0,s0,xu,xv,xw⟩ hp
def af.pj8 (F:Nat) (eK:Bw) (iG:Int) (kv:Be) (mv:Int) (kw:Be) (iH:Int):Option (Int×List (List Int)):=eK iG kv mv kw (wrap .i64 (iH+1))
theorem af.j8_P  {C1021_:Bu} {eK:Bw} (hC1021:af.S1021 H0 Ri R0  C1021_ eK) {xx iG mv iH sd sf sg oT lm oU oV ln si sj sk sv kv kw sx sA sB} (xy:oT=sv.length) (xz:oU=kv.length) (xA:oV=kw.length) (h0:Out H0 Ri H (Rs.own ⟨sd,oT,si⟩ (eSl eI).z sx::Rs.blk lm [.i xx,.sl ⟨sd,oT,si⟩]::Rs.own ⟨sf,oU,sj⟩ (eSl eI).z sA::Rs.own ⟨sg,oV,sk⟩ (eSl eI).z sB::Rs.blk ln [.i mv,.sl ⟨sg,oV,sk⟩]::R0) λR=>CR (eSl eI) H R sx sv/\CR (eSl eI) H R sA kv/\CR (eSl eI) H R sB kw) {r:Bh} (hp:af.pj8 F eK iG kv mv kw iH=some r):Rt (af.j8 F (aW.tw F) (ap.tw F) (aZ.tw F) (aX.tw F) (aB.tw F) (aS.tw F) C1021_ lm 0 iG ⟨sf,oU,sj⟩ ln 0 iH H) (af.Q H0 Ri R0  r):=by
 obtain ⟨w0,s0,xB,xC,xD⟩:=h0
 subst xy
 subst xz
 subst xA
 unfold af.pj8 at hp
 unfold af.j8
 exact hC1021 rfl rfl rfl ⟨w0,s0,xB,xC,xD⟩ hp
def af.pj9 (F:Nat) (eK:Bw) (iI:Int) (kx:Be) (mw:Int) (ky:Be) (iJ:Int):Option (Int×List (List Int)):=af.pj8 F eK iI kx mw ky iJ
theorem af.j9_P  {C1021_:Bu} {eK:Bw} (hC1021:af.S1021 H0 Ri R0  C1021_ eK) {xE iI mw iJ sC sD sE oW lq oX oY lr sF sG sH sI kx ky sJ sK sL} (xF:oW=sI.length) (xG:oX=kx.length) (xH:oY=ky.length) (h0:Out H0 Ri H (Rs.own ⟨sC,oW,sF⟩ (eSl eI).z sJ::Rs.blk lq [.i xE,.sl ⟨sC,oW,sF⟩]::Rs.own ⟨sD,oX,sG⟩ (eSl eI).z sK::Rs.own ⟨sE,oY,sH⟩ (eSl eI).z sL::Rs.blk lr [.i mw,.sl ⟨sE,oY,sH⟩]::R0) λR=>CR (eSl eI) H R sJ sI/\CR (eSl eI) H R sK kx/\CR (eSl eI) H R sL ky) {r:Bh} (hp:af.pj9 F eK iI kx mw ky iJ=some r):Rt (af.j9 F (aW.tw F) (ap.tw F) (aZ.tw F) (aX.tw F) (aB.tw F) (aS.tw F) C1021_ lq 0 iI ⟨sD,oX,sG⟩ lr 0 iJ H) (af.Q H0 Ri R0  r):=by
 obtain ⟨w0,s0,xI,xJ,xK⟩:=h0
 subst xF
 subst xG
 subst xH
 unfold af.pj9 at hp
 unfold af.j9
 exact af.j8_P (@hC1021) rfl rfl rfl ⟨w0,s0,xI,xJ,xK⟩ hp
def af.pl1021 (F:Nat) :Nat->Int->List (List Int)->Int->List (List Int)->Int->Option (Int×List (List Int))
 | 0,_,_,_,_,_=>none
 | k+1,d_,ed,gH,gm,dB=>(bif (decide (dB<(ed.length:Int))) then ((ix ed dB).bind λn1=>(aW.p F d_).bind λr2=>(aS.p F (gt ed n1) r2).bind λr6=>(bif r6 then (af.pj7 F (af.pl1021 F k) d_ ed gH gm dB) else ((ix ed dB).bind λn10=>(aX.p F d_).bind λr11=>(aS.p F (gt ed n10) r11).bind λr15=>(bif r15 then (af.pj9 F (af.pl1021 F k) d_ ed (wrap .i64 (gH+1)) gm dB) else ((ix ed dB).bind λn20=>(apn gm ([(gt ed n20)]:List (List Int))).bind λl22=>af.pj9 F (af.pl1021 F k) d_ ed gH l22 dB))))) else (some (gH,gm)))
theorem af.l1021_P  :∀ k,af.S1021 H0 Ri R0  (af.l1021 F (aW.tw F) (ap.tw F) (aZ.tw F) (aX.tw F) (aB.tw F) (aS.tw F)  k) (af.pl1021 F  k):=by
 intro k
 induction k with
 | zero=>unfold af.S1021;intros;rename_i hp;cases hp
 | succ k ih=>
  intro rR d_ gH dB oG oH oI mo eO mq mr en oJ oK oL oM ed gm oN oO oP H xL xM xN h0 r hp
  obtain ⟨w0,s0,oZ,jz,mz⟩:=h0
  subst xL
  subst xM
  subst xN
  unfold af.pl1021 at hp
  unfold af.l1021
  refine aE hp (λhp=>?_) λhp=>?_
  ·obtain ⟨n1,g1,hp⟩:=ae hp
   obtain ⟨p1,q1,i1,h1,j1⟩:=W.ixo (E:=(eSl eI)) w0 (i:=2) rfl rfl jz g1
   refine ai i1 ?_
   obtain ⟨⟨mf,m1_0,c1_0⟩,rfl,f1_0⟩:=h1
   obtain rfl:m1_0=_:=f1_0.n
   refine ai (dJ (j1 0 _ rfl)) ?_
   obtain ⟨r2,e2,hp⟩:=ae hp
   refine bd (aW.P ⟨w0,trivial⟩ e2) ?_
   rintro _ H3 ⟨o0a_3,o0n_3,o0c_3,o0k_3,rfl,rfl,w3,s3,f3_0⟩
   refine br ?_
   refine kS (W.cons_of (Rn:=[_]) w0 w3 s3) ?_
   have f5:=W.borrow1 eI w3 f3_0
   obtain ⟨w5,s5⟩:=w3.right1
   obtain ⟨r6,e6,hp⟩:=ae hp
   refine bd (aS.P rfl rfl ⟨w5,((f1_0.step s3).step s5),f5⟩ e6) ?_
   rintro _ H7 ⟨rfl,w7,s7,_⟩
   obtain ⟨w8,s8⟩:=W.frame1 w3 w7 s7
   refine br ?_
   refine aE hp (λhp=>?_) λhp=>?_
   ·obtain ⟨w9,s9⟩:=w8.pp [1,2,3,4,5] 6
    exact af.j7_P (@ih) rfl rfl rfl ⟨w9,(s0.trans (s3.trans (s8.trans s9))),(oZ.step (s3.trans (s8.trans s9))),(jz.step (s3.trans (s8.trans s9))),(mz.step (s3.trans (s8.trans s9)))⟩ hp
   ·obtain ⟨n10,g10,hp⟩:=ae hp
    obtain ⟨p10,q10,i10,h10,j10⟩:=W.ixo (E:=(eSl eI)) w8 (i:=3) rfl rfl (jz.step (s3.trans s8)) g10
    refine ai i10 ?_
    obtain ⟨⟨Af,m10_0,c10_0⟩,rfl,f10_0⟩:=h10
    obtain rfl:m10_0=_:=f10_0.n
    refine ai (dJ (j10 0 _ rfl)) ?_
    obtain ⟨r11,e11,hp⟩:=ae hp
    refine bd (aX.P ⟨w8,trivial⟩ e11) ?_
    rintro _ H12 ⟨o0a_12,o0n_12,o0c_12,o0k_12,rfl,rfl,w12,s12,f12_0⟩
    refine br ?_
    refine kS (W.cons_of (Rn:=[_]) w8 w12 s12) ?_
    have f14:=W.borrow1 eI w12 f12_0
    obtain ⟨w14,s14⟩:=w12.right1
    obtain ⟨r15,e15,hp⟩:=ae hp
    refine bd (aS.P rfl rfl ⟨w14,((f10_0.step s12).step s14),f14⟩ e15) ?_
    rintro _ H16 ⟨rfl,w16,s16,_⟩
    obtain ⟨w17,s17⟩:=W.frame1 w12 w16 s16
    refine br ?_
    refine aE hp (λhp=>?_) λhp=>?_
    ·refine lI w17 6 ?_
     refine b_ w17 6 λH18 w18 s18=>?_
     obtain ⟨w19,s19⟩:=w18.pp [2,3,4,5,6] 7
     exact af.j9_P (@ih) rfl rfl rfl ⟨w19,(s0.trans (s3.trans (s8.trans (s12.trans (s17.trans (s18.trans s19)))))),(oZ.step (s3.trans (s8.trans (s12.trans (s17.trans (s18.trans s19)))))),(jz.step (s3.trans (s8.trans (s12.trans (s17.trans (s18.trans s19)))))),(mz.step (s3.trans (s8.trans (s12.trans (s17.trans (s18.trans s19))))))⟩ hp
    ·refine lSl w17 6 ?_
     obtain ⟨n20,g20,hp⟩:=ae hp
     obtain ⟨p20,q20,i20,h20,j20⟩:=W.ixo (E:=(eSl eI)) w17 (i:=4) rfl rfl (jz.step (s3.trans (s8.trans (s12.trans s17)))) g20
     refine ai i20 ?_
     obtain ⟨⟨Ag,m20_0,c20_0⟩,rfl,f20_0⟩:=h20
     obtain rfl:m20_0=_:=f20_0.n
     refine ai (dJ (j20 0 _ rfl)) ?_
     refine eg (eSl eI) w17 (n:=1) (l:=([(gt ed n20)]:List (List Int))) rfl (CR.cons1 ⟨_,rfl,f20_0⟩ CR.empty) rfl λH21 w21 s21 c21=>?_
     refine ai (w21.rowo (i:=0) rfl) ?_
     obtain ⟨l22,e22,hp⟩:=ae hp
     refine fk (eSl eI) w21 (i:=6) rfl rfl (mz.step (s3.trans (s8.trans (s12.trans (s17.trans s21))))) c21 (show 1=List.length ([(gt ed n20)]:List (List Int)) from rfl) rfl e22 λa23 d23 H23 w23 s23 c23 x23=>?_
     refine b_ w23 7 λH24 w24 s24=>?_
     obtain ⟨w25,s25⟩:=w24.pp [3,4,5,6,7] 8
     exact af.j9_P (@ih) rfl rfl rfl ⟨w25,(s0.trans (s3.trans (s8.trans (s12.trans (s17.trans (s21.trans (s23.trans (s24.trans s25)))))))),(oZ.step (s3.trans (s8.trans (s12.trans (s17.trans (s21.trans (s23.trans (s24.trans s25)))))))),(jz.step (s3.trans (s8.trans (s12.trans (s17.trans (s21.trans (s23.trans (s24.trans s25)))))))),(c23.step (s24.trans s25))⟩ hp
  ·refine lI w0 4 ?_
   refine lSl w0 4 ?_
   refine b_ w0 1 λH26 w26 s26=>?_
   refine b_ w26 1 λH27 w27 s27=>?_
   refine lI w27 1 ?_
   refine lSl w27 1 ?_
   obtain ⟨w28,s28⟩:=w27.pp [3] 5
   exact aA hp ⟨_,_,_,_,rfl,rfl,w28,(s0.trans (s26.trans (s27.trans s28))),(mz.step (s26.trans (s27.trans s28)))⟩
def af.pj10 (F:Nat)  (iK:Int) (iL:Int) (kz:Be):Option (Int×List (List Int)):=(aB.p F kz).bind λr2=>af.pl1021 F F iK r2 iL ([]:List (List Int)) 0
theorem af.j10_P   {xO iK iL sM sN o_ lu pc sO sP sQ kz sR sS} (xP:o_=sQ.length) (xQ:pc=kz.length) (h0:Out H0 Ri H (Rs.own ⟨sM,o_,sO⟩ (eSl eI).z sR::Rs.blk lu [.i xO,.sl ⟨sM,o_,sO⟩]::Rs.own ⟨sN,pc,sP⟩ (eSl eI).z sS::R0) λR=>CR (eSl eI) H R sR sQ/\CR (eSl eI) H R sS kz) {r:Bh} (hp:af.pj10 F  iK iL kz=some r):Rt (af.j10 F (aW.tw F) (ap.tw F) (aZ.tw F) (aX.tw F) (aB.tw F) (aS.tw F)  lu 0 iK iL ⟨sN,pc,sP⟩ H) (af.Q H0 Ri R0  r):=by
 obtain ⟨w0,s0,xR,xS⟩:=h0
 subst xP
 subst xQ
 unfold af.pj10 at hp
 unfold af.j10
 obtain ⟨w1,s1,f1⟩:=w0.frz (i:=2) (eSl eI) rfl xS
 obtain ⟨r2,e2,hp⟩:=ae hp
 refine bd (aB.P rfl ⟨w1,f1⟩ e2) ?_
 rintro _ H3 ⟨o0a_3,o0n_3,o0c_3,o0k_3,rfl,rfl,w3,s3,f3_0⟩
 refine br ?_
 refine cA w3 λH4 w4 s4=>?_
 refine b_ w4 0 λH5 w5 s5=>?_
 refine b_ w5 0 λH6 w6 s6=>?_
 obtain ⟨w7,s7⟩:=w6.nilS (eSl eI).z (by decide)
 obtain ⟨w8,s8⟩:=w7.pp [3,4,2,0,1] 5
 exact af.l1021_P F rfl rfl rfl ⟨w8,(s0.trans (s1.trans (s3.trans (s4.trans (s5.trans (s6.trans (s7.trans s8))))))),(xR.step (s1.trans (s3.trans (s4.trans (s5.trans (s6.trans (s7.trans s8))))))),(f3_0.step (s4.trans (s5.trans (s6.trans (s7.trans s8))))),((CR.empty:CR (eSl eI) _ _ [] []).step s8)⟩ hp
def af.pl125 (F:Nat) :Nat->List Int->Int->Int->List (List Int)->Int->Option (Int×List (List Int))
 | 0,_,_,_,_,_=>none
 | k+1,fd,er,eQ,gG,es=>(bif (decide (es<(fd.length:Int))) then ((ix fd es).bind λn1=>(bif (decide ((gt fd n1)>0)) then ((aW.p F er).bind λr2=>(ap.p F r2 (gt fd n1)).bind λr5=>(apn gG ([r5]:List (List Int))).bind λl10=>af.pj11 F (af.pl125 F k) fd er eQ l10 es) else (af.pl32093 F (af.pl125 F k) F fd er (wrap .i64 (eQ - 1)) gG es (gt fd n1) 0))) else (af.pj10 F er eQ gG))
theorem af.l125_P  :∀ k,af.S125 H0 Ri R0  (af.l125 F (aW.tw F) (ap.tw F) (aZ.tw F) (aX.tw F) (aB.tw F) (aS.tw F)  k) (af.pl125 F  k):=by
 intro k
 induction k with
 | zero=>unfold af.S125;intros;rename_i hp;cases hp
 | succ k ih=>
  intro qZ q_ er eQ es nT nU nV mg fO mh fX mi nW nX nY fd nZ gG n_ oa H xT xU xV h0 r hp
  obtain ⟨w0,s0,pd,pe,pf⟩:=h0
  subst xT
  subst xU
  subst xV
  unfold af.pl125 at hp
  unfold af.l125
  refine lSl w0 0 ?_
  refine aE hp (λhp=>?_) λhp=>?_
  ·refine lSl w0 0 ?_
   obtain ⟨n1,g1,hp⟩:=ae hp
   obtain ⟨p1,q1,i1,h1,j1⟩:=ROs.ixr pd rfl g1
   refine ai i1 ?_
   have h1:_=[_]:=h1
   subst h1
   refine ai (ck (j1 0 _ rfl)) ?_
   refine aE hp (λhp=>?_) λhp=>?_
   ·obtain ⟨r2,e2,hp⟩:=ae hp
    refine bd (aW.P ⟨w0,trivial⟩ e2) ?_
    rintro _ H3 ⟨o0a_3,o0n_3,o0c_3,o0k_3,rfl,rfl,w3,s3,f3_0⟩
    refine br ?_
    have f4:=W.borrow1 eI w3 f3_0
    obtain ⟨w4,s4⟩:=w3.right1
    obtain ⟨r5,e5,hp⟩:=ae hp
    refine bd (ap.P rfl ⟨w4,f4⟩ e5) ?_
    rintro _ H6 ⟨o0a_6,o0n_6,o0c_6,o0k_6,rfl,rfl,w6,s6,f6_0⟩
    obtain ⟨w7,s7⟩:=W.frame1 w3 w6 s6
    refine br ?_
    obtain ⟨w8,s8,f8⟩:=w7.frz (i:=1) eI rfl (CR.flat (jB .i64) f6_0)
    refine eg (eSl eI) w8 (n:=1) (l:=([r5]:List (List Int))) rfl (CR.cons1 ⟨_,rfl,f8⟩ CR.empty) rfl λH9 w9 s9 c9=>?_
    refine ai (w9.rowo (i:=0) rfl) ?_
    obtain ⟨l10,e10,hp⟩:=ae hp
    refine fk (eSl eI) w9 (i:=5) rfl rfl (pf.step (s3.trans (s7.trans (s8.trans s9)))) c9 (show 1=List.length ([r5]:List (List Int)) from rfl) rfl e10 λa11 d11 H11 w11 s11 c11 x11=>?_
    obtain ⟨w12,s12⟩:=w11.pp [2,3,4,5] 6
    exact af.j11_P (@ih) rfl rfl rfl ⟨w12,(s0.trans (s3.trans (s7.trans (s8.trans (s9.trans (s11.trans s12)))))),(pd.step (s3.trans (s7.trans (s8.trans (s9.trans (s11.trans s12)))))),(pe.step (s3.trans (s7.trans (s8.trans (s9.trans (s11.trans s12)))))),(c11.step s12)⟩ hp
   ·exact af.l32093_P (@ih) F rfl rfl rfl ⟨w0,s0,pd,pe,pf⟩ hp
  ·obtain ⟨w13,s13⟩:=w0.pp [1,2,3] 4
   exact af.j10_P rfl rfl ⟨w13,(s0.trans s13),(pe.step s13),(pf.step s13)⟩ hp
def af.p (F:Nat) (aa:Int) (ax:AZ):Option (Int×List (List Int)):=af.pl125 F F ax aa 0 ([]:List (List Int)) 0
theorem af.P {aa bA aR bB ax} (cP:aR=ax.length) (h0:Inn H R0 λR=>ROs eI H R ⟨bA,aR,bB⟩ ax) {r:Bh} (hp:af.p F aa ax=some r):Rt (af.tw F aa ⟨bA,aR,bB⟩ H) (af.Q H R0 R0  r):=by
 obtain ⟨w0,cx⟩:=h0
 subst cP
 unfold af.p at hp
 unfold af.tw af.twX
 have s0:=w0.rf
 refine cA w0 λH1 w1 s1=>?_
 refine cA w1 λH2 w2 s2=>?_
 refine lI w2 1 ?_
 refine eg (eSl eI) w2 (n:=0) (l:=([]:List (List Int))) rfl CR.empty rfl λH3 w3 s3 c3=>?_
 obtain ⟨w4,s4⟩:=w3.nilS (eSl eI).z (by decide)
 obtain ⟨w5,s5⟩:=w4.pp [3,0,2,1] 4
 exact af.l125_P F rfl rfl (show 0=List.length ([]:List (List Int)) from rfl) ⟨w5,(s0.trans (s1.trans (s2.trans (s3.trans (s4.trans s5))))),(cx.step (s1.trans (s2.trans (s3.trans (s4.trans s5))))),((CR.empty:CR (eSl eI) _ _ [] []).step s5),(c3.step (s4.trans s5))⟩ hp
def cZ.Q (H0:Hp) (Ri R0:Ba)  (r:BD) (v:AV) (H':Hp):Prop:=∃ o1a:ON,∃ o1n:Nat,∃ o1c:Cap,∃ o1k:List AV,v=(.tup [(.agg [(.i r.1),(.sl ⟨o1a,o1n,o1c⟩)]),(.i r.2.2)])/\o1n=(r.2.1).length/\Out H0 Ri H' (Rs.own ⟨o1a,o1n,o1c⟩ (eSl eI).z o1k::R0) λR=>CR (eSl eI) H' R o1k (r.2.1)
def cZ.p (F:Nat) (aa:Int) (ax:AZ):Option (Int×List (List Int)×Int):=(aY.p F aa ax).bind λr3=>(bif (!r3) then (some (0,([]:List (List Int)),1)) else ((af.p F aa ax).bind λr9=>some (r9.1,r9.2,0)))
theorem cZ.P {aa bA aR bB ax} (cP:aR=ax.length) (h0:Inn H R0 λR=>ROs eI H R ⟨bA,aR,bB⟩ ax) {r:BD} (hp:cZ.p F aa ax=some r):Rt (cZ.tw F aa ⟨bA,aR,bB⟩ H) (cZ.Q H R0 R0  r):=by
 obtain ⟨w0,cx⟩:=h0
 subst cP
 unfold cZ.p at hp
 unfold cZ.tw cZ.twX
 have s0:=w0.rf
 refine cA w0 λH1 w1 s1=>?_
 refine cA w1 λH2 w2 s2=>?_
 refine lI w2 1 ?_
 refine lSl w2 1 ?_
 obtain ⟨r3,e3,hp⟩:=ae hp
 refine bd (aY.P rfl ⟨w2,(cx.step (s1.trans s2))⟩ e3) ?_
 rintro _ H4 ⟨rfl,w4,s4,_⟩
 refine br ?_
 refine aE hp (λhp=>?_) λhp=>?_
 ·refine b_ w4 0 λH5 w5 s5=>?_
  refine b_ w5 0 λH6 w6 s6=>?_
  refine lI w6 0 ?_
  refine lSl w6 0 ?_
  obtain ⟨w7,s7⟩:=w6.nilS (eSl eI).z (by decide)
  obtain ⟨w8,s8⟩:=w7.pp [0] 3
  exact aA hp ⟨_,_,_,_,rfl,rfl,w8,(s0.trans (s1.trans (s2.trans (s4.trans (s5.trans (s6.trans (s7.trans s8))))))),((CR.empty:CR (eSl eI) _ _ [] []).step s8)⟩
 ·refine lI w4 1 ?_
  refine lSl w4 1 ?_
  obtain ⟨r9,e9,hp⟩:=ae hp
  refine bd (af.P rfl ⟨w4,(cx.step (s1.trans (s2.trans s4)))⟩ e9) ?_
  rintro _ H10 ⟨o1a_10,o1n_10,o1c_10,o1k_10,rfl,rfl,w10,s10,f10_0⟩
  refine br (br (br (br (br ?_))))
  refine b_ w10 1 λH11 w11 s11=>?_
  refine b_ w11 1 λH12 w12 s12=>?_
  refine lI w12 1 ?_
  refine lSl w12 1 ?_
  obtain ⟨w13,s13⟩:=w12.pp [0] 3
  exact aA hp ⟨_,_,_,_,rfl,rfl,w13,(s0.trans (s1.trans (s2.trans (s4.trans (s10.trans (s11.trans (s12.trans s13))))))),(f10_0.step (s11.trans (s12.trans s13)))⟩
def cJ.Q (H0:Hp) (Ri R0:Ba)  (r:Bool) (v:AV) (H':Hp):Prop:=v=(.bool r)/\Out H0 Ri H' (R0) λR=>True
def cJ.p (F:Nat) (aa:Int) (ag:Int) (dR:Int):Option (Bool):=(bif (decide (ag<=aa)) then (some (decide (aa<=dR))) else (some false))
theorem cJ.P {aa ag dR}  (h0:Inn H R0 λR=>True) {r:Bool} (hp:cJ.p F aa ag dR=some r):Rt (cJ.tw F aa ag dR H) (cJ.Q H R0 R0  r):=by
 obtain ⟨w0,_⟩:=h0
 unfold cJ.p at hp
 unfold cJ.tw cJ.twX
 have s0:=w0.rf
 refine aE hp (λhp=>?_) λhp=>?_
 ·exact aA hp ⟨rfl,w0,s0,trivial⟩
 ·exact aA hp ⟨rfl,w0,s0,trivial⟩
def c_.Q (H0:Hp) (Ri R0:Ba)  (r:Bool) (v:AV) (H':Hp):Prop:=v=(.bool r)/\Out H0 Ri H' (R0) λR=>True
def c_.p (F:Nat) (aa:Int) (ag:Int):Option (Bool):=(bif (ag != 0) then ((cJ.p F ag (wrap .i64 (1 - aa)) (wrap .i64 (aa - 1))).bind λr1=>some r1) else (some false))
theorem c_.P {aa ag}  (h0:Inn H R0 λR=>True) {r:Bool} (hp:c_.p F aa ag=some r):Rt (c_.tw F aa ag H) (c_.Q H R0 R0  r):=by
 obtain ⟨w0,_⟩:=h0
 unfold c_.p at hp
 unfold c_.tw c_.twX
 have s0:=w0.rf
 refine aE hp (λhp=>?_) λhp=>?_
 ·obtain ⟨r1,e1,hp⟩:=ae hp
  refine bd (cJ.P ⟨w0,trivial⟩ e1) ?_
  rintro _ H2 ⟨rfl,w2,s2,_⟩
  refine br ?_
  exact aA hp ⟨rfl,w2,(s0.trans s2),trivial⟩
 ·exact aA hp ⟨rfl,w0,s0,trivial⟩
def cS.Q (H0:Hp) (Ri R0:Ba) (cT:Int) (ee:Sl) (ag:Nat) (r:Bool) (v:AV) (H':Hp):Prop:=v=(.bool r)/\Out H0 Ri H' (Rs.blk ag [.i cT,.sl ee]::R0) λR=>True
def cS.p (F:Nat) (aa:Int) (cT:Int):Option (Bool):=(c_.p F cT aa).bind λr1=>some (!r1)
theorem cS.P {aa cT ee ag}  (h0:Inn H (Rs.blk ag [.i cT,.sl ee]::R0) λR=>True) {r:Bool} (hp:cS.p F aa cT=some r):Rt (cS.tw F aa ag 0 H) (cS.Q H (Rs.blk ag [.i cT,.sl ee]::R0) R0 cT ee ag r):=by
 obtain ⟨w0,_⟩:=h0
 unfold cS.p at hp
 unfold cS.tw cS.twX
 have s0:=w0.rf
 refine lI w0 0 ?_
 obtain ⟨r1,e1,hp⟩:=ae hp
 refine bd (c_.P ⟨w0,trivial⟩ e1) ?_
 rintro _ H2 ⟨rfl,w2,s2,_⟩
 refine br ?_
 exact aA hp ⟨rfl,w2,(s0.trans s2),trivial⟩
def bi.Q (H0:Hp) (Ri R0:Ba) (cT:Int) (ee:Sl) (ag:Nat) (r:Int) (v:AV) (H':Hp):Prop:=v=(.i r)/\Out H0 Ri H' (Rs.blk ag [.i cT,.sl ee]::R0) λR=>True
def bi.S13 (H0:Hp) (Ri R0:Ba) (gI:Int) (mA:Sl) (kA:Nat) (C:Sl->Nat->Nat->Int->Int->Hp->OA) (pC:List Int->Int->Int->Int->Option (Int)):Prop:=∀ {hP gi hQ dh fw et},∀ {H:Hp},gi=dh.length->(Out H0 Ri H (Rs.blk kA [.i gI,.sl mA]::R0) λR=>ROs eI H R ⟨hP,gi,hQ⟩ dh)->∀ {r:Int},pC dh gI fw et=some r->Rt (C ⟨hP,gi,hQ⟩ kA 0 fw et H) (bi.Q H0 Ri R0 gI mA kA r)
def bi.pl13 (F:Nat) :Nat->List Int->Int->Int->Int->Option (Int)
 | 0,_,_,_,_=>none
 | k+1,dh,gI,fw,et=>(bif (decide (et<fw)) then ((ix dh et).bind λn1=>(cS.p F (gt dh n1) gI).bind λr2=>(bif r2 then (some et) else (bi.pl13 F k dh gI fw (wrap .i64 (et+1))))) else (some (-1)))
theorem bi.l13_P {gI mA kA} :∀ k,bi.S13 H0 Ri R0 gI mA kA (bi.l13 F (cS.tw F)  k) (bi.pl13 F  k):=by
 intro k
 induction k with
 | zero=>unfold bi.S13;intros;rename_i hp;cases hp
 | succ k ih=>
  intro hP gi hQ dh fw et H nz h0 r hp
  obtain ⟨w0,s0,gF⟩:=h0
  subst nz
  unfold bi.pl13 at hp
  unfold bi.l13
  refine aE hp (λhp=>?_) λhp=>?_
  ·obtain ⟨n1,g1,hp⟩:=ae hp
   obtain ⟨p1,q1,i1,h1,j1⟩:=ROs.ixr gF rfl g1
   refine ai i1 ?_
   have h1:_=[_]:=h1
   subst h1
   refine ai (ck (j1 0 _ rfl)) ?_
   obtain ⟨r2,e2,hp⟩:=ae hp
   refine bd (cS.P ⟨w0,trivial⟩ e2) ?_
   rintro _ H3 ⟨rfl,w3,s3,_⟩
   refine br ?_
   refine aE hp (λhp=>?_) λhp=>?_
   ·exact aA hp ⟨rfl,w3,(s0.trans s3),trivial⟩
   ·exact ih rfl ⟨w3,(s0.trans s3),(gF.step s3)⟩ hp
  ·exact aA hp ⟨rfl,w0,s0,trivial⟩
def bi.p (F:Nat) (ah:AZ) (cT:Int):Option (Int):=bi.pl13 F F ah cT (ah.length:Int) 0
theorem bi.P {ay ak ag az ah cT ee} (bE:ak=ah.length) (h0:Inn H (Rs.blk ag [.i cT,.sl ee]::R0) λR=>ROs eI H R ⟨ay,ak,az⟩ ah) {r:Int} (hp:bi.p F ah cT=some r):Rt (bi.tw F ⟨ay,ak,az⟩ ag 0 H) (bi.Q H (Rs.blk ag [.i cT,.sl ee]::R0) R0 cT ee ag r):=by
 obtain ⟨w0,bx⟩:=h0
 subst bE
 unfold bi.p at hp
 unfold bi.tw bi.twX
 have s0:=w0.rf
 exact bi.l13_P F rfl ⟨w0,s0,bx⟩ hp
def dj.Q (H0:Hp) (Ri R0:Ba) (cT:Int) (ee:Sl) (ag:Nat) (r:Bool) (v:AV) (H':Hp):Prop:=v=(.bool r)/\Out H0 Ri H' (Rs.blk ag [.i cT,.sl ee]::R0) λR=>True
def dj.p (F:Nat) (ah:AZ) (cT:Int):Option (Bool):=(bi.p F ah cT).bind λr1=>some (decide (r1>=0))
theorem dj.P {ay ak ag az ah cT ee} (bE:ak=ah.length) (h0:Inn H (Rs.blk ag [.i cT,.sl ee]::R0) λR=>ROs eI H R ⟨ay,ak,az⟩ ah) {r:Bool} (hp:dj.p F ah cT=some r):Rt (dj.tw F ⟨ay,ak,az⟩ ag 0 H) (dj.Q H (Rs.blk ag [.i cT,.sl ee]::R0) R0 cT ee ag r):=by
 obtain ⟨w0,bx⟩:=h0
 subst bE
 unfold dj.p at hp
 unfold dj.tw dj.twX
 have s0:=w0.rf
 obtain ⟨r1,e1,hp⟩:=ae hp
 refine bd (bi.P rfl ⟨w0,bx⟩ e1) ?_
 rintro _ H2 ⟨rfl,w2,s2,_⟩
 refine br ?_
 exact aA hp ⟨rfl,w2,(s0.trans s2),trivial⟩
def da.Q (H0:Hp) (Ri R0:Ba)  (r:Bool) (v:AV) (H':Hp):Prop:=v=(.bool r)/\Out H0 Ri H' (R0) λR=>True
def da.p (F:Nat) (aa:Int) (ax:AZ):Option (Bool):=(cJ.p F aa 1 6).bind λr2=>(bif r2 then ((bif (decide ((ax.length:Int)<=24)) then ((dj.p F ax aa).bind λr4=>some (!r4)) else (some false))) else (some false))
theorem da.P {aa bA aR bB ax} (cP:aR=ax.length) (h0:Inn H R0 λR=>ROs eI H R ⟨bA,aR,bB⟩ ax) {r:Bool} (hp:da.p F aa ax=some r):Rt (da.tw F aa ⟨bA,aR,bB⟩ H) (da.Q H R0 R0  r):=by
 obtain ⟨w0,cx⟩:=h0
 subst cP
 unfold da.p at hp
 unfold da.tw da.twX
 have s0:=w0.rf
 refine cA w0 λH1 w1 s1=>?_
 refine lI w1 0 ?_
 obtain ⟨r2,e2,hp⟩:=ae hp
 refine bd (cJ.P ⟨w1,trivial⟩ e2) ?_
 rintro _ H3 ⟨rfl,w3,s3,_⟩
 refine br ?_
 refine aE hp (λhp=>?_) λhp=>?_
 ·refine lSl w3 0 ?_
  refine aE hp (λhp=>?_) λhp=>?_
  ·refine lSl w3 0 ?_
   obtain ⟨r4,e4,hp⟩:=ae hp
   refine bd (dj.P rfl ⟨w3,(cx.step (s1.trans s3))⟩ e4) ?_
   rintro _ H5 ⟨rfl,w5,s5,_⟩
   refine br ?_
   obtain ⟨w6,s6⟩:=w5.pp [] 1
   exact aA hp ⟨rfl,w6,(s0.trans (s1.trans (s3.trans (s5.trans s6)))),trivial⟩
  ·obtain ⟨w7,s7⟩:=w3.pp [] 1
   exact aA hp ⟨rfl,w7,(s0.trans (s1.trans (s3.trans s7))),trivial⟩
 ·obtain ⟨w8,s8⟩:=w3.pp [] 1
  exact aA hp ⟨rfl,w8,(s0.trans (s1.trans (s3.trans s8))),trivial⟩
def aK.Q (H0:Hp) (Ri R0:Ba)  (r:AZ) (v:AV) (H':Hp):Prop:=∃ o0a:ON,∃ o0n:Nat,∃ o0c:Cap,∃ o0k:List AV,v=(.sl ⟨o0a,o0n,o0c⟩)/\o0n=(r).length/\Out H0 Ri H' (Rs.own ⟨o0a,o0n,o0c⟩ eI.z o0k::R0) λR=>CR eI H' R o0k (r)
def aK.S29 (H0:Hp) (Ri R0:Ba)  (C:BA) (pC:BM):Prop:=∀ {pg mB ph hY pi fx eu},∀ {H:Hp},mB=hY.length->(Out H0 Ri H (Rs.own ⟨pg,mB,ph⟩ eI.z pi::R0) λR=>CR eI H R pi hY)->∀ {r:AZ},pC hY fx eu=some r->Rt (C ⟨pg,mB,ph⟩ fx eu H) (aK.Q H0 Ri R0  r)
def aK.pl29 (F:Nat) :Nat->List Int->Int->Int->Option (List Int)
 | 0,_,_,_=>none
 | k+1,hY,fx,eu=>(bif (decide (eu<fx)) then ((apn hY ([eu]:List Int)).bind λl2=>aK.pl29 F k l2 fx (wrap .i64 (eu+1))) else (some hY))
theorem aK.l29_P  :∀ k,aK.S29 H0 Ri R0  (aK.l29 F   k) (aK.pl29 F  k):=by
 intro k
 induction k with
 | zero=>unfold aK.S29;intros;rename_i hp;cases hp
 | succ k ih=>
  intro pg mB ph hY pi fx eu H xW h0 r hp
  obtain ⟨w0,s0,sT⟩:=h0
  subst xW
  unfold aK.pl29 at hp
  unfold aK.l29
  refine aE hp (λhp=>?_) λhp=>?_
  ·refine eg eI w0 (n:=1) (l:=([eu]:List Int)) rfl (CR.cons1 rfl CR.empty) rfl λH1 w1 s1 c1=>?_
   refine ai (w1.rowo (i:=0) rfl) ?_
   obtain ⟨l2,e2,hp⟩:=ae hp
   refine fk eI w1 (i:=1) rfl rfl (sT.step s1) c1 (show 1=List.length ([eu]:List Int) from rfl) rfl e2 λa3 d3 H3 w3 s3 c3 x3=>?_
   obtain ⟨w4,s4⟩:=w3.pp [1] 2
   exact ih rfl ⟨w4,(s0.trans (s1.trans (s3.trans s4))),(c3.step s4)⟩ hp
  ·exact aA hp ⟨_,_,_,_,rfl,rfl,w0,s0,sT⟩
def aK.p (F:Nat) (aa:Int):Option (List Int):=aK.pl29 F F ([]:List Int) aa 0
theorem aK.P {aa}  (h0:Inn H R0 λR=>True) {r:AZ} (hp:aK.p F aa=some r):Rt (aK.tw F aa H) (aK.Q H R0 R0  r):=by
 obtain ⟨w0,_⟩:=h0
 unfold aK.p at hp
 unfold aK.tw aK.twX
 have s0:=w0.rf
 obtain ⟨w1,s1⟩:=w0.nilS eI.z (by decide)
 exact aK.l29_P F rfl ⟨w1,(s0.trans s1),(CR.empty:CR eI _ _ [] [])⟩ hp
def cg.Q (H0:Hp) (Ri R0:Ba)  (r:Int) (v:AV) (H':Hp):Prop:=v=(.i r)/\Out H0 Ri H' (R0) λR=>True
def cg.p (F:Nat) (ah:AZ):Option (Int):=some (ah.length:Int)
theorem cg.P {ay ak az ah} (bE:ak=ah.length) (h0:Inn H R0 λR=>ROs eI H R ⟨ay,ak,az⟩ ah) {r:Int} (hp:cg.p F ah=some r):Rt (cg.tw F ⟨ay,ak,az⟩ H) (cg.Q H R0 R0  r):=by
 obtain ⟨w0,bx⟩:=h0
 subst bE
 unfold cg.p at hp
 unfold cg.tw cg.twX
 have s0:=w0.rf
 exact aA hp ⟨rfl,w0,s0,trivial⟩
def aO.Q (H0:Hp) (Ri R0:Ba)  (r:AZ) (v:AV) (H':Hp):Prop:=∃ o0a:ON,∃ o0n:Nat,∃ o0c:Cap,∃ o0k:List AV,v=(.sl ⟨o0a,o0n,o0c⟩)/\o0n=(r).length/\Out H0 Ri H' (Rs.own ⟨o0a,o0n,o0c⟩ eI.z o0k::R0) λR=>CR eI H' R o0k (r)
def aO.S61 (H0:Hp) (Ri R0:Ba)  (C:Int->Sl->Sl->Int->Int->Hp->OA) (pC:Int->List Int->List Int->Int->Int->Option (List Int)):Prop:=∀ {di fy ev pj pm mC mD pt pu gJ gK pv},∀ {H:Hp},mC=gJ.length->mD=gK.length->(Out H0 Ri H (Rs.own ⟨pj,mC,pt⟩ eI.z pv::R0) λR=>CR eI H R pv gJ/\ROs eI H R ⟨pm,mD,pu⟩ gK)->∀ {r:AZ},pC di gJ gK fy ev=some r->Rt (C di ⟨pj,mC,pt⟩ ⟨pm,mD,pu⟩ fy ev H) (aO.Q H0 Ri R0  r)
def aO.pl61 (F:Nat) :Nat->Int->List Int->List Int->Int->Int->Option (List Int)
 | 0,_,_,_,_,_=>none
 | k+1,di,gJ,gK,fy,ev=>(bif (decide (ev<fy)) then ((ix gK ev).bind λn1=>(ix gJ (wrap .i64 (di - ev))).bind λn2=>(some (gJ.set n2 (wrap .i64 (di - (gt gK n1))))).bind λl3=>aO.pl61 F k di l3 gK fy (wrap .i64 (ev+1))) else (some gJ))
theorem aO.l61_P  :∀ k,aO.S61 H0 Ri R0  (aO.l61 F (cg.tw F)  k) (aO.pl61 F  k):=by
 intro k
 induction k with
 | zero=>unfold aO.S61;intros;rename_i hp;cases hp
 | succ k ih=>
  intro di fy ev pj pm mC mD pt pu gJ gK pv H xX xY h0 r hp
  obtain ⟨w0,s0,pz,sU⟩:=h0
  subst xX
  subst xY
  unfold aO.pl61 at hp
  unfold aO.l61
  refine aE hp (λhp=>?_) λhp=>?_
  ·obtain ⟨n1,g1,hp⟩:=ae hp
   obtain ⟨p1,q1,i1,h1,j1⟩:=ROs.ixr sU rfl g1
   refine ai i1 ?_
   have h1:_=[_]:=h1
   subst h1
   refine ai (ck (j1 0 _ rfl)) ?_
   obtain ⟨n2,g2,hp⟩:=ae hp
   obtain ⟨p2,q2,i2,h2,j2⟩:=W.ixo (E:=eI) w0 (i:=0) rfl rfl pz g2
   refine ai i2 ?_
   obtain ⟨l3,e3,hp⟩:=ae hp
   refine eM eI w0 (i:=0) (j:=0) (p:=p2) rfl rfl pz g2 i2 e3 rfl rfl (λ_ h=>by have h:_=[_]:=h;subst h;exact rfl) λH4 k4 w4 s4 c4=>?_
   exact ih ((ef e3).symm) rfl ⟨w4,(s0.trans s4),c4,(sU.step s4)⟩ hp
  ·exact aA hp ⟨_,_,_,_,rfl,rfl,w0,s0,pz⟩
def aO.p (F:Nat) (ah:AZ):Option (List Int):=(cg.p F ah).bind λr1=>(mkn (ah.length:Int) (0:Int)).bind λl3=>aO.pl61 F F (wrap .i64 (r1 - 1)) l3 ah (ah.length:Int) 0
theorem aO.P {ay ak az ah} (bE:ak=ah.length) (h0:Inn H R0 λR=>ROs eI H R ⟨ay,ak,az⟩ ah) {r:AZ} (hp:aO.p F ah=some r):Rt (aO.tw F ⟨ay,ak,az⟩ H) (aO.Q H R0 R0  r):=by
 obtain ⟨w0,bx⟩:=h0
 subst bE
 unfold aO.p at hp
 unfold aO.tw aO.twX
 have s0:=w0.rf
 obtain ⟨r1,e1,hp⟩:=ae hp
 refine bd (cg.P rfl ⟨w0,bx⟩ e1) ?_
 rintro _ H2 ⟨rfl,w2,s2,_⟩
 refine br ?_
 obtain ⟨l3,e3,hp⟩:=ae hp
 refine mK eI (0:Int) w2 rfl rfl rfl e3 λH4 k4 w4 s4 c4=>?_
 exact aO.l61_P F rfl rfl ⟨w4,(s0.trans (s2.trans s4)),c4,(bx.step (s2.trans s4))⟩ hp
def bv.Q (H0:Hp) (Ri R0:Ba) (ay:ON) (ak:Nat) (az:Cap) (cD:Bool) (cE cF:Bd) (r:AZ) (v:AV) (H':Hp):Prop:=∃ eL:List AV,v=(.tup [])/\ak=(r).length/\Out H0 Ri H' (Rs.ow cD ⟨ay,ak,az⟩ eI.z cE eL cF::R0) λR=>CR eI H' R eL (r)
def bv.S3 (H0:Hp) (Ri R0:Ba) (bU:ON) (bF:Nat) (bV:Cap) (cp:Bool) (cq ct:Bd) (C:BA) (pC:BM):Prop:=∀ {fh pA ew dG},∀ {H:Hp},bF=fh.length->(Out H0 Ri H (Rs.ow cp ⟨bU,bF,bV⟩ eI.z cq pA ct::R0) λR=>CR eI H R pA fh)->∀ {r:AZ},pC fh ew dG=some r->Rt (C ⟨bU,bF,bV⟩ ew dG H) (bv.Q H0 Ri R0 bU bF bV cp cq ct r)
def bv.pl3 (F:Nat) :Nat->List Int->Int->Int->Option (List Int)
 | 0,_,_,_=>none
 | k+1,fh,ew,dG=>(bif (decide (ew<dG)) then ((ix fh dG).bind λn1=>(ix fh ew).bind λn2=>(ix fh ew).bind λn3=>(some (fh.set n3 (gt fh n1))).bind λl4=>(ix l4 dG).bind λn6=>(some (l4.set n6 (gt fh n2))).bind λl7=>bv.pl3 F k l7 (wrap .i64 (ew+1)) (wrap .i64 (dG - 1))) else (some fh))
theorem bv.l3_P {bU bF bV cp cq ct} :∀ k,bv.S3 H0 Ri R0 bU bF bV cp cq ct (bv.l3 F   k) (bv.pl3 F  k):=by
 intro k
 induction k with
 | zero=>unfold bv.S3;intros;rename_i hp;cases hp
 | succ k ih=>
  intro fh pA ew dG H xZ h0 r hp
  obtain ⟨w0,s0,kB⟩:=h0
  subst xZ
  unfold bv.pl3 at hp
  unfold bv.l3
  refine aE hp (λhp=>?_) λhp=>?_
  ·obtain ⟨n1,g1,hp⟩:=ae hp
   obtain ⟨p1,q1,i1,h1,j1⟩:=W.ixo (E:=eI) w0 (i:=0) rfl rfl kB g1
   refine ai i1 ?_
   have h1:_=[_]:=h1
   subst h1
   refine ai (ck (j1 0 _ rfl)) ?_
   obtain ⟨n2,g2,hp⟩:=ae hp
   obtain ⟨p2,q2,i2,h2,j2⟩:=W.ixo (E:=eI) w0 (i:=0) rfl rfl kB g2
   refine ai i2 ?_
   have h2:_=[_]:=h2
   subst h2
   refine ai (ck (j2 0 _ rfl)) ?_
   obtain ⟨n3,g3,hp⟩:=ae hp
   obtain ⟨p3,q3,i3,h3,j3⟩:=W.ixo (E:=eI) w0 (i:=0) rfl rfl kB g3
   refine ai i3 ?_
   obtain ⟨l4,e4,hp⟩:=ae hp
   refine eM eI w0 (i:=0) (j:=0) (p:=p3) rfl rfl kB g3 i3 e4 rfl rfl (λ_ h=>by have h:_=[_]:=h;subst h;exact rfl) λH5 k5 w5 s5 c5=>?_
   obtain ⟨n6,g6,hp⟩:=ae hp
   obtain ⟨p6,q6,i6,h6,j6⟩:=W.ixo (E:=eI) w5 (i:=0) rfl rfl c5 g6
   refine ai i6 ?_
   obtain ⟨l7,e7,hp⟩:=ae hp
   refine eM eI w5 (i:=0) (j:=0) (p:=p6) rfl rfl c5 g6 i6 e7 rfl rfl (λ_ h=>by have h:_=[_]:=h;subst h;exact rfl) λH8 k8 w8 s8 c8=>?_
   exact ih ((ef e4).symm.trans (ef e7).symm) ⟨w8,(s0.trans (s5.trans s8)),c8⟩ hp
  ·exact aA hp ⟨_,rfl,rfl,w0,s0,kB⟩
def bv.p (F:Nat) (ah:AZ):Option (List Int):=bv.pl3 F F ah 0 (wrap .i64 ((ah.length:Int) - 1))
theorem bv.P {ay ak az ah cD cE cF dI} (bE:ak=ah.length) (h0:Inn H (Rs.ow cD ⟨ay,ak,az⟩ eI.z cE dI cF::R0) λR=>CR eI H R dI ah) {r:AZ} (hp:bv.p F ah=some r):Rt (bv.tw F ⟨ay,ak,az⟩ H) (bv.Q H (Rs.ow cD ⟨ay,ak,az⟩ eI.z cE dI cF::R0) R0 ay ak az cD cE cF r):=by
 obtain ⟨w0,bx⟩:=h0
 subst bE
 unfold bv.p at hp
 unfold bv.tw bv.twX
 have s0:=w0.rf
 exact bv.l3_P F rfl ⟨w0,s0,bx⟩ hp
def bM.Q (H0:Hp) (Ri R0:Ba)  (r:AZ) (v:AV) (H':Hp):Prop:=∃ o0a:ON,∃ o0n:Nat,∃ o0c:Cap,∃ o0k:List AV,v=(.sl ⟨o0a,o0n,o0c⟩)/\o0n=(r).length/\Out H0 Ri H' (Rs.own ⟨o0a,o0n,o0c⟩ eI.z o0k::R0) λR=>CR eI H' R o0k (r)
def bM.p (F:Nat) (aa:Int):Option (List Int):=(aK.p F aa).bind λr1=>(bv.p F r1).bind λr3=>some r3
theorem bM.P {aa}  (h0:Inn H R0 λR=>True) {r:AZ} (hp:bM.p F aa=some r):Rt (bM.tw F aa H) (bM.Q H R0 R0  r):=by
 obtain ⟨w0,_⟩:=h0
 unfold bM.p at hp
 unfold bM.tw bM.twX
 have s0:=w0.rf
 obtain ⟨r1,e1,hp⟩:=ae hp
 refine bd (aK.P ⟨w0,trivial⟩ e1) ?_
 rintro _ H2 ⟨o0a_2,o0n_2,o0c_2,o0k_2,rfl,rfl,w2,s2,f2_0⟩
 refine br ?_
 obtain ⟨r3,e3,hp⟩:=ae hp
 refine bd (bv.P rfl ⟨w2,f2_0⟩ e3) ?_
 rintro _ H4 ⟨sV,rfl,hl4_0,w4,s4,f4_0⟩
 exact aA hp ⟨_,_,_,_,rfl,hl4_0,w4,(s0.trans (s2.trans s4)),f4_0⟩
def aJ.Q (H0:Hp) (Ri R0:Ba)  (r:AZ) (v:AV) (H':Hp):Prop:=∃ o0a:ON,∃ o0n:Nat,∃ o0c:Cap,∃ o0k:List AV,v=(.sl ⟨o0a,o0n,o0c⟩)/\o0n=(r).length/\Out H0 Ri H' (Rs.own ⟨o0a,o0n,o0c⟩ eI.z o0k::R0) λR=>CR eI H' R o0k (r)
def aJ.S29 (H0:Hp) (Ri R0:Ba)  (C:BN) (pC:List Int->List Int->Int->Int->Option (List Int)):Prop:=∀ {dN pB dl mE dO pD bQ gL dP fz ey},∀ {H:Hp},dl=bQ.length->mE=gL.length->(Out H0 Ri H (Rs.own ⟨dN,dl,dO⟩ eI.z dP::R0) λR=>CR eI H R dP bQ/\ROs eI H R ⟨pB,mE,pD⟩ gL)->∀ {r:AZ},pC bQ gL fz ey=some r->Rt (C ⟨dN,dl,dO⟩ ⟨pB,mE,pD⟩ fz ey H) (aJ.Q H0 Ri R0  r)
def aJ.pl29 (F:Nat) :Nat->List Int->List Int->Int->Int->Option (List Int)
 | 0,_,_,_,_=>none
 | k+1,bQ,gL,fz,ey=>(bif (decide (ey<fz)) then ((ix gL ey).bind λn1=>(ix bQ (gt gL n1)).bind λn2=>(some (bQ.set n2 ey)).bind λl3=>aJ.pl29 F k l3 gL fz (wrap .i64 (ey+1))) else (some bQ))
theorem aJ.l29_P  :∀ k,aJ.S29 H0 Ri R0  (aJ.l29 F   k) (aJ.pl29 F  k):=by
 intro k
 induction k with
 | zero=>unfold aJ.S29;intros;rename_i hp;cases hp
 | succ k ih=>
  intro dN pB dl mE dO pD bQ gL dP fz ey H gg x_ h0 r hp
  obtain ⟨w0,s0,ec,sW⟩:=h0
  subst gg
  subst x_
  unfold aJ.pl29 at hp
  unfold aJ.l29
  refine aE hp (λhp=>?_) λhp=>?_
  ·obtain ⟨n1,g1,hp⟩:=ae hp
   obtain ⟨p1,q1,i1,h1,j1⟩:=ROs.ixr sW rfl g1
   refine ai i1 ?_
   have h1:_=[_]:=h1
   subst h1
   refine ai (ck (j1 0 _ rfl)) ?_
   obtain ⟨n2,g2,hp⟩:=ae hp
   obtain ⟨p2,q2,i2,h2,j2⟩:=W.ixo (E:=eI) w0 (i:=0) rfl rfl ec g2
   refine ai i2 ?_
   obtain ⟨l3,e3,hp⟩:=ae hp
   refine eM eI w0 (i:=0) (j:=0) (p:=p2) rfl rfl ec g2 i2 e3 rfl rfl (λ_ h=>by have h:_=[_]:=h;subst h;exact rfl) λH4 k4 w4 s4 c4=>?_
   exact ih ((ef e3).symm) rfl ⟨w4,(s0.trans s4),c4,(sW.step s4)⟩ hp
  ·exact aA hp ⟨_,_,_,_,rfl,rfl,w0,s0,ec⟩
def aJ.p (F:Nat) (ah:AZ):Option (List Int):=(mkn (ah.length:Int) (0:Int)).bind λl1=>aJ.pl29 F F l1 ah (ah.length:Int) 0
theorem aJ.P {ay ak az ah} (bE:ak=ah.length) (h0:Inn H R0 λR=>ROs eI H R ⟨ay,ak,az⟩ ah) {r:AZ} (hp:aJ.p F ah=some r):Rt (aJ.tw F ⟨ay,ak,az⟩ H) (aJ.Q H R0 R0  r):=by
 obtain ⟨w0,bx⟩:=h0
 subst bE
 unfold aJ.p at hp
 unfold aJ.tw aJ.twX
 have s0:=w0.rf
 obtain ⟨l1,e1,hp⟩:=ae hp
 refine mK eI (0:Int) w0 rfl rfl rfl e1 λH2 k2 w2 s2 c2=>?_
 exact aJ.l29_P F rfl rfl ⟨w2,(s0.trans s2),c2,(bx.step s2)⟩ hp
def cw.Q (H0:Hp) (Ri R0:Ba)  (r:Int) (v:AV) (H':Hp):Prop:=v=(.i r)/\Out H0 Ri H' (R0) λR=>True
def cw.p (F:Nat) (aa:Int):Option (Int):=(bif (decide (aa<0)) then (some (wrap .i64 (0 - aa))) else (some aa))
theorem cw.P {aa}  (h0:Inn H R0 λR=>True) {r:Int} (hp:cw.p F aa=some r):Rt (cw.tw F aa H) (cw.Q H R0 R0  r):=by
 obtain ⟨w0,_⟩:=h0
 unfold cw.p at hp
 unfold cw.tw cw.twX
 have s0:=w0.rf
 refine aE hp (λhp=>?_) λhp=>?_
 ·exact aA hp ⟨rfl,w0,s0,trivial⟩
 ·exact aA hp ⟨rfl,w0,s0,trivial⟩
def bD.Q (H0:Hp) (Ri R0:Ba) (ay:ON) (ak:Nat) (az:Cap) (cD:Bool) (cE cF:Bd) (r:AZ) (v:AV) (H':Hp):Prop:=∃ eL:List AV,v=(.tup [])/\ak=(r).length/\Out H0 Ri H' (Rs.ow cD ⟨ay,ak,az⟩ eI.z cE eL cF::R0) λR=>CR eI H' R eL (r)
def bD.p (F:Nat) (ah:AZ) (ag:Int):Option (List Int):=(ix ah ag).bind λn1=>(ix ah (wrap .i64 (ag - 1))).bind λn2=>(ix ah (wrap .i64 (ag - 1))).bind λn3=>(some (ah.set n3 (gt ah n1))).bind λl4=>(ix l4 ag).bind λn6=>(some (l4.set n6 (gt ah n2))).bind λl7=>some l7
theorem bD.P {ay ak az ah cD cE cF dI ag} (bE:ak=ah.length) (h0:Inn H (Rs.ow cD ⟨ay,ak,az⟩ eI.z cE dI cF::R0) λR=>CR eI H R dI ah) {r:AZ} (hp:bD.p F ah ag=some r):Rt (bD.tw F ⟨ay,ak,az⟩ ag H) (bD.Q H (Rs.ow cD ⟨ay,ak,az⟩ eI.z cE dI cF::R0) R0 ay ak az cD cE cF r):=by
 obtain ⟨w0,bx⟩:=h0
 subst bE
 unfold bD.p at hp
 unfold bD.tw bD.twX
 have s0:=w0.rf
 obtain ⟨n1,g1,hp⟩:=ae hp
 obtain ⟨p1,q1,i1,h1,j1⟩:=W.ixo (E:=eI) w0 (i:=0) rfl rfl bx g1
 refine ai i1 ?_
 have h1:_=[_]:=h1
 subst h1
 refine ai (ck (j1 0 _ rfl)) ?_
 obtain ⟨n2,g2,hp⟩:=ae hp
 obtain ⟨p2,q2,i2,h2,j2⟩:=W.ixo (E:=eI) w0 (i:=0) rfl rfl bx g2
 refine ai i2 ?_
 have h2:_=[_]:=h2
 subst h2
 refine ai (ck (j2 0 _ rfl)) ?_
 obtain ⟨n3,g3,hp⟩:=ae hp
 obtain ⟨p3,q3,i3,h3,j3⟩:=W.ixo (E:=eI) w0 (i:=0) rfl rfl bx g3
 refine ai i3 ?_
 obtain ⟨l4,e4,hp⟩:=ae hp
 refine eM eI w0 (i:=0) (j:=0) (p:=p3) rfl rfl bx g3 i3 e4 rfl rfl (λ_ h=>by have h:_=[_]:=h;subst h;exact rfl) λH5 k5 w5 s5 c5=>?_
 obtain ⟨n6,g6,hp⟩:=ae hp
 obtain ⟨p6,q6,i6,h6,j6⟩:=W.ixo (E:=eI) w5 (i:=0) rfl rfl c5 g6
 refine ai i6 ?_
 obtain ⟨l7,e7,hp⟩:=ae hp
 refine eM eI w5 (i:=0) (j:=0) (p:=p6) rfl rfl c5 g6 i6 e7 rfl rfl (λ_ h=>by have h:_=[_]:=h;subst h;exact rfl) λH8 k8 w8 s8 c8=>?_
 exact aA hp ⟨_,rfl,((ef e4).symm.trans (ef e7).symm),w8,(s0.trans (s5.trans s8)),c8⟩
def aj.Q (H0:Hp) (Ri R0:Ba) (ay dD:ON) (ak cH:Nat) (az dE:Cap) (cD kC:Bool) (cE cF kD kE:Bd) (r:Bx) (v:AV) (H':Hp):Prop:=∃ eL:List AV,∃ sX:List AV,v=(.bool r.1)/\ak=(r.2.1).length/\cH=(r.2.2).length/\Out H0 Ri H' (Rs.ow cD ⟨ay,ak,az⟩ eI.z cE eL cF::Rs.ow kC ⟨dD,cH,dE⟩ eI.z kD sX kE::R0) λR=>CR eI H' R eL (r.2.1)/\CR eI H' R sX (r.2.2)
def aj.S29 (H0:Hp) (Ri R0:Ba) (bU cQ:ON) (bF cu:Nat) (bV cR:Cap) (cp dw:Bool) (cq ct dx dy:Bd) (C:Bv) (pC:By):Prop:=∀ {au bN hZ pE bg f_},∀ {H:Hp},bF=au.length->cu=bN.length->(Out H0 Ri H (Rs.ow cp ⟨bU,bF,bV⟩ eI.z cq hZ ct::Rs.ow dw ⟨cQ,cu,cR⟩ eI.z dx pE dy::R0) λR=>CR eI H R hZ au/\CR eI H R pE bN)->∀ {r:Bx},pC au bN bg f_=some r->Rt (C ⟨bU,bF,bV⟩ ⟨cQ,cu,cR⟩ bg f_ H) (aj.Q H0 Ri R0 bU cQ bF cu bV cR cp dw cq ct dx dy r)
def aj.S943 (H0:Hp) (Ri R0:Ba) (bU cQ:ON) (bF cu:Nat) (bV cR:Cap) (cp dw:Bool) (cq ct dx dy:Bd) (C:BE) (pC:BI):Prop:=∀ {fQ eW fi pF pG pH eT eU pI mF pJ cK},∀ {H:Hp},bF=fQ.length->cu=eW.length->mF=fi.length->(Out H0 Ri H (Rs.ow cp ⟨bU,bF,bV⟩ eI.z cq pF ct::Rs.ow dw ⟨cQ,cu,cR⟩ eI.z dx pG dy::Rs.own ⟨pI,mF,pJ⟩ eI.z pH::R0) λR=>CR eI H R pF fQ/\CR eI H R pG eW/\CR eI H R pH fi)->∀ {r:Bx},pC fQ eW eT eU fi cK=some r->Rt (C ⟨bU,bF,bV⟩ ⟨cQ,cu,cR⟩ eT eU ⟨pI,mF,pJ⟩ cK H) (aj.Q H0 Ri R0 bU cQ bF cu bV cR cp dw cq ct dx dy r)
def aj.pj8 (F:Nat) (mG:BI) (kF:AZ) (kG:AZ) (jf:Bool) (jg:Bool) (kH:AZ) (jh:Int):Option (Bool×List Int×List Int):=mG kF kG jf jg kH (wrap .i64 (jh+1))
theorem aj.j8_P {bU cQ bF cu bV cR cp dw cq ct dx dy} {C943_:BE} {mG:BI} (hC943:aj.S943 H0 Ri R0 bU cQ bF cu bV cR cp dw cq ct dx dy C943_ mG) {kF kG kH sY sZ s_ jf jg ta pK tc jh} (ya:bF=kF.length) (yb:cu=kG.length) (yc:pK=kH.length) (h0:Out H0 Ri H (Rs.ow cp ⟨bU,bF,bV⟩ eI.z cq sY ct::Rs.ow dw ⟨cQ,cu,cR⟩ eI.z dx sZ dy::Rs.own ⟨ta,pK,tc⟩ eI.z s_::R0) λR=>CR eI H R sY kF/\CR eI H R sZ kG/\CR eI H R s_ kH) {r:Bx} (hp:aj.pj8 F mG kF kG jf jg kH jh=some r):Rt (aj.j8 F (aJ.tw F) (cg.tw F) (bD.tw F) C943_ ⟨bU,bF,bV⟩ ⟨cQ,cu,cR⟩ jf jg ⟨ta,pK,tc⟩ jh H) (aj.Q H0 Ri R0 bU cQ bF cu bV cR cp dw cq ct dx dy r):=by
 obtain ⟨w0,s0,yd,ye,yf⟩:=h0
 subst ya
 subst yb
 subst yc
 unfold aj.pj8 at hp
 unfold aj.j8
 exact hC943 rfl rfl rfl ⟨w0,s0,yd,ye,yf⟩ hp
def aj.pj6 (F:Nat) (bY:By) (kI:AZ) (kJ:AZ) (jb:Bool) (jc:Bool):Option (Bool×List Int×List Int):=bY kI kJ jb jc
theorem aj.j6_P {bU cQ bF cu bV cR cp dw cq ct dx dy} {C29_:Bv} {bY:By} (hC29:aj.S29 H0 Ri R0 bU cQ bF cu bV cR cp dw cq ct dx dy C29_ bY) {kI kJ td te jb jc} (yg:bF=kI.length) (yh:cu=kJ.length) (h0:Out H0 Ri H (Rs.ow cp ⟨bU,bF,bV⟩ eI.z cq td ct::Rs.ow dw ⟨cQ,cu,cR⟩ eI.z dx te dy::R0) λR=>CR eI H R td kI/\CR eI H R te kJ) {r:Bx} (hp:aj.pj6 F bY kI kJ jb jc=some r):Rt (aj.j6 F (aJ.tw F) (cg.tw F) (bD.tw F) C29_ ⟨bU,bF,bV⟩ ⟨cQ,cu,cR⟩ jb jc H) (aj.Q H0 Ri R0 bU cQ bF cu bV cR cp dw cq ct dx dy r):=by
 obtain ⟨w0,s0,yi,yj⟩:=h0
 subst yg
 subst yh
 unfold aj.pj6 at hp
 unfold aj.j6
 exact hC29 rfl rfl ⟨w0,s0,yi,yj⟩ hp
def aj.pj7 (F:Nat) (bY:By) (kK:AZ) (kL:AZ) (jd:Bool) (je:Bool):Option (Bool×List Int×List Int):=aj.pj6 F bY kK kL jd je
theorem aj.j7_P {bU cQ bF cu bV cR cp dw cq ct dx dy} {C29_:Bv} {bY:By} (hC29:aj.S29 H0 Ri R0 bU cQ bF cu bV cR cp dw cq ct dx dy C29_ bY) {kK kL tf tg jd je} (yk:bF=kK.length) (yl:cu=kL.length) (h0:Out H0 Ri H (Rs.ow cp ⟨bU,bF,bV⟩ eI.z cq tf ct::Rs.ow dw ⟨cQ,cu,cR⟩ eI.z dx tg dy::R0) λR=>CR eI H R tf kK/\CR eI H R tg kL) {r:Bx} (hp:aj.pj7 F bY kK kL jd je=some r):Rt (aj.j7 F (aJ.tw F) (cg.tw F) (bD.tw F) C29_ ⟨bU,bF,bV⟩ ⟨cQ,cu,cR⟩ jd je H) (aj.Q H0 Ri R0 bU cQ bF cu bV cR cp dw cq ct dx dy r):=by
 obtain ⟨w0,s0,ym,yn⟩:=h0
 subst yk
 subst yl
 unfold aj.pj7 at hp
 unfold aj.j7
 exact aj.j6_P (@hC29) rfl rfl ⟨w0,s0,ym,yn⟩ hp
def aj.pl943 (F:Nat) (bY:By):Nat->List Int->List Int->Bool->Bool->List Int->Int->Option (Bool×List Int×List Int)
 | 0,_,_,_,_,_,_=>none
 | k+1,fQ,eW,eT,eU,fi,cK=>(cg.p F fQ).bind λr2=>(bif (decide (cK<r2)) then ((ix eW (wrap .i64 (cK - 1))).bind λn5=>(ix eW cK).bind λn6=>(bif (decide ((gt eW n5)>(gt eW n6))) then ((ix fi (wrap .i64 (cK - 1))).bind λn7=>(ix fi cK).bind λn8=>(bif (decide ((gt fi n7)<(gt fi n8))) then ((bD.p F eW cK).bind λr10=>(bD.p F fi cK).bind λr13=>(aJ.p F r13).bind λr16=>(some (cpl fQ r16)).bind λl19=>aj.pj8 F (aj.pl943 F bY k) l19 r10 true true r13 cK) else (aj.pj8 F (aj.pl943 F bY k) fQ eW eT eU fi cK))) else (aj.pl943 F bY k fQ eW eT eU fi (wrap .i64 (cK+1))))) else (aj.pj7 F bY fQ eW eT eU))
theorem aj.l943_P {bU cQ bF cu bV cR cp dw cq ct dx dy} {C29_:Bv} {bY:By} (hC29:aj.S29 H0 Ri R0 bU cQ bF cu bV cR cp dw cq ct dx dy C29_ bY):∀ k,aj.S943 H0 Ri R0 bU cQ bF cu bV cR cp dw cq ct dx dy (aj.l943 F (aJ.tw F) (cg.tw F) (bD.tw F) C29_ k) (aj.pl943 F bY k):=by
 intro k
 induction k with
 | zero=>unfold aj.S943;intros;rename_i hp;cases hp
 | succ k ih=>
  intro fQ eW fi pF pG pH eT eU pI mF pJ cK H yo yp yq h0 r hp
  obtain ⟨w0,s0,kM,jA,kN⟩:=h0
  subst yo
  subst yp
  subst yq
  unfold aj.pl943 at hp
  unfold aj.l943
  have f1:=W.borrow1 eI w0 kM
  obtain ⟨w1,s1⟩:=w0.right1
  obtain ⟨r2,e2,hp⟩:=ae hp
  refine bd (cg.P rfl ⟨w1,f1⟩ e2) ?_
  rintro _ H3 ⟨rfl,w3,s3,_⟩
  obtain ⟨w4,s4⟩:=W.frame1 w0 w3 s3
  refine br ?_
  refine aE hp (λhp=>?_) λhp=>?_
  ·obtain ⟨n5,g5,hp⟩:=ae hp
   obtain ⟨p5,q5,i5,h5,j5⟩:=W.ixo (E:=eI) w4 (i:=1) rfl rfl (jA.step s4) g5
   refine ai i5 ?_
   have h5:_=[_]:=h5
   subst h5
   refine ai (ck (j5 0 _ rfl)) ?_
   obtain ⟨n6,g6,hp⟩:=ae hp
   obtain ⟨p6,q6,i6,h6,j6⟩:=W.ixo (E:=eI) w4 (i:=1) rfl rfl (jA.step s4) g6
   refine ai i6 ?_
   have h6:_=[_]:=h6
   subst h6
   refine ai (ck (j6 0 _ rfl)) ?_
   refine aE hp (λhp=>?_) λhp=>?_
   ·obtain ⟨n7,g7,hp⟩:=ae hp
    obtain ⟨p7,q7,i7,h7,j7⟩:=W.ixo (E:=eI) w4 (i:=2) rfl rfl (kN.step s4) g7
    refine ai i7 ?_
    have h7:_=[_]:=h7
    subst h7
    refine ai (ck (j7 0 _ rfl)) ?_
    obtain ⟨n8,g8,hp⟩:=ae hp
    obtain ⟨p8,q8,i8,h8,j8⟩:=W.ixo (E:=eI) w4 (i:=2) rfl rfl (kN.step s4) g8
    refine ai i8 ?_
    have h8:_=[_]:=h8
    subst h8
    refine ai (ck (j8 0 _ rfl)) ?_
    refine aE hp (λhp=>?_) λhp=>?_
    ·obtain ⟨w9,s9⟩:=w4.pp [1,0,2] 3
     obtain ⟨r10,e10,hp⟩:=ae hp
     refine bd (bD.P rfl ⟨w9,(jA.step (s4.trans s9))⟩ e10) ?_
     rintro _ H11 ⟨Ah,rfl,hl11_0,w11,s11,f11_0⟩
     obtain ⟨w12,s12⟩:=w11.pp [2,0,1] 3
     obtain ⟨r13,e13,hp⟩:=ae hp
     refine bd (bD.P rfl ⟨w12,(kN.step (s4.trans (s9.trans (s11.trans s12))))⟩ e13) ?_
     rintro _ H14 ⟨Ai,rfl,hl14_0,w14,s14,f14_0⟩
     have f15:=W.borrow1 eI w14 f14_0
     obtain ⟨w15,s15⟩:=w14.right1
     obtain ⟨r16,e16,hp⟩:=ae hp
     refine bd (aJ.P hl14_0 ⟨w15,f15⟩ e16) ?_
     rintro _ H17 ⟨o0a_17,o0n_17,o0c_17,o0k_17,rfl,rfl,w17,s17,f17_0⟩
     obtain ⟨w18,s18⟩:=W.frame1 w14 w17 s17
     refine br ?_
     obtain ⟨l19,e19,hp⟩:=ae hp
     refine yE eI w18 (i:=3) rfl rfl (kM.step (s4.trans (s9.trans (s11.trans (s12.trans (s14.trans s18)))))) (w18.rowo (i:=1) rfl) (CR.flat (jB .i64) f17_0) rfl rfl e19 λk20 H20 w20 s20 c20=>?_
     obtain ⟨w21,s21⟩:=w20.pp [3,2,0] 4
     exact aj.j8_P (@ih) ((yF e19).symm) hl11_0 hl14_0 ⟨w21,(s0.trans (s4.trans (s9.trans (s11.trans (s12.trans (s14.trans (s18.trans (s20.trans s21)))))))),(c20.step s21),(f11_0.step (s12.trans (s14.trans (s18.trans (s20.trans s21))))),(f14_0.step (s18.trans (s20.trans s21)))⟩ hp
    ·exact aj.j8_P (@ih) rfl rfl rfl ⟨w4,(s0.trans s4),(kM.step s4),(jA.step s4),(kN.step s4)⟩ hp
   ·exact ih rfl rfl rfl ⟨w4,(s0.trans s4),(kM.step s4),(jA.step s4),(kN.step s4)⟩ hp
  ·obtain ⟨w22,s22⟩:=w4.pp [0,1] 3
   exact aj.j7_P (@hC29) rfl rfl ⟨w22,(s0.trans (s4.trans s22)),(kM.step (s4.trans s22)),(jA.step (s4.trans s22))⟩ hp
def aj.pl29 (F:Nat) :Nat->List Int->List Int->Bool->Bool->Option (Bool×List Int×List Int)
 | 0,_,_,_,_=>none
 | k+1,au,bN,bg,f_=>(bif f_ then ((aJ.p F au).bind λr2=>aj.pl943 F (aj.pl29 F k) F au bN bg false r2 1) else (some (bg,au,bN)))
theorem aj.l29_P {bU cQ bF cu bV cR cp dw cq ct dx dy} :∀ k,aj.S29 H0 Ri R0 bU cQ bF cu bV cR cp dw cq ct dx dy (aj.l29 F (aJ.tw F) (cg.tw F) (bD.tw F)  k) (aj.pl29 F  k):=by
 intro k
 induction k with
 | zero=>unfold aj.S29;intros;rename_i hp;cases hp
 | succ k ih=>
  intro au bN hZ pE bg f_ H dC gk h0 r hp
  obtain ⟨w0,s0,ch,eJ⟩:=h0
  subst dC
  subst gk
  unfold aj.pl29 at hp
  unfold aj.l29
  refine aE hp (λhp=>?_) λhp=>?_
  ·have f1:=W.borrow1 eI w0 ch
   obtain ⟨w1,s1⟩:=w0.right1
   obtain ⟨r2,e2,hp⟩:=ae hp
   refine bd (aJ.P rfl ⟨w1,f1⟩ e2) ?_
   rintro _ H3 ⟨o0a_3,o0n_3,o0c_3,o0k_3,rfl,rfl,w3,s3,f3_0⟩
   obtain ⟨w4,s4⟩:=W.frame1 w0 w3 s3
   refine br ?_
   obtain ⟨w5,s5⟩:=w4.pp [0,2,1] 3
   exact aj.l943_P (@ih) F rfl rfl rfl ⟨w5,(s0.trans (s4.trans s5)),(ch.step (s4.trans s5)),(eJ.step (s4.trans s5)),((CR.flat (jB .i64) f3_0).step s5)⟩ hp
  ·exact aA hp ⟨_,_,rfl,rfl,rfl,w0,s0,ch,eJ⟩
def aj.p (F:Nat) (ah:AZ) (bT:AZ):Option (Bool×List Int×List Int):=aj.pl29 F F ah bT false true
theorem aj.P {ay dD ak cH az dE ah bT cD kC cE cF dI kD kE pL} (bE:ak=ah.length) (fE:cH=bT.length) (h0:Inn H (Rs.ow cD ⟨ay,ak,az⟩ eI.z cE dI cF::Rs.ow kC ⟨dD,cH,dE⟩ eI.z kD pL kE::R0) λR=>CR eI H R dI ah/\CR eI H R pL bT) {r:Bx} (hp:aj.p F ah bT=some r):Rt (aj.tw F ⟨ay,ak,az⟩ ⟨dD,cH,dE⟩ H) (aj.Q H (Rs.ow cD ⟨ay,ak,az⟩ eI.z cE dI cF::Rs.ow kC ⟨dD,cH,dE⟩ eI.z kD pL kE::R0) R0 ay dD ak cH az dE cD kC cE cF kD kE r):=by
 obtain ⟨w0,bx,fF⟩:=h0
 subst bE
 subst fE
 unfold aj.p at hp
 unfold aj.tw aj.twX
 have s0:=w0.rf
 exact aj.l29_P F rfl rfl ⟨w0,s0,bx,fF⟩ hp
def a_.Q (H0:Hp) (Ri R0:Ba)  (r:Bool) (v:AV) (H':Hp):Prop:=v=(.bool r)/\Out H0 Ri H' (R0) λR=>True
def a_.S29 (H0:Hp) (Ri R0:Ba)  (C:BN) (pC:List Int->List Int->Int->Int->Option (Bool)):Prop:=∀ {ce eA bK dQ cf eB au bN fA ez},∀ {H:Hp},bK=au.length->dQ=bN.length->(Out H0 Ri H R0 λR=>ROs eI H R ⟨ce,bK,cf⟩ au/\ROs eI H R ⟨eA,dQ,eB⟩ bN)->∀ {r:Bool},pC au bN fA ez=some r->Rt (C ⟨ce,bK,cf⟩ ⟨eA,dQ,eB⟩ fA ez H) (a_.Q H0 Ri R0  r)
def a_.pl29 (F:Nat) :Nat->List Int->List Int->Int->Int->Option (Bool)
 | 0,_,_,_,_=>none
 | k+1,au,bN,fA,ez=>(bif (decide (ez<fA)) then ((ix au ez).bind λn1=>(ix bN ez).bind λn2=>(bif ((gt au n1) != (gt bN n2)) then (some false) else (a_.pl29 F k au bN fA (wrap .i64 (ez+1))))) else (some true))
theorem a_.l29_P  :∀ k,a_.S29 H0 Ri R0  (a_.l29 F   k) (a_.pl29 F  k):=by
 intro k
 induction k with
 | zero=>unfold a_.S29;intros;rename_i hp;cases hp
 | succ k ih=>
  intro ce eA bK dQ cf eB au bN fA ez H dC gk h0 r hp
  obtain ⟨w0,s0,ch,eJ⟩:=h0
  subst dC
  subst gk
  unfold a_.pl29 at hp
  unfold a_.l29
  refine aE hp (λhp=>?_) λhp=>?_
  ·obtain ⟨n1,g1,hp⟩:=ae hp
   obtain ⟨p1,q1,i1,h1,j1⟩:=ROs.ixr ch rfl g1
   refine ai i1 ?_
   have h1:_=[_]:=h1
   subst h1
   refine ai (ck (j1 0 _ rfl)) ?_
   obtain ⟨n2,g2,hp⟩:=ae hp
   obtain ⟨p2,q2,i2,h2,j2⟩:=ROs.ixr eJ rfl g2
   refine ai i2 ?_
   have h2:_=[_]:=h2
   subst h2
   refine ai (ck (j2 0 _ rfl)) ?_
   refine aE hp (λhp=>?_) λhp=>?_
   ·exact aA hp ⟨rfl,w0,s0,trivial⟩
   ·exact ih rfl rfl ⟨w0,s0,ch,eJ⟩ hp
  ·exact aA hp ⟨rfl,w0,s0,trivial⟩
def a_.p (F:Nat) (ah:AZ) (bT:AZ):Option (Bool):=(bif ((ah.length:Int) != (bT.length:Int)) then (some false) else (a_.pl29 F F ah bT (ah.length:Int) 0))
theorem a_.P {ay dD ak cH az dE ah bT} (bE:ak=ah.length) (fE:cH=bT.length) (h0:Inn H R0 λR=>ROs eI H R ⟨ay,ak,az⟩ ah/\ROs eI H R ⟨dD,cH,dE⟩ bT) {r:Bool} (hp:a_.p F ah bT=some r):Rt (a_.tw F ⟨ay,ak,az⟩ ⟨dD,cH,dE⟩ H) (a_.Q H R0 R0  r):=by
 obtain ⟨w0,bx,fF⟩:=h0
 subst bE
 subst fE
 unfold a_.p at hp
 unfold a_.tw a_.twX
 have s0:=w0.rf
 refine aE hp (λhp=>?_) λhp=>?_
 ·exact aA hp ⟨rfl,w0,s0,trivial⟩
 ·exact a_.l29_P F rfl rfl ⟨w0,s0,bx,fF⟩ hp
def bS.Q (H0:Hp) (Ri R0:Ba)  (r:Bh) (v:AV) (H':Hp):Prop:=∃ o1a:ON,∃ o1n:Nat,∃ o1c:Cap,∃ o1k:List AV,∃ o1m:List Ow,v=(.agg [(.i r.1),(.sl ⟨o1a,o1n,o1c⟩)])/\o1n=(r.2).length/\Out H0 Ri H' (Rs.own ⟨o1a,o1n,o1c⟩ (eSl eI).z o1k::Rs.many o1m::R0) λR=>OL (oSl (bO eI)) o1m o1k (r.2)
def bS.p (F:Nat) (aa:Int) (ax:AZ):Option (Int×List (List Int)):=nfP (aK.p F) (aO.p F) (bM.p F) (aJ.p F) (cw.p F) (bD.p F) (aj.p F) (a_.p F) F aa ax
theorem bS.P {aa bA aR bB ax} (cP:aR=ax.length) (h0:Inn H R0 λR=>ROs eI H R ⟨bA,aR,bB⟩ ax) {r:Bh} (hp:bS.p F aa ax=some r):Rt (bS.tw F aa ⟨bA,aR,bB⟩ H) (bS.Q H R0 R0  r):=by
 obtain ⟨w0,f0⟩:=h0
 subst cP
 unfold bS.p nfP at hp
 have hco:OkI (aK.tw F) (aK.p F):=by
  intro H R n r w e
  obtain ⟨v,H',e1,a1,n1,c1,k1,rfl,hn,w1,s1,f1⟩:=aK.P (F:=F) (R0:=R) ⟨w,trivial⟩ e
  obtain rfl:=f1.ints_eq
  exact ⟨_,H',e1,w1,s1⟩
 have hrv:OkI (bM.tw F) (bM.p F):=by
  intro H R n r w e
  obtain ⟨v,H',e1,a1,n1,c1,k1,rfl,hn,w1,s1,f1⟩:=bM.P (F:=F) (R0:=R) ⟨w,trivial⟩ e
  obtain rfl:=f1.ints_eq
  exact ⟨_,H',e1,w1,s1⟩
 have htu:OkS (aO.tw F) (aO.p F):=by
  intro H R e x r w f e0
  obtain ⟨a0,n0,c0⟩:=e
  obtain ⟨v,H',e1,a1,n1,c1,k1,rfl,hn,w1,s1,f1⟩:=aO.P (F:=F) (R0:=R) f.n ⟨w,f⟩ e0
  obtain rfl:=f1.ints_eq
  exact ⟨_,H',e1,w1,s1⟩
 have hiv:OkS (aJ.tw F) (aJ.p F):=by
  intro H R e x r w f e0
  obtain ⟨a0,n0,c0⟩:=e
  obtain ⟨v,H',e1,a1,n1,c1,k1,rfl,hn,w1,s1,f1⟩:=aJ.P (F:=F) (R0:=R) f.n ⟨w,f⟩ e0
  obtain rfl:=f1.ints_eq
  exact ⟨_,H',e1,w1,s1⟩
 have hab:OkA (cw.tw F) (cw.p F):=by
  intro H R n r w e
  obtain ⟨v,H',e1,rfl,w1,s1,_⟩:=cw.P (F:=F) (R0:=R) ⟨w,trivial⟩ e
  exact ⟨H',e1,w1,s1⟩
 have hsw:OkW (bD.tw F) (bD.p F):=by
  intro H R q x r k hz hc w e
  obtain ⟨t,⟨a,n,c⟩,z,pre,cells,rest⟩:=q
  obtain rfl:z=1:=hz
  obtain rfl:cells=nI x:=hc
  obtain ⟨v,H',e1,k1,rfl,hn1,w1,s1,f1⟩:=bD.P (F:=F) (R0:=R) (W.own_n (E:=bW .i64) w (i:=0) rfl (CR.ints _ _ _ _)) ⟨w,CR.ints _ _ _ _⟩ e
  obtain rfl:=f1.ints_eq
  exact ⟨H',e1,w1,s1⟩
 have hsh:OkH (aj.tw F) (aj.p F):=by
  intro H R q q' x x' r hz hz' hc hc' w e
  obtain ⟨t,⟨a,n,c⟩,z,pre,cells,rest⟩:=q
  obtain ⟨t',⟨a',n',c'⟩,z',pre',cells',rest'⟩:=q'
  obtain rfl:z=1:=hz
  obtain rfl:cells=nI x:=hc
  obtain rfl:z'=1:=hz'
  obtain rfl:cells'=nI x':=hc'
  obtain ⟨v,H',e1,k1,k2,rfl,hn1,hn2,w1,s1,f1,f2⟩:=aj.P (F:=F) (R0:=R) (W.own_n (E:=bW .i64) w (i:=0) rfl (CR.ints _ _ _ _)) (W.own_n (E:=bW .i64) w (i:=1) rfl (CR.ints _ _ _ _)) ⟨w,CR.ints _ _ _ _,CR.ints _ _ _ _⟩ e
  obtain rfl:=f1.ints_eq
  obtain rfl:=f2.ints_eq
  exact ⟨H',e1,w1,s1⟩
 have heq:OkE (a_.tw F) (a_.p F):=by
  intro H R e e' x x' r w f f' e0
  obtain ⟨a,n,c⟩:=e
  obtain ⟨a',n',c'⟩:=e'
  obtain ⟨v,H',e1,rfl,w1,s1,_⟩:=a_.P (F:=F) (R0:=R) f.n f'.n ⟨w,f,f'⟩ e0
  exact ⟨H',e1,w1,s1⟩
 obtain ⟨⟨hF,hl⟩,hp⟩:=eC hp
 obtain ⟨st,e1,e2⟩:=Option.bind_eq_some_iff.1 hp
 obtain ⟨v,H',t1,⟨sa,sn,sc⟩,ro,rfl,w1,s1,h1⟩:=yG (add:=λf k H=>bH.tw F f 0 k H) (fin:=λf H=>aI.tw F f 0 H) (λ{H0 H R0 R f k s rows st res} w fr hr e=>yH hco htu hrv hiv hab hsw (F:=F) (x:=λH=>bH.tw F f 0 k H) (T:=λs H=>bH.j3 F (aK.tw F) (aO.tw F) (bM.tw F) (aJ.tw F) (cw.tw F) (bD.tw F) f 0 k s H) (J:=λs H=>bH.j1 F (aK.tw F) (aO.tw F) (bM.tw F) (aJ.tw F) (cw.tw F) (bD.tw F) f 0 k s H) (J2:=λH=>bH.j2 F (aK.tw F) (aO.tw F) (bM.tw F) (aJ.tw F) (cw.tw F) (bD.tw F) f 0 k H) (Lp:=λg s m i H=>bH.l105 F (aK.tw F) (aO.tw F) (bM.tw F) (aJ.tw F) (cw.tw F) (bD.tw F) g f 0 k s m i H) (λ_=>rfl) (λ_ _=>rfl) (λ_ _=>rfl) (λ_ _ _ _ _=>rfl) (λ_=>rfl) w fr hr e) (λ{H0 H R0 R f s rows st res} w fr hr e=>yI hco hrv hsh heq (F:=F) (x:=λH=>aI.tw F f 0 H) (Lf:=λy2 g y H=>aI.l13 F (aj.tw F) (aK.tw F) (bM.tw F) (a_.tw F) g f 0 y2 0 y H) (J9:=λy2 H=>aI.j9 F (aj.tw F) (aK.tw F) (bM.tw F) (a_.tw F) f 0 y2 0 H) (Lq:=λy2 c g y i H=>aI.l215 F (aj.tw F) (aK.tw F) (bM.tw F) (a_.tw F) (aI.l13 F (aj.tw F) (aK.tw F) (bM.tw F) (a_.tw F) c) g f 0 y2 0 y i H) (Lp:=λg pl fl y2 o s m i H=>aI.l125 F (aj.tw F) (aK.tw F) (bM.tw F) (a_.tw F) g y2 0 pl fl o 0 s m i H) (J:=yJ) (λ_=>rfl) (λ_ _ _ _=>rfl) (λ_ _ _ _ _ _=>rfl) (λ_ _=>rfl) (λ_ _ _ _ _ _ _ _ _=>rfl) (λ_ _ _=>rfl) w fr hr e) (F:=F) (x:=λs H=>bS.tw F aa s H) (Lp:=λg y2 y3 s m i H=>bS.l29 F (bH.tw F) (aI.tw F) g y2 0 y3 0 s m i H) (λ_ _=>rfl) (λ_ _ _ _ _ _ _=>rfl) w0 f0 hF hl e1 e2
 refine ⟨_,H',t1,sa,sn,sc,slc ro,ro,rfl,?_,w1,s1,h1.ol⟩
 have h3:=(w1.ok _ List.mem_cons_self).1
 rw [jC,h1.len,Nat.mul_one] at h3
 exact h3.symm
def cN.Q (H0:Hp) (Ri R0:Ba)  (r:BD) (v:AV) (H':Hp):Prop:=∃ o1a:ON,∃ o1n:Nat,∃ o1c:Cap,∃ o1k:List AV,∃ o1m:List Ow,v=(.tup [(.agg [(.i r.1),(.sl ⟨o1a,o1n,o1c⟩)]),(.i r.2.2)])/\o1n=(r.2.1).length/\Out H0 Ri H' (Rs.own ⟨o1a,o1n,o1c⟩ (eSl eI).z o1k::Rs.many o1m::R0) λR=>OL (oSl (bO eI)) o1m o1k (r.2.1)
def cN.p (F:Nat) (aa:Int) (ax:AZ):Option (Int×List (List Int)×Int):=(da.p F aa ax).bind λr3=>(bif (!r3) then (some (0,([]:List (List Int)),1)) else ((bS.p F aa ax).bind λr10=>some (r10.1,r10.2,0)))
theorem cN.P {aa bA aR bB ax} (cP:aR=ax.length) (h0:Inn H R0 λR=>ROs eI H R ⟨bA,aR,bB⟩ ax) {r:BD} (hp:cN.p F aa ax=some r):Rt (cN.tw F aa ⟨bA,aR,bB⟩ H) (cN.Q H R0 R0  r):=by
 obtain ⟨w0,cx⟩:=h0
 subst cP
 unfold cN.p at hp
 unfold cN.tw cN.twX
 have s0:=w0.rf
 refine cA w0 λH1 w1 s1=>?_
 refine cA w1 λH2 w2 s2=>?_
 refine lI w2 1 ?_
 refine lSl w2 1 ?_
 obtain ⟨r3,e3,hp⟩:=ae hp
 refine bd (da.P rfl ⟨w2,(cx.step (s1.trans s2))⟩ e3) ?_
 rintro _ H4 ⟨rfl,w4,s4,_⟩
 refine br ?_
 refine aE hp (λhp=>?_) λhp=>?_
 ·refine b_ w4 0 λH5 w5 s5=>?_
  refine b_ w5 0 λH6 w6 s6=>?_
  refine lI w6 0 ?_
  refine lSl w6 0 ?_
  obtain ⟨w7,s7⟩:=w6.nilS (eSl eI).z (by decide)
  obtain ⟨w8,s8⟩:=w7.nM
  obtain ⟨w9,s9⟩:=w8.pp [1,0] 4
  exact aA hp ⟨_,_,_,_,_,rfl,rfl,w9,(s0.trans (s1.trans (s2.trans (s4.trans (s5.trans (s6.trans (s7.trans (s8.trans s9)))))))),(OL.nil:OL (oSl (bO eI)) [] [] [])⟩
 ·refine lI w4 1 ?_
  refine lSl w4 1 ?_
  obtain ⟨r10,e10,hp⟩:=ae hp
  refine bd (bS.P rfl ⟨w4,(cx.step (s1.trans (s2.trans s4)))⟩ e10) ?_
  rintro _ H11 ⟨o1a_11,o1n_11,o1c_11,o1k_11,o1m_11,rfl,rfl,w11,s11,f11_0⟩
  refine br (br (br (br (br ?_))))
  refine b_ w11 2 λH12 w12 s12=>?_
  refine b_ w12 2 λH13 w13 s13=>?_
  refine lI w13 2 ?_
  refine lSl w13 2 ?_
  obtain ⟨w14,s14⟩:=w13.pp [0,1] 4
  exact aA hp ⟨_,_,_,_,_,rfl,rfl,w14,(s0.trans (s1.trans (s2.trans (s4.trans (s11.trans (s12.trans (s13.trans s14))))))),f11_0⟩
def aU.Q (H0:Hp) (Ri R0:Ba)  (r:Bool) (v:AV) (H':Hp):Prop:=v=(.bool r)/\Out H0 Ri H' (R0) λR=>True
def aU.S29 (H0:Hp) (Ri R0:Ba)  (C:Bz) (pC:BL):Prop:=∀ {ce eA bK dQ cf eB au bN aM},∀ {H:Hp},bK=au.length->dQ=bN.length->(Out H0 Ri H R0 λR=>ROs eI H R ⟨ce,bK,cf⟩ au/\ROs eI H R ⟨eA,dQ,eB⟩ bN)->∀ {r:Bool},pC au bN aM=some r->Rt (C ⟨ce,bK,cf⟩ ⟨eA,dQ,eB⟩ aM H) (aU.Q H0 Ri R0  r)
def aU.pl29 (F:Nat) :Nat->List Int->List Int->Int->Option (Bool)
 | 0,_,_,_=>none
 | k+1,au,bN,aM=>(bif (decide (aM<(au.length:Int))) then ((ix au aM).bind λn1=>(ix bN aM).bind λn2=>(bif ((gt au n1) != (gt bN n2)) then (some false) else (aU.pl29 F k au bN (wrap .i64 (aM+1))))) else (some true))
theorem aU.l29_P  :∀ k,aU.S29 H0 Ri R0  (aU.l29 F   k) (aU.pl29 F  k):=by
 intro k
 induction k with
 | zero=>unfold aU.S29;intros;rename_i hp;cases hp
 | succ k ih=>
  intro ce eA bK dQ cf eB au bN aM H dC gk h0 r hp
  obtain ⟨w0,s0,ch,eJ⟩:=h0
  subst dC
  subst gk
  unfold aU.pl29 at hp
  unfold aU.l29
  refine aE hp (λhp=>?_) λhp=>?_
  ·obtain ⟨n1,g1,hp⟩:=ae hp
   obtain ⟨p1,q1,i1,h1,j1⟩:=ROs.ixr ch rfl g1
   refine ai i1 ?_
   have h1:_=[_]:=h1
   subst h1
   refine ai (ck (j1 0 _ rfl)) ?_
   obtain ⟨n2,g2,hp⟩:=ae hp
   obtain ⟨p2,q2,i2,h2,j2⟩:=ROs.ixr eJ rfl g2
   refine ai i2 ?_
   have h2:_=[_]:=h2
   subst h2
   refine ai (ck (j2 0 _ rfl)) ?_
   refine aE hp (λhp=>?_) λhp=>?_
   ·exact aA hp ⟨rfl,w0,s0,trivial⟩
   ·exact ih rfl rfl ⟨w0,s0,ch,eJ⟩ hp
  ·exact aA hp ⟨rfl,w0,s0,trivial⟩
def aU.p (F:Nat) (ah:AZ) (bT:AZ):Option (Bool):=(bif ((ah.length:Int) != (bT.length:Int)) then (some false) else (aU.pl29 F F ah bT 0))
theorem aU.P {ay dD ak cH az dE ah bT} (bE:ak=ah.length) (fE:cH=bT.length) (h0:Inn H R0 λR=>ROs eI H R ⟨ay,ak,az⟩ ah/\ROs eI H R ⟨dD,cH,dE⟩ bT) {r:Bool} (hp:aU.p F ah bT=some r):Rt (aU.tw F ⟨ay,ak,az⟩ ⟨dD,cH,dE⟩ H) (aU.Q H R0 R0  r):=by
 obtain ⟨w0,bx,fF⟩:=h0
 subst bE
 subst fE
 unfold aU.p at hp
 unfold aU.tw aU.twX
 have s0:=w0.rf
 refine aE hp (λhp=>?_) λhp=>?_
 ·exact aA hp ⟨rfl,w0,s0,trivial⟩
 ·exact aU.l29_P F rfl rfl ⟨w0,s0,bx,fF⟩ hp
def ba.Q (H0:Hp) (Ri R0:Ba)  (r:Bool) (v:AV) (H':Hp):Prop:=v=(.bool r)/\Out H0 Ri H' (R0) λR=>True
def ba.S29 (H0:Hp) (Ri R0:Ba)  (C:Bz) (pC:List (List Int)->List (List Int)->Int->Option (Bool)):Prop:=∀ {ce eA bK dQ cf eB au bN aM},∀ {H:Hp},bK=au.length->dQ=bN.length->(Out H0 Ri H R0 λR=>ROs (eSl eI) H R ⟨ce,bK,cf⟩ au/\ROs (eSl eI) H R ⟨eA,dQ,eB⟩ bN)->∀ {r:Bool},pC au bN aM=some r->Rt (C ⟨ce,bK,cf⟩ ⟨eA,dQ,eB⟩ aM H) (ba.Q H0 Ri R0  r)
def ba.pl29 (F:Nat) :Nat->List (List Int)->List (List Int)->Int->Option (Bool)
 | 0,_,_,_=>none
 | k+1,au,bN,aM=>(bif (decide (aM<(au.length:Int))) then ((ix au aM).bind λn1=>(ix bN aM).bind λn2=>(aU.p F (gt au n1) (gt bN n2)).bind λr3=>(bif (!r3) then (some false) else (ba.pl29 F k au bN (wrap .i64 (aM+1))))) else (some true))
theorem ba.l29_P  :∀ k,ba.S29 H0 Ri R0  (ba.l29 F (aU.tw F)  k) (ba.pl29 F  k):=by
 intro k
 induction k with
 | zero=>unfold ba.S29;intros;rename_i hp;cases hp
 | succ k ih=>
  intro ce eA bK dQ cf eB au bN aM H dC gk h0 r hp
  obtain ⟨w0,s0,ch,eJ⟩:=h0
  subst dC
  subst gk
  unfold ba.pl29 at hp
  unfold ba.l29
  refine aE hp (λhp=>?_) λhp=>?_
  ·obtain ⟨n1,g1,hp⟩:=ae hp
   obtain ⟨p1,q1,i1,h1,j1⟩:=ROs.ixr ch rfl g1
   refine ai i1 ?_
   obtain ⟨⟨mf,m1_0,c1_0⟩,rfl,f1_0⟩:=h1
   obtain rfl:m1_0=_:=f1_0.n
   refine ai (dJ (j1 0 _ rfl)) ?_
   obtain ⟨n2,g2,hp⟩:=ae hp
   obtain ⟨p2,q2,i2,h2,j2⟩:=ROs.ixr eJ rfl g2
   refine ai i2 ?_
   obtain ⟨⟨wN,m2_0,c2_0⟩,rfl,f2_0⟩:=h2
   obtain rfl:m2_0=_:=f2_0.n
   refine ai (dJ (j2 0 _ rfl)) ?_
   obtain ⟨r3,e3,hp⟩:=ae hp
   refine bd (aU.P rfl rfl ⟨w0,f1_0,f2_0⟩ e3) ?_
   rintro _ H4 ⟨rfl,w4,s4,_⟩
   refine br ?_
   refine aE hp (λhp=>?_) λhp=>?_
   ·exact aA hp ⟨rfl,w4,(s0.trans s4),trivial⟩
   ·exact ih rfl rfl ⟨w4,(s0.trans s4),(ch.step s4),(eJ.step s4)⟩ hp
  ·exact aA hp ⟨rfl,w0,s0,trivial⟩
def ba.p (F:Nat) (ah:Be) (bT:Be):Option (Bool):=(bif ((ah.length:Int) != (bT.length:Int)) then (some false) else (ba.pl29 F F ah bT 0))
theorem ba.P {ay dD ak cH az dE ah bT} (bE:ak=ah.length) (fE:cH=bT.length) (h0:Inn H R0 λR=>ROs (eSl eI) H R ⟨ay,ak,az⟩ ah/\ROs (eSl eI) H R ⟨dD,cH,dE⟩ bT) {r:Bool} (hp:ba.p F ah bT=some r):Rt (ba.tw F ⟨ay,ak,az⟩ ⟨dD,cH,dE⟩ H) (ba.Q H R0 R0  r):=by
 obtain ⟨w0,bx,fF⟩:=h0
 subst bE
 subst fE
 unfold ba.p at hp
 unfold ba.tw ba.twX
 have s0:=w0.rf
 refine aE hp (λhp=>?_) λhp=>?_
 ·exact aA hp ⟨rfl,w0,s0,trivial⟩
 ·exact ba.l29_P F rfl rfl ⟨w0,s0,bx,fF⟩ hp
def cC.Q (H0:Hp) (Ri R0:Ba)  (r:Bool) (v:AV) (H':Hp):Prop:=v=(.bool r)/\Out H0 Ri H' (R0) λR=>True
def cC.p (F:Nat) (aa:Int) (ax:Be) (ar:Int) (fH:Be):Option (Bool):=(bif (aa != ar) then (some false) else ((ba.p F ax fH).bind λr4=>(bif (!r4) then (some false) else (some true))))
theorem cC.P {aa ar bA kO aR h_ bB kP ax fH} (cP:aR=ax.length) (pM:h_=fH.length) (h0:Inn H R0 λR=>ROs (eSl eI) H R ⟨bA,aR,bB⟩ ax/\ROs (eSl eI) H R ⟨kO,h_,kP⟩ fH) {r:Bool} (hp:cC.p F aa ax ar fH=some r):Rt (cC.tw F aa ⟨bA,aR,bB⟩ ar ⟨kO,h_,kP⟩ H) (cC.Q H R0 R0  r):=by
 obtain ⟨w0,cx,pN⟩:=h0
 subst cP
 subst pM
 unfold cC.p at hp
 unfold cC.tw cC.twX
 have s0:=w0.rf
 refine cA w0 λH1 w1 s1=>?_
 refine cA w1 λH2 w2 s2=>?_
 refine lI w2 1 ?_
 refine lI w2 0 ?_
 refine aE hp (λhp=>?_) λhp=>?_
 ·obtain ⟨w3,s3⟩:=w2.pp [] 2
  exact aA hp ⟨rfl,w3,(s0.trans (s1.trans (s2.trans s3))),trivial⟩
 ·refine lSl w2 1 ?_
  refine lSl w2 0 ?_
  obtain ⟨r4,e4,hp⟩:=ae hp
  refine bd (ba.P rfl rfl ⟨w2,(cx.step (s1.trans s2)),(pN.step (s1.trans s2))⟩ e4) ?_
  rintro _ H5 ⟨rfl,w5,s5,_⟩
  refine br ?_
  refine aE hp (λhp=>?_) λhp=>?_
  ·obtain ⟨w6,s6⟩:=w5.pp [] 2
   exact aA hp ⟨rfl,w6,(s0.trans (s1.trans (s2.trans (s5.trans s6)))),trivial⟩
  ·obtain ⟨w7,s7⟩:=w5.pp [] 2
   exact aA hp ⟨rfl,w7,(s0.trans (s1.trans (s2.trans (s5.trans s7)))),trivial⟩
def dd.Q (H0:Hp) (Ri R0:Ba)  (r:Bool) (v:AV) (H':Hp):Prop:=v=(.bool r)/\Out H0 Ri H' (R0) λR=>True
def dd.p (F:Nat) (aa:Int) (ax:AZ) (ar:Int) (fH:AZ):Option (Bool):=(bif (aa != ar) then (some false) else ((aU.p F ax fH).bind λr4=>(bif (!r4) then (some false) else (some true))))
theorem dd.P {aa ar bA kO aR h_ bB kP ax fH} (cP:aR=ax.length) (pM:h_=fH.length) (h0:Inn H R0 λR=>ROs eI H R ⟨bA,aR,bB⟩ ax/\ROs eI H R ⟨kO,h_,kP⟩ fH) {r:Bool} (hp:dd.p F aa ax ar fH=some r):Rt (dd.tw F aa ⟨bA,aR,bB⟩ ar ⟨kO,h_,kP⟩ H) (dd.Q H R0 R0  r):=by
 obtain ⟨w0,cx,pN⟩:=h0
 subst cP
 subst pM
 unfold dd.p at hp
 unfold dd.tw dd.twX
 have s0:=w0.rf
 refine cA w0 λH1 w1 s1=>?_
 refine cA w1 λH2 w2 s2=>?_
 refine lI w2 1 ?_
 refine lI w2 0 ?_
 refine aE hp (λhp=>?_) λhp=>?_
 ·obtain ⟨w3,s3⟩:=w2.pp [] 2
  exact aA hp ⟨rfl,w3,(s0.trans (s1.trans (s2.trans s3))),trivial⟩
 ·refine lSl w2 1 ?_
  refine lSl w2 0 ?_
  obtain ⟨r4,e4,hp⟩:=ae hp
  refine bd (aU.P rfl rfl ⟨w2,(cx.step (s1.trans s2)),(pN.step (s1.trans s2))⟩ e4) ?_
  rintro _ H5 ⟨rfl,w5,s5,_⟩
  refine br ?_
  refine aE hp (λhp=>?_) λhp=>?_
  ·obtain ⟨w6,s6⟩:=w5.pp [] 2
   exact aA hp ⟨rfl,w6,(s0.trans (s1.trans (s2.trans (s5.trans s6)))),trivial⟩
  ·obtain ⟨w7,s7⟩:=w5.pp [] 2
   exact aA hp ⟨rfl,w7,(s0.trans (s1.trans (s2.trans (s5.trans s7)))),trivial⟩
def aQ.Q (H0:Hp) (Ri R0:Ba) (ay:ON) (ak:Nat) (az:Cap) (cD:Bool) (cE cF:Bd) (r:Bs) (v:AV) (H':Hp):Prop:=∃ eL:List AV,v=(.i r.1)/\ak=(r.2).length/\Out H0 Ri H' (Rs.ow cD ⟨ay,ak,az⟩ eI.z cE eL cF::R0) λR=>CR eI H' R eL (r.2)
def aQ.S13 (H0:Hp) (Ri R0:Ba) (bU:ON) (bF:Nat) (bV:Cap) (cp:Bool) (cq ct:Bd) (C:BA) (pC:List Int->Int->Int->Option (Int×List Int)):Prop:=∀ {au hZ aN bg},∀ {H:Hp},bF=au.length->(Out H0 Ri H (Rs.ow cp ⟨bU,bF,bV⟩ eI.z cq hZ ct::R0) λR=>CR eI H R hZ au)->∀ {r:Bs},pC au aN bg=some r->Rt (C ⟨bU,bF,bV⟩ aN bg H) (aQ.Q H0 Ri R0 bU bF bV cp cq ct r)
def aQ.pl13 (F:Nat) :Nat->List Int->Int->Int->Option (Int×List Int)
 | 0,_,_,_=>none
 | k+1,au,aN,bg=>(bif (decide (bg<(au.length:Int))) then ((ix au bg).bind λn1=>(some (au.set n1 aN)).bind λl2=>aQ.pl13 F k l2 (wrap .i64 (aN+1)) (wrap .i64 (bg+1))) else (some (aN,au)))
theorem aQ.l13_P {bU bF bV cp cq ct} :∀ k,aQ.S13 H0 Ri R0 bU bF bV cp cq ct (aQ.l13 F   k) (aQ.pl13 F  k):=by
 intro k
 induction k with
 | zero=>unfold aQ.S13;intros;rename_i hp;cases hp
 | succ k ih=>
  intro au hZ aN bg H dC h0 r hp
  obtain ⟨w0,s0,ch⟩:=h0
  subst dC
  unfold aQ.pl13 at hp
  unfold aQ.l13
  refine aE hp (λhp=>?_) λhp=>?_
  ·obtain ⟨n1,g1,hp⟩:=ae hp
   obtain ⟨p1,q1,i1,h1,j1⟩:=W.ixo (E:=eI) w0 (i:=0) rfl rfl ch g1
   refine ai i1 ?_
   obtain ⟨l2,e2,hp⟩:=ae hp
   refine eM eI w0 (i:=0) (j:=0) (p:=p1) rfl rfl ch g1 i1 e2 rfl rfl (λ_ h=>by have h:_=[_]:=h;subst h;exact rfl) λH3 k3 w3 s3 c3=>?_
   exact ih ((ef e2).symm) ⟨w3,(s0.trans s3),c3⟩ hp
  ·exact aA hp ⟨_,rfl,rfl,w0,s0,ch⟩
def aQ.p (F:Nat) (ah:AZ) (ag:Int):Option (Int×List Int):=aQ.pl13 F F ah ag 0
theorem aQ.P {ay ak az ah cD cE cF dI ag} (bE:ak=ah.length) (h0:Inn H (Rs.ow cD ⟨ay,ak,az⟩ eI.z cE dI cF::R0) λR=>CR eI H R dI ah) {r:Bs} (hp:aQ.p F ah ag=some r):Rt (aQ.tw F ⟨ay,ak,az⟩ ag H) (aQ.Q H (Rs.ow cD ⟨ay,ak,az⟩ eI.z cE dI cF::R0) R0 ay ak az cD cE cF r):=by
 obtain ⟨w0,bx⟩:=h0
 subst bE
 unfold aQ.p at hp
 unfold aQ.tw aQ.twX
 have s0:=w0.rf
 exact aQ.l13_P F rfl ⟨w0,s0,bx⟩ hp
def de.Q (H0:Hp) (Ri R0:Ba) (bA:ON) (aR:Nat) (bB:Cap) (fI:Bool) (fJ fK:Bd) (r:Bs) (v:AV) (H':Hp):Prop:=∃ kQ:List AV,v=(.i r.1)/\aR=(r.2).length/\Out H0 Ri H' (Rs.ow fI ⟨bA,aR,bB⟩ eI.z fJ kQ fK::R0) λR=>CR eI H' R kQ (r.2)
def de.p (F:Nat) (ax:AZ) (ar:Int):Option (Int×List Int):=(aQ.p F ax ar).bind λr3=>some (r3.1,r3.2)
theorem de.P {aa ar bA aR bB ax fI fJ fK ia} (cP:aR=ax.length) (h0:Inn H (Rs.ow fI ⟨bA,aR,bB⟩ eI.z fJ ia fK::R0) λR=>CR eI H R ia ax) {r:Bs} (hp:de.p F ax ar=some r):Rt (de.tw F aa ⟨bA,aR,bB⟩ ar H) (de.Q H (Rs.ow fI ⟨bA,aR,bB⟩ eI.z fJ ia fK::R0) R0 bA aR bB fI fJ fK r):=by
 obtain ⟨w0,cx⟩:=h0
 subst cP
 unfold de.p at hp
 unfold de.tw de.twX
 have s0:=w0.rf
 refine cA w0 λH1 w1 s1=>?_
 refine lSl w1 0 ?_
 obtain ⟨w2,s2⟩:=w1.pp [1,0] 2
 obtain ⟨r3,e3,hp⟩:=ae hp
 refine bd (aQ.P rfl ⟨w2,(cx.step (s1.trans s2))⟩ e3) ?_
 rintro _ H4 ⟨sV,rfl,hl4_0,w4,s4,f4_0⟩
 refine br ?_
 obtain ⟨w5,s5⟩:=w4.pp [0] 2
 exact aA hp ⟨_,rfl,hl4_0,w5,(s0.trans (s1.trans (s2.trans (s4.trans s5)))),(f4_0.step s5)⟩
def bR.Q (H0:Hp) (Ri R0:Ba) (ay:ON) (ak:Nat) (az:Cap) (cD:Bool) (cE cF:Bd) (r:Bh) (v:AV) (H':Hp):Prop:=∃ eL:List AV,∃ th:List Ow,v=(.i r.1)/\ak=(r.2).length/\Out H0 Ri H' (Rs.ow cD ⟨ay,ak,az⟩ (eSl eI).z cE eL cF::Rs.many th::R0) λR=>OL (oSl (bO eI)) th eL (r.2)
def bR.p (F:Nat) (ah:Be) (ag:Int):Option (Int×List (List Int)):=(if ah.length<F/\ah.length<=4294967296 then mss (aQ.p F) ah ag else none)
theorem bR.P {ay ak az ah cD cE cF dI mH ag} (bE:ak=ah.length) (h0:Inn H (Rs.ow cD ⟨ay,ak,az⟩ (eSl eI).z cE dI cF::Rs.many mH::R0) λR=>OL (oSl (bO eI)) mH dI ah) {r:Bh} (hp:bR.p F ah ag=some r):Rt (bR.tw F ⟨ay,ak,az⟩ ag H) (bR.Q H (Rs.ow cD ⟨ay,ak,az⟩ (eSl eI).z cE dI cF::Rs.many mH::R0) R0 ay ak az cD cE cF r):=by
 obtain ⟨w0,f0⟩:=h0
 subst bE
 unfold bR.p at hp
 unfold bR.tw bR.twX
 obtain ⟨⟨hF,hc⟩,hp⟩:=eC hp
 have hin:∀ {H:Hp} {R:Ba} {q:Ow} {rr:List Ow} {x:AZ} {k:Int} {res:Bs},W H (q.rs::.many rr::R)->q.z=(bO eI).E.z->OL (bO eI) rr q.cells x->aQ.p F x k=some res->∃ H' c' rr',aQ.tw F q.s k H=some (.i res.1,H')/\W H' (Ow.rs ⟨q.t,q.s,q.z,q.pre,c',q.rest⟩::.many rr'::R)/\Fr H (q.rs::.many rr::R) H' (Ow.rs ⟨q.t,q.s,q.z,q.pre,c',q.rest⟩::.many rr'::R)/\OL (bO eI) rr' c' res.2:=by
  intro H R q rr x k res w hz ho e
  obtain ⟨t,⟨a,n,c⟩,z,pre,cells,rest⟩:=q
  obtain rfl:z=(bO eI).E.z:=hz
  obtain ⟨rfl,hcr⟩:=ho.flat_nil
  obtain ⟨v,H',e1,k',rfl,hn',w1,s1,f1⟩:=aQ.P (F:=F) (R0:=.many []::R) (W.own_n (E:=eI) w (i:=0) rfl (hcr _ _)) ⟨w,hcr _ _⟩ e
  exact ⟨H',k',[],e1,w1,s1,OL.of_flat (jB .i64) f1⟩
 obtain ⟨H2,r',e,w2,s2,f2⟩:=yK (bO eI) (tw:=aQ.tw F) (f:=aQ.p F) (Lp:=λg k i H=>bR.l13 F (aQ.tw F) g ⟨ay,ah.length,az⟩ k i H) (λ_ _ _ _=>rfl) hin ah [] F H ag r [] mH [] dI hF rfl hc w0 .nil f0 hp
 exact ⟨_,_,e,_,_,rfl,tv hp,w2,s2,f2⟩
def dg.Q (H0:Hp) (Ri R0:Ba) (bA:ON) (aR:Nat) (bB:Cap) (fI:Bool) (fJ fK:Bd) (r:Bh) (v:AV) (H':Hp):Prop:=∃ kQ:List AV,∃ ti:List Ow,v=(.i r.1)/\aR=(r.2).length/\Out H0 Ri H' (Rs.ow fI ⟨bA,aR,bB⟩ (eSl eI).z fJ kQ fK::Rs.many ti::R0) λR=>OL (oSl (bO eI)) ti kQ (r.2)
def dg.p (F:Nat) (ax:Be) (ar:Int):Option (Int×List (List Int)):=(bR.p F ax ar).bind λr3=>some (r3.1,r3.2)
theorem dg.P {aa ar bA aR bB ax fI fJ fK ia pO} (cP:aR=ax.length) (h0:Inn H (Rs.ow fI ⟨bA,aR,bB⟩ (eSl eI).z fJ ia fK::Rs.many pO::R0) λR=>OL (oSl (bO eI)) pO ia ax) {r:Bh} (hp:dg.p F ax ar=some r):Rt (dg.tw F aa ⟨bA,aR,bB⟩ ar H) (dg.Q H (Rs.ow fI ⟨bA,aR,bB⟩ (eSl eI).z fJ ia fK::Rs.many pO::R0) R0 bA aR bB fI fJ fK r):=by
 obtain ⟨w0,cx⟩:=h0
 subst cP
 unfold dg.p at hp
 unfold dg.tw dg.twX
 have s0:=w0.rf
 refine cA w0 λH1 w1 s1=>?_
 refine lSl w1 0 ?_
 obtain ⟨w2,s2⟩:=w1.pp [1,2,0] 3
 obtain ⟨r3,e3,hp⟩:=ae hp
 refine bd (bR.P rfl ⟨w2,cx⟩ e3) ?_
 rintro _ H4 ⟨sV,Aj,rfl,hl4_0,w4,s4,f4_0⟩
 refine br ?_
 obtain ⟨w5,s5⟩:=w4.pp [0,1] 3
 exact aA hp ⟨_,_,rfl,hl4_0,w5,(s0.trans (s1.trans (s2.trans (s4.trans s5)))),f4_0⟩
def bs.Q (H0:Hp) (Ri R0:Ba)  (r:Int) (v:AV) (H':Hp):Prop:=v=(.i r)/\Out H0 Ri H' (R0) λR=>True
def bs.S13 (H0:Hp) (Ri R0:Ba)  (C:BA) (pC:List Int->Int->Int->Option (Int)):Prop:=∀ {ce bK cf au aN bg},∀ {H:Hp},bK=au.length->(Out H0 Ri H R0 λR=>ROs eI H R ⟨ce,bK,cf⟩ au)->∀ {r:Int},pC au aN bg=some r->Rt (C ⟨ce,bK,cf⟩ aN bg H) (bs.Q H0 Ri R0  r)
def bs.pl13 (F:Nat) :Nat->List Int->Int->Int->Option (Int)
 | 0,_,_,_=>none
 | k+1,au,aN,bg=>(bif (decide (bg<(au.length:Int))) then ((ix au bg).bind λn1=>(bif ((gt au n1) != aN) then (some (-1)) else (bs.pl13 F k au (wrap .i64 (aN+1)) (wrap .i64 (bg+1))))) else (some aN))
theorem bs.l13_P  :∀ k,bs.S13 H0 Ri R0  (bs.l13 F   k) (bs.pl13 F  k):=by
 intro k
 induction k with
 | zero=>unfold bs.S13;intros;rename_i hp;cases hp
 | succ k ih=>
  intro ce bK cf au aN bg H dC h0 r hp
  obtain ⟨w0,s0,ch⟩:=h0
  subst dC
  unfold bs.pl13 at hp
  unfold bs.l13
  refine aE hp (λhp=>?_) λhp=>?_
  ·obtain ⟨n1,g1,hp⟩:=ae hp
   obtain ⟨p1,q1,i1,h1,j1⟩:=ROs.ixr ch rfl g1
   refine ai i1 ?_
   have h1:_=[_]:=h1
   subst h1
   refine ai (ck (j1 0 _ rfl)) ?_
   refine aE hp (λhp=>?_) λhp=>?_
   ·exact aA hp ⟨rfl,w0,s0,trivial⟩
   ·exact ih rfl ⟨w0,s0,ch⟩ hp
  ·exact aA hp ⟨rfl,w0,s0,trivial⟩
def bs.p (F:Nat) (ah:AZ) (ag:Int):Option (Int):=bs.pl13 F F ah ag 0
theorem bs.P {ay ak az ah ag} (bE:ak=ah.length) (h0:Inn H R0 λR=>ROs eI H R ⟨ay,ak,az⟩ ah) {r:Int} (hp:bs.p F ah ag=some r):Rt (bs.tw F ⟨ay,ak,az⟩ ag H) (bs.Q H R0 R0  r):=by
 obtain ⟨w0,bx⟩:=h0
 subst bE
 unfold bs.p at hp
 unfold bs.tw bs.twX
 have s0:=w0.rf
 exact bs.l13_P F rfl ⟨w0,s0,bx⟩ hp
def bh.Q (H0:Hp) (Ri R0:Ba)  (r:Int) (v:AV) (H':Hp):Prop:=v=(.i r)/\Out H0 Ri H' (R0) λR=>True
def bh.S13 (H0:Hp) (Ri R0:Ba)  (C:BA) (pC:List (List Int)->Int->Int->Option (Int)):Prop:=∀ {ce bK cf au aN bg},∀ {H:Hp},bK=au.length->(Out H0 Ri H R0 λR=>ROs (eSl eI) H R ⟨ce,bK,cf⟩ au)->∀ {r:Int},pC au aN bg=some r->Rt (C ⟨ce,bK,cf⟩ aN bg H) (bh.Q H0 Ri R0  r)
def bh.pl13 (F:Nat) :Nat->List (List Int)->Int->Int->Option (Int)
 | 0,_,_,_=>none
 | k+1,au,aN,bg=>(bif (decide (bg<(au.length:Int))) then ((ix au bg).bind λn1=>(bs.p F (gt au n1) aN).bind λr2=>(bif (decide (r2<0)) then (some (-1)) else (bh.pl13 F k au r2 (wrap .i64 (bg+1))))) else (some aN))
theorem bh.l13_P  :∀ k,bh.S13 H0 Ri R0  (bh.l13 F (bs.tw F)  k) (bh.pl13 F  k):=by
 intro k
 induction k with
 | zero=>unfold bh.S13;intros;rename_i hp;cases hp
 | succ k ih=>
  intro ce bK cf au aN bg H dC h0 r hp
  obtain ⟨w0,s0,ch⟩:=h0
  subst dC
  unfold bh.pl13 at hp
  unfold bh.l13
  refine aE hp (λhp=>?_) λhp=>?_
  ·obtain ⟨n1,g1,hp⟩:=ae hp
   obtain ⟨p1,q1,i1,h1,j1⟩:=ROs.ixr ch rfl g1
   refine ai i1 ?_
   obtain ⟨⟨mf,m1_0,c1_0⟩,rfl,f1_0⟩:=h1
   obtain rfl:m1_0=_:=f1_0.n
   refine ai (dJ (j1 0 _ rfl)) ?_
   obtain ⟨r2,e2,hp⟩:=ae hp
   refine bd (bs.P rfl ⟨w0,f1_0⟩ e2) ?_
   rintro _ H3 ⟨rfl,w3,s3,_⟩
   refine br ?_
   refine aE hp (λhp=>?_) λhp=>?_
   ·exact aA hp ⟨rfl,w3,(s0.trans s3),trivial⟩
   ·exact ih rfl ⟨w3,(s0.trans s3),(ch.step s3)⟩ hp
  ·exact aA hp ⟨rfl,w0,s0,trivial⟩
def bh.p (F:Nat) (ah:Be) (ag:Int):Option (Int):=bh.pl13 F F ah ag 0
theorem bh.P {ay ak az ah ag} (bE:ak=ah.length) (h0:Inn H R0 λR=>ROs (eSl eI) H R ⟨ay,ak,az⟩ ah) {r:Int} (hp:bh.p F ah ag=some r):Rt (bh.tw F ⟨ay,ak,az⟩ ag H) (bh.Q H R0 R0  r):=by
 obtain ⟨w0,bx⟩:=h0
 subst bE
 unfold bh.p at hp
 unfold bh.tw bh.twX
 have s0:=w0.rf
 exact bh.l13_P F rfl ⟨w0,s0,bx⟩ hp
def cO.Q (H0:Hp) (Ri R0:Ba)  (r:Int) (v:AV) (H':Hp):Prop:=v=(.i r)/\Out H0 Ri H' (R0) λR=>True
def cO.p (F:Nat) (ax:Be) (ar:Int):Option (Int):=(bh.p F ax ar).bind λr2=>(bif (decide (r2<0)) then (some (-1)) else (some r2))
theorem cO.P {aa ar bA aR bB ax} (cP:aR=ax.length) (h0:Inn H R0 λR=>ROs (eSl eI) H R ⟨bA,aR,bB⟩ ax) {r:Int} (hp:cO.p F ax ar=some r):Rt (cO.tw F aa ⟨bA,aR,bB⟩ ar H) (cO.Q H R0 R0  r):=by
 obtain ⟨w0,cx⟩:=h0
 subst cP
 unfold cO.p at hp
 unfold cO.tw cO.twX
 have s0:=w0.rf
 refine cA w0 λH1 w1 s1=>?_
 refine lSl w1 0 ?_
 obtain ⟨r2,e2,hp⟩:=ae hp
 refine bd (bh.P rfl ⟨w1,(cx.step s1)⟩ e2) ?_
 rintro _ H3 ⟨rfl,w3,s3,_⟩
 refine br ?_
 refine aE hp (λhp=>?_) λhp=>?_
 ·obtain ⟨w4,s4⟩:=w3.pp [] 1
  exact aA hp ⟨rfl,w4,(s0.trans (s1.trans (s3.trans s4))),trivial⟩
 ·obtain ⟨w5,s5⟩:=w3.pp [] 1
  exact aA hp ⟨rfl,w5,(s0.trans (s1.trans (s3.trans s5))),trivial⟩
def cz.Q (H0:Hp) (Ri R0:Ba)  (r:Bool) (v:AV) (H':Hp):Prop:=v=(.bool r)/\Out H0 Ri H' (R0) λR=>True
def cz.p (F:Nat) (aa:Int) (ax:AZ):Option (Bool):=(cU.p F ax 1048576).bind λr2=>(bif (decide (r2<0)) then (some true) else ((cv.p F aa ax).bind λr5=>(cZ.p F r5.1 r5.2).bind λr8=>(cv.p F aa ax).bind λr13=>(cN.p F r13.1 r13.2).bind λr20=>(cC.p F r20.1 r20.2.1 r8.1 r8.2.1).bind λr29=>(bif (!r29) then (some false) else ((bif (r20.2.2 != r8.2.2) then (some false) else ((cv.p F aa ax).bind λr35=>(dd.p F r13.1 r13.2 r35.1 r35.2).bind λr41=>(bif (!r41) then (some false) else ((de.p F r13.2 1).bind λr46=>(bif (decide (r46.1<0)) then (some false) else ((cC.p F r20.1 r20.2.1 r8.1 r8.2.1).bind λr52=>(bif (!r52) then (some false) else ((bif (r20.2.2 != r8.2.2) then (some false) else ((dg.p F r20.2.1 1).bind λr58=>(cO.p F r58.2 1).bind λr61=>(bif (decide (r61<0)) then (some false) else ((bif (r61 != r58.1) then (some false) else ((cv.p F aa ax).bind λr66=>(cN.p F r66.1 r66.2).bind λr69=>(cC.p F r69.1 r69.2.1 r8.1 r8.2.1).bind λr78=>(bif (!r78) then (some false) else ((bif (r69.2.2 != r8.2.2) then (some false) else ((cO.p F r58.2 1).bind λr86=>(bif (decide (r86<0)) then (some false) else ((bif (r86 != r58.1) then (some false) else (some true))))))))))))))))))))))))))
theorem cz.P {aa bA aR bB ax} (cP:aR=ax.length) (h0:Inn H R0 λR=>ROs eI H R ⟨bA,aR,bB⟩ ax) {r:Bool} (hp:cz.p F aa ax=some r):Rt (cz.tw F aa ⟨bA,aR,bB⟩ H) (cz.Q H R0 R0  r):=by
 obtain ⟨w0,cx⟩:=h0
 subst cP
 unfold cz.p at hp
 unfold cz.tw cz.twX
 have s0:=w0.rf
 refine cA w0 λH1 w1 s1=>?_
 refine lI w1 0 ?_
 refine lSl w1 0 ?_
 obtain ⟨r2,e2,hp⟩:=ae hp
 refine bd (cU.P rfl ⟨w1,(cx.step s1)⟩ e2) ?_
 rintro _ H3 ⟨rfl,w3,s3,_⟩
 refine br ?_
 refine aE hp (λhp=>?_) λhp=>?_
 ·obtain ⟨w4,s4⟩:=w3.pp [] 1
  exact aA hp ⟨rfl,w4,(s0.trans (s1.trans (s3.trans s4))),trivial⟩
 ·refine lI w3 0 ?_
  refine lSl w3 0 ?_
  obtain ⟨r5,e5,hp⟩:=ae hp
  refine bd (cv.P rfl ⟨w3,(cx.step (s1.trans s3))⟩ e5) ?_
  rintro _ H6 ⟨o1a_6,o1n_6,o1c_6,o1k_6,rfl,rfl,w6,s6,f6_0⟩
  refine br (br (br (br (br ?_))))
  obtain ⟨w7,s7,f7⟩:=w6.frz (i:=0) eI rfl f6_0
  obtain ⟨r8,e8,hp⟩:=ae hp
  refine bd (cZ.P rfl ⟨w7,f7⟩ e8) ?_
  rintro _ H9 ⟨o1a_9,o1n_9,o1c_9,o1k_9,rfl,rfl,w9,s9,f9_0⟩
  refine br (br (br (br (br (br (br (br (br ?_))))))))
  refine cA w9 λH10 w10 s10=>?_
  refine b_ w10 0 λH11 w11 s11=>?_
  refine b_ w11 0 λH12 w12 s12=>?_
  refine lI w12 2 ?_
  refine lSl w12 2 ?_
  obtain ⟨r13,e13,hp⟩:=ae hp
  refine bd (cv.P rfl ⟨w12,(cx.step (s1.trans (s3.trans (s6.trans (s7.trans (s9.trans (s10.trans (s11.trans s12))))))))⟩ e13) ?_
  rintro _ H14 ⟨o1a_14,o1n_14,o1c_14,o1k_14,rfl,rfl,w14,s14,f14_0⟩
  refine br (br (br (br (br ?_))))
  refine cA w14 λH15 w15 s15=>?_
  refine b_ w15 0 λH16 w16 s16=>?_
  refine b_ w16 0 λH17 w17 s17=>?_
  refine lI w17 0 ?_
  refine lSl w17 0 ?_
  obtain ⟨w18,s18⟩:=w17.pp [1,0,2,3,4] 5
  have f19:=W.borrow1 eI w18 (f14_0.step (s15.trans (s16.trans (s17.trans s18))))
  obtain ⟨w19,s19⟩:=w18.right1
  obtain ⟨r20,e20,hp⟩:=ae hp
  refine bd (cN.P rfl ⟨w19,f19⟩ e20) ?_
  rintro _ H21 ⟨o1a_21,o1n_21,o1c_21,o1k_21,o1m_21,rfl,rfl,w21,s21,f21_0⟩
  obtain ⟨w22,s22⟩:=W.frame1 w18 w21 s21
  refine br (br (br (br (br (br (br (br (br ?_))))))))
  refine cA w22 λH23 w23 s23=>?_
  refine b_ w23 0 λH24 w24 s24=>?_
  refine b_ w24 0 λH25 w25 s25=>?_
  refine lI w25 0 ?_
  refine lSl w25 0 ?_
  refine lI w25 5 ?_
  refine lSl w25 5 ?_
  obtain ⟨w26,s26⟩:=w25.pp [2,3,6,0,1,4,5,7] 8
  dsimp only [pk,pks,nth,List.drop,List.set,List.eraseIdx] at w26 s7 f7 s10 s11 s12 s15 s16 s17 s18 s23 s24 s25 s26
  have f27:ROs (eSl eI) _ _ _ _:=W.borrow2 (oSl (bO eI)) w26 f21_0
  obtain ⟨w27,s27⟩:=w26.right2
  have f28:=W.borrow1 (eSl eI) w27 ((f9_0.step (s10.trans (s11.trans (s12.trans (s14.trans (s15.trans (s16.trans (s17.trans (s18.trans (s22.trans (s23.trans (s24.trans (s25.trans s26))))))))))))).step s27)
  obtain ⟨w28,s28⟩:=w27.right1
  obtain ⟨r29,e29,hp⟩:=ae hp
  refine bd (cC.P rfl rfl ⟨w28,(f27.step s28),f28⟩ e29) ?_
  rintro _ H30 ⟨rfl,w30,s30,_⟩
  obtain ⟨w31,s31⟩:=W.frame1 w27 w30 s30
  obtain ⟨w32,s32⟩:=W.frame2 w26 w31 s31
  refine br ?_
  refine aE hp (λhp=>?_) λhp=>?_
  ·obtain ⟨w33,s33⟩:=w32.pp [] 8
   exact aA hp ⟨rfl,w33,(s0.trans (s1.trans (s3.trans (s6.trans (s7.trans (s9.trans (s10.trans (s11.trans (s12.trans (s14.trans (s15.trans (s16.trans (s17.trans (s18.trans (s22.trans (s23.trans (s24.trans (s25.trans (s26.trans (s32.trans s33)))))))))))))))))))),trivial⟩
  ·refine aE hp (λhp=>?_) λhp=>?_
   ·obtain ⟨w34,s34⟩:=w32.pp [] 8
    exact aA hp ⟨rfl,w34,(s0.trans (s1.trans (s3.trans (s6.trans (s7.trans (s9.trans (s10.trans (s11.trans (s12.trans (s14.trans (s15.trans (s16.trans (s17.trans (s18.trans (s22.trans (s23.trans (s24.trans (s25.trans (s26.trans (s32.trans s34)))))))))))))))))))),trivial⟩
   ·refine lI w32 5 ?_
    refine lSl w32 5 ?_
    refine lI w32 7 ?_
    refine lSl w32 7 ?_
    obtain ⟨r35,e35,hp⟩:=ae hp
    refine bd (cv.P rfl ⟨w32,(cx.step (s1.trans (s3.trans (s6.trans (s7.trans (s9.trans (s10.trans (s11.trans (s12.trans (s14.trans (s15.trans (s16.trans (s17.trans (s18.trans (s22.trans (s23.trans (s24.trans (s25.trans (s26.trans s32)))))))))))))))))))⟩ e35) ?_
    rintro _ H36 ⟨o1a_36,o1n_36,o1c_36,o1k_36,rfl,rfl,w36,s36,f36_0⟩
    refine br (br (br (br (br ?_))))
    refine kS (W.cons_of (Rn:=[_]) w32 w36 s36) ?_
    obtain ⟨w38,s38⟩:=w36.pp [5,0,1,2,3,4,6,7,8] 9
    have f39:=W.borrow1 eI w38 (f14_0.step (s15.trans (s16.trans (s17.trans (s18.trans (s22.trans (s23.trans (s24.trans (s25.trans (s26.trans (s32.trans (s36.trans s38))))))))))))
    obtain ⟨w39,s39⟩:=w38.right1
    have f40:=W.borrow1 eI w39 ((f36_0.step s38).step s39)
    obtain ⟨w40,s40⟩:=w39.right1
    obtain ⟨r41,e41,hp⟩:=ae hp
    refine bd (dd.P rfl rfl ⟨w40,(f39.step s40),f40⟩ e41) ?_
    rintro _ H42 ⟨rfl,w42,s42,_⟩
    obtain ⟨w43,s43⟩:=W.frame1 w39 w42 s42
    obtain ⟨w44,s44⟩:=W.frame1 w38 w43 s43
    refine br ?_
    refine aE hp (λhp=>?_) λhp=>?_
    ·obtain ⟨w45,s45⟩:=w44.pp [] 9
     exact aA hp ⟨rfl,w45,(s0.trans (s1.trans (s3.trans (s6.trans (s7.trans (s9.trans (s10.trans (s11.trans (s12.trans (s14.trans (s15.trans (s16.trans (s17.trans (s18.trans (s22.trans (s23.trans (s24.trans (s25.trans (s26.trans (s32.trans (s36.trans (s38.trans (s44.trans s45))))))))))))))))))))))),trivial⟩
    ·refine lI w44 6 ?_
     refine lSl w44 6 ?_
     obtain ⟨r46,e46,hp⟩:=ae hp
     refine bd (de.P rfl ⟨w44,(f14_0.step (s15.trans (s16.trans (s17.trans (s18.trans (s22.trans (s23.trans (s24.trans (s25.trans (s26.trans (s32.trans (s36.trans (s38.trans s44)))))))))))))⟩ e46) ?_
     rintro _ H47 ⟨Ak,rfl,hl47_0,w47,s47,f47_0⟩
     refine br ?_
     refine aE hp (λhp=>?_) λhp=>?_
     ·obtain ⟨w48,s48⟩:=w47.pp [] 9
      exact aA hp ⟨rfl,w48,(s0.trans (s1.trans (s3.trans (s6.trans (s7.trans (s9.trans (s10.trans (s11.trans (s12.trans (s14.trans (s15.trans (s16.trans (s17.trans (s18.trans (s22.trans (s23.trans (s24.trans (s25.trans (s26.trans (s32.trans (s36.trans (s38.trans (s44.trans (s47.trans s48)))))))))))))))))))))))),trivial⟩
     ·refine lI w47 5 ?_
      refine lSl w47 5 ?_
      refine lI w47 7 ?_
      refine lSl w47 7 ?_
      obtain ⟨w49,s49⟩:=w47.pp [2,3,4,0,1,5,6,7,8] 9
      dsimp only [pk,pks,nth,List.drop,List.set,List.eraseIdx] at w49 s38 s49
      have f50:ROs (eSl eI) _ _ _ _:=W.borrow2 (oSl (bO eI)) w49 f21_0
      obtain ⟨w50,s50⟩:=w49.right2
      have f51:=W.borrow1 (eSl eI) w50 ((f9_0.step (s10.trans (s11.trans (s12.trans (s14.trans (s15.trans (s16.trans (s17.trans (s18.trans (s22.trans (s23.trans (s24.trans (s25.trans (s26.trans (s32.trans (s36.trans (s38.trans (s44.trans (s47.trans s49))))))))))))))))))).step s50)
      obtain ⟨w51,s51⟩:=w50.right1
      obtain ⟨r52,e52,hp⟩:=ae hp
      refine bd (cC.P rfl rfl ⟨w51,(f50.step s51),f51⟩ e52) ?_
      rintro _ H53 ⟨rfl,w53,s53,_⟩
      obtain ⟨w54,s54⟩:=W.frame1 w50 w53 s53
      obtain ⟨w55,s55⟩:=W.frame2 w49 w54 s54
      refine br ?_
      refine aE hp (λhp=>?_) λhp=>?_
      ·obtain ⟨w56,s56⟩:=w55.pp [] 9
       exact aA hp ⟨rfl,w56,(s0.trans (s1.trans (s3.trans (s6.trans (s7.trans (s9.trans (s10.trans (s11.trans (s12.trans (s14.trans (s15.trans (s16.trans (s17.trans (s18.trans (s22.trans (s23.trans (s24.trans (s25.trans (s26.trans (s32.trans (s36.trans (s38.trans (s44.trans (s47.trans (s49.trans (s55.trans s56)))))))))))))))))))))))))),trivial⟩
      ·refine aE hp (λhp=>?_) λhp=>?_
       ·obtain ⟨w57,s57⟩:=w55.pp [] 9
        exact aA hp ⟨rfl,w57,(s0.trans (s1.trans (s3.trans (s6.trans (s7.trans (s9.trans (s10.trans (s11.trans (s12.trans (s14.trans (s15.trans (s16.trans (s17.trans (s18.trans (s22.trans (s23.trans (s24.trans (s25.trans (s26.trans (s32.trans (s36.trans (s38.trans (s44.trans (s47.trans (s49.trans (s55.trans s57)))))))))))))))))))))))))),trivial⟩
       ·refine lI w55 5 ?_
        refine lSl w55 5 ?_
        obtain ⟨r58,e58,hp⟩:=ae hp
        refine bd (dg.P rfl ⟨w55,f21_0⟩ e58) ?_
        rintro _ H59 ⟨Al,Am,rfl,hl59_0,w59,s59,f59_0⟩
        refine br ?_
        refine lI w59 5 ?_
        refine lSl w59 5 ?_
        have f60:ROs (eSl eI) _ _ _ _:=W.borrow2 (oSl (bO eI)) w59 f59_0
        obtain ⟨w60,s60⟩:=w59.right2
        obtain ⟨r61,e61,hp⟩:=ae hp
        refine bd (cO.P hl59_0 ⟨w60,f60⟩ e61) ?_
        rintro _ H62 ⟨rfl,w62,s62,_⟩
        obtain ⟨w63,s63⟩:=W.frame2 w59 w62 s62
        refine br ?_
        refine aE hp (λhp=>?_) λhp=>?_
        ·obtain ⟨w64,s64⟩:=w63.pp [] 9
         exact aA hp ⟨rfl,w64,(s0.trans (s1.trans (s3.trans (s6.trans (s7.trans (s9.trans (s10.trans (s11.trans (s12.trans (s14.trans (s15.trans (s16.trans (s17.trans (s18.trans (s22.trans (s23.trans (s24.trans (s25.trans (s26.trans (s32.trans (s36.trans (s38.trans (s44.trans (s47.trans (s49.trans (s55.trans (s59.trans (s63.trans s64)))))))))))))))))))))))))))),trivial⟩
        ·refine aE hp (λhp=>?_) λhp=>?_
         ·obtain ⟨w65,s65⟩:=w63.pp [] 9
          exact aA hp ⟨rfl,w65,(s0.trans (s1.trans (s3.trans (s6.trans (s7.trans (s9.trans (s10.trans (s11.trans (s12.trans (s14.trans (s15.trans (s16.trans (s17.trans (s18.trans (s22.trans (s23.trans (s24.trans (s25.trans (s26.trans (s32.trans (s36.trans (s38.trans (s44.trans (s47.trans (s49.trans (s55.trans (s59.trans (s63.trans s65)))))))))))))))))))))))))))),trivial⟩
         ·refine lI w63 8 ?_
          refine lSl w63 8 ?_
          obtain ⟨r66,e66,hp⟩:=ae hp
          refine bd (cv.P rfl ⟨w63,(cx.step (s1.trans (s3.trans (s6.trans (s7.trans (s9.trans (s10.trans (s11.trans (s12.trans (s14.trans (s15.trans (s16.trans (s17.trans (s18.trans (s22.trans (s23.trans (s24.trans (s25.trans (s26.trans (s32.trans (s36.trans (s38.trans (s44.trans (s47.trans (s49.trans (s55.trans (s59.trans s63)))))))))))))))))))))))))))⟩ e66) ?_
          rintro _ H67 ⟨o1a_67,o1n_67,o1c_67,o1k_67,rfl,rfl,w67,s67,f67_0⟩
          refine br (br (br (br (br ?_))))
          have f68:=W.borrow1 eI w67 f67_0
          obtain ⟨w68,s68⟩:=w67.right1
          obtain ⟨r69,e69,hp⟩:=ae hp
          refine bd (cN.P rfl ⟨w68,f68⟩ e69) ?_
          rintro _ H70 ⟨o1a_70,o1n_70,o1c_70,o1k_70,o1m_70,rfl,rfl,w70,s70,f70_0⟩
          obtain ⟨w71,s71⟩:=W.frame1 w67 w70 s70
          refine br (br (br (br (br (br (br (br (br ?_))))))))
          refine cA w71 λH72 w72 s72=>?_
          refine b_ w72 0 λH73 w73 s73=>?_
          refine b_ w73 0 λH74 w74 s74=>?_
          refine lI w74 0 ?_
          refine lSl w74 0 ?_
          refine lI w74 11 ?_
          refine lSl w74 11 ?_
          obtain ⟨w75,s75⟩:=w74.pp [2,3,6,0,1,4,5,7,8,9,10,11,12] 13
          dsimp only [pk,pks,nth,List.drop,List.set,List.eraseIdx] at w75 s73 s74 s75
          have f76:ROs (eSl eI) _ _ _ _:=W.borrow2 (oSl (bO eI)) w75 f70_0
          obtain ⟨w76,s76⟩:=w75.right2
          have f77:=W.borrow1 (eSl eI) w76 ((f9_0.step (s10.trans (s11.trans (s12.trans (s14.trans (s15.trans (s16.trans (s17.trans (s18.trans (s22.trans (s23.trans (s24.trans (s25.trans (s26.trans (s32.trans (s36.trans (s38.trans (s44.trans (s47.trans (s49.trans (s55.trans (s59.trans (s63.trans (s67.trans (s71.trans (s72.trans (s73.trans (s74.trans s75)))))))))))))))))))))))))))).step s76)
          obtain ⟨w77,s77⟩:=w76.right1
          obtain ⟨r78,e78,hp⟩:=ae hp
          refine bd (cC.P rfl rfl ⟨w77,(f76.step s77),f77⟩ e78) ?_
          rintro _ H79 ⟨rfl,w79,s79,_⟩
          obtain ⟨w80,s80⟩:=W.frame1 w76 w79 s79
          obtain ⟨w81,s81⟩:=W.frame2 w75 w80 s80
          refine br ?_
          refine aE hp (λhp=>?_) λhp=>?_
          ·obtain ⟨w82,s82⟩:=w81.pp [] 13
           exact aA hp ⟨rfl,w82,(s0.trans (s1.trans (s3.trans (s6.trans (s7.trans (s9.trans (s10.trans (s11.trans (s12.trans (s14.trans (s15.trans (s16.trans (s17.trans (s18.trans (s22.trans (s23.trans (s24.trans (s25.trans (s26.trans (s32.trans (s36.trans (s38.trans (s44.trans (s47.trans (s49.trans (s55.trans (s59.trans (s63.trans (s67.trans (s71.trans (s72.trans (s73.trans (s74.trans (s75.trans (s81.trans s82))))))))))))))))))))))))))))))))))),trivial⟩
          ·refine aE hp (λhp=>?_) λhp=>?_
           ·obtain ⟨w83,s83⟩:=w81.pp [] 13
            exact aA hp ⟨rfl,w83,(s0.trans (s1.trans (s3.trans (s6.trans (s7.trans (s9.trans (s10.trans (s11.trans (s12.trans (s14.trans (s15.trans (s16.trans (s17.trans (s18.trans (s22.trans (s23.trans (s24.trans (s25.trans (s26.trans (s32.trans (s36.trans (s38.trans (s44.trans (s47.trans (s49.trans (s55.trans (s59.trans (s63.trans (s67.trans (s71.trans (s72.trans (s73.trans (s74.trans (s75.trans (s81.trans s83))))))))))))))))))))))))))))))))))),trivial⟩
           ·refine lI w81 9 ?_
            refine lSl w81 9 ?_
            obtain ⟨w84,s84⟩:=w81.pp [5,6,0,1,2,3,4,7,8,9,10,11,12] 13
            dsimp only [pk,pks,nth,List.drop,List.set,List.eraseIdx] at w84 s84
            have f85:ROs (eSl eI) _ _ _ _:=W.borrow2 (oSl (bO eI)) w84 f59_0
            obtain ⟨w85,s85⟩:=w84.right2
            obtain ⟨r86,e86,hp⟩:=ae hp
            refine bd (cO.P hl59_0 ⟨w85,f85⟩ e86) ?_
            rintro _ H87 ⟨rfl,w87,s87,_⟩
            obtain ⟨w88,s88⟩:=W.frame2 w84 w87 s87
            refine br ?_
            refine aE hp (λhp=>?_) λhp=>?_
            ·obtain ⟨w89,s89⟩:=w88.pp [] 13
             exact aA hp ⟨rfl,w89,(s0.trans (s1.trans (s3.trans (s6.trans (s7.trans (s9.trans (s10.trans (s11.trans (s12.trans (s14.trans (s15.trans (s16.trans (s17.trans (s18.trans (s22.trans (s23.trans (s24.trans (s25.trans (s26.trans (s32.trans (s36.trans (s38.trans (s44.trans (s47.trans (s49.trans (s55.trans (s59.trans (s63.trans (s67.trans (s71.trans (s72.trans (s73.trans (s74.trans (s75.trans (s81.trans (s84.trans (s88.trans s89))))))))))))))))))))))))))))))))))))),trivial⟩
            ·refine aE hp (λhp=>?_) λhp=>?_
             ·obtain ⟨w90,s90⟩:=w88.pp [] 13
              exact aA hp ⟨rfl,w90,(s0.trans (s1.trans (s3.trans (s6.trans (s7.trans (s9.trans (s10.trans (s11.trans (s12.trans (s14.trans (s15.trans (s16.trans (s17.trans (s18.trans (s22.trans (s23.trans (s24.trans (s25.trans (s26.trans (s32.trans (s36.trans (s38.trans (s44.trans (s47.trans (s49.trans (s55.trans (s59.trans (s63.trans (s67.trans (s71.trans (s72.trans (s73.trans (s74.trans (s75.trans (s81.trans (s84.trans (s88.trans s90))))))))))))))))))))))))))))))))))))),trivial⟩
             ·obtain ⟨w91,s91⟩:=w88.pp [] 13
              exact aA hp ⟨rfl,w91,(s0.trans (s1.trans (s3.trans (s6.trans (s7.trans (s9.trans (s10.trans (s11.trans (s12.trans (s14.trans (s15.trans (s16.trans (s17.trans (s18.trans (s22.trans (s23.trans (s24.trans (s25.trans (s26.trans (s32.trans (s36.trans (s38.trans (s44.trans (s47.trans (s49.trans (s55.trans (s59.trans (s63.trans (s67.trans (s71.trans (s72.trans (s73.trans (s74.trans (s75.trans (s81.trans (s84.trans (s88.trans s91))))))))))))))))))))))))))))))))))))),trivial⟩
end
end Go.Proofs.Ytodfdhnlhiaohaa.AE
