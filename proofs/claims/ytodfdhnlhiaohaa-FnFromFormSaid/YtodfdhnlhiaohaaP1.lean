import Derived.Test.YtodfdhnlhiaohaaT1
import Derived.Test.YtodfdhnlhiaohaaE2
set_option linter.unusedVariables false
set_option linter.unusedSimpArgs false
namespace Go.Proofs.Ytodfdhnlhiaohaa.AE
open Go Go.AE Go.Proofs IntKind
set_option linter.unusedVariables false
variable {F:Nat} {H H0:Hp} {Ri R0:By}
set_option maxHeartbeats 4000000
set_option maxRecDepth 100000
noncomputable section
def cp.Q (H0:Hp) (Ri R0:By)  (r:Bool) (v:AV) (H':Hp):Prop:=v=(.bool r)/\Out H0 Ri H' (R0) λR=>True
def cp.p (F:Nat) (ai:Bv):Option (Bool):=some (decide ((ai.length:Int)>4096))
theorem cp.P {aJ ax aK ai} (bQ:ax=ai.length) (h0:Inn H R0 λR=>ROs (bf .u8) H R ⟨aJ,ax,aK⟩ ai) {r:Bool} (hp:cp.p F ai=some r):Rt (cp.tw F ⟨aJ,ax,aK⟩ H) (cp.Q H R0 R0  r):=by
 obtain ⟨w0,bG⟩:=h0
 subst bQ
 unfold cp.p at hp
 unfold cp.tw cp.twX
 have s0:=w0.rf
 exact ay hp ⟨rfl,w0,s0,trivial⟩
def ba.Q (H0:Hp) (Ri R0:By)  (r:BX) (v:AV) (H':Hp):Prop:=∃ o0a:ON,∃ o0n:Nat,∃ o0c:Cap,∃ ob0:Nat,v=(.ptr ob0 0)/\o0n=(r.1).length/\Out H0 Ri H' (Rs.blk ob0 [.sl ⟨o0a,o0n,o0c⟩,.i r.2.1,.i r.2.2]::R0) λR=>ROs (bf .u8) H' R ⟨o0a,o0n,o0c⟩ (r.1)
def ba.S29 (H0:Hp) (Ri R0:By)  (C:Sl->Nat->Nat->Int->Hp->OA) (pC:List Int->Int->Int->Int->Option (List Int×Int×Int)):Prop:=∀ {eU ee bm eV bI iJ iK ck},∀ {H:Hp},ee=bI.length->(Out H0 Ri H (Rs.blk bm [.sl ⟨eU,ee,eV⟩,.i iJ,.i iK]::R0) λR=>ROs (bf .u8) H R ⟨eU,ee,eV⟩ bI)->∀ {r:BX},pC bI iJ iK ck=some r->Rt (C ⟨eU,ee,eV⟩ bm 0 ck H) (ba.Q H0 Ri R0  r)
def ba.pl29 (F:Nat) :Nat->List Int->Int->Int->Int->Option (List Int×Int×Int)
 | 0,_,_,_,_=>none
 | k+1,bI,iJ,iK,ck=>(bif (decide (ck<(bI.length:Int))) then ((bif (decide (ck<64)) then ((ix bI ck).bind λn1=>ba.pl29 F k bI iJ (Int.tmod (wrap .i64 ((wrap .i64 (iK * 37))+(wrap .i64 (gt bI n1)))) 2147483647) (wrap .i64 (ck+1))) else (some (bI,iJ,iK)))) else (some (bI,iJ,iK)))
theorem ba.l29_P  :∀ k,ba.S29 H0 Ri R0  (ba.l29 F   k) (ba.pl29 F  k):=by
 intro k
 induction k with
 | zero=>unfold ba.S29;intros;rename_i hp;cases hp
 | succ k ih=>
  intro eU ee bm eV bI iJ iK ck H iL h0 r hp
  obtain ⟨w0,s0,eu⟩:=h0
  subst iL
  unfold ba.pl29 at hp
  unfold ba.l29
  refine aC hp (λhp=>?_) λhp=>?_
  ·refine aC hp (λhp=>?_) λhp=>?_
   ·refine lI w0 0 ?_
    obtain ⟨n1,g1,hp⟩:=af hp
    obtain ⟨p1,q1,i1,h1,j1⟩:=ROs.ixr eu rfl g1
    refine aj i1 ?_
    have h1:_=[_]:=h1
    subst h1
    refine aj (cW (j1 0 _ rfl)) ?_
    refine au w0 0 λH2 w2 s2=>?_
    exact ih rfl ⟨w2,(s0.trans s2),(eu.step s2)⟩ hp
   ·exact ay hp ⟨_,_,_,_,rfl,rfl,w0,s0,eu⟩
  ·exact ay hp ⟨_,_,_,_,rfl,rfl,w0,s0,eu⟩
def ba.p (F:Nat) (ai:Bv):Option (List Int×Int×Int):=ba.pl29 F F ai 0 97531 0
theorem ba.P {aJ ax aK ai} (bQ:ax=ai.length) (h0:Inn H R0 λR=>ROs (bf .u8) H R ⟨aJ,ax,aK⟩ ai) {r:BX} (hp:ba.p F ai=some r):Rt (ba.tw F ⟨aJ,ax,aK⟩ H) (ba.Q H R0 R0  r):=by
 obtain ⟨w0,bG⟩:=h0
 subst bQ
 unfold ba.p at hp
 unfold ba.tw ba.twX
 have s0:=w0.rf
 refine bM w0 λH1 w1 s1=>?_
 exact ba.l29_P F rfl ⟨w1,(s0.trans s1),(bG.step s1)⟩ hp
def av.Q (H0:Hp) (Ri R0:By) (dd:ON) (cV aa:Nat) (de:Cap) (bS:Bv) (r:BQ) (v:AV) (H':Hp):Prop:=v=(.i r.1)/\Out H0 Ri H' (Rs.blk aa [.sl ⟨dd,cV,de⟩,.i (r.2.1),.i (r.2.2)]::R0) λR=>True
def av.pj1 (F:Nat)  (gQ:Int) (jq:Int) (aR:Int) (aS:Int):Option (Int×Int×Int):=(if gQ=0 then none else (some ((Int.tmod jq gQ),aR,aS)))
theorem av.j1_P {cf bK cl cg bA}  {gQ jq aR aS} (eN:bK=bA.length) (h0:Out H0 Ri H (Rs.blk cl [.sl ⟨cf,bK,cg⟩,.i aR,.i aS]::R0) λR=>ROs (bf .u8) H R ⟨cf,bK,cg⟩ bA) {r:BQ} (hp:av.pj1 F  gQ jq aR aS=some r):Rt (av.j1 F   gQ jq H) (av.Q H0 Ri R0 cf bK cl cg bA r):=by
 obtain ⟨w0,s0,dK⟩:=h0
 subst eN
 unfold av.pj1 at hp
 unfold av.j1
 obtain ⟨g1,hp⟩:=uO hp
 refine uP g1 ?_
 exact ay hp ⟨rfl,w0,s0,trivial⟩
def av.pj2 (F:Nat)  (jr:Int) (js:Int) (aR:Int) (aS:Int):Option (Int×Int×Int):=av.pj1 F jr js aR aS
theorem av.j2_P {cf bK cl cg bA}  {jr js aR aS} (eN:bK=bA.length) (h0:Out H0 Ri H (Rs.blk cl [.sl ⟨cf,bK,cg⟩,.i aR,.i aS]::R0) λR=>ROs (bf .u8) H R ⟨cf,bK,cg⟩ bA) {r:BQ} (hp:av.pj2 F  jr js aR aS=some r):Rt (av.j2 F   jr js H) (av.Q H0 Ri R0 cf bK cl cg bA r):=by
 obtain ⟨w0,s0,dK⟩:=h0
 subst eN
 unfold av.pj2 at hp
 unfold av.j2
 exact av.j1_P rfl ⟨w0,s0,dK⟩ hp
def av.pj3 (F:Nat)  (gR:Int) (jt:Int) (aR:Int) (aS:Int):Option (Int×Int×Int):=(if gR=0 then none else (some ((Int.tmod jt gR),aR,aS)))
theorem av.j3_P {cf bK cl cg bA}  {gR jt aR aS} (eN:bK=bA.length) (h0:Out H0 Ri H (Rs.blk cl [.sl ⟨cf,bK,cg⟩,.i aR,.i aS]::R0) λR=>ROs (bf .u8) H R ⟨cf,bK,cg⟩ bA) {r:BQ} (hp:av.pj3 F  gR jt aR aS=some r):Rt (av.j3 F   gR jt H) (av.Q H0 Ri R0 cf bK cl cg bA r):=by
 obtain ⟨w0,s0,dK⟩:=h0
 subst eN
 unfold av.pj3 at hp
 unfold av.j3
 obtain ⟨g1,hp⟩:=uO hp
 refine uP g1 ?_
 exact ay hp ⟨rfl,w0,s0,trivial⟩
def av.p (F:Nat) (bS:Bv) (aR:Int) (aS:Int) (ak:Int):Option (Int×Int×Int):=(bif (decide (ak<=1)) then (some (0,aR,aS)) else ((bif (decide (aR<(bS.length:Int))) then ((ix bS aR).bind λn2=>(bif (decide (ak<=256)) then ((bif ((Int.tmod (wrap .i64 (aR+1)) 2)==0) then ((ix bS (wrap .i64 ((wrap .i64 (aR+1)) - 1))).bind λn4=>av.pj2 F ak (wrap .i64 (gt bS n4)) (wrap .i64 (aR+1)) (Int.tmod (wrap .i64 ((wrap .i64 (aS * 48271))+11)) 2147483647)) else (av.pj2 F ak (wrap .i64 ((wrap .i64 (Int.tdiv (Int.tmod (wrap .i64 ((wrap .i64 (aS * 48271))+11)) 2147483647) 11))+(wrap .i64 (gt bS n2)))) (wrap .i64 (aR+1)) (Int.tmod (wrap .i64 ((wrap .i64 (aS * 48271))+11)) 2147483647)))) else (av.pj1 F ak (wrap .i64 ((wrap .i64 (Int.tdiv (Int.tmod (wrap .i64 ((wrap .i64 (aS * 48271))+11)) 2147483647) 11))+(wrap .i64 (gt bS n2)))) (wrap .i64 (aR+1)) (Int.tmod (wrap .i64 ((wrap .i64 (aS * 48271))+11)) 2147483647)))) else (av.pj3 F ak (wrap .i64 (Int.tdiv (Int.tmod (wrap .i64 ((wrap .i64 (aS * 48271))+11)) 2147483647) 11)) aR (Int.tmod (wrap .i64 ((wrap .i64 (aS * 48271))+11)) 2147483647)))))
theorem av.P {dd cV aa de bS aR aS ak} (li:cV=bS.length) (h0:Inn H (Rs.blk aa [.sl ⟨dd,cV,de⟩,.i aR,.i aS]::R0) λR=>ROs (bf .u8) H R ⟨dd,cV,de⟩ bS) {r:BQ} (hp:av.p F bS aR aS ak=some r):Rt (av.tw F aa 0 ak H) (av.Q H (Rs.blk aa [.sl ⟨dd,cV,de⟩,.i aR,.i aS]::R0) R0 dd cV aa de bS r):=by
 obtain ⟨w0,dA⟩:=h0
 subst li
 unfold av.p at hp
 unfold av.tw av.twX
 have s0:=w0.rf
 refine aC hp (λhp=>?_) λhp=>?_
 ·exact ay hp ⟨rfl,w0,s0,trivial⟩
 ·refine lI w0 0 ?_
  refine au w0 0 λH1 w1 s1=>?_
  refine lI w1 0 ?_
  refine lI w1 0 ?_
  refine lSl w1 0 ?_
  refine aC hp (λhp=>?_) λhp=>?_
  ·refine lSl w1 0 ?_
   refine lI w1 0 ?_
   obtain ⟨n2,g2,hp⟩:=af hp
   obtain ⟨p2,q2,i2,h2,j2⟩:=ROs.ixr (dA.step s1) rfl g2
   refine aj i2 ?_
   have h2:_=[_]:=h2
   subst h2
   refine aj (cW (j2 0 _ rfl)) ?_
   refine lI w1 0 ?_
   refine au w1 0 λH3 w3 s3=>?_
   refine aC hp (λhp=>?_) λhp=>?_
   ·refine lI w3 0 ?_
    refine aC hp (λhp=>?_) λhp=>?_
    ·refine lSl w3 0 ?_
     refine lI w3 0 ?_
     obtain ⟨n4,g4,hp⟩:=af hp
     obtain ⟨p4,q4,i4,h4,j4⟩:=ROs.ixr (dA.step (s1.trans s3)) rfl g4
     refine aj i4 ?_
     have h4:_=[_]:=h4
     subst h4
     refine aj (cW (j4 0 _ rfl)) ?_
     exact av.j2_P rfl ⟨w3,(s0.trans (s1.trans s3)),(dA.step (s1.trans s3))⟩ hp
    ·exact av.j2_P rfl ⟨w3,(s0.trans (s1.trans s3)),(dA.step (s1.trans s3))⟩ hp
   ·exact av.j1_P rfl ⟨w3,(s0.trans (s1.trans s3)),(dA.step (s1.trans s3))⟩ hp
  ·exact av.j3_P rfl ⟨w1,(s0.trans s1),(dA.step s1)⟩ hp
def aw.Q (H0:Hp) (Ri R0:By) (dd:ON) (cV aa:Nat) (de:Cap) (bS:Bv) (r:BL) (v:AV) (H':Hp):Prop:=∃ o1a:ON,∃ o1n:Nat,∃ o1c:Cap,∃ o1k:List AV,v=(.agg [(.i r.1),(.sl ⟨o1a,o1n,o1c⟩)])/\o1n=(r.2.1).length/\Out H0 Ri H' (Rs.own ⟨o1a,o1n,o1c⟩ eI.z o1k::Rs.blk aa [.sl ⟨dd,cV,de⟩,.i (r.2.2.1),.i (r.2.2.2)]::R0) λR=>CR eI H' R o1k (r.2.1)
def aw.S61 (H0:Hp) (Ri R0:By) (cf:ON) (bK cl:Nat) (cg:Cap) (bA:Bv) (C:BT) (pC:BY):Prop:=∀ {aR aS sW fK ey oO oP m_ dJ na en oQ oR oS gv oT oU},∀ {H:Hp},bK=bA.length->m_=oS.length->na=gv.length->(Out H0 Ri H (Rs.blk cl [.sl ⟨cf,bK,cg⟩,.i aR,.i aS]::Rs.own ⟨oO,m_,oQ⟩ eI.z oT::Rs.blk dJ [.i sW,.sl ⟨oO,m_,oQ⟩]::Rs.own ⟨oP,na,oR⟩ eI.z oU::Rs.blk en [.i fK,.sl ⟨oP,na,oR⟩]::R0) λR=>ROs (bf .u8) H R ⟨cf,bK,cg⟩ bA/\CR eI H R oT oS/\CR eI H R oU gv)->∀ {r:BL},pC bA aR aS fK gv ey=some r->Rt (C cl 0 dJ 0 en 0 ey H) (aw.Q H0 Ri R0 cf bK cl cg bA r)
def aw.pj2 (F:Nat) (ne:BY) (bA:Bv) (aR:Int) (aS:Int) (ng:Int) (lj:Bv) (jv:Int) (gS:Int):Option (Int×List Int×Int×Int):=(apn lj ([gS]:List Int)).bind λl2=>ne bA aR aS ng l2 (wrap .i64 (jv - 1))
theorem aw.j2_P {cf bK cl cg bA} {C61_:BT} {ne:BY} (hC61:aw.S61 H0 Ri R0 cf bK cl cg bA C61_ ne) {aR aS xx ng jv gS sX sY oV mr oW ju sZ s_ ta lj tc te} (eN:bK=bA.length) (xy:oV=ta.length) (xz:oW=lj.length) (h0:Out H0 Ri H (Rs.blk cl [.sl ⟨cf,bK,cg⟩,.i aR,.i aS]::Rs.own ⟨sX,oV,sZ⟩ eI.z tc::Rs.blk mr [.i xx,.sl ⟨sX,oV,sZ⟩]::Rs.own ⟨sY,oW,s_⟩ eI.z te::Rs.blk ju [.i ng,.sl ⟨sY,oW,s_⟩]::R0) λR=>ROs (bf .u8) H R ⟨cf,bK,cg⟩ bA/\CR eI H R tc ta/\CR eI H R te lj) {r:BL} (hp:aw.pj2 F ne bA aR aS ng lj jv gS=some r):Rt (aw.j2 F (av.tw F) C61_ cl 0 mr 0 ju 0 jv gS H) (aw.Q H0 Ri R0 cf bK cl cg bA r):=by
 obtain ⟨w0,s0,dK,xA,xB⟩:=h0
 subst eN
 subst xy
 subst xz
 unfold aw.pj2 at hp
 unfold aw.j2
 refine lSl w0 4 ?_
 refine fb eI w0 (n:=1) (l:=([gS]:List Int)) rfl (CR.cons1 rfl CR.empty) rfl λH1 w1 s1 c1=>?_
 refine aj (w1.rowo (i:=0) rfl) ?_
 obtain ⟨l2,e2,hp⟩:=af hp
 refine fD eI w1 (i:=4) rfl rfl (xB.step s1) c1 (show 1=List.length ([gS]:List Int) from rfl) rfl e2 λa3 d3 H3 w3 s3 c3 x3=>?_
 refine au w3 5 λH4 w4 s4=>?_
 obtain ⟨w5,s5⟩:=w4.pp [1,2,3,4,5] 6
 exact hC61 rfl rfl rfl ⟨w5,(s0.trans (s1.trans (s3.trans (s4.trans s5)))),(dK.step (s1.trans (s3.trans (s4.trans s5)))),(xA.step (s1.trans (s3.trans (s4.trans s5)))),(c3.step (s4.trans s5))⟩ hp
def aw.pl61 (F:Nat) :Nat->List Int->Int->Int->Int->List Int->Int->Option (Int×List Int×Int×Int)
 | 0,_,_,_,_,_,_=>none
 | k+1,bA,aR,aS,fK,gv,ey=>(bif (decide (ey>0)) then ((bif (decide (fK>1)) then ((av.p F bA aR aS (wrap .i64 (fK - 1))).bind λr1=>(av.p F bA r1.2.1 r1.2.2 2).bind λr3=>(bif (r3.1==0) then (aw.pj2 F (aw.pl61 F k) bA r3.2.1 r3.2.2 fK gv ey (wrap .i64 (0 - (wrap .i64 (1+r1.1))))) else (aw.pj2 F (aw.pl61 F k) bA r3.2.1 r3.2.2 fK gv ey (wrap .i64 (1+r1.1))))) else (some (fK,gv,aR,aS)))) else (some (fK,gv,aR,aS)))
theorem aw.l61_P {cf bK cl cg bA} :∀ k,aw.S61 H0 Ri R0 cf bK cl cg bA (aw.l61 F (av.tw F)  k) (aw.pl61 F  k):=by
 intro k
 induction k with
 | zero=>unfold aw.S61;intros;rename_i hp;cases hp
 | succ k ih=>
  intro aR aS sW fK ey oO oP m_ dJ na en oQ oR oS gv oT oU H eN xC xD h0 r hp
  obtain ⟨w0,s0,dK,tf,nh⟩:=h0
  subst eN
  subst xC
  subst xD
  unfold aw.pl61 at hp
  unfold aw.l61
  refine aC hp (λhp=>?_) λhp=>?_
  ·refine lI w0 4 ?_
   refine aC hp (λhp=>?_) λhp=>?_
   ·refine lI w0 4 ?_
    obtain ⟨r1,e1,hp⟩:=af hp
    refine aM (av.P rfl ⟨w0,dK⟩ e1) ?_
    rintro _ H2 ⟨rfl,w2,s2,_⟩
    refine br ?_
    obtain ⟨r3,e3,hp⟩:=af hp
    refine aM (av.P rfl ⟨w2,(dK.step s2)⟩ e3) ?_
    rintro _ H4 ⟨rfl,w4,s4,_⟩
    refine br ?_
    refine aC hp (λhp=>?_) λhp=>?_
    ·exact aw.j2_P (@ih) rfl rfl rfl ⟨w4,(s0.trans (s2.trans s4)),(dK.step (s2.trans s4)),(tf.step (s2.trans s4)),(nh.step (s2.trans s4))⟩ hp
    ·exact aw.j2_P (@ih) rfl rfl rfl ⟨w4,(s0.trans (s2.trans s4)),(dK.step (s2.trans s4)),(tf.step (s2.trans s4)),(nh.step (s2.trans s4))⟩ hp
   ·refine lI w0 4 ?_
    refine lSl w0 4 ?_
    refine au w0 2 λH5 w5 s5=>?_
    refine au w5 2 λH6 w6 s6=>?_
    refine lI w6 2 ?_
    refine lSl w6 2 ?_
    obtain ⟨w7,s7⟩:=w6.pp [3,0] 5
    exact ay hp ⟨_,_,_,_,rfl,rfl,w7,(s0.trans (s5.trans (s6.trans s7))),(nh.step (s5.trans (s6.trans s7)))⟩
  ·refine lI w0 4 ?_
   refine lSl w0 4 ?_
   refine au w0 2 λH8 w8 s8=>?_
   refine au w8 2 λH9 w9 s9=>?_
   refine lI w9 2 ?_
   refine lSl w9 2 ?_
   obtain ⟨w10,s10⟩:=w9.pp [3,0] 5
   exact ay hp ⟨_,_,_,_,rfl,rfl,w10,(s0.trans (s8.trans (s9.trans s10))),(nh.step (s8.trans (s9.trans s10)))⟩
def aw.pj3 (F:Nat)  (bA:Bv) (aR:Int) (aS:Int) (jy:Int) (ni:Int) (ll:Bv):Option (Int×List Int×Int×Int):=(av.p F bA aR aS (wrap .i64 (jy+1))).bind λr1=>aw.pl61 F F bA r1.2.1 r1.2.2 ni ll r1.1
theorem aw.j3_P {cf bK cl cg bA}  {aR aS jy xE ni tg th oX mv oY mw ti tj tl ll tn tp} (eN:bK=bA.length) (xF:oX=tl.length) (xG:oY=ll.length) (h0:Out H0 Ri H (Rs.blk cl [.sl ⟨cf,bK,cg⟩,.i aR,.i aS]::Rs.own ⟨tg,oX,ti⟩ eI.z tn::Rs.blk mv [.i xE,.sl ⟨tg,oX,ti⟩]::Rs.own ⟨th,oY,tj⟩ eI.z tp::Rs.blk mw [.i ni,.sl ⟨th,oY,tj⟩]::R0) λR=>ROs (bf .u8) H R ⟨cf,bK,cg⟩ bA/\CR eI H R tn tl/\CR eI H R tp ll) {r:BL} (hp:aw.pj3 F  bA aR aS jy ni ll=some r):Rt (aw.j3 F (av.tw F)  cl 0 jy mv 0 mw 0 H) (aw.Q H0 Ri R0 cf bK cl cg bA r):=by
 obtain ⟨w0,s0,dK,xH,xI⟩:=h0
 subst eN
 subst xF
 subst xG
 unfold aw.pj3 at hp
 unfold aw.j3
 obtain ⟨r1,e1,hp⟩:=af hp
 refine aM (av.P rfl ⟨w0,dK⟩ e1) ?_
 rintro _ H2 ⟨rfl,w2,s2,_⟩
 refine br ?_
 exact aw.l61_P F rfl rfl rfl ⟨w2,(s0.trans s2),(dK.step s2),(xH.step s2),(xI.step s2)⟩ hp
def aw.p (F:Nat) (bS:Bv) (aR:Int) (aS:Int) (ak:Int):Option (Int×List Int×Int×Int):=(av.p F bS aR aS 3).bind λr3=>(av.p F bS r3.2.1 r3.2.2 8).bind λr9=>(bif (r9.1==0) then ((av.p F bS r9.2.1 r9.2.2 6).bind λr11=>aw.pj3 F bS r11.2.1 r11.2.2 ak (wrap .i64 (1+r11.1)) ([]:List Int)) else (aw.pj3 F bS r9.2.1 r9.2.2 ak (wrap .i64 (2+r3.1)) ([]:List Int)))
theorem aw.P {dd cV aa de bS aR aS ak} (li:cV=bS.length) (h0:Inn H (Rs.blk aa [.sl ⟨dd,cV,de⟩,.i aR,.i aS]::R0) λR=>ROs (bf .u8) H R ⟨dd,cV,de⟩ bS) {r:BL} (hp:aw.p F bS aR aS ak=some r):Rt (aw.tw F aa 0 ak H) (aw.Q H (Rs.blk aa [.sl ⟨dd,cV,de⟩,.i aR,.i aS]::R0) R0 dd cV aa de bS r):=by
 obtain ⟨w0,dA⟩:=h0
 subst li
 unfold aw.p at hp
 unfold aw.tw aw.twX
 have s0:=w0.rf
 refine bM w0 λH1 w1 s1=>?_
 obtain ⟨w2,s2⟩:=w1.pp [1,0] 2
 obtain ⟨r3,e3,hp⟩:=af hp
 refine aM (av.P rfl ⟨w2,(dA.step (s1.trans s2))⟩ e3) ?_
 rintro _ H4 ⟨rfl,w4,s4,_⟩
 refine br ?_
 refine bM w4 λH5 w5 s5=>?_
 refine au w5 0 λH6 w6 s6=>?_
 refine au w6 0 λH7 w7 s7=>?_
 obtain ⟨w8,s8⟩:=w7.pp [1,0,2] 3
 obtain ⟨r9,e9,hp⟩:=af hp
 refine aM (av.P rfl ⟨w8,(dA.step (s1.trans (s2.trans (s4.trans (s5.trans (s6.trans (s7.trans s8)))))))⟩ e9) ?_
 rintro _ H10 ⟨rfl,w10,s10,_⟩
 refine br ?_
 refine aC hp (λhp=>?_) λhp=>?_
 ·obtain ⟨r11,e11,hp⟩:=af hp
  refine aM (av.P rfl ⟨w10,(dA.step (s1.trans (s2.trans (s4.trans (s5.trans (s6.trans (s7.trans (s8.trans s10))))))))⟩ e11) ?_
  rintro _ H12 ⟨rfl,w12,s12,_⟩
  refine br ?_
  refine au w12 1 λH13 w13 s13=>?_
  obtain ⟨w14,s14⟩:=w13.nilS eI.z (by decide)
  obtain ⟨w15,s15⟩:=w14.nilS eI.z (by decide)
  obtain ⟨w16,s16⟩:=w15.pp [2,1,4,0,3] 5
  exact aw.j3_P rfl rfl rfl ⟨w16,(s0.trans (s1.trans (s2.trans (s4.trans (s5.trans (s6.trans (s7.trans (s8.trans (s10.trans (s12.trans (s13.trans (s14.trans (s15.trans s16))))))))))))),(dA.step (s1.trans (s2.trans (s4.trans (s5.trans (s6.trans (s7.trans (s8.trans (s10.trans (s12.trans (s13.trans (s14.trans (s15.trans s16))))))))))))),((CR.empty:CR eI _ _ [] []).step (s15.trans s16)),((CR.empty:CR eI _ _ [] []).step s16)⟩ hp
 ·obtain ⟨w17,s17⟩:=w10.nilS eI.z (by decide)
  obtain ⟨w18,s18⟩:=w17.nilS eI.z (by decide)
  obtain ⟨w19,s19⟩:=w18.pp [2,1,4,0,3] 5
  exact aw.j3_P rfl rfl rfl ⟨w19,(s0.trans (s1.trans (s2.trans (s4.trans (s5.trans (s6.trans (s7.trans (s8.trans (s10.trans (s17.trans (s18.trans s19))))))))))),(dA.step (s1.trans (s2.trans (s4.trans (s5.trans (s6.trans (s7.trans (s8.trans (s10.trans (s17.trans (s18.trans s19))))))))))),((CR.empty:CR eI _ _ [] []).step (s18.trans s19)),((CR.empty:CR eI _ _ [] []).step s19)⟩ hp
def aW.Q (H0:Hp) (Ri R0:By) (dd:ON) (cV aa:Nat) (de:Cap) (bS:Bv) (r:BL) (v:AV) (H':Hp):Prop:=∃ o1a:ON,∃ o1n:Nat,∃ o1c:Cap,∃ o1k:List AV,v=(.agg [(.i r.1),(.sl ⟨o1a,o1n,o1c⟩)])/\o1n=(r.2.1).length/\Out H0 Ri H' (Rs.own ⟨o1a,o1n,o1c⟩ eI.z o1k::Rs.blk aa [.sl ⟨dd,cV,de⟩,.i (r.2.2.1),.i (r.2.2.2)]::R0) λR=>CR eI H' R o1k (r.2.1)
def aW.S1918 (H0:Hp) (Ri R0:By) (cf:ON) (bK cl:Nat) (cg:Cap) (bA:Bv) (C:Nat->Nat->Nat->Nat->Nat->Nat->Hp->OA) (pC:List Int->Int->Int->Int->List Int->Option (Int×List Int×Int×Int)):Prop:=∀ {aR aS tq gY oZ o_ nj dP nk dh pc pd pe gy pf pg},∀ {H:Hp},bK=bA.length->nj=pe.length->nk=gy.length->(Out H0 Ri H (Rs.blk cl [.sl ⟨cf,bK,cg⟩,.i aR,.i aS]::Rs.own ⟨oZ,nj,pc⟩ eI.z pf::Rs.blk dP [.i tq,.sl ⟨oZ,nj,pc⟩]::Rs.own ⟨o_,nk,pd⟩ eI.z pg::Rs.blk dh [.i gY,.sl ⟨o_,nk,pd⟩]::R0) λR=>ROs (bf .u8) H R ⟨cf,bK,cg⟩ bA/\CR eI H R pf pe/\CR eI H R pg gy)->∀ {r:BL},pC bA aR aS gY gy=some r->Rt (C cl 0 dP 0 dh 0 H) (aW.Q H0 Ri R0 cf bK cl cg bA r)
def aW.pl1918 (F:Nat) :Nat->List Int->Int->Int->Int->List Int->Option (Int×List Int×Int×Int)
 | 0,_,_,_,_,_=>none
 | k+1,bA,aR,aS,gY,gy=>(av.p F bA aR aS 2).bind λr1=>(bif (decide ((gy.length:Int)<(wrap .i64 (24+r1.1)))) then ((bif (decide (gY>1)) then ((apn gy ([1]:List Int)).bind λl4=>aW.pl1918 F k bA r1.2.1 r1.2.2 gY l4) else (some (gY,gy,r1.2.1,r1.2.2)))) else (some (gY,gy,r1.2.1,r1.2.2)))
theorem aW.l1918_P {cf bK cl cg bA} :∀ k,aW.S1918 H0 Ri R0 cf bK cl cg bA (aW.l1918 F (aw.tw F) (av.tw F)  k) (aW.pl1918 F  k):=by
 intro k
 induction k with
 | zero=>unfold aW.S1918;intros;rename_i hp;cases hp
 | succ k ih=>
  intro aR aS tq gY oZ o_ nj dP nk dh pc pd pe gy pf pg H eN xJ xK h0 r hp
  obtain ⟨w0,s0,dK,xL,ph⟩:=h0
  subst eN
  subst xJ
  subst xK
  unfold aW.pl1918 at hp
  unfold aW.l1918
  refine lSl w0 4 ?_
  obtain ⟨r1,e1,hp⟩:=af hp
  refine aM (av.P rfl ⟨w0,dK⟩ e1) ?_
  rintro _ H2 ⟨rfl,w2,s2,_⟩
  refine br ?_
  refine aC hp (λhp=>?_) λhp=>?_
  ·refine lI w2 4 ?_
   refine rR ⟨⟨(io (c_ (w2.ld (i:=4) rfl rfl)) (ip _ _)),(io (c_ (w0.ld (i:=4) rfl rfl)) (ip _ _)),trivial⟩,trivial⟩ ?_
   refine aC hp (λhp=>?_) λhp=>?_
   ·refine lSl w2 4 ?_
    refine fb eI w2 (n:=1) (l:=([1]:List Int)) rfl (CR.cons1 rfl CR.empty) rfl λH3 w3 s3 c3=>?_
    refine aj (w3.rowo (i:=0) rfl) ?_
    obtain ⟨l4,e4,hp⟩:=af hp
    refine fD eI w3 (i:=4) rfl rfl (ph.step (s2.trans s3)) c3 (show 1=List.length ([1]:List Int) from rfl) rfl e4 λa5 d5 H5 w5 s5 c5 x5=>?_
    refine au w5 5 λH6 w6 s6=>?_
    obtain ⟨w7,s7⟩:=w6.pp [1,2,3,4,5] 6
    exact ih rfl rfl rfl ⟨w7,(s0.trans (s2.trans (s3.trans (s5.trans (s6.trans s7))))),(dK.step (s2.trans (s3.trans (s5.trans (s6.trans s7))))),(xL.step (s2.trans (s3.trans (s5.trans (s6.trans s7))))),(c5.step (s6.trans s7))⟩ hp
   ·refine lI w2 4 ?_
    refine lSl w2 4 ?_
    refine au w2 2 λH8 w8 s8=>?_
    refine au w8 2 λH9 w9 s9=>?_
    refine lI w9 2 ?_
    refine lSl w9 2 ?_
    obtain ⟨w10,s10⟩:=w9.pp [3,0] 5
    exact ay hp ⟨_,_,_,_,rfl,rfl,w10,(s0.trans (s2.trans (s8.trans (s9.trans s10)))),(ph.step (s2.trans (s8.trans (s9.trans s10))))⟩
  ·refine rR ⟨⟨(io (c_ (w2.ld (i:=4) rfl rfl)) (ip _ _)),(io (c_ (w0.ld (i:=4) rfl rfl)) (ip _ _)),trivial⟩,trivial⟩ ?_
   refine lI w2 4 ?_
   refine lSl w2 4 ?_
   refine au w2 2 λH11 w11 s11=>?_
   refine au w11 2 λH12 w12 s12=>?_
   refine lI w12 2 ?_
   refine lSl w12 2 ?_
   obtain ⟨w13,s13⟩:=w12.pp [3,0] 5
   exact ay hp ⟨_,_,_,_,rfl,rfl,w13,(s0.trans (s2.trans (s11.trans (s12.trans s13)))),(ph.step (s2.trans (s11.trans (s12.trans s13))))⟩
def aW.p (F:Nat) (bS:Bv) (aR:Int) (aS:Int):Option (Int×List Int×Int×Int):=(aw.p F bS aR aS 9).bind λr3=>(av.p F bS r3.2.2.1 r3.2.2.2 16).bind λr9=>(bif (r9.1==0) then ((av.p F bS r9.2.1 r9.2.2 9).bind λr11=>some ((wrap .i64 (r11.1 - 1)),r3.2.1,r11.2.1,r11.2.2)) else ((bif (r9.1==1) then ((av.p F bS r9.2.1 r9.2.2 9).bind λr17=>(apn r3.2.1 ([(wrap .i64 (r17.1 - 4))]:List Int)).bind λl20=>some (r3.1,l20,r17.2.1,r17.2.2)) else ((bif (r9.1==2) then (aW.pl1918 F F bS r9.2.1 r9.2.2 r3.1 r3.2.1) else (some (r3.1,r3.2.1,r9.2.1,r9.2.2)))))))
theorem aW.P {dd cV aa de bS aR aS} (li:cV=bS.length) (h0:Inn H (Rs.blk aa [.sl ⟨dd,cV,de⟩,.i aR,.i aS]::R0) λR=>ROs (bf .u8) H R ⟨dd,cV,de⟩ bS) {r:BL} (hp:aW.p F bS aR aS=some r):Rt (aW.tw F aa 0 H) (aW.Q H (Rs.blk aa [.sl ⟨dd,cV,de⟩,.i aR,.i aS]::R0) R0 dd cV aa de bS r):=by
 obtain ⟨w0,dA⟩:=h0
 subst li
 unfold aW.p at hp
 unfold aW.tw aW.twX
 have s0:=w0.rf
 refine bM w0 λH1 w1 s1=>?_
 obtain ⟨w2,s2⟩:=w1.pp [1,0] 2
 obtain ⟨r3,e3,hp⟩:=af hp
 refine aM (aw.P rfl ⟨w2,(dA.step (s1.trans s2))⟩ e3) ?_
 rintro _ H4 ⟨o1a_4,o1n_4,o1c_4,o1k_4,rfl,rfl,w4,s4,f4_0⟩
 refine br (br (br (br (br ?_))))
 refine bM w4 λH5 w5 s5=>?_
 refine au w5 0 λH6 w6 s6=>?_
 refine au w6 0 λH7 w7 s7=>?_
 obtain ⟨w8,s8⟩:=w7.pp [2,0,1,3] 4
 obtain ⟨r9,e9,hp⟩:=af hp
 refine aM (av.P rfl ⟨w8,(dA.step (s1.trans (s2.trans (s4.trans (s5.trans (s6.trans (s7.trans s8)))))))⟩ e9) ?_
 rintro _ H10 ⟨rfl,w10,s10,_⟩
 refine br ?_
 refine aC hp (λhp=>?_) λhp=>?_
 ·obtain ⟨r11,e11,hp⟩:=af hp
  refine aM (av.P rfl ⟨w10,(dA.step (s1.trans (s2.trans (s4.trans (s5.trans (s6.trans (s7.trans (s8.trans s10))))))))⟩ e11) ?_
  rintro _ H12 ⟨rfl,w12,s12,_⟩
  refine br ?_
  refine au w12 1 λH13 w13 s13=>?_
  refine lI w13 1 ?_
  refine lSl w13 1 ?_
  refine au w13 3 λH14 w14 s14=>?_
  refine au w14 3 λH15 w15 s15=>?_
  refine lI w15 3 ?_
  refine lSl w15 3 ?_
  obtain ⟨w16,s16⟩:=w15.pp [2,0] 4
  exact ay hp ⟨_,_,_,_,rfl,rfl,w16,(s0.trans (s1.trans (s2.trans (s4.trans (s5.trans (s6.trans (s7.trans (s8.trans (s10.trans (s12.trans (s13.trans (s14.trans (s15.trans s16))))))))))))),(f4_0.step (s5.trans (s6.trans (s7.trans (s8.trans (s10.trans (s12.trans (s13.trans (s14.trans (s15.trans s16))))))))))⟩
 ·refine aC hp (λhp=>?_) λhp=>?_
  ·refine lSl w10 1 ?_
   obtain ⟨r17,e17,hp⟩:=af hp
   refine aM (av.P rfl ⟨w10,(dA.step (s1.trans (s2.trans (s4.trans (s5.trans (s6.trans (s7.trans (s8.trans s10))))))))⟩ e17) ?_
   rintro _ H18 ⟨rfl,w18,s18,_⟩
   refine br ?_
   refine fb eI w18 (n:=1) (l:=([(wrap .i64 (r17.1 - 4))]:List Int)) rfl (CR.cons1 rfl CR.empty) rfl λH19 w19 s19 c19=>?_
   refine aj (w19.rowo (i:=0) rfl) ?_
   obtain ⟨l20,e20,hp⟩:=af hp
   refine fD eI w19 (i:=3) rfl rfl (f4_0.step (s5.trans (s6.trans (s7.trans (s8.trans (s10.trans (s18.trans s19))))))) c19 (show 1=List.length ([(wrap .i64 (r17.1 - 4))]:List Int) from rfl) rfl e20 λa21 d21 H21 w21 s21 c21 x21=>?_
   refine au w21 2 λH22 w22 s22=>?_
   refine rR ⟨⟨(io (c_ (w21.ld (i:=2) rfl rfl)) (ip _ _)),(io (c_ (w19.ld (i:=2) rfl rfl)) (ip _ _)),(io (c_ (w18.ld (i:=1) rfl rfl)) (ip _ _)),(io (c_ (w10.ld (i:=1) rfl rfl)) (ip _ _)),trivial⟩,trivial⟩ ?_
   refine lI w22 2 ?_
   refine lSl w22 2 ?_
   refine au w22 4 λH23 w23 s23=>?_
   refine au w23 4 λH24 w24 s24=>?_
   refine lI w24 4 ?_
   refine lSl w24 4 ?_
   obtain ⟨w25,s25⟩:=w24.pp [3,1] 5
   dsimp only [pk,pks,nth,List.drop,List.set,List.eraseIdx] at w25 s2 s5 s6 s7 s8 s19 s21 c21 s22 s23 s24 s25
   exact ay hp ⟨_,_,_,_,rfl,rfl,w25,(s0.trans (s1.trans (s2.trans (s4.trans (s5.trans (s6.trans (s7.trans (s8.trans (s10.trans (s18.trans (s19.trans (s21.trans (s22.trans (s23.trans (s24.trans s25))))))))))))))),(c21.step (s22.trans (s23.trans (s24.trans s25))))⟩
  ·refine aC hp (λhp=>?_) λhp=>?_
   ·obtain ⟨w26,s26⟩:=w10.nilS eI.z (by decide)
    obtain ⟨w27,s27⟩:=w26.pp [1,0,4,3,2] 5
    exact aW.l1918_P F rfl rfl rfl ⟨w27,(s0.trans (s1.trans (s2.trans (s4.trans (s5.trans (s6.trans (s7.trans (s8.trans (s10.trans (s26.trans s27)))))))))),(dA.step (s1.trans (s2.trans (s4.trans (s5.trans (s6.trans (s7.trans (s8.trans (s10.trans (s26.trans s27)))))))))),((CR.empty:CR eI _ _ [] []).step s27),(f4_0.step (s5.trans (s6.trans (s7.trans (s8.trans (s10.trans (s26.trans s27)))))))⟩ hp
   ·refine lI w10 1 ?_
    refine lSl w10 1 ?_
    refine au w10 3 λH28 w28 s28=>?_
    refine au w28 3 λH29 w29 s29=>?_
    refine lI w29 3 ?_
    refine lSl w29 3 ?_
    obtain ⟨w30,s30⟩:=w29.pp [2,0] 4
    exact ay hp ⟨_,_,_,_,rfl,rfl,w30,(s0.trans (s1.trans (s2.trans (s4.trans (s5.trans (s6.trans (s7.trans (s8.trans (s10.trans (s28.trans (s29.trans s30))))))))))),(f4_0.step (s5.trans (s6.trans (s7.trans (s8.trans (s10.trans (s28.trans (s29.trans s30))))))))⟩
def bW.Q (H0:Hp) (Ri R0:By)  (r:BS) (v:AV) (H':Hp):Prop:=∃ o1a:ON,∃ o1n:Nat,∃ o1c:Cap,∃ o1k:List AV,v=(.agg [(.i r.1),(.sl ⟨o1a,o1n,o1c⟩)])/\o1n=(r.2).length/\Out H0 Ri H' (Rs.own ⟨o1a,o1n,o1c⟩ eI.z o1k::R0) λR=>CR eI H' R o1k (r.2)
def bW.p (F:Nat) (ai:Bv):Option (Int×List Int):=(ba.p F ai).bind λr2=>(aW.p F r2.1 r2.2.1 r2.2.2).bind λr4=>some (r4.1,r4.2.1)
theorem bW.P {aJ ax aK ai} (bQ:ax=ai.length) (h0:Inn H R0 λR=>ROs (bf .u8) H R ⟨aJ,ax,aK⟩ ai) {r:BS} (hp:bW.p F ai=some r):Rt (bW.tw F ⟨aJ,ax,aK⟩ H) (bW.Q H R0 R0  r):=by
 obtain ⟨w0,bG⟩:=h0
 subst bQ
 unfold bW.p at hp
 unfold bW.tw bW.twX
 have s0:=w0.rf
 refine bM w0 λH1 w1 s1=>?_
 obtain ⟨r2,e2,hp⟩:=af hp
 refine aM (ba.P rfl ⟨w1,(bG.step s1)⟩ e2) ?_
 rintro _ H3 ⟨o0a_3,o0n_3,o0c_3,ob0_3,rfl,rfl,w3,s3,f3_0⟩
 refine br ?_
 obtain ⟨r4,e4,hp⟩:=af hp
 refine aM (aW.P rfl ⟨w3,f3_0⟩ e4) ?_
 rintro _ H5 ⟨o1a_5,o1n_5,o1c_5,o1k_5,rfl,rfl,w5,s5,f5_0⟩
 refine br (br (br (br (br ?_))))
 refine au w5 2 λH6 w6 s6=>?_
 refine au w6 2 λH7 w7 s7=>?_
 refine lI w7 2 ?_
 refine lSl w7 2 ?_
 obtain ⟨w8,s8⟩:=w7.pp [0] 3
 exact ay hp ⟨_,_,_,_,rfl,rfl,w8,(s0.trans (s1.trans (s3.trans (s5.trans (s6.trans (s7.trans s8)))))),(f5_0.step (s6.trans (s7.trans s8)))⟩
def bH.Q (H0:Hp) (Ri R0:By)  (r:Bool) (v:AV) (H':Hp):Prop:=v=(.bool r)/\Out H0 Ri H' (R0) λR=>True
def bH.p (F:Nat) (aa:Int) (ag:Int) (dt:Int):Option (Bool):=(bif (decide (ag<=aa)) then (some (decide (aa<=dt))) else (some false))
theorem bH.P {aa ag dt}  (h0:Inn H R0 λR=>True) {r:Bool} (hp:bH.p F aa ag dt=some r):Rt (bH.tw F aa ag dt H) (bH.Q H R0 R0  r):=by
 obtain ⟨w0,_⟩:=h0
 unfold bH.p at hp
 unfold bH.tw bH.twX
 have s0:=w0.rf
 refine aC hp (λhp=>?_) λhp=>?_
 ·exact ay hp ⟨rfl,w0,s0,trivial⟩
 ·exact ay hp ⟨rfl,w0,s0,trivial⟩
def cH.Q (H0:Hp) (Ri R0:By)  (r:Bool) (v:AV) (H':Hp):Prop:=v=(.bool r)/\Out H0 Ri H' (R0) λR=>True
def cH.p (F:Nat) (aa:Int) (ag:Int):Option (Bool):=(bif (ag != 0) then ((bH.p F ag (wrap .i64 (1 - aa)) (wrap .i64 (aa - 1))).bind λr1=>some r1) else (some false))
theorem cH.P {aa ag}  (h0:Inn H R0 λR=>True) {r:Bool} (hp:cH.p F aa ag=some r):Rt (cH.tw F aa ag H) (cH.Q H R0 R0  r):=by
 obtain ⟨w0,_⟩:=h0
 unfold cH.p at hp
 unfold cH.tw cH.twX
 have s0:=w0.rf
 refine aC hp (λhp=>?_) λhp=>?_
 ·obtain ⟨r1,e1,hp⟩:=af hp
  refine aM (bH.P ⟨w0,trivial⟩ e1) ?_
  rintro _ H2 ⟨rfl,w2,s2,_⟩
  refine br ?_
  exact ay hp ⟨rfl,w2,(s0.trans s2),trivial⟩
 ·exact ay hp ⟨rfl,w0,s0,trivial⟩
def cD.Q (H0:Hp) (Ri R0:By) (cE:Int) (dC:Sl) (ag:Nat) (r:Bool) (v:AV) (H':Hp):Prop:=v=(.bool r)/\Out H0 Ri H' (Rs.blk ag [.i cE,.sl dC]::R0) λR=>True
def cD.p (F:Nat) (aa:Int) (cE:Int):Option (Bool):=(cH.p F cE aa).bind λr1=>some (!r1)
theorem cD.P {aa cE dC ag}  (h0:Inn H (Rs.blk ag [.i cE,.sl dC]::R0) λR=>True) {r:Bool} (hp:cD.p F aa cE=some r):Rt (cD.tw F aa ag 0 H) (cD.Q H (Rs.blk ag [.i cE,.sl dC]::R0) R0 cE dC ag r):=by
 obtain ⟨w0,_⟩:=h0
 unfold cD.p at hp
 unfold cD.tw cD.twX
 have s0:=w0.rf
 refine lI w0 0 ?_
 obtain ⟨r1,e1,hp⟩:=af hp
 refine aM (cH.P ⟨w0,trivial⟩ e1) ?_
 rintro _ H2 ⟨rfl,w2,s2,_⟩
 refine br ?_
 exact ay hp ⟨rfl,w2,(s0.trans s2),trivial⟩
def bc.Q (H0:Hp) (Ri R0:By) (cE:Int) (dC:Sl) (ag:Nat) (r:Int) (v:AV) (H':Hp):Prop:=v=(.i r)/\Out H0 Ri H' (Rs.blk ag [.i cE,.sl dC]::R0) λR=>True
def bc.S13 (H0:Hp) (Ri R0:By) (gZ:Int) (nl:Sl) (lm:Nat) (C:Sl->Nat->Nat->Int->Int->Hp->OA) (pC:List Int->Int->Int->Int->Option (Int)):Prop:=∀ {g_ fL hG df fh dR},∀ {H:Hp},fL=df.length->(Out H0 Ri H (Rs.blk lm [.i gZ,.sl nl]::R0) λR=>ROs eI H R ⟨g_,fL,hG⟩ df)->∀ {r:Int},pC df gZ fh dR=some r->Rt (C ⟨g_,fL,hG⟩ lm 0 fh dR H) (bc.Q H0 Ri R0 gZ nl lm r)
def bc.pl13 (F:Nat) :Nat->List Int->Int->Int->Int->Option (Int)
 | 0,_,_,_,_=>none
 | k+1,df,gZ,fh,dR=>(bif (decide (dR<fh)) then ((ix df dR).bind λn1=>(cD.p F (gt df n1) gZ).bind λr2=>(bif r2 then (some dR) else (bc.pl13 F k df gZ fh (wrap .i64 (dR+1))))) else (some (-1)))
theorem bc.l13_P {gZ nl lm} :∀ k,bc.S13 H0 Ri R0 gZ nl lm (bc.l13 F (cD.tw F)  k) (bc.pl13 F  k):=by
 intro k
 induction k with
 | zero=>unfold bc.S13;intros;rename_i hp;cases hp
 | succ k ih=>
  intro g_ fL hG df fh dR H pi h0 r hp
  obtain ⟨w0,s0,kc⟩:=h0
  subst pi
  unfold bc.pl13 at hp
  unfold bc.l13
  refine aC hp (λhp=>?_) λhp=>?_
  ·obtain ⟨n1,g1,hp⟩:=af hp
   obtain ⟨p1,q1,i1,h1,j1⟩:=ROs.ixr kc rfl g1
   refine aj i1 ?_
   have h1:_=[_]:=h1
   subst h1
   refine aj (cW (j1 0 _ rfl)) ?_
   obtain ⟨r2,e2,hp⟩:=af hp
   refine aM (cD.P ⟨w0,trivial⟩ e2) ?_
   rintro _ H3 ⟨rfl,w3,s3,_⟩
   refine br ?_
   refine aC hp (λhp=>?_) λhp=>?_
   ·exact ay hp ⟨rfl,w3,(s0.trans s3),trivial⟩
   ·exact ih rfl ⟨w3,(s0.trans s3),(kc.step s3)⟩ hp
  ·exact ay hp ⟨rfl,w0,s0,trivial⟩
def bc.p (F:Nat) (ai:Bv) (cE:Int):Option (Int):=bc.pl13 F F ai cE (ai.length:Int) 0
theorem bc.P {aJ ax ag aK ai cE dC} (bQ:ax=ai.length) (h0:Inn H (Rs.blk ag [.i cE,.sl dC]::R0) λR=>ROs eI H R ⟨aJ,ax,aK⟩ ai) {r:Int} (hp:bc.p F ai cE=some r):Rt (bc.tw F ⟨aJ,ax,aK⟩ ag 0 H) (bc.Q H (Rs.blk ag [.i cE,.sl dC]::R0) R0 cE dC ag r):=by
 obtain ⟨w0,bG⟩:=h0
 subst bQ
 unfold bc.p at hp
 unfold bc.tw bc.twX
 have s0:=w0.rf
 exact bc.l13_P F rfl ⟨w0,s0,bG⟩ hp
def cN.Q (H0:Hp) (Ri R0:By) (cE:Int) (dC:Sl) (ag:Nat) (r:Bool) (v:AV) (H':Hp):Prop:=v=(.bool r)/\Out H0 Ri H' (Rs.blk ag [.i cE,.sl dC]::R0) λR=>True
def cN.p (F:Nat) (ai:Bv) (cE:Int):Option (Bool):=(bc.p F ai cE).bind λr1=>some (decide (r1>=0))
theorem cN.P {aJ ax ag aK ai cE dC} (bQ:ax=ai.length) (h0:Inn H (Rs.blk ag [.i cE,.sl dC]::R0) λR=>ROs eI H R ⟨aJ,ax,aK⟩ ai) {r:Bool} (hp:cN.p F ai cE=some r):Rt (cN.tw F ⟨aJ,ax,aK⟩ ag 0 H) (cN.Q H (Rs.blk ag [.i cE,.sl dC]::R0) R0 cE dC ag r):=by
 obtain ⟨w0,bG⟩:=h0
 subst bQ
 unfold cN.p at hp
 unfold cN.tw cN.twX
 have s0:=w0.rf
 obtain ⟨r1,e1,hp⟩:=af hp
 refine aM (bc.P rfl ⟨w0,bG⟩ e1) ?_
 rintro _ H2 ⟨rfl,w2,s2,_⟩
 refine br ?_
 exact ay hp ⟨rfl,w2,(s0.trans s2),trivial⟩
def ce.Q (H0:Hp) (Ri R0:By)  (r:Bool) (v:AV) (H':Hp):Prop:=v=(.bool r)/\Out H0 Ri H' (R0) λR=>True
def ce.p (F:Nat) (aa:Int) (aV:Bv):Option (Bool):=(bH.p F aa 1 6).bind λr2=>(bif r2 then ((bif (decide ((aV.length:Int)<=24)) then ((cN.p F aV aa).bind λr4=>some (!r4)) else (some false))) else (some false))
theorem ce.P {aa cF bU cG aV} (dD:bU=aV.length) (h0:Inn H R0 λR=>ROs eI H R ⟨cF,bU,cG⟩ aV) {r:Bool} (hp:ce.p F aa aV=some r):Rt (ce.tw F aa ⟨cF,bU,cG⟩ H) (ce.Q H R0 R0  r):=by
 obtain ⟨w0,dl⟩:=h0
 subst dD
 unfold ce.p at hp
 unfold ce.tw ce.twX
 have s0:=w0.rf
 refine bM w0 λH1 w1 s1=>?_
 refine lI w1 0 ?_
 obtain ⟨r2,e2,hp⟩:=af hp
 refine aM (bH.P ⟨w1,trivial⟩ e2) ?_
 rintro _ H3 ⟨rfl,w3,s3,_⟩
 refine br ?_
 refine aC hp (λhp=>?_) λhp=>?_
 ·refine lSl w3 0 ?_
  refine aC hp (λhp=>?_) λhp=>?_
  ·refine lSl w3 0 ?_
   obtain ⟨r4,e4,hp⟩:=af hp
   refine aM (cN.P rfl ⟨w3,(dl.step (s1.trans s3))⟩ e4) ?_
   rintro _ H5 ⟨rfl,w5,s5,_⟩
   refine br ?_
   obtain ⟨w6,s6⟩:=w5.pp [] 1
   exact ay hp ⟨rfl,w6,(s0.trans (s1.trans (s3.trans (s5.trans s6)))),trivial⟩
  ·obtain ⟨w7,s7⟩:=w3.pp [] 1
   exact ay hp ⟨rfl,w7,(s0.trans (s1.trans (s3.trans s7))),trivial⟩
 ·obtain ⟨w8,s8⟩:=w3.pp [] 1
  exact ay hp ⟨rfl,w8,(s0.trans (s1.trans (s3.trans s8))),trivial⟩
def aG.Q (H0:Hp) (Ri R0:By)  (r:Bv) (v:AV) (H':Hp):Prop:=∃ o0a:ON,∃ o0n:Nat,∃ o0c:Cap,∃ o0k:List AV,v=(.sl ⟨o0a,o0n,o0c⟩)/\o0n=(r).length/\Out H0 Ri H' (Rs.own ⟨o0a,o0n,o0c⟩ eI.z o0k::R0) λR=>CR eI H' R o0k (r)
def aG.S29 (H0:Hp) (Ri R0:By)  (C:Sl->Int->Int->Hp->OA) (pC:Ca):Prop:=∀ {pj nm pm iM pt fi dS},∀ {H:Hp},nm=iM.length->(Out H0 Ri H (Rs.own ⟨pj,nm,pm⟩ eI.z pt::R0) λR=>CR eI H R pt iM)->∀ {r:Bv},pC iM fi dS=some r->Rt (C ⟨pj,nm,pm⟩ fi dS H) (aG.Q H0 Ri R0  r)
def aG.pl29 (F:Nat) :Nat->List Int->Int->Int->Option (List Int)
 | 0,_,_,_=>none
 | k+1,iM,fi,dS=>(bif (decide (dS<fi)) then ((apn iM ([dS]:List Int)).bind λl2=>aG.pl29 F k l2 fi (wrap .i64 (dS+1))) else (some iM))
theorem aG.l29_P  :∀ k,aG.S29 H0 Ri R0  (aG.l29 F   k) (aG.pl29 F  k):=by
 intro k
 induction k with
 | zero=>unfold aG.S29;intros;rename_i hp;cases hp
 | succ k ih=>
  intro pj nm pm iM pt fi dS H xM h0 r hp
  obtain ⟨w0,s0,tt⟩:=h0
  subst xM
  unfold aG.pl29 at hp
  unfold aG.l29
  refine aC hp (λhp=>?_) λhp=>?_
  ·refine fb eI w0 (n:=1) (l:=([dS]:List Int)) rfl (CR.cons1 rfl CR.empty) rfl λH1 w1 s1 c1=>?_
   refine aj (w1.rowo (i:=0) rfl) ?_
   obtain ⟨l2,e2,hp⟩:=af hp
   refine fD eI w1 (i:=1) rfl rfl (tt.step s1) c1 (show 1=List.length ([dS]:List Int) from rfl) rfl e2 λa3 d3 H3 w3 s3 c3 x3=>?_
   obtain ⟨w4,s4⟩:=w3.pp [1] 2
   exact ih rfl ⟨w4,(s0.trans (s1.trans (s3.trans s4))),(c3.step s4)⟩ hp
  ·exact ay hp ⟨_,_,_,_,rfl,rfl,w0,s0,tt⟩
def aG.p (F:Nat) (aa:Int):Option (List Int):=aG.pl29 F F ([]:List Int) aa 0
theorem aG.P {aa}  (h0:Inn H R0 λR=>True) {r:Bv} (hp:aG.p F aa=some r):Rt (aG.tw F aa H) (aG.Q H R0 R0  r):=by
 obtain ⟨w0,_⟩:=h0
 unfold aG.p at hp
 unfold aG.tw aG.twX
 have s0:=w0.rf
 obtain ⟨w1,s1⟩:=w0.nilS eI.z (by decide)
 exact aG.l29_P F rfl ⟨w1,(s0.trans s1),(CR.empty:CR eI _ _ [] [])⟩ hp
def aZ.Q (H0:Hp) (Ri R0:By)  (r:Int) (v:AV) (H':Hp):Prop:=v=(.i r)/\Out H0 Ri H' (R0) λR=>True
def aZ.p (F:Nat) (ai:Bv):Option (Int):=some (ai.length:Int)
theorem aZ.P {aJ ax aK ai} (bQ:ax=ai.length) (h0:Inn H R0 λR=>ROs eI H R ⟨aJ,ax,aK⟩ ai) {r:Int} (hp:aZ.p F ai=some r):Rt (aZ.tw F ⟨aJ,ax,aK⟩ H) (aZ.Q H R0 R0  r):=by
 obtain ⟨w0,bG⟩:=h0
 subst bQ
 unfold aZ.p at hp
 unfold aZ.tw aZ.twX
 have s0:=w0.rf
 exact ay hp ⟨rfl,w0,s0,trivial⟩
def aN.Q (H0:Hp) (Ri R0:By)  (r:Bv) (v:AV) (H':Hp):Prop:=∃ o0a:ON,∃ o0n:Nat,∃ o0c:Cap,∃ o0k:List AV,v=(.sl ⟨o0a,o0n,o0c⟩)/\o0n=(r).length/\Out H0 Ri H' (Rs.own ⟨o0a,o0n,o0c⟩ eI.z o0k::R0) λR=>CR eI H' R o0k (r)
def aN.S61 (H0:Hp) (Ri R0:By)  (C:Int->Sl->Sl->Int->Int->Hp->OA) (pC:Int->List Int->List Int->Int->Int->Option (List Int)):Prop:=∀ {ez fj dU pu pv nn np pz pA hK hO pB},∀ {H:Hp},nn=hK.length->np=hO.length->(Out H0 Ri H (Rs.own ⟨pu,nn,pz⟩ eI.z pB::R0) λR=>CR eI H R pB hK/\ROs eI H R ⟨pv,np,pA⟩ hO)->∀ {r:Bv},pC ez hK hO fj dU=some r->Rt (C ez ⟨pu,nn,pz⟩ ⟨pv,np,pA⟩ fj dU H) (aN.Q H0 Ri R0  r)
def aN.pl61 (F:Nat) :Nat->Int->List Int->List Int->Int->Int->Option (List Int)
 | 0,_,_,_,_,_=>none
 | k+1,ez,hK,hO,fj,dU=>(bif (decide (dU<fj)) then ((ix hO dU).bind λn1=>(ix hK (wrap .i64 (ez - dU))).bind λn2=>(some (hK.set n2 (wrap .i64 (ez - (gt hO n1))))).bind λl3=>aN.pl61 F k ez l3 hO fj (wrap .i64 (dU+1))) else (some hK))
theorem aN.l61_P  :∀ k,aN.S61 H0 Ri R0  (aN.l61 F (aZ.tw F)  k) (aN.pl61 F  k):=by
 intro k
 induction k with
 | zero=>unfold aN.S61;intros;rename_i hp;cases hp
 | succ k ih=>
  intro ez fj dU pu pv nn np pz pA hK hO pB H xN xO h0 r hp
  obtain ⟨w0,s0,pD,tv⟩:=h0
  subst xN
  subst xO
  unfold aN.pl61 at hp
  unfold aN.l61
  refine aC hp (λhp=>?_) λhp=>?_
  ·obtain ⟨n1,g1,hp⟩:=af hp
   obtain ⟨p1,q1,i1,h1,j1⟩:=ROs.ixr tv rfl g1
   refine aj i1 ?_
   have h1:_=[_]:=h1
   subst h1
   refine aj (cW (j1 0 _ rfl)) ?_
   obtain ⟨n2,g2,hp⟩:=af hp
   obtain ⟨p2,q2,i2,h2,j2⟩:=W.ixo (E:=eI) w0 (i:=0) rfl rfl pD g2
   refine aj i2 ?_
   obtain ⟨l3,e3,hp⟩:=af hp
   refine jf eI w0 (i:=0) (j:=0) (p:=p2) rfl rfl pD g2 i2 e3 rfl rfl (λ_ h=>by have h:_=[_]:=h;subst h;exact rfl) λH4 k4 w4 s4 c4=>?_
   exact ih ((fN e3).symm) rfl ⟨w4,(s0.trans s4),c4,(tv.step s4)⟩ hp
  ·exact ay hp ⟨_,_,_,_,rfl,rfl,w0,s0,pD⟩
def aN.p (F:Nat) (ai:Bv):Option (List Int):=(aZ.p F ai).bind λr1=>(mkn (ai.length:Int) (0:Int)).bind λl3=>aN.pl61 F F (wrap .i64 (r1 - 1)) l3 ai (ai.length:Int) 0
theorem aN.P {aJ ax aK ai} (bQ:ax=ai.length) (h0:Inn H R0 λR=>ROs eI H R ⟨aJ,ax,aK⟩ ai) {r:Bv} (hp:aN.p F ai=some r):Rt (aN.tw F ⟨aJ,ax,aK⟩ H) (aN.Q H R0 R0  r):=by
 obtain ⟨w0,bG⟩:=h0
 subst bQ
 unfold aN.p at hp
 unfold aN.tw aN.twX
 have s0:=w0.rf
 obtain ⟨r1,e1,hp⟩:=af hp
 refine aM (aZ.P rfl ⟨w0,bG⟩ e1) ?_
 rintro _ H2 ⟨rfl,w2,s2,_⟩
 refine br ?_
 obtain ⟨l3,e3,hp⟩:=af hp
 refine rS eI (0:Int) w2 rfl rfl rfl e3 λH4 k4 w4 s4 c4=>?_
 exact aN.l61_P F rfl rfl ⟨w4,(s0.trans (s2.trans s4)),c4,(bG.step (s2.trans s4))⟩ hp
def bo.Q (H0:Hp) (Ri R0:By) (aJ:ON) (ax:Nat) (aK:Cap) (dE:Bool) (dG dH:BG) (r:Bv) (v:AV) (H':Hp):Prop:=∃ hP:List AV,v=(.tup [])/\ax=(r).length/\Out H0 Ri H' (Rs.ow dE ⟨aJ,ax,aK⟩ eI.z dG hP dH::R0) λR=>CR eI H' R hP (r)
def bo.S3 (H0:Hp) (Ri R0:By) (bY:ON) (bL:Nat) (bZ:Cap) (cw:Bool) (cy cz:BG) (C:Sl->Int->Int->Hp->OA) (pC:Ca):Prop:=∀ {cQ pE dV bm},∀ {H:Hp},bL=cQ.length->(Out H0 Ri H (Rs.ow cw ⟨bY,bL,bZ⟩ eI.z cy pE cz::R0) λR=>CR eI H R pE cQ)->∀ {r:Bv},pC cQ dV bm=some r->Rt (C ⟨bY,bL,bZ⟩ dV bm H) (bo.Q H0 Ri R0 bY bL bZ cw cy cz r)
def bo.pl3 (F:Nat) :Nat->List Int->Int->Int->Option (List Int)
 | 0,_,_,_=>none
 | k+1,cQ,dV,bm=>(bif (decide (dV<bm)) then ((ix cQ bm).bind λn1=>(ix cQ dV).bind λn2=>(ix cQ dV).bind λn3=>(some (cQ.set n3 (gt cQ n1))).bind λl4=>(ix l4 bm).bind λn6=>(some (l4.set n6 (gt cQ n2))).bind λl7=>bo.pl3 F k l7 (wrap .i64 (dV+1)) (wrap .i64 (bm - 1))) else (some cQ))
theorem bo.l3_P {bY bL bZ cw cy cz} :∀ k,bo.S3 H0 Ri R0 bY bL bZ cw cy cz (bo.l3 F   k) (bo.pl3 F  k):=by
 intro k
 induction k with
 | zero=>unfold bo.S3;intros;rename_i hp;cases hp
 | succ k ih=>
  intro cQ pE dV bm H pF h0 r hp
  obtain ⟨w0,s0,gz⟩:=h0
  subst pF
  unfold bo.pl3 at hp
  unfold bo.l3
  refine aC hp (λhp=>?_) λhp=>?_
  ·obtain ⟨n1,g1,hp⟩:=af hp
   obtain ⟨p1,q1,i1,h1,j1⟩:=W.ixo (E:=eI) w0 (i:=0) rfl rfl gz g1
   refine aj i1 ?_
   have h1:_=[_]:=h1
   subst h1
   refine aj (cW (j1 0 _ rfl)) ?_
   obtain ⟨n2,g2,hp⟩:=af hp
   obtain ⟨p2,q2,i2,h2,j2⟩:=W.ixo (E:=eI) w0 (i:=0) rfl rfl gz g2
   refine aj i2 ?_
   have h2:_=[_]:=h2
   subst h2
   refine aj (cW (j2 0 _ rfl)) ?_
   obtain ⟨n3,g3,hp⟩:=af hp
   obtain ⟨p3,q3,i3,h3,j3⟩:=W.ixo (E:=eI) w0 (i:=0) rfl rfl gz g3
   refine aj i3 ?_
   obtain ⟨l4,e4,hp⟩:=af hp
   refine jf eI w0 (i:=0) (j:=0) (p:=p3) rfl rfl gz g3 i3 e4 rfl rfl (λ_ h=>by have h:_=[_]:=h;subst h;exact rfl) λH5 k5 w5 s5 c5=>?_
   obtain ⟨n6,g6,hp⟩:=af hp
   obtain ⟨p6,q6,i6,h6,j6⟩:=W.ixo (E:=eI) w5 (i:=0) rfl rfl c5 g6
   refine aj i6 ?_
   obtain ⟨l7,e7,hp⟩:=af hp
   refine jf eI w5 (i:=0) (j:=0) (p:=p6) rfl rfl c5 g6 i6 e7 rfl rfl (λ_ h=>by have h:_=[_]:=h;subst h;exact rfl) λH8 k8 w8 s8 c8=>?_
   exact ih ((fN e4).symm.trans (fN e7).symm) ⟨w8,(s0.trans (s5.trans s8)),c8⟩ hp
  ·exact ay hp ⟨_,rfl,rfl,w0,s0,gz⟩
def bo.p (F:Nat) (ai:Bv):Option (List Int):=bo.pl3 F F ai 0 (wrap .i64 ((ai.length:Int) - 1))
theorem bo.P {aJ ax aK ai dE dG dH fB} (bQ:ax=ai.length) (h0:Inn H (Rs.ow dE ⟨aJ,ax,aK⟩ eI.z dG fB dH::R0) λR=>CR eI H R fB ai) {r:Bv} (hp:bo.p F ai=some r):Rt (bo.tw F ⟨aJ,ax,aK⟩ H) (bo.Q H (Rs.ow dE ⟨aJ,ax,aK⟩ eI.z dG fB dH::R0) R0 aJ ax aK dE dG dH r):=by
 obtain ⟨w0,bG⟩:=h0
 subst bQ
 unfold bo.p at hp
 unfold bo.tw bo.twX
 have s0:=w0.rf
 exact bo.l3_P F rfl ⟨w0,s0,bG⟩ hp
def bE.Q (H0:Hp) (Ri R0:By)  (r:Bv) (v:AV) (H':Hp):Prop:=∃ o0a:ON,∃ o0n:Nat,∃ o0c:Cap,∃ o0k:List AV,v=(.sl ⟨o0a,o0n,o0c⟩)/\o0n=(r).length/\Out H0 Ri H' (Rs.own ⟨o0a,o0n,o0c⟩ eI.z o0k::R0) λR=>CR eI H' R o0k (r)
def bE.p (F:Nat) (aa:Int):Option (List Int):=(aG.p F aa).bind λr1=>(bo.p F r1).bind λr3=>some r3
theorem bE.P {aa}  (h0:Inn H R0 λR=>True) {r:Bv} (hp:bE.p F aa=some r):Rt (bE.tw F aa H) (bE.Q H R0 R0  r):=by
 obtain ⟨w0,_⟩:=h0
 unfold bE.p at hp
 unfold bE.tw bE.twX
 have s0:=w0.rf
 obtain ⟨r1,e1,hp⟩:=af hp
 refine aM (aG.P ⟨w0,trivial⟩ e1) ?_
 rintro _ H2 ⟨o0a_2,o0n_2,o0c_2,o0k_2,rfl,rfl,w2,s2,f2_0⟩
 refine br ?_
 obtain ⟨r3,e3,hp⟩:=af hp
 refine aM (bo.P rfl ⟨w2,f2_0⟩ e3) ?_
 rintro _ H4 ⟨AO,rfl,hl4_0,w4,s4,f4_0⟩
 exact ay hp ⟨_,_,_,_,rfl,hl4_0,w4,(s0.trans (s2.trans s4)),f4_0⟩
def aF.Q (H0:Hp) (Ri R0:By)  (r:Bv) (v:AV) (H':Hp):Prop:=∃ o0a:ON,∃ o0n:Nat,∃ o0c:Cap,∃ o0k:List AV,v=(.sl ⟨o0a,o0n,o0c⟩)/\o0n=(r).length/\Out H0 Ri H' (Rs.own ⟨o0a,o0n,o0c⟩ eI.z o0k::R0) λR=>CR eI H' R o0k (r)
def aF.S29 (H0:Hp) (Ri R0:By)  (C:BZ) (pC:List Int->List Int->Int->Int->Option (List Int)):Prop:=∀ {iN pG gB nq iO pH dL hQ iP fk dW},∀ {H:Hp},gB=dL.length->nq=hQ.length->(Out H0 Ri H (Rs.own ⟨iN,gB,iO⟩ eI.z iP::R0) λR=>CR eI H R iP dL/\ROs eI H R ⟨pG,nq,pH⟩ hQ)->∀ {r:Bv},pC dL hQ fk dW=some r->Rt (C ⟨iN,gB,iO⟩ ⟨pG,nq,pH⟩ fk dW H) (aF.Q H0 Ri R0  r)
def aF.pl29 (F:Nat) :Nat->List Int->List Int->Int->Int->Option (List Int)
 | 0,_,_,_,_=>none
 | k+1,dL,hQ,fk,dW=>(bif (decide (dW<fk)) then ((ix hQ dW).bind λn1=>(ix dL (gt hQ n1)).bind λn2=>(some (dL.set n2 dW)).bind λl3=>aF.pl29 F k l3 hQ fk (wrap .i64 (dW+1))) else (some dL))
theorem aF.l29_P  :∀ k,aF.S29 H0 Ri R0  (aF.l29 F   k) (aF.pl29 F  k):=by
 intro k
 induction k with
 | zero=>unfold aF.S29;intros;rename_i hp;cases hp
 | succ k ih=>
  intro iN pG gB nq iO pH dL hQ iP fk dW H pI xP h0 r hp
  obtain ⟨w0,s0,kd,tz⟩:=h0
  subst pI
  subst xP
  unfold aF.pl29 at hp
  unfold aF.l29
  refine aC hp (λhp=>?_) λhp=>?_
  ·obtain ⟨n1,g1,hp⟩:=af hp
   obtain ⟨p1,q1,i1,h1,j1⟩:=ROs.ixr tz rfl g1
   refine aj i1 ?_
   have h1:_=[_]:=h1
   subst h1
   refine aj (cW (j1 0 _ rfl)) ?_
   obtain ⟨n2,g2,hp⟩:=af hp
   obtain ⟨p2,q2,i2,h2,j2⟩:=W.ixo (E:=eI) w0 (i:=0) rfl rfl kd g2
   refine aj i2 ?_
   obtain ⟨l3,e3,hp⟩:=af hp
   refine jf eI w0 (i:=0) (j:=0) (p:=p2) rfl rfl kd g2 i2 e3 rfl rfl (λ_ h=>by have h:_=[_]:=h;subst h;exact rfl) λH4 k4 w4 s4 c4=>?_
   exact ih ((fN e3).symm) rfl ⟨w4,(s0.trans s4),c4,(tz.step s4)⟩ hp
  ·exact ay hp ⟨_,_,_,_,rfl,rfl,w0,s0,kd⟩
def aF.p (F:Nat) (ai:Bv):Option (List Int):=(mkn (ai.length:Int) (0:Int)).bind λl1=>aF.pl29 F F l1 ai (ai.length:Int) 0
theorem aF.P {aJ ax aK ai} (bQ:ax=ai.length) (h0:Inn H R0 λR=>ROs eI H R ⟨aJ,ax,aK⟩ ai) {r:Bv} (hp:aF.p F ai=some r):Rt (aF.tw F ⟨aJ,ax,aK⟩ H) (aF.Q H R0 R0  r):=by
 obtain ⟨w0,bG⟩:=h0
 subst bQ
 unfold aF.p at hp
 unfold aF.tw aF.twX
 have s0:=w0.rf
 obtain ⟨l1,e1,hp⟩:=af hp
 refine rS eI (0:Int) w0 rfl rfl rfl e1 λH2 k2 w2 s2 c2=>?_
 exact aF.l29_P F rfl rfl ⟨w2,(s0.trans s2),c2,(bG.step s2)⟩ hp
def ci.Q (H0:Hp) (Ri R0:By)  (r:Int) (v:AV) (H':Hp):Prop:=v=(.i r)/\Out H0 Ri H' (R0) λR=>True
def ci.p (F:Nat) (aa:Int):Option (Int):=(bif (decide (aa<0)) then (some (wrap .i64 (0 - aa))) else (some aa))
theorem ci.P {aa}  (h0:Inn H R0 λR=>True) {r:Int} (hp:ci.p F aa=some r):Rt (ci.tw F aa H) (ci.Q H R0 R0  r):=by
 obtain ⟨w0,_⟩:=h0
 unfold ci.p at hp
 unfold ci.tw ci.twX
 have s0:=w0.rf
 refine aC hp (λhp=>?_) λhp=>?_
 ·exact ay hp ⟨rfl,w0,s0,trivial⟩
 ·exact ay hp ⟨rfl,w0,s0,trivial⟩
def bd.Q (H0:Hp) (Ri R0:By) (aJ:ON) (ax:Nat) (aK:Cap) (dE:Bool) (dG dH:BG) (r:Bv) (v:AV) (H':Hp):Prop:=∃ hP:List AV,v=(.tup [])/\ax=(r).length/\Out H0 Ri H' (Rs.ow dE ⟨aJ,ax,aK⟩ eI.z dG hP dH::R0) λR=>CR eI H' R hP (r)
def bd.p (F:Nat) (ai:Bv) (ag:Int):Option (List Int):=(ix ai ag).bind λn1=>(ix ai (wrap .i64 (ag - 1))).bind λn2=>(ix ai (wrap .i64 (ag - 1))).bind λn3=>(some (ai.set n3 (gt ai n1))).bind λl4=>(ix l4 ag).bind λn6=>(some (l4.set n6 (gt ai n2))).bind λl7=>some l7
theorem bd.P {aJ ax aK ai dE dG dH fB ag} (bQ:ax=ai.length) (h0:Inn H (Rs.ow dE ⟨aJ,ax,aK⟩ eI.z dG fB dH::R0) λR=>CR eI H R fB ai) {r:Bv} (hp:bd.p F ai ag=some r):Rt (bd.tw F ⟨aJ,ax,aK⟩ ag H) (bd.Q H (Rs.ow dE ⟨aJ,ax,aK⟩ eI.z dG fB dH::R0) R0 aJ ax aK dE dG dH r):=by
 obtain ⟨w0,bG⟩:=h0
 subst bQ
 unfold bd.p at hp
 unfold bd.tw bd.twX
 have s0:=w0.rf
 obtain ⟨n1,g1,hp⟩:=af hp
 obtain ⟨p1,q1,i1,h1,j1⟩:=W.ixo (E:=eI) w0 (i:=0) rfl rfl bG g1
 refine aj i1 ?_
 have h1:_=[_]:=h1
 subst h1
 refine aj (cW (j1 0 _ rfl)) ?_
 obtain ⟨n2,g2,hp⟩:=af hp
 obtain ⟨p2,q2,i2,h2,j2⟩:=W.ixo (E:=eI) w0 (i:=0) rfl rfl bG g2
 refine aj i2 ?_
 have h2:_=[_]:=h2
 subst h2
 refine aj (cW (j2 0 _ rfl)) ?_
 obtain ⟨n3,g3,hp⟩:=af hp
 obtain ⟨p3,q3,i3,h3,j3⟩:=W.ixo (E:=eI) w0 (i:=0) rfl rfl bG g3
 refine aj i3 ?_
 obtain ⟨l4,e4,hp⟩:=af hp
 refine jf eI w0 (i:=0) (j:=0) (p:=p3) rfl rfl bG g3 i3 e4 rfl rfl (λ_ h=>by have h:_=[_]:=h;subst h;exact rfl) λH5 k5 w5 s5 c5=>?_
 obtain ⟨n6,g6,hp⟩:=af hp
 obtain ⟨p6,q6,i6,h6,j6⟩:=W.ixo (E:=eI) w5 (i:=0) rfl rfl c5 g6
 refine aj i6 ?_
 obtain ⟨l7,e7,hp⟩:=af hp
 refine jf eI w5 (i:=0) (j:=0) (p:=p6) rfl rfl c5 g6 i6 e7 rfl rfl (λ_ h=>by have h:_=[_]:=h;subst h;exact rfl) λH8 k8 w8 s8 c8=>?_
 exact ay hp ⟨_,rfl,((fN e4).symm.trans (fN e7).symm),w8,(s0.trans (s5.trans s8)),c8⟩
def ah.Q (H0:Hp) (Ri R0:By) (aJ eW:ON) (ax dM:Nat) (aK eX:Cap) (dE ln:Bool) (dG dH lq lr:BG) (r:BN) (v:AV) (H':Hp):Prop:=∃ hP:List AV,∃ tA:List AV,v=(.bool r.1)/\ax=(r.2.1).length/\dM=(r.2.2).length/\Out H0 Ri H' (Rs.ow dE ⟨aJ,ax,aK⟩ eI.z dG hP dH::Rs.ow ln ⟨eW,dM,eX⟩ eI.z lq tA lr::R0) λR=>CR eI H' R hP (r.2.1)/\CR eI H' R tA (r.2.2)
def ah.S29 (H0:Hp) (Ri R0:By) (bY cA:ON) (bL ch:Nat) (bZ cB:Cap) (cw cX:Bool) (cy cz cY cZ:BG) (C:BM) (pC:BO):Prop:=∀ {bI cK pJ pK fm fW},∀ {H:Hp},bL=bI.length->ch=cK.length->(Out H0 Ri H (Rs.ow cw ⟨bY,bL,bZ⟩ eI.z cy pJ cz::Rs.ow cX ⟨cA,ch,cB⟩ eI.z cY pK cZ::R0) λR=>CR eI H R pJ bI/\CR eI H R pK cK)->∀ {r:BN},pC bI cK fm fW=some r->Rt (C ⟨bY,bL,bZ⟩ ⟨cA,ch,cB⟩ fm fW H) (ah.Q H0 Ri R0 bY cA bL ch bZ cB cw cX cy cz cY cZ r)
def ah.S943 (H0:Hp) (Ri R0:By) (bY cA:ON) (bL ch:Nat) (bZ cB:Cap) (cw cX:Bool) (cy cz cY cZ:BG) (C:BU) (pC:B_):Prop:=∀ {fM eO eY pL pM pN eA eB pO nr pP ct},∀ {H:Hp},bL=fM.length->ch=eO.length->nr=eY.length->(Out H0 Ri H (Rs.ow cw ⟨bY,bL,bZ⟩ eI.z cy pL cz::Rs.ow cX ⟨cA,ch,cB⟩ eI.z cY pM cZ::Rs.own ⟨pO,nr,pP⟩ eI.z pN::R0) λR=>CR eI H R pL fM/\CR eI H R pM eO/\CR eI H R pN eY)->∀ {r:BN},pC fM eO eA eB eY ct=some r->Rt (C ⟨bY,bL,bZ⟩ ⟨cA,ch,cB⟩ eA eB ⟨pO,nr,pP⟩ ct H) (ah.Q H0 Ri R0 bY cA bL ch bZ cB cw cX cy cz cY cZ r)
def ah.pj8 (F:Nat) (ns:B_) (lu:Bv) (lx:Bv) (jK:Bool) (jL:Bool) (ly:Bv) (jN:Int):Option (Bool×List Int×List Int):=ns lu lx jK jL ly (wrap .i64 (jN+1))
theorem ah.j8_P {bY cA bL ch bZ cB cw cX cy cz cY cZ} {C943_:BU} {ns:B_} (hC943:ah.S943 H0 Ri R0 bY cA bL ch bZ cB cw cX cy cz cY cZ C943_ ns) {lu lx ly tB tC tD jK jL tE pQ tF jN} (xQ:bL=lu.length) (xR:ch=lx.length) (xS:pQ=ly.length) (h0:Out H0 Ri H (Rs.ow cw ⟨bY,bL,bZ⟩ eI.z cy tB cz::Rs.ow cX ⟨cA,ch,cB⟩ eI.z cY tC cZ::Rs.own ⟨tE,pQ,tF⟩ eI.z tD::R0) λR=>CR eI H R tB lu/\CR eI H R tC lx/\CR eI H R tD ly) {r:BN} (hp:ah.pj8 F ns lu lx jK jL ly jN=some r):Rt (ah.j8 F (aF.tw F) (aZ.tw F) (bd.tw F) C943_ ⟨bY,bL,bZ⟩ ⟨cA,ch,cB⟩ jK jL ⟨tE,pQ,tF⟩ jN H) (ah.Q H0 Ri R0 bY cA bL ch bZ cB cw cX cy cz cY cZ r):=by
 obtain ⟨w0,s0,xT,xU,xV⟩:=h0
 subst xQ
 subst xR
 subst xS
 unfold ah.pj8 at hp
 unfold ah.j8
 exact hC943 rfl rfl rfl ⟨w0,s0,xT,xU,xV⟩ hp
def ah.pj6 (F:Nat) (dI:BO) (lz:Bv) (lA:Bv) (jG:Bool) (jH:Bool):Option (Bool×List Int×List Int):=dI lz lA jG jH
theorem ah.j6_P {bY cA bL ch bZ cB cw cX cy cz cY cZ} {C29_:BM} {dI:BO} (hC29:ah.S29 H0 Ri R0 bY cA bL ch bZ cB cw cX cy cz cY cZ C29_ dI) {lz lA tG tH jG jH} (xW:bL=lz.length) (xX:ch=lA.length) (h0:Out H0 Ri H (Rs.ow cw ⟨bY,bL,bZ⟩ eI.z cy tG cz::Rs.ow cX ⟨cA,ch,cB⟩ eI.z cY tH cZ::R0) λR=>CR eI H R tG lz/\CR eI H R tH lA) {r:BN} (hp:ah.pj6 F dI lz lA jG jH=some r):Rt (ah.j6 F (aF.tw F) (aZ.tw F) (bd.tw F) C29_ ⟨bY,bL,bZ⟩ ⟨cA,ch,cB⟩ jG jH H) (ah.Q H0 Ri R0 bY cA bL ch bZ cB cw cX cy cz cY cZ r):=by
 obtain ⟨w0,s0,xY,xZ⟩:=h0
 subst xW
 subst xX
 unfold ah.pj6 at hp
 unfold ah.j6
 exact hC29 rfl rfl ⟨w0,s0,xY,xZ⟩ hp
def ah.pj7 (F:Nat) (dI:BO) (lC:Bv) (lD:Bv) (jI:Bool) (jJ:Bool):Option (Bool×List Int×List Int):=ah.pj6 F dI lC lD jI jJ
theorem ah.j7_P {bY cA bL ch bZ cB cw cX cy cz cY cZ} {C29_:BM} {dI:BO} (hC29:ah.S29 H0 Ri R0 bY cA bL ch bZ cB cw cX cy cz cY cZ C29_ dI) {lC lD tI tJ jI jJ} (x_:bL=lC.length) (ya:ch=lD.length) (h0:Out H0 Ri H (Rs.ow cw ⟨bY,bL,bZ⟩ eI.z cy tI cz::Rs.ow cX ⟨cA,ch,cB⟩ eI.z cY tJ cZ::R0) λR=>CR eI H R tI lC/\CR eI H R tJ lD) {r:BN} (hp:ah.pj7 F dI lC lD jI jJ=some r):Rt (ah.j7 F (aF.tw F) (aZ.tw F) (bd.tw F) C29_ ⟨bY,bL,bZ⟩ ⟨cA,ch,cB⟩ jI jJ H) (ah.Q H0 Ri R0 bY cA bL ch bZ cB cw cX cy cz cY cZ r):=by
 obtain ⟨w0,s0,yb,yc⟩:=h0
 subst x_
 subst ya
 unfold ah.pj7 at hp
 unfold ah.j7
 exact ah.j6_P (@hC29) rfl rfl ⟨w0,s0,yb,yc⟩ hp
def ah.pl943 (F:Nat) (dI:BO):Nat->List Int->List Int->Bool->Bool->List Int->Int->Option (Bool×List Int×List Int)
 | 0,_,_,_,_,_,_=>none
 | k+1,fM,eO,eA,eB,eY,ct=>(aZ.p F fM).bind λr2=>(bif (decide (ct<r2)) then ((ix eO (wrap .i64 (ct - 1))).bind λn5=>(ix eO ct).bind λn6=>(bif (decide ((gt eO n5)>(gt eO n6))) then ((ix eY (wrap .i64 (ct - 1))).bind λn7=>(ix eY ct).bind λn8=>(bif (decide ((gt eY n7)<(gt eY n8))) then ((bd.p F eO ct).bind λr10=>(bd.p F eY ct).bind λr13=>(aF.p F r13).bind λr16=>(some (cpl fM r16)).bind λl19=>ah.pj8 F (ah.pl943 F dI k) l19 r10 true true r13 ct) else (ah.pj8 F (ah.pl943 F dI k) fM eO eA eB eY ct))) else (ah.pl943 F dI k fM eO eA eB eY (wrap .i64 (ct+1))))) else (ah.pj7 F dI fM eO eA eB))
theorem ah.l943_P {bY cA bL ch bZ cB cw cX cy cz cY cZ} {C29_:BM} {dI:BO} (hC29:ah.S29 H0 Ri R0 bY cA bL ch bZ cB cw cX cy cz cY cZ C29_ dI):∀ k,ah.S943 H0 Ri R0 bY cA bL ch bZ cB cw cX cy cz cY cZ (ah.l943 F (aF.tw F) (aZ.tw F) (bd.tw F) C29_ k) (ah.pl943 F dI k):=by
 intro k
 induction k with
 | zero=>unfold ah.S943;intros;rename_i hp;cases hp
 | succ k ih=>
  intro fM eO eY pL pM pN eA eB pO nr pP ct H yd ye yf h0 r hp
  obtain ⟨w0,s0,lE,ke,lF⟩:=h0
  subst yd
  subst ye
  subst yf
  unfold ah.pl943 at hp
  unfold ah.l943
  have f1:=W.borrow1 eI w0 lE
  obtain ⟨w1,s1⟩:=w0.right1
  obtain ⟨r2,e2,hp⟩:=af hp
  refine aM (aZ.P rfl ⟨w1,f1⟩ e2) ?_
  rintro _ H3 ⟨rfl,w3,s3,_⟩
  obtain ⟨w4,s4⟩:=W.frame1 w0 w3 s3
  refine br ?_
  refine aC hp (λhp=>?_) λhp=>?_
  ·obtain ⟨n5,g5,hp⟩:=af hp
   obtain ⟨p5,q5,i5,h5,j5⟩:=W.ixo (E:=eI) w4 (i:=1) rfl rfl (ke.step s4) g5
   refine aj i5 ?_
   have h5:_=[_]:=h5
   subst h5
   refine aj (cW (j5 0 _ rfl)) ?_
   obtain ⟨n6,g6,hp⟩:=af hp
   obtain ⟨p6,q6,i6,h6,j6⟩:=W.ixo (E:=eI) w4 (i:=1) rfl rfl (ke.step s4) g6
   refine aj i6 ?_
   have h6:_=[_]:=h6
   subst h6
   refine aj (cW (j6 0 _ rfl)) ?_
   refine aC hp (λhp=>?_) λhp=>?_
   ·obtain ⟨n7,g7,hp⟩:=af hp
    obtain ⟨p7,q7,i7,h7,j7⟩:=W.ixo (E:=eI) w4 (i:=2) rfl rfl (lF.step s4) g7
    refine aj i7 ?_
    have h7:_=[_]:=h7
    subst h7
    refine aj (cW (j7 0 _ rfl)) ?_
    obtain ⟨n8,g8,hp⟩:=af hp
    obtain ⟨p8,q8,i8,h8,j8⟩:=W.ixo (E:=eI) w4 (i:=2) rfl rfl (lF.step s4) g8
    refine aj i8 ?_
    have h8:_=[_]:=h8
    subst h8
    refine aj (cW (j8 0 _ rfl)) ?_
    refine aC hp (λhp=>?_) λhp=>?_
    ·obtain ⟨w9,s9⟩:=w4.pp [1,0,2] 3
     obtain ⟨r10,e10,hp⟩:=af hp
     refine aM (bd.P rfl ⟨w9,(ke.step (s4.trans s9))⟩ e10) ?_
     rintro _ H11 ⟨AP,rfl,hl11_0,w11,s11,f11_0⟩
     obtain ⟨w12,s12⟩:=w11.pp [2,0,1] 3
     obtain ⟨r13,e13,hp⟩:=af hp
     refine aM (bd.P rfl ⟨w12,(lF.step (s4.trans (s9.trans (s11.trans s12))))⟩ e13) ?_
     rintro _ H14 ⟨AQ,rfl,hl14_0,w14,s14,f14_0⟩
     have f15:=W.borrow1 eI w14 f14_0
     obtain ⟨w15,s15⟩:=w14.right1
     obtain ⟨r16,e16,hp⟩:=af hp
     refine aM (aF.P hl14_0 ⟨w15,f15⟩ e16) ?_
     rintro _ H17 ⟨o0a_17,o0n_17,o0c_17,o0k_17,rfl,rfl,w17,s17,f17_0⟩
     obtain ⟨w18,s18⟩:=W.frame1 w14 w17 s17
     refine br ?_
     obtain ⟨l19,e19,hp⟩:=af hp
     refine zn eI w18 (i:=3) rfl rfl (lE.step (s4.trans (s9.trans (s11.trans (s12.trans (s14.trans s18)))))) (w18.rowo (i:=1) rfl) (CR.flat (fO .i64) f17_0) rfl rfl e19 λk20 H20 w20 s20 c20=>?_
     obtain ⟨w21,s21⟩:=w20.pp [3,2,0] 4
     exact ah.j8_P (@ih) ((zo e19).symm) hl11_0 hl14_0 ⟨w21,(s0.trans (s4.trans (s9.trans (s11.trans (s12.trans (s14.trans (s18.trans (s20.trans s21)))))))),(c20.step s21),(f11_0.step (s12.trans (s14.trans (s18.trans (s20.trans s21))))),(f14_0.step (s18.trans (s20.trans s21)))⟩ hp
    ·exact ah.j8_P (@ih) rfl rfl rfl ⟨w4,(s0.trans s4),(lE.step s4),(ke.step s4),(lF.step s4)⟩ hp
   ·exact ih rfl rfl rfl ⟨w4,(s0.trans s4),(lE.step s4),(ke.step s4),(lF.step s4)⟩ hp
  ·obtain ⟨w22,s22⟩:=w4.pp [0,1] 3
   exact ah.j7_P (@hC29) rfl rfl ⟨w22,(s0.trans (s4.trans s22)),(lE.step (s4.trans s22)),(ke.step (s4.trans s22))⟩ hp
def ah.pl29 (F:Nat) :Nat->List Int->List Int->Bool->Bool->Option (Bool×List Int×List Int)
 | 0,_,_,_,_=>none
 | k+1,bI,cK,fm,fW=>(bif fW then ((aF.p F bI).bind λr2=>ah.pl943 F (ah.pl29 F k) F bI cK fm false r2 1) else (some (fm,bI,cK)))
theorem ah.l29_P {bY cA bL ch bZ cB cw cX cy cz cY cZ} :∀ k,ah.S29 H0 Ri R0 bY cA bL ch bZ cB cw cX cy cz cY cZ (ah.l29 F (aF.tw F) (aZ.tw F) (bd.tw F)  k) (ah.pl29 F  k):=by
 intro k
 induction k with
 | zero=>unfold ah.S29;intros;rename_i hp;cases hp
 | succ k ih=>
  intro bI cK pJ pK fm fW H iL lG h0 r hp
  obtain ⟨w0,s0,eu,hR⟩:=h0
  subst iL
  subst lG
  unfold ah.pl29 at hp
  unfold ah.l29
  refine aC hp (λhp=>?_) λhp=>?_
  ·have f1:=W.borrow1 eI w0 eu
   obtain ⟨w1,s1⟩:=w0.right1
   obtain ⟨r2,e2,hp⟩:=af hp
   refine aM (aF.P rfl ⟨w1,f1⟩ e2) ?_
   rintro _ H3 ⟨o0a_3,o0n_3,o0c_3,o0k_3,rfl,rfl,w3,s3,f3_0⟩
   obtain ⟨w4,s4⟩:=W.frame1 w0 w3 s3
   refine br ?_
   obtain ⟨w5,s5⟩:=w4.pp [0,2,1] 3
   exact ah.l943_P (@ih) F rfl rfl rfl ⟨w5,(s0.trans (s4.trans s5)),(eu.step (s4.trans s5)),(hR.step (s4.trans s5)),((CR.flat (fO .i64) f3_0).step s5)⟩ hp
  ·exact ay hp ⟨_,_,rfl,rfl,rfl,w0,s0,eu,hR⟩
def ah.p (F:Nat) (ai:Bv) (dp:Bv):Option (Bool×List Int×List Int):=ah.pl29 F F ai dp false true
theorem ah.P {aJ eW ax dM aK eX ai dp dE ln dG dH fB lq lr pR} (bQ:ax=ai.length) (lH:dM=dp.length) (h0:Inn H (Rs.ow dE ⟨aJ,ax,aK⟩ eI.z dG fB dH::Rs.ow ln ⟨eW,dM,eX⟩ eI.z lq pR lr::R0) λR=>CR eI H R fB ai/\CR eI H R pR dp) {r:BN} (hp:ah.p F ai dp=some r):Rt (ah.tw F ⟨aJ,ax,aK⟩ ⟨eW,dM,eX⟩ H) (ah.Q H (Rs.ow dE ⟨aJ,ax,aK⟩ eI.z dG fB dH::Rs.ow ln ⟨eW,dM,eX⟩ eI.z lq pR lr::R0) R0 aJ eW ax dM aK eX dE ln dG dH lq lr r):=by
 obtain ⟨w0,bG,lJ⟩:=h0
 subst bQ
 subst lH
 unfold ah.p at hp
 unfold ah.tw ah.twX
 have s0:=w0.rf
 exact ah.l29_P F rfl rfl ⟨w0,s0,bG,lJ⟩ hp
def aL.Q (H0:Hp) (Ri R0:By)  (r:Bool) (v:AV) (H':Hp):Prop:=v=(.bool r)/\Out H0 Ri H' (R0) λR=>True
def aL.S29 (H0:Hp) (Ri R0:By)  (C:BZ) (pC:List Int->List Int->Int->Int->Option (Bool)):Prop:=∀ {eU iQ ee gC eV iR bI cK fo dY},∀ {H:Hp},ee=bI.length->gC=cK.length->(Out H0 Ri H R0 λR=>ROs eI H R ⟨eU,ee,eV⟩ bI/\ROs eI H R ⟨iQ,gC,iR⟩ cK)->∀ {r:Bool},pC bI cK fo dY=some r->Rt (C ⟨eU,ee,eV⟩ ⟨iQ,gC,iR⟩ fo dY H) (aL.Q H0 Ri R0  r)
def aL.pl29 (F:Nat) :Nat->List Int->List Int->Int->Int->Option (Bool)
 | 0,_,_,_,_=>none
 | k+1,bI,cK,fo,dY=>(bif (decide (dY<fo)) then ((ix bI dY).bind λn1=>(ix cK dY).bind λn2=>(bif ((gt bI n1) != (gt cK n2)) then (some false) else (aL.pl29 F k bI cK fo (wrap .i64 (dY+1))))) else (some true))
theorem aL.l29_P  :∀ k,aL.S29 H0 Ri R0  (aL.l29 F   k) (aL.pl29 F  k):=by
 intro k
 induction k with
 | zero=>unfold aL.S29;intros;rename_i hp;cases hp
 | succ k ih=>
  intro eU iQ ee gC eV iR bI cK fo dY H iL lG h0 r hp
  obtain ⟨w0,s0,eu,hR⟩:=h0
  subst iL
  subst lG
  unfold aL.pl29 at hp
  unfold aL.l29
  refine aC hp (λhp=>?_) λhp=>?_
  ·obtain ⟨n1,g1,hp⟩:=af hp
   obtain ⟨p1,q1,i1,h1,j1⟩:=ROs.ixr eu rfl g1
   refine aj i1 ?_
   have h1:_=[_]:=h1
   subst h1
   refine aj (cW (j1 0 _ rfl)) ?_
   obtain ⟨n2,g2,hp⟩:=af hp
   obtain ⟨p2,q2,i2,h2,j2⟩:=ROs.ixr hR rfl g2
   refine aj i2 ?_
   have h2:_=[_]:=h2
   subst h2
   refine aj (cW (j2 0 _ rfl)) ?_
   refine aC hp (λhp=>?_) λhp=>?_
   ·exact ay hp ⟨rfl,w0,s0,trivial⟩
   ·exact ih rfl rfl ⟨w0,s0,eu,hR⟩ hp
  ·exact ay hp ⟨rfl,w0,s0,trivial⟩
def aL.p (F:Nat) (ai:Bv) (dp:Bv):Option (Bool):=(bif ((ai.length:Int) != (dp.length:Int)) then (some false) else (aL.pl29 F F ai dp (ai.length:Int) 0))
theorem aL.P {aJ eW ax dM aK eX ai dp} (bQ:ax=ai.length) (lH:dM=dp.length) (h0:Inn H R0 λR=>ROs eI H R ⟨aJ,ax,aK⟩ ai/\ROs eI H R ⟨eW,dM,eX⟩ dp) {r:Bool} (hp:aL.p F ai dp=some r):Rt (aL.tw F ⟨aJ,ax,aK⟩ ⟨eW,dM,eX⟩ H) (aL.Q H R0 R0  r):=by
 obtain ⟨w0,bG,lJ⟩:=h0
 subst bQ
 subst lH
 unfold aL.p at hp
 unfold aL.tw aL.twX
 have s0:=w0.rf
 refine aC hp (λhp=>?_) λhp=>?_
 ·exact ay hp ⟨rfl,w0,s0,trivial⟩
 ·exact aL.l29_P F rfl rfl ⟨w0,s0,bG,lJ⟩ hp
def bp.Q (H0:Hp) (Ri R0:By)  (r:Int×List (List Int)) (v:AV) (H':Hp):Prop:=∃ o1a:ON,∃ o1n:Nat,∃ o1c:Cap,∃ o1k:List AV,∃ o1m:List Ow,v=(.agg [(.i r.1),(.sl ⟨o1a,o1n,o1c⟩)])/\o1n=(r.2).length/\Out H0 Ri H' (Rs.own ⟨o1a,o1n,o1c⟩ (eSl eI).z o1k::Rs.many o1m::R0) λR=>OL (oSl (bO eI)) o1m o1k (r.2)
def bp.p (F:Nat) (aa:Int) (aV:Bv):Option (Int×List (List Int)):=nfP (aG.p F) (aN.p F) (bE.p F) (aF.p F) (ci.p F) (bd.p F) (ah.p F) (aL.p F) F aa aV
theorem bp.P {aa cF bU cG aV} (dD:bU=aV.length) (h0:Inn H R0 λR=>ROs eI H R ⟨cF,bU,cG⟩ aV) {r:Int×List (List Int)} (hp:bp.p F aa aV=some r):Rt (bp.tw F aa ⟨cF,bU,cG⟩ H) (bp.Q H R0 R0  r):=by
 obtain ⟨w0,f0⟩:=h0
 subst dD
 unfold bp.p nfP at hp
 have hco:OkI (aG.tw F) (aG.p F):=by
  intro H R n r w e
  obtain ⟨v,H',e1,a1,n1,c1,k1,rfl,hn,w1,s1,f1⟩:=aG.P (F:=F) (R0:=R) ⟨w,trivial⟩ e
  obtain rfl:=f1.ints_eq
  exact ⟨_,H',e1,w1,s1⟩
 have hrv:OkI (bE.tw F) (bE.p F):=by
  intro H R n r w e
  obtain ⟨v,H',e1,a1,n1,c1,k1,rfl,hn,w1,s1,f1⟩:=bE.P (F:=F) (R0:=R) ⟨w,trivial⟩ e
  obtain rfl:=f1.ints_eq
  exact ⟨_,H',e1,w1,s1⟩
 have htu:OkS (aN.tw F) (aN.p F):=by
  intro H R e x r w f e0
  obtain ⟨a0,n0,c0⟩:=e
  obtain ⟨v,H',e1,a1,n1,c1,k1,rfl,hn,w1,s1,f1⟩:=aN.P (F:=F) (R0:=R) f.n ⟨w,f⟩ e0
  obtain rfl:=f1.ints_eq
  exact ⟨_,H',e1,w1,s1⟩
 have hiv:OkS (aF.tw F) (aF.p F):=by
  intro H R e x r w f e0
  obtain ⟨a0,n0,c0⟩:=e
  obtain ⟨v,H',e1,a1,n1,c1,k1,rfl,hn,w1,s1,f1⟩:=aF.P (F:=F) (R0:=R) f.n ⟨w,f⟩ e0
  obtain rfl:=f1.ints_eq
  exact ⟨_,H',e1,w1,s1⟩
 have hab:OkA (ci.tw F) (ci.p F):=by
  intro H R n r w e
  obtain ⟨v,H',e1,rfl,w1,s1,_⟩:=ci.P (F:=F) (R0:=R) ⟨w,trivial⟩ e
  exact ⟨H',e1,w1,s1⟩
 have hsw:OkW (bd.tw F) (bd.p F):=by
  intro H R q x r k hz hc w e
  obtain ⟨t,⟨a,n,c⟩,z,pre,cells,rest⟩:=q
  obtain rfl:z=1:=hz
  obtain rfl:cells=nI x:=hc
  obtain ⟨v,H',e1,k1,rfl,hn1,w1,s1,f1⟩:=bd.P (F:=F) (R0:=R) (W.own_n (E:=bf .i64) w (i:=0) rfl (CR.ints _ _ _ _)) ⟨w,CR.ints _ _ _ _⟩ e
  obtain rfl:=f1.ints_eq
  exact ⟨H',e1,w1,s1⟩
 have hsh:OkH (ah.tw F) (ah.p F):=by
  intro H R q q' x x' r hz hz' hc hc' w e
  obtain ⟨t,⟨a,n,c⟩,z,pre,cells,rest⟩:=q
  obtain ⟨t',⟨a',n',c'⟩,z',pre',cells',rest'⟩:=q'
  obtain rfl:z=1:=hz
  obtain rfl:cells=nI x:=hc
  obtain rfl:z'=1:=hz'
  obtain rfl:cells'=nI x':=hc'
  obtain ⟨v,H',e1,k1,k2,rfl,hn1,hn2,w1,s1,f1,f2⟩:=ah.P (F:=F) (R0:=R) (W.own_n (E:=bf .i64) w (i:=0) rfl (CR.ints _ _ _ _)) (W.own_n (E:=bf .i64) w (i:=1) rfl (CR.ints _ _ _ _)) ⟨w,CR.ints _ _ _ _,CR.ints _ _ _ _⟩ e
  obtain rfl:=f1.ints_eq
  obtain rfl:=f2.ints_eq
  exact ⟨H',e1,w1,s1⟩
 have heq:OkE (aL.tw F) (aL.p F):=by
  intro H R e e' x x' r w f f' e0
  obtain ⟨a,n,c⟩:=e
  obtain ⟨a',n',c'⟩:=e'
  obtain ⟨v,H',e1,rfl,w1,s1,_⟩:=aL.P (F:=F) (R0:=R) f.n f'.n ⟨w,f,f'⟩ e0
  exact ⟨H',e1,w1,s1⟩
 obtain ⟨⟨hF,hl⟩,hp⟩:=ev hp
 obtain ⟨st,e1,e2⟩:=Option.bind_eq_some_iff.1 hp
 obtain ⟨v,H',t1,⟨sa,sn,sc⟩,ro,rfl,w1,s1,h1⟩:=zp (add:=λf k H=>bB.tw F f 0 k H) (fin:=λf H=>aE.tw F f 0 H) (λ{H0 H R0 R f k s rows st res} w fr hr e=>zq hco htu hrv hiv hab hsw (F:=F) (x:=λH=>bB.tw F f 0 k H) (T:=λs H=>bB.j3 F (aG.tw F) (aN.tw F) (bE.tw F) (aF.tw F) (ci.tw F) (bd.tw F) f 0 k s H) (J:=λs H=>bB.j1 F (aG.tw F) (aN.tw F) (bE.tw F) (aF.tw F) (ci.tw F) (bd.tw F) f 0 k s H) (J2:=λH=>bB.j2 F (aG.tw F) (aN.tw F) (bE.tw F) (aF.tw F) (ci.tw F) (bd.tw F) f 0 k H) (Lp:=λg s m i H=>bB.l105 F (aG.tw F) (aN.tw F) (bE.tw F) (aF.tw F) (ci.tw F) (bd.tw F) g f 0 k s m i H) (λ_=>rfl) (λ_ _=>rfl) (λ_ _=>rfl) (λ_ _ _ _ _=>rfl) (λ_=>rfl) w fr hr e) (λ{H0 H R0 R f s rows st res} w fr hr e=>zr hco hrv hsh heq (F:=F) (x:=λH=>aE.tw F f 0 H) (Lf:=λy2 g y H=>aE.l13 F (ah.tw F) (aG.tw F) (bE.tw F) (aL.tw F) g f 0 y2 0 y H) (J9:=λy2 H=>aE.j9 F (ah.tw F) (aG.tw F) (bE.tw F) (aL.tw F) f 0 y2 0 H) (Lq:=λy2 c g y i H=>aE.l215 F (ah.tw F) (aG.tw F) (bE.tw F) (aL.tw F) (aE.l13 F (ah.tw F) (aG.tw F) (bE.tw F) (aL.tw F) c) g f 0 y2 0 y i H) (Lp:=λg pl fl y2 o s m i H=>aE.l125 F (ah.tw F) (aG.tw F) (bE.tw F) (aL.tw F) g y2 0 pl fl o 0 s m i H) (J:=zt) (λ_=>rfl) (λ_ _ _ _=>rfl) (λ_ _ _ _ _ _=>rfl) (λ_ _=>rfl) (λ_ _ _ _ _ _ _ _ _=>rfl) (λ_ _ _=>rfl) w fr hr e) (F:=F) (x:=λs H=>bp.tw F aa s H) (Lp:=λg y2 y3 s m i H=>bp.l29 F (bB.tw F) (aE.tw F) g y2 0 y3 0 s m i H) (λ_ _=>rfl) (λ_ _ _ _ _ _ _=>rfl) w0 f0 hF hl e1 e2
 refine ⟨_,H',t1,sa,sn,sc,slc ro,ro,rfl,?_,w1,s1,h1.ol⟩
 have h3:=(w1.ok _ List.mem_cons_self).1
 rw [kq,h1.len,Nat.mul_one] at h3
 exact h3.symm
def bX.Q (H0:Hp) (Ri R0:By)  (r:Cb) (v:AV) (H':Hp):Prop:=∃ o1a:ON,∃ o1n:Nat,∃ o1c:Cap,∃ o1k:List AV,∃ o1m:List Ow,v=(.tup [(.agg [(.i r.1),(.sl ⟨o1a,o1n,o1c⟩)]),(.i r.2.2)])/\o1n=(r.2.1).length/\Out H0 Ri H' (Rs.own ⟨o1a,o1n,o1c⟩ (eSl eI).z o1k::Rs.many o1m::R0) λR=>OL (oSl (bO eI)) o1m o1k (r.2.1)
def bX.p (F:Nat) (aa:Int) (aV:Bv):Option (Int×List (List Int)×Int):=(ce.p F aa aV).bind λr3=>(bif (!r3) then (some (0,([]:List (List Int)),1)) else ((bp.p F aa aV).bind λr10=>some (r10.1,r10.2,0)))
theorem bX.P {aa cF bU cG aV} (dD:bU=aV.length) (h0:Inn H R0 λR=>ROs eI H R ⟨cF,bU,cG⟩ aV) {r:Cb} (hp:bX.p F aa aV=some r):Rt (bX.tw F aa ⟨cF,bU,cG⟩ H) (bX.Q H R0 R0  r):=by
 obtain ⟨w0,dl⟩:=h0
 subst dD
 unfold bX.p at hp
 unfold bX.tw bX.twX
 have s0:=w0.rf
 refine bM w0 λH1 w1 s1=>?_
 refine bM w1 λH2 w2 s2=>?_
 refine lI w2 1 ?_
 refine lSl w2 1 ?_
 obtain ⟨r3,e3,hp⟩:=af hp
 refine aM (ce.P rfl ⟨w2,(dl.step (s1.trans s2))⟩ e3) ?_
 rintro _ H4 ⟨rfl,w4,s4,_⟩
 refine br ?_
 refine aC hp (λhp=>?_) λhp=>?_
 ·refine au w4 0 λH5 w5 s5=>?_
  refine au w5 0 λH6 w6 s6=>?_
  refine lI w6 0 ?_
  refine lSl w6 0 ?_
  obtain ⟨w7,s7⟩:=w6.nilS (eSl eI).z (by decide)
  obtain ⟨w8,s8⟩:=w7.nM
  obtain ⟨w9,s9⟩:=w8.pp [1,0] 4
  exact ay hp ⟨_,_,_,_,_,rfl,rfl,w9,(s0.trans (s1.trans (s2.trans (s4.trans (s5.trans (s6.trans (s7.trans (s8.trans s9)))))))),(OL.nil:OL (oSl (bO eI)) [] [] [])⟩
 ·refine lI w4 1 ?_
  refine lSl w4 1 ?_
  obtain ⟨r10,e10,hp⟩:=af hp
  refine aM (bp.P rfl ⟨w4,(dl.step (s1.trans (s2.trans s4)))⟩ e10) ?_
  rintro _ H11 ⟨o1a_11,o1n_11,o1c_11,o1k_11,o1m_11,rfl,rfl,w11,s11,f11_0⟩
  refine br (br (br (br (br ?_))))
  refine au w11 2 λH12 w12 s12=>?_
  refine au w12 2 λH13 w13 s13=>?_
  refine lI w13 2 ?_
  refine lSl w13 2 ?_
  obtain ⟨w14,s14⟩:=w13.pp [0,1] 4
  exact ay hp ⟨_,_,_,_,_,rfl,rfl,w14,(s0.trans (s1.trans (s2.trans (s4.trans (s11.trans (s12.trans (s13.trans s14))))))),f11_0⟩
def cu.Q (H0:Hp) (Ri R0:By)  (r:Bool) (v:AV) (H':Hp):Prop:=v=(.bool r)/\Out H0 Ri H' (R0) λR=>True
def cu.p (F:Nat) (aa:Int) (ag:Int) (dt:Int):Option (Bool):=(bif (decide (aa>=ag)) then (some (decide (aa<=dt))) else (some false))
theorem cu.P {aa ag dt}  (h0:Inn H R0 λR=>True) {r:Bool} (hp:cu.p F aa ag dt=some r):Rt (cu.tw F aa ag dt H) (cu.Q H R0 R0  r):=by
 obtain ⟨w0,_⟩:=h0
 unfold cu.p at hp
 unfold cu.tw cu.twX
 have s0:=w0.rf
 refine aC hp (λhp=>?_) λhp=>?_
 ·exact ay hp ⟨rfl,w0,s0,trivial⟩
 ·exact ay hp ⟨rfl,w0,s0,trivial⟩
def cv.Q (H0:Hp) (Ri R0:By)  (r:Bool) (v:AV) (H':Hp):Prop:=v=(.bool r)/\Out H0 Ri H' (R0) λR=>True
def cv.p (F:Nat) (aa:Int) (ag:Int):Option (Bool):=(bif (aa != 0) then ((cu.p F aa (wrap .i64 (1 - ag)) (wrap .i64 (ag - 1))).bind λr1=>some r1) else (some false))
theorem cv.P {aa ag}  (h0:Inn H R0 λR=>True) {r:Bool} (hp:cv.p F aa ag=some r):Rt (cv.tw F aa ag H) (cv.Q H R0 R0  r):=by
 obtain ⟨w0,_⟩:=h0
 unfold cv.p at hp
 unfold cv.tw cv.twX
 have s0:=w0.rf
 refine aC hp (λhp=>?_) λhp=>?_
 ·obtain ⟨r1,e1,hp⟩:=af hp
  refine aM (cu.P ⟨w0,trivial⟩ e1) ?_
  rintro _ H2 ⟨rfl,w2,s2,_⟩
  refine br ?_
  exact ay hp ⟨rfl,w2,(s0.trans s2),trivial⟩
 ·exact ay hp ⟨rfl,w0,s0,trivial⟩
def aB.Q (H0:Hp) (Ri R0:By)  (r:Bool) (v:AV) (H':Hp):Prop:=v=(.bool r)/\Out H0 Ri H' (R0) λR=>True
def aB.S29 (H0:Hp) (Ri R0:By)  (C:BE) (pC:Int->List Int->Int->Option (Bool)):Prop:=∀ {kf di pS nu dX pT gD},∀ {H:Hp},nu=gD.length->(Out H0 Ri H (Rs.blk dX [.i kf,.sl ⟨pS,nu,pT⟩]::R0) λR=>ROs eI H R ⟨pS,nu,pT⟩ gD)->∀ {r:Bool},pC kf gD di=some r->Rt (C dX 0 di H) (aB.Q H0 Ri R0  r)
def aB.pl29 (F:Nat) :Nat->Int->List Int->Int->Option (Bool)
 | 0,_,_,_=>none
 | k+1,kf,gD,di=>(bif (decide (di<(gD.length:Int))) then ((ix gD di).bind λn1=>(cv.p F (gt gD n1) kf).bind λr2=>(bif (!r2) then (some false) else (aB.pl29 F k kf gD (wrap .i64 (di+1))))) else (some true))
theorem aB.l29_P  :∀ k,aB.S29 H0 Ri R0  (aB.l29 F (cu.tw F) (cv.tw F)  k) (aB.pl29 F  k):=by
 intro k
 induction k with
 | zero=>unfold aB.S29;intros;rename_i hp;cases hp
 | succ k ih=>
  intro kf di pS nu dX pT gD H yg h0 r hp
  obtain ⟨w0,s0,tK⟩:=h0
  subst yg
  unfold aB.pl29 at hp
  unfold aB.l29
  refine lSl w0 0 ?_
  refine aC hp (λhp=>?_) λhp=>?_
  ·refine lSl w0 0 ?_
   obtain ⟨n1,g1,hp⟩:=af hp
   obtain ⟨p1,q1,i1,h1,j1⟩:=ROs.ixr tK rfl g1
   refine aj i1 ?_
   have h1:_=[_]:=h1
   subst h1
   refine aj (cW (j1 0 _ rfl)) ?_
   refine lI w0 0 ?_
   obtain ⟨r2,e2,hp⟩:=af hp
   refine aM (cv.P ⟨w0,trivial⟩ e2) ?_
   rintro _ H3 ⟨rfl,w3,s3,_⟩
   refine br ?_
   refine aC hp (λhp=>?_) λhp=>?_
   ·obtain ⟨w4,s4⟩:=w3.pp [] 1
    exact ay hp ⟨rfl,w4,(s0.trans (s3.trans s4)),trivial⟩
   ·exact ih rfl ⟨w3,(s0.trans s3),(tK.step s3)⟩ hp
  ·obtain ⟨w5,s5⟩:=w0.pp [] 1
   exact ay hp ⟨rfl,w5,(s0.trans s5),trivial⟩
def aB.p (F:Nat) (aa:Int) (aV:Bv):Option (Bool):=(cu.p F aa 1 6).bind λr2=>(bif (!r2) then (some false) else ((bif (decide ((aV.length:Int)>24)) then (some false) else (aB.pl29 F F aa aV 0))))
theorem aB.P {aa cF bU cG aV} (dD:bU=aV.length) (h0:Inn H R0 λR=>ROs eI H R ⟨cF,bU,cG⟩ aV) {r:Bool} (hp:aB.p F aa aV=some r):Rt (aB.tw F aa ⟨cF,bU,cG⟩ H) (aB.Q H R0 R0  r):=by
 obtain ⟨w0,dl⟩:=h0
 subst dD
 unfold aB.p at hp
 unfold aB.tw aB.twX
 have s0:=w0.rf
 refine bM w0 λH1 w1 s1=>?_
 refine lI w1 0 ?_
 obtain ⟨r2,e2,hp⟩:=af hp
 refine aM (cu.P ⟨w1,trivial⟩ e2) ?_
 rintro _ H3 ⟨rfl,w3,s3,_⟩
 refine br ?_
 refine aC hp (λhp=>?_) λhp=>?_
 ·obtain ⟨w4,s4⟩:=w3.pp [] 1
  exact ay hp ⟨rfl,w4,(s0.trans (s1.trans (s3.trans s4))),trivial⟩
 ·refine lSl w3 0 ?_
  refine aC hp (λhp=>?_) λhp=>?_
  ·obtain ⟨w5,s5⟩:=w3.pp [] 1
   exact ay hp ⟨rfl,w5,(s0.trans (s1.trans (s3.trans s5))),trivial⟩
  ·exact aB.l29_P F rfl ⟨w3,(s0.trans (s1.trans s3)),(dl.step (s1.trans s3))⟩ hp
def aI.Q (H0:Hp) (Ri R0:By)  (r:Bool) (v:AV) (H':Hp):Prop:=v=(.bool r)/\Out H0 Ri H' (R0) λR=>True
def aI.S29 (H0:Hp) (Ri R0:By)  (C:Sl->Int->Sl->Sl->Int->Int->Hp->OA) (pC:List Int->Int->List Bool->Int->Int->Option (Bool)):Prop:=∀ {g_ pU fL nv hG pV df eD ft eE gE pW},∀ {H:Hp},fL=df.length->nv=gE.length->(Out H0 Ri H (Rs.own ⟨pU,nv,pV⟩ jg.z pW::R0) λR=>ROs eI H R ⟨g_,fL,hG⟩ df/\CR jg H R pW gE)->∀ {r:Bool},pC df eD gE ft eE=some r->Rt (C ⟨g_,fL,hG⟩ eD ⟨pU,nv,pV⟩ ⟨g_,fL,hG⟩ ft eE H) (aI.Q H0 Ri R0  r)
def aI.pj1 (F:Nat)  (lK:Bv) (jT:Int):Option (Bool):=(aZ.p F lK).bind λr1=>some (r1==jT)
theorem aI.j1_P   {tL pX tM lK jT} (yh:pX=lK.length) (h0:Out H0 Ri H R0 λR=>ROs eI H R ⟨tL,pX,tM⟩ lK) {r:Bool} (hp:aI.pj1 F  lK jT=some r):Rt (aI.j1 F (bH.tw F) (aZ.tw F)  ⟨tL,pX,tM⟩ jT H) (aI.Q H0 Ri R0  r):=by
 obtain ⟨w0,s0,yi⟩:=h0
 subst yh
 unfold aI.pj1 at hp
 unfold aI.j1
 obtain ⟨r1,e1,hp⟩:=af hp
 refine aM (aZ.P rfl ⟨w0,yi⟩ e1) ?_
 rintro _ H2 ⟨rfl,w2,s2,_⟩
 refine br ?_
 exact ay hp ⟨rfl,w2,(s0.trans s2),trivial⟩
def aI.pl29 (F:Nat) :Nat->List Int->Int->List Bool->Int->Int->Option (Bool)
 | 0,_,_,_,_,_=>none
 | k+1,df,eD,gE,ft,eE=>(bif (decide (eE<ft)) then ((ix df eE).bind λn1=>(bH.p F (gt df n1) 0 (wrap .i64 (eD - 1))).bind λr2=>(bif (!r2) then (some false) else ((ix gE (gt df n1)).bind λn5=>(bif (gt gE n5) then (some false) else ((ix gE (gt df n1)).bind λn7=>(some (gE.set n7 true)).bind λl8=>aI.pl29 F k df eD l8 ft (wrap .i64 (eE+1))))))) else (aI.pj1 F df eD))
theorem aI.l29_P  :∀ k,aI.S29 H0 Ri R0  (aI.l29 F (bH.tw F) (aZ.tw F)  k) (aI.pl29 F  k):=by
 intro k
 induction k with
 | zero=>unfold aI.S29;intros;rename_i hp;cases hp
 | succ k ih=>
  intro g_ pU fL nv hG pV df eD ft eE gE pW H pi yj h0 r hp
  obtain ⟨w0,s0,kc,pY⟩:=h0
  subst pi
  subst yj
  unfold aI.pl29 at hp
  unfold aI.l29
  refine aC hp (λhp=>?_) λhp=>?_
  ·obtain ⟨n1,g1,hp⟩:=af hp
   obtain ⟨p1,q1,i1,h1,j1⟩:=ROs.ixr kc rfl g1
   refine aj i1 ?_
   have h1:_=[_]:=h1
   subst h1
   refine aj (cW (j1 0 _ rfl)) ?_
   obtain ⟨r2,e2,hp⟩:=af hp
   refine aM (bH.P ⟨w0,trivial⟩ e2) ?_
   rintro _ H3 ⟨rfl,w3,s3,_⟩
   refine br ?_
   refine aC hp (λhp=>?_) λhp=>?_
   ·obtain ⟨w4,s4⟩:=w3.pp [] 1
    exact ay hp ⟨rfl,w4,(s0.trans (s3.trans s4)),trivial⟩
   ·obtain ⟨n5,g5,hp⟩:=af hp
    obtain ⟨p5,q5,i5,h5,j5⟩:=W.ixo (E:=jg) w3 (i:=0) rfl rfl (pY.step s3) g5
    refine aj i5 ?_
    have h5:_=[_]:=h5
    subst h5
    refine aj (uQ (j5 0 _ rfl)) ?_
    refine aC hp (λhp=>?_) λhp=>?_
    ·obtain ⟨w6,s6⟩:=w3.pp [] 1
     exact ay hp ⟨rfl,w6,(s0.trans (s3.trans s6)),trivial⟩
    ·obtain ⟨n7,g7,hp⟩:=af hp
     obtain ⟨p7,q7,i7,h7,j7⟩:=W.ixo (E:=jg) w3 (i:=0) rfl rfl (pY.step s3) g7
     refine aj i7 ?_
     obtain ⟨l8,e8,hp⟩:=af hp
     refine jf jg w3 (i:=0) (j:=0) (p:=p7) rfl rfl (pY.step s3) g7 i7 e8 rfl rfl (λ_ h=>by have h:_=[_]:=h;subst h;exact rfl) λH9 k9 w9 s9 c9=>?_
     exact ih rfl ((fN e8).symm) ⟨w9,(s0.trans (s3.trans s9)),(kc.step (s3.trans s9)),c9⟩ hp
  ·obtain ⟨w10,s10⟩:=w0.pp [] 1
   exact aI.j1_P rfl ⟨w10,(s0.trans s10),(kc.step s10)⟩ hp
def aI.p (F:Nat) (ai:Bv) (ag:Int):Option (Bool):=(mkn ag false).bind λl1=>aI.pl29 F F ai ag l1 (ai.length:Int) 0
theorem aI.P {aJ ax aK ai ag} (bQ:ax=ai.length) (h0:Inn H R0 λR=>ROs eI H R ⟨aJ,ax,aK⟩ ai) {r:Bool} (hp:aI.p F ai ag=some r):Rt (aI.tw F ⟨aJ,ax,aK⟩ ag H) (aI.Q H R0 R0  r):=by
 obtain ⟨w0,bG⟩:=h0
 subst bQ
 unfold aI.p at hp
 unfold aI.tw aI.twX
 have s0:=w0.rf
 obtain ⟨l1,e1,hp⟩:=af hp
 refine rS jg false w0 rfl rfl rfl e1 λH2 k2 w2 s2 c2=>?_
 exact aI.l29_P F rfl rfl ⟨w2,(s0.trans s2),(bG.step s2),c2⟩ hp
def db.Q (H0:Hp) (Ri R0:By)  (r:Bv) (v:AV) (H':Hp):Prop:=∃ o0a:ON,∃ o0n:Nat,∃ o0c:Cap,∃ o0k:List AV,v=(.sl ⟨o0a,o0n,o0c⟩)/\o0n=(r).length/\Out H0 Ri H' (Rs.own ⟨o0a,o0n,o0c⟩ eI.z o0k::R0) λR=>CR eI H' R o0k (r)
def db.p (F:Nat) (ai:Bv):Option (List Int):=apn ([]:List Int) ai
theorem db.P {aJ ax aK ai} (bQ:ax=ai.length) (h0:Inn H R0 λR=>ROs eI H R ⟨aJ,ax,aK⟩ ai) {r:Bv} (hp:db.p F ai=some r):Rt (db.tw F ⟨aJ,ax,aK⟩ H) (db.Q H R0 R0  r):=by
 obtain ⟨w0,f0⟩:=h0
 subst bQ
 unfold db.p at hp
 unfold db.tw db.twX
 have s0:=w0.rf
 refine og (λhb=>?_) (λhb=>?_)
 ·obtain ⟨w1,s1⟩:=w0.nilS eI.z (by decide)
  obtain rfl:=ROs.none_nil f0 (Option.isNone_iff_eq_none.1 hb)
  obtain rfl:r=[]:=(ma hp).2
  exact ⟨_,_,rfl,none,0,.ex 0,[],rfl,rfl,w1,s0.trans s1,CR.empty⟩
 ·refine fb eI w0 (n:=0) (l:=[]) rfl CR.empty rfl λH2 w2 s2 c2=>?_
  obtain ⟨xs,hx,cx⟩:=(f0.step s2).row rfl
  refine aj hx ?_
  refine fD eI w2 (i:=0) rfl rfl c2 cx rfl rfl hp λa d H3 w3 s3 c3 _=>?_
  dsimp only [List.set] at w3 s3 c3
  exact ⟨_,_,rfl,_,_,_,_,rfl,rfl,w3,s0.trans (s2.trans s3),c3⟩
def aX.Q (H0:Hp) (Ri R0:By)  (r:Int) (v:AV) (H':Hp):Prop:=v=(.i r)/\Out H0 Ri H' (R0) λR=>True
def aX.S13 (H0:Hp) (Ri R0:By)  (C:BC) (pC:List Int->Int->Option (Int)):Prop:=∀ {pZ nw p_ cQ bm},∀ {H:Hp},nw=cQ.length->(Out H0 Ri H R0 λR=>ROs eI H R ⟨pZ,nw,p_⟩ cQ)->∀ {r:Int},pC cQ bm=some r->Rt (C ⟨pZ,nw,p_⟩ bm H) (aX.Q H0 Ri R0  r)
def aX.pl13 (F:Nat) :Nat->List Int->Int->Option (Int)
 | 0,_,_=>none
 | k+1,cQ,bm=>(bif (decide (bm<(cQ.length:Int))) then ((ix cQ (wrap .i64 (bm - 1))).bind λn1=>(ix cQ bm).bind λn2=>(bif (decide ((gt cQ n1)>(gt cQ n2))) then (some bm) else (aX.pl13 F k cQ (wrap .i64 (bm+1))))) else (some 0))
theorem aX.l13_P  :∀ k,aX.S13 H0 Ri R0  (aX.l13 F   k) (aX.pl13 F  k):=by
 intro k
 induction k with
 | zero=>unfold aX.S13;intros;rename_i hp;cases hp
 | succ k ih=>
  intro pZ nw p_ cQ bm H pF h0 r hp
  obtain ⟨w0,s0,gz⟩:=h0
  subst pF
  unfold aX.pl13 at hp
  unfold aX.l13
  refine aC hp (λhp=>?_) λhp=>?_
  ·obtain ⟨n1,g1,hp⟩:=af hp
   obtain ⟨p1,q1,i1,h1,j1⟩:=ROs.ixr gz rfl g1
   refine aj i1 ?_
   have h1:_=[_]:=h1
   subst h1
   refine aj (cW (j1 0 _ rfl)) ?_
   obtain ⟨n2,g2,hp⟩:=af hp
   obtain ⟨p2,q2,i2,h2,j2⟩:=ROs.ixr gz rfl g2
   refine aj i2 ?_
   have h2:_=[_]:=h2
   subst h2
   refine aj (cW (j2 0 _ rfl)) ?_
   refine aC hp (λhp=>?_) λhp=>?_
   ·exact ay hp ⟨rfl,w0,s0,trivial⟩
   ·exact ih rfl ⟨w0,s0,gz⟩ hp
  ·exact ay hp ⟨rfl,w0,s0,trivial⟩
def aX.p (F:Nat) (ai:Bv):Option (Int):=aX.pl13 F F ai 1
theorem aX.P {aJ ax aK ai} (bQ:ax=ai.length) (h0:Inn H R0 λR=>ROs eI H R ⟨aJ,ax,aK⟩ ai) {r:Int} (hp:aX.p F ai=some r):Rt (aX.tw F ⟨aJ,ax,aK⟩ H) (aX.Q H R0 R0  r):=by
 obtain ⟨w0,bG⟩:=h0
 subst bQ
 unfold aX.p at hp
 unfold aX.tw aX.twX
 have s0:=w0.rf
 exact aX.l13_P F rfl ⟨w0,s0,bG⟩ hp
def aP.Q (H0:Hp) (Ri R0:By)  (r:BP) (v:AV) (H':Hp):Prop:=∃ o1a:ON,∃ o1n:Nat,∃ o1c:Cap,∃ o1k:List AV,v=(.tup [(.agg [(.i r.1),(.sl ⟨o1a,o1n,o1c⟩)]),(.i r.2.2)])/\o1n=(r.2.1).length/\Out H0 Ri H' (Rs.own ⟨o1a,o1n,o1c⟩ eI.z o1k::R0) λR=>CR eI H' R o1k (r.2.1)
def aP.S125 (H0:Hp) (Ri R0:By)  (C:Nat->Nat->Sl->Nat->Nat->Int->Hp->OA) (pC:List Int->Int->List Int->Int->Option (Int×List Int×Int)):Prop:=∀ {tN kg dZ qa qb qc ny fv nz nA fw qd qe qf qg ki iS qh qi qj},∀ {H:Hp},ny=qg.length->nz=ki.length->nA=iS.length->(Out H0 Ri H (Rs.own ⟨qa,ny,qd⟩ eI.z qh::Rs.blk fv [.i tN,.sl ⟨qa,ny,qd⟩]::Rs.own ⟨qb,nz,qe⟩ eI.z qi::Rs.own ⟨qc,nA,qf⟩ eI.z qj::Rs.blk fw [.i kg,.sl ⟨qc,nA,qf⟩]::R0) λR=>CR eI H R qh qg/\CR eI H R qi ki/\CR eI H R qj iS)->∀ {r:BP},pC ki kg iS dZ=some r->Rt (C fv 0 ⟨qb,nz,qe⟩ fw 0 dZ H) (aP.Q H0 Ri R0  r)
def aP.pl125 (F:Nat) :Nat->List Int->Int->List Int->Int->Option (Int×List Int×Int)
 | 0,_,_,_,_=>none
 | k+1,ki,kg,iS,dZ=>(bif (decide (dZ>0)) then ((apn iS ([dZ]:List Int)).bind λl2=>(bd.p F ki dZ).bind λr6=>(aX.p F r6).bind λr9=>aP.pl125 F k r6 kg l2 r9) else (some (kg,iS,0)))
theorem aP.l125_P  :∀ k,aP.S125 H0 Ri R0  (aP.l125 F (aZ.tw F) (bH.tw F) (aI.tw F) (db.tw F) (aX.tw F) (bd.tw F)  k) (aP.pl125 F  k):=by
 intro k
 induction k with
 | zero=>unfold aP.S125;intros;rename_i hp;cases hp
 | succ k ih=>
  intro tN kg dZ qa qb qc ny fv nz nA fw qd qe qf qg ki iS qh qi qj H yk yl ym h0 r hp
  obtain ⟨w0,s0,yn,yo,tO⟩:=h0
  subst yk
  subst yl
  subst ym
  unfold aP.pl125 at hp
  unfold aP.l125
  refine aC hp (λhp=>?_) λhp=>?_
  ·refine lSl w0 4 ?_
   refine fb eI w0 (n:=1) (l:=([dZ]:List Int)) rfl (CR.cons1 rfl CR.empty) rfl λH1 w1 s1 c1=>?_
   refine aj (w1.rowo (i:=0) rfl) ?_
   obtain ⟨l2,e2,hp⟩:=af hp
   refine fD eI w1 (i:=4) rfl rfl (tO.step s1) c1 (show 1=List.length ([dZ]:List Int) from rfl) rfl e2 λa3 d3 H3 w3 s3 c3 x3=>?_
   refine au w3 5 λH4 w4 s4=>?_
   obtain ⟨w5,s5⟩:=w4.pp [3,0,1,2,4,5] 6
   obtain ⟨r6,e6,hp⟩:=af hp
   refine aM (bd.P rfl ⟨w5,(yo.step (s1.trans (s3.trans (s4.trans s5))))⟩ e6) ?_
   rintro _ H7 ⟨AR,rfl,hl7_0,w7,s7,f7_0⟩
   have f8:=W.borrow1 eI w7 f7_0
   obtain ⟨w8,s8⟩:=w7.right1
   obtain ⟨r9,e9,hp⟩:=af hp
   refine aM (aX.P hl7_0 ⟨w8,f8⟩ e9) ?_
   rintro _ H10 ⟨rfl,w10,s10,_⟩
   obtain ⟨w11,s11⟩:=W.frame1 w7 w10 s10
   refine br ?_
   obtain ⟨w12,s12⟩:=w11.pp [2,3,0,4,5] 6
   exact ih rfl hl7_0 rfl ⟨w12,(s0.trans (s1.trans (s3.trans (s4.trans (s5.trans (s7.trans (s11.trans s12))))))),(yn.step (s1.trans (s3.trans (s4.trans (s5.trans (s7.trans (s11.trans s12))))))),(f7_0.step (s11.trans s12)),(c3.step (s4.trans (s5.trans (s7.trans (s11.trans s12)))))⟩ hp
  ·refine lI w0 4 ?_
   refine lSl w0 4 ?_
   refine au w0 1 λH13 w13 s13=>?_
   refine au w13 1 λH14 w14 s14=>?_
   refine lI w14 1 ?_
   refine lSl w14 1 ?_
   obtain ⟨w15,s15⟩:=w14.pp [3] 5
   exact ay hp ⟨_,_,_,_,rfl,rfl,w15,(s0.trans (s13.trans (s14.trans s15))),(tO.step (s13.trans (s14.trans s15)))⟩
def aP.p (F:Nat) (ai:Bv):Option (Int×List Int×Int):=(aZ.p F ai).bind λr2=>(bH.p F r2 1 6).bind λr4=>(bif (!r4) then (some (0,([]:List Int),1)) else ((aZ.p F ai).bind λr10=>(aI.p F ai r10).bind λr12=>(bif (!r12) then (some (0,([]:List Int),1)) else ((db.p F ai).bind λr18=>(aZ.p F ai).bind λr20=>(aX.p F r18).bind λr27=>aP.pl125 F F r18 r20 ([]:List Int) r27))))
theorem aP.P {aJ ax aK ai} (bQ:ax=ai.length) (h0:Inn H R0 λR=>ROs eI H R ⟨aJ,ax,aK⟩ ai) {r:BP} (hp:aP.p F ai=some r):Rt (aP.tw F ⟨aJ,ax,aK⟩ H) (aP.Q H R0 R0  r):=by
 obtain ⟨w0,bG⟩:=h0
 subst bQ
 unfold aP.p at hp
 unfold aP.tw aP.twX
 have s0:=w0.rf
 refine bM w0 λH1 w1 s1=>?_
 obtain ⟨r2,e2,hp⟩:=af hp
 refine aM (aZ.P rfl ⟨w1,(bG.step s1)⟩ e2) ?_
 rintro _ H3 ⟨rfl,w3,s3,_⟩
 refine br ?_
 obtain ⟨r4,e4,hp⟩:=af hp
 refine aM (bH.P ⟨w3,trivial⟩ e4) ?_
 rintro _ H5 ⟨rfl,w5,s5,_⟩
 refine br ?_
 refine aC hp (λhp=>?_) λhp=>?_
 ·refine au w5 0 λH6 w6 s6=>?_
  refine au w6 0 λH7 w7 s7=>?_
  refine lI w7 0 ?_
  refine lSl w7 0 ?_
  obtain ⟨w8,s8⟩:=w7.nilS eI.z (by decide)
  obtain ⟨w9,s9⟩:=w8.pp [0] 2
  exact ay hp ⟨_,_,_,_,rfl,rfl,w9,(s0.trans (s1.trans (s3.trans (s5.trans (s6.trans (s7.trans (s8.trans s9))))))),((CR.empty:CR eI _ _ [] []).step s9)⟩
 ·obtain ⟨r10,e10,hp⟩:=af hp
  refine aM (aZ.P rfl ⟨w5,(bG.step (s1.trans (s3.trans s5)))⟩ e10) ?_
  rintro _ H11 ⟨rfl,w11,s11,_⟩
  refine br ?_
  obtain ⟨r12,e12,hp⟩:=af hp
  refine aM (aI.P rfl ⟨w11,(bG.step (s1.trans (s3.trans (s5.trans s11))))⟩ e12) ?_
  rintro _ H13 ⟨rfl,w13,s13,_⟩
  refine br ?_
  refine aC hp (λhp=>?_) λhp=>?_
  ·refine au w13 0 λH14 w14 s14=>?_
   refine au w14 0 λH15 w15 s15=>?_
   refine lI w15 0 ?_
   refine lSl w15 0 ?_
   obtain ⟨w16,s16⟩:=w15.nilS eI.z (by decide)
   obtain ⟨w17,s17⟩:=w16.pp [0] 2
   exact ay hp ⟨_,_,_,_,rfl,rfl,w17,(s0.trans (s1.trans (s3.trans (s5.trans (s11.trans (s13.trans (s14.trans (s15.trans (s16.trans s17))))))))),((CR.empty:CR eI _ _ [] []).step s17)⟩
  ·obtain ⟨r18,e18,hp⟩:=af hp
   refine aM (db.P rfl ⟨w13,(bG.step (s1.trans (s3.trans (s5.trans (s11.trans s13)))))⟩ e18) ?_
   rintro _ H19 ⟨o0a_19,o0n_19,o0c_19,o0k_19,rfl,rfl,w19,s19,f19_0⟩
   refine br ?_
   obtain ⟨r20,e20,hp⟩:=af hp
   refine aM (aZ.P rfl ⟨w19,(bG.step (s1.trans (s3.trans (s5.trans (s11.trans (s13.trans s19))))))⟩ e20) ?_
   rintro _ H21 ⟨rfl,w21,s21,_⟩
   refine br ?_
   refine bM w21 λH22 w22 s22=>?_
   refine au w22 0 λH23 w23 s23=>?_
   refine au w23 0 λH24 w24 s24=>?_
   obtain ⟨w25,s25⟩:=w24.pp [1,0,2] 3
   have f26:=W.borrow1 eI w25 (f19_0.step (s21.trans (s22.trans (s23.trans (s24.trans s25)))))
   obtain ⟨w26,s26⟩:=w25.right1
   obtain ⟨r27,e27,hp⟩:=af hp
   refine aM (aX.P rfl ⟨w26,f26⟩ e27) ?_
   rintro _ H28 ⟨rfl,w28,s28,_⟩
   obtain ⟨w29,s29⟩:=W.frame1 w25 w28 s28
   refine br ?_
   obtain ⟨w30,s30⟩:=w29.nilS eI.z (by decide)
   obtain ⟨w31,s31⟩:=w30.nilS eI.z (by decide)
   obtain ⟨w32,s32⟩:=w31.pp [1,4,2,0,3] 5
   exact aP.l125_P F rfl rfl rfl ⟨w32,(s0.trans (s1.trans (s3.trans (s5.trans (s11.trans (s13.trans (s19.trans (s21.trans (s22.trans (s23.trans (s24.trans (s25.trans (s29.trans (s30.trans (s31.trans s32))))))))))))))),((CR.empty:CR eI _ _ [] []).step (s31.trans s32)),(f19_0.step (s21.trans (s22.trans (s23.trans (s24.trans (s25.trans (s29.trans (s30.trans (s31.trans s32))))))))),((CR.empty:CR eI _ _ [] []).step s32)⟩ hp
def bz.Q (H0:Hp) (Ri R0:By)  (r:Bv) (v:AV) (H':Hp):Prop:=∃ o0a:ON,∃ o0n:Nat,∃ o0c:Cap,∃ o0k:List AV,v=(.sl ⟨o0a,o0n,o0c⟩)/\o0n=(r).length/\Out H0 Ri H' (Rs.own ⟨o0a,o0n,o0c⟩ eI.z o0k::R0) λR=>CR eI H' R o0k (r)
def bz.S29 (H0:Hp) (Ri R0:By)  (C:Sl->Sl->Int->Hp->OA) (pC:List Int->List Int->Int->Option (List Int)):Prop:=∀ {eU iN ee gB eV iO bI dL iP ck},∀ {H:Hp},ee=bI.length->gB=dL.length->(Out H0 Ri H (Rs.own ⟨iN,gB,iO⟩ eI.z iP::R0) λR=>ROs eI H R ⟨eU,ee,eV⟩ bI/\CR eI H R iP dL)->∀ {r:Bv},pC bI dL ck=some r->Rt (C ⟨eU,ee,eV⟩ ⟨iN,gB,iO⟩ ck H) (bz.Q H0 Ri R0  r)
def bz.pl29 (F:Nat) :Nat->List Int->List Int->Int->Option (List Int)
 | 0,_,_,_=>none
 | k+1,bI,dL,ck=>(bif (decide (ck>=0)) then ((ix bI ck).bind λn1=>(apn dL ([(wrap .i64 (0 - (gt bI n1)))]:List Int)).bind λl3=>bz.pl29 F k bI l3 (wrap .i64 (ck - 1))) else (some dL))
theorem bz.l29_P  :∀ k,bz.S29 H0 Ri R0  (bz.l29 F   k) (bz.pl29 F  k):=by
 intro k
 induction k with
 | zero=>unfold bz.S29;intros;rename_i hp;cases hp
 | succ k ih=>
  intro eU iN ee gB eV iO bI dL iP ck H iL pI h0 r hp
  obtain ⟨w0,s0,eu,kd⟩:=h0
  subst iL
  subst pI
  unfold bz.pl29 at hp
  unfold bz.l29
  refine aC hp (λhp=>?_) λhp=>?_
  ·obtain ⟨n1,g1,hp⟩:=af hp
   obtain ⟨p1,q1,i1,h1,j1⟩:=ROs.ixr eu rfl g1
   refine aj i1 ?_
   have h1:_=[_]:=h1
   subst h1
   refine aj (cW (j1 0 _ rfl)) ?_
   refine fb eI w0 (n:=1) (l:=([(wrap .i64 (0 - (gt bI n1)))]:List Int)) rfl (CR.cons1 rfl CR.empty) rfl λH2 w2 s2 c2=>?_
   refine aj (w2.rowo (i:=0) rfl) ?_
   obtain ⟨l3,e3,hp⟩:=af hp
   refine fD eI w2 (i:=1) rfl rfl (kd.step s2) c2 (show 1=List.length ([(wrap .i64 (0 - (gt bI n1)))]:List Int) from rfl) rfl e3 λa4 d4 H4 w4 s4 c4 x4=>?_
   obtain ⟨w5,s5⟩:=w4.pp [1] 2
   exact ih rfl rfl ⟨w5,(s0.trans (s2.trans (s4.trans s5))),(eu.step (s2.trans (s4.trans s5))),(c4.step s5)⟩ hp
  ·exact ay hp ⟨_,_,_,_,rfl,rfl,w0,s0,kd⟩
def bz.p (F:Nat) (ai:Bv):Option (List Int):=bz.pl29 F F ai ([]:List Int) (wrap .i64 ((ai.length:Int) - 1))
theorem bz.P {aJ ax aK ai} (bQ:ax=ai.length) (h0:Inn H R0 λR=>ROs eI H R ⟨aJ,ax,aK⟩ ai) {r:Bv} (hp:bz.p F ai=some r):Rt (bz.tw F ⟨aJ,ax,aK⟩ H) (bz.Q H R0 R0  r):=by
 obtain ⟨w0,bG⟩:=h0
 subst bQ
 unfold bz.p at hp
 unfold bz.tw bz.twX
 have s0:=w0.rf
 refine fb eI w0 (n:=0) (l:=([]:List Int)) rfl CR.empty rfl λH1 w1 s1 c1=>?_
 exact bz.l29_P F rfl (show 0=List.length ([]:List Int) from rfl) ⟨w1,(s0.trans s1),(bG.step s1),c1⟩ hp
def bP.Q (H0:Hp) (Ri R0:By)  (r:BP) (v:AV) (H':Hp):Prop:=∃ o1a:ON,∃ o1n:Nat,∃ o1c:Cap,∃ o1k:List AV,v=(.tup [(.agg [(.i r.1),(.sl ⟨o1a,o1n,o1c⟩)]),(.i r.2.2)])/\o1n=(r.2.1).length/\Out H0 Ri H' (Rs.own ⟨o1a,o1n,o1c⟩ eI.z o1k::R0) λR=>CR eI H' R o1k (r.2.1)
def bP.p (F:Nat) (aa:Int) (aV:Bv):Option (Int×List Int×Int):=(aB.p F aa aV).bind λr3=>(bif (!r3) then (some (0,([]:List Int),1)) else ((bz.p F aV).bind λr9=>some (aa,r9,0)))
theorem bP.P {aa cF bU cG aV} (dD:bU=aV.length) (h0:Inn H R0 λR=>ROs eI H R ⟨cF,bU,cG⟩ aV) {r:BP} (hp:bP.p F aa aV=some r):Rt (bP.tw F aa ⟨cF,bU,cG⟩ H) (bP.Q H R0 R0  r):=by
 obtain ⟨w0,dl⟩:=h0
 subst dD
 unfold bP.p at hp
 unfold bP.tw bP.twX
 have s0:=w0.rf
 refine bM w0 λH1 w1 s1=>?_
 refine bM w1 λH2 w2 s2=>?_
 refine lI w2 1 ?_
 refine lSl w2 1 ?_
 obtain ⟨r3,e3,hp⟩:=af hp
 refine aM (aB.P rfl ⟨w2,(dl.step (s1.trans s2))⟩ e3) ?_
 rintro _ H4 ⟨rfl,w4,s4,_⟩
 refine br ?_
 refine aC hp (λhp=>?_) λhp=>?_
 ·refine au w4 0 λH5 w5 s5=>?_
  refine au w5 0 λH6 w6 s6=>?_
  refine lI w6 0 ?_
  refine lSl w6 0 ?_
  obtain ⟨w7,s7⟩:=w6.nilS eI.z (by decide)
  obtain ⟨w8,s8⟩:=w7.pp [0] 3
  exact ay hp ⟨_,_,_,_,rfl,rfl,w8,(s0.trans (s1.trans (s2.trans (s4.trans (s5.trans (s6.trans (s7.trans s8))))))),((CR.empty:CR eI _ _ [] []).step s8)⟩
 ·refine lI w4 1 ?_
  refine lSl w4 1 ?_
  obtain ⟨r9,e9,hp⟩:=af hp
  refine aM (bz.P rfl ⟨w4,(dl.step (s1.trans (s2.trans s4)))⟩ e9) ?_
  rintro _ H10 ⟨o0a_10,o0n_10,o0c_10,o0k_10,rfl,rfl,w10,s10,f10_0⟩
  refine br ?_
  refine kr (W.cons_of (Rn:=[_]) w4 w10 s10) ?_
  refine au w10 1 λH12 w12 s12=>?_
  refine au w12 1 λH13 w13 s13=>?_
  refine lI w13 1 ?_
  refine lSl w13 1 ?_
  obtain ⟨w14,s14⟩:=w13.pp [0] 3
  exact ay hp ⟨_,_,_,_,rfl,rfl,w14,(s0.trans (s1.trans (s2.trans (s4.trans (s10.trans (s12.trans (s13.trans s14))))))),(f10_0.step (s12.trans (s13.trans s14)))⟩
def cU.Q (H0:Hp) (Ri R0:By)  (r:BS) (v:AV) (H':Hp):Prop:=∃ o1a:ON,∃ o1n:Nat,∃ o1c:Cap,∃ o1k:List AV,v=(.agg [(.i r.1),(.sl ⟨o1a,o1n,o1c⟩)])/\o1n=(r.2).length/\Out H0 Ri H' (Rs.own ⟨o1a,o1n,o1c⟩ eI.z o1k::R0) λR=>CR eI H' R o1k (r.2)
def cU.p (F:Nat) (aa:Int) (aV:Bv):Option (Int×List Int):=(apn ([]:List Int) aV).bind λl5=>some (aa,l5)
theorem cU.P {aa cF bU cG aV} (dD:bU=aV.length) (h0:Inn H R0 λR=>ROs eI H R ⟨cF,bU,cG⟩ aV) {r:BS} (hp:cU.p F aa aV=some r):Rt (cU.tw F aa ⟨cF,bU,cG⟩ H) (cU.Q H R0 R0  r):=by
 obtain ⟨w0,dl⟩:=h0
 subst dD
 unfold cU.p at hp
 unfold cU.tw cU.twX
 have s0:=w0.rf
 refine bM w0 λH1 w1 s1=>?_
 refine bM w1 λH2 w2 s2=>?_
 refine lI w2 1 ?_
 refine fb eI w2 (n:=0) (l:=([]:List Int)) rfl CR.empty rfl λH3 w3 s3 c3=>?_
 refine lSl w3 2 ?_
 obtain ⟨x4,h4,c4⟩:=(dl.step (s1.trans (s2.trans s3))).row rfl
 refine aj h4 ?_
 obtain ⟨l5,e5,hp⟩:=af hp
 refine fD eI w3 (i:=0) rfl rfl c3 c4 rfl rfl e5 λa6 d6 H6 w6 s6 c6 x6=>?_
 refine kr (x6 ⟨_,rfl⟩) ?_
 refine au w6 1 λH8 w8 s8=>?_
 refine au w8 1 λH9 w9 s9=>?_
 refine lI w9 1 ?_
 refine lSl w9 1 ?_
 obtain ⟨w10,s10⟩:=w9.pp [0] 3
 exact ay hp ⟨_,_,_,_,rfl,rfl,w10,(s0.trans (s1.trans (s2.trans (s3.trans (s6.trans (s8.trans (s9.trans s10))))))),(c6.step (s8.trans (s9.trans s10)))⟩
def cP.Q (H0:Hp) (Ri R0:By)  (r:BP) (v:AV) (H':Hp):Prop:=∃ o1a:ON,∃ o1n:Nat,∃ o1c:Cap,∃ o1k:List AV,v=(.tup [(.agg [(.i r.1),(.sl ⟨o1a,o1n,o1c⟩)]),(.i r.2.2)])/\o1n=(r.2.1).length/\Out H0 Ri H' (Rs.own ⟨o1a,o1n,o1c⟩ eI.z o1k::R0) λR=>CR eI H' R o1k (r.2.1)
def cP.p (F:Nat) (aa:Int) (aV:Bv) (ak:Int) (dg:Bv):Option (Int×List Int×Int):=(aB.p F aa aV).bind λr4=>(bif (!r4) then (some (0,([]:List Int),1)) else ((aB.p F ak dg).bind λr10=>(bif (!r10) then (some (0,([]:List Int),1)) else ((bif (aa != ak) then (some (0,([]:List Int),1)) else ((bif (decide ((wrap .i64 ((aV.length:Int)+(dg.length:Int)))>24)) then (some (0,([]:List Int),3)) else ((cU.p F aa aV).bind λr24=>(apn r24.2 dg).bind λl30=>some (r24.1,l30,0)))))))))
theorem cP.P {aa ak cF hU bU fC cG hY aV dg} (dD:bU=aV.length) (lL:fC=dg.length) (h0:Inn H R0 λR=>ROs eI H R ⟨cF,bU,cG⟩ aV/\ROs eI H R ⟨hU,fC,hY⟩ dg) {r:BP} (hp:cP.p F aa aV ak dg=some r):Rt (cP.tw F aa ⟨cF,bU,cG⟩ ak ⟨hU,fC,hY⟩ H) (cP.Q H R0 R0  r):=by
 obtain ⟨w0,dl,iT⟩:=h0
 subst dD
 subst lL
 unfold cP.p at hp
 unfold cP.tw cP.twX
 have s0:=w0.rf
 refine bM w0 λH1 w1 s1=>?_
 refine bM w1 λH2 w2 s2=>?_
 refine bM w2 λH3 w3 s3=>?_
 refine lI w3 2 ?_
 refine lSl w3 2 ?_
 obtain ⟨r4,e4,hp⟩:=af hp
 refine aM (aB.P rfl ⟨w3,(dl.step (s1.trans (s2.trans s3)))⟩ e4) ?_
 rintro _ H5 ⟨rfl,w5,s5,_⟩
 refine br ?_
 refine aC hp (λhp=>?_) λhp=>?_
 ·refine au w5 0 λH6 w6 s6=>?_
  refine au w6 0 λH7 w7 s7=>?_
  refine lI w7 0 ?_
  refine lSl w7 0 ?_
  obtain ⟨w8,s8⟩:=w7.nilS eI.z (by decide)
  obtain ⟨w9,s9⟩:=w8.pp [0] 4
  exact ay hp ⟨_,_,_,_,rfl,rfl,w9,(s0.trans (s1.trans (s2.trans (s3.trans (s5.trans (s6.trans (s7.trans (s8.trans s9)))))))),((CR.empty:CR eI _ _ [] []).step s9)⟩
 ·refine lI w5 1 ?_
  refine lSl w5 1 ?_
  obtain ⟨r10,e10,hp⟩:=af hp
  refine aM (aB.P rfl ⟨w5,(iT.step (s1.trans (s2.trans (s3.trans s5))))⟩ e10) ?_
  rintro _ H11 ⟨rfl,w11,s11,_⟩
  refine br ?_
  refine aC hp (λhp=>?_) λhp=>?_
  ·refine au w11 0 λH12 w12 s12=>?_
   refine au w12 0 λH13 w13 s13=>?_
   refine lI w13 0 ?_
   refine lSl w13 0 ?_
   obtain ⟨w14,s14⟩:=w13.nilS eI.z (by decide)
   obtain ⟨w15,s15⟩:=w14.pp [0] 4
   exact ay hp ⟨_,_,_,_,rfl,rfl,w15,(s0.trans (s1.trans (s2.trans (s3.trans (s5.trans (s11.trans (s12.trans (s13.trans (s14.trans s15))))))))),((CR.empty:CR eI _ _ [] []).step s15)⟩
  ·refine lI w11 2 ?_
   refine lI w11 1 ?_
   refine aC hp (λhp=>?_) λhp=>?_
   ·refine au w11 0 λH16 w16 s16=>?_
    refine au w16 0 λH17 w17 s17=>?_
    refine lI w17 0 ?_
    refine lSl w17 0 ?_
    obtain ⟨w18,s18⟩:=w17.nilS eI.z (by decide)
    obtain ⟨w19,s19⟩:=w18.pp [0] 4
    exact ay hp ⟨_,_,_,_,rfl,rfl,w19,(s0.trans (s1.trans (s2.trans (s3.trans (s5.trans (s11.trans (s16.trans (s17.trans (s18.trans s19))))))))),((CR.empty:CR eI _ _ [] []).step s19)⟩
   ·refine lSl w11 2 ?_
    refine lSl w11 1 ?_
    refine aC hp (λhp=>?_) λhp=>?_
    ·refine au w11 0 λH20 w20 s20=>?_
     refine au w20 0 λH21 w21 s21=>?_
     refine lI w21 0 ?_
     refine lSl w21 0 ?_
     obtain ⟨w22,s22⟩:=w21.nilS eI.z (by decide)
     obtain ⟨w23,s23⟩:=w22.pp [0] 4
     exact ay hp ⟨_,_,_,_,rfl,rfl,w23,(s0.trans (s1.trans (s2.trans (s3.trans (s5.trans (s11.trans (s20.trans (s21.trans (s22.trans s23))))))))),((CR.empty:CR eI _ _ [] []).step s23)⟩
    ·refine lI w11 2 ?_
     refine lSl w11 2 ?_
     obtain ⟨r24,e24,hp⟩:=af hp
     refine aM (cU.P rfl ⟨w11,(dl.step (s1.trans (s2.trans (s3.trans (s5.trans s11)))))⟩ e24) ?_
     rintro _ H25 ⟨o1a_25,o1n_25,o1c_25,o1k_25,rfl,rfl,w25,s25,f25_0⟩
     refine br (br (br (br (br ?_))))
     refine bM w25 λH26 w26 s26=>?_
     refine au w26 0 λH27 w27 s27=>?_
     refine au w27 0 λH28 w28 s28=>?_
     refine lSl w28 0 ?_
     refine lSl w28 3 ?_
     obtain ⟨x29,h29,c29⟩:=(iT.step (s1.trans (s2.trans (s3.trans (s5.trans (s11.trans (s25.trans (s26.trans (s27.trans s28))))))))).row rfl
     refine aj h29 ?_
     obtain ⟨l30,e30,hp⟩:=af hp
     refine fD eI w28 (i:=1) rfl rfl (f25_0.step (s26.trans (s27.trans s28))) c29 rfl rfl e30 λa31 d31 H31 w31 s31 c31 x31=>?_
     refine au w31 0 λH32 w32 s32=>?_
     refine lI w32 0 ?_
     refine lSl w32 0 ?_
     refine au w32 2 λH33 w33 s33=>?_
     refine au w33 2 λH34 w34 s34=>?_
     refine lI w34 2 ?_
     refine lSl w34 2 ?_
     obtain ⟨w35,s35⟩:=w34.pp [1] 5
     exact ay hp ⟨_,_,_,_,rfl,rfl,w35,(s0.trans (s1.trans (s2.trans (s3.trans (s5.trans (s11.trans (s25.trans (s26.trans (s27.trans (s28.trans (s31.trans (s32.trans (s33.trans (s34.trans s35)))))))))))))),(c31.step (s32.trans (s33.trans (s34.trans s35))))⟩
def bJ.Q (H0:Hp) (Ri R0:By)  (r:Int×List Int×Bool) (v:AV) (H':Hp):Prop:=∃ o1a:ON,∃ o1n:Nat,∃ o1c:Cap,∃ o1k:List AV,v=(.tup [(.agg [(.i r.1),(.sl ⟨o1a,o1n,o1c⟩)]),(.bool r.2.2)])/\o1n=(r.2.1).length/\Out H0 Ri H' (Rs.own ⟨o1a,o1n,o1c⟩ eI.z o1k::R0) λR=>CR eI H' R o1k (r.2.1)
def bJ.p (F:Nat) (aa:Int) (aV:Bv) (ak:Int) (dg:Bv):Option (Int×List Int×Bool):=(cP.p F aa aV ak dg).bind λr4=>some (r4.1,r4.2.1,(r4.2.2==0))
theorem bJ.P {aa ak cF hU bU fC cG hY aV dg} (dD:bU=aV.length) (lL:fC=dg.length) (h0:Inn H R0 λR=>ROs eI H R ⟨cF,bU,cG⟩ aV/\ROs eI H R ⟨hU,fC,hY⟩ dg) {r:Int×List Int×Bool} (hp:bJ.p F aa aV ak dg=some r):Rt (bJ.tw F aa ⟨cF,bU,cG⟩ ak ⟨hU,fC,hY⟩ H) (bJ.Q H R0 R0  r):=by
 obtain ⟨w0,dl,iT⟩:=h0
 subst dD
 subst lL
 unfold bJ.p at hp
 unfold bJ.tw bJ.twX
 have s0:=w0.rf
 refine bM w0 λH1 w1 s1=>?_
 refine bM w1 λH2 w2 s2=>?_
 refine bM w2 λH3 w3 s3=>?_
 refine lI w3 2 ?_
 refine lSl w3 2 ?_
 refine lI w3 1 ?_
 refine lSl w3 1 ?_
 obtain ⟨r4,e4,hp⟩:=af hp
 refine aM (cP.P rfl rfl ⟨w3,(dl.step (s1.trans (s2.trans s3))),(iT.step (s1.trans (s2.trans s3)))⟩ e4) ?_
 rintro _ H5 ⟨o1a_5,o1n_5,o1c_5,o1k_5,rfl,rfl,w5,s5,f5_0⟩
 refine br (br (br (br (br (br (br (br (br ?_))))))))
 refine bM w5 λH6 w6 s6=>?_
 refine au w6 0 λH7 w7 s7=>?_
 refine au w7 0 λH8 w8 s8=>?_
 refine lI w8 0 ?_
 refine lSl w8 0 ?_
 refine au w8 2 λH9 w9 s9=>?_
 refine au w9 2 λH10 w10 s10=>?_
 refine lI w10 2 ?_
 refine lSl w10 2 ?_
 obtain ⟨w11,s11⟩:=w10.pp [1] 5
 exact ay hp ⟨_,_,_,_,rfl,rfl,w11,(s0.trans (s1.trans (s2.trans (s3.trans (s5.trans (s6.trans (s7.trans (s8.trans (s9.trans (s10.trans s11)))))))))),(f5_0.step (s6.trans (s7.trans (s8.trans (s9.trans (s10.trans s11))))))⟩
def a_.Q (H0:Hp) (Ri R0:By)  (r:Bool) (v:AV) (H':Hp):Prop:=v=(.bool r)/\Out H0 Ri H' (R0) λR=>True
def a_.S29 (H0:Hp) (Ri R0:By)  (C:BZ) (pC:List (List Int)->List (List Int)->Int->Int->Option (Bool)):Prop:=∀ {iQ qk gC nB iR ql cK hZ fy d_},∀ {H:Hp},gC=cK.length->nB=hZ.length->(Out H0 Ri H R0 λR=>ROs (eSl eI) H R ⟨iQ,gC,iR⟩ cK/\ROs (eSl eI) H R ⟨qk,nB,ql⟩ hZ)->∀ {r:Bool},pC cK hZ fy d_=some r->Rt (C ⟨iQ,gC,iR⟩ ⟨qk,nB,ql⟩ fy d_ H) (a_.Q H0 Ri R0  r)
def a_.pl29 (F:Nat) :Nat->List (List Int)->List (List Int)->Int->Int->Option (Bool)
 | 0,_,_,_,_=>none
 | k+1,cK,hZ,fy,d_=>(bif (decide (d_<fy)) then ((ix hZ d_).bind λn1=>(ix cK d_).bind λn2=>(aL.p F (gt hZ n1) (gt cK n2)).bind λr3=>(bif (!r3) then (some false) else (a_.pl29 F k cK hZ fy (wrap .i64 (d_+1))))) else (some true))
theorem a_.l29_P  :∀ k,a_.S29 H0 Ri R0  (a_.l29 F (aL.tw F)  k) (a_.pl29 F  k):=by
 intro k
 induction k with
 | zero=>unfold a_.S29;intros;rename_i hp;cases hp
 | succ k ih=>
  intro iQ qk gC nB iR ql cK hZ fy d_ H lG yp h0 r hp
  obtain ⟨w0,s0,hR,tP⟩:=h0
  subst lG
  subst yp
  unfold a_.pl29 at hp
  unfold a_.l29
  refine aC hp (λhp=>?_) λhp=>?_
  ·obtain ⟨n1,g1,hp⟩:=af hp
   obtain ⟨p1,q1,i1,h1,j1⟩:=ROs.ixr tP rfl g1
   refine aj i1 ?_
   obtain ⟨⟨AS,m1_0,c1_0⟩,rfl,f1_0⟩:=h1
   obtain rfl:m1_0=_:=f1_0.n
   refine aj (c_ (j1 0 _ rfl)) ?_
   obtain ⟨n2,g2,hp⟩:=af hp
   obtain ⟨p2,q2,i2,h2,j2⟩:=ROs.ixr hR rfl g2
   refine aj i2 ?_
   obtain ⟨⟨yq,m2_0,c2_0⟩,rfl,f2_0⟩:=h2
   obtain rfl:m2_0=_:=f2_0.n
   refine aj (c_ (j2 0 _ rfl)) ?_
   obtain ⟨r3,e3,hp⟩:=af hp
   refine aM (aL.P rfl rfl ⟨w0,f1_0,f2_0⟩ e3) ?_
   rintro _ H4 ⟨rfl,w4,s4,_⟩
   refine br ?_
   refine aC hp (λhp=>?_) λhp=>?_
   ·exact ay hp ⟨rfl,w4,(s0.trans s4),trivial⟩
   ·exact ih rfl rfl ⟨w4,(s0.trans s4),(hR.step s4),(tP.step s4)⟩ hp
  ·exact ay hp ⟨rfl,w0,s0,trivial⟩
def a_.p (F:Nat) (ai:BR) (dp:BR):Option (Bool):=(bif ((ai.length:Int) != (dp.length:Int)) then (some false) else (a_.pl29 F F dp ai (ai.length:Int) 0))
theorem a_.P {aJ eW ax dM aK eX ai dp} (bQ:ax=ai.length) (lH:dM=dp.length) (h0:Inn H R0 λR=>ROs (eSl eI) H R ⟨aJ,ax,aK⟩ ai/\ROs (eSl eI) H R ⟨eW,dM,eX⟩ dp) {r:Bool} (hp:a_.p F ai dp=some r):Rt (a_.tw F ⟨aJ,ax,aK⟩ ⟨eW,dM,eX⟩ H) (a_.Q H R0 R0  r):=by
 obtain ⟨w0,bG,lJ⟩:=h0
 subst bQ
 subst lH
 unfold a_.p at hp
 unfold a_.tw a_.twX
 have s0:=w0.rf
 refine aC hp (λhp=>?_) λhp=>?_
 ·exact ay hp ⟨rfl,w0,s0,trivial⟩
 ·exact a_.l29_P F rfl rfl ⟨w0,s0,lJ,bG⟩ hp
def bN.Q (H0:Hp) (Ri R0:By)  (r:Bool) (v:AV) (H':Hp):Prop:=v=(.bool r)/\Out H0 Ri H' (R0) λR=>True
def bN.p (F:Nat) (aa:Int) (aV:Bv) (ak:Int) (dg:Bv):Option (Bool):=(ce.p F aa aV).bind λr3=>(bif (!r3) then (some false) else ((ce.p F ak dg).bind λr6=>(bif (!r6) then (some false) else ((bif (aa != ak) then (some false) else ((bp.p F aa aV).bind λr10=>(bp.p F ak dg).bind λr13=>(bif (r10.1==r13.1) then ((a_.p F r10.2 r13.2).bind λr25=>some r25) else (some false))))))))
theorem bN.P {aa ak cF hU bU fC cG hY aV dg} (dD:bU=aV.length) (lL:fC=dg.length) (h0:Inn H R0 λR=>ROs eI H R ⟨cF,bU,cG⟩ aV/\ROs eI H R ⟨hU,fC,hY⟩ dg) {r:Bool} (hp:bN.p F aa aV ak dg=some r):Rt (bN.tw F aa ⟨cF,bU,cG⟩ ak ⟨hU,fC,hY⟩ H) (bN.Q H R0 R0  r):=by
 obtain ⟨w0,dl,iT⟩:=h0
 subst dD
 subst lL
 unfold bN.p at hp
 unfold bN.tw bN.twX
 have s0:=w0.rf
 refine bM w0 λH1 w1 s1=>?_
 refine bM w1 λH2 w2 s2=>?_
 refine lI w2 1 ?_
 refine lSl w2 1 ?_
 obtain ⟨r3,e3,hp⟩:=af hp
 refine aM (ce.P rfl ⟨w2,(dl.step (s1.trans s2))⟩ e3) ?_
 rintro _ H4 ⟨rfl,w4,s4,_⟩
 refine br ?_
 refine aC hp (λhp=>?_) λhp=>?_
 ·obtain ⟨w5,s5⟩:=w4.pp [] 2
  exact ay hp ⟨rfl,w5,(s0.trans (s1.trans (s2.trans (s4.trans s5)))),trivial⟩
 ·refine lI w4 0 ?_
  refine lSl w4 0 ?_
  obtain ⟨r6,e6,hp⟩:=af hp
  refine aM (ce.P rfl ⟨w4,(iT.step (s1.trans (s2.trans s4)))⟩ e6) ?_
  rintro _ H7 ⟨rfl,w7,s7,_⟩
  refine br ?_
  refine aC hp (λhp=>?_) λhp=>?_
  ·obtain ⟨w8,s8⟩:=w7.pp [] 2
   exact ay hp ⟨rfl,w8,(s0.trans (s1.trans (s2.trans (s4.trans (s7.trans s8))))),trivial⟩
  ·refine lI w7 1 ?_
   refine lI w7 0 ?_
   refine aC hp (λhp=>?_) λhp=>?_
   ·obtain ⟨w9,s9⟩:=w7.pp [] 2
    exact ay hp ⟨rfl,w9,(s0.trans (s1.trans (s2.trans (s4.trans (s7.trans s9))))),trivial⟩
   ·refine lI w7 1 ?_
    refine lSl w7 1 ?_
    obtain ⟨r10,e10,hp⟩:=af hp
    refine aM (bp.P rfl ⟨w7,(dl.step (s1.trans (s2.trans (s4.trans s7))))⟩ e10) ?_
    rintro _ H11 ⟨o1a_11,o1n_11,o1c_11,o1k_11,o1m_11,rfl,rfl,w11,s11,f11_0⟩
    refine br (br (br (br (br ?_))))
    refine kr (W.cons_of (Rn:=[_,_]) w7 w11 s11) ?_
    refine lI w11 2 ?_
    refine lSl w11 2 ?_
    obtain ⟨r13,e13,hp⟩:=af hp
    refine aM (bp.P rfl ⟨w11,(iT.step (s1.trans (s2.trans (s4.trans (s7.trans s11)))))⟩ e13) ?_
    rintro _ H14 ⟨o1a_14,o1n_14,o1c_14,o1k_14,o1m_14,rfl,rfl,w14,s14,f14_0⟩
    refine br (br (br (br (br ?_))))
    refine kr (W.cons_of (Rn:=[_,_]) w11 w14 s14) ?_
    refine bM w14 λH16 w16 s16=>?_
    refine bM w16 λH17 w17 s17=>?_
    refine au w17 1 λH18 w18 s18=>?_
    refine au w18 1 λH19 w19 s19=>?_
    refine au w19 0 λH20 w20 s20=>?_
    refine au w20 0 λH21 w21 s21=>?_
    refine lI w21 1 ?_
    refine lI w21 0 ?_
    refine aC hp (λhp=>?_) λhp=>?_
    ·refine lSl w21 1 ?_
     refine lSl w21 0 ?_
     obtain ⟨w22,s22⟩:=w21.pp [4,5,2,3,0,1,6,7] 8
     dsimp only [pk,pks,nth,List.drop,List.set,List.eraseIdx] at w22 s18 s19 s20 s21 s22
     have f23:ROs (eSl eI) _ _ _ _:=W.borrow2 (oSl (bO eI)) w22 f11_0
     obtain ⟨w23,s23⟩:=w22.right2
     have f24:ROs (eSl eI) _ _ _ _:=W.borrow2 (oSl (bO eI)) w23 f14_0
     obtain ⟨w24,s24⟩:=w23.right2
     obtain ⟨r25,e25,hp⟩:=af hp
     refine aM (a_.P rfl rfl ⟨w24,(f23.step s24),f24⟩ e25) ?_
     rintro _ H26 ⟨rfl,w26,s26,_⟩
     obtain ⟨w27,s27⟩:=W.frame2 w23 w26 s26
     obtain ⟨w28,s28⟩:=W.frame2 w22 w27 s27
     refine br ?_
     obtain ⟨w29,s29⟩:=w28.pp [] 8
     exact ay hp ⟨rfl,w29,(s0.trans (s1.trans (s2.trans (s4.trans (s7.trans (s11.trans (s14.trans (s16.trans (s17.trans (s18.trans (s19.trans (s20.trans (s21.trans (s22.trans (s28.trans s29))))))))))))))),trivial⟩
    ·obtain ⟨w30,s30⟩:=w21.pp [] 8
     exact ay hp ⟨rfl,w30,(s0.trans (s1.trans (s2.trans (s4.trans (s7.trans (s11.trans (s14.trans (s16.trans (s17.trans (s18.trans (s19.trans (s20.trans (s21.trans s30))))))))))))),trivial⟩
def ae.Q (H0:Hp) (Ri R0:By)  (r:Bool) (v:AV) (H':Hp):Prop:=v=(.bool r)/\Out H0 Ri H' (R0) λR=>True
def ae.S509 (H0:Hp) (Ri R0:By)  (C:Nat->Nat->Nat->Nat->Sl->Int->Hp->OA) (pC:Int->List Int->Int->List (List Int)->List Int->Int->Option (Bool)):Prop:=∀ {kj kl ed qm qn qo nC gW nD gX nE qp qq qs iU iV qt qu qv iW qw},∀ {H:Hp},nC=iU.length->nD=iW.length->nE=iV.length->(Out H0 Ri H (Rs.own ⟨qm,nC,qp⟩ eI.z qt::Rs.blk gW [.i kj,.sl ⟨qm,nC,qp⟩]::Rs.own ⟨qn,nD,qq⟩ (eSl eI).z qu::Rs.many qw::Rs.blk gX [.i kl,.sl ⟨qn,nD,qq⟩]::Rs.own ⟨qo,nE,qs⟩ eI.z qv::R0) λR=>CR eI H R qt iU/\OL (oSl (bO eI)) qw qu iW/\CR eI H R qv iV)->∀ {r:Bool},pC kj iU kl iW iV ed=some r->Rt (C gW 0 gX 0 ⟨qo,nE,qs⟩ ed H) (ae.Q H0 Ri R0  r)
def ae.S32765 (H0:Hp) (Ri R0:By)  (C:Nat->Nat->Nat->Nat->Nat->Nat->Nat->Nat->Nat->Nat->Bool->Int->Hp->OA) (pC:Int->List Int->Int->List (List Int)->Int->List Int->Int->List Int->Int->List Int->Bool->Int->Option (Bool)):Prop:=∀ {iX h_ kn iY iZ fA qx qy qz qA qB nF gk nG fJ nH gm nJ eL nK gr qC qD qE qF qG ia i_ ib ic qH qI qJ qK qL ig qM eM},∀ {H:Hp},nF=ia.length->nG=ig.length->nH=i_.length->nJ=ib.length->nK=ic.length->(Out H0 Ri H (Rs.own ⟨qx,nF,qC⟩ eI.z qH::Rs.blk gk [.i iX,.sl ⟨qx,nF,qC⟩]::Rs.own ⟨qy,nG,qD⟩ (eSl eI).z qI::Rs.many qM::Rs.blk fJ [.i h_,.sl ⟨qy,nG,qD⟩]::Rs.own ⟨qz,nH,qE⟩ eI.z qJ::Rs.blk gm [.i kn,.sl ⟨qz,nH,qE⟩]::Rs.own ⟨qA,nJ,qF⟩ eI.z qK::Rs.blk eL [.i iY,.sl ⟨qA,nJ,qF⟩]::Rs.own ⟨qB,nK,qG⟩ eI.z qL::Rs.blk gr [.i iZ,.sl ⟨qB,nK,qG⟩]::R0) λR=>CR eI H R qH ia/\OL (oSl (bO eI)) qM qI ig/\CR eI H R qJ i_/\CR eI H R qK ib/\CR eI H R qL ic)->∀ {r:Bool},pC iX ia h_ ig kn i_ iY ib iZ ic eM fA=some r->Rt (C gk 0 fJ 0 gm 0 eL 0 gr 0 eM fA H) (ae.Q H0 Ri R0  r)
def ae.S65533 (H0:Hp) (Ri R0:By)  (C:Nat->Nat->Nat->Nat->Nat->Nat->Nat->Nat->Bool->Int->Hp->OA) (pC:Int->List Int->List (List Int)->Int->List Int->Int->List Int->Bool->Int->Option (Bool)):Prop:=∀ {ja tQ jb ko fz qN qO qP qQ nL gg nO gh nP eJ nQ gj qR qS qT qU ii ij jc qV qW qX qY ik qZ eK},∀ {H:Hp},nL=ii.length->nO=ik.length->nP=ij.length->nQ=jc.length->(Out H0 Ri H (Rs.own ⟨qN,nL,qR⟩ eI.z qV::Rs.blk gg [.i ja,.sl ⟨qN,nL,qR⟩]::Rs.own ⟨qO,nO,qS⟩ (eSl eI).z qW::Rs.many qZ::Rs.blk gh [.i tQ,.sl ⟨qO,nO,qS⟩]::Rs.own ⟨qP,nP,qT⟩ eI.z qX::Rs.blk eJ [.i jb,.sl ⟨qP,nP,qT⟩]::Rs.own ⟨qQ,nQ,qU⟩ eI.z qY::Rs.blk gj [.i ko,.sl ⟨qQ,nQ,qU⟩]::R0) λR=>CR eI H R qV ii/\OL (oSl (bO eI)) qZ qW ik/\CR eI H R qX ij/\CR eI H R qY jc)->∀ {r:Bool},pC ja ii ik jb ij ko jc eK fz=some r->Rt (C gg 0 gh 0 eJ 0 gj 0 eK fz H) (ae.Q H0 Ri R0  r)
def ae.S131069 (H0:Hp) (Ri R0:By)  (C:Nat->Nat->Nat->Nat->Nat->Nat->Bool->Int->Hp->OA) (pC:Int->List Int->List (List Int)->Int->List Int->Bool->Int->Option (Bool)):Prop:=∀ {jd tR je eH q_ rc rh nR fZ nS f_ nT eF ri rj rk il im rl rm gF eG},∀ {H:Hp},nR=il.length->nS=gF.length->nT=im.length->(Out H0 Ri H (Rs.own ⟨q_,nR,ri⟩ eI.z rl::Rs.blk fZ [.i jd,.sl ⟨q_,nR,ri⟩]::Rs.blk f_ [.i tR,.sl ⟨rc,nS,rj⟩]::Rs.own ⟨rh,nT,rk⟩ eI.z rm::Rs.blk eF [.i je,.sl ⟨rh,nT,rk⟩]::R0) λR=>CR eI H R rl il/\ROs (eSl eI) H R ⟨rc,nS,rj⟩ gF/\CR eI H R rm im)->∀ {r:Bool},pC jd il gF je im eG eH=some r->Rt (C fZ 0 f_ 0 eF 0 eG eH H) (ae.Q H0 Ri R0  r)
def ae.pj1 (F:Nat)  (nU:Int) (lM:Bv) (nV:Int) (lN:Bv) (jY:Bool):Option (Bool):=(bif (!jY) then (some true) else ((bN.p F nV lN nU lM).bind λr5=>some r5))
theorem ae.j1_P   {nU nV tS tT rn kS rp kT tU tV lM lN tW tX jY} (yr:rn=lM.length) (ys:rp=lN.length) (h0:Out H0 Ri H (Rs.own ⟨tS,rn,tU⟩ eI.z tW::Rs.blk kS [.i nU,.sl ⟨tS,rn,tU⟩]::Rs.own ⟨tT,rp,tV⟩ eI.z tX::Rs.blk kT [.i nV,.sl ⟨tT,rp,tV⟩]::R0) λR=>CR eI H R tW lM/\CR eI H R tX lN) {r:Bool} (hp:ae.pj1 F  nU lM nV lN jY=some r):Rt (ae.j1 F (cp.tw F) (bW.tw F) (bX.tw F) (aB.tw F) (aP.tw F) (bP.tw F) (bJ.tw F) (bN.tw F)  kS 0 kT 0 jY H) (ae.Q H0 Ri R0  r):=by
 obtain ⟨w0,s0,yt,yu⟩:=h0
 subst yr
 subst ys
 unfold ae.pj1 at hp
 unfold ae.j1
 refine aC hp (λhp=>?_) λhp=>?_
 ·obtain ⟨w1,s1⟩:=w0.pp [] 4
  exact ay hp ⟨rfl,w1,(s0.trans s1),trivial⟩
 ·refine lI w0 3 ?_
  refine lSl w0 3 ?_
  refine lI w0 1 ?_
  refine lSl w0 1 ?_
  obtain ⟨w2,s2⟩:=w0.pp [2,0,1,3] 4
  have f3:=W.borrow1 eI w2 (yu.step s2)
  obtain ⟨w3,s3⟩:=w2.right1
  have f4:=W.borrow1 eI w3 ((yt.step s2).step s3)
  obtain ⟨w4,s4⟩:=w3.right1
  obtain ⟨r5,e5,hp⟩:=af hp
  refine aM (bN.P rfl rfl ⟨w4,(f3.step s4),f4⟩ e5) ?_
  rintro _ H6 ⟨rfl,w6,s6,_⟩
  obtain ⟨w7,s7⟩:=W.frame1 w3 w6 s6
  obtain ⟨w8,s8⟩:=W.frame1 w2 w7 s7
  refine br ?_
  obtain ⟨w9,s9⟩:=w8.pp [] 4
  exact ay hp ⟨rfl,w9,(s0.trans (s2.trans (s8.trans s9))),trivial⟩
def ae.pl131069 (F:Nat) :Nat->Int->List Int->List (List Int)->Int->List Int->Bool->Int->Option (Bool)
 | 0,_,_,_,_,_,_,_=>none
 | k+1,jd,il,gF,je,im,eG,eH=>(bif (decide (eH<(gF.length:Int))) then ((bif eG then ((ix gF eH).bind λn2=>(apn ([]:List Int) (gt gF n2)).bind λl4=>(aP.p F l4).bind λr7=>(bif (r7.2.2 != 0) then (some false) else ((bJ.p F je im r7.1 r7.2.1).bind λr17=>ae.pl131069 F k jd il gF r17.1 r17.2.1 r17.2.2 (wrap .i64 (eH+1))))) else (ae.pj1 F jd il je im eG))) else (ae.pj1 F jd il je im eG))
theorem ae.l131069_P  :∀ k,ae.S131069 H0 Ri R0  (ae.l131069 F (cp.tw F) (bW.tw F) (bX.tw F) (aB.tw F) (aP.tw F) (bP.tw F) (bJ.tw F) (bN.tw F)  k) (ae.pl131069 F  k):=by
 intro k
 induction k with
 | zero=>unfold ae.S131069;intros;rename_i hp;cases hp
 | succ k ih=>
  intro jd tR je eH q_ rc rh nR fZ nS f_ nT eF ri rj rk il im rl rm gF eG H yv yw yx h0 r hp
  obtain ⟨w0,s0,rq,tY,ru⟩:=h0
  subst yv
  subst yw
  subst yx
  unfold ae.pl131069 at hp
  unfold ae.l131069
  refine lSl w0 2 ?_
  refine aC hp (λhp=>?_) λhp=>?_
  ·refine aC hp (λhp=>?_) λhp=>?_
   ·refine fb eI w0 (n:=0) (l:=([]:List Int)) rfl CR.empty rfl λH1 w1 s1 c1=>?_
    refine lSl w1 3 ?_
    obtain ⟨n2,g2,hp⟩:=af hp
    obtain ⟨p2,q2,i2,h2,j2⟩:=ROs.ixr (tY.step s1) rfl g2
    refine aj i2 ?_
    obtain ⟨⟨yq,m2_0,c2_0⟩,rfl,f2_0⟩:=h2
    obtain rfl:m2_0=_:=f2_0.n
    refine aj (c_ (j2 0 _ rfl)) ?_
    obtain ⟨x3,h3,c3⟩:=f2_0.row rfl
    refine aj h3 ?_
    obtain ⟨l4,e4,hp⟩:=af hp
    refine fD eI w1 (i:=0) rfl rfl c1 c3 rfl rfl e4 λa5 d5 H5 w5 s5 c5 x5=>?_
    have f6:=W.borrow1 eI w5 c5
    obtain ⟨w6,s6⟩:=w5.right1
    obtain ⟨r7,e7,hp⟩:=af hp
    refine aM (aP.P rfl ⟨w6,f6⟩ e7) ?_
    rintro _ H8 ⟨o1a_8,o1n_8,o1c_8,o1k_8,rfl,rfl,w8,s8,f8_0⟩
    obtain ⟨w9,s9⟩:=W.frame1 w5 w8 s8
    refine br (br (br (br (br (br (br (br (br ?_))))))))
    refine bM w9 λH10 w10 s10=>?_
    refine au w10 0 λH11 w11 s11=>?_
    refine au w11 0 λH12 w12 s12=>?_
    refine aC hp (λhp=>?_) λhp=>?_
    ·obtain ⟨w13,s13⟩:=w12.pp [] 8
     exact ay hp ⟨rfl,w13,(s0.trans (s1.trans (s5.trans (s9.trans (s10.trans (s11.trans (s12.trans s13))))))),trivial⟩
    ·refine lI w12 7 ?_
     refine lSl w12 7 ?_
     refine lI w12 0 ?_
     refine lSl w12 0 ?_
     obtain ⟨w14,s14⟩:=w12.pp [6,2,0,1,3,4,5,7] 8
     have f15:=W.borrow1 eI w14 (ru.step (s1.trans (s5.trans (s9.trans (s10.trans (s11.trans (s12.trans s14)))))))
     obtain ⟨w15,s15⟩:=w14.right1
     have f16:=W.borrow1 eI w15 (((CR.flat (fO .i64) f8_0).step (s10.trans (s11.trans (s12.trans s14)))).step s15)
     obtain ⟨w16,s16⟩:=w15.right1
     obtain ⟨r17,e17,hp⟩:=af hp
     refine aM (bJ.P rfl rfl ⟨w16,(f15.step s16),f16⟩ e17) ?_
     rintro _ H18 ⟨o1a_18,o1n_18,o1c_18,o1k_18,rfl,rfl,w18,s18,f18_0⟩
     obtain ⟨w19,s19⟩:=W.frame1 w15 w18 s18
     obtain ⟨w20,s20⟩:=W.frame1 w14 w19 s19
     refine br (br (br (br (br (br (br (br (br ?_))))))))
     refine au w20 8 λH21 w21 s21=>?_
     refine au w21 8 λH22 w22 s22=>?_
     obtain ⟨w23,s23⟩:=w22.pp [5,6,7,2,8] 9
     exact ih rfl rfl rfl ⟨w23,(s0.trans (s1.trans (s5.trans (s9.trans (s10.trans (s11.trans (s12.trans (s14.trans (s20.trans (s21.trans (s22.trans s23))))))))))),(rq.step (s1.trans (s5.trans (s9.trans (s10.trans (s11.trans (s12.trans (s14.trans (s20.trans (s21.trans (s22.trans s23))))))))))),(tY.step (s1.trans (s5.trans (s9.trans (s10.trans (s11.trans (s12.trans (s14.trans (s20.trans (s21.trans (s22.trans s23))))))))))),((CR.flat (fO .i64) f18_0).step (s21.trans (s22.trans s23)))⟩ hp
   ·obtain ⟨w24,s24⟩:=w0.pp [0,1,3,4] 5
    exact ae.j1_P rfl rfl ⟨w24,(s0.trans s24),(rq.step s24),(ru.step s24)⟩ hp
  ·obtain ⟨w25,s25⟩:=w0.pp [0,1,3,4] 5
   exact ae.j1_P rfl rfl ⟨w25,(s0.trans s25),(rq.step s25),(ru.step s25)⟩ hp
def ae.pj2 (F:Nat)  (nW:Int) (lO:Bv) (lP:BR) (nX:Int) (lQ:Bv) (jZ:Bool):Option (Bool):=ae.pl131069 F F nW lO lP nX lQ jZ 0
theorem ae.j2_P   {nW yy nX tZ t_ ua rx mR ry mS rz mT ub uc ud lO lQ ue uf ug lP uh jZ} (yz:rx=lO.length) (yA:ry=lP.length) (yB:rz=lQ.length) (h0:Out H0 Ri H (Rs.own ⟨tZ,rx,ub⟩ eI.z ue::Rs.blk mR [.i nW,.sl ⟨tZ,rx,ub⟩]::Rs.own ⟨t_,ry,uc⟩ (eSl eI).z uf::Rs.many uh::Rs.blk mS [.i yy,.sl ⟨t_,ry,uc⟩]::Rs.own ⟨ua,rz,ud⟩ eI.z ug::Rs.blk mT [.i nX,.sl ⟨ua,rz,ud⟩]::R0) λR=>CR eI H R ue lO/\OL (oSl (bO eI)) uh uf lP/\CR eI H R ug lQ) {r:Bool} (hp:ae.pj2 F  nW lO lP nX lQ jZ=some r):Rt (ae.j2 F (cp.tw F) (bW.tw F) (bX.tw F) (aB.tw F) (aP.tw F) (bP.tw F) (bJ.tw F) (bN.tw F)  mR 0 mS 0 mT 0 jZ H) (ae.Q H0 Ri R0  r):=by
 obtain ⟨w0,s0,yC,yD,yE⟩:=h0
 subst yz
 subst yA
 subst yB
 unfold ae.pj2 at hp
 unfold ae.j2
 obtain ⟨w1,s1⟩:=w0.pp [2,3,0,1,4,5,6] 7
 dsimp only [pk,pks,nth,List.drop,List.set,List.eraseIdx] at w1 s1
 have f2:ROs (eSl eI) _ _ _ _:=W.borrow2 (oSl (bO eI)) w1 yD
 obtain ⟨w2,s2⟩:=w1.right2
 exact ae.l131069_P F rfl rfl rfl ⟨w2,(s0.trans (s1.trans s2)),(yC.step (s1.trans s2)),f2,(yE.step (s1.trans s2))⟩ hp
def ae.pl65533 (F:Nat) :Nat->Int->List Int->List (List Int)->Int->List Int->Int->List Int->Bool->Int->Option (Bool)
 | 0,_,_,_,_,_,_,_,_,_=>none
 | k+1,ja,ii,ik,jb,ij,ko,jc,eK,fz=>(bif (decide (fz<0)) then ((bif eK then ((bJ.p F jb ij ko jc).bind λr4=>ae.pl65533 F k ja ii ik r4.1 r4.2.1 ko jc r4.2.2 (wrap .i64 (fz+1))) else (ae.pj2 F ja ii ik jb ij eK))) else (ae.pj2 F ja ii ik jb ij eK))
theorem ae.l65533_P  :∀ k,ae.S65533 H0 Ri R0  (ae.l65533 F (cp.tw F) (bW.tw F) (bX.tw F) (aB.tw F) (aP.tw F) (bP.tw F) (bJ.tw F) (bN.tw F)  k) (ae.pl65533 F  k):=by
 intro k
 induction k with
 | zero=>unfold ae.S65533;intros;rename_i hp;cases hp
 | succ k ih=>
  intro ja tQ jb ko fz qN qO qP qQ nL gg nO gh nP eJ nQ gj qR qS qT qU ii ij jc qV qW qX qY ik qZ eK H yF yG yH yI h0 r hp
  obtain ⟨w0,s0,rA,rB,rC,ui⟩:=h0
  subst yF
  subst yG
  subst yH
  subst yI
  unfold ae.pl65533 at hp
  unfold ae.l65533
  refine aC hp (λhp=>?_) λhp=>?_
  ·refine aC hp (λhp=>?_) λhp=>?_
   ·refine lI w0 6 ?_
    refine lSl w0 6 ?_
    refine lI w0 8 ?_
    refine lSl w0 8 ?_
    obtain ⟨w1,s1⟩:=w0.pp [5,7,0,1,2,3,4,6,8] 9
    have f2:=W.borrow1 eI w1 (rC.step s1)
    obtain ⟨w2,s2⟩:=w1.right1
    have f3:=W.borrow1 eI w2 ((ui.step s1).step s2)
    obtain ⟨w3,s3⟩:=w2.right1
    obtain ⟨r4,e4,hp⟩:=af hp
    refine aM (bJ.P rfl rfl ⟨w3,(f2.step s3),f3⟩ e4) ?_
    rintro _ H5 ⟨o1a_5,o1n_5,o1c_5,o1k_5,rfl,rfl,w5,s5,f5_0⟩
    obtain ⟨w6,s6⟩:=W.frame1 w2 w5 s5
    obtain ⟨w7,s7⟩:=W.frame1 w1 w6 s6
    refine br (br (br (br (br (br (br (br (br ?_))))))))
    refine au w7 8 λH8 w8 s8=>?_
    refine au w8 8 λH9 w9 s9=>?_
    obtain ⟨w10,s10⟩:=w9.pp [3,4,5,6,7,2,8,1,9] 10
    exact ih rfl rfl rfl rfl ⟨w10,(s0.trans (s1.trans (s7.trans (s8.trans (s9.trans s10))))),(rA.step (s1.trans (s7.trans (s8.trans (s9.trans s10))))),rB,((CR.flat (fO .i64) f5_0).step (s8.trans (s9.trans s10))),(ui.step (s1.trans (s7.trans (s8.trans (s9.trans s10)))))⟩ hp
   ·obtain ⟨w11,s11⟩:=w0.pp [0,1,2,3,4,5,6] 9
    exact ae.j2_P rfl rfl rfl ⟨w11,(s0.trans s11),(rA.step s11),rB,(rC.step s11)⟩ hp
  ·obtain ⟨w12,s12⟩:=w0.pp [0,1,2,3,4,5,6] 9
   exact ae.j2_P rfl rfl rfl ⟨w12,(s0.trans s12),(rA.step s12),rB,(rC.step s12)⟩ hp
def ae.pj3 (F:Nat)  (nY:Int) (lR:Bv) (nZ:Int) (lT:BR) (n_:Int) (lU:Bv) (oa:Int) (lV:Bv) (j_:Bool):Option (Bool):=ae.pl65533 F F nY lR lT n_ lU oa lV j_ nZ
theorem ae.j3_P   {nY nZ n_ oa uj uk ul um rD mU rE kZ rF mV rG mW un uo uq ur lR lU lV ut uu uv uw lT ux j_} (yJ:rD=lR.length) (yK:rE=lT.length) (yL:rF=lU.length) (yM:rG=lV.length) (h0:Out H0 Ri H (Rs.own ⟨uj,rD,un⟩ eI.z ut::Rs.blk mU [.i nY,.sl ⟨uj,rD,un⟩]::Rs.own ⟨uk,rE,uo⟩ (eSl eI).z uu::Rs.many ux::Rs.blk kZ [.i nZ,.sl ⟨uk,rE,uo⟩]::Rs.own ⟨ul,rF,uq⟩ eI.z uv::Rs.blk mV [.i n_,.sl ⟨ul,rF,uq⟩]::Rs.own ⟨um,rG,ur⟩ eI.z uw::Rs.blk mW [.i oa,.sl ⟨um,rG,ur⟩]::R0) λR=>CR eI H R ut lR/\OL (oSl (bO eI)) ux uu lT/\CR eI H R uv lU/\CR eI H R uw lV) {r:Bool} (hp:ae.pj3 F  nY lR nZ lT n_ lU oa lV j_=some r):Rt (ae.j3 F (cp.tw F) (bW.tw F) (bX.tw F) (aB.tw F) (aP.tw F) (bP.tw F) (bJ.tw F) (bN.tw F)  mU 0 kZ 0 mV 0 mW 0 j_ H) (ae.Q H0 Ri R0  r):=by
 obtain ⟨w0,s0,yN,yO,yP,yQ⟩:=h0
 subst yJ
 subst yK
 subst yL
 subst yM
 unfold ae.pj3 at hp
 unfold ae.j3
 refine lI w0 4 ?_
 exact ae.l65533_P F rfl rfl rfl rfl ⟨w0,s0,yN,yO,yP,yQ⟩ hp
def ae.pl32765 (F:Nat) :Nat->Int->List Int->Int->List (List Int)->Int->List Int->Int->List Int->Int->List Int->Bool->Int->Option (Bool)
 | 0,_,_,_,_,_,_,_,_,_,_,_,_=>none
 | k+1,iX,ia,h_,ig,kn,i_,iY,ib,iZ,ic,eM,fA=>(bif (decide (fA<h_)) then ((bif eM then ((bJ.p F iY ib kn i_).bind λr4=>ae.pl32765 F k iX ia h_ ig kn i_ r4.1 r4.2.1 iZ ic r4.2.2 (wrap .i64 (fA+1))) else (ae.pj3 F iX ia h_ ig iY ib iZ ic eM))) else (ae.pj3 F iX ia h_ ig iY ib iZ ic eM))
theorem ae.l32765_P  :∀ k,ae.S32765 H0 Ri R0  (ae.l32765 F (cp.tw F) (bW.tw F) (bX.tw F) (aB.tw F) (aP.tw F) (bP.tw F) (bJ.tw F) (bN.tw F)  k) (ae.pl32765 F  k):=by
 intro k
 induction k with
 | zero=>unfold ae.S32765;intros;rename_i hp;cases hp
 | succ k ih=>
  intro iX h_ kn iY iZ fA qx qy qz qA qB nF gk nG fJ nH gm nJ eL nK gr qC qD qE qF qG ia i_ ib ic qH qI qJ qK qL ig qM eM H yR yS yT yU yV h0 r hp
  obtain ⟨w0,s0,rH,rI,uy,rJ,rK⟩:=h0
  subst yR
  subst yS
  subst yT
  subst yU
  subst yV
  unfold ae.pl32765 at hp
  unfold ae.l32765
  refine lI w0 4 ?_
  refine aC hp (λhp=>?_) λhp=>?_
  ·refine aC hp (λhp=>?_) λhp=>?_
   ·refine lI w0 8 ?_
    refine lSl w0 8 ?_
    refine lI w0 6 ?_
    refine lSl w0 6 ?_
    obtain ⟨w1,s1⟩:=w0.pp [7,5,0,1,2,3,4,6,8,9,10] 11
    have f2:=W.borrow1 eI w1 (rJ.step s1)
    obtain ⟨w2,s2⟩:=w1.right1
    have f3:=W.borrow1 eI w2 ((uy.step s1).step s2)
    obtain ⟨w3,s3⟩:=w2.right1
    obtain ⟨r4,e4,hp⟩:=af hp
    refine aM (bJ.P rfl rfl ⟨w3,(f2.step s3),f3⟩ e4) ?_
    rintro _ H5 ⟨o1a_5,o1n_5,o1c_5,o1k_5,rfl,rfl,w5,s5,f5_0⟩
    obtain ⟨w6,s6⟩:=W.frame1 w2 w5 s5
    obtain ⟨w7,s7⟩:=W.frame1 w1 w6 s6
    refine br (br (br (br (br (br (br (br (br ?_))))))))
    refine au w7 9 λH8 w8 s8=>?_
    refine au w8 9 λH9 w9 s9=>?_
    obtain ⟨w10,s10⟩:=w9.pp [3,4,5,6,7,1,8,2,9,10,11] 12
    exact ih rfl rfl rfl rfl rfl ⟨w10,(s0.trans (s1.trans (s7.trans (s8.trans (s9.trans s10))))),(rH.step (s1.trans (s7.trans (s8.trans (s9.trans s10))))),rI,(uy.step (s1.trans (s7.trans (s8.trans (s9.trans s10))))),((CR.flat (fO .i64) f5_0).step (s8.trans (s9.trans s10))),(rK.step (s1.trans (s7.trans (s8.trans (s9.trans s10)))))⟩ hp
   ·obtain ⟨w11,s11⟩:=w0.pp [0,1,2,3,4,7,8,9,10] 11
    exact ae.j3_P rfl rfl rfl rfl ⟨w11,(s0.trans s11),(rH.step s11),rI,(rJ.step s11),(rK.step s11)⟩ hp
  ·obtain ⟨w12,s12⟩:=w0.pp [0,1,2,3,4,7,8,9,10] 11
   exact ae.j3_P rfl rfl rfl rfl ⟨w12,(s0.trans s12),(rH.step s12),rI,(rJ.step s12),(rK.step s12)⟩ hp
def ae.pj4 (F:Nat)  (lW:Int) (lX:Bv) (kp:Int) (lY:BR) (lZ:Bv):Option (Bool):=(aP.p F lZ).bind λr3=>(bif (r3.2.2 != 0) then (some false) else ((bif (decide (kp>30)) then (some false) else ((bif (decide (kp<(-30))) then (some false) else ((bP.p F r3.1 r3.2.1).bind λr17=>ae.pl32765 F F lW lX kp lY r3.1 r3.2.1 lW ([]:List Int) r17.1 r17.2.1 true 0))))))
theorem ae.j4_P   {lW kp uz uA uB rL lg rM kb rN uC uD uE lX lZ uF uG uH lY uI} (yW:rL=lX.length) (yX:rM=lY.length) (yY:rN=lZ.length) (h0:Out H0 Ri H (Rs.own ⟨uz,rL,uC⟩ eI.z uF::Rs.blk lg [.i lW,.sl ⟨uz,rL,uC⟩]::Rs.own ⟨uA,rM,uD⟩ (eSl eI).z uG::Rs.many uI::Rs.blk kb [.i kp,.sl ⟨uA,rM,uD⟩]::Rs.own ⟨uB,rN,uE⟩ eI.z uH::R0) λR=>CR eI H R uF lX/\OL (oSl (bO eI)) uI uG lY/\CR eI H R uH lZ) {r:Bool} (hp:ae.pj4 F  lW lX kp lY lZ=some r):Rt (ae.j4 F (cp.tw F) (bW.tw F) (bX.tw F) (aB.tw F) (aP.tw F) (bP.tw F) (bJ.tw F) (bN.tw F)  lg 0 kb 0 ⟨uB,rN,uE⟩ H) (ae.Q H0 Ri R0  r):=by
 obtain ⟨w0,s0,yZ,y_,za⟩:=h0
 subst yW
 subst yX
 subst yY
 unfold ae.pj4 at hp
 unfold ae.j4
 obtain ⟨w1,s1⟩:=w0.pp [5,0,1,2,3,4] 6
 have f2:=W.borrow1 eI w1 (za.step s1)
 obtain ⟨w2,s2⟩:=w1.right1
 obtain ⟨r3,e3,hp⟩:=af hp
 refine aM (aP.P rfl ⟨w2,f2⟩ e3) ?_
 rintro _ H4 ⟨o1a_4,o1n_4,o1c_4,o1k_4,rfl,rfl,w4,s4,f4_0⟩
 obtain ⟨w5,s5⟩:=W.frame1 w1 w4 s4
 refine br (br (br (br (br (br (br (br (br ?_))))))))
 refine bM w5 λH6 w6 s6=>?_
 refine au w6 0 λH7 w7 s7=>?_
 refine au w7 0 λH8 w8 s8=>?_
 refine aC hp (λhp=>?_) λhp=>?_
 ·obtain ⟨w9,s9⟩:=w8.pp [] 8
  exact ay hp ⟨rfl,w9,(s0.trans (s1.trans (s5.trans (s6.trans (s7.trans (s8.trans s9)))))),trivial⟩
 ·refine lI w8 7 ?_
  refine aC hp (λhp=>?_) λhp=>?_
  ·obtain ⟨w10,s10⟩:=w8.pp [] 8
   exact ay hp ⟨rfl,w10,(s0.trans (s1.trans (s5.trans (s6.trans (s7.trans (s8.trans s10)))))),trivial⟩
  ·refine lI w8 7 ?_
   refine aC hp (λhp=>?_) λhp=>?_
   ·obtain ⟨w11,s11⟩:=w8.pp [] 8
    exact ay hp ⟨rfl,w11,(s0.trans (s1.trans (s5.trans (s6.trans (s7.trans (s8.trans s11)))))),trivial⟩
   ·refine lI w8 4 ?_
    refine bM w8 λH12 w12 s12=>?_
    refine au w12 0 λH13 w13 s13=>?_
    refine au w13 0 λH14 w14 s14=>?_
    refine lI w14 1 ?_
    refine lSl w14 1 ?_
    obtain ⟨w15,s15⟩:=w14.pp [3,0,1,2,4,5,6,7,8] 9
    have f16:=W.borrow1 eI w15 ((CR.flat (fO .i64) f4_0).step (s6.trans (s7.trans (s8.trans (s12.trans (s13.trans (s14.trans s15)))))))
    obtain ⟨w16,s16⟩:=w15.right1
    obtain ⟨r17,e17,hp⟩:=af hp
    refine aM (bP.P rfl ⟨w16,f16⟩ e17) ?_
    rintro _ H18 ⟨o1a_18,o1n_18,o1c_18,o1k_18,rfl,rfl,w18,s18,f18_0⟩
    obtain ⟨w19,s19⟩:=W.frame1 w15 w18 s18
    refine br (br (br (br (br (br (br (br (br ?_))))))))
    refine bM w19 λH20 w20 s20=>?_
    refine au w20 0 λH21 w21 s21=>?_
    refine au w21 0 λH22 w22 s22=>?_
    obtain ⟨w23,s23⟩:=w22.nilS eI.z (by decide)
    obtain ⟨w24,s24⟩:=w23.pp [7,8,9,10,11,2,5,0,4,3,1] 12
    dsimp only [pk,pks,nth,List.drop,List.set,List.eraseIdx] at w24 s1 s6 s7 s8 s12 s13 s14 s15 s20 s21 s22 s23 s24
    exact ae.l32765_P F rfl rfl rfl rfl rfl ⟨w24,(s0.trans (s1.trans (s5.trans (s6.trans (s7.trans (s8.trans (s12.trans (s13.trans (s14.trans (s15.trans (s19.trans (s20.trans (s21.trans (s22.trans (s23.trans s24))))))))))))))),(yZ.step (s1.trans (s5.trans (s6.trans (s7.trans (s8.trans (s12.trans (s13.trans (s14.trans (s15.trans (s19.trans (s20.trans (s21.trans (s22.trans (s23.trans s24))))))))))))))),y_,((CR.flat (fO .i64) f4_0).step (s6.trans (s7.trans (s8.trans (s12.trans (s13.trans (s14.trans (s15.trans (s19.trans (s20.trans (s21.trans (s22.trans (s23.trans s24))))))))))))),((CR.empty:CR eI _ _ [] []).step s24),((CR.flat (fO .i64) f18_0).step (s20.trans (s21.trans (s22.trans (s23.trans s24)))))⟩ hp
def ae.pl509 (F:Nat) :Nat->Int->List Int->Int->List (List Int)->List Int->Int->Option (Bool)
 | 0,_,_,_,_,_,_=>none
 | k+1,kj,iU,kl,iW,iV,ed=>(bif (decide (ed>=0)) then ((apn iV ([ed]:List Int)).bind λl2=>ae.pl509 F k kj iU kl iW l2 (wrap .i64 (ed - 1))) else (ae.pj4 F kj iU kl iW iV))
theorem ae.l509_P  :∀ k,ae.S509 H0 Ri R0  (ae.l509 F (cp.tw F) (bW.tw F) (bX.tw F) (aB.tw F) (aP.tw F) (bP.tw F) (bJ.tw F) (bN.tw F)  k) (ae.pl509 F  k):=by
 intro k
 induction k with
 | zero=>unfold ae.S509;intros;rename_i hp;cases hp
 | succ k ih=>
  intro kj kl ed qm qn qo nC gW nD gX nE qp qq qs iU iV qt qu qv iW qw H zb zd ze h0 r hp
  obtain ⟨w0,s0,uJ,uK,uL⟩:=h0
  subst zb
  subst zd
  subst ze
  unfold ae.pl509 at hp
  unfold ae.l509
  refine aC hp (λhp=>?_) λhp=>?_
  ·refine fb eI w0 (n:=1) (l:=([ed]:List Int)) rfl (CR.cons1 rfl CR.empty) rfl λH1 w1 s1 c1=>?_
   refine aj (w1.rowo (i:=0) rfl) ?_
   obtain ⟨l2,e2,hp⟩:=af hp
   refine fD eI w1 (i:=6) rfl rfl (uL.step s1) c1 (show 1=List.length ([ed]:List Int) from rfl) rfl e2 λa3 d3 H3 w3 s3 c3 x3=>?_
   obtain ⟨w4,s4⟩:=w3.pp [1,2,3,4,5,6] 7
   exact ih rfl rfl rfl ⟨w4,(s0.trans (s1.trans (s3.trans s4))),(uJ.step (s1.trans (s3.trans s4))),uK,(c3.step s4)⟩ hp
  ·exact ae.j4_P rfl rfl rfl ⟨w0,s0,uJ,uK,uL⟩ hp
def ae.p (F:Nat) (ai:Bv):Option (Bool):=(cp.p F ai).bind λr1=>(bif r1 then (some true) else ((bW.p F ai).bind λr3=>(bX.p F r3.1 r3.2).bind λr10=>(bif (r10.2.2 != 0) then ((aB.p F r3.1 r3.2).bind λr18=>(bif (!r18) then (some ((r10.2.1.length:Int)==0)) else (some false))) else (ae.pl509 F F r3.1 r3.2 r10.1 r10.2.1 ([]:List Int) (wrap .i64 (r3.1 - 1))))))
theorem ae.P {aJ ax aK ai} (bQ:ax=ai.length) (h0:Inn H R0 λR=>ROs (bf .u8) H R ⟨aJ,ax,aK⟩ ai) {r:Bool} (hp:ae.p F ai=some r):Rt (ae.tw F ⟨aJ,ax,aK⟩ H) (ae.Q H R0 R0  r):=by
 obtain ⟨w0,bG⟩:=h0
 subst bQ
 unfold ae.p at hp
 unfold ae.tw ae.twX
 have s0:=w0.rf
 obtain ⟨r1,e1,hp⟩:=af hp
 refine aM (cp.P rfl ⟨w0,bG⟩ e1) ?_
 rintro _ H2 ⟨rfl,w2,s2,_⟩
 refine br ?_
 refine aC hp (λhp=>?_) λhp=>?_
 ·exact ay hp ⟨rfl,w2,(s0.trans s2),trivial⟩
 ·obtain ⟨r3,e3,hp⟩:=af hp
  refine aM (bW.P rfl ⟨w2,(bG.step s2)⟩ e3) ?_
  rintro _ H4 ⟨o1a_4,o1n_4,o1c_4,o1k_4,rfl,rfl,w4,s4,f4_0⟩
  refine br (br (br (br (br ?_))))
  refine bM w4 λH5 w5 s5=>?_
  refine au w5 0 λH6 w6 s6=>?_
  refine au w6 0 λH7 w7 s7=>?_
  refine lI w7 0 ?_
  refine lSl w7 0 ?_
  obtain ⟨w8,s8⟩:=w7.pp [1,0] 2
  have f9:=W.borrow1 eI w8 (f4_0.step (s5.trans (s6.trans (s7.trans s8))))
  obtain ⟨w9,s9⟩:=w8.right1
  obtain ⟨r10,e10,hp⟩:=af hp
  refine aM (bX.P rfl ⟨w9,f9⟩ e10) ?_
  rintro _ H11 ⟨o1a_11,o1n_11,o1c_11,o1k_11,o1m_11,rfl,rfl,w11,s11,f11_0⟩
  obtain ⟨w12,s12⟩:=W.frame1 w8 w11 s11
  refine br (br (br (br (br (br (br (br (br ?_))))))))
  refine bM w12 λH13 w13 s13=>?_
  refine au w13 0 λH14 w14 s14=>?_
  refine au w14 0 λH15 w15 s15=>?_
  refine aC hp (λhp=>?_) λhp=>?_
  ·refine lI w15 4 ?_
   refine lSl w15 4 ?_
   obtain ⟨w16,s16⟩:=w15.pp [1,0,2,3,4] 5
   have f17:=W.borrow1 eI w16 (f4_0.step (s5.trans (s6.trans (s7.trans (s8.trans (s12.trans (s13.trans (s14.trans (s15.trans s16)))))))))
   obtain ⟨w17,s17⟩:=w16.right1
   obtain ⟨r18,e18,hp⟩:=af hp
   refine aM (aB.P rfl ⟨w17,f17⟩ e18) ?_
   rintro _ H19 ⟨rfl,w19,s19,_⟩
   obtain ⟨w20,s20⟩:=W.frame1 w16 w19 s19
   refine br ?_
   refine aC hp (λhp=>?_) λhp=>?_
   ·refine lSl w20 1 ?_
    obtain ⟨w21,s21⟩:=w20.pp [] 5
    exact ay hp ⟨rfl,w21,(s0.trans (s2.trans (s4.trans (s5.trans (s6.trans (s7.trans (s8.trans (s12.trans (s13.trans (s14.trans (s15.trans (s16.trans (s20.trans s21))))))))))))),trivial⟩
   ·obtain ⟨w22,s22⟩:=w20.pp [] 5
    exact ay hp ⟨rfl,w22,(s0.trans (s2.trans (s4.trans (s5.trans (s6.trans (s7.trans (s8.trans (s12.trans (s13.trans (s14.trans (s15.trans (s16.trans (s20.trans s22))))))))))))),trivial⟩
  ·refine fb eI w15 (n:=0) (l:=([]:List Int)) rfl CR.empty rfl λH23 w23 s23 c23=>?_
   refine lI w23 5 ?_
   obtain ⟨w24,s24⟩:=w23.pp [2,5,3,4,1,0] 6
   exact ae.l509_P F rfl rfl (show 0=List.length ([]:List Int) from rfl) ⟨w24,(s0.trans (s2.trans (s4.trans (s5.trans (s6.trans (s7.trans (s8.trans (s12.trans (s13.trans (s14.trans (s15.trans (s23.trans s24)))))))))))),(f4_0.step (s5.trans (s6.trans (s7.trans (s8.trans (s12.trans (s13.trans (s14.trans (s15.trans (s23.trans s24)))))))))),f11_0,(c23.step s24)⟩ hp
end
end Go.Proofs.Ytodfdhnlhiaohaa.AE
