import Derived.Test.YteeahaikelpkpaaT1
import Derived.Test.YteeahaikelpkpaaE2
set_option linter.unusedVariables false
set_option linter.unusedSimpArgs false
namespace Go.Proofs.Yteeahaikelpkpaa.AE
open Go Go.AE Go.Proofs
set_option linter.unusedVariables false
set_option maxHeartbeats 4000000
set_option maxRecDepth 100000
noncomputable section
def cw.Q (H0:Hp) (Ri R0:List Rs)  (r:Bool) (v:AV) (H':Hp):Prop:=v=(.bool r)/\Out H0 Ri H' (R0) λR=>True
def cw.p (F:Nat) (aj:List Int):Option (Bool):=some (decide ((aj.length:Int)>4096))
theorem cw.P {F:Nat} {aN:ON} {aE:Nat} {aO:Cap} {aj:List Int} {H:Hp} {R0:List Rs} (bj:aE=aj.length) (h0:Inn H R0 λR=>ROs (ae .u8) H R ⟨aN,aE,aO⟩ aj) {r:Bool} (hp:cw.p F aj=some r):∃ v H',cw.tw F ⟨aN,aE,aO⟩ H=some (v,H')/\cw.Q H R0 R0  r v H':=by
 obtain ⟨w0,bl⟩:=h0
 subst bj
 unfold cw.p at hp
 unfold cw.tw cw.twX
 have s0:=w0.rf
 exact ay hp ⟨rfl,w0,s0,trivial⟩
def aP.Q (H0:Hp) (Ri R0:List Rs)  (r:List Int×Int×Int) (v:AV) (H':Hp):Prop:=∃ o0a:ON,∃ o0n:Nat,∃ o0c:Cap,∃ ob0:Nat,v=(.ptr ob0 0)/\o0n=(r.1).length/\Out H0 Ri H' (Rs.blk ob0 [.sl ⟨o0a,o0n,o0c⟩,.i r.2.1,.i r.2.2] :: R0) λR=>ROs (ae .u8) H' R ⟨o0a,o0n,o0c⟩ (r.1)
def aP.S29 (H0:Hp) (Ri R0:List Rs)  (C:Sl->Nat->Nat->Int->Hp->OA) (pC:List Int->Int->Int->Int->Option (List Int×Int×Int)):Prop:=∀ {hR:ON} {gl bF:Nat} {hU:Cap} {dz:List Int} {iB iC bh:Int},∀ {H:Hp},gl=dz.length->(Out H0 Ri H (Rs.blk bF [.sl ⟨hR,gl,hU⟩,.i iB,.i iC] :: R0) λR=>ROs (ae .u8) H R ⟨hR,gl,hU⟩ dz)->∀ {r:List Int×Int×Int},pC dz iB iC bh=some r->∃ v H',C ⟨hR,gl,hU⟩ bF 0 bh H=some (v,H')/\aP.Q H0 Ri R0  r v H'
def aP.pl29 (F:Nat) :Nat->List Int->Int->Int->Int->Option (List Int×Int×Int)
 | 0,_,_,_,_=>none
 | k+1,dz,iB,iC,bh=>(bif (decide (bh<(dz.length:Int))) then ((bif (decide (bh<64)) then ((ix dz bh).bind λn1=>aP.pl29 F k dz iB (Int.tmod (IntKind.i64.wrap ((IntKind.i64.wrap (iC * 37))+(IntKind.i64.wrap (gt dz n1)))) 2147483647) (IntKind.i64.wrap (bh+1))) else (some (dz,iB,iC)))) else (some (dz,iB,iC)))
termination_by structural n=>n
theorem aP.l29_P {F:Nat} {H0:Hp} {Ri R0:List Rs}  :∀ k,aP.S29 H0 Ri R0  (aP.l29 F   k) (aP.pl29 F  k):=by
 intro k
 induction k with
 | zero=>unfold aP.S29;intros;rename_i hp;cases hp
 | succ k ih=>
  intro hR gl bF hU dz iB iC bh H nL h0 r hp
  obtain ⟨w0,s0,iD⟩:=h0
  subst nL
  unfold aP.pl29 at hp
  unfold aP.l29
  refine aH hp (λhp=>?_) λhp=>?_
  ·refine aH hp (λhp=>?_) λhp=>?_
   ·refine ac (av (w0.ld (i:=0) rfl rfl)) ?_
    obtain ⟨n1,g1,hp⟩:=ag hp
    obtain ⟨p1,q1,i1,h1,j1⟩:=ROs.ixr iD rfl g1
    refine ac i1 ?_
    have h1:_=[_]:=h1
    subst h1
    refine ac (av (j1 0 _ rfl)) ?_
    refine aF w0 (i:=0) rfl rfl rfl λH2 w2 s2=>?_
    exact ih rfl ⟨w2,(s0.trans s2),(iD.step s2)⟩ hp
   ·exact ay hp ⟨_,_,_,_,rfl,rfl,w0,s0,iD⟩
  ·exact ay hp ⟨_,_,_,_,rfl,rfl,w0,s0,iD⟩
def aP.p (F:Nat) (aj:List Int):Option (List Int×Int×Int):=aP.pl29 F F aj 0 97531 0
theorem aP.P {F:Nat} {aN:ON} {aE:Nat} {aO:Cap} {aj:List Int} {H:Hp} {R0:List Rs} (bj:aE=aj.length) (h0:Inn H R0 λR=>ROs (ae .u8) H R ⟨aN,aE,aO⟩ aj) {r:List Int×Int×Int} (hp:aP.p F aj=some r):∃ v H',aP.tw F ⟨aN,aE,aO⟩ H=some (v,H')/\aP.Q H R0 R0  r v H':=by
 obtain ⟨w0,bl⟩:=h0
 subst bj
 unfold aP.p at hp
 unfold aP.tw aP.twX
 have s0:=w0.rf
 refine bo w0 λH1 w1 s1=>?_
 exact aP.l29_P F rfl ⟨w1,(s0.trans s1),(bl.step s1)⟩ hp
def aB.Q (H0:Hp) (Ri R0:List Rs) (dP:ON) (dg aa:Nat) (dQ:Cap) (cl:List Int) (r:Int×Int×Int) (v:AV) (H':Hp):Prop:=v=(.i r.1)/\Out H0 Ri H' (Rs.blk aa [.sl ⟨dP,dg,dQ⟩,.i (r.2.1),.i (r.2.2)] :: R0) λR=>True
def aB.pj1 (F:Nat)  (hJ:Int) (iY:Int) (aZ:Int) (ba:Int):Option (Int×Int×Int):=(if hJ=0 then none else (some ((Int.tmod iY hJ),aZ,ba)))
theorem aB.j1_P {F:Nat} {H0:Hp} {Ri R0:List Rs} {cU:ON} {bU dc:Nat} {cV:Cap} {bJ:List Int}  {hJ iY aZ ba:Int} {H:Hp} (fN:bU=bJ.length) (h0:Out H0 Ri H (Rs.blk dc [.sl ⟨cU,bU,cV⟩,.i aZ,.i ba] :: R0) λR=>ROs (ae .u8) H R ⟨cU,bU,cV⟩ bJ) {r:Int×Int×Int} (hp:aB.pj1 F  hJ iY aZ ba=some r):∃ v H',aB.j1 F   hJ iY H=some (v,H')/\aB.Q H0 Ri R0 cU bU dc cV bJ r v H':=by
 obtain ⟨w0,s0,fu⟩:=h0
 subst fN
 unfold aB.pj1 at hp
 unfold aB.j1
 obtain ⟨g1,hp⟩:=vO hp
 refine vP g1 ?_
 exact ay hp ⟨rfl,w0,s0,trivial⟩
def aB.pj2 (F:Nat)  (iZ:Int) (i_:Int) (aZ:Int) (ba:Int):Option (Int×Int×Int):=aB.pj1 F iZ i_ aZ ba
theorem aB.j2_P {F:Nat} {H0:Hp} {Ri R0:List Rs} {cU:ON} {bU dc:Nat} {cV:Cap} {bJ:List Int}  {iZ i_ aZ ba:Int} {H:Hp} (fN:bU=bJ.length) (h0:Out H0 Ri H (Rs.blk dc [.sl ⟨cU,bU,cV⟩,.i aZ,.i ba] :: R0) λR=>ROs (ae .u8) H R ⟨cU,bU,cV⟩ bJ) {r:Int×Int×Int} (hp:aB.pj2 F  iZ i_ aZ ba=some r):∃ v H',aB.j2 F   iZ i_ H=some (v,H')/\aB.Q H0 Ri R0 cU bU dc cV bJ r v H':=by
 obtain ⟨w0,s0,fu⟩:=h0
 subst fN
 unfold aB.pj2 at hp
 unfold aB.j2
 exact aB.j1_P rfl ⟨w0,s0,fu⟩ hp
def aB.pj3 (F:Nat)  (ev:Int) (ja:Int) (aZ:Int) (ba:Int):Option (Int×Int×Int):=(if ev=0 then none else (some ((Int.tmod ja ev),aZ,ba)))
theorem aB.j3_P {F:Nat} {H0:Hp} {Ri R0:List Rs} {cU:ON} {bU dc:Nat} {cV:Cap} {bJ:List Int}  {ev ja aZ ba:Int} {H:Hp} (fN:bU=bJ.length) (h0:Out H0 Ri H (Rs.blk dc [.sl ⟨cU,bU,cV⟩,.i aZ,.i ba] :: R0) λR=>ROs (ae .u8) H R ⟨cU,bU,cV⟩ bJ) {r:Int×Int×Int} (hp:aB.pj3 F  ev ja aZ ba=some r):∃ v H',aB.j3 F   ev ja H=some (v,H')/\aB.Q H0 Ri R0 cU bU dc cV bJ r v H':=by
 obtain ⟨w0,s0,fu⟩:=h0
 subst fN
 unfold aB.pj3 at hp
 unfold aB.j3
 obtain ⟨g1,hp⟩:=vO hp
 refine vP g1 ?_
 exact ay hp ⟨rfl,w0,s0,trivial⟩
def aB.p (F:Nat) (cl:List Int) (aZ:Int) (ba:Int) (ai:Int):Option (Int×Int×Int):=(bif (decide (ai<=1)) then (some (0,aZ,ba)) else ((bif (decide (aZ<(cl.length:Int))) then ((ix cl aZ).bind λn2=>(bif (decide (ai<=256)) then ((bif ((Int.tmod (IntKind.i64.wrap (aZ+1)) 2) == 0) then ((ix cl (IntKind.i64.wrap ((IntKind.i64.wrap (aZ+1)) - 1))).bind λn4=>aB.pj2 F ai (IntKind.i64.wrap (gt cl n4)) (IntKind.i64.wrap (aZ+1)) (Int.tmod (IntKind.i64.wrap ((IntKind.i64.wrap (ba * 48271))+11)) 2147483647)) else (aB.pj2 F ai (IntKind.i64.wrap ((IntKind.i64.wrap (Int.tdiv (Int.tmod (IntKind.i64.wrap ((IntKind.i64.wrap (ba * 48271))+11)) 2147483647) 11))+(IntKind.i64.wrap (gt cl n2)))) (IntKind.i64.wrap (aZ+1)) (Int.tmod (IntKind.i64.wrap ((IntKind.i64.wrap (ba * 48271))+11)) 2147483647)))) else (aB.pj1 F ai (IntKind.i64.wrap ((IntKind.i64.wrap (Int.tdiv (Int.tmod (IntKind.i64.wrap ((IntKind.i64.wrap (ba * 48271))+11)) 2147483647) 11))+(IntKind.i64.wrap (gt cl n2)))) (IntKind.i64.wrap (aZ+1)) (Int.tmod (IntKind.i64.wrap ((IntKind.i64.wrap (ba * 48271))+11)) 2147483647)))) else (aB.pj3 F ai (IntKind.i64.wrap (Int.tdiv (Int.tmod (IntKind.i64.wrap ((IntKind.i64.wrap (ba * 48271))+11)) 2147483647) 11)) aZ (Int.tmod (IntKind.i64.wrap ((IntKind.i64.wrap (ba * 48271))+11)) 2147483647)))))
theorem aB.P {F:Nat} {dP:ON} {dg aa:Nat} {dQ:Cap} {cl:List Int} {aZ ba ai:Int} {H:Hp} {R0:List Rs} (kF:dg=cl.length) (h0:Inn H (Rs.blk aa [.sl ⟨dP,dg,dQ⟩,.i aZ,.i ba] :: R0) λR=>ROs (ae .u8) H R ⟨dP,dg,dQ⟩ cl) {r:Int×Int×Int} (hp:aB.p F cl aZ ba ai=some r):∃ v H',aB.tw F aa 0 ai H=some (v,H')/\aB.Q H (Rs.blk aa [.sl ⟨dP,dg,dQ⟩,.i aZ,.i ba] :: R0) R0 dP dg aa dQ cl r v H':=by
 obtain ⟨w0,eA⟩:=h0
 subst kF
 unfold aB.p at hp
 unfold aB.tw aB.twX
 have s0:=w0.rf
 refine aH hp (λhp=>?_) λhp=>?_
 ·exact ay hp ⟨rfl,w0,s0,trivial⟩
 ·refine ac (av (w0.ld (i:=0) rfl rfl)) ?_
  refine aF w0 (i:=0) rfl rfl rfl λH1 w1 s1=>?_
  refine ac (av (w1.ld (i:=0) rfl rfl)) ?_
  refine ac (av (w1.ld (i:=0) rfl rfl)) ?_
  refine ac (aA (w1.ld (i:=0) rfl rfl)) ?_
  refine aH hp (λhp=>?_) λhp=>?_
  ·refine ac (aA (w1.ld (i:=0) rfl rfl)) ?_
   refine ac (av (w1.ld (i:=0) rfl rfl)) ?_
   obtain ⟨n2,g2,hp⟩:=ag hp
   obtain ⟨p2,q2,i2,h2,j2⟩:=ROs.ixr (eA.step s1) rfl g2
   refine ac i2 ?_
   have h2:_=[_]:=h2
   subst h2
   refine ac (av (j2 0 _ rfl)) ?_
   refine ac (av (w1.ld (i:=0) rfl rfl)) ?_
   refine aF w1 (i:=0) rfl rfl rfl λH3 w3 s3=>?_
   refine aH hp (λhp=>?_) λhp=>?_
   ·refine ac (av (w3.ld (i:=0) rfl rfl)) ?_
    refine aH hp (λhp=>?_) λhp=>?_
    ·refine ac (aA (w3.ld (i:=0) rfl rfl)) ?_
     refine ac (av (w3.ld (i:=0) rfl rfl)) ?_
     obtain ⟨n4,g4,hp⟩:=ag hp
     obtain ⟨p4,q4,i4,h4,j4⟩:=ROs.ixr (eA.step (s1.trans s3)) rfl g4
     refine ac i4 ?_
     have h4:_=[_]:=h4
     subst h4
     refine ac (av (j4 0 _ rfl)) ?_
     exact aB.j2_P rfl ⟨w3,(s0.trans (s1.trans s3)),(eA.step (s1.trans s3))⟩ hp
    ·exact aB.j2_P rfl ⟨w3,(s0.trans (s1.trans s3)),(eA.step (s1.trans s3))⟩ hp
   ·exact aB.j1_P rfl ⟨w3,(s0.trans (s1.trans s3)),(eA.step (s1.trans s3))⟩ hp
  ·exact aB.j3_P rfl ⟨w1,(s0.trans s1),(eA.step s1)⟩ hp
def aK.Q (H0:Hp) (Ri R0:List Rs) (dP:ON) (dg aa:Nat) (dQ:Cap) (cl:List Int) (r:List Int×Int×Int) (v:AV) (H':Hp):Prop:=∃ o0a:ON,∃ o0n:Nat,∃ o0c:Cap,∃ o0k:List AV,v=(.sl ⟨o0a,o0n,o0c⟩)/\o0n=(r.1).length/\Out H0 Ri H' (Rs.own ⟨o0a,o0n,o0c⟩ (ae .i64).z o0k :: Rs.blk aa [.sl ⟨dP,dg,dQ⟩,.i (r.2.1),.i (r.2.2)] :: R0) λR=>CR (ae .i64) H' R o0k (r.1)
def aK.S29 (H0:Hp) (Ri R0:List Rs) (cU:ON) (bU dc:Nat) (cV:Cap) (bJ:List Int) (C:Nat->Nat->Int->Sl->Int->Hp->OA) (pC:List Int->Int->Int->Int->List Int->Int->Option (List Int×Int×Int)):Prop:=∀ {aZ ba dB dT:Int} {nM:ON} {ma:Nat} {nN:Cap} {gP:List Int} {nO:List AV},∀ {H:Hp},bU=bJ.length->ma=gP.length->(Out H0 Ri H (Rs.blk dc [.sl ⟨cU,bU,cV⟩,.i aZ,.i ba] :: Rs.own ⟨nM,ma,nN⟩ (ae .i64).z nO :: R0) λR=>ROs (ae .u8) H R ⟨cU,bU,cV⟩ bJ/\CR (ae .i64) H R nO gP)->∀ {r:List Int×Int×Int},pC bJ aZ ba dB gP dT=some r->∃ v H',C dc 0 dB ⟨nM,ma,nN⟩ dT H=some (v,H')/\aK.Q H0 Ri R0 cU bU dc cV bJ r v H'
def aK.pj2 (F:Nat) (mb:List Int->Int->Int->Int->List Int->Int->Option (List Int×Int×Int)) (bJ:List Int) (aZ:Int) (ba:Int) (ev:Int) (kG:List Int) (jb:Int) (hK:Int):Option (List Int×Int×Int):=(apn kG ([hK]:List Int)).bind λl2=>mb bJ aZ ba ev l2 (IntKind.i64.wrap (jb - 1))
theorem aK.j2_P {F:Nat} {H0:Hp} {Ri R0:List Rs} {cU:ON} {bU dc:Nat} {cV:Cap} {bJ:List Int} {C29_:Nat->Nat->Int->Sl->Int->Hp->OA} {mb:List Int->Int->Int->Int->List Int->Int->Option (List Int×Int×Int)} (hC29:aK.S29 H0 Ri R0 cU bU dc cV bJ C29_ mb) {aZ ba ev jb hK:Int} {sb:ON} {nP:Nat} {sd:Cap} {kG:List Int} {se:List AV} {H:Hp} (fN:bU=bJ.length) (xL:nP=kG.length) (h0:Out H0 Ri H (Rs.blk dc [.sl ⟨cU,bU,cV⟩,.i aZ,.i ba] :: Rs.own ⟨sb,nP,sd⟩ (ae .i64).z se :: R0) λR=>ROs (ae .u8) H R ⟨cU,bU,cV⟩ bJ/\CR (ae .i64) H R se kG) {r:List Int×Int×Int} (hp:aK.pj2 F mb bJ aZ ba ev kG jb hK=some r):∃ v H',aK.j2 F (aB.tw F) C29_ dc 0 ev ⟨sb,nP,sd⟩ jb hK H=some (v,H')/\aK.Q H0 Ri R0 cU bU dc cV bJ r v H':=by
 obtain ⟨w0,s0,fu,xM⟩:=h0
 subst fN
 subst xL
 unfold aK.pj2 at hp
 unfold aK.j2
 refine eU (ae .i64) w0 (n:=1) (l:=([hK]:List Int)) rfl (CR.cons1 rfl CR.empty) rfl λH1 w1 s1 c1=>?_
 refine ac (w1.rowo (i:=0) rfl) ?_
 obtain ⟨l2,e2,hp⟩:=ag hp
 refine iO (ae .i64) w1 (i:=2) rfl rfl (xM.step s1) c1 (show 1=List.length ([hK]:List Int) from rfl) rfl e2 λa3 d3 H3 w3 s3 c3 x3=>?_
 obtain ⟨w4,s4⟩:=w3.pick' [1,2] 3 rfl rfl rfl
 exact hC29 rfl rfl ⟨w4,(s0.trans (s1.trans (s3.trans s4))),(fu.step (s1.trans (s3.trans s4))),(c3.step s4)⟩ hp
def aK.pl29 (F:Nat) :Nat->List Int->Int->Int->Int->List Int->Int->Option (List Int×Int×Int)
 | 0,_,_,_,_,_,_=>none
 | k+1,bJ,aZ,ba,dB,gP,dT=>(bif (decide (dT>0)) then ((bif (decide (dB>0)) then ((aB.p F bJ aZ ba dB).bind λr1=>(aB.p F bJ r1.2.1 r1.2.2 2).bind λr3=>(bif (r3.1 == 0) then (aK.pj2 F (aK.pl29 F k) bJ r3.2.1 r3.2.2 dB gP dT (IntKind.i64.wrap (0 - (IntKind.i64.wrap (1+r1.1))))) else (aK.pj2 F (aK.pl29 F k) bJ r3.2.1 r3.2.2 dB gP dT (IntKind.i64.wrap (1+r1.1))))) else (some (gP,aZ,ba)))) else (some (gP,aZ,ba)))
termination_by structural n=>n
theorem aK.l29_P {F:Nat} {H0:Hp} {Ri R0:List Rs} {cU:ON} {bU dc:Nat} {cV:Cap} {bJ:List Int} :∀ k,aK.S29 H0 Ri R0 cU bU dc cV bJ (aK.l29 F (aB.tw F)  k) (aK.pl29 F  k):=by
 intro k
 induction k with
 | zero=>unfold aK.S29;intros;rename_i hp;cases hp
 | succ k ih=>
  intro aZ ba dB dT nM ma nN gP nO H fN xN h0 r hp
  obtain ⟨w0,s0,fu,mc⟩:=h0
  subst fN
  subst xN
  unfold aK.pl29 at hp
  unfold aK.l29
  refine aH hp (λhp=>?_) λhp=>?_
  ·refine aH hp (λhp=>?_) λhp=>?_
   ·obtain ⟨r1,e1,hp⟩:=ag hp
    refine aJ (aB.P rfl ⟨w0,fu⟩ e1) ?_
    rintro _ H2 ⟨rfl,w2,s2,_⟩
    refine ac rfl ?_
    obtain ⟨r3,e3,hp⟩:=ag hp
    refine aJ (aB.P rfl ⟨w2,(fu.step s2)⟩ e3) ?_
    rintro _ H4 ⟨rfl,w4,s4,_⟩
    refine ac rfl ?_
    refine aH hp (λhp=>?_) λhp=>?_
    ·exact aK.j2_P (@ih) rfl rfl ⟨w4,(s0.trans (s2.trans s4)),(fu.step (s2.trans s4)),(mc.step (s2.trans s4))⟩ hp
    ·exact aK.j2_P (@ih) rfl rfl ⟨w4,(s0.trans (s2.trans s4)),(fu.step (s2.trans s4)),(mc.step (s2.trans s4))⟩ hp
   ·obtain ⟨w5,s5⟩:=w0.pick' [1,0] 2 rfl rfl rfl
    exact ay hp ⟨_,_,_,_,rfl,rfl,w5,(s0.trans s5),(mc.step s5)⟩
  ·obtain ⟨w6,s6⟩:=w0.pick' [1,0] 2 rfl rfl rfl
   exact ay hp ⟨_,_,_,_,rfl,rfl,w6,(s0.trans s6),(mc.step s6)⟩
def aK.p (F:Nat) (cl:List Int) (aZ:Int) (ba:Int) (ai:Int) (eX:Int):Option (List Int×Int×Int):=(aB.p F cl aZ ba (IntKind.i64.wrap (eX+1))).bind λr3=>aK.pl29 F F cl r3.2.1 r3.2.2 ai ([]:List Int) r3.1
theorem aK.P {F:Nat} {dP:ON} {dg aa:Nat} {dQ:Cap} {cl:List Int} {aZ ba ai eX:Int} {H:Hp} {R0:List Rs} (kF:dg=cl.length) (h0:Inn H (Rs.blk aa [.sl ⟨dP,dg,dQ⟩,.i aZ,.i ba] :: R0) λR=>ROs (ae .u8) H R ⟨dP,dg,dQ⟩ cl) {r:List Int×Int×Int} (hp:aK.p F cl aZ ba ai eX=some r):∃ v H',aK.tw F aa 0 ai eX H=some (v,H')/\aK.Q H (Rs.blk aa [.sl ⟨dP,dg,dQ⟩,.i aZ,.i ba] :: R0) R0 dP dg aa dQ cl r v H':=by
 obtain ⟨w0,eA⟩:=h0
 subst kF
 unfold aK.p at hp
 unfold aK.tw aK.twX
 have s0:=w0.rf
 refine eU (ae .i64) w0 (n:=0) (l:=([]:List Int)) rfl CR.empty rfl λH1 w1 s1 c1=>?_
 obtain ⟨w2,s2⟩:=w1.pick' [1,0] 2 rfl rfl rfl
 obtain ⟨r3,e3,hp⟩:=ag hp
 refine aJ (aB.P rfl ⟨w2,(eA.step (s1.trans s2))⟩ e3) ?_
 rintro _ H4 ⟨rfl,w4,s4,_⟩
 refine ac rfl ?_
 exact aK.l29_P F rfl (show 0=List.length ([]:List Int) from rfl) ⟨w4,(s0.trans (s1.trans (s2.trans s4))),(eA.step (s1.trans (s2.trans s4))),(c1.step (s2.trans s4))⟩ hp
def aQ.Q (H0:Hp) (Ri R0:List Rs) (dP:ON) (dg aa:Nat) (dQ:Cap) (cl:List Int) (r:List Int×Int×Int) (v:AV) (H':Hp):Prop:=∃ o0a:ON,∃ o0n:Nat,∃ o0c:Cap,∃ o0k:List AV,v=(.sl ⟨o0a,o0n,o0c⟩)/\o0n=(r.1).length/\Out H0 Ri H' (Rs.own ⟨o0a,o0n,o0c⟩ (ae .i64).z o0k :: Rs.blk aa [.sl ⟨dP,dg,dQ⟩,.i (r.2.1),.i (r.2.2)] :: R0) λR=>CR (ae .i64) H' R o0k (r.1)
def aQ.S1915 (H0:Hp) (Ri R0:List Rs) (cU:ON) (bU dc:Nat) (cV:Cap) (bJ:List Int) (C:Sl->Int->Hp->OA) (pC:List Int->Int->Int->Int->Option (List Int×Int×Int)):Prop:=∀ {nQ:ON} {md:Nat} {nR:Cap} {gQ:List Int} {nS:List AV} {dU aZ ba:Int},∀ {H:Hp},md=gQ.length->bU=bJ.length->(Out H0 Ri H (Rs.own ⟨nQ,md,nR⟩ (ae .i64).z nS :: Rs.blk dc [.sl ⟨cU,bU,cV⟩,.i aZ,.i ba] :: R0) λR=>CR (ae .i64) H R nS gQ/\ROs (ae .u8) H R ⟨cU,bU,cV⟩ bJ)->∀ {r:List Int×Int×Int},pC gQ dU aZ ba=some r->∃ v H',C ⟨nQ,md,nR⟩ dU H=some (v,H')/\aQ.Q H0 Ri R0 cU bU dc cV bJ r v H'
def aQ.pl1915 (F:Nat) :Nat->List Int->Int->Int->Int->Option (List Int×Int×Int)
 | 0,_,_,_,_=>none
 | k+1,gQ,dU,aZ,ba=>(bif (decide (dU<(gQ.length:Int))) then ((ix gQ dU).bind λn1=>(some (gQ.set n1 1)).bind λl2=>aQ.pl1915 F k l2 (IntKind.i64.wrap (dU+1)) aZ ba) else (some (gQ,aZ,ba)))
termination_by structural n=>n
theorem aQ.l1915_P {F:Nat} {H0:Hp} {Ri R0:List Rs} {cU:ON} {bU dc:Nat} {cV:Cap} {bJ:List Int} :∀ k,aQ.S1915 H0 Ri R0 cU bU dc cV bJ (aQ.l1915 F (aK.tw F) (aB.tw F)  k) (aQ.pl1915 F  k):=by
 intro k
 induction k with
 | zero=>unfold aQ.S1915;intros;rename_i hp;cases hp
 | succ k ih=>
  intro nQ md nR gQ nS dU aZ ba H xO fN h0 r hp
  obtain ⟨w0,s0,nT,fu⟩:=h0
  subst xO
  subst fN
  unfold aQ.pl1915 at hp
  unfold aQ.l1915
  refine aH hp (λhp=>?_) λhp=>?_
  ·obtain ⟨n1,g1,hp⟩:=ag hp
   obtain ⟨p1,q1,i1,h1,j1⟩:=W.ixo (E:=(ae .i64)) w0 (i:=0) rfl rfl nT g1
   refine ac i1 ?_
   obtain ⟨l2,e2,hp⟩:=ag hp
   refine nr (ae .i64) w0 (i:=0) (j:=0) (p:=p1) rfl rfl nT g1 i1 e2 rfl rfl (λ_ h=>by have h:_=[_]:=h;subst h;exact rfl) λH3 k3 w3 s3 c3=>?_
   exact ih ((ns e2).symm) rfl ⟨w3,(s0.trans s3),c3,(fu.step s3)⟩ hp
  ·exact ay hp ⟨_,_,_,_,rfl,rfl,w0,s0,nT⟩
def aQ.p (F:Nat) (cl:List Int) (aZ:Int) (ba:Int):Option (List Int×Int×Int):=(aK.p F cl aZ ba 3 8).bind λr1=>(aB.p F cl r1.2.1 r1.2.2 20).bind λr4=>(bif (r4.1 == 0) then ((aB.p F cl r4.2.1 r4.2.2 5).bind λr8=>(ix ([0,24,25,(-24),(-25)]:List Int) r8.1).bind λn10=>(apn r1.1 ([(gt ([0,24,25,(-24),(-25)]:List Int) n10)]:List Int)).bind λl12=>some (l12,r8.2.1,r8.2.2)) else ((bif (r4.1 == 1) then ((aB.p F cl r4.2.1 r4.2.2 3).bind λr15=>(mkn (IntKind.i64.wrap (119+r15.1)) (0:Int)).bind λl17=>aQ.pl1915 F F l17 0 r15.2.1 r15.2.2) else (some (r1.1,r4.2.1,r4.2.2)))))
theorem aQ.P {F:Nat} {dP:ON} {dg aa:Nat} {dQ:Cap} {cl:List Int} {aZ ba:Int} {H:Hp} {R0:List Rs} (kF:dg=cl.length) (h0:Inn H (Rs.blk aa [.sl ⟨dP,dg,dQ⟩,.i aZ,.i ba] :: R0) λR=>ROs (ae .u8) H R ⟨dP,dg,dQ⟩ cl) {r:List Int×Int×Int} (hp:aQ.p F cl aZ ba=some r):∃ v H',aQ.tw F aa 0 H=some (v,H')/\aQ.Q H (Rs.blk aa [.sl ⟨dP,dg,dQ⟩,.i aZ,.i ba] :: R0) R0 dP dg aa dQ cl r v H':=by
 obtain ⟨w0,eA⟩:=h0
 subst kF
 unfold aQ.p at hp
 unfold aQ.tw aQ.twX
 have s0:=w0.rf
 obtain ⟨r1,e1,hp⟩:=ag hp
 refine aJ (aK.P rfl ⟨w0,eA⟩ e1) ?_
 rintro _ H2 ⟨o0a_2,o0n_2,o0c_2,o0k_2,rfl,rfl,w2,s2,f2_0⟩
 refine ac rfl ?_
 obtain ⟨w3,s3⟩:=w2.pick' [1,0] 2 rfl rfl rfl
 obtain ⟨r4,e4,hp⟩:=ag hp
 refine aJ (aB.P rfl ⟨w3,(eA.step (s2.trans s3))⟩ e4) ?_
 rintro _ H5 ⟨rfl,w5,s5,_⟩
 refine ac rfl ?_
 refine aH hp (λhp=>?_) λhp=>?_
 ·refine eU (ae .i64) w5 (n:=5) (l:=([0,24,25,(-24),(-25)]:List Int)) rfl (CR.cons1 rfl (CR.cons1 rfl (CR.cons1 rfl (CR.cons1 rfl (CR.cons1 rfl CR.empty))))) rfl λH6 w6 s6 c6=>?_
  obtain ⟨w7,s7⟩:=w6.pick' [1,0,2] 3 rfl rfl rfl
  obtain ⟨r8,e8,hp⟩:=ag hp
  refine aJ (aB.P rfl ⟨w7,(eA.step (s2.trans (s3.trans (s5.trans (s6.trans s7)))))⟩ e8) ?_
  rintro _ H9 ⟨rfl,w9,s9,_⟩
  refine ac rfl ?_
  obtain ⟨n10,g10,hp⟩:=ag hp
  obtain ⟨p10,q10,i10,h10,j10⟩:=W.ixo (E:=(ae .i64)) w9 (i:=1) rfl rfl (c6.step (s7.trans s9)) g10
  refine ac i10 ?_
  have h10:_=[_]:=h10
  subst h10
  refine ac (av (j10 0 _ rfl)) ?_
  refine eU (ae .i64) w9 (n:=1) (l:=([(gt ([0,24,25,(-24),(-25)]:List Int) n10)]:List Int)) rfl (CR.cons1 rfl CR.empty) rfl λH11 w11 s11 c11=>?_
  refine ac (w11.rowo (i:=0) rfl) ?_
  obtain ⟨l12,e12,hp⟩:=ag hp
  refine iO (ae .i64) w11 (i:=3) rfl rfl (f2_0.step (s3.trans (s5.trans (s6.trans (s7.trans (s9.trans s11)))))) c11 (show 1=List.length ([(gt ([0,24,25,(-24),(-25)]:List Int) n10)]:List Int) from rfl) rfl e12 λa13 d13 H13 w13 s13 c13 x13=>?_
  dsimp only [pk,pks,nth,List.drop,List.set,List.eraseIdx] at w13 s3 s6 s7 s11 s13 c13
  obtain ⟨w14,s14⟩:=w13.pick' [3,1] 4 rfl rfl rfl
  exact ay hp ⟨_,_,_,_,rfl,rfl,w14,(s0.trans (s2.trans (s3.trans (s5.trans (s6.trans (s7.trans (s9.trans (s11.trans (s13.trans s14))))))))),(c13.step s14)⟩
 ·refine aH hp (λhp=>?_) λhp=>?_
  ·obtain ⟨r15,e15,hp⟩:=ag hp
   refine aJ (aB.P rfl ⟨w5,(eA.step (s2.trans (s3.trans s5)))⟩ e15) ?_
   rintro _ H16 ⟨rfl,w16,s16,_⟩
   refine ac rfl ?_
   obtain ⟨l17,e17,hp⟩:=ag hp
   refine rq (ae .i64) (0:Int) w16 rfl rfl rfl e17 λH18 k18 w18 s18 c18=>?_
   obtain ⟨w19,s19⟩:=w18.pick' [0,1] 3 rfl rfl rfl
   exact aQ.l1915_P F rfl rfl ⟨w19,(s0.trans (s2.trans (s3.trans (s5.trans (s16.trans (s18.trans s19)))))),(c18.step s19),(eA.step (s2.trans (s3.trans (s5.trans (s16.trans (s18.trans s19))))))⟩ hp
  ·obtain ⟨w20,s20⟩:=w5.pick' [1,0] 2 rfl rfl rfl
   exact ay hp ⟨_,_,_,_,rfl,rfl,w20,(s0.trans (s2.trans (s3.trans (s5.trans s20)))),(f2_0.step (s3.trans (s5.trans s20)))⟩
def bV.Q (H0:Hp) (Ri R0:List Rs)  (r:List Int×Int) (v:AV) (H':Hp):Prop:=∃ o0a:ON,∃ o0n:Nat,∃ o0c:Cap,∃ o0k:List AV,v=(.tup [(.sl ⟨o0a,o0n,o0c⟩),(.i r.2)])/\o0n=(r.1).length/\Out H0 Ri H' (Rs.own ⟨o0a,o0n,o0c⟩ (ae .i64).z o0k :: R0) λR=>CR (ae .i64) H' R o0k (r.1)
def bV.p (F:Nat) (aj:List Int):Option (List Int×Int):=(aP.p F aj).bind λr1=>(aB.p F r1.1 r1.2.1 r1.2.2 10).bind λr3=>(bif (r3.1 == 0) then ((aQ.p F r1.1 r3.2.1 r3.2.2).bind λr5=>(aB.p F r1.1 r5.2.1 r5.2.2 2).bind λr8=>some (r5.1,(IntKind.i64.wrap (25 * r8.1)))) else ((aQ.p F r1.1 r3.2.1 r3.2.2).bind λr11=>(aB.p F r1.1 r11.2.1 r11.2.2 3).bind λr14=>some (r11.1,(IntKind.i64.wrap (1+r14.1)))))
theorem bV.P {F:Nat} {aN:ON} {aE:Nat} {aO:Cap} {aj:List Int} {H:Hp} {R0:List Rs} (bj:aE=aj.length) (h0:Inn H R0 λR=>ROs (ae .u8) H R ⟨aN,aE,aO⟩ aj) {r:List Int×Int} (hp:bV.p F aj=some r):∃ v H',bV.tw F ⟨aN,aE,aO⟩ H=some (v,H')/\bV.Q H R0 R0  r v H':=by
 obtain ⟨w0,bl⟩:=h0
 subst bj
 unfold bV.p at hp
 unfold bV.tw bV.twX
 have s0:=w0.rf
 obtain ⟨r1,e1,hp⟩:=ag hp
 refine aJ (aP.P rfl ⟨w0,bl⟩ e1) ?_
 rintro _ H2 ⟨o0a_2,o0n_2,o0c_2,ob0_2,rfl,rfl,w2,s2,f2_0⟩
 refine ac rfl ?_
 obtain ⟨r3,e3,hp⟩:=ag hp
 refine aJ (aB.P rfl ⟨w2,f2_0⟩ e3) ?_
 rintro _ H4 ⟨rfl,w4,s4,_⟩
 refine ac rfl ?_
 refine aH hp (λhp=>?_) λhp=>?_
 ·obtain ⟨r5,e5,hp⟩:=ag hp
  refine aJ (aQ.P rfl ⟨w4,(f2_0.step s4)⟩ e5) ?_
  rintro _ H6 ⟨o0a_6,o0n_6,o0c_6,o0k_6,rfl,rfl,w6,s6,f6_0⟩
  refine ac rfl ?_
  obtain ⟨w7,s7⟩:=w6.pick' [1,0] 2 rfl rfl rfl
  obtain ⟨r8,e8,hp⟩:=ag hp
  refine aJ (aB.P rfl ⟨w7,(f2_0.step (s4.trans (s6.trans s7)))⟩ e8) ?_
  rintro _ H9 ⟨rfl,w9,s9,_⟩
  refine ac rfl ?_
  obtain ⟨w10,s10⟩:=w9.pick' [1] 2 rfl rfl rfl
  exact ay hp ⟨_,_,_,_,rfl,rfl,w10,(s0.trans (s2.trans (s4.trans (s6.trans (s7.trans (s9.trans s10)))))),(f6_0.step (s7.trans (s9.trans s10)))⟩
 ·obtain ⟨r11,e11,hp⟩:=ag hp
  refine aJ (aQ.P rfl ⟨w4,(f2_0.step s4)⟩ e11) ?_
  rintro _ H12 ⟨o0a_12,o0n_12,o0c_12,o0k_12,rfl,rfl,w12,s12,f12_0⟩
  refine ac rfl ?_
  obtain ⟨w13,s13⟩:=w12.pick' [1,0] 2 rfl rfl rfl
  obtain ⟨r14,e14,hp⟩:=ag hp
  refine aJ (aB.P rfl ⟨w13,(f2_0.step (s4.trans (s12.trans s13)))⟩ e14) ?_
  rintro _ H15 ⟨rfl,w15,s15,_⟩
  refine ac rfl ?_
  obtain ⟨w16,s16⟩:=w15.pick' [1] 2 rfl rfl rfl
  exact ay hp ⟨_,_,_,_,rfl,rfl,w16,(s0.trans (s2.trans (s4.trans (s12.trans (s13.trans (s15.trans s16)))))),(f12_0.step (s13.trans (s15.trans s16)))⟩
def cz.Q (H0:Hp) (Ri R0:List Rs)  (r:List Int) (v:AV) (H':Hp):Prop:=∃ o0a:ON,∃ o0n:Nat,∃ o0c:Cap,∃ o0k:List AV,v=(.sl ⟨o0a,o0n,o0c⟩)/\o0n=(r).length/\Out H0 Ri H' (Rs.own ⟨o0a,o0n,o0c⟩ (ae .u8).z o0k :: R0) λR=>CR (ae .u8) H' R o0k (r)
def cz.p (F:Nat) (aj:List Int) (ah:Int):Option (List Int):=(apn ([ah,(IntKind.u8.wrap (ah+7)),(IntKind.u8.wrap (3 * ah))]:List Int) aj).bind λl3=>some l3
theorem cz.P {F:Nat} {aN:ON} {aE:Nat} {aO:Cap} {aj:List Int} {ah:Int} {H:Hp} {R0:List Rs} (bj:aE=aj.length) (h0:Inn H R0 λR=>ROs (ae .u8) H R ⟨aN,aE,aO⟩ aj) {r:List Int} (hp:cz.p F aj ah=some r):∃ v H',cz.tw F ⟨aN,aE,aO⟩ ah H=some (v,H')/\cz.Q H R0 R0  r v H':=by
 obtain ⟨w0,bl⟩:=h0
 subst bj
 unfold cz.p at hp
 unfold cz.tw cz.twX
 have s0:=w0.rf
 refine eU (ae .u8) w0 (n:=3) (l:=([ah,(IntKind.u8.wrap (ah+7)),(IntKind.u8.wrap (3 * ah))]:List Int)) rfl (CR.cons1 rfl (CR.cons1 rfl (CR.cons1 rfl CR.empty))) rfl λH1 w1 s1 c1=>?_
 obtain ⟨x2,h2,c2⟩:=(bl.step s1).row rfl
 refine ac h2 ?_
 obtain ⟨l3,e3,hp⟩:=ag hp
 refine iO (ae .u8) w1 (i:=0) rfl rfl c1 c2 rfl rfl e3 λa4 d4 H4 w4 s4 c4 x4=>?_
 exact ay hp ⟨_,_,_,_,rfl,rfl,w4,(s0.trans (s1.trans s4)),c4⟩
def bW.Q (H0:Hp) (Ri R0:List Rs)  (r:List Int) (v:AV) (H':Hp):Prop:=∃ o0a:ON,∃ o0n:Nat,∃ o0c:Cap,∃ o0k:List AV,v=(.sl ⟨o0a,o0n,o0c⟩)/\o0n=(r).length/\Out H0 Ri H' (Rs.own ⟨o0a,o0n,o0c⟩ (ae .i64).z o0k :: R0) λR=>CR (ae .i64) H' R o0k (r)
def bW.p (F:Nat) (aj:List Int):Option (List Int):=(aP.p F aj).bind λr1=>(aQ.p F r1.1 r1.2.1 r1.2.2).bind λr3=>some r3.1
theorem bW.P {F:Nat} {aN:ON} {aE:Nat} {aO:Cap} {aj:List Int} {H:Hp} {R0:List Rs} (bj:aE=aj.length) (h0:Inn H R0 λR=>ROs (ae .u8) H R ⟨aN,aE,aO⟩ aj) {r:List Int} (hp:bW.p F aj=some r):∃ v H',bW.tw F ⟨aN,aE,aO⟩ H=some (v,H')/\bW.Q H R0 R0  r v H':=by
 obtain ⟨w0,bl⟩:=h0
 subst bj
 unfold bW.p at hp
 unfold bW.tw bW.twX
 have s0:=w0.rf
 obtain ⟨r1,e1,hp⟩:=ag hp
 refine aJ (aP.P rfl ⟨w0,bl⟩ e1) ?_
 rintro _ H2 ⟨o0a_2,o0n_2,o0c_2,ob0_2,rfl,rfl,w2,s2,f2_0⟩
 refine ac rfl ?_
 obtain ⟨r3,e3,hp⟩:=ag hp
 refine aJ (aQ.P rfl ⟨w2,f2_0⟩ e3) ?_
 rintro _ H4 ⟨o0a_4,o0n_4,o0c_4,o0k_4,rfl,rfl,w4,s4,f4_0⟩
 refine ac rfl ?_
 obtain ⟨w5,s5⟩:=w4.pick' [0] 2 rfl rfl rfl
 exact ay hp ⟨_,_,_,_,rfl,rfl,w5,(s0.trans (s2.trans (s4.trans s5))),(f4_0.step s5)⟩
def bf.Q (H0:Hp) (Ri R0:List Rs)  (r:Bool) (v:AV) (H':Hp):Prop:=v=(.bool r)/\Out H0 Ri H' (R0) λR=>True
def bf.p (F:Nat) (aa:Int) (ah:Int) (cW:Int):Option (Bool):=(bif (decide (aa>=ah)) then (some (decide (aa<=cW))) else (some false))
theorem bf.P {F:Nat} {aa ah cW:Int} {H:Hp} {R0:List Rs}  (h0:Inn H R0 λR=>True) {r:Bool} (hp:bf.p F aa ah cW=some r):∃ v H',bf.tw F aa ah cW H=some (v,H')/\bf.Q H R0 R0  r v H':=by
 obtain ⟨w0,_⟩:=h0
 unfold bf.p at hp
 unfold bf.tw bf.twX
 have s0:=w0.rf
 refine aH hp (λhp=>?_) λhp=>?_
 ·exact ay hp ⟨rfl,w0,s0,trivial⟩
 ·exact ay hp ⟨rfl,w0,s0,trivial⟩
def aD.Q (H0:Hp) (Ri R0:List Rs)  (r:Bool) (v:AV) (H':Hp):Prop:=v=(.bool r)/\Out H0 Ri H' (R0) λR=>True
def aD.S13 (H0:Hp) (Ri R0:List Rs)  (C:Sl->Int->Hp->OA) (pC:List Int->Int->Option (Bool)):Prop:=∀ {fO:ON} {eQ:Nat} {fP:Cap} {ct:List Int} {bF:Int},∀ {H:Hp},eQ=ct.length->(Out H0 Ri H R0 λR=>ROs (ae .i64) H R ⟨fO,eQ,fP⟩ ct)->∀ {r:Bool},pC ct bF=some r->∃ v H',C ⟨fO,eQ,fP⟩ bF H=some (v,H')/\aD.Q H0 Ri R0  r v H'
def aD.pj1 (F:Nat)  (kH:List Int):Option (Bool):=some (decide ((kH.length:Int)<=120))
theorem aD.j1_P {F:Nat} {H0:Hp} {Ri R0:List Rs}   {sf:ON} {nU:Nat} {si:Cap} {kH:List Int} {H:Hp} (xP:nU=kH.length) (h0:Out H0 Ri H R0 λR=>ROs (ae .i64) H R ⟨sf,nU,si⟩ kH) {r:Bool} (hp:aD.pj1 F  kH=some r):∃ v H',aD.j1 F (bf.tw F)  ⟨sf,nU,si⟩ H=some (v,H')/\aD.Q H0 Ri R0  r v H':=by
 obtain ⟨w0,s0,BD⟩:=h0
 subst xP
 unfold aD.pj1 at hp
 unfold aD.j1
 exact ay hp ⟨rfl,w0,s0,trivial⟩
def aD.pl13 (F:Nat) :Nat->List Int->Int->Option (Bool)
 | 0,_,_=>none
 | k+1,ct,bF=>(bif (decide (bF<(ct.length:Int))) then ((ix ct bF).bind λn1=>(bif ((gt ct n1) == 0) then (some false) else ((ix ct bF).bind λn2=>(bf.p F (gt ct n2) (-24) 24).bind λr3=>(bif (!r3) then (some false) else (aD.pl13 F k ct (IntKind.i64.wrap (bF+1))))))) else (aD.pj1 F ct))
termination_by structural n=>n
theorem aD.l13_P {F:Nat} {H0:Hp} {Ri R0:List Rs}  :∀ k,aD.S13 H0 Ri R0  (aD.l13 F (bf.tw F)  k) (aD.pl13 F  k):=by
 intro k
 induction k with
 | zero=>unfold aD.S13;intros;rename_i hp;cases hp
 | succ k ih=>
  intro fO eQ fP ct bF H kI h0 r hp
  obtain ⟨w0,s0,gm⟩:=h0
  subst kI
  unfold aD.pl13 at hp
  unfold aD.l13
  refine aH hp (λhp=>?_) λhp=>?_
  ·obtain ⟨n1,g1,hp⟩:=ag hp
   obtain ⟨p1,q1,i1,h1,j1⟩:=ROs.ixr gm rfl g1
   refine ac i1 ?_
   have h1:_=[_]:=h1
   subst h1
   refine ac (av (j1 0 _ rfl)) ?_
   refine aH hp (λhp=>?_) λhp=>?_
   ·exact ay hp ⟨rfl,w0,s0,trivial⟩
   ·obtain ⟨n2,g2,hp⟩:=ag hp
    obtain ⟨p2,q2,i2,h2,j2⟩:=ROs.ixr gm rfl g2
    refine ac i2 ?_
    have h2:_=[_]:=h2
    subst h2
    refine ac (av (j2 0 _ rfl)) ?_
    obtain ⟨r3,e3,hp⟩:=ag hp
    refine aJ (bf.P ⟨w0,trivial⟩ e3) ?_
    rintro _ H4 ⟨rfl,w4,s4,_⟩
    refine ac rfl ?_
    refine aH hp (λhp=>?_) λhp=>?_
    ·exact ay hp ⟨rfl,w4,(s0.trans s4),trivial⟩
    ·exact ih rfl ⟨w4,(s0.trans s4),(gm.step s4)⟩ hp
  ·exact aD.j1_P rfl ⟨w0,s0,gm⟩ hp
def aD.p (F:Nat) (aj:List Int):Option (Bool):=aD.pl13 F F aj 0
theorem aD.P {F:Nat} {aN:ON} {aE:Nat} {aO:Cap} {aj:List Int} {H:Hp} {R0:List Rs} (bj:aE=aj.length) (h0:Inn H R0 λR=>ROs (ae .i64) H R ⟨aN,aE,aO⟩ aj) {r:Bool} (hp:aD.p F aj=some r):∃ v H',aD.tw F ⟨aN,aE,aO⟩ H=some (v,H')/\aD.Q H R0 R0  r v H':=by
 obtain ⟨w0,bl⟩:=h0
 subst bj
 unfold aD.p at hp
 unfold aD.tw aD.twX
 have s0:=w0.rf
 exact aD.l13_P F rfl ⟨w0,s0,bl⟩ hp
def cZ.Q (H0:Hp) (Ri R0:List Rs)  (r:Int) (v:AV) (H':Hp):Prop:=v=(.i r)/\Out H0 Ri H' (R0) λR=>True
def cZ.p (F:Nat) (aa:Int):Option (Int):=(bif (decide (aa<0)) then (some (IntKind.i64.wrap (0 - aa))) else (some aa))
theorem cZ.P {F:Nat} {aa:Int} {H:Hp} {R0:List Rs}  (h0:Inn H R0 λR=>True) {r:Int} (hp:cZ.p F aa=some r):∃ v H',cZ.tw F aa H=some (v,H')/\cZ.Q H R0 R0  r v H':=by
 obtain ⟨w0,_⟩:=h0
 unfold cZ.p at hp
 unfold cZ.tw cZ.twX
 have s0:=w0.rf
 refine aH hp (λhp=>?_) λhp=>?_
 ·exact ay hp ⟨rfl,w0,s0,trivial⟩
 ·exact ay hp ⟨rfl,w0,s0,trivial⟩
def bX.Q (H0:Hp) (Ri R0:List Rs) (cX:Int) (ah:Nat) (r:Bool) (v:AV) (H':Hp):Prop:=v=(.bool r)/\Out H0 Ri H' (Rs.blk ah [.i cX] :: R0) λR=>True
def bX.p (F:Nat) (aa:Int) (cX:Int):Option (Bool):=(bif (aa == 0) then (some true) else ((cZ.p F aa).bind λr1=>(bif (decide (r1>cX)) then (some true) else (some (decide (aa<(IntKind.i64.wrap (0 - cX))))))))
theorem bX.P {F:Nat} {aa cX:Int} {ah:Nat} {H:Hp} {R0:List Rs}  (h0:Inn H (Rs.blk ah [.i cX] :: R0) λR=>True) {r:Bool} (hp:bX.p F aa cX=some r):∃ v H',bX.tw F aa ah 0 H=some (v,H')/\bX.Q H (Rs.blk ah [.i cX] :: R0) R0 cX ah r v H':=by
 obtain ⟨w0,_⟩:=h0
 unfold bX.p at hp
 unfold bX.tw bX.twX
 have s0:=w0.rf
 refine aH hp (λhp=>?_) λhp=>?_
 ·exact ay hp ⟨rfl,w0,s0,trivial⟩
 ·obtain ⟨r1,e1,hp⟩:=ag hp
  refine aJ (cZ.P ⟨w0,trivial⟩ e1) ?_
  rintro _ H2 ⟨rfl,w2,s2,_⟩
  refine ac rfl ?_
  refine iP (W.cons_of (Rn:=[]) w0 w2 s2) ?_
  refine ac (av (w2.ld (i:=0) rfl rfl)) ?_
  refine aH hp (λhp=>?_) λhp=>?_
  ·exact ay hp ⟨rfl,w2,(s0.trans s2),trivial⟩
  ·refine ac (av (w2.ld (i:=0) rfl rfl)) ?_
   exact ay hp ⟨rfl,w2,(s0.trans s2),trivial⟩
def aU.Q (H0:Hp) (Ri R0:List Rs) (cX:Int) (ah:Nat) (r:Int) (v:AV) (H':Hp):Prop:=v=(.i r)/\Out H0 Ri H' (Rs.blk ah [.i cX] :: R0) λR=>True
def aU.S13 (H0:Hp) (Ri R0:List Rs) (hY:Int) (kJ:Nat) (C:Sl->Nat->Nat->Int->Int->Hp->OA) (pC:List Int->Int->Int->Int->Option (Int)):Prop:=∀ {nV:ON} {mf:Nat} {nW:Cap} {hZ:List Int} {el dC:Int},∀ {H:Hp},mf=hZ.length->(Out H0 Ri H (Rs.blk kJ [.i hY] :: R0) λR=>ROs (ae .i64) H R ⟨nV,mf,nW⟩ hZ)->∀ {r:Int},pC hZ hY el dC=some r->∃ v H',C ⟨nV,mf,nW⟩ kJ 0 el dC H=some (v,H')/\aU.Q H0 Ri R0 hY kJ r v H'
def aU.pl13 (F:Nat) :Nat->List Int->Int->Int->Int->Option (Int)
 | 0,_,_,_,_=>none
 | k+1,hZ,hY,el,dC=>(bif (decide (dC<el)) then ((ix hZ dC).bind λn1=>(bX.p F (gt hZ n1) hY).bind λr2=>(bif r2 then (some dC) else (aU.pl13 F k hZ hY el (IntKind.i64.wrap (dC+1))))) else (some (-1)))
termination_by structural n=>n
theorem aU.l13_P {F:Nat} {H0:Hp} {Ri R0:List Rs} {hY:Int} {kJ:Nat} :∀ k,aU.S13 H0 Ri R0 hY kJ (aU.l13 F (bX.tw F)  k) (aU.pl13 F  k):=by
 intro k
 induction k with
 | zero=>unfold aU.S13;intros;rename_i hp;cases hp
 | succ k ih=>
  intro nV mf nW hZ el dC H xQ h0 r hp
  obtain ⟨w0,s0,sj⟩:=h0
  subst xQ
  unfold aU.pl13 at hp
  unfold aU.l13
  refine aH hp (λhp=>?_) λhp=>?_
  ·obtain ⟨n1,g1,hp⟩:=ag hp
   obtain ⟨p1,q1,i1,h1,j1⟩:=ROs.ixr sj rfl g1
   refine ac i1 ?_
   have h1:_=[_]:=h1
   subst h1
   refine ac (av (j1 0 _ rfl)) ?_
   obtain ⟨r2,e2,hp⟩:=ag hp
   refine aJ (bX.P ⟨w0,trivial⟩ e2) ?_
   rintro _ H3 ⟨rfl,w3,s3,_⟩
   refine ac rfl ?_
   refine aH hp (λhp=>?_) λhp=>?_
   ·exact ay hp ⟨rfl,w3,(s0.trans s3),trivial⟩
   ·exact ih rfl ⟨w3,(s0.trans s3),(sj.step s3)⟩ hp
  ·exact ay hp ⟨rfl,w0,s0,trivial⟩
def aU.p (F:Nat) (aj:List Int) (cX:Int):Option (Int):=aU.pl13 F F aj cX (aj.length:Int) 0
theorem aU.P {F:Nat} {aN:ON} {aE ah:Nat} {aO:Cap} {aj:List Int} {cX:Int} {H:Hp} {R0:List Rs} (bj:aE=aj.length) (h0:Inn H (Rs.blk ah [.i cX] :: R0) λR=>ROs (ae .i64) H R ⟨aN,aE,aO⟩ aj) {r:Int} (hp:aU.p F aj cX=some r):∃ v H',aU.tw F ⟨aN,aE,aO⟩ ah 0 H=some (v,H')/\aU.Q H (Rs.blk ah [.i cX] :: R0) R0 cX ah r v H':=by
 obtain ⟨w0,bl⟩:=h0
 subst bj
 unfold aU.p at hp
 unfold aU.tw aU.twX
 have s0:=w0.rf
 exact aU.l13_P F rfl ⟨w0,s0,bl⟩ hp
def cI.Q (H0:Hp) (Ri R0:List Rs) (cX:Int) (ah:Nat) (r:Bool) (v:AV) (H':Hp):Prop:=v=(.bool r)/\Out H0 Ri H' (Rs.blk ah [.i cX] :: R0) λR=>True
def cI.p (F:Nat) (aj:List Int) (cX:Int):Option (Bool):=(aU.p F aj cX).bind λr1=>some (decide (r1>=0))
theorem cI.P {F:Nat} {aN:ON} {aE ah:Nat} {aO:Cap} {aj:List Int} {cX:Int} {H:Hp} {R0:List Rs} (bj:aE=aj.length) (h0:Inn H (Rs.blk ah [.i cX] :: R0) λR=>ROs (ae .i64) H R ⟨aN,aE,aO⟩ aj) {r:Bool} (hp:cI.p F aj cX=some r):∃ v H',cI.tw F ⟨aN,aE,aO⟩ ah 0 H=some (v,H')/\cI.Q H (Rs.blk ah [.i cX] :: R0) R0 cX ah r v H':=by
 obtain ⟨w0,bl⟩:=h0
 subst bj
 unfold cI.p at hp
 unfold cI.tw cI.twX
 have s0:=w0.rf
 obtain ⟨r1,e1,hp⟩:=ag hp
 refine aJ (aU.P rfl ⟨w0,bl⟩ e1) ?_
 rintro _ H2 ⟨rfl,w2,s2,_⟩
 refine ac rfl ?_
 exact ay hp ⟨rfl,w2,(s0.trans s2),trivial⟩
def cJ.Q (H0:Hp) (Ri R0:List Rs)  (r:Bool) (v:AV) (H':Hp):Prop:=v=(.bool r)/\Out H0 Ri H' (R0) λR=>True
def cJ.p (F:Nat) (aj:List Int) (ah:Int):Option (Bool):=(bif (decide ((aj.length:Int)<=120)) then ((cI.p F aj ah).bind λr2=>some (!r2)) else (some false))
theorem cJ.P {F:Nat} {aN:ON} {aE:Nat} {aO:Cap} {aj:List Int} {ah:Int} {H:Hp} {R0:List Rs} (bj:aE=aj.length) (h0:Inn H R0 λR=>ROs (ae .i64) H R ⟨aN,aE,aO⟩ aj) {r:Bool} (hp:cJ.p F aj ah=some r):∃ v H',cJ.tw F ⟨aN,aE,aO⟩ ah H=some (v,H')/\cJ.Q H R0 R0  r v H':=by
 obtain ⟨w0,bl⟩:=h0
 subst bj
 unfold cJ.p at hp
 unfold cJ.tw cJ.twX
 have s0:=w0.rf
 refine bo w0 λH1 w1 s1=>?_
 refine aH hp (λhp=>?_) λhp=>?_
 ·obtain ⟨r2,e2,hp⟩:=ag hp
  refine aJ (cI.P rfl ⟨w1,(bl.step s1)⟩ e2) ?_
  rintro _ H3 ⟨rfl,w3,s3,_⟩
  refine ac rfl ?_
  obtain ⟨w4,s4⟩:=w3.pick' [] 1 rfl rfl rfl
  exact ay hp ⟨rfl,w4,(s0.trans (s1.trans (s3.trans s4))),trivial⟩
 ·obtain ⟨w5,s5⟩:=w1.pick' [] 1 rfl rfl rfl
  exact ay hp ⟨rfl,w5,(s0.trans (s1.trans s5)),trivial⟩
def cC.Q (H0:Hp) (Ri R0:List Rs)  (r:Bool) (v:AV) (H':Hp):Prop:=v=(.bool r)/\Out H0 Ri H' (R0) λR=>True
def cC.p (F:Nat) (aj:List Int):Option (Bool):=(cJ.p F aj 24).bind λr1=>some r1
theorem cC.P {F:Nat} {aN:ON} {aE:Nat} {aO:Cap} {aj:List Int} {H:Hp} {R0:List Rs} (bj:aE=aj.length) (h0:Inn H R0 λR=>ROs (ae .i64) H R ⟨aN,aE,aO⟩ aj) {r:Bool} (hp:cC.p F aj=some r):∃ v H',cC.tw F ⟨aN,aE,aO⟩ H=some (v,H')/\cC.Q H R0 R0  r v H':=by
 obtain ⟨w0,bl⟩:=h0
 subst bj
 unfold cC.p at hp
 unfold cC.tw cC.twX
 have s0:=w0.rf
 obtain ⟨r1,e1,hp⟩:=ag hp
 refine aJ (cJ.P rfl ⟨w0,bl⟩ e1) ?_
 rintro _ H2 ⟨rfl,w2,s2,_⟩
 refine ac rfl ?_
 exact ay hp ⟨rfl,w2,(s0.trans s2),trivial⟩
def bY.Q (H0:Hp) (Ri R0:List Rs)  (r:Bool) (v:AV) (H':Hp):Prop:=v=(.bool r)/\Out H0 Ri H' (R0) λR=>True
def bY.p (F:Nat) (aa:Int) (ah:Int) (cW:Int):Option (Bool):=(bif (decide (ah<=aa)) then (some (decide (aa<=cW))) else (some false))
theorem bY.P {F:Nat} {aa ah cW:Int} {H:Hp} {R0:List Rs}  (h0:Inn H R0 λR=>True) {r:Bool} (hp:bY.p F aa ah cW=some r):∃ v H',bY.tw F aa ah cW H=some (v,H')/\bY.Q H R0 R0  r v H':=by
 obtain ⟨w0,_⟩:=h0
 unfold bY.p at hp
 unfold bY.tw bY.twX
 have s0:=w0.rf
 refine aH hp (λhp=>?_) λhp=>?_
 ·exact ay hp ⟨rfl,w0,s0,trivial⟩
 ·exact ay hp ⟨rfl,w0,s0,trivial⟩
def cn.Q (H0:Hp) (Ri R0:List Rs)  (r:List Int) (v:AV) (H':Hp):Prop:=∃ o0a:ON,∃ o0n:Nat,∃ o0c:Cap,∃ o0k:List AV,v=(.sl ⟨o0a,o0n,o0c⟩)/\o0n=(r).length/\Out H0 Ri H' (Rs.own ⟨o0a,o0n,o0c⟩ (ae .i64).z o0k :: R0) λR=>CR (ae .i64) H' R o0k (r)
def cn.p (F:Nat) (aj:List Int):Option (List Int):=apn ([]:List Int) aj
theorem cn.P {F:Nat} {aN:ON} {aE:Nat} {aO:Cap} {aj:List Int} {H:Hp} {R0:List Rs} (bj:aE=aj.length) (h0:Inn H R0 λR=>ROs (ae .i64) H R ⟨aN,aE,aO⟩ aj) {r:List Int} (hp:cn.p F aj=some r):∃ v H',cn.tw F ⟨aN,aE,aO⟩ H=some (v,H')/\cn.Q H R0 R0  r v H':=by
 obtain ⟨w0,f0⟩:=h0
 subst bj
 unfold cn.p at hp
 unfold cn.tw cn.twX
 have s0:=w0.rf
 refine Av (λhb=>?_) (λhb=>?_)
 ·obtain ⟨w1,s1⟩:=w0.nilS (ae .i64).z (by decide)
  obtain rfl:=ROs.none_nil f0 (Option.isNone_iff_eq_none.1 hb)
  obtain rfl:r=[]:=(vQ hp).2
  exact ⟨_,_,rfl,none,0,.ex 0,[],rfl,rfl,w1,s0.trans s1,CR.empty⟩
 ·refine eU (ae .i64) w0 (n:=0) (l:=[]) rfl CR.empty rfl λH2 w2 s2 c2=>?_
  obtain ⟨xs,hx,cx⟩:=(f0.step s2).row rfl
  refine ac hx ?_
  refine iO (ae .i64) w2 (i:=0) rfl rfl c2 cx rfl rfl hp λa d H3 w3 s3 c3 _=>?_
  dsimp only [List.set] at w3 s3 c3
  exact ⟨_,_,rfl,_,_,_,_,rfl,rfl,w3,s0.trans (s2.trans s3),c3⟩
def au.Q (H0:Hp) (Ri R0:List Rs)  (r:Int×List Int) (v:AV) (H':Hp):Prop:=∃ o1a:ON,∃ o1n:Nat,∃ o1c:Cap,∃ o1k:List AV,v=(.agg [(.i r.1),(.sl ⟨o1a,o1n,o1c⟩)])/\o1n=(r.2).length/\Out H0 Ri H' (Rs.own ⟨o1a,o1n,o1c⟩ (ae .i64).z o1k :: R0) λR=>CR (ae .i64) H' R o1k (r.2)
def au.S6 (H0:Hp) (Ri R0:List Rs)  (C:Nat->Nat->Nat->Nat->Hp->OA) (pC:Int->List Int->Option (Int×List Int)):Prop:=∀ {iE sk:Int} {nX nY:ON} {mg dE mh eJ:Nat} {nZ n_:Cap} {fv oa:List Int} {ob:List AV},∀ {H:Hp},mg=fv.length->mh=oa.length->(Out H0 Ri H (Rs.blk dE [.i iE,.sl ⟨nX,mg,nZ⟩] :: Rs.own ⟨nY,mh,n_⟩ (ae .i64).z ob :: Rs.blk eJ [.i sk,.sl ⟨nY,mh,n_⟩] :: R0) λR=>ROs (ae .i64) H R ⟨nX,mg,nZ⟩ fv/\CR (ae .i64) H R ob oa)->∀ {r:Int×List Int},pC iE fv=some r->∃ v H',C dE 0 eJ 0 H=some (v,H')/\au.Q H0 Ri R0  r v H'
def au.S14 (H0:Hp) (Ri R0:List Rs)  (C:Nat->Nat->Nat->Nat->Hp->OA) (pC:Int->List Int->Option (Int×List Int)):Prop:=∀ {iF sm:Int} {oc od:ON} {mi dD mj eH:Nat} {oe og:Cap} {fk oh:List Int} {ol:List AV},∀ {H:Hp},mi=fk.length->mj=oh.length->(Out H0 Ri H (Rs.blk dD [.i iF,.sl ⟨oc,mi,oe⟩] :: Rs.own ⟨od,mj,og⟩ (ae .i64).z ol :: Rs.blk eH [.i sm,.sl ⟨od,mj,og⟩] :: R0) λR=>ROs (ae .i64) H R ⟨oc,mi,oe⟩ fk/\CR (ae .i64) H R ol oh)->∀ {r:Int×List Int},pC iF fk=some r->∃ v H',C dD 0 eH 0 H=some (v,H')/\au.Q H0 Ri R0  r v H'
def au.pj1 (F:Nat)  (ml:Int) (kb:List Int):Option (Int×List Int):=(bif ((kb.length:Int) == 0) then (some (0,([]:List Int))) else ((cn.p F kb).bind λr5=>some (ml,r5)))
theorem au.j1_P {F:Nat} {H0:Hp} {Ri R0:List Rs}   {ml xR:Int} {sp sq:ON} {om jg oq fD:Nat} {sr su:Cap} {kb sv:List Int} {sw:List AV} {H:Hp} (xS:om=kb.length) (xT:oq=sv.length) (h0:Out H0 Ri H (Rs.blk jg [.i ml,.sl ⟨sp,om,sr⟩] :: Rs.own ⟨sq,oq,su⟩ (ae .i64).z sw :: Rs.blk fD [.i xR,.sl ⟨sq,oq,su⟩] :: R0) λR=>ROs (ae .i64) H R ⟨sp,om,sr⟩ kb/\CR (ae .i64) H R sw sv) {r:Int×List Int} (hp:au.pj1 F  ml kb=some r):∃ v H',au.j1 F (cn.tw F)  jg 0 fD 0 H=some (v,H')/\au.Q H0 Ri R0  r v H':=by
 obtain ⟨w0,s0,xU,BE⟩:=h0
 subst xS
 subst xT
 unfold au.pj1 at hp
 unfold au.j1
 refine ac (aA (w0.ld (i:=0) rfl rfl)) ?_
 refine aH hp (λhp=>?_) λhp=>?_
 ·refine aF w0 (i:=2) rfl rfl rfl λH1 w1 s1=>?_
  refine aF w1 (i:=2) rfl rfl rfl λH2 w2 s2=>?_
  refine ac (av (w2.ld (i:=2) rfl rfl)) ?_
  refine ac (aA (w2.ld (i:=2) rfl rfl)) ?_
  obtain ⟨w3,s3⟩:=w2.nilS (ae .i64).z (by decide)
  obtain ⟨w4,s4⟩:=w3.pick' [0] 4 rfl rfl rfl
  dsimp only [pk,pks,nth,List.drop,List.set,List.eraseIdx] at w4 s1 s2 s3 s4
  exact ay hp ⟨_,_,_,_,rfl,rfl,w4,(s0.trans (s1.trans (s2.trans (s3.trans s4)))),((CR.empty:CR (ae .i64) _ _ [] []).step s4)⟩
 ·refine ac (av (w0.ld (i:=0) rfl rfl)) ?_
  refine ac (aA (w0.ld (i:=0) rfl rfl)) ?_
  obtain ⟨r5,e5,hp⟩:=ag hp
  refine aJ (cn.P rfl ⟨w0,xU⟩ e5) ?_
  rintro _ H6 ⟨o0a_6,o0n_6,o0c_6,o0k_6,rfl,rfl,w6,s6,f6_0⟩
  refine ac rfl ?_
  refine iP (W.cons_of (Rn:=[_]) w0 w6 s6) ?_
  refine aF w6 (i:=3) rfl rfl rfl λH8 w8 s8=>?_
  refine aF w8 (i:=3) rfl rfl rfl λH9 w9 s9=>?_
  refine ac (av (w9.ld (i:=3) rfl rfl)) ?_
  refine ac (aA (w9.ld (i:=3) rfl rfl)) ?_
  obtain ⟨w10,s10⟩:=w9.pick' [0] 4 rfl rfl rfl
  dsimp only [pk,pks,nth,List.drop,List.set,List.eraseIdx] at w10 s8 s9 s10
  exact ay hp ⟨_,_,_,_,rfl,rfl,w10,(s0.trans (s6.trans (s8.trans (s9.trans s10)))),(f6_0.step (s8.trans (s9.trans s10)))⟩
def au.pl14 (F:Nat) :Nat->Int->List Int->Option (Int×List Int)
 | 0,_,_=>none
 | k+1,iF,fk=>(bif (decide ((fk.length:Int)>0)) then ((ix fk (IntKind.i64.wrap ((fk.length:Int) - 1))).bind λn1=>(bif ((gt fk n1) == 0) then ((cutf fk 0 (IntKind.i64.wrap ((fk.length:Int) - 1))).bind λl2=>au.pl14 F k iF l2) else (au.pj1 F iF fk))) else (au.pj1 F iF fk))
termination_by structural n=>n
theorem au.l14_P {F:Nat} {H0:Hp} {Ri R0:List Rs}  :∀ k,au.S14 H0 Ri R0  (au.l14 F (cn.tw F)  k) (au.pl14 F  k):=by
 intro k
 induction k with
 | zero=>unfold au.S14;intros;rename_i hp;cases hp
 | succ k ih=>
  intro iF sm oc od mi dD mj eH oe og fk oh ol H xV xW h0 r hp
  obtain ⟨w0,s0,mm,ou⟩:=h0
  subst xV
  subst xW
  unfold au.pl14 at hp
  unfold au.l14
  refine ac (aA (w0.ld (i:=0) rfl rfl)) ?_
  refine aH hp (λhp=>?_) λhp=>?_
  ·refine ac (aA (w0.ld (i:=0) rfl rfl)) ?_
   refine ac (aA (w0.ld (i:=0) rfl rfl)) ?_
   obtain ⟨n1,g1,hp⟩:=ag hp
   obtain ⟨p1,q1,i1,h1,j1⟩:=ROs.ixr mm rfl g1
   refine ac i1 ?_
   have h1:_=[_]:=h1
   subst h1
   refine ac (av (j1 0 _ rfl)) ?_
   refine aH hp (λhp=>?_) λhp=>?_
   ·refine ac (aA (w0.ld (i:=0) rfl rfl)) ?_
    refine ac (aA (w0.ld (i:=0) rfl rfl)) ?_
    obtain ⟨l2,e2,hp⟩:=ag hp
    obtain ⟨a2,d2,h2,f2⟩:=ROs.cutf mm rfl e2
    refine ac h2 ?_
    refine aF w0 (i:=0) rfl rfl rfl λH3 w3 s3=>?_
    exact ih rfl rfl ⟨w3,(s0.trans s3),(f2.step s3),(ou.step s3)⟩ hp
   ·exact au.j1_P rfl rfl ⟨w0,s0,mm,ou⟩ hp
  ·exact au.j1_P rfl rfl ⟨w0,s0,mm,ou⟩ hp
def au.pj2 (F:Nat)  (mn:Int) (kK:List Int):Option (Int×List Int):=au.pl14 F F mn kK
theorem au.j2_P {F:Nat} {H0:Hp} {Ri R0:List Rs}   {mn xX:Int} {sx sy:ON} {ov lH ox lI:Nat} {sz sA:Cap} {kK sB:List Int} {sC:List AV} {H:Hp} (xY:ov=kK.length) (xZ:ox=sB.length) (h0:Out H0 Ri H (Rs.blk lH [.i mn,.sl ⟨sx,ov,sz⟩] :: Rs.own ⟨sy,ox,sA⟩ (ae .i64).z sC :: Rs.blk lI [.i xX,.sl ⟨sy,ox,sA⟩] :: R0) λR=>ROs (ae .i64) H R ⟨sx,ov,sz⟩ kK/\CR (ae .i64) H R sC sB) {r:Int×List Int} (hp:au.pj2 F  mn kK=some r):∃ v H',au.j2 F (cn.tw F)  lH 0 lI 0 H=some (v,H')/\au.Q H0 Ri R0  r v H':=by
 obtain ⟨w0,s0,x_,ya⟩:=h0
 subst xY
 subst xZ
 unfold au.pj2 at hp
 unfold au.j2
 exact au.l14_P F rfl rfl ⟨w0,s0,x_,ya⟩ hp
def au.pl6 (F:Nat) :Nat->Int->List Int->Option (Int×List Int)
 | 0,_,_=>none
 | k+1,iE,fv=>(bif (decide ((fv.length:Int)>0)) then ((ix fv 0).bind λn1=>(bif ((gt fv n1) == 0) then ((cutf fv 1 (fv.length:Int)).bind λl3=>au.pl6 F k (IntKind.i64.wrap (iE+1)) l3) else (au.pj2 F iE fv))) else (au.pj2 F iE fv))
termination_by structural n=>n
theorem au.l6_P {F:Nat} {H0:Hp} {Ri R0:List Rs}  :∀ k,au.S6 H0 Ri R0  (au.l6 F (cn.tw F)  k) (au.pl6 F  k):=by
 intro k
 induction k with
 | zero=>unfold au.S6;intros;rename_i hp;cases hp
 | succ k ih=>
  intro iE sk nX nY mg dE mh eJ nZ n_ fv oa ob H yb yc h0 r hp
  obtain ⟨w0,s0,mo,oy⟩:=h0
  subst yb
  subst yc
  unfold au.pl6 at hp
  unfold au.l6
  refine ac (aA (w0.ld (i:=0) rfl rfl)) ?_
  refine aH hp (λhp=>?_) λhp=>?_
  ·refine ac (aA (w0.ld (i:=0) rfl rfl)) ?_
   obtain ⟨n1,g1,hp⟩:=ag hp
   obtain ⟨p1,q1,i1,h1,j1⟩:=ROs.ixr mo rfl g1
   refine ac i1 ?_
   have h1:_=[_]:=h1
   subst h1
   refine ac (av (j1 0 _ rfl)) ?_
   refine aH hp (λhp=>?_) λhp=>?_
   ·refine ac (av (w0.ld (i:=0) rfl rfl)) ?_
    refine aF w0 (i:=0) rfl rfl rfl λH2 w2 s2=>?_
    refine ac (aA (w2.ld (i:=0) rfl rfl)) ?_
    obtain ⟨l3,e3,hp⟩:=ag hp
    obtain ⟨a3,d3,h3,f3⟩:=ROs.cutf (mo.step s2) rfl e3
    refine ac h3 ?_
    refine aF w2 (i:=0) rfl rfl rfl λH4 w4 s4=>?_
    exact ih rfl rfl ⟨w4,(s0.trans (s2.trans s4)),(f3.step s4),(oy.step (s2.trans s4))⟩ hp
   ·exact au.j2_P rfl rfl ⟨w0,s0,mo,oy⟩ hp
  ·exact au.j2_P rfl rfl ⟨w0,s0,mo,oy⟩ hp
def au.p (F:Nat) (aa:Int) (az:List Int):Option (Int×List Int):=au.pl6 F F aa az
theorem au.P {F:Nat} {aa:Int} {bD:ON} {bg:Nat} {bE:Cap} {az:List Int} {H:Hp} {R0:List Rs} (da:bg=az.length) (h0:Inn H R0 λR=>ROs (ae .i64) H R ⟨bD,bg,bE⟩ az) {r:Int×List Int} (hp:au.p F aa az=some r):∃ v H',au.tw F aa ⟨bD,bg,bE⟩ H=some (v,H')/\au.Q H R0 R0  r v H':=by
 obtain ⟨w0,bM⟩:=h0
 subst da
 unfold au.p at hp
 unfold au.tw au.twX
 have s0:=w0.rf
 refine bo w0 λH1 w1 s1=>?_
 refine bo w1 λH2 w2 s2=>?_
 obtain ⟨w3,s3⟩:=w2.nilS (ae .i64).z (by decide)
 obtain ⟨w4,s4⟩:=w3.pick' [2,0,1] 3 rfl rfl rfl
 exact au.l6_P F rfl rfl ⟨w4,(s0.trans (s1.trans (s2.trans (s3.trans s4)))),(bM.step (s1.trans (s2.trans (s3.trans s4)))),((CR.empty:CR (ae .i64) _ _ [] []).step s4)⟩ hp
def bG.Q (H0:Hp) (Ri R0:List Rs)  (r:Int×List Int) (v:AV) (H':Hp):Prop:=∃ o1a:ON,∃ o1n:Nat,∃ o1c:Cap,∃ o1k:List AV,v=(.agg [(.i r.1),(.sl ⟨o1a,o1n,o1c⟩)])/\o1n=(r.2).length/\Out H0 Ri H' (Rs.own ⟨o1a,o1n,o1c⟩ (ae .i64).z o1k :: R0) λR=>CR (ae .i64) H' R o1k (r.2)
def bG.p (F:Nat) (aa:Int) (ah:Int):Option (Int×List Int):=(au.p F ah ([aa]:List Int)).bind λr4=>some (r4.1,r4.2)
theorem bG.P {F:Nat} {aa ah:Int} {H:Hp} {R0:List Rs}  (h0:Inn H R0 λR=>True) {r:Int×List Int} (hp:bG.p F aa ah=some r):∃ v H',bG.tw F aa ah H=some (v,H')/\bG.Q H R0 R0  r v H':=by
 obtain ⟨w0,_⟩:=h0
 unfold bG.p at hp
 unfold bG.tw bG.twX
 have s0:=w0.rf
 refine bo w0 λH1 w1 s1=>?_
 refine eU (ae .i64) w1 (n:=1) (l:=([aa]:List Int)) rfl (CR.cons1 rfl CR.empty) rfl λH2 w2 s2 c2=>?_
 have f3:=W.borrow1 (ae .i64) w2 c2
 obtain ⟨w3,s3⟩:=w2.right1
 obtain ⟨r4,e4,hp⟩:=ag hp
 refine aJ (au.P (show 1=List.length ([aa]:List Int) from rfl) ⟨w3,f3⟩ e4) ?_
 rintro _ H5 ⟨o1a_5,o1n_5,o1c_5,o1k_5,rfl,rfl,w5,s5,f5_0⟩
 obtain ⟨w6,s6⟩:=W.frame1 w2 w5 s5
 refine ac rfl ?_
 refine ac rfl ?_
 refine ac rfl ?_
 refine ac rfl ?_
 refine ac rfl ?_
 refine aF w6 (i:=2) rfl rfl rfl λH7 w7 s7=>?_
 refine aF w7 (i:=2) rfl rfl rfl λH8 w8 s8=>?_
 refine ac (av (w8.ld (i:=2) rfl rfl)) ?_
 refine ac (aA (w8.ld (i:=2) rfl rfl)) ?_
 obtain ⟨w9,s9⟩:=w8.pick' [1] 3 rfl rfl rfl
 dsimp only [pk,pks,nth,List.drop,List.set,List.eraseIdx] at w9 s7 s8 s9
 exact ay hp ⟨_,_,_,_,rfl,rfl,w9,(s0.trans (s1.trans (s2.trans (s6.trans (s7.trans (s8.trans s9)))))),((CR.flat (ef .i64) f5_0).step (s7.trans (s8.trans s9)))⟩
def c_.Q (H0:Hp) (Ri R0:List Rs)  (r:Int) (v:AV) (H':Hp):Prop:=v=(.i r)/\Out H0 Ri H' (R0) λR=>True
def c_.p (F:Nat) (aj:List Int):Option (Int):=some (aj.length:Int)
theorem c_.P {F:Nat} {aN:ON} {aE:Nat} {aO:Cap} {aj:List Int} {H:Hp} {R0:List Rs} (bj:aE=aj.length) (h0:Inn H R0 λR=>ROs (ae .i64) H R ⟨aN,aE,aO⟩ aj) {r:Int} (hp:c_.p F aj=some r):∃ v H',c_.tw F ⟨aN,aE,aO⟩ H=some (v,H')/\c_.Q H R0 R0  r v H':=by
 obtain ⟨w0,bl⟩:=h0
 subst bj
 unfold c_.p at hp
 unfold c_.tw c_.twX
 have s0:=w0.rf
 exact ay hp ⟨rfl,w0,s0,trivial⟩
def bp.Q (H0:Hp) (Ri R0:List Rs)  (r:Int) (v:AV) (H':Hp):Prop:=v=(.i r)/\Out H0 Ri H' (R0) λR=>True
def bp.p (F:Nat) (aa:Int) (az:List Int):Option (Int):=(c_.p F az).bind λr2=>some (IntKind.i64.wrap ((IntKind.i64.wrap (aa+r2)) - 1))
theorem bp.P {F:Nat} {aa:Int} {bD:ON} {bg:Nat} {bE:Cap} {az:List Int} {H:Hp} {R0:List Rs} (da:bg=az.length) (h0:Inn H R0 λR=>ROs (ae .i64) H R ⟨bD,bg,bE⟩ az) {r:Int} (hp:bp.p F aa az=some r):∃ v H',bp.tw F aa ⟨bD,bg,bE⟩ H=some (v,H')/\bp.Q H R0 R0  r v H':=by
 obtain ⟨w0,bM⟩:=h0
 subst da
 unfold bp.p at hp
 unfold bp.tw bp.twX
 have s0:=w0.rf
 refine bo w0 λH1 w1 s1=>?_
 refine ac (av (w1.ld (i:=0) rfl rfl)) ?_
 refine ac (aA (w1.ld (i:=0) rfl rfl)) ?_
 obtain ⟨r2,e2,hp⟩:=ag hp
 refine aJ (c_.P rfl ⟨w1,(bM.step s1)⟩ e2) ?_
 rintro _ H3 ⟨rfl,w3,s3,_⟩
 refine ac rfl ?_
 refine iP (W.cons_of (Rn:=[]) w1 w3 s3) ?_
 obtain ⟨w5,s5⟩:=w3.pick' [] 1 rfl rfl rfl
 exact ay hp ⟨rfl,w5,(s0.trans (s1.trans (s3.trans s5))),trivial⟩
def cA.Q (H0:Hp) (Ri R0:List Rs)  (r:Bool) (v:AV) (H':Hp):Prop:=v=(.bool r)/\Out H0 Ri H' (R0) λR=>True
def cA.p (F:Nat) (aa:Int):Option (Bool):=(bY.p F aa (-1000000000000) 1000000000000).bind λr1=>some (!r1)
theorem cA.P {F:Nat} {aa:Int} {H:Hp} {R0:List Rs}  (h0:Inn H R0 λR=>True) {r:Bool} (hp:cA.p F aa=some r):∃ v H',cA.tw F aa H=some (v,H')/\cA.Q H R0 R0  r v H':=by
 obtain ⟨w0,_⟩:=h0
 unfold cA.p at hp
 unfold cA.tw cA.twX
 have s0:=w0.rf
 obtain ⟨r1,e1,hp⟩:=ag hp
 refine aJ (bY.P ⟨w0,trivial⟩ e1) ?_
 rintro _ H2 ⟨rfl,w2,s2,_⟩
 refine ac rfl ?_
 exact ay hp ⟨rfl,w2,(s0.trans s2),trivial⟩
def aV.Q (H0:Hp) (Ri R0:List Rs)  (r:Int) (v:AV) (H':Hp):Prop:=v=(.i r)/\Out H0 Ri H' (R0) λR=>True
def aV.S13 (H0:Hp) (Ri R0:List Rs)  (C:Sl->Int->Int->Hp->OA) (pC:List Int->Int->Int->Option (Int)):Prop:=∀ {fO:ON} {eQ:Nat} {fP:Cap} {ct:List Int} {bZ bv:Int},∀ {H:Hp},eQ=ct.length->(Out H0 Ri H R0 λR=>ROs (ae .i64) H R ⟨fO,eQ,fP⟩ ct)->∀ {r:Int},pC ct bZ bv=some r->∃ v H',C ⟨fO,eQ,fP⟩ bZ bv H=some (v,H')/\aV.Q H0 Ri R0  r v H'
def aV.pl13 (F:Nat) :Nat->List Int->Int->Int->Option (Int)
 | 0,_,_,_=>none
 | k+1,ct,bZ,bv=>(bif (decide (bv<bZ)) then ((ix ct bv).bind λn1=>(cA.p F (gt ct n1)).bind λr2=>(bif r2 then (some bv) else (aV.pl13 F k ct bZ (IntKind.i64.wrap (bv+1))))) else (some (-1)))
termination_by structural n=>n
theorem aV.l13_P {F:Nat} {H0:Hp} {Ri R0:List Rs}  :∀ k,aV.S13 H0 Ri R0  (aV.l13 F (cA.tw F)  k) (aV.pl13 F  k):=by
 intro k
 induction k with
 | zero=>unfold aV.S13;intros;rename_i hp;cases hp
 | succ k ih=>
  intro fO eQ fP ct bZ bv H kI h0 r hp
  obtain ⟨w0,s0,gm⟩:=h0
  subst kI
  unfold aV.pl13 at hp
  unfold aV.l13
  refine aH hp (λhp=>?_) λhp=>?_
  ·obtain ⟨n1,g1,hp⟩:=ag hp
   obtain ⟨p1,q1,i1,h1,j1⟩:=ROs.ixr gm rfl g1
   refine ac i1 ?_
   have h1:_=[_]:=h1
   subst h1
   refine ac (av (j1 0 _ rfl)) ?_
   obtain ⟨r2,e2,hp⟩:=ag hp
   refine aJ (cA.P ⟨w0,trivial⟩ e2) ?_
   rintro _ H3 ⟨rfl,w3,s3,_⟩
   refine ac rfl ?_
   refine aH hp (λhp=>?_) λhp=>?_
   ·exact ay hp ⟨rfl,w3,(s0.trans s3),trivial⟩
   ·exact ih rfl ⟨w3,(s0.trans s3),(gm.step s3)⟩ hp
  ·exact ay hp ⟨rfl,w0,s0,trivial⟩
def aV.p (F:Nat) (aj:List Int):Option (Int):=aV.pl13 F F aj (aj.length:Int) 0
theorem aV.P {F:Nat} {aN:ON} {aE:Nat} {aO:Cap} {aj:List Int} {H:Hp} {R0:List Rs} (bj:aE=aj.length) (h0:Inn H R0 λR=>ROs (ae .i64) H R ⟨aN,aE,aO⟩ aj) {r:Int} (hp:aV.p F aj=some r):∃ v H',aV.tw F ⟨aN,aE,aO⟩ H=some (v,H')/\aV.Q H R0 R0  r v H':=by
 obtain ⟨w0,bl⟩:=h0
 subst bj
 unfold aV.p at hp
 unfold aV.tw aV.twX
 have s0:=w0.rf
 exact aV.l13_P F rfl ⟨w0,s0,bl⟩ hp
def cK.Q (H0:Hp) (Ri R0:List Rs)  (r:Bool) (v:AV) (H':Hp):Prop:=v=(.bool r)/\Out H0 Ri H' (R0) λR=>True
def cK.p (F:Nat) (aj:List Int):Option (Bool):=(aV.p F aj).bind λr1=>some (decide (r1>=0))
theorem cK.P {F:Nat} {aN:ON} {aE:Nat} {aO:Cap} {aj:List Int} {H:Hp} {R0:List Rs} (bj:aE=aj.length) (h0:Inn H R0 λR=>ROs (ae .i64) H R ⟨aN,aE,aO⟩ aj) {r:Bool} (hp:cK.p F aj=some r):∃ v H',cK.tw F ⟨aN,aE,aO⟩ H=some (v,H')/\cK.Q H R0 R0  r v H':=by
 obtain ⟨w0,bl⟩:=h0
 subst bj
 unfold cK.p at hp
 unfold cK.tw cK.twX
 have s0:=w0.rf
 obtain ⟨r1,e1,hp⟩:=ag hp
 refine aJ (aV.P rfl ⟨w0,bl⟩ e1) ?_
 rintro _ H2 ⟨rfl,w2,s2,_⟩
 refine ac rfl ?_
 exact ay hp ⟨rfl,w2,(s0.trans s2),trivial⟩
def bO.Q (H0:Hp) (Ri R0:List Rs)  (r:Bool) (v:AV) (H':Hp):Prop:=v=(.bool r)/\Out H0 Ri H' (R0) λR=>True
def bO.p (F:Nat) (aa:Int) (az:List Int):Option (Bool):=(bif ((az.length:Int) == 0) then (some (aa == 0)) else ((bif (decide ((az.length:Int)<=160)) then ((ix az 0).bind λn3=>(bif ((gt az n3) != 0) then ((ix az (IntKind.i64.wrap ((az.length:Int) - 1))).bind λn4=>(bif ((gt az n4) != 0) then ((bif (decide (aa>=(-240))) then ((bp.p F aa az).bind λr5=>(bif (decide (r5<=240)) then ((bif (decide (aa<=240)) then ((cK.p F az).bind λr7=>some (!r7)) else (some false))) else (some false))) else (some false))) else (some false))) else (some false))) else (some false))))
theorem bO.P {F:Nat} {aa:Int} {bD:ON} {bg:Nat} {bE:Cap} {az:List Int} {H:Hp} {R0:List Rs} (da:bg=az.length) (h0:Inn H R0 λR=>ROs (ae .i64) H R ⟨bD,bg,bE⟩ az) {r:Bool} (hp:bO.p F aa az=some r):∃ v H',bO.tw F aa ⟨bD,bg,bE⟩ H=some (v,H')/\bO.Q H R0 R0  r v H':=by
 obtain ⟨w0,bM⟩:=h0
 subst da
 unfold bO.p at hp
 unfold bO.tw bO.twX
 have s0:=w0.rf
 refine bo w0 λH1 w1 s1=>?_
 refine ac (aA (w1.ld (i:=0) rfl rfl)) ?_
 refine aH hp (λhp=>?_) λhp=>?_
 ·refine ac (av (w1.ld (i:=0) rfl rfl)) ?_
  obtain ⟨w2,s2⟩:=w1.pick' [] 1 rfl rfl rfl
  exact ay hp ⟨rfl,w2,(s0.trans (s1.trans s2)),trivial⟩
 ·refine aH hp (λhp=>?_) λhp=>?_
  ·refine ac (aA (w1.ld (i:=0) rfl rfl)) ?_
   obtain ⟨n3,g3,hp⟩:=ag hp
   obtain ⟨p3,q3,i3,h3,j3⟩:=ROs.ixr (bM.step s1) rfl g3
   refine ac i3 ?_
   have h3:_=[_]:=h3
   subst h3
   refine ac (av (j3 0 _ rfl)) ?_
   refine aH hp (λhp=>?_) λhp=>?_
   ·refine ac (aA (w1.ld (i:=0) rfl rfl)) ?_
    obtain ⟨n4,g4,hp⟩:=ag hp
    obtain ⟨p4,q4,i4,h4,j4⟩:=ROs.ixr (bM.step s1) rfl g4
    refine ac i4 ?_
    have h4:_=[_]:=h4
    subst h4
    refine ac (av (j4 0 _ rfl)) ?_
    refine aH hp (λhp=>?_) λhp=>?_
    ·refine ac (av (w1.ld (i:=0) rfl rfl)) ?_
     refine aH hp (λhp=>?_) λhp=>?_
     ·refine ac (av (w1.ld (i:=0) rfl rfl)) ?_
      refine ac (aA (w1.ld (i:=0) rfl rfl)) ?_
      obtain ⟨r5,e5,hp⟩:=ag hp
      refine aJ (bp.P rfl ⟨w1,(bM.step s1)⟩ e5) ?_
      rintro _ H6 ⟨rfl,w6,s6,_⟩
      refine ac rfl ?_
      refine aH hp (λhp=>?_) λhp=>?_
      ·refine ac (av (w6.ld (i:=0) rfl rfl)) ?_
       refine aH hp (λhp=>?_) λhp=>?_
       ·refine ac (aA (w6.ld (i:=0) rfl rfl)) ?_
        obtain ⟨r7,e7,hp⟩:=ag hp
        refine aJ (cK.P rfl ⟨w6,(bM.step (s1.trans s6))⟩ e7) ?_
        rintro _ H8 ⟨rfl,w8,s8,_⟩
        refine ac rfl ?_
        obtain ⟨w9,s9⟩:=w8.pick' [] 1 rfl rfl rfl
        exact ay hp ⟨rfl,w9,(s0.trans (s1.trans (s6.trans (s8.trans s9)))),trivial⟩
       ·obtain ⟨w10,s10⟩:=w6.pick' [] 1 rfl rfl rfl
        exact ay hp ⟨rfl,w10,(s0.trans (s1.trans (s6.trans s10))),trivial⟩
      ·obtain ⟨w11,s11⟩:=w6.pick' [] 1 rfl rfl rfl
       exact ay hp ⟨rfl,w11,(s0.trans (s1.trans (s6.trans s11))),trivial⟩
     ·obtain ⟨w12,s12⟩:=w1.pick' [] 1 rfl rfl rfl
      exact ay hp ⟨rfl,w12,(s0.trans (s1.trans s12)),trivial⟩
    ·obtain ⟨w13,s13⟩:=w1.pick' [] 1 rfl rfl rfl
     exact ay hp ⟨rfl,w13,(s0.trans (s1.trans s13)),trivial⟩
   ·obtain ⟨w14,s14⟩:=w1.pick' [] 1 rfl rfl rfl
    exact ay hp ⟨rfl,w14,(s0.trans (s1.trans s14)),trivial⟩
  ·obtain ⟨w15,s15⟩:=w1.pick' [] 1 rfl rfl rfl
   exact ay hp ⟨rfl,w15,(s0.trans (s1.trans s15)),trivial⟩
def cp.Q (H0:Hp) (Ri R0:List Rs)  (r:Bool) (v:AV) (H':Hp):Prop:=v=(.bool r)/\Out H0 Ri H' (R0) λR=>True
def cp.p (F:Nat) (aa:Int) (az:List Int):Option (Bool):=(bO.p F aa az).bind λr2=>some (!r2)
theorem cp.P {F:Nat} {aa:Int} {bD:ON} {bg:Nat} {bE:Cap} {az:List Int} {H:Hp} {R0:List Rs} (da:bg=az.length) (h0:Inn H R0 λR=>ROs (ae .i64) H R ⟨bD,bg,bE⟩ az) {r:Bool} (hp:cp.p F aa az=some r):∃ v H',cp.tw F aa ⟨bD,bg,bE⟩ H=some (v,H')/\cp.Q H R0 R0  r v H':=by
 obtain ⟨w0,bM⟩:=h0
 subst da
 unfold cp.p at hp
 unfold cp.tw cp.twX
 have s0:=w0.rf
 refine bo w0 λH1 w1 s1=>?_
 refine ac (av (w1.ld (i:=0) rfl rfl)) ?_
 refine ac (aA (w1.ld (i:=0) rfl rfl)) ?_
 obtain ⟨r2,e2,hp⟩:=ag hp
 refine aJ (bO.P rfl ⟨w1,(bM.step s1)⟩ e2) ?_
 rintro _ H3 ⟨rfl,w3,s3,_⟩
 refine ac rfl ?_
 obtain ⟨w4,s4⟩:=w3.pick' [] 1 rfl rfl rfl
 exact ay hp ⟨rfl,w4,(s0.trans (s1.trans (s3.trans s4))),trivial⟩
def aT.Q (H0:Hp) (Ri R0:List Rs)  (r:Int) (v:AV) (H':Hp):Prop:=v=(.i r)/\Out H0 Ri H' (R0) λR=>True
def aT.S13 (H0:Hp) (Ri R0:List Rs)  (C:Sl->Int->Int->Hp->OA) (pC:List (Int×List Int)->Int->Int->Option (Int)):Prop:=∀ {fO:ON} {eQ:Nat} {fP:Cap} {ct:List (Int×List Int)} {bZ bv:Int},∀ {H:Hp},eQ=ct.length->(Out H0 Ri H R0 λR=>ROs (eg (ae .i64) (eSl (ae .i64))) H R ⟨fO,eQ,fP⟩ ct)->∀ {r:Int},pC ct bZ bv=some r->∃ v H',C ⟨fO,eQ,fP⟩ bZ bv H=some (v,H')/\aT.Q H0 Ri R0  r v H'
def aT.pl13 (F:Nat) :Nat->List (Int×List Int)->Int->Int->Option (Int)
 | 0,_,_,_=>none
 | k+1,ct,bZ,bv=>(bif (decide (bv<bZ)) then ((ix ct bv).bind λn1=>(cp.p F ((gt ct n1).1) ((gt ct n1).2)).bind λr2=>(bif r2 then (some bv) else (aT.pl13 F k ct bZ (IntKind.i64.wrap (bv+1))))) else (some (-1)))
termination_by structural n=>n
theorem aT.l13_P {F:Nat} {H0:Hp} {Ri R0:List Rs}  :∀ k,aT.S13 H0 Ri R0  (aT.l13 F (cp.tw F)  k) (aT.pl13 F  k):=by
 intro k
 induction k with
 | zero=>unfold aT.S13;intros;rename_i hp;cases hp
 | succ k ih=>
  intro fO eQ fP ct bZ bv H kI h0 r hp
  obtain ⟨w0,s0,gm⟩:=h0
  subst kI
  unfold aT.pl13 at hp
  unfold aT.l13
  refine aH hp (λhp=>?_) λhp=>?_
  ·obtain ⟨n1,g1,hp⟩:=ag hp
   obtain ⟨p1,q1,i1,h1,j1⟩:=ROs.ixr gm rfl g1
   refine ac i1 ?_
   obtain ⟨_,_,rfl,rfl,⟨⟨yd,m1_1,c1_1⟩,rfl,f1_1⟩⟩:=h1
   obtain rfl:m1_1=_:=f1_1.n
   refine ac (av (j1 0 _ rfl)) ?_
   refine ac (aA (j1 1 _ rfl)) ?_
   obtain ⟨r2,e2,hp⟩:=ag hp
   refine aJ (cp.P rfl ⟨w0,f1_1⟩ e2) ?_
   rintro _ H3 ⟨rfl,w3,s3,_⟩
   refine ac rfl ?_
   refine aH hp (λhp=>?_) λhp=>?_
   ·exact ay hp ⟨rfl,w3,(s0.trans s3),trivial⟩
   ·exact ih rfl ⟨w3,(s0.trans s3),(gm.step s3)⟩ hp
  ·exact ay hp ⟨rfl,w0,s0,trivial⟩
def aT.p (F:Nat) (aj:List (Int×List Int)):Option (Int):=aT.pl13 F F aj (aj.length:Int) 0
theorem aT.P {F:Nat} {aN:ON} {aE:Nat} {aO:Cap} {aj:List (Int×List Int)} {H:Hp} {R0:List Rs} (bj:aE=aj.length) (h0:Inn H R0 λR=>ROs (eg (ae .i64) (eSl (ae .i64))) H R ⟨aN,aE,aO⟩ aj) {r:Int} (hp:aT.p F aj=some r):∃ v H',aT.tw F ⟨aN,aE,aO⟩ H=some (v,H')/\aT.Q H R0 R0  r v H':=by
 obtain ⟨w0,bl⟩:=h0
 subst bj
 unfold aT.p at hp
 unfold aT.tw aT.twX
 have s0:=w0.rf
 exact aT.l13_P F rfl ⟨w0,s0,bl⟩ hp
def cL.Q (H0:Hp) (Ri R0:List Rs)  (r:Bool) (v:AV) (H':Hp):Prop:=v=(.bool r)/\Out H0 Ri H' (R0) λR=>True
def cL.p (F:Nat) (aj:List (Int×List Int)):Option (Bool):=(aT.p F aj).bind λr1=>some (decide (r1>=0))
theorem cL.P {F:Nat} {aN:ON} {aE:Nat} {aO:Cap} {aj:List (Int×List Int)} {H:Hp} {R0:List Rs} (bj:aE=aj.length) (h0:Inn H R0 λR=>ROs (eg (ae .i64) (eSl (ae .i64))) H R ⟨aN,aE,aO⟩ aj) {r:Bool} (hp:cL.p F aj=some r):∃ v H',cL.tw F ⟨aN,aE,aO⟩ H=some (v,H')/\cL.Q H R0 R0  r v H':=by
 obtain ⟨w0,bl⟩:=h0
 subst bj
 unfold cL.p at hp
 unfold cL.tw cL.twX
 have s0:=w0.rf
 obtain ⟨r1,e1,hp⟩:=ag hp
 refine aJ (aT.P rfl ⟨w0,bl⟩ e1) ?_
 rintro _ H2 ⟨rfl,w2,s2,_⟩
 refine ac rfl ?_
 exact ay hp ⟨rfl,w2,(s0.trans s2),trivial⟩
def bP.Q (H0:Hp) (Ri R0:List Rs)  (r:Bool) (v:AV) (H':Hp):Prop:=v=(.bool r)/\Out H0 Ri H' (R0) λR=>True
def bP.p (F:Nat) (aj:List (Int×List Int)):Option (Bool):=(cL.p F aj).bind λr1=>some (!r1)
theorem bP.P {F:Nat} {aN:ON} {aE:Nat} {aO:Cap} {aj:List (Int×List Int)} {H:Hp} {R0:List Rs} (bj:aE=aj.length) (h0:Inn H R0 λR=>ROs (eg (ae .i64) (eSl (ae .i64))) H R ⟨aN,aE,aO⟩ aj) {r:Bool} (hp:bP.p F aj=some r):∃ v H',bP.tw F ⟨aN,aE,aO⟩ H=some (v,H')/\bP.Q H R0 R0  r v H':=by
 obtain ⟨w0,bl⟩:=h0
 subst bj
 unfold bP.p at hp
 unfold bP.tw bP.twX
 have s0:=w0.rf
 obtain ⟨r1,e1,hp⟩:=ag hp
 refine aJ (cL.P rfl ⟨w0,bl⟩ e1) ?_
 rintro _ H2 ⟨rfl,w2,s2,_⟩
 refine ac rfl ?_
 exact ay hp ⟨rfl,w2,(s0.trans s2),trivial⟩
def bS.Q (H0:Hp) (Ri R0:List Rs)  (r:Int×List Int×Int) (v:AV) (H':Hp):Prop:=∃ o1a:ON,∃ o1n:Nat,∃ o1c:Cap,∃ o1k:List AV,v=(.tup [(.agg [(.i r.1),(.sl ⟨o1a,o1n,o1c⟩)]),(.i r.2.2)])/\o1n=(r.2.1).length/\Out H0 Ri H' (Rs.own ⟨o1a,o1n,o1c⟩ (ae .i64).z o1k :: R0) λR=>CR (ae .i64) H' R o1k (r.2.1)
def bS.p (F:Nat) (aa:Int) (az:List Int):Option (Int×List Int×Int):=(au.p F aa az).bind λr3=>(bO.p F r3.1 r3.2).bind λr8=>(bif (!r8) then (some (0,([]:List Int),3)) else (some (r3.1,r3.2,0)))
theorem bS.P {F:Nat} {aa:Int} {bD:ON} {bg:Nat} {bE:Cap} {az:List Int} {H:Hp} {R0:List Rs} (da:bg=az.length) (h0:Inn H R0 λR=>ROs (ae .i64) H R ⟨bD,bg,bE⟩ az) {r:Int×List Int×Int} (hp:bS.p F aa az=some r):∃ v H',bS.tw F aa ⟨bD,bg,bE⟩ H=some (v,H')/\bS.Q H R0 R0  r v H':=by
 obtain ⟨w0,bM⟩:=h0
 subst da
 unfold bS.p at hp
 unfold bS.tw bS.twX
 have s0:=w0.rf
 refine bo w0 λH1 w1 s1=>?_
 refine bo w1 λH2 w2 s2=>?_
 refine ac (av (w2.ld (i:=1) rfl rfl)) ?_
 refine ac (aA (w2.ld (i:=1) rfl rfl)) ?_
 obtain ⟨r3,e3,hp⟩:=ag hp
 refine aJ (au.P rfl ⟨w2,(bM.step (s1.trans s2))⟩ e3) ?_
 rintro _ H4 ⟨o1a_4,o1n_4,o1c_4,o1k_4,rfl,rfl,w4,s4,f4_0⟩
 refine ac rfl ?_
 refine ac rfl ?_
 refine ac rfl ?_
 refine ac rfl ?_
 refine ac rfl ?_
 refine aF w4 (i:=2) rfl rfl rfl λH5 w5 s5=>?_
 refine aF w5 (i:=2) rfl rfl rfl λH6 w6 s6=>?_
 refine ac (av (w6.ld (i:=2) rfl rfl)) ?_
 refine ac (aA (w6.ld (i:=2) rfl rfl)) ?_
 have f7:=W.borrow1 (ae .i64) w6 (f4_0.step (s5.trans s6))
 obtain ⟨w7,s7⟩:=w6.right1
 obtain ⟨r8,e8,hp⟩:=ag hp
 refine aJ (bO.P rfl ⟨w7,f7⟩ e8) ?_
 rintro _ H9 ⟨rfl,w9,s9,_⟩
 obtain ⟨w10,s10⟩:=W.frame1 w6 w9 s9
 refine ac rfl ?_
 refine aH hp (λhp=>?_) λhp=>?_
 ·refine aF w10 (i:=1) rfl rfl rfl λH11 w11 s11=>?_
  dsimp only [pk,pks,nth,List.drop,List.set,List.eraseIdx] at w11 s5 s6 s11
  refine aF w11 (i:=1) rfl rfl rfl λH12 w12 s12=>?_
  refine ac (av (w12.ld (i:=1) rfl rfl)) ?_
  refine ac (aA (w12.ld (i:=1) rfl rfl)) ?_
  obtain ⟨w13,s13⟩:=w12.nilS (ae .i64).z (by decide)
  obtain ⟨w14,s14⟩:=w13.pick' [0] 4 rfl rfl rfl
  exact ay hp ⟨_,_,_,_,rfl,rfl,w14,(s0.trans (s1.trans (s2.trans (s4.trans (s5.trans (s6.trans (s10.trans (s11.trans (s12.trans (s13.trans s14)))))))))),((CR.empty:CR (ae .i64) _ _ [] []).step s14)⟩
 ·refine ac (av (w10.ld (i:=2) rfl rfl)) ?_
  refine ac (aA (w10.ld (i:=2) rfl rfl)) ?_
  refine aF w10 (i:=1) rfl rfl rfl λH15 w15 s15=>?_
  dsimp only [pk,pks,nth,List.drop,List.set,List.eraseIdx] at w15 s5 s6 s15
  refine aF w15 (i:=1) rfl rfl rfl λH16 w16 s16=>?_
  refine ac (av (w16.ld (i:=1) rfl rfl)) ?_
  refine ac (aA (w16.ld (i:=1) rfl rfl)) ?_
  obtain ⟨w17,s17⟩:=w16.pick' [0] 3 rfl rfl rfl
  exact ay hp ⟨_,_,_,_,rfl,rfl,w17,(s0.trans (s1.trans (s2.trans (s4.trans (s5.trans (s6.trans (s10.trans (s15.trans (s16.trans s17))))))))),(f4_0.step (s5.trans (s6.trans (s10.trans (s15.trans (s16.trans s17))))))⟩
def ap.Q (H0:Hp) (Ri R0:List Rs)  (r:Int×List Int×Int) (v:AV) (H':Hp):Prop:=∃ o1a:ON,∃ o1n:Nat,∃ o1c:Cap,∃ o1k:List AV,v=(.tup [(.agg [(.i r.1),(.sl ⟨o1a,o1n,o1c⟩)]),(.i r.2.2)])/\o1n=(r.2.1).length/\Out H0 Ri H' (Rs.own ⟨o1a,o1n,o1c⟩ (ae .i64).z o1k :: R0) λR=>CR (ae .i64) H' R o1k (r.2.1)
def ap.S125 (H0:Hp) (Ri R0:List Rs)  (C:Nat->Nat->Int->Nat->Nat->Sl->Int->Int->Hp->OA) (pC:Int->Int->List Int->List (Int×List Int)->Int->Int->Option (Int×List Int×Int)):Prop:=∀ {sD eL kc et dV:Int} {oz oA oB:ON} {mp fd mq fe mr:Nat} {oC oD oE:Cap} {oF iG:List Int} {oG oH oI:List AV} {gn:List (Int×List Int)},∀ {H:Hp},mp=oF.length->mq=iG.length->mr=gn.length->(Out H0 Ri H (Rs.own ⟨oz,mp,oC⟩ (ae .i64).z oG :: Rs.blk fd [.i sD,.sl ⟨oz,mp,oC⟩] :: Rs.own ⟨oA,mq,oD⟩ (ae .i64).z oH :: Rs.blk fe [.i kc,.sl ⟨oA,mq,oD⟩] :: Rs.own ⟨oB,mr,oE⟩ (eg (ae .i64) (eSl (ae .i64))).z oI :: R0) λR=>CR (ae .i64) H R oG oF/\CR (ae .i64) H R oH iG/\CR (eg (ae .i64) (eSl (ae .i64))) H R oI gn)->∀ {r:Int×List Int×Int},pC eL kc iG gn et dV=some r->∃ v H',C fd 0 eL fe 0 ⟨oB,mr,oE⟩ et dV H=some (v,H')/\ap.Q H0 Ri R0  r v H'
def ap.S8027 (H0:Hp) (Ri R0:List Rs)  (C:Nat->Nat->Int->Nat->Nat->Sl->Int->Int->Nat->Nat->Sl->Int->Int->Hp->OA) (pC:Int->Int->List Int->List (Int×List Int)->Int->Int->Int->List Int->Int->Int->Option (Int×List Int×Int)):Prop:=∀ {sE dF kd eo er iH es dn:Int} {oJ oK oL ms:ON} {mu fb mv eK mw kL fc:Nat} {oM oN oO mz:Cap} {oP gp h_:List Int} {oQ oR oS:List AV} {iI:List (Int×List Int)},∀ {H:Hp},mu=oP.length->mv=gp.length->mw=iI.length->kL=h_.length->(Out H0 Ri H (Rs.own ⟨oJ,mu,oM⟩ (ae .i64).z oQ :: Rs.blk fb [.i sE,.sl ⟨oJ,mu,oM⟩] :: Rs.own ⟨oK,mv,oN⟩ (ae .i64).z oR :: Rs.blk eK [.i kd,.sl ⟨oK,mv,oN⟩] :: Rs.own ⟨oL,mw,oO⟩ (eg (ae .i64) (eSl (ae .i64))).z oS :: Rs.blk fc [.i iH,.sl ⟨ms,kL,mz⟩] :: R0) λR=>CR (ae .i64) H R oQ oP/\CR (ae .i64) H R oR gp/\CR (eg (ae .i64) (eSl (ae .i64))) H R oS iI/\ROs (ae .i64) H R ⟨ms,kL,mz⟩ h_)->∀ {r:Int×List Int×Int},pC dF kd gp iI eo er iH h_ es dn=some r->∃ v H',C fb 0 dF eK 0 ⟨oL,mw,oO⟩ eo er fc 0 ⟨ms,kL,mz⟩ es dn H=some (v,H')/\ap.Q H0 Ri R0  r v H'
def ap.pj4 (F:Nat) (eB:Int->Int->List Int->List (Int×List Int)->Int->Int->Option (Int×List Int×Int)) (jm:Int) (mA:Int) (kM:List Int) (kN:List (Int×List Int)) (jn:Int) (jo:Int):Option (Int×List Int×Int):=eB jm mA kM kN jn (IntKind.i64.wrap (jo+1))
theorem ap.j4_P {F:Nat} {H0:Hp} {Ri R0:List Rs}  {C125_:Nat->Nat->Int->Nat->Nat->Sl->Int->Int->Hp->OA} {eB:Int->Int->List Int->List (Int×List Int)->Int->Int->Option (Int×List Int×Int)} (hC125:ap.S125 H0 Ri R0  C125_ eB) {ye jm mA jn jo:Int} {sF sG sH:ON} {oT lK oU lL oV:Nat} {sI sJ sK:Cap} {sL kM:List Int} {sM sN sO:List AV} {kN:List (Int×List Int)} {H:Hp} (yf:oT=sL.length) (yg:oU=kM.length) (yh:oV=kN.length) (h0:Out H0 Ri H (Rs.own ⟨sF,oT,sI⟩ (ae .i64).z sM :: Rs.blk lK [.i ye,.sl ⟨sF,oT,sI⟩] :: Rs.own ⟨sG,oU,sJ⟩ (ae .i64).z sN :: Rs.blk lL [.i mA,.sl ⟨sG,oU,sJ⟩] :: Rs.own ⟨sH,oV,sK⟩ (eg (ae .i64) (eSl (ae .i64))).z sO :: R0) λR=>CR (ae .i64) H R sM sL/\CR (ae .i64) H R sN kM/\CR (eg (ae .i64) (eSl (ae .i64))) H R sO kN) {r:Int×List Int×Int} (hp:ap.pj4 F eB jm mA kM kN jn jo=some r):∃ v H',ap.j4 F (bP.tw F) (bp.tw F) (bS.tw F) C125_ lK 0 jm lL 0 ⟨sH,oV,sK⟩ jn jo H=some (v,H')/\ap.Q H0 Ri R0  r v H':=by
 obtain ⟨w0,s0,yi,yj,yk⟩:=h0
 subst yf
 subst yg
 subst yh
 unfold ap.pj4 at hp
 unfold ap.j4
 exact hC125 rfl rfl rfl ⟨w0,s0,yi,yj,yk⟩ hp
def ap.pj5 (F:Nat) (eB:Int->Int->List Int->List (Int×List Int)->Int->Int->Option (Int×List Int×Int)) (jp:Int) (mB:Int) (kO:List Int) (kP:List (Int×List Int)) (jq:Int) (jr:Int):Option (Int×List Int×Int):=ap.pj4 F eB jp mB kO kP jq jr
theorem ap.j5_P {F:Nat} {H0:Hp} {Ri R0:List Rs}  {C125_:Nat->Nat->Int->Nat->Nat->Sl->Int->Int->Hp->OA} {eB:Int->Int->List Int->List (Int×List Int)->Int->Int->Option (Int×List Int×Int)} (hC125:ap.S125 H0 Ri R0  C125_ eB) {yl jp mB jq jr:Int} {sP sQ sR:ON} {oW lM oX lN oY:Nat} {sS sT sU:Cap} {sV kO:List Int} {sW sX sY:List AV} {kP:List (Int×List Int)} {H:Hp} (ym:oW=sV.length) (yn:oX=kO.length) (yo:oY=kP.length) (h0:Out H0 Ri H (Rs.own ⟨sP,oW,sS⟩ (ae .i64).z sW :: Rs.blk lM [.i yl,.sl ⟨sP,oW,sS⟩] :: Rs.own ⟨sQ,oX,sT⟩ (ae .i64).z sX :: Rs.blk lN [.i mB,.sl ⟨sQ,oX,sT⟩] :: Rs.own ⟨sR,oY,sU⟩ (eg (ae .i64) (eSl (ae .i64))).z sY :: R0) λR=>CR (ae .i64) H R sW sV/\CR (ae .i64) H R sX kO/\CR (eg (ae .i64) (eSl (ae .i64))) H R sY kP) {r:Int×List Int×Int} (hp:ap.pj5 F eB jp mB kO kP jq jr=some r):∃ v H',ap.j5 F (bP.tw F) (bp.tw F) (bS.tw F) C125_ lM 0 jp lN 0 ⟨sR,oY,sU⟩ jq jr H=some (v,H')/\ap.Q H0 Ri R0  r v H':=by
 obtain ⟨w0,s0,yp,yq,yr⟩:=h0
 subst ym
 subst yn
 subst yo
 unfold ap.pj5 at hp
 unfold ap.j5
 exact ap.j4_P (@hC125) rfl rfl rfl ⟨w0,s0,yp,yq,yr⟩ hp
def ap.pl8027 (F:Nat) (eB:Int->Int->List Int->List (Int×List Int)->Int->Int->Option (Int×List Int×Int)):Nat->Int->Int->List Int->List (Int×List Int)->Int->Int->Int->List Int->Int->Int->Option (Int×List Int×Int)
 | 0,_,_,_,_,_,_,_,_,_,_=>none
 | k+1,dF,kd,gp,iI,eo,er,iH,h_,es,dn=>(bif (decide (dn<es)) then ((ix h_ dn).bind λn1=>(ix gp (IntKind.i64.wrap ((IntKind.i64.wrap (iH - dF))+dn))).bind λn2=>(ix gp (IntKind.i64.wrap ((IntKind.i64.wrap (iH - dF))+dn))).bind λn3=>(some (gp.set n3 (IntKind.i64.wrap ((gt gp n2)+(gt h_ n1))))).bind λl4=>ap.pl8027 F eB k dF kd l4 iI eo er iH h_ es (IntKind.i64.wrap (dn+1))) else (ap.pj5 F eB dF kd gp iI eo er))
termination_by structural n=>n
theorem ap.l8027_P {F:Nat} {H0:Hp} {Ri R0:List Rs}  {C125_:Nat->Nat->Int->Nat->Nat->Sl->Int->Int->Hp->OA} {eB:Int->Int->List Int->List (Int×List Int)->Int->Int->Option (Int×List Int×Int)} (hC125:ap.S125 H0 Ri R0  C125_ eB):∀ k,ap.S8027 H0 Ri R0  (ap.l8027 F (bP.tw F) (bp.tw F) (bS.tw F) C125_ k) (ap.pl8027 F eB k):=by
 intro k
 induction k with
 | zero=>unfold ap.S8027;intros;rename_i hp;cases hp
 | succ k ih=>
  intro sE dF kd eo er iH es dn oJ oK oL ms mu fb mv eK mw kL fc oM oN oO mz oP gp h_ oQ oR oS iI H ys yt yu yv h0 r hp
  obtain ⟨w0,s0,sZ,mC,s_,ta⟩:=h0
  subst ys
  subst yt
  subst yu
  subst yv
  unfold ap.pl8027 at hp
  unfold ap.l8027
  refine aH hp (λhp=>?_) λhp=>?_
  ·obtain ⟨n1,g1,hp⟩:=ag hp
   obtain ⟨p1,q1,i1,h1,j1⟩:=ROs.ixr ta rfl g1
   refine ac i1 ?_
   have h1:_=[_]:=h1
   subst h1
   refine ac (av (j1 0 _ rfl)) ?_
   refine ac (aA (w0.ld (i:=3) rfl rfl)) ?_
   refine ac (av (w0.ld (i:=5) rfl rfl)) ?_
   obtain ⟨n2,g2,hp⟩:=ag hp
   obtain ⟨p2,q2,i2,h2,j2⟩:=W.ixo (E:=(ae .i64)) w0 (i:=2) rfl rfl mC g2
   refine ac i2 ?_
   have h2:_=[_]:=h2
   subst h2
   refine ac (av (j2 0 _ rfl)) ?_
   obtain ⟨n3,g3,hp⟩:=ag hp
   obtain ⟨p3,q3,i3,h3,j3⟩:=W.ixo (E:=(ae .i64)) w0 (i:=2) rfl rfl mC g3
   refine ac i3 ?_
   obtain ⟨l4,e4,hp⟩:=ag hp
   refine nr (ae .i64) w0 (i:=2) (j:=0) (p:=p3) rfl rfl mC g3 i3 e4 rfl rfl (λ_ h=>by have h:_=[_]:=h;subst h;exact rfl) λH5 k5 w5 s5 c5=>?_
   exact ih rfl ((ns e4).symm) rfl rfl ⟨w5,(s0.trans s5),(sZ.step s5),c5,(s_.step s5),(ta.step s5)⟩ hp
  ·obtain ⟨w6,s6⟩:=w0.pick' [0,1,2,3,4] 6 rfl rfl rfl
   exact ap.j5_P (@hC125) rfl rfl rfl ⟨w6,(s0.trans s6),(sZ.step s6),(mC.step s6),(s_.step s6)⟩ hp
def ap.pj3 (F:Nat)  (mD:Int) (kQ:List Int):Option (Int×List Int×Int):=(bS.p F mD kQ).bind λr3=>some (r3.1,r3.2.1,r3.2.2)
theorem ap.j3_P {F:Nat} {H0:Hp} {Ri R0:List Rs}   {yw mD:Int} {tc te:ON} {oZ iz o_ kB:Nat} {tf tg:Cap} {th kQ:List Int} {ti tj:List AV} {H:Hp} (yx:oZ=th.length) (yy:o_=kQ.length) (h0:Out H0 Ri H (Rs.own ⟨tc,oZ,tf⟩ (ae .i64).z ti :: Rs.blk iz [.i yw,.sl ⟨tc,oZ,tf⟩] :: Rs.own ⟨te,o_,tg⟩ (ae .i64).z tj :: Rs.blk kB [.i mD,.sl ⟨te,o_,tg⟩] :: R0) λR=>CR (ae .i64) H R ti th/\CR (ae .i64) H R tj kQ) {r:Int×List Int×Int} (hp:ap.pj3 F  mD kQ=some r):∃ v H',ap.j3 F (bP.tw F) (bp.tw F) (bS.tw F)  iz 0 kB 0 H=some (v,H')/\ap.Q H0 Ri R0  r v H':=by
 obtain ⟨w0,s0,BF,yz⟩:=h0
 subst yx
 subst yy
 unfold ap.pj3 at hp
 unfold ap.j3
 refine ac (av (w0.ld (i:=3) rfl rfl)) ?_
 refine ac (aA (w0.ld (i:=3) rfl rfl)) ?_
 obtain ⟨w1,s1⟩:=w0.pick' [2,0,1,3] 4 rfl rfl rfl
 have f2:=W.borrow1 (ae .i64) w1 (yz.step s1)
 obtain ⟨w2,s2⟩:=w1.right1
 obtain ⟨r3,e3,hp⟩:=ag hp
 refine aJ (bS.P rfl ⟨w2,f2⟩ e3) ?_
 rintro _ H4 ⟨o1a_4,o1n_4,o1c_4,o1k_4,rfl,rfl,w4,s4,f4_0⟩
 obtain ⟨w5,s5⟩:=W.frame1 w1 w4 s4
 refine ac rfl ?_
 refine ac rfl ?_
 refine ac rfl ?_
 refine ac rfl ?_
 refine ac rfl ?_
 refine ac rfl ?_
 refine ac rfl ?_
 refine ac rfl ?_
 refine ac rfl ?_
 refine aF w5 (i:=3) rfl rfl rfl λH6 w6 s6=>?_
 refine aF w6 (i:=3) rfl rfl rfl λH7 w7 s7=>?_
 dsimp only [pk,pks,nth,List.drop,List.set,List.eraseIdx] at w7 s1 s6 s7
 refine ac (av (w7.ld (i:=3) rfl rfl)) ?_
 refine ac (aA (w7.ld (i:=3) rfl rfl)) ?_
 obtain ⟨w8,s8⟩:=w7.pick' [1] 5 rfl rfl rfl
 exact ay hp ⟨_,_,_,_,rfl,rfl,w8,(s0.trans (s1.trans (s5.trans (s6.trans (s7.trans s8))))),((CR.flat (ef .i64) f4_0).step (s6.trans (s7.trans s8)))⟩
def ap.pl125 (F:Nat) :Nat->Int->Int->List Int->List (Int×List Int)->Int->Int->Option (Int×List Int×Int)
 | 0,_,_,_,_,_,_=>none
 | k+1,eL,kc,iG,gn,et,dV=>(bif (decide (dV<et)) then ((ix gn dV).bind λn1=>ap.pl8027 F (ap.pl125 F k) F eL kc iG gn et dV ((gt gn n1).1) ((gt gn n1).2) ((((gt gn n1).2).length):Int) 0) else (ap.pj3 F kc iG))
termination_by structural n=>n
theorem ap.l125_P {F:Nat} {H0:Hp} {Ri R0:List Rs}  :∀ k,ap.S125 H0 Ri R0  (ap.l125 F (bP.tw F) (bp.tw F) (bS.tw F)  k) (ap.pl125 F  k):=by
 intro k
 induction k with
 | zero=>unfold ap.S125;intros;rename_i hp;cases hp
 | succ k ih=>
  intro sD eL kc et dV oz oA oB mp fd mq fe mr oC oD oE oF iG oG oH oI gn H yA yB yC h0 r hp
  obtain ⟨w0,s0,tl,tn,tp⟩:=h0
  subst yA
  subst yB
  subst yC
  unfold ap.pl125 at hp
  unfold ap.l125
  refine aH hp (λhp=>?_) λhp=>?_
  ·obtain ⟨n1,g1,hp⟩:=ag hp
   obtain ⟨p1,q1,i1,h1,j1⟩:=W.ixo (E:=(eg (ae .i64) (eSl (ae .i64)))) w0 (i:=4) rfl rfl tp g1
   refine ac i1 ?_
   obtain ⟨_,_,rfl,rfl,⟨⟨yd,m1_1,c1_1⟩,rfl,f1_1⟩⟩:=h1
   obtain rfl:m1_1=_:=f1_1.n
   refine ac (av (j1 0 _ rfl)) ?_
   refine ac (aA (j1 1 _ rfl)) ?_
   refine bo w0 λH2 w2 s2=>?_
   refine aF w2 (i:=0) rfl rfl rfl λH3 w3 s3=>?_
   refine aF w3 (i:=0) rfl rfl rfl λH4 w4 s4=>?_
   refine ac (aA (w4.ld (i:=0) rfl rfl)) ?_
   obtain ⟨w5,s5⟩:=w4.pick' [1,2,3,4,5,0] 6 rfl rfl rfl
   dsimp only [pk,pks,nth,List.drop,List.set,List.eraseIdx] at w5 s3 s4 s5
   exact ap.l8027_P (@ih) F rfl rfl rfl rfl ⟨w5,(s0.trans (s2.trans (s3.trans (s4.trans s5)))),(tl.step (s2.trans (s3.trans (s4.trans s5)))),(tn.step (s2.trans (s3.trans (s4.trans s5)))),(tp.step (s2.trans (s3.trans (s4.trans s5)))),(f1_1.step (s2.trans (s3.trans (s4.trans s5))))⟩ hp
  ·obtain ⟨w6,s6⟩:=w0.pick' [0,1,2,3] 5 rfl rfl rfl
   exact ap.j3_P rfl rfl ⟨w6,(s0.trans s6),(tl.step s6),(tn.step s6)⟩ hp
def ap.p (F:Nat) (aa:Int) (az:List Int) (ai:Int) (bB:List Int):Option (Int×List Int×Int):=(bP.p F ([(aa,az),(ai,bB)]:List (Int×List Int))).bind λr6=>(bif (!r6) then (some (0,([]:List Int),1)) else ((bp.p F aa az).bind λr13=>(bp.p F ai bB).bind λr16=>(mkn (IntKind.i64.wrap ((IntKind.i64.wrap ((if (if ai<aa then ai else aa)>(if r16>r13 then r16 else r13) then (if ai<aa then ai else aa) else (if r16>r13 then r16 else r13)) - (if ai<aa then ai else aa)))+1)) (0:Int)).bind λl19=>ap.pl125 F F (if ai<aa then ai else aa) (if ai<aa then ai else aa) l19 ([(aa,az),(ai,bB)]:List (Int×List Int)) (2:Int) 0))
theorem ap.P {F:Nat} {aa ai:Int} {bD eR:ON} {bg dS:Nat} {bE eS:Cap} {az bB:List Int} {H:Hp} {R0:List Rs} (da:bg=az.length) (gR:dS=bB.length) (h0:Inn H R0 λR=>ROs (ae .i64) H R ⟨bD,bg,bE⟩ az/\ROs (ae .i64) H R ⟨eR,dS,eS⟩ bB) {r:Int×List Int×Int} (hp:ap.p F aa az ai bB=some r):∃ v H',ap.tw F aa ⟨bD,bg,bE⟩ ai ⟨eR,dS,eS⟩ H=some (v,H')/\ap.Q H R0 R0  r v H':=by
 obtain ⟨w0,bM,fl⟩:=h0
 subst da
 subst gR
 unfold ap.p at hp
 unfold ap.tw ap.twX
 have s0:=w0.rf
 refine bo w0 λH1 w1 s1=>?_
 refine bo w1 λH2 w2 s2=>?_
 refine bo w2 λH3 w3 s3=>?_
 refine ac (av (w3.ld (i:=2) rfl rfl)) ?_
 refine ac (aA (w3.ld (i:=2) rfl rfl)) ?_
 refine ac (av (w3.ld (i:=1) rfl rfl)) ?_
 refine ac (aA (w3.ld (i:=1) rfl rfl)) ?_
 refine eU (eg (ae .i64) (eSl (ae .i64))) w3 (n:=2) (l:=([(aa,az),(ai,bB)]:List (Int×List Int))) rfl (CR.cons (c:=[_,_]) ⟨[_],_,rfl,rfl,⟨_,rfl,(bM.step (s1.trans (s2.trans s3)))⟩⟩ (CR.cons (c:=[_,_]) ⟨[_],_,rfl,rfl,⟨_,rfl,(fl.step (s1.trans (s2.trans s3)))⟩⟩ CR.empty)) rfl λH4 w4 s4 c4=>?_
 have f5:=W.borrow1 (eg (ae .i64) (eSl (ae .i64))) w4 c4
 obtain ⟨w5,s5⟩:=w4.right1
 obtain ⟨r6,e6,hp⟩:=ag hp
 refine aJ (bP.P (show 2=List.length ([(aa,az),(ai,bB)]:List (Int×List Int)) from rfl) ⟨w5,f5⟩ e6) ?_
 rintro _ H7 ⟨rfl,w7,s7,_⟩
 obtain ⟨w8,s8⟩:=W.frame1 w4 w7 s7
 refine ac rfl ?_
 refine aH hp (λhp=>?_) λhp=>?_
 ·refine aF w8 (i:=1) rfl rfl rfl λH9 w9 s9=>?_
  refine aF w9 (i:=1) rfl rfl rfl λH10 w10 s10=>?_
  refine ac (av (w10.ld (i:=1) rfl rfl)) ?_
  refine ac (aA (w10.ld (i:=1) rfl rfl)) ?_
  obtain ⟨w11,s11⟩:=w10.nilS (ae .i64).z (by decide)
  obtain ⟨w12,s12⟩:=w11.pick' [0] 5 rfl rfl rfl
  dsimp only [pk,pks,nth,List.drop,List.set,List.eraseIdx] at w12 s9 s10 s11 s12
  exact ay hp ⟨_,_,_,_,rfl,rfl,w12,(s0.trans (s1.trans (s2.trans (s3.trans (s4.trans (s8.trans (s9.trans (s10.trans (s11.trans s12))))))))),((CR.empty:CR (ae .i64) _ _ [] []).step s12)⟩
 ·refine ac (av (w8.ld (i:=3) rfl rfl)) ?_
  refine ac (av (w8.ld (i:=2) rfl rfl)) ?_
  refine ac (av (w8.ld (i:=3) rfl rfl)) ?_
  refine ac (aA (w8.ld (i:=3) rfl rfl)) ?_
  obtain ⟨r13,e13,hp⟩:=ag hp
  refine aJ (bp.P rfl ⟨w8,(bM.step (s1.trans (s2.trans (s3.trans (s4.trans s8)))))⟩ e13) ?_
  rintro _ H14 ⟨rfl,w14,s14,_⟩
  refine ac rfl ?_
  refine iP (W.cons_of (Rn:=[]) w8 w14 s14) ?_
  refine ac (av (w14.ld (i:=2) rfl rfl)) ?_
  refine ac (aA (w14.ld (i:=2) rfl rfl)) ?_
  obtain ⟨r16,e16,hp⟩:=ag hp
  refine aJ (bp.P rfl ⟨w14,(fl.step (s1.trans (s2.trans (s3.trans (s4.trans (s8.trans s14))))))⟩ e16) ?_
  rintro _ H17 ⟨rfl,w17,s17,_⟩
  refine ac rfl ?_
  refine iP (W.cons_of (Rn:=[]) w14 w17 s17) ?_
  obtain ⟨l19,e19,hp⟩:=ag hp
  refine rq (ae .i64) (0:Int) w17 rfl rfl rfl e19 λH20 k20 w20 s20 c20=>?_
  refine bo w20 λH21 w21 s21=>?_
  refine aF w21 (i:=0) rfl rfl rfl λH22 w22 s22=>?_
  refine aF w22 (i:=0) rfl rfl rfl λH23 w23 s23=>?_
  refine ac (av (w23.ld (i:=5) rfl rfl)) ?_
  refine ac (aA (w23.ld (i:=5) rfl rfl)) ?_
  refine ac (av (w23.ld (i:=4) rfl rfl)) ?_
  refine ac (aA (w23.ld (i:=4) rfl rfl)) ?_
  refine eU (eg (ae .i64) (eSl (ae .i64))) w23 (n:=2) (l:=([(aa,az),(ai,bB)]:List (Int×List Int))) rfl (CR.cons (c:=[_,_]) ⟨[_],_,rfl,rfl,⟨_,rfl,(bM.step (s1.trans (s2.trans (s3.trans (s4.trans (s8.trans (s14.trans (s17.trans (s20.trans (s21.trans (s22.trans s23)))))))))))⟩⟩ (CR.cons (c:=[_,_]) ⟨[_],_,rfl,rfl,⟨_,rfl,(fl.step (s1.trans (s2.trans (s3.trans (s4.trans (s8.trans (s14.trans (s17.trans (s20.trans (s21.trans (s22.trans s23)))))))))))⟩⟩ CR.empty)) rfl λH24 w24 s24 c24=>?_
  obtain ⟨w25,s25⟩:=w24.nilS (ae .i64).z (by decide)
  obtain ⟨w26,s26⟩:=w25.pick' [0,5,3,2,1] 8 rfl rfl rfl
  dsimp only [pk,pks,nth,List.drop,List.set,List.eraseIdx] at w26 s22 s23 s24 s25 s26
  exact ap.l125_P F rfl rfl (show 2=List.length ([(aa,az),(ai,bB)]:List (Int×List Int)) from rfl) ⟨w26,(s0.trans (s1.trans (s2.trans (s3.trans (s4.trans (s8.trans (s14.trans (s17.trans (s20.trans (s21.trans (s22.trans (s23.trans (s24.trans (s25.trans s26)))))))))))))),((CR.empty:CR (ae .i64) _ _ [] []).step s26),(c20.step (s21.trans (s22.trans (s23.trans (s24.trans (s25.trans s26)))))),(c24.step (s25.trans s26))⟩ hp
def bH.Q (H0:Hp) (Ri R0:List Rs)  (r:Int×List Int) (v:AV) (H':Hp):Prop:=∃ o1a:ON,∃ o1n:Nat,∃ o1c:Cap,∃ o1k:List AV,v=(.agg [(.i r.1),(.sl ⟨o1a,o1n,o1c⟩)])/\o1n=(r.2).length/\Out H0 Ri H' (Rs.own ⟨o1a,o1n,o1c⟩ (ae .i64).z o1k :: R0) λR=>CR (ae .i64) H' R o1k (r.2)
def bH.p (F:Nat) (aa:Int) (az:List Int) (ai:Int) (bB:List Int):Option (Int×List Int):=(ap.p F aa az ai bB).bind λr4=>some (r4.1,r4.2.1)
theorem bH.P {F:Nat} {aa ai:Int} {bD eR:ON} {bg dS:Nat} {bE eS:Cap} {az bB:List Int} {H:Hp} {R0:List Rs} (da:bg=az.length) (gR:dS=bB.length) (h0:Inn H R0 λR=>ROs (ae .i64) H R ⟨bD,bg,bE⟩ az/\ROs (ae .i64) H R ⟨eR,dS,eS⟩ bB) {r:Int×List Int} (hp:bH.p F aa az ai bB=some r):∃ v H',bH.tw F aa ⟨bD,bg,bE⟩ ai ⟨eR,dS,eS⟩ H=some (v,H')/\bH.Q H R0 R0  r v H':=by
 obtain ⟨w0,bM,fl⟩:=h0
 subst da
 subst gR
 unfold bH.p at hp
 unfold bH.tw bH.twX
 have s0:=w0.rf
 refine bo w0 λH1 w1 s1=>?_
 refine bo w1 λH2 w2 s2=>?_
 refine bo w2 λH3 w3 s3=>?_
 refine ac (av (w3.ld (i:=2) rfl rfl)) ?_
 refine ac (aA (w3.ld (i:=2) rfl rfl)) ?_
 refine ac (av (w3.ld (i:=1) rfl rfl)) ?_
 refine ac (aA (w3.ld (i:=1) rfl rfl)) ?_
 obtain ⟨r4,e4,hp⟩:=ag hp
 refine aJ (ap.P rfl rfl ⟨w3,(bM.step (s1.trans (s2.trans s3))),(fl.step (s1.trans (s2.trans s3)))⟩ e4) ?_
 rintro _ H5 ⟨o1a_5,o1n_5,o1c_5,o1k_5,rfl,rfl,w5,s5,f5_0⟩
 refine ac rfl ?_
 refine ac rfl ?_
 refine ac rfl ?_
 refine ac rfl ?_
 refine ac rfl ?_
 refine ac rfl ?_
 refine ac rfl ?_
 refine ac rfl ?_
 refine ac rfl ?_
 refine bo w5 λH6 w6 s6=>?_
 refine aF w6 (i:=0) rfl rfl rfl λH7 w7 s7=>?_
 refine aF w7 (i:=0) rfl rfl rfl λH8 w8 s8=>?_
 refine ac (av (w8.ld (i:=0) rfl rfl)) ?_
 refine ac (aA (w8.ld (i:=0) rfl rfl)) ?_
 refine aF w8 (i:=2) rfl rfl rfl λH9 w9 s9=>?_
 dsimp only [pk,pks,nth,List.drop,List.set,List.eraseIdx] at w9 s7 s8 s9
 refine aF w9 (i:=2) rfl rfl rfl λH10 w10 s10=>?_
 refine ac (av (w10.ld (i:=2) rfl rfl)) ?_
 refine ac (aA (w10.ld (i:=2) rfl rfl)) ?_
 obtain ⟨w11,s11⟩:=w10.pick' [1] 5 rfl rfl rfl
 exact ay hp ⟨_,_,_,_,rfl,rfl,w11,(s0.trans (s1.trans (s2.trans (s3.trans (s5.trans (s6.trans (s7.trans (s8.trans (s9.trans (s10.trans s11)))))))))),(f5_0.step (s6.trans (s7.trans (s8.trans (s9.trans (s10.trans s11))))))⟩
def bT.Q (H0:Hp) (Ri R0:List Rs)  (r:Int) (v:AV) (H':Hp):Prop:=v=(.i r)/\Out H0 Ri H' (R0) λR=>True
def bT.p (F:Nat) (aa:Int):Option (Int):=(bif (decide (aa<0)) then (some (-1)) else (some 1))
theorem bT.P {F:Nat} {aa:Int} {H:Hp} {R0:List Rs}  (h0:Inn H R0 λR=>True) {r:Int} (hp:bT.p F aa=some r):∃ v H',bT.tw F aa H=some (v,H')/\bT.Q H R0 R0  r v H':=by
 obtain ⟨w0,_⟩:=h0
 unfold bT.p at hp
 unfold bT.tw bT.twX
 have s0:=w0.rf
 refine aH hp (λhp=>?_) λhp=>?_
 ·exact ay hp ⟨rfl,w0,s0,trivial⟩
 ·exact ay hp ⟨rfl,w0,s0,trivial⟩
def aw.Q (H0:Hp) (Ri R0:List Rs)  (r:Int×List Int) (v:AV) (H':Hp):Prop:=∃ o1a:ON,∃ o1n:Nat,∃ o1c:Cap,∃ o1k:List AV,v=(.agg [(.i r.1),(.sl ⟨o1a,o1n,o1c⟩)])/\o1n=(r.2).length/\Out H0 Ri H' (Rs.own ⟨o1a,o1n,o1c⟩ (ae .i64).z o1k :: R0) λR=>CR (ae .i64) H' R o1k (r.2)
def aw.S61 (H0:Hp) (Ri R0:List Rs)  (C:Int->Nat->Nat->Nat->Nat->Int->Sl->Int->Int->Hp->OA) (pC:Int->Int->List Int->Int->List Int->Int->Int->Option (Int×List Int)):Prop:=∀ {dp tq ia dq dH dr:Int} {pa pb pc:ON} {mE cD mF db mG:Nat} {pd pe pf:Cap} {pg gS eT:List Int} {ph pi:List AV},∀ {H:Hp},mE=pg.length->mF=gS.length->mG=eT.length->(Out H0 Ri H (Rs.own ⟨pa,mE,pd⟩ (ae .i64).z ph :: Rs.blk cD [.i tq,.sl ⟨pa,mE,pd⟩] :: Rs.own ⟨pb,mF,pe⟩ (ae .i64).z pi :: Rs.blk db [.i ia,.sl ⟨pb,mF,pe⟩] :: R0) λR=>CR (ae .i64) H R ph pg/\CR (ae .i64) H R pi gS/\ROs (ae .i64) H R ⟨pc,mG,pf⟩ eT)->∀ {r:Int×List Int},pC dp ia gS dq eT dH dr=some r->∃ v H',C dp cD 0 db 0 dq ⟨pc,mG,pf⟩ dH dr H=some (v,H')/\aw.Q H0 Ri R0  r v H'
def aw.pj4 (F:Nat) (cu:Int->Int->List Int->Int->List Int->Int->Int->Option (Int×List Int)) (jt:Int) (mH:Int) (kR:List Int) (ju:Int) (jv:Int) (kS:List Int) (jw:Int) (jx:Int):Option (Int×List Int):=(bT.p F jv).bind λr1=>cu jt mH kR (IntKind.i64.wrap (ju+r1)) kS jw (IntKind.i64.wrap (jx+1))
theorem aw.j4_P {F:Nat} {H0:Hp} {Ri R0:List Rs}  {C61_:Int->Nat->Nat->Nat->Nat->Int->Sl->Int->Int->Hp->OA} {cu:Int->Int->List Int->Int->List Int->Int->Int->Option (Int×List Int)} (hC61:aw.S61 H0 Ri R0  C61_ cu) {jt yD mH ju jv jw jx:Int} {tt tu tv:ON} {pj lO pl lP pm:Nat} {tz tA tB:Cap} {tC kR kS:List Int} {tD tE:List AV} {H:Hp} (yE:pj=tC.length) (yF:pl=kR.length) (yG:pm=kS.length) (h0:Out H0 Ri H (Rs.own ⟨tt,pj,tz⟩ (ae .i64).z tD :: Rs.blk lO [.i yD,.sl ⟨tt,pj,tz⟩] :: Rs.own ⟨tu,pl,tA⟩ (ae .i64).z tE :: Rs.blk lP [.i mH,.sl ⟨tu,pl,tA⟩] :: R0) λR=>CR (ae .i64) H R tD tC/\CR (ae .i64) H R tE kR/\ROs (ae .i64) H R ⟨tv,pm,tB⟩ kS) {r:Int×List Int} (hp:aw.pj4 F cu jt mH kR ju jv kS jw jx=some r):∃ v H',aw.j4 F (bG.tw F) (bH.tw F) (bT.tw F) C61_ jt lO 0 lP 0 ju jv ⟨tv,pm,tB⟩ jw jx H=some (v,H')/\aw.Q H0 Ri R0  r v H':=by
 obtain ⟨w0,s0,yH,yI,yJ⟩:=h0
 subst yE
 subst yF
 subst yG
 unfold aw.pj4 at hp
 unfold aw.j4
 obtain ⟨r1,e1,hp⟩:=ag hp
 refine aJ (bT.P ⟨w0,trivial⟩ e1) ?_
 rintro _ H2 ⟨rfl,w2,s2,_⟩
 refine ac rfl ?_
 exact hC61 rfl rfl rfl ⟨w2,(s0.trans s2),(yH.step s2),(yI.step s2),(yJ.step s2)⟩ hp
def aw.pj5 (F:Nat) (cu:Int->Int->List Int->Int->List Int->Int->Int->Option (Int×List Int)) (jy:Int) (mI:Int) (kT:List Int) (jz:Int) (jA:Int) (kU:List Int) (jB:Int) (jC:Int):Option (Int×List Int):=(bT.p F jA).bind λr1=>cu jy mI kT (IntKind.i64.wrap (jz+r1)) kU jB (IntKind.i64.wrap (jC+1))
theorem aw.j5_P {F:Nat} {H0:Hp} {Ri R0:List Rs}  {C61_:Int->Nat->Nat->Nat->Nat->Int->Sl->Int->Int->Hp->OA} {cu:Int->Int->List Int->Int->List Int->Int->Int->Option (Int×List Int)} (hC61:aw.S61 H0 Ri R0  C61_ cu) {jy yK mI jz jA jB jC:Int} {tF tG tH:ON} {po lQ pp lR pr:Nat} {tI tJ tK:Cap} {tL kT kU:List Int} {tM tN:List AV} {H:Hp} (yL:po=tL.length) (yM:pp=kT.length) (yN:pr=kU.length) (h0:Out H0 Ri H (Rs.own ⟨tF,po,tI⟩ (ae .i64).z tM :: Rs.blk lQ [.i yK,.sl ⟨tF,po,tI⟩] :: Rs.own ⟨tG,pp,tJ⟩ (ae .i64).z tN :: Rs.blk lR [.i mI,.sl ⟨tG,pp,tJ⟩] :: R0) λR=>CR (ae .i64) H R tM tL/\CR (ae .i64) H R tN kT/\ROs (ae .i64) H R ⟨tH,pr,tK⟩ kU) {r:Int×List Int} (hp:aw.pj5 F cu jy mI kT jz jA kU jB jC=some r):∃ v H',aw.j5 F (bG.tw F) (bH.tw F) (bT.tw F) C61_ jy lQ 0 lR 0 jz jA ⟨tH,pr,tK⟩ jB jC H=some (v,H')/\aw.Q H0 Ri R0  r v H':=by
 obtain ⟨w0,s0,yO,yP,yQ⟩:=h0
 subst yL
 subst yM
 subst yN
 unfold aw.pj5 at hp
 unfold aw.j5
 obtain ⟨r1,e1,hp⟩:=ag hp
 refine aJ (bT.P ⟨w0,trivial⟩ e1) ?_
 rintro _ H2 ⟨rfl,w2,s2,_⟩
 refine ac rfl ?_
 exact hC61 rfl rfl rfl ⟨w2,(s0.trans s2),(yO.step s2),(yP.step s2),(yQ.step s2)⟩ hp
def aw.pj6 (F:Nat) (cu:Int->Int->List Int->Int->List Int->Int->Int->Option (Int×List Int)) (jD:Int) (mJ:Int) (kV:List Int) (jE:Int) (jF:Int) (kW:List Int) (jG:Int) (jH:Int):Option (Int×List Int):=aw.pj5 F cu jD mJ kV jE jF kW jG jH
theorem aw.j6_P {F:Nat} {H0:Hp} {Ri R0:List Rs}  {C61_:Int->Nat->Nat->Nat->Nat->Int->Sl->Int->Int->Hp->OA} {cu:Int->Int->List Int->Int->List Int->Int->Int->Option (Int×List Int)} (hC61:aw.S61 H0 Ri R0  C61_ cu) {jD yR mJ jE jF jG jH:Int} {tO tP tQ:ON} {pt lS pu lT pv:Nat} {tR tS tT:Cap} {tU kV kW:List Int} {tV tW:List AV} {H:Hp} (yS:pt=tU.length) (yT:pu=kV.length) (yU:pv=kW.length) (h0:Out H0 Ri H (Rs.own ⟨tO,pt,tR⟩ (ae .i64).z tV :: Rs.blk lS [.i yR,.sl ⟨tO,pt,tR⟩] :: Rs.own ⟨tP,pu,tS⟩ (ae .i64).z tW :: Rs.blk lT [.i mJ,.sl ⟨tP,pu,tS⟩] :: R0) λR=>CR (ae .i64) H R tV tU/\CR (ae .i64) H R tW kV/\ROs (ae .i64) H R ⟨tQ,pv,tT⟩ kW) {r:Int×List Int} (hp:aw.pj6 F cu jD mJ kV jE jF kW jG jH=some r):∃ v H',aw.j6 F (bG.tw F) (bH.tw F) (bT.tw F) C61_ jD lS 0 lT 0 jE jF ⟨tQ,pv,tT⟩ jG jH H=some (v,H')/\aw.Q H0 Ri R0  r v H':=by
 obtain ⟨w0,s0,yV,yW,yX⟩:=h0
 subst yS
 subst yT
 subst yU
 unfold aw.pj6 at hp
 unfold aw.j6
 exact aw.j5_P (@hC61) rfl rfl rfl ⟨w0,s0,yV,yW,yX⟩ hp
def aw.pl61 (F:Nat) :Nat->Int->Int->List Int->Int->List Int->Int->Int->Option (Int×List Int)
 | 0,_,_,_,_,_,_,_=>none
 | k+1,dp,ia,gS,dq,eT,dH,dr=>(bif (decide (dr<dH)) then ((ix eT dr).bind λn1=>(bif ((gt eT n1) == dp) then ((bG.p F 1 dq).bind λr2=>(bH.p F ia gS r2.1 r2.2).bind λr8=>aw.pj4 F (aw.pl61 F k) dp r8.1 r8.2 dq (gt eT n1) eT dH dr) else ((bif ((gt eT n1) == (IntKind.i64.wrap (0 - dp))) then ((bG.p F (-1) (IntKind.i64.wrap (dq - 1))).bind λr15=>(bH.p F ia gS r15.1 r15.2).bind λr21=>aw.pj6 F (aw.pl61 F k) dp r21.1 r21.2 dq (gt eT n1) eT dH dr) else (aw.pj6 F (aw.pl61 F k) dp ia gS dq (gt eT n1) eT dH dr))))) else (some (ia,gS)))
termination_by structural n=>n
theorem aw.l61_P {F:Nat} {H0:Hp} {Ri R0:List Rs}  :∀ k,aw.S61 H0 Ri R0  (aw.l61 F (bG.tw F) (bH.tw F) (bT.tw F)  k) (aw.pl61 F  k):=by
 intro k
 induction k with
 | zero=>unfold aw.S61;intros;rename_i hp;cases hp
 | succ k ih=>
  intro dp tq ia dq dH dr pa pb pc mE cD mF db mG pd pe pf pg gS eT ph pi H yY yZ y_ h0 r hp
  obtain ⟨w0,s0,pw,mK,mL⟩:=h0
  subst yY
  subst yZ
  subst y_
  unfold aw.pl61 at hp
  unfold aw.l61
  refine aH hp (λhp=>?_) λhp=>?_
  ·obtain ⟨n1,g1,hp⟩:=ag hp
   obtain ⟨p1,q1,i1,h1,j1⟩:=ROs.ixr mL rfl g1
   refine ac i1 ?_
   have h1:_=[_]:=h1
   subst h1
   refine ac (av (j1 0 _ rfl)) ?_
   refine aH hp (λhp=>?_) λhp=>?_
   ·refine ac (av (w0.ld (i:=3) rfl rfl)) ?_
    refine ac (aA (w0.ld (i:=3) rfl rfl)) ?_
    obtain ⟨r2,e2,hp⟩:=ag hp
    refine aJ (bG.P ⟨w0,trivial⟩ e2) ?_
    rintro _ H3 ⟨o1a_3,o1n_3,o1c_3,o1k_3,rfl,rfl,w3,s3,f3_0⟩
    refine ac rfl ?_
    refine ac rfl ?_
    refine ac rfl ?_
    refine ac rfl ?_
    refine ac rfl ?_
    refine iP (W.cons_of (Rn:=[_]) w0 w3 s3) ?_
    obtain ⟨w5,s5⟩:=w3.pick' [3,0,1,2,4] 5 rfl rfl rfl
    have f6:=W.borrow1 (ae .i64) w5 (mK.step (s3.trans s5))
    obtain ⟨w6,s6⟩:=w5.right1
    have f7:=W.borrow1 (ae .i64) w6 ((f3_0.step s5).step s6)
    obtain ⟨w7,s7⟩:=w6.right1
    obtain ⟨r8,e8,hp⟩:=ag hp
    refine aJ (bH.P rfl rfl ⟨w7,(f6.step s7),f7⟩ e8) ?_
    rintro _ H9 ⟨o1a_9,o1n_9,o1c_9,o1k_9,rfl,rfl,w9,s9,f9_0⟩
    obtain ⟨w10,s10⟩:=W.frame1 w6 w9 s9
    obtain ⟨w11,s11⟩:=W.frame1 w5 w10 s10
    refine ac rfl ?_
    refine ac rfl ?_
    refine ac rfl ?_
    refine ac rfl ?_
    refine ac rfl ?_
    refine aF w11 (i:=5) rfl rfl rfl λH12 w12 s12=>?_
    refine aF w12 (i:=5) rfl rfl rfl λH13 w13 s13=>?_
    dsimp only [pk,pks,nth,List.drop,List.set,List.eraseIdx] at w13 s5 s12 s13
    obtain ⟨w14,s14⟩:=w13.pick' [3,4,2,5] 6 rfl rfl rfl
    exact aw.j4_P (@ih) rfl rfl rfl ⟨w14,(s0.trans (s3.trans (s5.trans (s11.trans (s12.trans (s13.trans s14)))))),(pw.step (s3.trans (s5.trans (s11.trans (s12.trans (s13.trans s14)))))),((CR.flat (ef .i64) f9_0).step (s12.trans (s13.trans s14))),(mL.step (s3.trans (s5.trans (s11.trans (s12.trans (s13.trans s14))))))⟩ hp
   ·refine aH hp (λhp=>?_) λhp=>?_
    ·refine ac (av (w0.ld (i:=3) rfl rfl)) ?_
     refine ac (aA (w0.ld (i:=3) rfl rfl)) ?_
     obtain ⟨r15,e15,hp⟩:=ag hp
     refine aJ (bG.P ⟨w0,trivial⟩ e15) ?_
     rintro _ H16 ⟨o1a_16,o1n_16,o1c_16,o1k_16,rfl,rfl,w16,s16,f16_0⟩
     refine ac rfl ?_
     refine ac rfl ?_
     refine ac rfl ?_
     refine ac rfl ?_
     refine ac rfl ?_
     refine iP (W.cons_of (Rn:=[_]) w0 w16 s16) ?_
     obtain ⟨w18,s18⟩:=w16.pick' [3,0,1,2,4] 5 rfl rfl rfl
     have f19:=W.borrow1 (ae .i64) w18 (mK.step (s16.trans s18))
     obtain ⟨w19,s19⟩:=w18.right1
     have f20:=W.borrow1 (ae .i64) w19 ((f16_0.step s18).step s19)
     obtain ⟨w20,s20⟩:=w19.right1
     obtain ⟨r21,e21,hp⟩:=ag hp
     refine aJ (bH.P rfl rfl ⟨w20,(f19.step s20),f20⟩ e21) ?_
     rintro _ H22 ⟨o1a_22,o1n_22,o1c_22,o1k_22,rfl,rfl,w22,s22,f22_0⟩
     obtain ⟨w23,s23⟩:=W.frame1 w19 w22 s22
     obtain ⟨w24,s24⟩:=W.frame1 w18 w23 s23
     refine ac rfl ?_
     refine ac rfl ?_
     refine ac rfl ?_
     refine ac rfl ?_
     refine ac rfl ?_
     refine aF w24 (i:=5) rfl rfl rfl λH25 w25 s25=>?_
     refine aF w25 (i:=5) rfl rfl rfl λH26 w26 s26=>?_
     dsimp only [pk,pks,nth,List.drop,List.set,List.eraseIdx] at w26 s18 s25 s26
     obtain ⟨w27,s27⟩:=w26.pick' [3,4,2,5] 6 rfl rfl rfl
     exact aw.j6_P (@ih) rfl rfl rfl ⟨w27,(s0.trans (s16.trans (s18.trans (s24.trans (s25.trans (s26.trans s27)))))),(pw.step (s16.trans (s18.trans (s24.trans (s25.trans (s26.trans s27)))))),((CR.flat (ef .i64) f22_0).step (s25.trans (s26.trans s27))),(mL.step (s16.trans (s18.trans (s24.trans (s25.trans (s26.trans s27))))))⟩ hp
    ·exact aw.j6_P (@ih) rfl rfl rfl ⟨w0,s0,pw,mK,mL⟩ hp
  ·refine ac (av (w0.ld (i:=3) rfl rfl)) ?_
   refine ac (aA (w0.ld (i:=3) rfl rfl)) ?_
   refine aF w0 (i:=1) rfl rfl rfl λH28 w28 s28=>?_
   refine aF w28 (i:=1) rfl rfl rfl λH29 w29 s29=>?_
   refine ac (av (w29.ld (i:=1) rfl rfl)) ?_
   refine ac (aA (w29.ld (i:=1) rfl rfl)) ?_
   obtain ⟨w30,s30⟩:=w29.pick' [2] 4 rfl rfl rfl
   dsimp only [pk,pks,nth,List.drop,List.set,List.eraseIdx] at w30 s28 s29 s30
   exact ay hp ⟨_,_,_,_,rfl,rfl,w30,(s0.trans (s28.trans (s29.trans s30))),(mK.step (s28.trans (s29.trans s30)))⟩
def aw.p (F:Nat) (aj:List Int) (ah:Int):Option (Int×List Int):=aw.pl61 F F ah 0 ([]:List Int) 0 aj (aj.length:Int) 0
theorem aw.P {F:Nat} {aN:ON} {aE:Nat} {aO:Cap} {aj:List Int} {ah:Int} {H:Hp} {R0:List Rs} (bj:aE=aj.length) (h0:Inn H R0 λR=>ROs (ae .i64) H R ⟨aN,aE,aO⟩ aj) {r:Int×List Int} (hp:aw.p F aj ah=some r):∃ v H',aw.tw F ⟨aN,aE,aO⟩ ah H=some (v,H')/\aw.Q H R0 R0  r v H':=by
 obtain ⟨w0,bl⟩:=h0
 subst bj
 unfold aw.p at hp
 unfold aw.tw aw.twX
 have s0:=w0.rf
 refine bo w0 λH1 w1 s1=>?_
 refine bo w1 λH2 w2 s2=>?_
 obtain ⟨w3,s3⟩:=w2.nilS (ae .i64).z (by decide)
 obtain ⟨w4,s4⟩:=w3.nilS (ae .i64).z (by decide)
 obtain ⟨w5,s5⟩:=w4.pick' [1,3,0,2] 4 rfl rfl rfl
 exact aw.l61_P F rfl rfl rfl ⟨w5,(s0.trans (s1.trans (s2.trans (s3.trans (s4.trans s5))))),((CR.empty:CR (ae .i64) _ _ [] []).step (s4.trans s5)),((CR.empty:CR (ae .i64) _ _ [] []).step s5),(bl.step (s1.trans (s2.trans (s3.trans (s4.trans s5)))))⟩ hp
def bz.Q (H0:Hp) (Ri R0:List Rs)  (r:Int×List Int×Int) (v:AV) (H':Hp):Prop:=∃ o1a:ON,∃ o1n:Nat,∃ o1c:Cap,∃ o1k:List AV,v=(.tup [(.agg [(.i r.1),(.sl ⟨o1a,o1n,o1c⟩)]),(.i r.2.2)])/\o1n=(r.2.1).length/\Out H0 Ri H' (Rs.own ⟨o1a,o1n,o1c⟩ (ae .i64).z o1k :: R0) λR=>CR (ae .i64) H' R o1k (r.2.1)
def bz.p (F:Nat) (aj:List Int) (ah:Int):Option (Int×List Int×Int):=(cC.p F aj).bind λr2=>(bif (!r2) then (some (0,([]:List Int),1)) else ((bY.p F ah 1 24).bind λr8=>(bif (!r8) then (some (0,([]:List Int),2)) else ((aw.p F aj ah).bind λr14=>some (r14.1,r14.2,0)))))
theorem bz.P {F:Nat} {aN:ON} {aE:Nat} {aO:Cap} {aj:List Int} {ah:Int} {H:Hp} {R0:List Rs} (bj:aE=aj.length) (h0:Inn H R0 λR=>ROs (ae .i64) H R ⟨aN,aE,aO⟩ aj) {r:Int×List Int×Int} (hp:bz.p F aj ah=some r):∃ v H',bz.tw F ⟨aN,aE,aO⟩ ah H=some (v,H')/\bz.Q H R0 R0  r v H':=by
 obtain ⟨w0,bl⟩:=h0
 subst bj
 unfold bz.p at hp
 unfold bz.tw bz.twX
 have s0:=w0.rf
 refine bo w0 λH1 w1 s1=>?_
 obtain ⟨r2,e2,hp⟩:=ag hp
 refine aJ (cC.P rfl ⟨w1,(bl.step s1)⟩ e2) ?_
 rintro _ H3 ⟨rfl,w3,s3,_⟩
 refine ac rfl ?_
 refine aH hp (λhp=>?_) λhp=>?_
 ·refine aF w3 (i:=0) rfl rfl rfl λH4 w4 s4=>?_
  refine aF w4 (i:=0) rfl rfl rfl λH5 w5 s5=>?_
  refine ac (av (w5.ld (i:=0) rfl rfl)) ?_
  refine ac (aA (w5.ld (i:=0) rfl rfl)) ?_
  obtain ⟨w6,s6⟩:=w5.nilS (ae .i64).z (by decide)
  obtain ⟨w7,s7⟩:=w6.pick' [0] 2 rfl rfl rfl
  dsimp only [pk,pks,nth,List.drop,List.set,List.eraseIdx] at w7 s4 s5 s6 s7
  exact ay hp ⟨_,_,_,_,rfl,rfl,w7,(s0.trans (s1.trans (s3.trans (s4.trans (s5.trans (s6.trans s7)))))),((CR.empty:CR (ae .i64) _ _ [] []).step s7)⟩
 ·obtain ⟨r8,e8,hp⟩:=ag hp
  refine aJ (bY.P ⟨w3,trivial⟩ e8) ?_
  rintro _ H9 ⟨rfl,w9,s9,_⟩
  refine ac rfl ?_
  refine aH hp (λhp=>?_) λhp=>?_
  ·refine aF w9 (i:=0) rfl rfl rfl λH10 w10 s10=>?_
   refine aF w10 (i:=0) rfl rfl rfl λH11 w11 s11=>?_
   refine ac (av (w11.ld (i:=0) rfl rfl)) ?_
   refine ac (aA (w11.ld (i:=0) rfl rfl)) ?_
   obtain ⟨w12,s12⟩:=w11.nilS (ae .i64).z (by decide)
   obtain ⟨w13,s13⟩:=w12.pick' [0] 2 rfl rfl rfl
   dsimp only [pk,pks,nth,List.drop,List.set,List.eraseIdx] at w13 s10 s11 s12 s13
   exact ay hp ⟨_,_,_,_,rfl,rfl,w13,(s0.trans (s1.trans (s3.trans (s9.trans (s10.trans (s11.trans (s12.trans s13))))))),((CR.empty:CR (ae .i64) _ _ [] []).step s13)⟩
  ·obtain ⟨r14,e14,hp⟩:=ag hp
   refine aJ (aw.P rfl ⟨w9,(bl.step (s1.trans (s3.trans s9)))⟩ e14) ?_
   rintro _ H15 ⟨o1a_15,o1n_15,o1c_15,o1k_15,rfl,rfl,w15,s15,f15_0⟩
   refine ac rfl ?_
   refine ac rfl ?_
   refine ac rfl ?_
   refine ac rfl ?_
   refine ac rfl ?_
   refine aF w15 (i:=1) rfl rfl rfl λH16 w16 s16=>?_
   refine aF w16 (i:=1) rfl rfl rfl λH17 w17 s17=>?_
   refine ac (av (w17.ld (i:=1) rfl rfl)) ?_
   refine ac (aA (w17.ld (i:=1) rfl rfl)) ?_
   obtain ⟨w18,s18⟩:=w17.pick' [0] 2 rfl rfl rfl
   dsimp only [pk,pks,nth,List.drop,List.set,List.eraseIdx] at w18 s16 s17 s18
   exact ay hp ⟨_,_,_,_,rfl,rfl,w18,(s0.trans (s1.trans (s3.trans (s9.trans (s15.trans (s16.trans (s17.trans s18))))))),(f15_0.step (s16.trans (s17.trans s18)))⟩
def aL.Q (H0:Hp) (Ri R0:List Rs)  (r:Bool) (v:AV) (H':Hp):Prop:=v=(.bool r)/\Out H0 Ri H' (R0) λR=>True
def aL.S125 (H0:Hp) (Ri R0:List Rs)  (C:Nat->Nat->Int->Hp->OA) (pC:List Int->Int->Option (Bool)):Prop:=∀ {tX cE:Int} {pz:ON} {mM eN:Nat} {pA:Cap} {gT:List Int},∀ {H:Hp},mM=gT.length->(Out H0 Ri H (Rs.blk eN [.i tX,.sl ⟨pz,mM,pA⟩] :: R0) λR=>ROs (ae .i64) H R ⟨pz,mM,pA⟩ gT)->∀ {r:Bool},pC gT cE=some r->∃ v H',C eN 0 cE H=some (v,H')/\aL.Q H0 Ri R0  r v H'
def aL.pl125 (F:Nat) :Nat->List Int->Int->Option (Bool)
 | 0,_,_=>none
 | k+1,gT,cE=>(bif (decide (cE<(gT.length:Int))) then ((ix gT cE).bind λn1=>(bf.p F (gt gT n1) (-1000000000000) 1000000000000).bind λr2=>(bif (!r2) then (some false) else (aL.pl125 F k gT (IntKind.i64.wrap (cE+1))))) else (some true))
termination_by structural n=>n
theorem aL.l125_P {F:Nat} {H0:Hp} {Ri R0:List Rs}  :∀ k,aL.S125 H0 Ri R0  (aL.l125 F (bf.tw F)  k) (aL.pl125 F  k):=by
 intro k
 induction k with
 | zero=>unfold aL.S125;intros;rename_i hp;cases hp
 | succ k ih=>
  intro tX cE pz mM eN pA gT H za h0 r hp
  obtain ⟨w0,s0,tY⟩:=h0
  subst za
  unfold aL.pl125 at hp
  unfold aL.l125
  refine ac (aA (w0.ld (i:=0) rfl rfl)) ?_
  refine aH hp (λhp=>?_) λhp=>?_
  ·refine ac (aA (w0.ld (i:=0) rfl rfl)) ?_
   obtain ⟨n1,g1,hp⟩:=ag hp
   obtain ⟨p1,q1,i1,h1,j1⟩:=ROs.ixr tY rfl g1
   refine ac i1 ?_
   have h1:_=[_]:=h1
   subst h1
   refine ac (av (j1 0 _ rfl)) ?_
   obtain ⟨r2,e2,hp⟩:=ag hp
   refine aJ (bf.P ⟨w0,trivial⟩ e2) ?_
   rintro _ H3 ⟨rfl,w3,s3,_⟩
   refine ac rfl ?_
   refine aH hp (λhp=>?_) λhp=>?_
   ·obtain ⟨w4,s4⟩:=w3.pick' [] 1 rfl rfl rfl
    exact ay hp ⟨rfl,w4,(s0.trans (s3.trans s4)),trivial⟩
   ·exact ih rfl ⟨w3,(s0.trans s3),(tY.step s3)⟩ hp
  ·obtain ⟨w5,s5⟩:=w0.pick' [] 1 rfl rfl rfl
   exact ay hp ⟨rfl,w5,(s0.trans s5),trivial⟩
def aL.p (F:Nat) (aa:Int) (az:List Int):Option (Bool):=(bif ((az.length:Int) == 0) then (some (aa == 0)) else ((bif (decide ((az.length:Int)>160)) then (some false) else ((bf.p F aa (-240) 240).bind λr4=>(bif (!r4) then (some false) else ((bif (decide ((IntKind.i64.wrap ((IntKind.i64.wrap (aa+(az.length:Int))) - 1))>240)) then (some false) else ((ix az 0).bind λn8=>(bif ((gt az n8) == 0) then (some false) else ((ix az (IntKind.i64.wrap ((az.length:Int) - 1))).bind λn10=>(bif ((gt az n10) == 0) then (some false) else (aL.pl125 F F az 0))))))))))))
theorem aL.P {F:Nat} {aa:Int} {bD:ON} {bg:Nat} {bE:Cap} {az:List Int} {H:Hp} {R0:List Rs} (da:bg=az.length) (h0:Inn H R0 λR=>ROs (ae .i64) H R ⟨bD,bg,bE⟩ az) {r:Bool} (hp:aL.p F aa az=some r):∃ v H',aL.tw F aa ⟨bD,bg,bE⟩ H=some (v,H')/\aL.Q H R0 R0  r v H':=by
 obtain ⟨w0,bM⟩:=h0
 subst da
 unfold aL.p at hp
 unfold aL.tw aL.twX
 have s0:=w0.rf
 refine bo w0 λH1 w1 s1=>?_
 refine ac (aA (w1.ld (i:=0) rfl rfl)) ?_
 refine aH hp (λhp=>?_) λhp=>?_
 ·refine ac (av (w1.ld (i:=0) rfl rfl)) ?_
  obtain ⟨w2,s2⟩:=w1.pick' [] 1 rfl rfl rfl
  exact ay hp ⟨rfl,w2,(s0.trans (s1.trans s2)),trivial⟩
 ·refine aH hp (λhp=>?_) λhp=>?_
  ·obtain ⟨w3,s3⟩:=w1.pick' [] 1 rfl rfl rfl
   exact ay hp ⟨rfl,w3,(s0.trans (s1.trans s3)),trivial⟩
  ·refine ac (av (w1.ld (i:=0) rfl rfl)) ?_
   obtain ⟨r4,e4,hp⟩:=ag hp
   refine aJ (bf.P ⟨w1,trivial⟩ e4) ?_
   rintro _ H5 ⟨rfl,w5,s5,_⟩
   refine ac rfl ?_
   refine aH hp (λhp=>?_) λhp=>?_
   ·obtain ⟨w6,s6⟩:=w5.pick' [] 1 rfl rfl rfl
    exact ay hp ⟨rfl,w6,(s0.trans (s1.trans (s5.trans s6))),trivial⟩
   ·refine ac (av (w5.ld (i:=0) rfl rfl)) ?_
    refine aH hp (λhp=>?_) λhp=>?_
    ·obtain ⟨w7,s7⟩:=w5.pick' [] 1 rfl rfl rfl
     exact ay hp ⟨rfl,w7,(s0.trans (s1.trans (s5.trans s7))),trivial⟩
    ·refine ac (aA (w5.ld (i:=0) rfl rfl)) ?_
     obtain ⟨n8,g8,hp⟩:=ag hp
     obtain ⟨p8,q8,i8,h8,j8⟩:=ROs.ixr (bM.step (s1.trans s5)) rfl g8
     refine ac i8 ?_
     have h8:_=[_]:=h8
     subst h8
     refine ac (av (j8 0 _ rfl)) ?_
     refine aH hp (λhp=>?_) λhp=>?_
     ·obtain ⟨w9,s9⟩:=w5.pick' [] 1 rfl rfl rfl
      exact ay hp ⟨rfl,w9,(s0.trans (s1.trans (s5.trans s9))),trivial⟩
     ·refine ac (aA (w5.ld (i:=0) rfl rfl)) ?_
      obtain ⟨n10,g10,hp⟩:=ag hp
      obtain ⟨p10,q10,i10,h10,j10⟩:=ROs.ixr (bM.step (s1.trans s5)) rfl g10
      refine ac i10 ?_
      have h10:_=[_]:=h10
      subst h10
      refine ac (av (j10 0 _ rfl)) ?_
      refine aH hp (λhp=>?_) λhp=>?_
      ·obtain ⟨w11,s11⟩:=w5.pick' [] 1 rfl rfl rfl
       exact ay hp ⟨rfl,w11,(s0.trans (s1.trans (s5.trans s11))),trivial⟩
      ·exact aL.l125_P F rfl ⟨w5,(s0.trans (s1.trans s5)),(bM.step (s1.trans s5))⟩ hp
def ar.Q (H0:Hp) (Ri R0:List Rs)  (r:Int×List Int) (v:AV) (H':Hp):Prop:=∃ o1a:ON,∃ o1n:Nat,∃ o1c:Cap,∃ o1k:List AV,v=(.agg [(.i r.1),(.sl ⟨o1a,o1n,o1c⟩)])/\o1n=(r.2).length/\Out H0 Ri H' (Rs.own ⟨o1a,o1n,o1c⟩ (ae .i64).z o1k :: R0) λR=>CR (ae .i64) H' R o1k (r.2)
def ar.S14 (H0:Hp) (Ri R0:List Rs)  (C:Int->Sl->Nat->Nat->Int->Int->Hp->OA) (pC:Int->List Int->Int->Int->Option (Int×List Int)):Prop:=∀ {cH tZ du dJ:Int} {pB pD:ON} {mN mO bh:Nat} {pE pF:Cap} {gq pG:List Int} {pH:List AV},∀ {H:Hp},mN=gq.length->mO=pG.length->(Out H0 Ri H (Rs.own ⟨pD,mO,pF⟩ (ae .i64).z pH :: Rs.blk bh [.i tZ,.sl ⟨pD,mO,pF⟩] :: R0) λR=>ROs (ae .i64) H R ⟨pB,mN,pE⟩ gq/\CR (ae .i64) H R pH pG)->∀ {r:Int×List Int},pC cH gq du dJ=some r->∃ v H',C cH ⟨pB,mN,pE⟩ bh 0 du dJ H=some (v,H')/\ar.Q H0 Ri R0  r v H'
def ar.S30 (H0:Hp) (Ri R0:List Rs)  (C:Int->Sl->Nat->Nat->Int->Int->Hp->OA) (pC:Int->List Int->Int->Int->Option (Int×List Int)):Prop:=∀ {dW t_ dI dt:Int} {pI pJ:ON} {mP mQ eO:Nat} {pK pL:Cap} {gr pM:List Int} {pN:List AV},∀ {H:Hp},mP=gr.length->mQ=pM.length->(Out H0 Ri H (Rs.own ⟨pJ,mQ,pL⟩ (ae .i64).z pN :: Rs.blk eO [.i t_,.sl ⟨pJ,mQ,pL⟩] :: R0) λR=>ROs (ae .i64) H R ⟨pI,mP,pK⟩ gr/\CR (ae .i64) H R pN pM)->∀ {r:Int×List Int},pC dW gr dI dt=some r->∃ v H',C dW ⟨pI,mP,pK⟩ eO 0 dI dt H=some (v,H')/\ar.Q H0 Ri R0  r v H'
def ar.pj1 (F:Nat)  (jL:Int) (kX:List Int) (gc:Int) (hO:Int):Option (Int×List Int):=(bif (gc == hO) then (some (0,([]:List Int))) else ((cutf kX gc hO).bind λl6=>(apn ([]:List Int) l6).bind λl8=>some ((IntKind.i64.wrap (jL+gc)),l8)))
theorem ar.j1_P {F:Nat} {H0:Hp} {Ri R0:List Rs}   {jL zb gc hO:Int} {ua ub:ON} {pO pP fF:Nat} {uc ud:Cap} {kX ue:List Int} {uf:List AV} {H:Hp} (zd:pO=kX.length) (ze:pP=ue.length) (h0:Out H0 Ri H (Rs.own ⟨ub,pP,ud⟩ (ae .i64).z uf :: Rs.blk fF [.i zb,.sl ⟨ub,pP,ud⟩] :: R0) λR=>ROs (ae .i64) H R ⟨ua,pO,uc⟩ kX/\CR (ae .i64) H R uf ue) {r:Int×List Int} (hp:ar.pj1 F  jL kX gc hO=some r):∃ v H',ar.j1 F   jL ⟨ua,pO,uc⟩ fF 0 gc hO H=some (v,H')/\ar.Q H0 Ri R0  r v H':=by
 obtain ⟨w0,s0,zf,BG⟩:=h0
 subst zd
 subst ze
 unfold ar.pj1 at hp
 unfold ar.j1
 refine aH hp (λhp=>?_) λhp=>?_
 ·refine aF w0 (i:=1) rfl rfl rfl λH1 w1 s1=>?_
  refine aF w1 (i:=1) rfl rfl rfl λH2 w2 s2=>?_
  refine ac (av (w2.ld (i:=1) rfl rfl)) ?_
  refine ac (aA (w2.ld (i:=1) rfl rfl)) ?_
  obtain ⟨w3,s3⟩:=w2.nilS (ae .i64).z (by decide)
  obtain ⟨w4,s4⟩:=w3.pick' [0] 3 rfl rfl rfl
  dsimp only [pk,pks,nth,List.drop,List.set,List.eraseIdx] at w4 s1 s2 s3 s4
  exact ay hp ⟨_,_,_,_,rfl,rfl,w4,(s0.trans (s1.trans (s2.trans (s3.trans s4)))),((CR.empty:CR (ae .i64) _ _ [] []).step s4)⟩
 ·refine eU (ae .i64) w0 (n:=0) (l:=([]:List Int)) rfl CR.empty rfl λH5 w5 s5 c5=>?_
  obtain ⟨l6,e6,hp⟩:=ag hp
  obtain ⟨a6,d6,h6,f6⟩:=ROs.cutf (zf.step s5) rfl e6
  refine ac h6 ?_
  obtain ⟨x7,h7,c7⟩:=f6.row rfl
  refine ac h7 ?_
  obtain ⟨l8,e8,hp⟩:=ag hp
  refine iO (ae .i64) w5 (i:=0) rfl rfl c5 c7 rfl rfl e8 λa9 d9 H9 w9 s9 c9 x9=>?_
  refine aF w9 (i:=2) rfl rfl rfl λH10 w10 s10=>?_
  refine aF w10 (i:=2) rfl rfl rfl λH11 w11 s11=>?_
  dsimp only [pk,pks,nth,List.drop,List.set,List.eraseIdx] at w11 s9 c9 s10 s11
  refine ac (av (w11.ld (i:=2) rfl rfl)) ?_
  refine ac (aA (w11.ld (i:=2) rfl rfl)) ?_
  obtain ⟨w12,s12⟩:=w11.pick' [0] 3 rfl rfl rfl
  exact ay hp ⟨_,_,_,_,rfl,rfl,w12,(s0.trans (s5.trans (s9.trans (s10.trans (s11.trans s12))))),(c9.step (s10.trans (s11.trans s12)))⟩
def ar.pl30 (F:Nat) :Nat->Int->List Int->Int->Int->Option (Int×List Int)
 | 0,_,_,_,_=>none
 | k+1,dW,gr,dI,dt=>(bif (decide (dI<dt)) then ((ix gr (IntKind.i64.wrap (dt - 1))).bind λn1=>(bif ((gt gr n1) == 0) then (ar.pl30 F k dW gr dI (IntKind.i64.wrap (dt - 1))) else (ar.pj1 F dW gr dI dt))) else (ar.pj1 F dW gr dI dt))
termination_by structural n=>n
theorem ar.l30_P {F:Nat} {H0:Hp} {Ri R0:List Rs}  :∀ k,ar.S30 H0 Ri R0  (ar.l30 F   k) (ar.pl30 F  k):=by
 intro k
 induction k with
 | zero=>unfold ar.S30;intros;rename_i hp;cases hp
 | succ k ih=>
  intro dW t_ dI dt pI pJ mP mQ eO pK pL gr pM pN H zg zh h0 r hp
  obtain ⟨w0,s0,mR,pQ⟩:=h0
  subst zg
  subst zh
  unfold ar.pl30 at hp
  unfold ar.l30
  refine aH hp (λhp=>?_) λhp=>?_
  ·obtain ⟨n1,g1,hp⟩:=ag hp
   obtain ⟨p1,q1,i1,h1,j1⟩:=ROs.ixr mR rfl g1
   refine ac i1 ?_
   have h1:_=[_]:=h1
   subst h1
   refine ac (av (j1 0 _ rfl)) ?_
   refine aH hp (λhp=>?_) λhp=>?_
   ·exact ih rfl rfl ⟨w0,s0,mR,pQ⟩ hp
   ·exact ar.j1_P rfl rfl ⟨w0,s0,mR,pQ⟩ hp
  ·exact ar.j1_P rfl rfl ⟨w0,s0,mR,pQ⟩ hp
def ar.pj2 (F:Nat)  (jM:Int) (kY:List Int) (jN:Int) (jO:Int):Option (Int×List Int):=ar.pl30 F F jM kY jN jO
theorem ar.j2_P {F:Nat} {H0:Hp} {Ri R0:List Rs}   {jM zi jN jO:Int} {ug uh:ON} {pR pS lU:Nat} {ui uj:Cap} {kY uk:List Int} {ul:List AV} {H:Hp} (zj:pR=kY.length) (zk:pS=uk.length) (h0:Out H0 Ri H (Rs.own ⟨uh,pS,uj⟩ (ae .i64).z ul :: Rs.blk lU [.i zi,.sl ⟨uh,pS,uj⟩] :: R0) λR=>ROs (ae .i64) H R ⟨ug,pR,ui⟩ kY/\CR (ae .i64) H R ul uk) {r:Int×List Int} (hp:ar.pj2 F  jM kY jN jO=some r):∃ v H',ar.j2 F   jM ⟨ug,pR,ui⟩ lU 0 jN jO H=some (v,H')/\ar.Q H0 Ri R0  r v H':=by
 obtain ⟨w0,s0,zm,zn⟩:=h0
 subst zj
 subst zk
 unfold ar.pj2 at hp
 unfold ar.j2
 exact ar.l30_P F rfl rfl ⟨w0,s0,zm,zn⟩ hp
def ar.pl14 (F:Nat) :Nat->Int->List Int->Int->Int->Option (Int×List Int)
 | 0,_,_,_,_=>none
 | k+1,cH,gq,du,dJ=>(bif (decide (du<dJ)) then ((ix gq du).bind λn1=>(bif ((gt gq n1) == 0) then (ar.pl14 F k cH gq (IntKind.i64.wrap (du+1)) dJ) else (ar.pj2 F cH gq du dJ))) else (ar.pj2 F cH gq du dJ))
termination_by structural n=>n
theorem ar.l14_P {F:Nat} {H0:Hp} {Ri R0:List Rs}  :∀ k,ar.S14 H0 Ri R0  (ar.l14 F   k) (ar.pl14 F  k):=by
 intro k
 induction k with
 | zero=>unfold ar.S14;intros;rename_i hp;cases hp
 | succ k ih=>
  intro cH tZ du dJ pB pD mN mO bh pE pF gq pG pH H zo zp h0 r hp
  obtain ⟨w0,s0,mS,pT⟩:=h0
  subst zo
  subst zp
  unfold ar.pl14 at hp
  unfold ar.l14
  refine aH hp (λhp=>?_) λhp=>?_
  ·obtain ⟨n1,g1,hp⟩:=ag hp
   obtain ⟨p1,q1,i1,h1,j1⟩:=ROs.ixr mS rfl g1
   refine ac i1 ?_
   have h1:_=[_]:=h1
   subst h1
   refine ac (av (j1 0 _ rfl)) ?_
   refine aH hp (λhp=>?_) λhp=>?_
   ·exact ih rfl rfl ⟨w0,s0,mS,pT⟩ hp
   ·exact ar.j2_P rfl rfl ⟨w0,s0,mS,pT⟩ hp
  ·exact ar.j2_P rfl rfl ⟨w0,s0,mS,pT⟩ hp
def ar.p (F:Nat) (aa:Int) (fm:List Int):Option (Int×List Int):=ar.pl14 F F aa fm 0 (fm.length:Int)
theorem ar.P {F:Nat} {aa:Int} {kZ:ON} {iJ:Nat} {k_:Cap} {fm:List Int} {H:Hp} {R0:List Rs} (pU:iJ=fm.length) (h0:Inn H R0 λR=>ROs (ae .i64) H R ⟨kZ,iJ,k_⟩ fm) {r:Int×List Int} (hp:ar.p F aa fm=some r):∃ v H',ar.tw F aa ⟨kZ,iJ,k_⟩ H=some (v,H')/\ar.Q H R0 R0  r v H':=by
 obtain ⟨w0,pV⟩:=h0
 subst pU
 unfold ar.p at hp
 unfold ar.tw ar.twX
 have s0:=w0.rf
 refine bo w0 λH1 w1 s1=>?_
 obtain ⟨w2,s2⟩:=w1.nilS (ae .i64).z (by decide)
 exact ar.l14_P F rfl rfl ⟨w2,(s0.trans (s1.trans s2)),(pV.step (s1.trans s2)),(CR.empty:CR (ae .i64) _ _ [] [])⟩ hp
def bQ.Q (H0:Hp) (Ri R0:List Rs)  (r:Int×List Int×Int) (v:AV) (H':Hp):Prop:=∃ o1a:ON,∃ o1n:Nat,∃ o1c:Cap,v=(.tup [(.agg [(.i r.1),(.sl ⟨o1a,o1n,o1c⟩)]),(.i r.2.2)])/\o1n=(r.2.1).length/\Out H0 Ri H' (R0) λR=>ROs (ae .i64) H' R ⟨o1a,o1n,o1c⟩ (r.2.1)
def bQ.p (F:Nat) (aa:Int) (az:List Int):Option (Int×List Int×Int):=(aL.p F aa az).bind λr3=>(bif (!r3) then (some (0,([]:List Int),3)) else (some (aa,az,0)))
theorem bQ.P {F:Nat} {aa:Int} {bD:ON} {bg:Nat} {bE:Cap} {az:List Int} {H:Hp} {R0:List Rs} (da:bg=az.length) (h0:Inn H R0 λR=>ROs (ae .i64) H R ⟨bD,bg,bE⟩ az) {r:Int×List Int×Int} (hp:bQ.p F aa az=some r):∃ v H',bQ.tw F aa ⟨bD,bg,bE⟩ H=some (v,H')/\bQ.Q H R0 R0  r v H':=by
 obtain ⟨w0,bM⟩:=h0
 subst da
 unfold bQ.p at hp
 unfold bQ.tw bQ.twX
 have s0:=w0.rf
 refine bo w0 λH1 w1 s1=>?_
 refine bo w1 λH2 w2 s2=>?_
 refine ac (av (w2.ld (i:=1) rfl rfl)) ?_
 refine ac (aA (w2.ld (i:=1) rfl rfl)) ?_
 obtain ⟨r3,e3,hp⟩:=ag hp
 refine aJ (aL.P rfl ⟨w2,(bM.step (s1.trans s2))⟩ e3) ?_
 rintro _ H4 ⟨rfl,w4,s4,_⟩
 refine ac rfl ?_
 refine aH hp (λhp=>?_) λhp=>?_
 ·refine aF w4 (i:=0) rfl rfl rfl λH5 w5 s5=>?_
  refine aF w5 (i:=0) rfl rfl rfl λH6 w6 s6=>?_
  refine ac (av (w6.ld (i:=0) rfl rfl)) ?_
  refine ac (aA (w6.ld (i:=0) rfl rfl)) ?_
  obtain ⟨w7,s7⟩:=w6.nilS (ae .i64).z (by decide)
  obtain ⟨w8,s8,f8⟩:=w7.frz (i:=0) (ae .i64) rfl (CR.empty:CR (ae .i64) _ _ [] [])
  dsimp only [pk,pks,nth,List.drop,List.set,List.eraseIdx] at w8 s5 s6 s7 s8 f8
  obtain ⟨w9,s9⟩:=w8.pick' [] 2 rfl rfl rfl
  exact ay hp ⟨_,_,_,rfl,rfl,w9,(s0.trans (s1.trans (s2.trans (s4.trans (s5.trans (s6.trans (s7.trans (s8.trans s9)))))))),(f8.step s9)⟩
 ·refine ac (av (w4.ld (i:=1) rfl rfl)) ?_
  refine ac (aA (w4.ld (i:=1) rfl rfl)) ?_
  refine aF w4 (i:=0) rfl rfl rfl λH10 w10 s10=>?_
  refine aF w10 (i:=0) rfl rfl rfl λH11 w11 s11=>?_
  refine ac (av (w11.ld (i:=0) rfl rfl)) ?_
  refine ac (aA (w11.ld (i:=0) rfl rfl)) ?_
  obtain ⟨w12,s12⟩:=w11.pick' [] 2 rfl rfl rfl
  dsimp only [pk,pks,nth,List.drop,List.set,List.eraseIdx] at w12 s10 s11 s12
  exact ay hp ⟨_,_,_,rfl,rfl,w12,(s0.trans (s1.trans (s2.trans (s4.trans (s10.trans (s11.trans s12)))))),(bM.step (s1.trans (s2.trans (s4.trans (s10.trans (s11.trans s12))))))⟩
def b_.Q (H0:Hp) (Ri R0:List Rs)  (r:Int×List Int×Int) (v:AV) (H':Hp):Prop:=∃ o1a:ON,∃ o1n:Nat,∃ o1c:Cap,v=(.tup [(.agg [(.i r.1),(.sl ⟨o1a,o1n,o1c⟩)]),(.i r.2.2)])/\o1n=(r.2.1).length/\Out H0 Ri H' (R0) λR=>ROs (ae .i64) H' R ⟨o1a,o1n,o1c⟩ (r.2.1)
def b_.p (F:Nat) (aa:Int) (az:List Int) (ai:Int):Option (Int×List Int×Int):=(aL.p F aa az).bind λr3=>(bif (!r3) then (some (0,([]:List Int),1)) else ((bf.p F ai (-480) 480).bind λr10=>(bif (!r10) then (some (0,([]:List Int),2)) else ((ar.p F (IntKind.i64.wrap (aa+ai)) az).bind λr17=>(bQ.p F r17.1 r17.2).bind λr20=>some (r20.1,r20.2.1,r20.2.2)))))
theorem b_.P {F:Nat} {aa ai:Int} {bD:ON} {bg:Nat} {bE:Cap} {az:List Int} {H:Hp} {R0:List Rs} (da:bg=az.length) (h0:Inn H R0 λR=>ROs (ae .i64) H R ⟨bD,bg,bE⟩ az) {r:Int×List Int×Int} (hp:b_.p F aa az ai=some r):∃ v H',b_.tw F aa ⟨bD,bg,bE⟩ ai H=some (v,H')/\b_.Q H R0 R0  r v H':=by
 obtain ⟨w0,bM⟩:=h0
 subst da
 unfold b_.p at hp
 unfold b_.tw b_.twX
 have s0:=w0.rf
 refine bo w0 λH1 w1 s1=>?_
 refine bo w1 λH2 w2 s2=>?_
 refine ac (av (w2.ld (i:=1) rfl rfl)) ?_
 refine ac (aA (w2.ld (i:=1) rfl rfl)) ?_
 obtain ⟨r3,e3,hp⟩:=ag hp
 refine aJ (aL.P rfl ⟨w2,(bM.step (s1.trans s2))⟩ e3) ?_
 rintro _ H4 ⟨rfl,w4,s4,_⟩
 refine ac rfl ?_
 refine aH hp (λhp=>?_) λhp=>?_
 ·refine aF w4 (i:=0) rfl rfl rfl λH5 w5 s5=>?_
  refine aF w5 (i:=0) rfl rfl rfl λH6 w6 s6=>?_
  refine ac (av (w6.ld (i:=0) rfl rfl)) ?_
  refine ac (aA (w6.ld (i:=0) rfl rfl)) ?_
  obtain ⟨w7,s7⟩:=w6.nilS (ae .i64).z (by decide)
  obtain ⟨w8,s8,f8⟩:=w7.frz (i:=0) (ae .i64) rfl (CR.empty:CR (ae .i64) _ _ [] [])
  dsimp only [pk,pks,nth,List.drop,List.set,List.eraseIdx] at w8 s5 s6 s7 s8 f8
  obtain ⟨w9,s9⟩:=w8.pick' [] 2 rfl rfl rfl
  exact ay hp ⟨_,_,_,rfl,rfl,w9,(s0.trans (s1.trans (s2.trans (s4.trans (s5.trans (s6.trans (s7.trans (s8.trans s9)))))))),(f8.step s9)⟩
 ·obtain ⟨r10,e10,hp⟩:=ag hp
  refine aJ (bf.P ⟨w4,trivial⟩ e10) ?_
  rintro _ H11 ⟨rfl,w11,s11,_⟩
  refine ac rfl ?_
  refine aH hp (λhp=>?_) λhp=>?_
  ·refine aF w11 (i:=0) rfl rfl rfl λH12 w12 s12=>?_
   refine aF w12 (i:=0) rfl rfl rfl λH13 w13 s13=>?_
   refine ac (av (w13.ld (i:=0) rfl rfl)) ?_
   refine ac (aA (w13.ld (i:=0) rfl rfl)) ?_
   obtain ⟨w14,s14⟩:=w13.nilS (ae .i64).z (by decide)
   obtain ⟨w15,s15,f15⟩:=w14.frz (i:=0) (ae .i64) rfl (CR.empty:CR (ae .i64) _ _ [] [])
   dsimp only [pk,pks,nth,List.drop,List.set,List.eraseIdx] at w15 s12 s13 s14 s15 f15
   obtain ⟨w16,s16⟩:=w15.pick' [] 2 rfl rfl rfl
   exact ay hp ⟨_,_,_,rfl,rfl,w16,(s0.trans (s1.trans (s2.trans (s4.trans (s11.trans (s12.trans (s13.trans (s14.trans (s15.trans s16))))))))),(f15.step s16)⟩
  ·refine ac (av (w11.ld (i:=1) rfl rfl)) ?_
   refine ac (aA (w11.ld (i:=1) rfl rfl)) ?_
   obtain ⟨r17,e17,hp⟩:=ag hp
   refine aJ (ar.P rfl ⟨w11,(bM.step (s1.trans (s2.trans (s4.trans s11))))⟩ e17) ?_
   rintro _ H18 ⟨o1a_18,o1n_18,o1c_18,o1k_18,rfl,rfl,w18,s18,f18_0⟩
   refine ac rfl ?_
   refine ac rfl ?_
   refine ac rfl ?_
   refine ac rfl ?_
   refine ac rfl ?_
   obtain ⟨w19,s19,f19⟩:=w18.frz (i:=0) (ae .i64) rfl f18_0
   obtain ⟨r20,e20,hp⟩:=ag hp
   refine aJ (bQ.P rfl ⟨w19,f19⟩ e20) ?_
   rintro _ H21 ⟨o1a_21,o1n_21,o1c_21,rfl,rfl,w21,s21,f21_0⟩
   refine ac rfl ?_
   refine ac rfl ?_
   refine ac rfl ?_
   refine ac rfl ?_
   refine ac rfl ?_
   refine ac rfl ?_
   refine ac rfl ?_
   refine ac rfl ?_
   refine ac rfl ?_
   refine aF w21 (i:=0) rfl rfl rfl λH22 w22 s22=>?_
   refine aF w22 (i:=0) rfl rfl rfl λH23 w23 s23=>?_
   dsimp only [pk,pks,nth,List.drop,List.set,List.eraseIdx] at w23 s19 f19 s22 s23
   refine ac (av (w23.ld (i:=0) rfl rfl)) ?_
   refine ac (aA (w23.ld (i:=0) rfl rfl)) ?_
   obtain ⟨w24,s24⟩:=w23.pick' [] 2 rfl rfl rfl
   exact ay hp ⟨_,_,_,rfl,rfl,w24,(s0.trans (s1.trans (s2.trans (s4.trans (s11.trans (s18.trans (s19.trans (s21.trans (s22.trans (s23.trans s24)))))))))),(f21_0.step (s22.trans (s23.trans s24)))⟩
def aq.Q (H0:Hp) (Ri R0:List Rs)  (r:Int×List Int) (v:AV) (H':Hp):Prop:=∃ o1a:ON,∃ o1n:Nat,∃ o1c:Cap,∃ o1k:List AV,v=(.agg [(.i r.1),(.sl ⟨o1a,o1n,o1c⟩)])/\o1n=(r.2).length/\Out H0 Ri H' (Rs.own ⟨o1a,o1n,o1c⟩ (ae .i64).z o1k :: R0) λR=>CR (ae .i64) H' R o1k (r.2)
def aq.S509 (H0:Hp) (Ri R0:List Rs)  (C:Nat->Nat->Nat->Nat->Nat->Nat->Int->Sl->Int->Hp->OA) (pC:Int->List Int->Int->List Int->Int->List Int->Int->Option (Int×List Int)):Prop:=∀ {iK ke um dL dw:Int} {pW pX pY pZ:ON} {mT ey mU fh mV fi mW:Nat} {p_ qa qb qc:Cap} {gU iL qd gu:List Int} {qe qf:List AV},∀ {H:Hp},mT=gU.length->mU=iL.length->mV=qd.length->mW=gu.length->(Out H0 Ri H (Rs.blk ey [.i iK,.sl ⟨pW,mT,p_⟩] :: Rs.blk fh [.i ke,.sl ⟨pX,mU,qa⟩] :: Rs.own ⟨pY,mV,qb⟩ (ae .i64).z qe :: Rs.blk fi [.i um,.sl ⟨pY,mV,qb⟩] :: Rs.own ⟨pZ,mW,qc⟩ (ae .i64).z qf :: R0) λR=>ROs (ae .i64) H R ⟨pW,mT,p_⟩ gU/\ROs (ae .i64) H R ⟨pX,mU,qa⟩ iL/\CR (ae .i64) H R qe qd/\CR (ae .i64) H R qf gu)->∀ {r:Int×List Int},pC iK gU ke iL dL gu dw=some r->∃ v H',C ey 0 fh 0 fi 0 dL ⟨pZ,mW,qc⟩ dw H=some (v,H')/\aq.Q H0 Ri R0  r v H'
def aq.S1021 (H0:Hp) (Ri R0:List Rs)  (C:Nat->Nat->Nat->Nat->Int->Sl->Int->Hp->OA) (pC:Int->List Int->Int->List Int->Int->Option (Int×List Int)):Prop:=∀ {iM un dK dv:Int} {qg qh qi:ON} {mX ew mY fg mZ:Nat} {qj qk qm:Cap} {gV qn gv:List Int} {qo qp:List AV},∀ {H:Hp},mX=gV.length->mY=qn.length->mZ=gv.length->(Out H0 Ri H (Rs.blk ew [.i iM,.sl ⟨qg,mX,qj⟩] :: Rs.own ⟨qh,mY,qk⟩ (ae .i64).z qo :: Rs.blk fg [.i un,.sl ⟨qh,mY,qk⟩] :: Rs.own ⟨qi,mZ,qm⟩ (ae .i64).z qp :: R0) λR=>ROs (ae .i64) H R ⟨qg,mX,qj⟩ gV/\CR (ae .i64) H R qo qn/\CR (ae .i64) H R qp gv)->∀ {r:Int×List Int},pC iM gV dK gv dv=some r->∃ v H',C ew 0 fg 0 dK ⟨qi,mZ,qm⟩ dv H=some (v,H')/\aq.Q H0 Ri R0  r v H'
def aq.pj1 (F:Nat)  (jP:Int) (lf:List Int):Option (Int×List Int):=(ar.p F jP lf).bind λr3=>some (r3.1,r3.2)
theorem aq.j1_P {F:Nat} {H0:Hp} {Ri R0:List Rs}   {zq jP:Int} {uo uq:ON} {qq iA qr:Nat} {ur ut:Cap} {uu lf:List Int} {uv uw:List AV} {H:Hp} (zr:qq=uu.length) (zt:qr=lf.length) (h0:Out H0 Ri H (Rs.own ⟨uo,qq,ur⟩ (ae .i64).z uv :: Rs.blk iA [.i zq,.sl ⟨uo,qq,ur⟩] :: Rs.own ⟨uq,qr,ut⟩ (ae .i64).z uw :: R0) λR=>CR (ae .i64) H R uv uu/\CR (ae .i64) H R uw lf) {r:Int×List Int} (hp:aq.pj1 F  jP lf=some r):∃ v H',aq.j1 F (ar.tw F)  iA 0 jP ⟨uq,qr,ut⟩ H=some (v,H')/\aq.Q H0 Ri R0  r v H':=by
 obtain ⟨w0,s0,BH,zu⟩:=h0
 subst zr
 subst zt
 unfold aq.pj1 at hp
 unfold aq.j1
 obtain ⟨w1,s1⟩:=w0.pick' [2,0,1] 3 rfl rfl rfl
 have f2:=W.borrow1 (ae .i64) w1 (zu.step s1)
 obtain ⟨w2,s2⟩:=w1.right1
 obtain ⟨r3,e3,hp⟩:=ag hp
 refine aJ (ar.P rfl ⟨w2,f2⟩ e3) ?_
 rintro _ H4 ⟨o1a_4,o1n_4,o1c_4,o1k_4,rfl,rfl,w4,s4,f4_0⟩
 obtain ⟨w5,s5⟩:=W.frame1 w1 w4 s4
 refine ac rfl ?_
 refine ac rfl ?_
 refine ac rfl ?_
 refine ac rfl ?_
 refine ac rfl ?_
 refine aF w5 (i:=3) rfl rfl rfl λH6 w6 s6=>?_
 refine aF w6 (i:=3) rfl rfl rfl λH7 w7 s7=>?_
 dsimp only [pk,pks,nth,List.drop,List.set,List.eraseIdx] at w7 s1 s6 s7
 refine ac (av (w7.ld (i:=3) rfl rfl)) ?_
 refine ac (aA (w7.ld (i:=3) rfl rfl)) ?_
 obtain ⟨w8,s8⟩:=w7.pick' [1] 4 rfl rfl rfl
 exact ay hp ⟨_,_,_,_,rfl,rfl,w8,(s0.trans (s1.trans (s5.trans (s6.trans (s7.trans s8))))),((CR.flat (ef .i64) f4_0).step (s6.trans (s7.trans s8)))⟩
def aq.pl1021 (F:Nat) :Nat->Int->List Int->Int->List Int->Int->Option (Int×List Int)
 | 0,_,_,_,_,_=>none
 | k+1,iM,gV,dK,gv,dv=>(bif (decide (dv<(gV.length:Int))) then ((ix gv (IntKind.i64.wrap ((IntKind.i64.wrap (iM - dK))+dv))).bind λn1=>(ix gV dv).bind λn2=>(ix gv (IntKind.i64.wrap ((IntKind.i64.wrap (iM - dK))+dv))).bind λn3=>(some (gv.set n3 (IntKind.i64.wrap ((gt gv n1)+(gt gV n2))))).bind λl4=>aq.pl1021 F k iM gV dK l4 (IntKind.i64.wrap (dv+1))) else (aq.pj1 F dK gv))
termination_by structural n=>n
theorem aq.l1021_P {F:Nat} {H0:Hp} {Ri R0:List Rs}  :∀ k,aq.S1021 H0 Ri R0  (aq.l1021 F (ar.tw F)  k) (aq.pl1021 F  k):=by
 intro k
 induction k with
 | zero=>unfold aq.S1021;intros;rename_i hp;cases hp
 | succ k ih=>
  intro iM un dK dv qg qh qi mX ew mY fg mZ qj qk qm gV qn gv qo qp H zw zx zy h0 r hp
  obtain ⟨w0,s0,ux,uy,m_⟩:=h0
  subst zw
  subst zx
  subst zy
  unfold aq.pl1021 at hp
  unfold aq.l1021
  refine ac (aA (w0.ld (i:=0) rfl rfl)) ?_
  refine aH hp (λhp=>?_) λhp=>?_
  ·refine ac (av (w0.ld (i:=0) rfl rfl)) ?_
   obtain ⟨n1,g1,hp⟩:=ag hp
   obtain ⟨p1,q1,i1,h1,j1⟩:=W.ixo (E:=(ae .i64)) w0 (i:=3) rfl rfl m_ g1
   refine ac i1 ?_
   have h1:_=[_]:=h1
   subst h1
   refine ac (av (j1 0 _ rfl)) ?_
   refine ac (aA (w0.ld (i:=0) rfl rfl)) ?_
   obtain ⟨n2,g2,hp⟩:=ag hp
   obtain ⟨p2,q2,i2,h2,j2⟩:=ROs.ixr ux rfl g2
   refine ac i2 ?_
   have h2:_=[_]:=h2
   subst h2
   refine ac (av (j2 0 _ rfl)) ?_
   obtain ⟨n3,g3,hp⟩:=ag hp
   obtain ⟨p3,q3,i3,h3,j3⟩:=W.ixo (E:=(ae .i64)) w0 (i:=3) rfl rfl m_ g3
   refine ac i3 ?_
   obtain ⟨l4,e4,hp⟩:=ag hp
   refine nr (ae .i64) w0 (i:=3) (j:=0) (p:=p3) rfl rfl m_ g3 i3 e4 rfl rfl (λ_ h=>by have h:_=[_]:=h;subst h;exact rfl) λH5 k5 w5 s5 c5=>?_
   exact ih rfl rfl ((ns e4).symm) ⟨w5,(s0.trans s5),(ux.step s5),(uy.step s5),c5⟩ hp
  ·obtain ⟨w6,s6⟩:=w0.pick' [1,2,3] 4 rfl rfl rfl
   exact aq.j1_P rfl rfl ⟨w6,(s0.trans s6),(uy.step s6),(m_.step s6)⟩ hp
def aq.pj2 (F:Nat)  (na:Int) (lg:List Int) (jQ:Int) (li:List Int):Option (Int×List Int):=aq.pl1021 F F na lg jQ li 0
theorem aq.j2_P {F:Nat} {H0:Hp} {Ri R0:List Rs}   {na zA jQ:Int} {uz uA uB:ON} {qs lX qt lY qu:Nat} {uC uD uE:Cap} {lg uF li:List Int} {uG uH:List AV} {H:Hp} (zB:qs=lg.length) (zC:qt=uF.length) (zD:qu=li.length) (h0:Out H0 Ri H (Rs.blk lX [.i na,.sl ⟨uz,qs,uC⟩] :: Rs.own ⟨uA,qt,uD⟩ (ae .i64).z uG :: Rs.blk lY [.i zA,.sl ⟨uA,qt,uD⟩] :: Rs.own ⟨uB,qu,uE⟩ (ae .i64).z uH :: R0) λR=>ROs (ae .i64) H R ⟨uz,qs,uC⟩ lg/\CR (ae .i64) H R uG uF/\CR (ae .i64) H R uH li) {r:Int×List Int} (hp:aq.pj2 F  na lg jQ li=some r):∃ v H',aq.j2 F (ar.tw F)  lX 0 lY 0 jQ ⟨uB,qu,uE⟩ H=some (v,H')/\aq.Q H0 Ri R0  r v H':=by
 obtain ⟨w0,s0,zE,zF,zG⟩:=h0
 subst zB
 subst zC
 subst zD
 unfold aq.pj2 at hp
 unfold aq.j2
 exact aq.l1021_P F rfl rfl rfl ⟨w0,s0,zE,zF,zG⟩ hp
def aq.pl509 (F:Nat) :Nat->Int->List Int->Int->List Int->Int->List Int->Int->Option (Int×List Int)
 | 0,_,_,_,_,_,_,_=>none
 | k+1,iK,gU,ke,iL,dL,gu,dw=>(bif (decide (dw<(gU.length:Int))) then ((ix gu (IntKind.i64.wrap ((IntKind.i64.wrap (iK - dL))+dw))).bind λn1=>(ix gU dw).bind λn2=>(ix gu (IntKind.i64.wrap ((IntKind.i64.wrap (iK - dL))+dw))).bind λn3=>(some (gu.set n3 (IntKind.i64.wrap ((gt gu n1)+(gt gU n2))))).bind λl4=>aq.pl509 F k iK gU ke iL dL l4 (IntKind.i64.wrap (dw+1))) else (aq.pj2 F ke iL dL gu))
termination_by structural n=>n
theorem aq.l509_P {F:Nat} {H0:Hp} {Ri R0:List Rs}  :∀ k,aq.S509 H0 Ri R0  (aq.l509 F (ar.tw F)  k) (aq.pl509 F  k):=by
 intro k
 induction k with
 | zero=>unfold aq.S509;intros;rename_i hp;cases hp
 | succ k ih=>
  intro iK ke um dL dw pW pX pY pZ mT ey mU fh mV fi mW p_ qa qb qc gU iL qd gu qe qf H zH zI zJ zK h0 r hp
  obtain ⟨w0,s0,uI,uJ,uK,ne⟩:=h0
  subst zH
  subst zI
  subst zJ
  subst zK
  unfold aq.pl509 at hp
  unfold aq.l509
  refine ac (aA (w0.ld (i:=0) rfl rfl)) ?_
  refine aH hp (λhp=>?_) λhp=>?_
  ·refine ac (av (w0.ld (i:=0) rfl rfl)) ?_
   obtain ⟨n1,g1,hp⟩:=ag hp
   obtain ⟨p1,q1,i1,h1,j1⟩:=W.ixo (E:=(ae .i64)) w0 (i:=4) rfl rfl ne g1
   refine ac i1 ?_
   have h1:_=[_]:=h1
   subst h1
   refine ac (av (j1 0 _ rfl)) ?_
   refine ac (aA (w0.ld (i:=0) rfl rfl)) ?_
   obtain ⟨n2,g2,hp⟩:=ag hp
   obtain ⟨p2,q2,i2,h2,j2⟩:=ROs.ixr uI rfl g2
   refine ac i2 ?_
   have h2:_=[_]:=h2
   subst h2
   refine ac (av (j2 0 _ rfl)) ?_
   obtain ⟨n3,g3,hp⟩:=ag hp
   obtain ⟨p3,q3,i3,h3,j3⟩:=W.ixo (E:=(ae .i64)) w0 (i:=4) rfl rfl ne g3
   refine ac i3 ?_
   obtain ⟨l4,e4,hp⟩:=ag hp
   refine nr (ae .i64) w0 (i:=4) (j:=0) (p:=p3) rfl rfl ne g3 i3 e4 rfl rfl (λ_ h=>by have h:_=[_]:=h;subst h;exact rfl) λH5 k5 w5 s5 c5=>?_
   exact ih rfl rfl rfl ((ns e4).symm) ⟨w5,(s0.trans s5),(uI.step s5),(uJ.step s5),(uK.step s5),c5⟩ hp
  ·obtain ⟨w6,s6⟩:=w0.pick' [1,2,3,4] 5 rfl rfl rfl
   exact aq.j2_P rfl rfl rfl ⟨w6,(s0.trans s6),(uJ.step s6),(uK.step s6),(ne.step s6)⟩ hp
def aq.p (F:Nat) (aa:Int) (az:List Int) (ai:Int) (bB:List Int):Option (Int×List Int):=(bif ((az.length:Int) == 0) then ((ar.p F ai bB).bind λr4=>some (r4.1,r4.2)) else ((bif ((bB.length:Int) == 0) then ((ar.p F aa az).bind λr9=>some (r9.1,r9.2)) else ((mkn (IntKind.i64.wrap ((if (IntKind.i64.wrap (ai+(bB.length:Int)))>(IntKind.i64.wrap (aa+(az.length:Int))) then (IntKind.i64.wrap (ai+(bB.length:Int))) else (IntKind.i64.wrap (aa+(az.length:Int)))) - (if ai<aa then ai else aa))) (0:Int)).bind λl14=>aq.pl509 F F aa az ai bB (if ai<aa then ai else aa) l14 0))))
theorem aq.P {F:Nat} {aa ai:Int} {bD eR:ON} {bg dS:Nat} {bE eS:Cap} {az bB:List Int} {H:Hp} {R0:List Rs} (da:bg=az.length) (gR:dS=bB.length) (h0:Inn H R0 λR=>ROs (ae .i64) H R ⟨bD,bg,bE⟩ az/\ROs (ae .i64) H R ⟨eR,dS,eS⟩ bB) {r:Int×List Int} (hp:aq.p F aa az ai bB=some r):∃ v H',aq.tw F aa ⟨bD,bg,bE⟩ ai ⟨eR,dS,eS⟩ H=some (v,H')/\aq.Q H R0 R0  r v H':=by
 obtain ⟨w0,bM,fl⟩:=h0
 subst da
 subst gR
 unfold aq.p at hp
 unfold aq.tw aq.twX
 have s0:=w0.rf
 refine bo w0 λH1 w1 s1=>?_
 refine bo w1 λH2 w2 s2=>?_
 refine bo w2 λH3 w3 s3=>?_
 refine ac (aA (w3.ld (i:=2) rfl rfl)) ?_
 refine aH hp (λhp=>?_) λhp=>?_
 ·refine ac (av (w3.ld (i:=1) rfl rfl)) ?_
  refine ac (aA (w3.ld (i:=1) rfl rfl)) ?_
  obtain ⟨r4,e4,hp⟩:=ag hp
  refine aJ (ar.P rfl ⟨w3,(fl.step (s1.trans (s2.trans s3)))⟩ e4) ?_
  rintro _ H5 ⟨o1a_5,o1n_5,o1c_5,o1k_5,rfl,rfl,w5,s5,f5_0⟩
  refine ac rfl ?_
  refine ac rfl ?_
  refine ac rfl ?_
  refine ac rfl ?_
  refine ac rfl ?_
  refine aF w5 (i:=1) rfl rfl rfl λH6 w6 s6=>?_
  refine aF w6 (i:=1) rfl rfl rfl λH7 w7 s7=>?_
  refine ac (av (w7.ld (i:=1) rfl rfl)) ?_
  refine ac (aA (w7.ld (i:=1) rfl rfl)) ?_
  obtain ⟨w8,s8⟩:=w7.pick' [0] 4 rfl rfl rfl
  dsimp only [pk,pks,nth,List.drop,List.set,List.eraseIdx] at w8 s6 s7 s8
  exact ay hp ⟨_,_,_,_,rfl,rfl,w8,(s0.trans (s1.trans (s2.trans (s3.trans (s5.trans (s6.trans (s7.trans s8))))))),(f5_0.step (s6.trans (s7.trans s8)))⟩
 ·refine ac (aA (w3.ld (i:=1) rfl rfl)) ?_
  refine aH hp (λhp=>?_) λhp=>?_
  ·refine ac (av (w3.ld (i:=2) rfl rfl)) ?_
   refine ac (aA (w3.ld (i:=2) rfl rfl)) ?_
   obtain ⟨r9,e9,hp⟩:=ag hp
   refine aJ (ar.P rfl ⟨w3,(bM.step (s1.trans (s2.trans s3)))⟩ e9) ?_
   rintro _ H10 ⟨o1a_10,o1n_10,o1c_10,o1k_10,rfl,rfl,w10,s10,f10_0⟩
   refine ac rfl ?_
   refine ac rfl ?_
   refine ac rfl ?_
   refine ac rfl ?_
   refine ac rfl ?_
   refine aF w10 (i:=1) rfl rfl rfl λH11 w11 s11=>?_
   refine aF w11 (i:=1) rfl rfl rfl λH12 w12 s12=>?_
   refine ac (av (w12.ld (i:=1) rfl rfl)) ?_
   refine ac (aA (w12.ld (i:=1) rfl rfl)) ?_
   obtain ⟨w13,s13⟩:=w12.pick' [0] 4 rfl rfl rfl
   dsimp only [pk,pks,nth,List.drop,List.set,List.eraseIdx] at w13 s11 s12 s13
   exact ay hp ⟨_,_,_,_,rfl,rfl,w13,(s0.trans (s1.trans (s2.trans (s3.trans (s10.trans (s11.trans (s12.trans s13))))))),(f10_0.step (s11.trans (s12.trans s13)))⟩
  ·refine ac (av (w3.ld (i:=2) rfl rfl)) ?_
   refine ac (av (w3.ld (i:=1) rfl rfl)) ?_
   refine ac (av (w3.ld (i:=2) rfl rfl)) ?_
   refine ac (aA (w3.ld (i:=2) rfl rfl)) ?_
   refine ac (av (w3.ld (i:=1) rfl rfl)) ?_
   refine ac (aA (w3.ld (i:=1) rfl rfl)) ?_
   obtain ⟨l14,e14,hp⟩:=ag hp
   refine rq (ae .i64) (0:Int) w3 rfl rfl rfl e14 λH15 k15 w15 s15 c15=>?_
   obtain ⟨w16,s16⟩:=w15.nilS (ae .i64).z (by decide)
   obtain ⟨w17,s17⟩:=w16.pick' [4,3,0,2,1] 5 rfl rfl rfl
   exact aq.l509_P F rfl rfl rfl rfl ⟨w17,(s0.trans (s1.trans (s2.trans (s3.trans (s15.trans (s16.trans s17)))))),(bM.step (s1.trans (s2.trans (s3.trans (s15.trans (s16.trans s17)))))),(fl.step (s1.trans (s2.trans (s3.trans (s15.trans (s16.trans s17)))))),((CR.empty:CR (ae .i64) _ _ [] []).step s17),(c15.step (s16.trans s17))⟩ hp
def ce.Q (H0:Hp) (Ri R0:List Rs)  (r:Int×List Int×Int) (v:AV) (H':Hp):Prop:=∃ o1a:ON,∃ o1n:Nat,∃ o1c:Cap,v=(.tup [(.agg [(.i r.1),(.sl ⟨o1a,o1n,o1c⟩)]),(.i r.2.2)])/\o1n=(r.2.1).length/\Out H0 Ri H' (R0) λR=>ROs (ae .i64) H' R ⟨o1a,o1n,o1c⟩ (r.2.1)
def ce.p (F:Nat) (aa:Int) (az:List Int) (ai:Int) (bB:List Int):Option (Int×List Int×Int):=(aL.p F aa az).bind λr4=>(bif (!r4) then (some (0,([]:List Int),1)) else ((aL.p F ai bB).bind λr11=>(bif (!r11) then (some (0,([]:List Int),1)) else ((aq.p F aa az ai bB).bind λr18=>(bQ.p F r18.1 r18.2).bind λr21=>some (r21.1,r21.2.1,r21.2.2)))))
theorem ce.P {F:Nat} {aa ai:Int} {bD eR:ON} {bg dS:Nat} {bE eS:Cap} {az bB:List Int} {H:Hp} {R0:List Rs} (da:bg=az.length) (gR:dS=bB.length) (h0:Inn H R0 λR=>ROs (ae .i64) H R ⟨bD,bg,bE⟩ az/\ROs (ae .i64) H R ⟨eR,dS,eS⟩ bB) {r:Int×List Int×Int} (hp:ce.p F aa az ai bB=some r):∃ v H',ce.tw F aa ⟨bD,bg,bE⟩ ai ⟨eR,dS,eS⟩ H=some (v,H')/\ce.Q H R0 R0  r v H':=by
 obtain ⟨w0,bM,fl⟩:=h0
 subst da
 subst gR
 unfold ce.p at hp
 unfold ce.tw ce.twX
 have s0:=w0.rf
 refine bo w0 λH1 w1 s1=>?_
 refine bo w1 λH2 w2 s2=>?_
 refine bo w2 λH3 w3 s3=>?_
 refine ac (av (w3.ld (i:=2) rfl rfl)) ?_
 refine ac (aA (w3.ld (i:=2) rfl rfl)) ?_
 obtain ⟨r4,e4,hp⟩:=ag hp
 refine aJ (aL.P rfl ⟨w3,(bM.step (s1.trans (s2.trans s3)))⟩ e4) ?_
 rintro _ H5 ⟨rfl,w5,s5,_⟩
 refine ac rfl ?_
 refine aH hp (λhp=>?_) λhp=>?_
 ·refine aF w5 (i:=0) rfl rfl rfl λH6 w6 s6=>?_
  refine aF w6 (i:=0) rfl rfl rfl λH7 w7 s7=>?_
  refine ac (av (w7.ld (i:=0) rfl rfl)) ?_
  refine ac (aA (w7.ld (i:=0) rfl rfl)) ?_
  obtain ⟨w8,s8⟩:=w7.nilS (ae .i64).z (by decide)
  obtain ⟨w9,s9,f9⟩:=w8.frz (i:=0) (ae .i64) rfl (CR.empty:CR (ae .i64) _ _ [] [])
  dsimp only [pk,pks,nth,List.drop,List.set,List.eraseIdx] at w9 s6 s7 s8 s9 f9
  obtain ⟨w10,s10⟩:=w9.pick' [] 3 rfl rfl rfl
  exact ay hp ⟨_,_,_,rfl,rfl,w10,(s0.trans (s1.trans (s2.trans (s3.trans (s5.trans (s6.trans (s7.trans (s8.trans (s9.trans s10))))))))),(f9.step s10)⟩
 ·refine ac (av (w5.ld (i:=1) rfl rfl)) ?_
  refine ac (aA (w5.ld (i:=1) rfl rfl)) ?_
  obtain ⟨r11,e11,hp⟩:=ag hp
  refine aJ (aL.P rfl ⟨w5,(fl.step (s1.trans (s2.trans (s3.trans s5))))⟩ e11) ?_
  rintro _ H12 ⟨rfl,w12,s12,_⟩
  refine ac rfl ?_
  refine aH hp (λhp=>?_) λhp=>?_
  ·refine aF w12 (i:=0) rfl rfl rfl λH13 w13 s13=>?_
   refine aF w13 (i:=0) rfl rfl rfl λH14 w14 s14=>?_
   refine ac (av (w14.ld (i:=0) rfl rfl)) ?_
   refine ac (aA (w14.ld (i:=0) rfl rfl)) ?_
   obtain ⟨w15,s15⟩:=w14.nilS (ae .i64).z (by decide)
   obtain ⟨w16,s16,f16⟩:=w15.frz (i:=0) (ae .i64) rfl (CR.empty:CR (ae .i64) _ _ [] [])
   dsimp only [pk,pks,nth,List.drop,List.set,List.eraseIdx] at w16 s13 s14 s15 s16 f16
   obtain ⟨w17,s17⟩:=w16.pick' [] 3 rfl rfl rfl
   exact ay hp ⟨_,_,_,rfl,rfl,w17,(s0.trans (s1.trans (s2.trans (s3.trans (s5.trans (s12.trans (s13.trans (s14.trans (s15.trans (s16.trans s17)))))))))),(f16.step s17)⟩
  ·refine ac (av (w12.ld (i:=2) rfl rfl)) ?_
   refine ac (aA (w12.ld (i:=2) rfl rfl)) ?_
   refine ac (av (w12.ld (i:=1) rfl rfl)) ?_
   refine ac (aA (w12.ld (i:=1) rfl rfl)) ?_
   obtain ⟨r18,e18,hp⟩:=ag hp
   refine aJ (aq.P rfl rfl ⟨w12,(bM.step (s1.trans (s2.trans (s3.trans (s5.trans s12))))),(fl.step (s1.trans (s2.trans (s3.trans (s5.trans s12)))))⟩ e18) ?_
   rintro _ H19 ⟨o1a_19,o1n_19,o1c_19,o1k_19,rfl,rfl,w19,s19,f19_0⟩
   refine ac rfl ?_
   refine ac rfl ?_
   refine ac rfl ?_
   refine ac rfl ?_
   refine ac rfl ?_
   obtain ⟨w20,s20,f20⟩:=w19.frz (i:=0) (ae .i64) rfl f19_0
   obtain ⟨r21,e21,hp⟩:=ag hp
   refine aJ (bQ.P rfl ⟨w20,f20⟩ e21) ?_
   rintro _ H22 ⟨o1a_22,o1n_22,o1c_22,rfl,rfl,w22,s22,f22_0⟩
   refine ac rfl ?_
   refine ac rfl ?_
   refine ac rfl ?_
   refine ac rfl ?_
   refine ac rfl ?_
   refine ac rfl ?_
   refine ac rfl ?_
   refine ac rfl ?_
   refine ac rfl ?_
   refine aF w22 (i:=0) rfl rfl rfl λH23 w23 s23=>?_
   refine aF w23 (i:=0) rfl rfl rfl λH24 w24 s24=>?_
   dsimp only [pk,pks,nth,List.drop,List.set,List.eraseIdx] at w24 s20 f20 s23 s24
   refine ac (av (w24.ld (i:=0) rfl rfl)) ?_
   refine ac (aA (w24.ld (i:=0) rfl rfl)) ?_
   obtain ⟨w25,s25⟩:=w24.pick' [] 3 rfl rfl rfl
   exact ay hp ⟨_,_,_,rfl,rfl,w25,(s0.trans (s1.trans (s2.trans (s3.trans (s5.trans (s12.trans (s19.trans (s20.trans (s22.trans (s23.trans (s24.trans s25))))))))))),(f22_0.step (s23.trans (s24.trans s25)))⟩
def ax.Q (H0:Hp) (Ri R0:List Rs)  (r:Int×List Int) (v:AV) (H':Hp):Prop:=∃ o1a:ON,∃ o1n:Nat,∃ o1c:Cap,∃ o1k:List AV,v=(.agg [(.i r.1),(.sl ⟨o1a,o1n,o1c⟩)])/\o1n=(r.2).length/\Out H0 Ri H' (Rs.own ⟨o1a,o1n,o1c⟩ (ae .i64).z o1k :: R0) λR=>CR (ae .i64) H' R o1k (r.2)
def ax.S61 (H0:Hp) (Ri R0:List Rs)  (C:Sl->Int->Nat->Nat->Nat->Nat->Int->Int->Hp->OA) (pC:List Int->Int->Int->List Int->Int->Int->Option (Int×List Int)):Prop:=∀ {qv qw qx:ON} {ng nh ee ni dR:Nat} {qy qz qA:Cap} {gw qB ib:List Int} {bN uL iN dX dM:Int} {qC qD:List AV},∀ {H:Hp},ng=gw.length->nh=qB.length->ni=ib.length->(Out H0 Ri H (Rs.own ⟨qw,nh,qz⟩ (ae .i64).z qC :: Rs.blk ee [.i uL,.sl ⟨qw,nh,qz⟩] :: Rs.own ⟨qx,ni,qA⟩ (ae .i64).z qD :: Rs.blk dR [.i iN,.sl ⟨qx,ni,qA⟩] :: R0) λR=>ROs (ae .i64) H R ⟨qv,ng,qy⟩ gw/\CR (ae .i64) H R qC qB/\CR (ae .i64) H R qD ib)->∀ {r:Int×List Int},pC gw bN iN ib dX dM=some r->∃ v H',C ⟨qv,ng,qy⟩ bN ee 0 dR 0 dX dM H=some (v,H')/\ax.Q H0 Ri R0  r v H'
def ax.pj4 (F:Nat) (cu:List Int->Int->Int->List Int->Int->Int->Option (Int×List Int)) (lj:List Int) (jR:Int) (nj:Int) (ll:List Int) (jS:Int) (jT:Int):Option (Int×List Int):=cu lj jR nj ll jS (IntKind.i64.wrap (jT+1))
theorem ax.j4_P {F:Nat} {H0:Hp} {Ri R0:List Rs}  {C61_:Sl->Int->Nat->Nat->Nat->Nat->Int->Int->Hp->OA} {cu:List Int->Int->Int->List Int->Int->Int->Option (Int×List Int)} (hC61:ax.S61 H0 Ri R0  C61_ cu) {uM uN uO:ON} {qE qF lZ qG l_:Nat} {uP uQ uR:Cap} {lj uS ll:List Int} {jR zL nj jS jT:Int} {uT uU:List AV} {H:Hp} (zM:qE=lj.length) (zN:qF=uS.length) (zO:qG=ll.length) (h0:Out H0 Ri H (Rs.own ⟨uN,qF,uQ⟩ (ae .i64).z uT :: Rs.blk lZ [.i zL,.sl ⟨uN,qF,uQ⟩] :: Rs.own ⟨uO,qG,uR⟩ (ae .i64).z uU :: Rs.blk l_ [.i nj,.sl ⟨uO,qG,uR⟩] :: R0) λR=>ROs (ae .i64) H R ⟨uM,qE,uP⟩ lj/\CR (ae .i64) H R uT uS/\CR (ae .i64) H R uU ll) {r:Int×List Int} (hp:ax.pj4 F cu lj jR nj ll jS jT=some r):∃ v H',ax.j4 F (aq.tw F) C61_ ⟨uM,qE,uP⟩ jR lZ 0 l_ 0 jS jT H=some (v,H')/\ax.Q H0 Ri R0  r v H':=by
 obtain ⟨w0,s0,zP,zQ,zR⟩:=h0
 subst zM
 subst zN
 subst zO
 unfold ax.pj4 at hp
 unfold ax.j4
 exact hC61 rfl rfl rfl ⟨w0,s0,zP,zQ,zR⟩ hp
def ax.pj5 (F:Nat) (cu:List Int->Int->Int->List Int->Int->Int->Option (Int×List Int)) (ic:List Int) (hP:Int) (lm:Int) (kf:List Int) (hQ:Int) (gd:Int):Option (Int×List Int):=(ix ic gd).bind λn1=>(bif (decide ((gt ic n1)>0)) then (ax.pj4 F cu ic hP lm kf (IntKind.i64.wrap (hQ+1)) gd) else (ax.pj4 F cu ic hP lm kf (IntKind.i64.wrap (hQ - 1)) gd))
theorem ax.j5_P {F:Nat} {H0:Hp} {Ri R0:List Rs}  {C61_:Sl->Int->Nat->Nat->Nat->Nat->Int->Int->Hp->OA} {cu:List Int->Int->Int->List Int->Int->Int->Option (Int×List Int)} (hC61:ax.S61 H0 Ri R0  C61_ cu) {uV uW uX:ON} {qH qI kC qJ kD:Nat} {uY uZ u_:Cap} {ic va kf:List Int} {hP zS lm hQ gd:Int} {vb vc:List AV} {H:Hp} (zT:qH=ic.length) (zU:qI=va.length) (zV:qJ=kf.length) (h0:Out H0 Ri H (Rs.own ⟨uW,qI,uZ⟩ (ae .i64).z vb :: Rs.blk kC [.i zS,.sl ⟨uW,qI,uZ⟩] :: Rs.own ⟨uX,qJ,u_⟩ (ae .i64).z vc :: Rs.blk kD [.i lm,.sl ⟨uX,qJ,u_⟩] :: R0) λR=>ROs (ae .i64) H R ⟨uV,qH,uY⟩ ic/\CR (ae .i64) H R vb va/\CR (ae .i64) H R vc kf) {r:Int×List Int} (hp:ax.pj5 F cu ic hP lm kf hQ gd=some r):∃ v H',ax.j5 F (aq.tw F) C61_ ⟨uV,qH,uY⟩ hP kC 0 kD 0 hQ gd H=some (v,H')/\ax.Q H0 Ri R0  r v H':=by
 obtain ⟨w0,s0,qK,vd,ve⟩:=h0
 subst zT
 subst zU
 subst zV
 unfold ax.pj5 at hp
 unfold ax.j5
 obtain ⟨n1,g1,hp⟩:=ag hp
 obtain ⟨p1,q1,i1,h1,j1⟩:=ROs.ixr qK rfl g1
 refine ac i1 ?_
 have h1:_=[_]:=h1
 subst h1
 refine ac (av (j1 0 _ rfl)) ?_
 refine aH hp (λhp=>?_) λhp=>?_
 ·exact ax.j4_P (@hC61) rfl rfl rfl ⟨w0,s0,qK,vd,ve⟩ hp
 ·exact ax.j4_P (@hC61) rfl rfl rfl ⟨w0,s0,qK,vd,ve⟩ hp
def ax.pj6 (F:Nat) (cu:List Int->Int->Int->List Int->Int->Int->Option (Int×List Int)) (ig:List Int) (gf:Int) (ln:Int) (kg:List Int) (gg:Int) (gh:Int):Option (Int×List Int):=(ix ig gh).bind λn1=>(bif ((gt ig n1) == (IntKind.i64.wrap (0 - gf))) then ((aq.p F ln kg (IntKind.i64.wrap (gg - 1)) ([(-1)]:List Int)).bind λr6=>ax.pj5 F cu ig gf r6.1 r6.2 gg gh) else (ax.pj5 F cu ig gf ln kg gg gh))
theorem ax.j6_P {F:Nat} {H0:Hp} {Ri R0:List Rs}  {C61_:Sl->Int->Nat->Nat->Nat->Nat->Int->Int->Hp->OA} {cu:List Int->Int->Int->List Int->Int->Int->Option (Int×List Int)} (hC61:ax.S61 H0 Ri R0  C61_ cu) {vf vg vh:ON} {qL qM kE qN gN:Nat} {vi vj vk:Cap} {ig vl kg:List Int} {gf zW ln gg gh:Int} {vm vn:List AV} {H:Hp} (zX:qL=ig.length) (zY:qM=vl.length) (zZ:qN=kg.length) (h0:Out H0 Ri H (Rs.own ⟨vg,qM,vj⟩ (ae .i64).z vm :: Rs.blk kE [.i zW,.sl ⟨vg,qM,vj⟩] :: Rs.own ⟨vh,qN,vk⟩ (ae .i64).z vn :: Rs.blk gN [.i ln,.sl ⟨vh,qN,vk⟩] :: R0) λR=>ROs (ae .i64) H R ⟨vf,qL,vi⟩ ig/\CR (ae .i64) H R vm vl/\CR (ae .i64) H R vn kg) {r:Int×List Int} (hp:ax.pj6 F cu ig gf ln kg gg gh=some r):∃ v H',ax.j6 F (aq.tw F) C61_ ⟨vf,qL,vi⟩ gf kE 0 gN 0 gg gh H=some (v,H')/\ax.Q H0 Ri R0  r v H':=by
 obtain ⟨w0,s0,qO,vo,vp⟩:=h0
 subst zX
 subst zY
 subst zZ
 unfold ax.pj6 at hp
 unfold ax.j6
 obtain ⟨n1,g1,hp⟩:=ag hp
 obtain ⟨p1,q1,i1,h1,j1⟩:=ROs.ixr qO rfl g1
 refine ac i1 ?_
 have h1:_=[_]:=h1
 subst h1
 refine ac (av (j1 0 _ rfl)) ?_
 refine aH hp (λhp=>?_) λhp=>?_
 ·refine ac (av (w0.ld (i:=3) rfl rfl)) ?_
  refine ac (aA (w0.ld (i:=3) rfl rfl)) ?_
  refine eU (ae .i64) w0 (n:=1) (l:=([(-1)]:List Int)) rfl (CR.cons1 rfl CR.empty) rfl λH2 w2 s2 c2=>?_
  obtain ⟨w3,s3⟩:=w2.pick' [3,0,1,2,4] 5 rfl rfl rfl
  have f4:=W.borrow1 (ae .i64) w3 (vp.step (s2.trans s3))
  obtain ⟨w4,s4⟩:=w3.right1
  have f5:=W.borrow1 (ae .i64) w4 ((c2.step s3).step s4)
  obtain ⟨w5,s5⟩:=w4.right1
  obtain ⟨r6,e6,hp⟩:=ag hp
  refine aJ (aq.P rfl (show 1=List.length ([(-1)]:List Int) from rfl) ⟨w5,(f4.step s5),f5⟩ e6) ?_
  rintro _ H7 ⟨o1a_7,o1n_7,o1c_7,o1k_7,rfl,rfl,w7,s7,f7_0⟩
  obtain ⟨w8,s8⟩:=W.frame1 w4 w7 s7
  obtain ⟨w9,s9⟩:=W.frame1 w3 w8 s8
  refine ac rfl ?_
  refine ac rfl ?_
  refine ac rfl ?_
  refine ac rfl ?_
  refine ac rfl ?_
  refine aF w9 (i:=5) rfl rfl rfl λH10 w10 s10=>?_
  refine aF w10 (i:=5) rfl rfl rfl λH11 w11 s11=>?_
  dsimp only [pk,pks,nth,List.drop,List.set,List.eraseIdx] at w11 s3 s10 s11
  obtain ⟨w12,s12⟩:=w11.pick' [3,4,2,5] 6 rfl rfl rfl
  exact ax.j5_P (@hC61) rfl rfl rfl ⟨w12,(s0.trans (s2.trans (s3.trans (s9.trans (s10.trans (s11.trans s12)))))),(qO.step (s2.trans (s3.trans (s9.trans (s10.trans (s11.trans s12)))))),(vo.step (s2.trans (s3.trans (s9.trans (s10.trans (s11.trans s12)))))),((CR.flat (ef .i64) f7_0).step (s10.trans (s11.trans s12)))⟩ hp
 ·exact ax.j5_P (@hC61) rfl rfl rfl ⟨w0,s0,qO,vo,vp⟩ hp
def ax.pl61 (F:Nat) :Nat->List Int->Int->Int->List Int->Int->Int->Option (Int×List Int)
 | 0,_,_,_,_,_,_=>none
 | k+1,gw,bN,iN,ib,dX,dM=>(bif (decide (dM<(gw.length:Int))) then ((ix gw dM).bind λn1=>(bif ((gt gw n1) == bN) then ((aq.p F iN ib dX ([1]:List Int)).bind λr6=>ax.pj6 F (ax.pl61 F k) gw bN r6.1 r6.2 dX dM) else (ax.pj6 F (ax.pl61 F k) gw bN iN ib dX dM))) else (some (iN,ib)))
termination_by structural n=>n
theorem ax.l61_P {F:Nat} {H0:Hp} {Ri R0:List Rs}  :∀ k,ax.S61 H0 Ri R0  (ax.l61 F (aq.tw F)  k) (ax.pl61 F  k):=by
 intro k
 induction k with
 | zero=>unfold ax.S61;intros;rename_i hp;cases hp
 | succ k ih=>
  intro qv qw qx ng nh ee ni dR qy qz qA gw qB ib bN uL iN dX dM qC qD H z_ Aa Ab h0 r hp
  obtain ⟨w0,s0,qP,vq,qQ⟩:=h0
  subst z_
  subst Aa
  subst Ab
  unfold ax.pl61 at hp
  unfold ax.l61
  refine aH hp (λhp=>?_) λhp=>?_
  ·obtain ⟨n1,g1,hp⟩:=ag hp
   obtain ⟨p1,q1,i1,h1,j1⟩:=ROs.ixr qP rfl g1
   refine ac i1 ?_
   have h1:_=[_]:=h1
   subst h1
   refine ac (av (j1 0 _ rfl)) ?_
   refine aH hp (λhp=>?_) λhp=>?_
   ·refine ac (av (w0.ld (i:=3) rfl rfl)) ?_
    refine ac (aA (w0.ld (i:=3) rfl rfl)) ?_
    refine eU (ae .i64) w0 (n:=1) (l:=([1]:List Int)) rfl (CR.cons1 rfl CR.empty) rfl λH2 w2 s2 c2=>?_
    obtain ⟨w3,s3⟩:=w2.pick' [3,0,1,2,4] 5 rfl rfl rfl
    have f4:=W.borrow1 (ae .i64) w3 (qQ.step (s2.trans s3))
    obtain ⟨w4,s4⟩:=w3.right1
    have f5:=W.borrow1 (ae .i64) w4 ((c2.step s3).step s4)
    obtain ⟨w5,s5⟩:=w4.right1
    obtain ⟨r6,e6,hp⟩:=ag hp
    refine aJ (aq.P rfl (show 1=List.length ([1]:List Int) from rfl) ⟨w5,(f4.step s5),f5⟩ e6) ?_
    rintro _ H7 ⟨o1a_7,o1n_7,o1c_7,o1k_7,rfl,rfl,w7,s7,f7_0⟩
    obtain ⟨w8,s8⟩:=W.frame1 w4 w7 s7
    obtain ⟨w9,s9⟩:=W.frame1 w3 w8 s8
    refine ac rfl ?_
    refine ac rfl ?_
    refine ac rfl ?_
    refine ac rfl ?_
    refine ac rfl ?_
    refine aF w9 (i:=5) rfl rfl rfl λH10 w10 s10=>?_
    refine aF w10 (i:=5) rfl rfl rfl λH11 w11 s11=>?_
    dsimp only [pk,pks,nth,List.drop,List.set,List.eraseIdx] at w11 s3 s10 s11
    obtain ⟨w12,s12⟩:=w11.pick' [3,4,2,5] 6 rfl rfl rfl
    exact ax.j6_P (@ih) rfl rfl rfl ⟨w12,(s0.trans (s2.trans (s3.trans (s9.trans (s10.trans (s11.trans s12)))))),(qP.step (s2.trans (s3.trans (s9.trans (s10.trans (s11.trans s12)))))),(vq.step (s2.trans (s3.trans (s9.trans (s10.trans (s11.trans s12)))))),((CR.flat (ef .i64) f7_0).step (s10.trans (s11.trans s12)))⟩ hp
   ·exact ax.j6_P (@ih) rfl rfl rfl ⟨w0,s0,qP,vq,qQ⟩ hp
  ·refine ac (av (w0.ld (i:=3) rfl rfl)) ?_
   refine ac (aA (w0.ld (i:=3) rfl rfl)) ?_
   refine aF w0 (i:=1) rfl rfl rfl λH13 w13 s13=>?_
   refine aF w13 (i:=1) rfl rfl rfl λH14 w14 s14=>?_
   refine ac (av (w14.ld (i:=1) rfl rfl)) ?_
   refine ac (aA (w14.ld (i:=1) rfl rfl)) ?_
   obtain ⟨w15,s15⟩:=w14.pick' [2] 4 rfl rfl rfl
   dsimp only [pk,pks,nth,List.drop,List.set,List.eraseIdx] at w15 s13 s14 s15
   exact ay hp ⟨_,_,_,_,rfl,rfl,w15,(s0.trans (s13.trans (s14.trans s15))),(qQ.step (s13.trans (s14.trans s15)))⟩
def ax.p (F:Nat) (aj:List Int) (ah:Int):Option (Int×List Int):=ax.pl61 F F aj ah 0 ([]:List Int) 0 0
theorem ax.P {F:Nat} {aN:ON} {aE:Nat} {aO:Cap} {aj:List Int} {ah:Int} {H:Hp} {R0:List Rs} (bj:aE=aj.length) (h0:Inn H R0 λR=>ROs (ae .i64) H R ⟨aN,aE,aO⟩ aj) {r:Int×List Int} (hp:ax.p F aj ah=some r):∃ v H',ax.tw F ⟨aN,aE,aO⟩ ah H=some (v,H')/\ax.Q H R0 R0  r v H':=by
 obtain ⟨w0,bl⟩:=h0
 subst bj
 unfold ax.p at hp
 unfold ax.tw ax.twX
 have s0:=w0.rf
 refine bo w0 λH1 w1 s1=>?_
 refine bo w1 λH2 w2 s2=>?_
 refine aF w2 (i:=0) rfl rfl rfl λH3 w3 s3=>?_
 refine aF w3 (i:=0) rfl rfl rfl λH4 w4 s4=>?_
 obtain ⟨w5,s5⟩:=w4.nilS (ae .i64).z (by decide)
 obtain ⟨w6,s6⟩:=w5.nilS (ae .i64).z (by decide)
 obtain ⟨w7,s7⟩:=w6.pick' [1,3,0,2] 4 rfl rfl rfl
 dsimp only [pk,pks,nth,List.drop,List.set,List.eraseIdx] at w7 s3 s4 s5 s6 s7
 exact ax.l61_P F rfl rfl rfl ⟨w7,(s0.trans (s1.trans (s2.trans (s3.trans (s4.trans (s5.trans (s6.trans s7))))))),(bl.step (s1.trans (s2.trans (s3.trans (s4.trans (s5.trans (s6.trans s7))))))),((CR.empty:CR (ae .i64) _ _ [] []).step (s6.trans s7)),((CR.empty:CR (ae .i64) _ _ [] []).step s7)⟩ hp
def bR.Q (H0:Hp) (Ri R0:List Rs)  (r:Int×List Int×Int) (v:AV) (H':Hp):Prop:=∃ o1a:ON,∃ o1n:Nat,∃ o1c:Cap,∃ o1k:List AV,v=(.tup [(.agg [(.i r.1),(.sl ⟨o1a,o1n,o1c⟩)]),(.i r.2.2)])/\o1n=(r.2.1).length/\Out H0 Ri H' (Rs.own ⟨o1a,o1n,o1c⟩ (ae .i64).z o1k :: R0) λR=>CR (ae .i64) H' R o1k (r.2.1)
def bR.p (F:Nat) (aj:List Int) (ah:Int):Option (Int×List Int×Int):=(aD.p F aj).bind λr2=>(bif (!r2) then (some (0,([]:List Int),1)) else ((bf.p F ah 1 24).bind λr8=>(bif (!r8) then (some (0,([]:List Int),2)) else ((ax.p F aj ah).bind λr14=>some (r14.1,r14.2,0)))))
theorem bR.P {F:Nat} {aN:ON} {aE:Nat} {aO:Cap} {aj:List Int} {ah:Int} {H:Hp} {R0:List Rs} (bj:aE=aj.length) (h0:Inn H R0 λR=>ROs (ae .i64) H R ⟨aN,aE,aO⟩ aj) {r:Int×List Int×Int} (hp:bR.p F aj ah=some r):∃ v H',bR.tw F ⟨aN,aE,aO⟩ ah H=some (v,H')/\bR.Q H R0 R0  r v H':=by
 obtain ⟨w0,bl⟩:=h0
 subst bj
 unfold bR.p at hp
 unfold bR.tw bR.twX
 have s0:=w0.rf
 refine bo w0 λH1 w1 s1=>?_
 obtain ⟨r2,e2,hp⟩:=ag hp
 refine aJ (aD.P rfl ⟨w1,(bl.step s1)⟩ e2) ?_
 rintro _ H3 ⟨rfl,w3,s3,_⟩
 refine ac rfl ?_
 refine aH hp (λhp=>?_) λhp=>?_
 ·refine aF w3 (i:=0) rfl rfl rfl λH4 w4 s4=>?_
  refine aF w4 (i:=0) rfl rfl rfl λH5 w5 s5=>?_
  refine ac (av (w5.ld (i:=0) rfl rfl)) ?_
  refine ac (aA (w5.ld (i:=0) rfl rfl)) ?_
  obtain ⟨w6,s6⟩:=w5.nilS (ae .i64).z (by decide)
  obtain ⟨w7,s7⟩:=w6.pick' [0] 2 rfl rfl rfl
  dsimp only [pk,pks,nth,List.drop,List.set,List.eraseIdx] at w7 s4 s5 s6 s7
  exact ay hp ⟨_,_,_,_,rfl,rfl,w7,(s0.trans (s1.trans (s3.trans (s4.trans (s5.trans (s6.trans s7)))))),((CR.empty:CR (ae .i64) _ _ [] []).step s7)⟩
 ·obtain ⟨r8,e8,hp⟩:=ag hp
  refine aJ (bf.P ⟨w3,trivial⟩ e8) ?_
  rintro _ H9 ⟨rfl,w9,s9,_⟩
  refine ac rfl ?_
  refine aH hp (λhp=>?_) λhp=>?_
  ·refine aF w9 (i:=0) rfl rfl rfl λH10 w10 s10=>?_
   refine aF w10 (i:=0) rfl rfl rfl λH11 w11 s11=>?_
   refine ac (av (w11.ld (i:=0) rfl rfl)) ?_
   refine ac (aA (w11.ld (i:=0) rfl rfl)) ?_
   obtain ⟨w12,s12⟩:=w11.nilS (ae .i64).z (by decide)
   obtain ⟨w13,s13⟩:=w12.pick' [0] 2 rfl rfl rfl
   dsimp only [pk,pks,nth,List.drop,List.set,List.eraseIdx] at w13 s10 s11 s12 s13
   exact ay hp ⟨_,_,_,_,rfl,rfl,w13,(s0.trans (s1.trans (s3.trans (s9.trans (s10.trans (s11.trans (s12.trans s13))))))),((CR.empty:CR (ae .i64) _ _ [] []).step s13)⟩
  ·obtain ⟨r14,e14,hp⟩:=ag hp
   refine aJ (ax.P rfl ⟨w9,(bl.step (s1.trans (s3.trans s9)))⟩ e14) ?_
   rintro _ H15 ⟨o1a_15,o1n_15,o1c_15,o1k_15,rfl,rfl,w15,s15,f15_0⟩
   refine ac rfl ?_
   refine ac rfl ?_
   refine ac rfl ?_
   refine ac rfl ?_
   refine ac rfl ?_
   refine aF w15 (i:=1) rfl rfl rfl λH16 w16 s16=>?_
   refine aF w16 (i:=1) rfl rfl rfl λH17 w17 s17=>?_
   refine ac (av (w17.ld (i:=1) rfl rfl)) ?_
   refine ac (aA (w17.ld (i:=1) rfl rfl)) ?_
   obtain ⟨w18,s18⟩:=w17.pick' [0] 2 rfl rfl rfl
   dsimp only [pk,pks,nth,List.drop,List.set,List.eraseIdx] at w18 s16 s17 s18
   exact ay hp ⟨_,_,_,_,rfl,rfl,w18,(s0.trans (s1.trans (s3.trans (s9.trans (s15.trans (s16.trans (s17.trans s18))))))),(f15_0.step (s16.trans (s17.trans s18)))⟩
def aW.Q (H0:Hp) (Ri R0:List Rs)  (r:Bool) (v:AV) (H':Hp):Prop:=v=(.bool r)/\Out H0 Ri H' (R0) λR=>True
def aW.S29 (H0:Hp) (Ri R0:List Rs)  (C:Sl->Sl->Int->Hp->OA) (pC:List Int->List Int->Int->Option (Bool)):Prop:=∀ {hR qR:ON} {gl nk:Nat} {hU qS:Cap} {dz ii:List Int} {dN:Int},∀ {H:Hp},gl=dz.length->nk=ii.length->(Out H0 Ri H R0 λR=>ROs (ae .i64) H R ⟨hR,gl,hU⟩ dz/\ROs (ae .i64) H R ⟨qR,nk,qS⟩ ii)->∀ {r:Bool},pC dz ii dN=some r->∃ v H',C ⟨hR,gl,hU⟩ ⟨qR,nk,qS⟩ dN H=some (v,H')/\aW.Q H0 Ri R0  r v H'
def aW.pl29 (F:Nat) :Nat->List Int->List Int->Int->Option (Bool)
 | 0,_,_,_=>none
 | k+1,dz,ii,dN=>(bif (decide (dN<(dz.length:Int))) then ((ix dz dN).bind λn1=>(ix ii dN).bind λn2=>(bif ((gt dz n1) != (gt ii n2)) then (some false) else (aW.pl29 F k dz ii (IntKind.i64.wrap (dN+1))))) else (some true))
termination_by structural n=>n
theorem aW.l29_P {F:Nat} {H0:Hp} {Ri R0:List Rs}  :∀ k,aW.S29 H0 Ri R0  (aW.l29 F   k) (aW.pl29 F  k):=by
 intro k
 induction k with
 | zero=>unfold aW.S29;intros;rename_i hp;cases hp
 | succ k ih=>
  intro hR qR gl nk hU qS dz ii dN H nL Ac h0 r hp
  obtain ⟨w0,s0,iD,vr⟩:=h0
  subst nL
  subst Ac
  unfold aW.pl29 at hp
  unfold aW.l29
  refine aH hp (λhp=>?_) λhp=>?_
  ·obtain ⟨n1,g1,hp⟩:=ag hp
   obtain ⟨p1,q1,i1,h1,j1⟩:=ROs.ixr iD rfl g1
   refine ac i1 ?_
   have h1:_=[_]:=h1
   subst h1
   refine ac (av (j1 0 _ rfl)) ?_
   obtain ⟨n2,g2,hp⟩:=ag hp
   obtain ⟨p2,q2,i2,h2,j2⟩:=ROs.ixr vr rfl g2
   refine ac i2 ?_
   have h2:_=[_]:=h2
   subst h2
   refine ac (av (j2 0 _ rfl)) ?_
   refine aH hp (λhp=>?_) λhp=>?_
   ·exact ay hp ⟨rfl,w0,s0,trivial⟩
   ·exact ih rfl rfl ⟨w0,s0,iD,vr⟩ hp
  ·exact ay hp ⟨rfl,w0,s0,trivial⟩
def aW.p (F:Nat) (aj:List Int) (fm:List Int):Option (Bool):=(bif ((aj.length:Int) != (fm.length:Int)) then (some false) else (aW.pl29 F F aj fm 0))
theorem aW.P {F:Nat} {aN kZ:ON} {aE iJ:Nat} {aO k_:Cap} {aj fm:List Int} {H:Hp} {R0:List Rs} (bj:aE=aj.length) (pU:iJ=fm.length) (h0:Inn H R0 λR=>ROs (ae .i64) H R ⟨aN,aE,aO⟩ aj/\ROs (ae .i64) H R ⟨kZ,iJ,k_⟩ fm) {r:Bool} (hp:aW.p F aj fm=some r):∃ v H',aW.tw F ⟨aN,aE,aO⟩ ⟨kZ,iJ,k_⟩ H=some (v,H')/\aW.Q H R0 R0  r v H':=by
 obtain ⟨w0,bl,pV⟩:=h0
 subst bj
 subst pU
 unfold aW.p at hp
 unfold aW.tw aW.twX
 have s0:=w0.rf
 refine aH hp (λhp=>?_) λhp=>?_
 ·exact ay hp ⟨rfl,w0,s0,trivial⟩
 ·exact aW.l29_P F rfl rfl ⟨w0,s0,bl,pV⟩ hp
def bI.Q (H0:Hp) (Ri R0:List Rs)  (r:Bool) (v:AV) (H':Hp):Prop:=v=(.bool r)/\Out H0 Ri H' (R0) λR=>True
def bI.p (F:Nat) (aa:Int) (az:List Int) (ai:Int) (bB:List Int):Option (Bool):=(bif (aa == ai) then ((aW.p F az bB).bind λr3=>some r3) else (some false))
theorem bI.P {F:Nat} {aa ai:Int} {bD eR:ON} {bg dS:Nat} {bE eS:Cap} {az bB:List Int} {H:Hp} {R0:List Rs} (da:bg=az.length) (gR:dS=bB.length) (h0:Inn H R0 λR=>ROs (ae .i64) H R ⟨bD,bg,bE⟩ az/\ROs (ae .i64) H R ⟨eR,dS,eS⟩ bB) {r:Bool} (hp:bI.p F aa az ai bB=some r):∃ v H',bI.tw F aa ⟨bD,bg,bE⟩ ai ⟨eR,dS,eS⟩ H=some (v,H')/\bI.Q H R0 R0  r v H':=by
 obtain ⟨w0,bM,fl⟩:=h0
 subst da
 subst gR
 unfold bI.p at hp
 unfold bI.tw bI.twX
 have s0:=w0.rf
 refine bo w0 λH1 w1 s1=>?_
 refine bo w1 λH2 w2 s2=>?_
 refine ac (av (w2.ld (i:=1) rfl rfl)) ?_
 refine ac (av (w2.ld (i:=0) rfl rfl)) ?_
 refine aH hp (λhp=>?_) λhp=>?_
 ·refine ac (aA (w2.ld (i:=1) rfl rfl)) ?_
  refine ac (aA (w2.ld (i:=0) rfl rfl)) ?_
  obtain ⟨r3,e3,hp⟩:=ag hp
  refine aJ (aW.P rfl rfl ⟨w2,(bM.step (s1.trans s2)),(fl.step (s1.trans s2))⟩ e3) ?_
  rintro _ H4 ⟨rfl,w4,s4,_⟩
  refine ac rfl ?_
  obtain ⟨w5,s5⟩:=w4.pick' [] 2 rfl rfl rfl
  exact ay hp ⟨rfl,w5,(s0.trans (s1.trans (s2.trans (s4.trans s5)))),trivial⟩
 ·obtain ⟨w6,s6⟩:=w2.pick' [] 2 rfl rfl rfl
  exact ay hp ⟨rfl,w6,(s0.trans (s1.trans (s2.trans s6))),trivial⟩
def bc.Q (H0:Hp) (Ri R0:List Rs)  (r:List Int) (v:AV) (H':Hp):Prop:=∃ o0a:ON,∃ o0n:Nat,∃ o0p:List AV,∃ o0r:List AV,∃ o0c:Cap,∃ o0k:List AV,v=(.sl ⟨o0a,o0n,o0c⟩)/\o0n=(r).length/\Out H0 Ri H' (Rs.ow false ⟨o0a,o0n,o0c⟩ (ae .i64).z o0p o0k o0r :: R0) λR=>CR (ae .i64) H' R o0k (r)
theorem bc.red_l {F:Nat} {H0:Hp} {R:List Rs} {w:Sl} {lw:List Int} (f:ROs (ae .i64) H0 R w lw) (hwn:w.n=lw.length) (hw:lw.length<=4294967296):∀ (m k i:Nat) (H:Hp) (s:Sl) (l:List Int),lw.length - i=m->m<k->i<=lw.length->l.length<=i->RM H0 R H s l ->
  ∃ v H',bc.l29 F k w s (i:Int) H=some (v,H')/\∃ s',v=.sl s'/\RM H0 R H' s' (fw l (lw.drop i)):=by
 intro m
 induction m with
 | zero=>
  intro k i H s l hm hk hi hl h
  obtain ⟨k,rfl⟩:∃ k',k=k'+1:=⟨k - 1,by omega⟩
  rw [bc.l29,decide_eq_false (by omega),cond_false,List.drop_eq_nil_of_le (by omega)]
  exact ⟨_,_,rfl,s,rfl,h⟩
 | succ m ih=>
  intro k i H s l hm hk hi hl h
  obtain ⟨k,rfl⟩:∃ k',k=k'+1:=⟨k - 1,by omega⟩
  have hi':i<lw.length:=by omega
  obtain ⟨R',f'⟩:=h.ro f
  obtain ⟨p,cs,e1,e2,e3⟩:=ROs.ixr (z:=1) f' rfl (show ix lw (i:Int)=some i by unfold ix;rw [if_pos ⟨by omega,by omega⟩];rfl)
  have e2:cs=[.i (gt lw i)]:=e2
  subst e2
  have hx:H.ldI .i64 p.1 p.2=some (gt lw i):=av (e3 0 _ rfl)
  have hg:gt lw i=lw[i]:=by unfold gt;simp [hi']
  have hd:lw.drop i=gt lw i :: lw.drop (i+1):=by rw [hg];exact List.drop_eq_getElem_cons hi'
  have hwr:IntKind.i64.wrap ((i:Int)+1)=((i+1:Nat):Int):=by rw [aM (by omega) (by omega)];omega
  have hsn:=h.n
  rw [bc.l29,decide_eq_true (by omega),cond_true]
  unfold bc.j2
  simp only [e1,Option.bind_some,hx,hwr]
  rw [hd]
  by_cases h0:l=[]
  ·rw [decide_eq_false (by rw [hsn,h0];simp),cond_false]
   refine h.app (gt lw i) (by omega) λs' H' h'=>?_
   obtain ⟨v,H2,q1,q2⟩:=ih k (i+1) H' s' (l++[gt lw i]) (by omega) (by omega) (by omega) (by simp;omega) h'
   refine ⟨v,H2,q1,?_⟩
   rw [fw,if_neg (by rw [h0];simp)];exact q2
  ·obtain ⟨p',g1,g2,s',g3,g4⟩:=h.last (by omega) (List.dropLast_concat_getLast h0).symm
   rw [decide_eq_true (by have:=List.length_pos_iff.2 h0;omega),cond_true]
   simp only [g1,Option.bind_some,g2,g3]
   have hgl:l.getLast?=some (l.getLast h0):=List.getLast?_eq_some_getLast h0
   by_cases hc:l.getLast h0=IntKind.i64.wrap (0 - gt lw i)
   ·rw [beq_iff_eq.2 hc,cond_true]
    obtain ⟨v,H2,q1,q2⟩:=ih k (i+1) H s' l.dropLast (by omega) (by omega) (by omega) (by rw [List.length_dropLast];omega) g4
    refine ⟨v,H2,q1,?_⟩
    rw [fw,if_pos (by rw [hgl,hc])];exact q2
   ·rw [beq_eq_false_iff_ne.2 hc,cond_false]
    refine h.app (gt lw i) (by omega) λs' H' h'=>?_
    obtain ⟨v,H2,q1,q2⟩:=ih k (i+1) H' s' (l++[gt lw i]) (by omega) (by omega) (by omega) (by simp;omega) h'
    refine ⟨v,H2,q1,?_⟩
    rw [fw,if_neg (by rw [hgl];intro q;exact hc (Option.some.inj q))];exact q2
def bc.p (F:Nat) (aj:List Int):Option (List Int):=(if aj.length<F/\aj.length<=4294967296 then some (fw [] aj) else none)
theorem bc.P {F:Nat} {aN:ON} {aE:Nat} {aO:Cap} {aj:List Int} {H:Hp} {R0:List Rs} (bj:aE=aj.length) (h0:Inn H R0 λR=>ROs (ae .i64) H R ⟨aN,aE,aO⟩ aj) {r:List Int} (hp:bc.p F aj=some r):∃ v H',bc.tw F ⟨aN,aE,aO⟩ H=some (v,H')/\bc.Q H R0 R0  r v H':=by
 obtain ⟨w0,f0⟩:=h0
 subst bj
 unfold bc.p at hp
 unfold bc.tw bc.twX
 obtain ⟨⟨hF,hc⟩,hp⟩:=fR hp
 obtain rfl:=Option.some.inj hp
 unfold Hp.new
 rw [Option.bind_some]
 obtain ⟨H2,e2,w2,s2⟩:=w0.new []
 unfold Hp.new at e2
 obtain rfl:=Option.some.inj e2
 have h1:RM H R0 (H++[⟨[],true,true⟩]) (⟨some (H.length,0),0,.ex 0⟩:Sl) []:=⟨rfl,.inl ⟨rfl,rfl,w2.right1.1,s2.trans w2.right1.2⟩⟩
 obtain ⟨v,H2,e,s',rfl,h2⟩:=bc.red_l (F:=F) f0 rfl hc aj.length F 0 _ _ [] (by omega) (by omega) (by omega) (by simp) h1
 obtain ⟨a,c,p,k,r,rfl,w3,fr,cr⟩:=h2.out
 exact ⟨_,_,e,_,_,_,_,_,_,rfl,rfl,w3,fr,cr⟩
def ck.Q (H0:Hp) (Ri R0:List Rs)  (r:List Int) (v:AV) (H':Hp):Prop:=∃ o0a:ON,∃ o0n:Nat,∃ o0p:List AV,∃ o0r:List AV,∃ o0c:Cap,∃ o0k:List AV,v=(.sl ⟨o0a,o0n,o0c⟩)/\o0n=(r).length/\Out H0 Ri H' (Rs.ow false ⟨o0a,o0n,o0c⟩ (ae .i64).z o0p o0k o0r :: R0) λR=>CR (ae .i64) H' R o0k (r)
def ck.p (F:Nat) (aj:List Int):Option (List Int):=(aD.p F aj).bind λr1=>(bif (!r1) then (some ([]:List Int)) else ((bc.p F aj).bind λr5=>some r5))
theorem ck.P {F:Nat} {aN:ON} {aE:Nat} {aO:Cap} {aj:List Int} {H:Hp} {R0:List Rs} (bj:aE=aj.length) (h0:Inn H R0 λR=>ROs (ae .i64) H R ⟨aN,aE,aO⟩ aj) {r:List Int} (hp:ck.p F aj=some r):∃ v H',ck.tw F ⟨aN,aE,aO⟩ H=some (v,H')/\ck.Q H R0 R0  r v H':=by
 obtain ⟨w0,bl⟩:=h0
 subst bj
 unfold ck.p at hp
 unfold ck.tw ck.twX
 have s0:=w0.rf
 obtain ⟨r1,e1,hp⟩:=ag hp
 refine aJ (aD.P rfl ⟨w0,bl⟩ e1) ?_
 rintro _ H2 ⟨rfl,w2,s2,_⟩
 refine ac rfl ?_
 refine aH hp (λhp=>?_) λhp=>?_
 ·refine eU (ae .i64) w2 (n:=0) (l:=([]:List Int)) rfl CR.empty rfl λH3 w3 s3 c3=>?_
  obtain ⟨w4,s4⟩:=w3.loose (i:=0) rfl
  exact ay hp ⟨_,_,_,_,_,_,rfl,(show 0=List.length ([]:List Int) from rfl),w4,(s0.trans (s2.trans (s3.trans s4))),(c3.step s4)⟩
 ·obtain ⟨r5,e5,hp⟩:=ag hp
  refine aJ (bc.P rfl ⟨w2,(bl.step s2)⟩ e5) ?_
  rintro _ H6 ⟨o0a_6,o0n_6,o0p_6,o0r_6,o0c_6,o0k_6,rfl,rfl,w6,s6,f6_0⟩
  refine ac rfl ?_
  exact ay hp ⟨_,_,_,_,_,_,rfl,rfl,w6,(s0.trans (s2.trans s6)),f6_0⟩
def aC.Q (H0:Hp) (Ri R0:List Rs)  (r:Bool) (v:AV) (H':Hp):Prop:=v=(.bool r)/\Out H0 Ri H' (R0) λR=>True
def aC.S1021 (H0:Hp) (Ri R0:List Rs)  (C:Sl->Int->Sl->Sl->Int->Int->Hp->OA) (pC:List Int->Int->List Int->List Int->Int->Int->Option (Bool)):Prop:=∀ {qT qU qV:ON} {nl nm nn:Nat} {qW qX qY:Cap} {fQ ij ik:List Int} {qZ q_ ra:List AV} {dY dZ dO:Int},∀ {H:Hp},nl=fQ.length->nm=ij.length->nn=ik.length->(Out H0 Ri H (Rs.own ⟨qT,nl,qW⟩ (ae .i64).z qZ :: Rs.own ⟨qU,nm,qX⟩ (ae .i64).z q_ :: Rs.own ⟨qV,nn,qY⟩ (ae .i64).z ra :: R0) λR=>CR (ae .i64) H R qZ fQ/\CR (ae .i64) H R q_ ij/\CR (ae .i64) H R ra ik)->∀ {r:Bool},pC fQ dY ij ik dZ dO=some r->∃ v H',C ⟨qT,nl,qW⟩ dY ⟨qU,nm,qX⟩ ⟨qV,nn,qY⟩ dZ dO H=some (v,H')/\aC.Q H0 Ri R0  r v H'
def aC.pj3 (F:Nat) (np:List Int->Int->List Int->List Int->Int->Int->Option (Bool)) (lq:List Int) (jZ:Int) (lr:List Int) (lu:List Int) (j_:Int) (ka:Int):Option (Bool):=np lq jZ lr lu j_ (IntKind.i64.wrap (ka+1))
theorem aC.j3_P {F:Nat} {H0:Hp} {Ri R0:List Rs}  {C1021_:Sl->Int->Sl->Sl->Int->Int->Hp->OA} {np:List Int->Int->List Int->List Int->Int->Int->Option (Bool)} (hC1021:aC.S1021 H0 Ri R0  C1021_ np) {vt vu vv:ON} {rb rc rd:Nat} {vw vx vy:Cap} {lq lr lu:List Int} {vz vA vB:List AV} {jZ j_ ka:Int} {H:Hp} (Ad:rb=lq.length) (Ae:rc=lr.length) (Af:rd=lu.length) (h0:Out H0 Ri H (Rs.own ⟨vt,rb,vw⟩ (ae .i64).z vz :: Rs.own ⟨vu,rc,vx⟩ (ae .i64).z vA :: Rs.own ⟨vv,rd,vy⟩ (ae .i64).z vB :: R0) λR=>CR (ae .i64) H R vz lq/\CR (ae .i64) H R vA lr/\CR (ae .i64) H R vB lu) {r:Bool} (hp:aC.pj3 F np lq jZ lr lu j_ ka=some r):∃ v H',aC.j3 F (cw.tw F) (bV.tw F) (cz.tw F) (bW.tw F) (aD.tw F) (bz.tw F) (b_.tw F) (ce.tw F) (bR.tw F) (bI.tw F) (ck.tw F) C1021_ ⟨vt,rb,vw⟩ jZ ⟨vu,rc,vx⟩ ⟨vv,rd,vy⟩ j_ ka H=some (v,H')/\aC.Q H0 Ri R0  r v H':=by
 obtain ⟨w0,s0,Ag,Ah,Ai⟩:=h0
 subst Ad
 subst Ae
 subst Af
 unfold aC.pj3 at hp
 unfold aC.j3
 exact hC1021 rfl rfl rfl ⟨w0,s0,Ag,Ah,Ai⟩ hp
def aC.pj2 (F:Nat)  (ki:List Int) (eP:Int) (lx:List Int) (kj:List Int) (jY:Int):Option (Bool):=(bz.p F ki eP).bind λr2=>(bz.p F lx eP).bind λr10=>(bz.p F kj eP).bind λr18=>(b_.p F r10.1 r10.2.1 jY).bind λr25=>(ce.p F r2.1 r2.2.1 r25.1 r25.2.1).bind λr31=>(bR.p F ki eP).bind λr38=>(bif (r2.2.2 != r38.2.2) then (some false) else ((bI.p F r2.1 r2.2.1 r38.1 r38.2.1).bind λr47=>(bif (!r47) then (some false) else ((ck.p F kj).bind λr53=>(bz.p F r53 eP).bind λr58=>(bif ((IntKind.i64.wrap ((IntKind.i64.wrap ((IntKind.i64.wrap ((IntKind.i64.wrap ((IntKind.i64.wrap (r2.2.2+r10.2.2))+r18.2.2))+r25.2.2))+r31.2.2))+r58.2.2)) == 0) then ((bI.p F r18.1 r18.2.1 r31.1 r31.2.1).bind λr66=>(bif r66 then ((bI.p F r58.1 r58.2.1 r18.1 r18.2.1).bind λr72=>some r72) else (some false))) else (some false))))))
theorem aC.j2_P {F:Nat} {H0:Hp} {Ri R0:List Rs}   {vC vD vE:ON} {rg rh ri:Nat} {vF vG vH:Cap} {ki lx kj:List Int} {vI vJ vK:List AV} {eP jY:Int} {H:Hp} (Aj:rg=ki.length) (Ak:rh=lx.length) (Al:ri=kj.length) (h0:Out H0 Ri H (Rs.own ⟨vC,rg,vF⟩ (ae .i64).z vI :: Rs.own ⟨vD,rh,vG⟩ (ae .i64).z vJ :: Rs.own ⟨vE,ri,vH⟩ (ae .i64).z vK :: R0) λR=>CR (ae .i64) H R vI ki/\CR (ae .i64) H R vJ lx/\CR (ae .i64) H R vK kj) {r:Bool} (hp:aC.pj2 F  ki eP lx kj jY=some r):∃ v H',aC.j2 F (cw.tw F) (bV.tw F) (cz.tw F) (bW.tw F) (aD.tw F) (bz.tw F) (b_.tw F) (ce.tw F) (bR.tw F) (bI.tw F) (ck.tw F)  ⟨vC,rg,vF⟩ eP ⟨vD,rh,vG⟩ ⟨vE,ri,vH⟩ jY H=some (v,H')/\aC.Q H0 Ri R0  r v H':=by
 obtain ⟨w0,s0,vL,Am,vM⟩:=h0
 subst Aj
 subst Ak
 subst Al
 unfold aC.pj2 at hp
 unfold aC.j2
 have f1:=W.borrow1 (ae .i64) w0 vL
 obtain ⟨w1,s1⟩:=w0.right1
 obtain ⟨r2,e2,hp⟩:=ag hp
 refine aJ (bz.P rfl ⟨w1,f1⟩ e2) ?_
 rintro _ H3 ⟨o1a_3,o1n_3,o1c_3,o1k_3,rfl,rfl,w3,s3,f3_0⟩
 obtain ⟨w4,s4⟩:=W.frame1 w0 w3 s3
 refine ac rfl ?_
 refine ac rfl ?_
 refine ac rfl ?_
 refine ac rfl ?_
 refine ac rfl ?_
 refine ac rfl ?_
 refine ac rfl ?_
 refine ac rfl ?_
 refine ac rfl ?_
 refine bo w4 λH5 w5 s5=>?_
 refine aF w5 (i:=0) rfl rfl rfl λH6 w6 s6=>?_
 refine aF w6 (i:=0) rfl rfl rfl λH7 w7 s7=>?_
 obtain ⟨w8,s8⟩:=w7.pick' [3,0,1,2,4] 5 rfl rfl rfl
 dsimp only [pk,pks,nth,List.drop,List.set,List.eraseIdx] at w8 s6 s7 s8
 have f9:=W.borrow1 (ae .i64) w8 (Am.step (s4.trans (s5.trans (s6.trans (s7.trans s8)))))
 obtain ⟨w9,s9⟩:=w8.right1
 obtain ⟨r10,e10,hp⟩:=ag hp
 refine aJ (bz.P rfl ⟨w9,f9⟩ e10) ?_
 rintro _ H11 ⟨o1a_11,o1n_11,o1c_11,o1k_11,rfl,rfl,w11,s11,f11_0⟩
 obtain ⟨w12,s12⟩:=W.frame1 w8 w11 s11
 refine ac rfl ?_
 refine ac rfl ?_
 refine ac rfl ?_
 refine ac rfl ?_
 refine ac rfl ?_
 refine ac rfl ?_
 refine ac rfl ?_
 refine ac rfl ?_
 refine ac rfl ?_
 refine bo w12 λH13 w13 s13=>?_
 refine aF w13 (i:=0) rfl rfl rfl λH14 w14 s14=>?_
 refine aF w14 (i:=0) rfl rfl rfl λH15 w15 s15=>?_
 obtain ⟨w16,s16⟩:=w15.pick' [6,0,1,2,3,4,5] 7 rfl rfl rfl
 dsimp only [pk,pks,nth,List.drop,List.set,List.eraseIdx] at w16 s14 s15 s16
 have f17:=W.borrow1 (ae .i64) w16 (vM.step (s4.trans (s5.trans (s6.trans (s7.trans (s8.trans (s12.trans (s13.trans (s14.trans (s15.trans s16))))))))))
 obtain ⟨w17,s17⟩:=w16.right1
 obtain ⟨r18,e18,hp⟩:=ag hp
 refine aJ (bz.P rfl ⟨w17,f17⟩ e18) ?_
 rintro _ H19 ⟨o1a_19,o1n_19,o1c_19,o1k_19,rfl,rfl,w19,s19,f19_0⟩
 obtain ⟨w20,s20⟩:=W.frame1 w16 w19 s19
 refine ac rfl ?_
 refine ac rfl ?_
 refine ac rfl ?_
 refine ac rfl ?_
 refine ac rfl ?_
 refine ac rfl ?_
 refine ac rfl ?_
 refine ac rfl ?_
 refine ac rfl ?_
 refine bo w20 λH21 w21 s21=>?_
 refine aF w21 (i:=0) rfl rfl rfl λH22 w22 s22=>?_
 refine aF w22 (i:=0) rfl rfl rfl λH23 w23 s23=>?_
 refine ac (av (w23.ld (i:=3) rfl rfl)) ?_
 refine ac (aA (w23.ld (i:=3) rfl rfl)) ?_
 obtain ⟨w24,s24,f24⟩:=w23.frz (i:=5) (ae .i64) rfl ((CR.flat (ef .i64) f11_0).step (s13.trans (s14.trans (s15.trans (s16.trans (s20.trans (s21.trans (s22.trans s23))))))))
 dsimp only [pk,pks,nth,List.drop,List.set,List.eraseIdx] at w24 s22 s23 s24 f24
 obtain ⟨r25,e25,hp⟩:=ag hp
 refine aJ (b_.P rfl ⟨w24,f24⟩ e25) ?_
 rintro _ H26 ⟨o1a_26,o1n_26,o1c_26,rfl,rfl,w26,s26,f26_0⟩
 refine ac rfl ?_
 refine ac rfl ?_
 refine ac rfl ?_
 refine ac rfl ?_
 refine ac rfl ?_
 refine ac rfl ?_
 refine ac rfl ?_
 refine ac rfl ?_
 refine ac rfl ?_
 refine bo w26 λH27 w27 s27=>?_
 refine aF w27 (i:=0) rfl rfl rfl λH28 w28 s28=>?_
 refine aF w28 (i:=0) rfl rfl rfl λH29 w29 s29=>?_
 refine ac (av (w29.ld (i:=6) rfl rfl)) ?_
 refine ac (aA (w29.ld (i:=6) rfl rfl)) ?_
 refine ac (av (w29.ld (i:=0) rfl rfl)) ?_
 refine ac (aA (w29.ld (i:=0) rfl rfl)) ?_
 obtain ⟨w30,s30,f30⟩:=w29.frz (i:=8) (ae .i64) rfl ((CR.flat (ef .i64) f3_0).step (s5.trans (s6.trans (s7.trans (s8.trans (s12.trans (s13.trans (s14.trans (s15.trans (s16.trans (s20.trans (s21.trans (s22.trans (s23.trans (s24.trans (s26.trans (s27.trans (s28.trans s29))))))))))))))))))
 dsimp only [pk,pks,nth,List.drop,List.set,List.eraseIdx] at w30 s28 s29 s30 f30
 obtain ⟨r31,e31,hp⟩:=ag hp
 refine aJ (ce.P rfl rfl ⟨w30,f30,(f26_0.step (s27.trans (s28.trans (s29.trans s30))))⟩ e31) ?_
 rintro _ H32 ⟨o1a_32,o1n_32,o1c_32,rfl,rfl,w32,s32,f32_0⟩
 refine ac rfl ?_
 refine ac rfl ?_
 refine ac rfl ?_
 refine ac rfl ?_
 refine ac rfl ?_
 refine ac rfl ?_
 refine ac rfl ?_
 refine ac rfl ?_
 refine ac rfl ?_
 refine bo w32 λH33 w33 s33=>?_
 refine aF w33 (i:=0) rfl rfl rfl λH34 w34 s34=>?_
 refine aF w34 (i:=0) rfl rfl rfl λH35 w35 s35=>?_
 obtain ⟨w36,s36⟩:=w35.pick' [8,0,1,2,3,4,5,6,7] 9 rfl rfl rfl
 dsimp only [pk,pks,nth,List.drop,List.set,List.eraseIdx] at w36 s34 s35 s36
 have f37:=W.borrow1 (ae .i64) w36 (vL.step (s4.trans (s5.trans (s6.trans (s7.trans (s8.trans (s12.trans (s13.trans (s14.trans (s15.trans (s16.trans (s20.trans (s21.trans (s22.trans (s23.trans (s24.trans (s26.trans (s27.trans (s28.trans (s29.trans (s30.trans (s32.trans (s33.trans (s34.trans (s35.trans s36)))))))))))))))))))))))))
 obtain ⟨w37,s37⟩:=w36.right1
 obtain ⟨r38,e38,hp⟩:=ag hp
 refine aJ (bR.P rfl ⟨w37,f37⟩ e38) ?_
 rintro _ H39 ⟨o1a_39,o1n_39,o1c_39,o1k_39,rfl,rfl,w39,s39,f39_0⟩
 obtain ⟨w40,s40⟩:=W.frame1 w36 w39 s39
 refine ac rfl ?_
 refine ac rfl ?_
 refine ac rfl ?_
 refine ac rfl ?_
 refine ac rfl ?_
 refine ac rfl ?_
 refine ac rfl ?_
 refine ac rfl ?_
 refine ac rfl ?_
 refine bo w40 λH41 w41 s41=>?_
 refine aF w41 (i:=0) rfl rfl rfl λH42 w42 s42=>?_
 refine aF w42 (i:=0) rfl rfl rfl λH43 w43 s43=>?_
 refine aH hp (λhp=>?_) λhp=>?_
 ·obtain ⟨w44,s44⟩:=w43.pick' [] 11 rfl rfl rfl
  dsimp only [pk,pks,nth,List.drop,List.set,List.eraseIdx] at w44 s42 s43 s44
  exact ay hp ⟨rfl,w44,(s0.trans (s4.trans (s5.trans (s6.trans (s7.trans (s8.trans (s12.trans (s13.trans (s14.trans (s15.trans (s16.trans (s20.trans (s21.trans (s22.trans (s23.trans (s24.trans (s26.trans (s27.trans (s28.trans (s29.trans (s30.trans (s32.trans (s33.trans (s34.trans (s35.trans (s36.trans (s40.trans (s41.trans (s42.trans (s43.trans s44)))))))))))))))))))))))))))))),trivial⟩
 ·refine ac (av (w43.ld (i:=10) rfl rfl)) ?_
  refine ac (aA (w43.ld (i:=10) rfl rfl)) ?_
  refine ac (av (w43.ld (i:=0) rfl rfl)) ?_
  refine ac (aA (w43.ld (i:=0) rfl rfl)) ?_
  obtain ⟨w45,s45⟩:=w43.pick' [2,0,1,3,4,5,6,7,8,9,10] 11 rfl rfl rfl
  dsimp only [pk,pks,nth,List.drop,List.set,List.eraseIdx] at w45 s42 s43 s45
  have f46:=W.borrow1 (ae .i64) w45 ((CR.flat (ef .i64) f39_0).step (s41.trans (s42.trans (s43.trans s45))))
  obtain ⟨w46,s46⟩:=w45.right1
  obtain ⟨r47,e47,hp⟩:=ag hp
  refine aJ (bI.P rfl rfl ⟨w46,((f30.step (s32.trans (s33.trans (s34.trans (s35.trans (s36.trans (s40.trans (s41.trans (s42.trans (s43.trans s45)))))))))).step s46),f46⟩ e47) ?_
  rintro _ H48 ⟨rfl,w48,s48,_⟩
  obtain ⟨w49,s49⟩:=W.frame1 w45 w48 s48
  refine ac rfl ?_
  refine aH hp (λhp=>?_) λhp=>?_
  ·obtain ⟨w50,s50⟩:=w49.pick' [] 11 rfl rfl rfl
   exact ay hp ⟨rfl,w50,(s0.trans (s4.trans (s5.trans (s6.trans (s7.trans (s8.trans (s12.trans (s13.trans (s14.trans (s15.trans (s16.trans (s20.trans (s21.trans (s22.trans (s23.trans (s24.trans (s26.trans (s27.trans (s28.trans (s29.trans (s30.trans (s32.trans (s33.trans (s34.trans (s35.trans (s36.trans (s40.trans (s41.trans (s42.trans (s43.trans (s45.trans (s49.trans s50)))))))))))))))))))))))))))))))),trivial⟩
  ·obtain ⟨w51,s51⟩:=w49.pick' [6,0,1,2,3,4,5,7,8,9,10] 11 rfl rfl rfl
   have f52:=W.borrow1 (ae .i64) w51 (vM.step (s4.trans (s5.trans (s6.trans (s7.trans (s8.trans (s12.trans (s13.trans (s14.trans (s15.trans (s16.trans (s20.trans (s21.trans (s22.trans (s23.trans (s24.trans (s26.trans (s27.trans (s28.trans (s29.trans (s30.trans (s32.trans (s33.trans (s34.trans (s35.trans (s36.trans (s40.trans (s41.trans (s42.trans (s43.trans (s45.trans (s49.trans s51))))))))))))))))))))))))))))))))
   obtain ⟨w52,s52⟩:=w51.right1
   obtain ⟨r53,e53,hp⟩:=ag hp
   refine aJ (ck.P rfl ⟨w52,f52⟩ e53) ?_
   rintro _ H54 ⟨o0a_54,o0n_54,o0p_54,o0r_54,o0c_54,o0k_54,rfl,rfl,w54,s54,f54_0⟩
   obtain ⟨w55,s55⟩:=W.frame1 w51 w54 s54
   refine ac rfl ?_
   obtain ⟨w56,s56⟩:=w55.pick' [1,0,2,3,4,5,6,7,8,9,10,11] 12 rfl rfl rfl
   have f57:=W.borrow1 (ae .i64) w56 ((CR.flat (ef .i64) f54_0).step s56)
   obtain ⟨w57,s57⟩:=w56.right1
   obtain ⟨r58,e58,hp⟩:=ag hp
   refine aJ (bz.P rfl ⟨w57,f57⟩ e58) ?_
   rintro _ H59 ⟨o1a_59,o1n_59,o1c_59,o1k_59,rfl,rfl,w59,s59,f59_0⟩
   obtain ⟨w60,s60⟩:=W.frame1 w56 w59 s59
   refine ac rfl ?_
   refine ac rfl ?_
   refine ac rfl ?_
   refine ac rfl ?_
   refine ac rfl ?_
   refine ac rfl ?_
   refine ac rfl ?_
   refine ac rfl ?_
   refine ac rfl ?_
   refine bo w60 λH61 w61 s61=>?_
   refine aF w61 (i:=0) rfl rfl rfl λH62 w62 s62=>?_
   dsimp only [pk,pks,nth,List.drop,List.set,List.eraseIdx] at w62 s51 s56 s61 s62
   refine aF w62 (i:=0) rfl rfl rfl λH63 w63 s63=>?_
   refine aH hp (λhp=>?_) λhp=>?_
   ·refine ac (av (w63.ld (i:=9) rfl rfl)) ?_
    refine ac (aA (w63.ld (i:=9) rfl rfl)) ?_
    refine ac (av (w63.ld (i:=7) rfl rfl)) ?_
    refine ac (aA (w63.ld (i:=7) rfl rfl)) ?_
    obtain ⟨w64,s64⟩:=w63.pick' [10,0,1,2,3,4,5,6,7,8,9,11,12,13] 14 rfl rfl rfl
    have f65:=W.borrow1 (ae .i64) w64 ((CR.flat (ef .i64) f19_0).step (s21.trans (s22.trans (s23.trans (s24.trans (s26.trans (s27.trans (s28.trans (s29.trans (s30.trans (s32.trans (s33.trans (s34.trans (s35.trans (s36.trans (s40.trans (s41.trans (s42.trans (s43.trans (s45.trans (s49.trans (s51.trans (s55.trans (s56.trans (s60.trans (s61.trans (s62.trans (s63.trans s64))))))))))))))))))))))))))))
    obtain ⟨w65,s65⟩:=w64.right1
    obtain ⟨r66,e66,hp⟩:=ag hp
    refine aJ (bI.P rfl rfl ⟨w65,f65,((f32_0.step (s33.trans (s34.trans (s35.trans (s36.trans (s40.trans (s41.trans (s42.trans (s43.trans (s45.trans (s49.trans (s51.trans (s55.trans (s56.trans (s60.trans (s61.trans (s62.trans (s63.trans s64)))))))))))))))))).step s65)⟩ e66) ?_
    rintro _ H67 ⟨rfl,w67,s67,_⟩
    obtain ⟨w68,s68⟩:=W.frame1 w64 w67 s67
    refine ac rfl ?_
    refine aH hp (λhp=>?_) λhp=>?_
    ·refine ac (av (w68.ld (i:=1) rfl rfl)) ?_
     refine ac (aA (w68.ld (i:=1) rfl rfl)) ?_
     refine ac (av (w68.ld (i:=10) rfl rfl)) ?_
     refine ac (aA (w68.ld (i:=10) rfl rfl)) ?_
     obtain ⟨w69,s69⟩:=w68.pick' [3,0,1,2,4,5,6,7,8,9,10,11,12,13] 14 rfl rfl rfl
     dsimp only [pk,pks,nth,List.drop,List.set,List.eraseIdx] at w69 s63 s64 s69
     have f70:=W.borrow1 (ae .i64) w69 ((CR.flat (ef .i64) f59_0).step (s61.trans (s62.trans (s63.trans (s64.trans (s68.trans s69))))))
     obtain ⟨w70,s70⟩:=w69.right1
     have f71:=W.borrow1 (ae .i64) w70 (((CR.flat (ef .i64) f19_0).step (s21.trans (s22.trans (s23.trans (s24.trans (s26.trans (s27.trans (s28.trans (s29.trans (s30.trans (s32.trans (s33.trans (s34.trans (s35.trans (s36.trans (s40.trans (s41.trans (s42.trans (s43.trans (s45.trans (s49.trans (s51.trans (s55.trans (s56.trans (s60.trans (s61.trans (s62.trans (s63.trans (s64.trans (s68.trans s69)))))))))))))))))))))))))))))).step s70)
     obtain ⟨w71,s71⟩:=w70.right1
     obtain ⟨r72,e72,hp⟩:=ag hp
     refine aJ (bI.P rfl rfl ⟨w71,(f70.step s71),f71⟩ e72) ?_
     rintro _ H73 ⟨rfl,w73,s73,_⟩
     obtain ⟨w74,s74⟩:=W.frame1 w70 w73 s73
     obtain ⟨w75,s75⟩:=W.frame1 w69 w74 s74
     refine ac rfl ?_
     obtain ⟨w76,s76⟩:=w75.pick' [] 14 rfl rfl rfl
     exact ay hp ⟨rfl,w76,(s0.trans (s4.trans (s5.trans (s6.trans (s7.trans (s8.trans (s12.trans (s13.trans (s14.trans (s15.trans (s16.trans (s20.trans (s21.trans (s22.trans (s23.trans (s24.trans (s26.trans (s27.trans (s28.trans (s29.trans (s30.trans (s32.trans (s33.trans (s34.trans (s35.trans (s36.trans (s40.trans (s41.trans (s42.trans (s43.trans (s45.trans (s49.trans (s51.trans (s55.trans (s56.trans (s60.trans (s61.trans (s62.trans (s63.trans (s64.trans (s68.trans (s69.trans (s75.trans s76))))))))))))))))))))))))))))))))))))))))))),trivial⟩
    ·obtain ⟨w77,s77⟩:=w68.pick' [] 14 rfl rfl rfl
     dsimp only [pk,pks,nth,List.drop,List.set,List.eraseIdx] at w77 s63 s64 s77
     exact ay hp ⟨rfl,w77,(s0.trans (s4.trans (s5.trans (s6.trans (s7.trans (s8.trans (s12.trans (s13.trans (s14.trans (s15.trans (s16.trans (s20.trans (s21.trans (s22.trans (s23.trans (s24.trans (s26.trans (s27.trans (s28.trans (s29.trans (s30.trans (s32.trans (s33.trans (s34.trans (s35.trans (s36.trans (s40.trans (s41.trans (s42.trans (s43.trans (s45.trans (s49.trans (s51.trans (s55.trans (s56.trans (s60.trans (s61.trans (s62.trans (s63.trans (s64.trans (s68.trans s77))))))))))))))))))))))))))))))))))))))))),trivial⟩
   ·obtain ⟨w78,s78⟩:=w63.pick' [] 14 rfl rfl rfl
    exact ay hp ⟨rfl,w78,(s0.trans (s4.trans (s5.trans (s6.trans (s7.trans (s8.trans (s12.trans (s13.trans (s14.trans (s15.trans (s16.trans (s20.trans (s21.trans (s22.trans (s23.trans (s24.trans (s26.trans (s27.trans (s28.trans (s29.trans (s30.trans (s32.trans (s33.trans (s34.trans (s35.trans (s36.trans (s40.trans (s41.trans (s42.trans (s43.trans (s45.trans (s49.trans (s51.trans (s55.trans (s56.trans (s60.trans (s61.trans (s62.trans (s63.trans s78))))))))))))))))))))))))))))))))))))))),trivial⟩
def aC.pl1021 (F:Nat) :Nat->List Int->Int->List Int->List Int->Int->Int->Option (Bool)
 | 0,_,_,_,_,_,_=>none
 | k+1,fQ,dY,ij,ik,dZ,dO=>(bif (decide (dO<(fQ.length:Int))) then ((ix fQ dO).bind λn1=>(bif (decide ((gt fQ n1)>0)) then (aC.pj3 F (aC.pl1021 F k) fQ dY ij ik (IntKind.i64.wrap (dZ+1)) dO) else (aC.pj3 F (aC.pl1021 F k) fQ dY ij ik (IntKind.i64.wrap (dZ - 1)) dO))) else (aC.pj2 F fQ dY ij ik dZ))
termination_by structural n=>n
theorem aC.l1021_P {F:Nat} {H0:Hp} {Ri R0:List Rs}  :∀ k,aC.S1021 H0 Ri R0  (aC.l1021 F (cw.tw F) (bV.tw F) (cz.tw F) (bW.tw F) (aD.tw F) (bz.tw F) (b_.tw F) (ce.tw F) (bR.tw F) (bI.tw F) (ck.tw F)  k) (aC.pl1021 F  k):=by
 intro k
 induction k with
 | zero=>unfold aC.S1021;intros;rename_i hp;cases hp
 | succ k ih=>
  intro qT qU qV nl nm nn qW qX qY fQ ij ik qZ q_ ra dY dZ dO H An Ao Ap h0 r hp
  obtain ⟨w0,s0,nq,rj,rk⟩:=h0
  subst An
  subst Ao
  subst Ap
  unfold aC.pl1021 at hp
  unfold aC.l1021
  refine aH hp (λhp=>?_) λhp=>?_
  ·obtain ⟨n1,g1,hp⟩:=ag hp
   obtain ⟨p1,q1,i1,h1,j1⟩:=W.ixo (E:=(ae .i64)) w0 (i:=0) rfl rfl nq g1
   refine ac i1 ?_
   have h1:_=[_]:=h1
   subst h1
   refine ac (av (j1 0 _ rfl)) ?_
   refine aH hp (λhp=>?_) λhp=>?_
   ·exact aC.j3_P (@ih) rfl rfl rfl ⟨w0,s0,nq,rj,rk⟩ hp
   ·exact aC.j3_P (@ih) rfl rfl rfl ⟨w0,s0,nq,rj,rk⟩ hp
  ·exact aC.j2_P rfl rfl rfl ⟨w0,s0,nq,rj,rk⟩ hp
def aC.p (F:Nat) (aj:List Int):Option (Bool):=(cw.p F aj).bind λr1=>(bif r1 then (some true) else ((bV.p F aj).bind λr3=>(cz.p F aj 29).bind λr5=>(bW.p F r5).bind λr8=>(apn ([]:List Int) r3.1).bind λl12=>(apn l12 r8).bind λl14=>(aD.p F r3.1).bind λr18=>(bif (!r18) then (some true) else ((aD.p F r8).bind λr24=>(bif (!r24) then (some true) else ((aD.p F l14).bind λr30=>(bif (!r30) then (some true) else ((bif (decide (r3.2<1)) then (some true) else ((bif (decide (r3.2>24)) then (some true) else (aC.pl1021 F F r3.1 r3.2 r8 l14 0 0))))))))))))
theorem aC.P {F:Nat} {aN:ON} {aE:Nat} {aO:Cap} {aj:List Int} {H:Hp} {R0:List Rs} (bj:aE=aj.length) (h0:Inn H R0 λR=>ROs (ae .u8) H R ⟨aN,aE,aO⟩ aj) {r:Bool} (hp:aC.p F aj=some r):∃ v H',aC.tw F ⟨aN,aE,aO⟩ H=some (v,H')/\aC.Q H R0 R0  r v H':=by
 obtain ⟨w0,bl⟩:=h0
 subst bj
 unfold aC.p at hp
 unfold aC.tw aC.twX
 have s0:=w0.rf
 obtain ⟨r1,e1,hp⟩:=ag hp
 refine aJ (cw.P rfl ⟨w0,bl⟩ e1) ?_
 rintro _ H2 ⟨rfl,w2,s2,_⟩
 refine ac rfl ?_
 refine aH hp (λhp=>?_) λhp=>?_
 ·exact ay hp ⟨rfl,w2,(s0.trans s2),trivial⟩
 ·obtain ⟨r3,e3,hp⟩:=ag hp
  refine aJ (bV.P rfl ⟨w2,(bl.step s2)⟩ e3) ?_
  rintro _ H4 ⟨o0a_4,o0n_4,o0c_4,o0k_4,rfl,rfl,w4,s4,f4_0⟩
  refine ac rfl ?_
  refine ac rfl ?_
  refine ac rfl ?_
  refine ac rfl ?_
  refine ac rfl ?_
  obtain ⟨r5,e5,hp⟩:=ag hp
  refine aJ (cz.P rfl ⟨w4,(bl.step (s2.trans s4))⟩ e5) ?_
  rintro _ H6 ⟨o0a_6,o0n_6,o0c_6,o0k_6,rfl,rfl,w6,s6,f6_0⟩
  refine ac rfl ?_
  have f7:=W.borrow1 (ae .u8) w6 f6_0
  obtain ⟨w7,s7⟩:=w6.right1
  obtain ⟨r8,e8,hp⟩:=ag hp
  refine aJ (bW.P rfl ⟨w7,f7⟩ e8) ?_
  rintro _ H9 ⟨o0a_9,o0n_9,o0c_9,o0k_9,rfl,rfl,w9,s9,f9_0⟩
  obtain ⟨w10,s10⟩:=W.frame1 w6 w9 s9
  refine ac rfl ?_
  refine eU (ae .i64) w10 (n:=0) (l:=([]:List Int)) rfl CR.empty rfl λH11 w11 s11 c11=>?_
  refine ac (w11.rowo (i:=3) rfl) ?_
  obtain ⟨l12,e12,hp⟩:=ag hp
  refine iO (ae .i64) w11 (i:=0) rfl rfl c11 (f4_0.step (s6.trans (s10.trans s11))) rfl rfl e12 λa13 d13 H13 w13 s13 c13 x13=>?_
  refine ac (w13.rowo (i:=2) rfl) ?_
  obtain ⟨l14,e14,hp⟩:=ag hp
  refine iO (ae .i64) w13 (i:=0) rfl rfl c13 ((CR.flat (ef .i64) f9_0).step (s11.trans s13)) rfl rfl e14 λa15 d15 H15 w15 s15 c15 x15=>?_
  obtain ⟨w16,s16⟩:=w15.pick' [3,0,1,2] 4 rfl rfl rfl
  dsimp only [pk,pks,nth,List.drop,List.set,List.eraseIdx] at w16 s13 c13 s15 c15 s16
  have f17:=W.borrow1 (ae .i64) w16 (f4_0.step (s6.trans (s10.trans (s11.trans (s13.trans (s15.trans s16))))))
  obtain ⟨w17,s17⟩:=w16.right1
  obtain ⟨r18,e18,hp⟩:=ag hp
  refine aJ (aD.P rfl ⟨w17,f17⟩ e18) ?_
  rintro _ H19 ⟨rfl,w19,s19,_⟩
  obtain ⟨w20,s20⟩:=W.frame1 w16 w19 s19
  refine ac rfl ?_
  refine aH hp (λhp=>?_) λhp=>?_
  ·obtain ⟨w21,s21⟩:=w20.pick' [] 4 rfl rfl rfl
   exact ay hp ⟨rfl,w21,(s0.trans (s2.trans (s4.trans (s6.trans (s10.trans (s11.trans (s13.trans (s15.trans (s16.trans (s20.trans s21)))))))))),trivial⟩
  ·obtain ⟨w22,s22⟩:=w20.pick' [3,0,1,2] 4 rfl rfl rfl
   have f23:=W.borrow1 (ae .i64) w22 ((CR.flat (ef .i64) f9_0).step (s11.trans (s13.trans (s15.trans (s16.trans (s20.trans s22))))))
   obtain ⟨w23,s23⟩:=w22.right1
   obtain ⟨r24,e24,hp⟩:=ag hp
   refine aJ (aD.P rfl ⟨w23,f23⟩ e24) ?_
   rintro _ H25 ⟨rfl,w25,s25,_⟩
   obtain ⟨w26,s26⟩:=W.frame1 w22 w25 s25
   refine ac rfl ?_
   refine aH hp (λhp=>?_) λhp=>?_
   ·obtain ⟨w27,s27⟩:=w26.pick' [] 4 rfl rfl rfl
    exact ay hp ⟨rfl,w27,(s0.trans (s2.trans (s4.trans (s6.trans (s10.trans (s11.trans (s13.trans (s15.trans (s16.trans (s20.trans (s22.trans (s26.trans s27)))))))))))),trivial⟩
   ·obtain ⟨w28,s28⟩:=w26.pick' [2,0,1,3] 4 rfl rfl rfl
    have f29:=W.borrow1 (ae .i64) w28 (c15.step (s16.trans (s20.trans (s22.trans (s26.trans s28)))))
    obtain ⟨w29,s29⟩:=w28.right1
    obtain ⟨r30,e30,hp⟩:=ag hp
    refine aJ (aD.P rfl ⟨w29,f29⟩ e30) ?_
    rintro _ H31 ⟨rfl,w31,s31,_⟩
    obtain ⟨w32,s32⟩:=W.frame1 w28 w31 s31
    refine ac rfl ?_
    refine aH hp (λhp=>?_) λhp=>?_
    ·obtain ⟨w33,s33⟩:=w32.pick' [] 4 rfl rfl rfl
     dsimp only [pk,pks,nth,List.drop,List.set,List.eraseIdx] at w33 s22 s28 s33
     exact ay hp ⟨rfl,w33,(s0.trans (s2.trans (s4.trans (s6.trans (s10.trans (s11.trans (s13.trans (s15.trans (s16.trans (s20.trans (s22.trans (s26.trans (s28.trans (s32.trans s33)))))))))))))),trivial⟩
    ·refine aH hp (λhp=>?_) λhp=>?_
     ·obtain ⟨w34,s34⟩:=w32.pick' [] 4 rfl rfl rfl
      dsimp only [pk,pks,nth,List.drop,List.set,List.eraseIdx] at w34 s22 s28 s34
      exact ay hp ⟨rfl,w34,(s0.trans (s2.trans (s4.trans (s6.trans (s10.trans (s11.trans (s13.trans (s15.trans (s16.trans (s20.trans (s22.trans (s26.trans (s28.trans (s32.trans s34)))))))))))))),trivial⟩
     ·refine aH hp (λhp=>?_) λhp=>?_
      ·obtain ⟨w35,s35⟩:=w32.pick' [] 4 rfl rfl rfl
       dsimp only [pk,pks,nth,List.drop,List.set,List.eraseIdx] at w35 s22 s28 s35
       exact ay hp ⟨rfl,w35,(s0.trans (s2.trans (s4.trans (s6.trans (s10.trans (s11.trans (s13.trans (s15.trans (s16.trans (s20.trans (s22.trans (s26.trans (s28.trans (s32.trans s35)))))))))))))),trivial⟩
      ·obtain ⟨w36,s36⟩:=w32.pick' [2,1,0] 4 rfl rfl rfl
       dsimp only [pk,pks,nth,List.drop,List.set,List.eraseIdx] at w36 s22 s28 s36
       exact aC.l1021_P F rfl rfl rfl ⟨w36,(s0.trans (s2.trans (s4.trans (s6.trans (s10.trans (s11.trans (s13.trans (s15.trans (s16.trans (s20.trans (s22.trans (s26.trans (s28.trans (s32.trans s36)))))))))))))),(f4_0.step (s6.trans (s10.trans (s11.trans (s13.trans (s15.trans (s16.trans (s20.trans (s22.trans (s26.trans (s28.trans (s32.trans s36)))))))))))),((CR.flat (ef .i64) f9_0).step (s11.trans (s13.trans (s15.trans (s16.trans (s20.trans (s22.trans (s26.trans (s28.trans (s32.trans s36)))))))))),(c15.step (s16.trans (s20.trans (s22.trans (s26.trans (s28.trans (s32.trans s36)))))))⟩ hp
end
end Go.Proofs.Yteeahaikelpkpaa.AE
