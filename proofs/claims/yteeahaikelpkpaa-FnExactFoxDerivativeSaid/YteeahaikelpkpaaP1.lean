import Derived.Test.YteeahaikelpkpaaT1
import Derived.Test.YteeahaikelpkpaaE2
set_option linter.unusedVariables false
set_option linter.unusedSimpArgs false
namespace Go.Proofs.Yteeahaikelpkpaa.AE
open Go Go.AE Go.Proofs
set_option linter.unusedVariables false
set_option maxHeartbeats 4000000
set_option maxRecDepth 100000
def ar.Q (H0:Hp) (Ri R0:List Rs)  (r:List Int) (v:AV) (H':Hp):Prop:=∃ o0a:ON,∃ o0n:Nat,∃ o0c:Cap,∃ o0k:List AV,v = (.sl ⟨o0a,o0n,o0c⟩)∧o0n = (r).length∧Out H0 Ri H' (Rs.own ⟨o0a,o0n,o0c⟩ (eInt .i64).z o0k :: R0) fun R=>CR (eInt .i64) H' R o0k (r)
def ar.S29 (H0:Hp) (Ri R0:List Rs)  (C:Sl→Sl→Int→Hp→OA) (pC:List Int→List Int→Int→Option (List Int)):Prop:=∀ {dl ig:ON} {cW fW:Nat} {dm ii:Cap} {bk eA:List Int} {ij:List AV} {bn:Int},∀ {H:Hp},cW = bk.length→fW = eA.length→(Out H0 Ri H (Rs.own ⟨ig,fW,ii⟩ (eInt .i64).z ij :: R0) fun R=>ROs (eInt .i64) H R ⟨dl,cW,dm⟩ bk∧CR (eInt .i64) H R ij eA)→∀ {r:List Int},pC bk eA bn = some r→∃ v H',C ⟨dl,cW,dm⟩ ⟨ig,fW,ii⟩ bn H = some (v,H')∧ar.Q H0 Ri R0  r v H'
def ar.pl29 (F:Nat) :Nat→List Int→List Int→Int→Option (List Int)
 | 0,_,_,_=>none
 | k + 1,bk,eA,bn=>(bif (decide (bn < (bk.length:Int))) then ((ix bk bn).bind fun n1=>(ix eA bn).bind fun n2=>(some (eA.set n2 (gt bk n1))).bind fun l3=>ar.pl29 F k bk l3 (IntKind.i64.wrap (bn + 1))) else (some eA))
termination_by structural n=>n
theorem ar.l29_P {F:Nat} {H0:Hp} {Ri R0:List Rs}  :∀ k,ar.S29 H0 Ri R0  (ar.l29 F   k) (ar.pl29 F  k):=by
 intro k
 induction k with
 | zero=>
  intro dl ig cW fW dm ii bk eA ij bn H ec lR h0 r hp
  exact nomatch (show (none:Option (List Int)) = some r from hp)
 | succ k ih=>
  intro dl ig cW fW dm ii bk eA ij bn H ec lR h0 r hp
  obtain ⟨w0,s0,dG,kx⟩:=h0
  subst ec
  subst lR
  unfold ar.pl29 at hp
  unfold ar.l29
  refine bif_ex (fun hb=>?_) (fun hb=>?_)
  ·replace hp:=bif_t hb hp
   obtain ⟨n1,g1,hp⟩:=bind_some' hp
   obtain ⟨p1,q1,i1,h1,j1⟩:=ROs.ixr dG rfl g1
   refine bind_ex i1 ?_
   have h1:_ = [_]:=h1
   subst h1
   refine bind_ex (ldI_of (j1 0 _ rfl)) ?_
   obtain ⟨n2,g2,hp⟩:=bind_some' hp
   obtain ⟨p2,q2,i2,h2,j2⟩:=W.ixo (E:=(eInt .i64)) w0 (i:=0) rfl rfl kx g2
   refine bind_ex i2 ?_
   obtain ⟨l3,e3,hp⟩:=bind_some' hp
   refine sto_k (eInt .i64) w0 (i:=0) (j:=0) (p:=p2) rfl rfl kx g2 i2 e3 rfl rfl (fun _ h=>by have h:_ = [_]:=h; subst h; exact rfl) fun H4 k4 w4 s4 c4=>?_
   dsimp only [List.set] at w4 s4 c4
   exact ih rfl ((st_len e3).symm) ⟨w4,(s0.trans s4),(dG.step s4),c4⟩ hp
  ·replace hp:=bif_f hb hp
   obtain rfl:=Option.some.inj hp
   exact ⟨_,_,rfl,_,_,_,_,rfl,rfl,w0,s0,kx⟩
def ar.p (F:Nat) (ak:List Int):Option (List Int):=(mkn (ak.length:Int) (0:Int)).bind fun l1=>ar.pl29 F F ak l1 0
theorem ar.P {F:Nat} {aK:ON} {ay:Nat} {aL:Cap} {ak:List Int} {H:Hp} {R0:List Rs} (br:ay = ak.length) (h0:Inn H R0 fun R=>ROs (eInt .i64) H R ⟨aK,ay,aL⟩ ak) {r:List Int} (hp:ar.p F ak = some r):∃ v H',ar.tw F ⟨aK,ay,aL⟩ H = some (v,H')∧ar.Q H R0 R0  r v H':=by
 obtain ⟨w0,bl⟩:=h0
 subst br
 unfold ar.p at hp
 unfold ar.tw ar.twX
 have s0:=w0.rf
 obtain ⟨l1,e1,hp⟩:=bind_some' hp
 refine mk_k (eInt .i64) (0:Int) w0 rfl rfl rfl e1 fun H2 k2 w2 s2 c2=>?_
 exact ar.l29_P F rfl rfl ⟨w2,(s0.trans s2),(bl.step s2),c2⟩ hp
def aB.Q (H0:Hp) (Ri R0:List Rs)  (r:Bool) (v:AV) (H':Hp):Prop:=v = (.bool r)∧Out H0 Ri H' (R0) fun R=>True
def aB.p (F:Nat) (aa:Int) (ab:Int) (bB:Int):Option (Bool):=(bif (decide (aa ≥ ab)) then (some (decide (aa ≤ bB))) else (some false))
theorem aB.P {F:Nat} {aa ab bB:Int} {H:Hp} {R0:List Rs}  (h0:Inn H R0 fun R=>True) {r:Bool} (hp:aB.p F aa ab bB = some r):∃ v H',aB.tw F aa ab bB H = some (v,H')∧aB.Q H R0 R0  r v H':=by
 obtain ⟨w0,_⟩:=h0
 unfold aB.p at hp
 unfold aB.tw aB.twX
 have s0:=w0.rf
 refine bif_ex (fun hb=>?_) (fun hb=>?_)
 ·replace hp:=bif_t hb hp
  obtain rfl:=Option.some.inj hp
  exact ⟨_,_,rfl,rfl,w0,s0,trivial⟩
 ·replace hp:=bif_f hb hp
  obtain rfl:=Option.some.inj hp
  exact ⟨_,_,rfl,rfl,w0,s0,trivial⟩
def ao.Q (H0:Hp) (Ri R0:List Rs)  (r:Bool) (v:AV) (H':Hp):Prop:=v = (.bool r)∧Out H0 Ri H' (R0) fun R=>True
def ao.S13 (H0:Hp) (Ri R0:List Rs)  (C:Sl→Int→Hp→OA) (pC:List Int→Int→Option (Bool)):Prop:=∀ {dn:ON} {cX:Nat} {dp:Cap} {bC:List Int} {ck:Int},∀ {H:Hp},cX = bC.length→(Out H0 Ri H R0 fun R=>ROs (eInt .i64) H R ⟨dn,cX,dp⟩ bC)→∀ {r:Bool},pC bC ck = some r→∃ v H',C ⟨dn,cX,dp⟩ ck H = some (v,H')∧ao.Q H0 Ri R0  r v H'
def ao.pj1 (F:Nat)  (fX:List Int):Option (Bool):=some (decide ((fX.length:Int) ≤ 120))
theorem ao.j1_P {F:Nat} {H0:Hp} {Ri R0:List Rs}   {lS:ON} {ky:Nat} {lT:Cap} {fX:List Int} {H:Hp} (qe:ky = fX.length) (h0:Out H0 Ri H R0 fun R=>ROs (eInt .i64) H R ⟨lS,ky,lT⟩ fX) {r:Bool} (hp:ao.pj1 F  fX = some r):∃ v H',ao.j1 F (aB.tw F)  ⟨lS,ky,lT⟩ H = some (v,H')∧ao.Q H0 Ri R0  r v H':=by
 obtain ⟨w0,s0,rS⟩:=h0
 subst qe
 unfold ao.pj1 at hp
 unfold ao.j1
 obtain rfl:=Option.some.inj hp
 exact ⟨_,_,rfl,rfl,w0,s0,trivial⟩
def ao.pl13 (F:Nat) :Nat→List Int→Int→Option (Bool)
 | 0,_,_=>none
 | k + 1,bC,ck=>(bif (decide (ck < (bC.length:Int))) then ((ix bC ck).bind fun n1=>(bif ((gt bC n1) == 0) then (some false) else ((ix bC ck).bind fun n2=>(aB.p F (gt bC n2) (-24) 24).bind fun r3=>(bif (!r3) then (some false) else (ao.pl13 F k bC (IntKind.i64.wrap (ck + 1))))))) else (ao.pj1 F bC))
termination_by structural n=>n
theorem ao.l13_P {F:Nat} {H0:Hp} {Ri R0:List Rs}  :∀ k,ao.S13 H0 Ri R0  (ao.l13 F (aB.tw F)  k) (ao.pl13 F  k):=by
 intro k
 induction k with
 | zero=>
  intro dn cX dp bC ck H eL h0 r hp
  exact nomatch (show (none:Option (Bool)) = some r from hp)
 | succ k ih=>
  intro dn cX dp bC ck H eL h0 r hp
  obtain ⟨w0,s0,es⟩:=h0
  subst eL
  unfold ao.pl13 at hp
  unfold ao.l13
  refine bif_ex (fun hb=>?_) (fun hb=>?_)
  ·replace hp:=bif_t hb hp
   obtain ⟨n1,g1,hp⟩:=bind_some' hp
   obtain ⟨p1,q1,i1,h1,j1⟩:=ROs.ixr es rfl g1
   refine bind_ex i1 ?_
   have h1:_ = [_]:=h1
   subst h1
   refine bind_ex (ldI_of (j1 0 _ rfl)) ?_
   refine bif_ex (fun hb=>?_) (fun hb=>?_)
   ·replace hp:=bif_t hb hp
    obtain rfl:=Option.some.inj hp
    exact ⟨_,_,rfl,rfl,w0,s0,trivial⟩
   ·replace hp:=bif_f hb hp
    obtain ⟨n2,g2,hp⟩:=bind_some' hp
    obtain ⟨p2,q2,i2,h2,j2⟩:=ROs.ixr es rfl g2
    refine bind_ex i2 ?_
    have h2:_ = [_]:=h2
    subst h2
    refine bind_ex (ldI_of (j2 0 _ rfl)) ?_
    obtain ⟨r3,e3,hp⟩:=bind_some' hp
    refine call_ex (aB.P ⟨w0,trivial⟩ e3) ?_
    rintro _ H4 ⟨rfl,w4,s4,_⟩
    refine bind_ex rfl ?_
    refine bif_ex (fun hb=>?_) (fun hb=>?_)
    ·replace hp:=bif_t hb hp
     obtain rfl:=Option.some.inj hp
     exact ⟨_,_,rfl,rfl,w4,(s0.trans s4),trivial⟩
    ·replace hp:=bif_f hb hp
     exact ih rfl ⟨w4,(s0.trans s4),(es.step s4)⟩ hp
  ·replace hp:=bif_f hb hp
   exact ao.j1_P rfl ⟨w0,s0,es⟩ hp
def ao.p (F:Nat) (ak:List Int):Option (Bool):=ao.pl13 F F ak 0
theorem ao.P {F:Nat} {aK:ON} {ay:Nat} {aL:Cap} {ak:List Int} {H:Hp} {R0:List Rs} (br:ay = ak.length) (h0:Inn H R0 fun R=>ROs (eInt .i64) H R ⟨aK,ay,aL⟩ ak) {r:Bool} (hp:ao.p F ak = some r):∃ v H',ao.tw F ⟨aK,ay,aL⟩ H = some (v,H')∧ao.Q H R0 R0  r v H':=by
 obtain ⟨w0,bl⟩:=h0
 subst br
 unfold ao.p at hp
 unfold ao.tw ao.twX
 have s0:=w0.rf
 exact ao.l13_P F rfl ⟨w0,s0,bl⟩ hp
def af.Q (H0:Hp) (Ri R0:List Rs)  (r:Int×List Int) (v:AV) (H':Hp):Prop:=∃ o1a:ON,∃ o1n:Nat,∃ o1c:Cap,∃ o1k:List AV,v = (.agg [(.int .i64 r.1),(.sl ⟨o1a,o1n,o1c⟩)])∧o1n = (r.2).length∧Out H0 Ri H' (Rs.own ⟨o1a,o1n,o1c⟩ (eInt .i64).z o1k :: R0) fun R=>CR (eInt .i64) H' R o1k (r.2)
def af.S14 (H0:Hp) (Ri R0:List Rs)  (C:Int→Sl→Nat→Nat→Int→Int→Hp→OA) (pC:Int→List Int→Int→Int→Option (Int×List Int)):Prop:=∀ {bw kz bP cl:Int} {ik il:ON} {fY fZ bn:Nat} {im io:Cap} {ed ip:List Int} {iq:List AV},∀ {H:Hp},fY = ed.length→fZ = ip.length→(Out H0 Ri H (Rs.own ⟨il,fZ,io⟩ (eInt .i64).z iq :: Rs.blk bn [.int .i64 kz,.sl ⟨il,fZ,io⟩] :: R0) fun R=>ROs (eInt .i64) H R ⟨ik,fY,im⟩ ed∧CR (eInt .i64) H R iq ip)→∀ {r:Int×List Int},pC bw ed bP cl = some r→∃ v H',C bw ⟨ik,fY,im⟩ bn 0 bP cl H = some (v,H')∧af.Q H0 Ri R0  r v H'
def af.S30 (H0:Hp) (Ri R0:List Rs)  (C:Int→Sl→Nat→Nat→Int→Int→Hp→OA) (pC:Int→List Int→Int→Int→Option (Int×List Int)):Prop:=∀ {bR kA b_ bS:Int} {ir iu:ON} {f_ ga cM:Nat} {iv iw:Cap} {ee iy:List Int} {iz:List AV},∀ {H:Hp},f_ = ee.length→ga = iy.length→(Out H0 Ri H (Rs.own ⟨iu,ga,iw⟩ (eInt .i64).z iz :: Rs.blk cM [.int .i64 kA,.sl ⟨iu,ga,iw⟩] :: R0) fun R=>ROs (eInt .i64) H R ⟨ir,f_,iv⟩ ee∧CR (eInt .i64) H R iz iy)→∀ {r:Int×List Int},pC bR ee b_ bS = some r→∃ v H',C bR ⟨ir,f_,iv⟩ cM 0 b_ bS H = some (v,H')∧af.Q H0 Ri R0  r v H'
def af.pj1 (F:Nat)  (fe:Int) (gb:List Int) (em:Int) (eH:Int):Option (Int×List Int):=(bif (em == eH) then (some (0,([]:List Int))) else ((cutf gb em eH).bind fun l6=>(apn ([]:List Int) l6).bind fun l8=>some ((IntKind.i64.wrap (fe + em)),l8)))
theorem af.j1_P {F:Nat} {H0:Hp} {Ri R0:List Rs}   {fe qf em eH:Int} {lU lV:ON} {kB kC dI:Nat} {lW lX:Cap} {gb lY:List Int} {lZ:List AV} {H:Hp} (qg:kB = gb.length) (qh:kC = lY.length) (h0:Out H0 Ri H (Rs.own ⟨lV,kC,lX⟩ (eInt .i64).z lZ :: Rs.blk dI [.int .i64 qf,.sl ⟨lV,kC,lX⟩] :: R0) fun R=>ROs (eInt .i64) H R ⟨lU,kB,lW⟩ gb∧CR (eInt .i64) H R lZ lY) {r:Int×List Int} (hp:af.pj1 F  fe gb em eH = some r):∃ v H',af.j1 F   fe ⟨lU,kB,lW⟩ dI 0 em eH H = some (v,H')∧af.Q H0 Ri R0  r v H':=by
 obtain ⟨w0,s0,qi,rT⟩:=h0
 subst qg
 subst qh
 unfold af.pj1 at hp
 unfold af.j1
 refine bif_ex (fun hb=>?_) (fun hb=>?_)
 ·replace hp:=bif_t hb hp
  refine st_k w0 (i:=1) rfl rfl rfl fun H1 w1 s1=>?_
  dsimp only [List.set] at w1 s1
  refine st_k w1 (i:=1) rfl rfl rfl fun H2 w2 s2=>?_
  dsimp only [List.set] at w2 s2
  refine bind_ex (ldI_of (w2.ld (i:=1) rfl rfl)) ?_
  refine bind_ex (ldSl_of (w2.ld (i:=1) rfl rfl)) ?_
  obtain ⟨w3,s3⟩:=w2.nilS (eInt .i64).z (by decide)
  obtain ⟨w4,s4⟩:=w3.pick' [0] 3 rfl rfl rfl
  dsimp only [pk,pks,nth,List.drop] at w4 s4
  obtain rfl:=Option.some.inj hp
  exact ⟨_,_,rfl,_,_,_,_,rfl,rfl,w4,(s0.trans (s1.trans (s2.trans (s3.trans s4)))),((CR.empty:CR (eInt .i64) _ _ [] []).step s4)⟩
 ·replace hp:=bif_f hb hp
  refine newS_k (eInt .i64) w0 (n:=0) (l:=([]:List Int)) rfl CR.empty rfl fun H5 w5 s5 c5=>?_
  obtain ⟨l6,e6,hp⟩:=bind_some' hp
  obtain ⟨a6,d6,h6,f6⟩:=ROs.cutf (qi.step s5) rfl e6
  refine bind_ex h6 ?_
  obtain ⟨x7,h7,c7⟩:=f6.row rfl
  refine bind_ex h7 ?_
  obtain ⟨l8,e8,hp⟩:=bind_some' hp
  refine app_k (eInt .i64) w5 (i:=0) rfl rfl c5 c7 rfl rfl e8 fun a9 d9 H9 w9 s9 c9 x9=>?_
  dsimp only [List.set] at w9 s9 c9
  refine st_k w9 (i:=2) rfl rfl rfl fun H10 w10 s10=>?_
  dsimp only [List.set] at w10 s10
  refine st_k w10 (i:=2) rfl rfl rfl fun H11 w11 s11=>?_
  dsimp only [List.set] at w11 s11
  refine bind_ex (ldI_of (w11.ld (i:=2) rfl rfl)) ?_
  refine bind_ex (ldSl_of (w11.ld (i:=2) rfl rfl)) ?_
  obtain ⟨w12,s12⟩:=w11.pick' [0] 3 rfl rfl rfl
  dsimp only [pk,pks,nth,List.drop] at w12 s12
  obtain rfl:=Option.some.inj hp
  exact ⟨_,_,rfl,_,_,_,_,rfl,rfl,w12,(s0.trans (s5.trans (s9.trans (s10.trans (s11.trans s12))))),(c9.step (s10.trans (s11.trans s12)))⟩
def af.pl30 (F:Nat) :Nat→Int→List Int→Int→Int→Option (Int×List Int)
 | 0,_,_,_,_=>none
 | k + 1,bR,ee,b_,bS=>(bif (decide (b_ < bS)) then ((ix ee (IntKind.i64.wrap (bS - 1))).bind fun n1=>(bif ((gt ee n1) == 0) then (af.pl30 F k bR ee b_ (IntKind.i64.wrap (bS - 1))) else (af.pj1 F bR ee b_ bS))) else (af.pj1 F bR ee b_ bS))
termination_by structural n=>n
theorem af.l30_P {F:Nat} {H0:Hp} {Ri R0:List Rs}  :∀ k,af.S30 H0 Ri R0  (af.l30 F   k) (af.pl30 F  k):=by
 intro k
 induction k with
 | zero=>
  intro bR kA b_ bS ir iu f_ ga cM iv iw ee iy iz H l_ ma h0 r hp
  exact nomatch (show (none:Option (Int×List Int)) = some r from hp)
 | succ k ih=>
  intro bR kA b_ bS ir iu f_ ga cM iv iw ee iy iz H l_ ma h0 r hp
  obtain ⟨w0,s0,iA,kD⟩:=h0
  subst l_
  subst ma
  unfold af.pl30 at hp
  unfold af.l30
  refine bif_ex (fun hb=>?_) (fun hb=>?_)
  ·replace hp:=bif_t hb hp
   obtain ⟨n1,g1,hp⟩:=bind_some' hp
   obtain ⟨p1,q1,i1,h1,j1⟩:=ROs.ixr iA rfl g1
   refine bind_ex i1 ?_
   have h1:_ = [_]:=h1
   subst h1
   refine bind_ex (ldI_of (j1 0 _ rfl)) ?_
   refine bif_ex (fun hb=>?_) (fun hb=>?_)
   ·replace hp:=bif_t hb hp
    exact ih rfl rfl ⟨w0,s0,iA,kD⟩ hp
   ·replace hp:=bif_f hb hp
    exact af.j1_P rfl rfl ⟨w0,s0,iA,kD⟩ hp
  ·replace hp:=bif_f hb hp
   exact af.j1_P rfl rfl ⟨w0,s0,iA,kD⟩ hp
def af.pj2 (F:Nat)  (ff:Int) (gc:List Int) (fg:Int) (fh:Int):Option (Int×List Int):=af.pl30 F F ff gc fg fh
theorem af.j2_P {F:Nat} {H0:Hp} {Ri R0:List Rs}   {ff qj fg fh:Int} {mb mc:ON} {kE kF hK:Nat} {md mf:Cap} {gc mg:List Int} {mh:List AV} {H:Hp} (qk:kE = gc.length) (qm:kF = mg.length) (h0:Out H0 Ri H (Rs.own ⟨mc,kF,mf⟩ (eInt .i64).z mh :: Rs.blk hK [.int .i64 qj,.sl ⟨mc,kF,mf⟩] :: R0) fun R=>ROs (eInt .i64) H R ⟨mb,kE,md⟩ gc∧CR (eInt .i64) H R mh mg) {r:Int×List Int} (hp:af.pj2 F  ff gc fg fh = some r):∃ v H',af.j2 F   ff ⟨mb,kE,md⟩ hK 0 fg fh H = some (v,H')∧af.Q H0 Ri R0  r v H':=by
 obtain ⟨w0,s0,qn,qo⟩:=h0
 subst qk
 subst qm
 unfold af.pj2 at hp
 unfold af.j2
 exact af.l30_P F rfl rfl ⟨w0,s0,qn,qo⟩ hp
def af.pl14 (F:Nat) :Nat→Int→List Int→Int→Int→Option (Int×List Int)
 | 0,_,_,_,_=>none
 | k + 1,bw,ed,bP,cl=>(bif (decide (bP < cl)) then ((ix ed bP).bind fun n1=>(bif ((gt ed n1) == 0) then (af.pl14 F k bw ed (IntKind.i64.wrap (bP + 1)) cl) else (af.pj2 F bw ed bP cl))) else (af.pj2 F bw ed bP cl))
termination_by structural n=>n
theorem af.l14_P {F:Nat} {H0:Hp} {Ri R0:List Rs}  :∀ k,af.S14 H0 Ri R0  (af.l14 F   k) (af.pl14 F  k):=by
 intro k
 induction k with
 | zero=>
  intro bw kz bP cl ik il fY fZ bn im io ed ip iq H mi mj h0 r hp
  exact nomatch (show (none:Option (Int×List Int)) = some r from hp)
 | succ k ih=>
  intro bw kz bP cl ik il fY fZ bn im io ed ip iq H mi mj h0 r hp
  obtain ⟨w0,s0,iB,kG⟩:=h0
  subst mi
  subst mj
  unfold af.pl14 at hp
  unfold af.l14
  refine bif_ex (fun hb=>?_) (fun hb=>?_)
  ·replace hp:=bif_t hb hp
   obtain ⟨n1,g1,hp⟩:=bind_some' hp
   obtain ⟨p1,q1,i1,h1,j1⟩:=ROs.ixr iB rfl g1
   refine bind_ex i1 ?_
   have h1:_ = [_]:=h1
   subst h1
   refine bind_ex (ldI_of (j1 0 _ rfl)) ?_
   refine bif_ex (fun hb=>?_) (fun hb=>?_)
   ·replace hp:=bif_t hb hp
    exact ih rfl rfl ⟨w0,s0,iB,kG⟩ hp
   ·replace hp:=bif_f hb hp
    exact af.j2_P rfl rfl ⟨w0,s0,iB,kG⟩ hp
  ·replace hp:=bif_f hb hp
   exact af.j2_P rfl rfl ⟨w0,s0,iB,kG⟩ hp
def af.p (F:Nat) (aa:Int) (dz:List Int):Option (Int×List Int):=af.pl14 F F aa dz 0 (dz.length:Int)
theorem af.P {F:Nat} {aa:Int} {gd:ON} {e_:Nat} {gf:Cap} {dz:List Int} {H:Hp} {R0:List Rs} (kH:e_ = dz.length) (h0:Inn H R0 fun R=>ROs (eInt .i64) H R ⟨gd,e_,gf⟩ dz) {r:Int×List Int} (hp:af.p F aa dz = some r):∃ v H',af.tw F aa ⟨gd,e_,gf⟩ H = some (v,H')∧af.Q H R0 R0  r v H':=by
 obtain ⟨w0,kI⟩:=h0
 subst kH
 unfold af.p at hp
 unfold af.tw af.twX
 have s0:=w0.rf
 refine new_k w0 fun H1 w1 s1=>?_
 obtain ⟨w2,s2⟩:=w1.nilS (eInt .i64).z (by decide)
 exact af.l14_P F rfl rfl ⟨w2,(s0.trans (s1.trans s2)),(kI.step (s1.trans s2)),(CR.empty:CR (eInt .i64) _ _ [] [])⟩ hp
def ag.Q (H0:Hp) (Ri R0:List Rs)  (r:Int×List Int) (v:AV) (H':Hp):Prop:=∃ o1a:ON,∃ o1n:Nat,∃ o1c:Cap,∃ o1k:List AV,v = (.agg [(.int .i64 r.1),(.sl ⟨o1a,o1n,o1c⟩)])∧o1n = (r.2).length∧Out H0 Ri H' (Rs.own ⟨o1a,o1n,o1c⟩ (eInt .i64).z o1k :: R0) fun R=>CR (eInt .i64) H' R o1k (r.2)
def ag.S509 (H0:Hp) (Ri R0:List Rs)  (C:Nat→Nat→Nat→Nat→Nat→Nat→Int→Sl→Int→Hp→OA) (pC:Int→List Int→Int→List Int→Int→List Int→Int→Option (Int×List Int)):Prop:=∀ {eM fa kJ bV bW:Int} {iC iD iE iF:ON} {gg cm gh cH gj cO gk:Nat} {iG iH iI iJ:Cap} {et eN iK ef:List Int} {iL iM:List AV},∀ {H:Hp},gg = et.length→gh = eN.length→gj = iK.length→gk = ef.length→(Out H0 Ri H (Rs.blk cm [.int .i64 eM,.sl ⟨iC,gg,iG⟩] :: Rs.blk cH [.int .i64 fa,.sl ⟨iD,gh,iH⟩] :: Rs.own ⟨iE,gj,iI⟩ (eInt .i64).z iL :: Rs.blk cO [.int .i64 kJ,.sl ⟨iE,gj,iI⟩] :: Rs.own ⟨iF,gk,iJ⟩ (eInt .i64).z iM :: R0) fun R=>ROs (eInt .i64) H R ⟨iC,gg,iG⟩ et∧ROs (eInt .i64) H R ⟨iD,gh,iH⟩ eN∧CR (eInt .i64) H R iL iK∧CR (eInt .i64) H R iM ef)→∀ {r:Int×List Int},pC eM et fa eN bV ef bW = some r→∃ v H',C cm 0 cH 0 cO 0 bV ⟨iF,gk,iJ⟩ bW H = some (v,H')∧ag.Q H0 Ri R0  r v H'
def ag.S1021 (H0:Hp) (Ri R0:List Rs)  (C:Nat→Nat→Nat→Nat→Int→Sl→Int→Hp→OA) (pC:Int→List Int→Int→List Int→Int→Option (Int×List Int)):Prop:=∀ {eO kK bT bU:Int} {iN iO iP:ON} {gl cy gm cN gn:Nat} {iQ iR iS:Cap} {eu iT eg:List Int} {iU iV:List AV},∀ {H:Hp},gl = eu.length→gm = iT.length→gn = eg.length→(Out H0 Ri H (Rs.blk cy [.int .i64 eO,.sl ⟨iN,gl,iQ⟩] :: Rs.own ⟨iO,gm,iR⟩ (eInt .i64).z iU :: Rs.blk cN [.int .i64 kK,.sl ⟨iO,gm,iR⟩] :: Rs.own ⟨iP,gn,iS⟩ (eInt .i64).z iV :: R0) fun R=>ROs (eInt .i64) H R ⟨iN,gl,iQ⟩ eu∧CR (eInt .i64) H R iU iT∧CR (eInt .i64) H R iV eg)→∀ {r:Int×List Int},pC eO eu bT eg bU = some r→∃ v H',C cy 0 cN 0 bT ⟨iP,gn,iS⟩ bU H = some (v,H')∧ag.Q H0 Ri R0  r v H'
def ag.pj1 (F:Nat)  (fi:Int) (gp:List Int):Option (Int×List Int):=(af.p F fi gp).bind fun r3=>some (r3.1,r3.2)
theorem ag.j1_P {F:Nat} {H0:Hp} {Ri R0:List Rs}   {qp fi:Int} {ml mm:ON} {kL eY kM:Nat} {mn mo:Cap} {mp gp:List Int} {mq mr:List AV} {H:Hp} (qq:kL = mp.length) (qr:kM = gp.length) (h0:Out H0 Ri H (Rs.own ⟨ml,kL,mn⟩ (eInt .i64).z mq :: Rs.blk eY [.int .i64 qp,.sl ⟨ml,kL,mn⟩] :: Rs.own ⟨mm,kM,mo⟩ (eInt .i64).z mr :: R0) fun R=>CR (eInt .i64) H R mq mp∧CR (eInt .i64) H R mr gp) {r:Int×List Int} (hp:ag.pj1 F  fi gp = some r):∃ v H',ag.j1 F (af.tw F)  eY 0 fi ⟨mm,kM,mo⟩ H = some (v,H')∧ag.Q H0 Ri R0  r v H':=by
 obtain ⟨w0,s0,rU,qs⟩:=h0
 subst qq
 subst qr
 unfold ag.pj1 at hp
 unfold ag.j1
 obtain ⟨w1,s1⟩:=w0.pick' [2,0,1] 3 rfl rfl rfl
 dsimp only [pk,pks,nth,List.drop] at w1 s1
 have f2:=W.borrow1 (eInt .i64) w1 (qs.step s1)
 obtain ⟨w2,s2⟩:=w1.right1
 obtain ⟨r3,e3,hp⟩:=bind_some' hp
 refine call_ex (af.P rfl ⟨w2,f2⟩ e3) ?_
 rintro _ H4 ⟨o1a_4,o1n_4,o1c_4,o1k_4,rfl,rfl,w4,s4,f4_0⟩
 obtain ⟨w5,s5⟩:=W.frame1 w1 w4 s4
 refine bind_ex rfl ?_
 refine bind_ex rfl ?_
 refine bind_ex rfl ?_
 refine bind_ex rfl ?_
 refine bind_ex rfl ?_
 refine st_k w5 (i:=3) rfl rfl rfl fun H6 w6 s6=>?_
 dsimp only [List.set] at w6 s6
 refine st_k w6 (i:=3) rfl rfl rfl fun H7 w7 s7=>?_
 dsimp only [List.set] at w7 s7
 refine bind_ex (ldI_of (w7.ld (i:=3) rfl rfl)) ?_
 refine bind_ex (ldSl_of (w7.ld (i:=3) rfl rfl)) ?_
 obtain ⟨w8,s8⟩:=w7.pick' [1] 4 rfl rfl rfl
 dsimp only [pk,pks,nth,List.drop] at w8 s8
 obtain rfl:=Option.some.inj hp
 exact ⟨_,_,rfl,_,_,_,_,rfl,rfl,w8,(s0.trans (s1.trans (s5.trans (s6.trans (s7.trans s8))))),((CR.flat (eInt_flat .i64) f4_0).step (s6.trans (s7.trans s8)))⟩
def ag.pl1021 (F:Nat) :Nat→Int→List Int→Int→List Int→Int→Option (Int×List Int)
 | 0,_,_,_,_,_=>none
 | k + 1,eO,eu,bT,eg,bU=>(bif (decide (bU < (eu.length:Int))) then ((ix eg (IntKind.i64.wrap ((IntKind.i64.wrap (eO - bT)) + bU))).bind fun n1=>(ix eu bU).bind fun n2=>(ix eg (IntKind.i64.wrap ((IntKind.i64.wrap (eO - bT)) + bU))).bind fun n3=>(some (eg.set n3 (IntKind.i64.wrap ((gt eg n1) + (gt eu n2))))).bind fun l4=>ag.pl1021 F k eO eu bT l4 (IntKind.i64.wrap (bU + 1))) else (ag.pj1 F bT eg))
termination_by structural n=>n
theorem ag.l1021_P {F:Nat} {H0:Hp} {Ri R0:List Rs}  :∀ k,ag.S1021 H0 Ri R0  (ag.l1021 F (af.tw F)  k) (ag.pl1021 F  k):=by
 intro k
 induction k with
 | zero=>
  intro eO kK bT bU iN iO iP gl cy gm cN gn iQ iR iS eu iT eg iU iV H ms mu mv h0 r hp
  exact nomatch (show (none:Option (Int×List Int)) = some r from hp)
 | succ k ih=>
  intro eO kK bT bU iN iO iP gl cy gm cN gn iQ iR iS eu iT eg iU iV H ms mu mv h0 r hp
  obtain ⟨w0,s0,mw,mx,iW⟩:=h0
  subst ms
  subst mu
  subst mv
  unfold ag.pl1021 at hp
  unfold ag.l1021
  refine bind_ex (ldSl_of (w0.ld (i:=0) rfl rfl)) ?_
  refine bif_ex (fun hb=>?_) (fun hb=>?_)
  ·replace hp:=bif_t hb hp
   refine bind_ex (ldI_of (w0.ld (i:=0) rfl rfl)) ?_
   obtain ⟨n1,g1,hp⟩:=bind_some' hp
   obtain ⟨p1,q1,i1,h1,j1⟩:=W.ixo (E:=(eInt .i64)) w0 (i:=3) rfl rfl iW g1
   refine bind_ex i1 ?_
   have h1:_ = [_]:=h1
   subst h1
   refine bind_ex (ldI_of (j1 0 _ rfl)) ?_
   refine bind_ex (ldSl_of (w0.ld (i:=0) rfl rfl)) ?_
   obtain ⟨n2,g2,hp⟩:=bind_some' hp
   obtain ⟨p2,q2,i2,h2,j2⟩:=ROs.ixr mw rfl g2
   refine bind_ex i2 ?_
   have h2:_ = [_]:=h2
   subst h2
   refine bind_ex (ldI_of (j2 0 _ rfl)) ?_
   obtain ⟨n3,g3,hp⟩:=bind_some' hp
   obtain ⟨p3,q3,i3,h3,j3⟩:=W.ixo (E:=(eInt .i64)) w0 (i:=3) rfl rfl iW g3
   refine bind_ex i3 ?_
   obtain ⟨l4,e4,hp⟩:=bind_some' hp
   refine sto_k (eInt .i64) w0 (i:=3) (j:=0) (p:=p3) rfl rfl iW g3 i3 e4 rfl rfl (fun _ h=>by have h:_ = [_]:=h; subst h; exact rfl) fun H5 k5 w5 s5 c5=>?_
   dsimp only [List.set] at w5 s5 c5
   exact ih rfl rfl ((st_len e4).symm) ⟨w5,(s0.trans s5),(mw.step s5),(mx.step s5),c5⟩ hp
  ·replace hp:=bif_f hb hp
   obtain ⟨w6,s6⟩:=w0.pick' [1,2,3] 4 rfl rfl rfl
   dsimp only [pk,pks,nth,List.drop] at w6 s6
   exact ag.j1_P rfl rfl ⟨w6,(s0.trans s6),(mx.step s6),(iW.step s6)⟩ hp
def ag.pj2 (F:Nat)  (iX:Int) (gq:List Int) (fj:Int) (gr:List Int):Option (Int×List Int):=ag.pl1021 F F iX gq fj gr 0
theorem ag.j2_P {F:Nat} {H0:Hp} {Ri R0:List Rs}   {iX qt fj:Int} {mz mA mB:ON} {kN hM kO hN kP:Nat} {mC mD mE:Cap} {gq mF gr:List Int} {mG mH:List AV} {H:Hp} (qu:kN = gq.length) (qv:kO = mF.length) (qw:kP = gr.length) (h0:Out H0 Ri H (Rs.blk hM [.int .i64 iX,.sl ⟨mz,kN,mC⟩] :: Rs.own ⟨mA,kO,mD⟩ (eInt .i64).z mG :: Rs.blk hN [.int .i64 qt,.sl ⟨mA,kO,mD⟩] :: Rs.own ⟨mB,kP,mE⟩ (eInt .i64).z mH :: R0) fun R=>ROs (eInt .i64) H R ⟨mz,kN,mC⟩ gq∧CR (eInt .i64) H R mG mF∧CR (eInt .i64) H R mH gr) {r:Int×List Int} (hp:ag.pj2 F  iX gq fj gr = some r):∃ v H',ag.j2 F (af.tw F)  hM 0 hN 0 fj ⟨mB,kP,mE⟩ H = some (v,H')∧ag.Q H0 Ri R0  r v H':=by
 obtain ⟨w0,s0,qx,qy,qz⟩:=h0
 subst qu
 subst qv
 subst qw
 unfold ag.pj2 at hp
 unfold ag.j2
 exact ag.l1021_P F rfl rfl rfl ⟨w0,s0,qx,qy,qz⟩ hp
def ag.pl509 (F:Nat) :Nat→Int→List Int→Int→List Int→Int→List Int→Int→Option (Int×List Int)
 | 0,_,_,_,_,_,_,_=>none
 | k + 1,eM,et,fa,eN,bV,ef,bW=>(bif (decide (bW < (et.length:Int))) then ((ix ef (IntKind.i64.wrap ((IntKind.i64.wrap (eM - bV)) + bW))).bind fun n1=>(ix et bW).bind fun n2=>(ix ef (IntKind.i64.wrap ((IntKind.i64.wrap (eM - bV)) + bW))).bind fun n3=>(some (ef.set n3 (IntKind.i64.wrap ((gt ef n1) + (gt et n2))))).bind fun l4=>ag.pl509 F k eM et fa eN bV l4 (IntKind.i64.wrap (bW + 1))) else (ag.pj2 F fa eN bV ef))
termination_by structural n=>n
theorem ag.l509_P {F:Nat} {H0:Hp} {Ri R0:List Rs}  :∀ k,ag.S509 H0 Ri R0  (ag.l509 F (af.tw F)  k) (ag.pl509 F  k):=by
 intro k
 induction k with
 | zero=>
  intro eM fa kJ bV bW iC iD iE iF gg cm gh cH gj cO gk iG iH iI iJ et eN iK ef iL iM H mI mJ mK mL h0 r hp
  exact nomatch (show (none:Option (Int×List Int)) = some r from hp)
 | succ k ih=>
  intro eM fa kJ bV bW iC iD iE iF gg cm gh cH gj cO gk iG iH iI iJ et eN iK ef iL iM H mI mJ mK mL h0 r hp
  obtain ⟨w0,s0,mM,mN,mO,iY⟩:=h0
  subst mI
  subst mJ
  subst mK
  subst mL
  unfold ag.pl509 at hp
  unfold ag.l509
  refine bind_ex (ldSl_of (w0.ld (i:=0) rfl rfl)) ?_
  refine bif_ex (fun hb=>?_) (fun hb=>?_)
  ·replace hp:=bif_t hb hp
   refine bind_ex (ldI_of (w0.ld (i:=0) rfl rfl)) ?_
   obtain ⟨n1,g1,hp⟩:=bind_some' hp
   obtain ⟨p1,q1,i1,h1,j1⟩:=W.ixo (E:=(eInt .i64)) w0 (i:=4) rfl rfl iY g1
   refine bind_ex i1 ?_
   have h1:_ = [_]:=h1
   subst h1
   refine bind_ex (ldI_of (j1 0 _ rfl)) ?_
   refine bind_ex (ldSl_of (w0.ld (i:=0) rfl rfl)) ?_
   obtain ⟨n2,g2,hp⟩:=bind_some' hp
   obtain ⟨p2,q2,i2,h2,j2⟩:=ROs.ixr mM rfl g2
   refine bind_ex i2 ?_
   have h2:_ = [_]:=h2
   subst h2
   refine bind_ex (ldI_of (j2 0 _ rfl)) ?_
   obtain ⟨n3,g3,hp⟩:=bind_some' hp
   obtain ⟨p3,q3,i3,h3,j3⟩:=W.ixo (E:=(eInt .i64)) w0 (i:=4) rfl rfl iY g3
   refine bind_ex i3 ?_
   obtain ⟨l4,e4,hp⟩:=bind_some' hp
   refine sto_k (eInt .i64) w0 (i:=4) (j:=0) (p:=p3) rfl rfl iY g3 i3 e4 rfl rfl (fun _ h=>by have h:_ = [_]:=h; subst h; exact rfl) fun H5 k5 w5 s5 c5=>?_
   dsimp only [List.set] at w5 s5 c5
   exact ih rfl rfl rfl ((st_len e4).symm) ⟨w5,(s0.trans s5),(mM.step s5),(mN.step s5),(mO.step s5),c5⟩ hp
  ·replace hp:=bif_f hb hp
   obtain ⟨w6,s6⟩:=w0.pick' [1,2,3,4] 5 rfl rfl rfl
   dsimp only [pk,pks,nth,List.drop] at w6 s6
   exact ag.j2_P rfl rfl rfl ⟨w6,(s0.trans s6),(mN.step s6),(mO.step s6),(iY.step s6)⟩ hp
def ag.p (F:Nat) (aa:Int) (az:List Int) (ac:Int) (bH:List Int):Option (Int×List Int):=(bif ((az.length:Int) == 0) then ((af.p F ac bH).bind fun r4=>some (r4.1,r4.2)) else ((bif ((bH.length:Int) == 0) then ((af.p F aa az).bind fun r9=>some (r9.1,r9.2)) else ((mkn (IntKind.i64.wrap ((if (IntKind.i64.wrap (ac + (bH.length:Int))) > (IntKind.i64.wrap (aa + (az.length:Int))) then (IntKind.i64.wrap (ac + (bH.length:Int))) else (IntKind.i64.wrap (aa + (az.length:Int)))) - (if ac < aa then ac else aa))) (0:Int)).bind fun l14=>ag.pl509 F F aa az ac bH (if ac < aa then ac else aa) l14 0))))
theorem ag.P {F:Nat} {aa ac:Int} {bz eh:ON} {bh df:Nat} {bA ei:Cap} {az bH:List Int} {H:Hp} {R0:List Rs} (cC:bh = az.length) (fb:df = bH.length) (h0:Inn H R0 fun R=>ROs (eInt .i64) H R ⟨bz,bh,bA⟩ az∧ROs (eInt .i64) H R ⟨eh,df,ei⟩ bH) {r:Int×List Int} (hp:ag.p F aa az ac bH = some r):∃ v H',ag.tw F aa ⟨bz,bh,bA⟩ ac ⟨eh,df,ei⟩ H = some (v,H')∧ag.Q H R0 R0  r v H':=by
 obtain ⟨w0,bN,ev⟩:=h0
 subst cC
 subst fb
 unfold ag.p at hp
 unfold ag.tw ag.twX
 have s0:=w0.rf
 refine new_k w0 fun H1 w1 s1=>?_
 refine new_k w1 fun H2 w2 s2=>?_
 refine new_k w2 fun H3 w3 s3=>?_
 refine bind_ex (ldSl_of (w3.ld (i:=2) rfl rfl)) ?_
 refine bif_ex (fun hb=>?_) (fun hb=>?_)
 ·replace hp:=bif_t hb hp
  refine bind_ex (ldI_of (w3.ld (i:=1) rfl rfl)) ?_
  refine bind_ex (ldSl_of (w3.ld (i:=1) rfl rfl)) ?_
  obtain ⟨r4,e4,hp⟩:=bind_some' hp
  refine call_ex (af.P rfl ⟨w3,(ev.step (s1.trans (s2.trans s3)))⟩ e4) ?_
  rintro _ H5 ⟨o1a_5,o1n_5,o1c_5,o1k_5,rfl,rfl,w5,s5,f5_0⟩
  refine bind_ex rfl ?_
  refine bind_ex rfl ?_
  refine bind_ex rfl ?_
  refine bind_ex rfl ?_
  refine bind_ex rfl ?_
  refine st_k w5 (i:=1) rfl rfl rfl fun H6 w6 s6=>?_
  dsimp only [List.set] at w6 s6
  refine st_k w6 (i:=1) rfl rfl rfl fun H7 w7 s7=>?_
  dsimp only [List.set] at w7 s7
  refine bind_ex (ldI_of (w7.ld (i:=1) rfl rfl)) ?_
  refine bind_ex (ldSl_of (w7.ld (i:=1) rfl rfl)) ?_
  obtain ⟨w8,s8⟩:=w7.pick' [0] 4 rfl rfl rfl
  dsimp only [pk,pks,nth,List.drop] at w8 s8
  obtain rfl:=Option.some.inj hp
  exact ⟨_,_,rfl,_,_,_,_,rfl,rfl,w8,(s0.trans (s1.trans (s2.trans (s3.trans (s5.trans (s6.trans (s7.trans s8))))))),(f5_0.step (s6.trans (s7.trans s8)))⟩
 ·replace hp:=bif_f hb hp
  refine bind_ex (ldSl_of (w3.ld (i:=1) rfl rfl)) ?_
  refine bif_ex (fun hb=>?_) (fun hb=>?_)
  ·replace hp:=bif_t hb hp
   refine bind_ex (ldI_of (w3.ld (i:=2) rfl rfl)) ?_
   refine bind_ex (ldSl_of (w3.ld (i:=2) rfl rfl)) ?_
   obtain ⟨r9,e9,hp⟩:=bind_some' hp
   refine call_ex (af.P rfl ⟨w3,(bN.step (s1.trans (s2.trans s3)))⟩ e9) ?_
   rintro _ H10 ⟨o1a_10,o1n_10,o1c_10,o1k_10,rfl,rfl,w10,s10,f10_0⟩
   refine bind_ex rfl ?_
   refine bind_ex rfl ?_
   refine bind_ex rfl ?_
   refine bind_ex rfl ?_
   refine bind_ex rfl ?_
   refine st_k w10 (i:=1) rfl rfl rfl fun H11 w11 s11=>?_
   dsimp only [List.set] at w11 s11
   refine st_k w11 (i:=1) rfl rfl rfl fun H12 w12 s12=>?_
   dsimp only [List.set] at w12 s12
   refine bind_ex (ldI_of (w12.ld (i:=1) rfl rfl)) ?_
   refine bind_ex (ldSl_of (w12.ld (i:=1) rfl rfl)) ?_
   obtain ⟨w13,s13⟩:=w12.pick' [0] 4 rfl rfl rfl
   dsimp only [pk,pks,nth,List.drop] at w13 s13
   obtain rfl:=Option.some.inj hp
   exact ⟨_,_,rfl,_,_,_,_,rfl,rfl,w13,(s0.trans (s1.trans (s2.trans (s3.trans (s10.trans (s11.trans (s12.trans s13))))))),(f10_0.step (s11.trans (s12.trans s13)))⟩
  ·replace hp:=bif_f hb hp
   refine bind_ex (ldI_of (w3.ld (i:=2) rfl rfl)) ?_
   refine bind_ex (ldI_of (w3.ld (i:=1) rfl rfl)) ?_
   refine bind_ex (ldI_of (w3.ld (i:=2) rfl rfl)) ?_
   refine bind_ex (ldSl_of (w3.ld (i:=2) rfl rfl)) ?_
   refine bind_ex (ldI_of (w3.ld (i:=1) rfl rfl)) ?_
   refine bind_ex (ldSl_of (w3.ld (i:=1) rfl rfl)) ?_
   obtain ⟨l14,e14,hp⟩:=bind_some' hp
   refine mk_k (eInt .i64) (0:Int) w3 rfl rfl rfl e14 fun H15 k15 w15 s15 c15=>?_
   obtain ⟨w16,s16⟩:=w15.nilS (eInt .i64).z (by decide)
   obtain ⟨w17,s17⟩:=w16.pick' [4,3,0,2,1] 5 rfl rfl rfl
   dsimp only [pk,pks,nth,List.drop] at w17 s17
   exact ag.l509_P F rfl rfl rfl rfl ⟨w17,(s0.trans (s1.trans (s2.trans (s3.trans (s15.trans (s16.trans s17)))))),(bN.step (s1.trans (s2.trans (s3.trans (s15.trans (s16.trans s17)))))),(ev.step (s1.trans (s2.trans (s3.trans (s15.trans (s16.trans s17)))))),((CR.empty:CR (eInt .i64) _ _ [] []).step s17),(c15.step (s16.trans s17))⟩ hp
def ah.Q (H0:Hp) (Ri R0:List Rs)  (r:Int×List Int) (v:AV) (H':Hp):Prop:=∃ o1a:ON,∃ o1n:Nat,∃ o1c:Cap,∃ o1k:List AV,v = (.agg [(.int .i64 r.1),(.sl ⟨o1a,o1n,o1c⟩)])∧o1n = (r.2).length∧Out H0 Ri H' (Rs.own ⟨o1a,o1n,o1c⟩ (eInt .i64).z o1k :: R0) fun R=>CR (eInt .i64) H' R o1k (r.2)
def ah.S61 (H0:Hp) (Ri R0:List Rs)  (C:Sl→Int→Nat→Nat→Nat→Nat→Int→Int→Hp→OA) (pC:List Int→Int→Int→List Int→Int→Int→Option (Int×List Int)):Prop:=∀ {iZ i_ ja:ON} {gu gv cn gw ca:Nat} {jb jc jd:Cap} {ej je eB:List Int} {bj kQ eP cz cp:Int} {jf jg:List AV},∀ {H:Hp},gu = ej.length→gv = je.length→gw = eB.length→(Out H0 Ri H (Rs.own ⟨i_,gv,jc⟩ (eInt .i64).z jf :: Rs.blk cn [.int .i64 kQ,.sl ⟨i_,gv,jc⟩] :: Rs.own ⟨ja,gw,jd⟩ (eInt .i64).z jg :: Rs.blk ca [.int .i64 eP,.sl ⟨ja,gw,jd⟩] :: R0) fun R=>ROs (eInt .i64) H R ⟨iZ,gu,jb⟩ ej∧CR (eInt .i64) H R jf je∧CR (eInt .i64) H R jg eB)→∀ {r:Int×List Int},pC ej bj eP eB cz cp = some r→∃ v H',C ⟨iZ,gu,jb⟩ bj cn 0 ca 0 cz cp H = some (v,H')∧ah.Q H0 Ri R0  r v H'
def ah.pj4 (F:Nat) (bI:List Int→Int→Int→List Int→Int→Int→Option (Int×List Int)) (gx:List Int) (fk:Int) (jh:Int) (gy:List Int) (fl:Int) (fm:Int):Option (Int×List Int):=bI gx fk jh gy fl (IntKind.i64.wrap (fm + 1))
theorem ah.j4_P {F:Nat} {H0:Hp} {Ri R0:List Rs}  {C61_:Sl→Int→Nat→Nat→Nat→Nat→Int→Int→Hp→OA} {bI:List Int→Int→Int→List Int→Int→Int→Option (Int×List Int)} (hC61:ah.S61 H0 Ri R0  C61_ bI) {mP mQ mR:ON} {kR kS hO kT hP:Nat} {mS mT mU:Cap} {gx mV gy:List Int} {fk qA jh fl fm:Int} {mW mX:List AV} {H:Hp} (qB:kR = gx.length) (qC:kS = mV.length) (qD:kT = gy.length) (h0:Out H0 Ri H (Rs.own ⟨mQ,kS,mT⟩ (eInt .i64).z mW :: Rs.blk hO [.int .i64 qA,.sl ⟨mQ,kS,mT⟩] :: Rs.own ⟨mR,kT,mU⟩ (eInt .i64).z mX :: Rs.blk hP [.int .i64 jh,.sl ⟨mR,kT,mU⟩] :: R0) fun R=>ROs (eInt .i64) H R ⟨mP,kR,mS⟩ gx∧CR (eInt .i64) H R mW mV∧CR (eInt .i64) H R mX gy) {r:Int×List Int} (hp:ah.pj4 F bI gx fk jh gy fl fm = some r):∃ v H',ah.j4 F (ag.tw F) C61_ ⟨mP,kR,mS⟩ fk hO 0 hP 0 fl fm H = some (v,H')∧ah.Q H0 Ri R0  r v H':=by
 obtain ⟨w0,s0,qE,qF,qG⟩:=h0
 subst qB
 subst qC
 subst qD
 unfold ah.pj4 at hp
 unfold ah.j4
 exact hC61 rfl rfl rfl ⟨w0,s0,qE,qF,qG⟩ hp
def ah.pj5 (F:Nat) (bI:List Int→Int→Int→List Int→Int→Int→Option (Int×List Int)) (eQ:List Int) (eI:Int) (gz:Int) (fN:List Int) (eJ:Int) (en:Int):Option (Int×List Int):=(ix eQ en).bind fun n1=>(bif (decide ((gt eQ n1) > 0)) then (ah.pj4 F bI eQ eI gz fN (IntKind.i64.wrap (eJ + 1)) en) else (ah.pj4 F bI eQ eI gz fN (IntKind.i64.wrap (eJ - 1)) en))
theorem ah.j5_P {F:Nat} {H0:Hp} {Ri R0:List Rs}  {C61_:Sl→Int→Nat→Nat→Nat→Nat→Int→Int→Hp→OA} {bI:List Int→Int→Int→List Int→Int→Int→Option (Int×List Int)} (hC61:ah.S61 H0 Ri R0  C61_ bI) {mY mZ m_:ON} {kU kV fS kW fT:Nat} {na nb nc:Cap} {eQ nd fN:List Int} {eI qH gz eJ en:Int} {ne ng:List AV} {H:Hp} (qI:kU = eQ.length) (qJ:kV = nd.length) (qK:kW = fN.length) (h0:Out H0 Ri H (Rs.own ⟨mZ,kV,nb⟩ (eInt .i64).z ne :: Rs.blk fS [.int .i64 qH,.sl ⟨mZ,kV,nb⟩] :: Rs.own ⟨m_,kW,nc⟩ (eInt .i64).z ng :: Rs.blk fT [.int .i64 gz,.sl ⟨m_,kW,nc⟩] :: R0) fun R=>ROs (eInt .i64) H R ⟨mY,kU,na⟩ eQ∧CR (eInt .i64) H R ne nd∧CR (eInt .i64) H R ng fN) {r:Int×List Int} (hp:ah.pj5 F bI eQ eI gz fN eJ en = some r):∃ v H',ah.j5 F (ag.tw F) C61_ ⟨mY,kU,na⟩ eI fS 0 fT 0 eJ en H = some (v,H')∧ah.Q H0 Ri R0  r v H':=by
 obtain ⟨w0,s0,kX,nh,ni⟩:=h0
 subst qI
 subst qJ
 subst qK
 unfold ah.pj5 at hp
 unfold ah.j5
 obtain ⟨n1,g1,hp⟩:=bind_some' hp
 obtain ⟨p1,q1,i1,h1,j1⟩:=ROs.ixr kX rfl g1
 refine bind_ex i1 ?_
 have h1:_ = [_]:=h1
 subst h1
 refine bind_ex (ldI_of (j1 0 _ rfl)) ?_
 refine bif_ex (fun hb=>?_) (fun hb=>?_)
 ·replace hp:=bif_t hb hp
  exact ah.j4_P (@hC61) rfl rfl rfl ⟨w0,s0,kX,nh,ni⟩ hp
 ·replace hp:=bif_f hb hp
  exact ah.j4_P (@hC61) rfl rfl rfl ⟨w0,s0,kX,nh,ni⟩ hp
def ah.pj6 (F:Nat) (bI:List Int→Int→Int→List Int→Int→Int→Option (Int×List Int)) (eR:List Int) (eo:Int) (gA:Int) (fO:List Int) (ep:Int) (er:Int):Option (Int×List Int):=(ix eR er).bind fun n1=>(bif ((gt eR n1) == (IntKind.i64.wrap (0 - eo))) then ((ag.p F gA fO (IntKind.i64.wrap (ep - 1)) ([(-1)]:List Int)).bind fun r6=>ah.pj5 F bI eR eo r6.1 r6.2 ep er) else (ah.pj5 F bI eR eo gA fO ep er))
theorem ah.j6_P {F:Nat} {H0:Hp} {Ri R0:List Rs}  {C61_:Sl→Int→Nat→Nat→Nat→Nat→Int→Int→Hp→OA} {bI:List Int→Int→Int→List Int→Int→Int→Option (Int×List Int)} (hC61:ah.S61 H0 Ri R0  C61_ bI) {nj nk nl:ON} {kY kZ fU k_ ey:Nat} {nm nn np:Cap} {eR nq fO:List Int} {eo qL gA ep er:Int} {nr ns:List AV} {H:Hp} (qM:kY = eR.length) (qN:kZ = nq.length) (qO:k_ = fO.length) (h0:Out H0 Ri H (Rs.own ⟨nk,kZ,nn⟩ (eInt .i64).z nr :: Rs.blk fU [.int .i64 qL,.sl ⟨nk,kZ,nn⟩] :: Rs.own ⟨nl,k_,np⟩ (eInt .i64).z ns :: Rs.blk ey [.int .i64 gA,.sl ⟨nl,k_,np⟩] :: R0) fun R=>ROs (eInt .i64) H R ⟨nj,kY,nm⟩ eR∧CR (eInt .i64) H R nr nq∧CR (eInt .i64) H R ns fO) {r:Int×List Int} (hp:ah.pj6 F bI eR eo gA fO ep er = some r):∃ v H',ah.j6 F (ag.tw F) C61_ ⟨nj,kY,nm⟩ eo fU 0 ey 0 ep er H = some (v,H')∧ah.Q H0 Ri R0  r v H':=by
 obtain ⟨w0,s0,la,nt,nu⟩:=h0
 subst qM
 subst qN
 subst qO
 unfold ah.pj6 at hp
 unfold ah.j6
 obtain ⟨n1,g1,hp⟩:=bind_some' hp
 obtain ⟨p1,q1,i1,h1,j1⟩:=ROs.ixr la rfl g1
 refine bind_ex i1 ?_
 have h1:_ = [_]:=h1
 subst h1
 refine bind_ex (ldI_of (j1 0 _ rfl)) ?_
 refine bif_ex (fun hb=>?_) (fun hb=>?_)
 ·replace hp:=bif_t hb hp
  refine bind_ex (ldI_of (w0.ld (i:=3) rfl rfl)) ?_
  refine bind_ex (ldSl_of (w0.ld (i:=3) rfl rfl)) ?_
  refine newS_k (eInt .i64) w0 (n:=1) (l:=([(-1)]:List Int)) rfl (CR.cons1 rfl CR.empty) rfl fun H2 w2 s2 c2=>?_
  obtain ⟨w3,s3⟩:=w2.pick' [3,0,1,2,4] 5 rfl rfl rfl
  dsimp only [pk,pks,nth,List.drop] at w3 s3
  have f4:=W.borrow1 (eInt .i64) w3 (nu.step (s2.trans s3))
  obtain ⟨w4,s4⟩:=w3.right1
  have f5:=W.borrow1 (eInt .i64) w4 ((c2.step s3).step s4)
  obtain ⟨w5,s5⟩:=w4.right1
  obtain ⟨r6,e6,hp⟩:=bind_some' hp
  refine call_ex (ag.P rfl rfl ⟨w5,(f4.step s5),f5⟩ e6) ?_
  rintro _ H7 ⟨o1a_7,o1n_7,o1c_7,o1k_7,rfl,rfl,w7,s7,f7_0⟩
  obtain ⟨w8,s8⟩:=W.frame1 w4 w7 s7
  obtain ⟨w9,s9⟩:=W.frame1 w3 w8 s8
  refine bind_ex rfl ?_
  refine bind_ex rfl ?_
  refine bind_ex rfl ?_
  refine bind_ex rfl ?_
  refine bind_ex rfl ?_
  refine st_k w9 (i:=5) rfl rfl rfl fun H10 w10 s10=>?_
  dsimp only [List.set] at w10 s10
  refine st_k w10 (i:=5) rfl rfl rfl fun H11 w11 s11=>?_
  dsimp only [List.set] at w11 s11
  obtain ⟨w12,s12⟩:=w11.pick' [3,4,2,5] 6 rfl rfl rfl
  dsimp only [pk,pks,nth,List.drop] at w12 s12
  exact ah.j5_P (@hC61) rfl rfl rfl ⟨w12,(s0.trans (s2.trans (s3.trans (s9.trans (s10.trans (s11.trans s12)))))),(la.step (s2.trans (s3.trans (s9.trans (s10.trans (s11.trans s12)))))),(nt.step (s2.trans (s3.trans (s9.trans (s10.trans (s11.trans s12)))))),((CR.flat (eInt_flat .i64) f7_0).step (s10.trans (s11.trans s12)))⟩ hp
 ·replace hp:=bif_f hb hp
  exact ah.j5_P (@hC61) rfl rfl rfl ⟨w0,s0,la,nt,nu⟩ hp
def ah.pl61 (F:Nat) :Nat→List Int→Int→Int→List Int→Int→Int→Option (Int×List Int)
 | 0,_,_,_,_,_,_=>none
 | k + 1,ej,bj,eP,eB,cz,cp=>(bif (decide (cp < (ej.length:Int))) then ((ix ej cp).bind fun n1=>(bif ((gt ej n1) == bj) then ((ag.p F eP eB cz ([1]:List Int)).bind fun r6=>ah.pj6 F (ah.pl61 F k) ej bj r6.1 r6.2 cz cp) else (ah.pj6 F (ah.pl61 F k) ej bj eP eB cz cp))) else (some (eP,eB)))
termination_by structural n=>n
theorem ah.l61_P {F:Nat} {H0:Hp} {Ri R0:List Rs}  :∀ k,ah.S61 H0 Ri R0  (ah.l61 F (ag.tw F)  k) (ah.pl61 F  k):=by
 intro k
 induction k with
 | zero=>
  intro iZ i_ ja gu gv cn gw ca jb jc jd ej je eB bj kQ eP cz cp jf jg H nv nw nx h0 r hp
  exact nomatch (show (none:Option (Int×List Int)) = some r from hp)
 | succ k ih=>
  intro iZ i_ ja gu gv cn gw ca jb jc jd ej je eB bj kQ eP cz cp jf jg H nv nw nx h0 r hp
  obtain ⟨w0,s0,lb,ny,lc⟩:=h0
  subst nv
  subst nw
  subst nx
  unfold ah.pl61 at hp
  unfold ah.l61
  refine bif_ex (fun hb=>?_) (fun hb=>?_)
  ·replace hp:=bif_t hb hp
   obtain ⟨n1,g1,hp⟩:=bind_some' hp
   obtain ⟨p1,q1,i1,h1,j1⟩:=ROs.ixr lb rfl g1
   refine bind_ex i1 ?_
   have h1:_ = [_]:=h1
   subst h1
   refine bind_ex (ldI_of (j1 0 _ rfl)) ?_
   refine bif_ex (fun hb=>?_) (fun hb=>?_)
   ·replace hp:=bif_t hb hp
    refine bind_ex (ldI_of (w0.ld (i:=3) rfl rfl)) ?_
    refine bind_ex (ldSl_of (w0.ld (i:=3) rfl rfl)) ?_
    refine newS_k (eInt .i64) w0 (n:=1) (l:=([1]:List Int)) rfl (CR.cons1 rfl CR.empty) rfl fun H2 w2 s2 c2=>?_
    obtain ⟨w3,s3⟩:=w2.pick' [3,0,1,2,4] 5 rfl rfl rfl
    dsimp only [pk,pks,nth,List.drop] at w3 s3
    have f4:=W.borrow1 (eInt .i64) w3 (lc.step (s2.trans s3))
    obtain ⟨w4,s4⟩:=w3.right1
    have f5:=W.borrow1 (eInt .i64) w4 ((c2.step s3).step s4)
    obtain ⟨w5,s5⟩:=w4.right1
    obtain ⟨r6,e6,hp⟩:=bind_some' hp
    refine call_ex (ag.P rfl rfl ⟨w5,(f4.step s5),f5⟩ e6) ?_
    rintro _ H7 ⟨o1a_7,o1n_7,o1c_7,o1k_7,rfl,rfl,w7,s7,f7_0⟩
    obtain ⟨w8,s8⟩:=W.frame1 w4 w7 s7
    obtain ⟨w9,s9⟩:=W.frame1 w3 w8 s8
    refine bind_ex rfl ?_
    refine bind_ex rfl ?_
    refine bind_ex rfl ?_
    refine bind_ex rfl ?_
    refine bind_ex rfl ?_
    refine st_k w9 (i:=5) rfl rfl rfl fun H10 w10 s10=>?_
    dsimp only [List.set] at w10 s10
    refine st_k w10 (i:=5) rfl rfl rfl fun H11 w11 s11=>?_
    dsimp only [List.set] at w11 s11
    obtain ⟨w12,s12⟩:=w11.pick' [3,4,2,5] 6 rfl rfl rfl
    dsimp only [pk,pks,nth,List.drop] at w12 s12
    exact ah.j6_P (@ih) rfl rfl rfl ⟨w12,(s0.trans (s2.trans (s3.trans (s9.trans (s10.trans (s11.trans s12)))))),(lb.step (s2.trans (s3.trans (s9.trans (s10.trans (s11.trans s12)))))),(ny.step (s2.trans (s3.trans (s9.trans (s10.trans (s11.trans s12)))))),((CR.flat (eInt_flat .i64) f7_0).step (s10.trans (s11.trans s12)))⟩ hp
   ·replace hp:=bif_f hb hp
    exact ah.j6_P (@ih) rfl rfl rfl ⟨w0,s0,lb,ny,lc⟩ hp
  ·replace hp:=bif_f hb hp
   refine bind_ex (ldI_of (w0.ld (i:=3) rfl rfl)) ?_
   refine bind_ex (ldSl_of (w0.ld (i:=3) rfl rfl)) ?_
   refine st_k w0 (i:=1) rfl rfl rfl fun H13 w13 s13=>?_
   dsimp only [List.set] at w13 s13
   refine st_k w13 (i:=1) rfl rfl rfl fun H14 w14 s14=>?_
   dsimp only [List.set] at w14 s14
   refine bind_ex (ldI_of (w14.ld (i:=1) rfl rfl)) ?_
   refine bind_ex (ldSl_of (w14.ld (i:=1) rfl rfl)) ?_
   obtain ⟨w15,s15⟩:=w14.pick' [2] 4 rfl rfl rfl
   dsimp only [pk,pks,nth,List.drop] at w15 s15
   obtain rfl:=Option.some.inj hp
   exact ⟨_,_,rfl,_,_,_,_,rfl,rfl,w15,(s0.trans (s13.trans (s14.trans s15))),(lc.step (s13.trans (s14.trans s15)))⟩
def ah.p (F:Nat) (ak:List Int) (ab:Int):Option (Int×List Int):=ah.pl61 F F ak ab 0 ([]:List Int) 0 0
theorem ah.P {F:Nat} {aK:ON} {ay:Nat} {aL:Cap} {ak:List Int} {ab:Int} {H:Hp} {R0:List Rs} (br:ay = ak.length) (h0:Inn H R0 fun R=>ROs (eInt .i64) H R ⟨aK,ay,aL⟩ ak) {r:Int×List Int} (hp:ah.p F ak ab = some r):∃ v H',ah.tw F ⟨aK,ay,aL⟩ ab H = some (v,H')∧ah.Q H R0 R0  r v H':=by
 obtain ⟨w0,bl⟩:=h0
 subst br
 unfold ah.p at hp
 unfold ah.tw ah.twX
 have s0:=w0.rf
 refine new_k w0 fun H1 w1 s1=>?_
 refine new_k w1 fun H2 w2 s2=>?_
 refine st_k w2 (i:=0) rfl rfl rfl fun H3 w3 s3=>?_
 dsimp only [List.set] at w3 s3
 refine st_k w3 (i:=0) rfl rfl rfl fun H4 w4 s4=>?_
 dsimp only [List.set] at w4 s4
 obtain ⟨w5,s5⟩:=w4.nilS (eInt .i64).z (by decide)
 obtain ⟨w6,s6⟩:=w5.nilS (eInt .i64).z (by decide)
 obtain ⟨w7,s7⟩:=w6.pick' [1,3,0,2] 4 rfl rfl rfl
 dsimp only [pk,pks,nth,List.drop] at w7 s7
 exact ah.l61_P F rfl rfl rfl ⟨w7,(s0.trans (s1.trans (s2.trans (s3.trans (s4.trans (s5.trans (s6.trans s7))))))),(bl.step (s1.trans (s2.trans (s3.trans (s4.trans (s5.trans (s6.trans s7))))))),((CR.empty:CR (eInt .i64) _ _ [] []).step (s6.trans s7)),((CR.empty:CR (eInt .i64) _ _ [] []).step s7)⟩ hp
def aR.Q (H0:Hp) (Ri R0:List Rs)  (r:Int×List Int×Int) (v:AV) (H':Hp):Prop:=∃ o1a:ON,∃ o1n:Nat,∃ o1c:Cap,∃ o1k:List AV,v = (.tup [(.agg [(.int .i64 r.1),(.sl ⟨o1a,o1n,o1c⟩)]),(.int .i64 r.2.2)])∧o1n = (r.2.1).length∧Out H0 Ri H' (Rs.own ⟨o1a,o1n,o1c⟩ (eInt .i64).z o1k :: R0) fun R=>CR (eInt .i64) H' R o1k (r.2.1)
def aR.p (F:Nat) (ak:List Int) (ab:Int):Option (Int×List Int×Int):=(ao.p F ak).bind fun r2=>(bif (!r2) then (some (0,([]:List Int),1)) else ((aB.p F ab 1 24).bind fun r8=>(bif (!r8) then (some (0,([]:List Int),2)) else ((ah.p F ak ab).bind fun r14=>some (r14.1,r14.2,0)))))
theorem aR.P {F:Nat} {aK:ON} {ay:Nat} {aL:Cap} {ak:List Int} {ab:Int} {H:Hp} {R0:List Rs} (br:ay = ak.length) (h0:Inn H R0 fun R=>ROs (eInt .i64) H R ⟨aK,ay,aL⟩ ak) {r:Int×List Int×Int} (hp:aR.p F ak ab = some r):∃ v H',aR.tw F ⟨aK,ay,aL⟩ ab H = some (v,H')∧aR.Q H R0 R0  r v H':=by
 obtain ⟨w0,bl⟩:=h0
 subst br
 unfold aR.p at hp
 unfold aR.tw aR.twX
 have s0:=w0.rf
 refine new_k w0 fun H1 w1 s1=>?_
 obtain ⟨r2,e2,hp⟩:=bind_some' hp
 refine call_ex (ao.P rfl ⟨w1,(bl.step s1)⟩ e2) ?_
 rintro _ H3 ⟨rfl,w3,s3,_⟩
 refine bind_ex rfl ?_
 refine bif_ex (fun hb=>?_) (fun hb=>?_)
 ·replace hp:=bif_t hb hp
  refine st_k w3 (i:=0) rfl rfl rfl fun H4 w4 s4=>?_
  dsimp only [List.set] at w4 s4
  refine st_k w4 (i:=0) rfl rfl rfl fun H5 w5 s5=>?_
  dsimp only [List.set] at w5 s5
  refine bind_ex (ldI_of (w5.ld (i:=0) rfl rfl)) ?_
  refine bind_ex (ldSl_of (w5.ld (i:=0) rfl rfl)) ?_
  obtain ⟨w6,s6⟩:=w5.nilS (eInt .i64).z (by decide)
  obtain ⟨w7,s7⟩:=w6.pick' [0] 2 rfl rfl rfl
  dsimp only [pk,pks,nth,List.drop] at w7 s7
  obtain rfl:=Option.some.inj hp
  exact ⟨_,_,rfl,_,_,_,_,rfl,rfl,w7,(s0.trans (s1.trans (s3.trans (s4.trans (s5.trans (s6.trans s7)))))),((CR.empty:CR (eInt .i64) _ _ [] []).step s7)⟩
 ·replace hp:=bif_f hb hp
  obtain ⟨r8,e8,hp⟩:=bind_some' hp
  refine call_ex (aB.P ⟨w3,trivial⟩ e8) ?_
  rintro _ H9 ⟨rfl,w9,s9,_⟩
  refine bind_ex rfl ?_
  refine bif_ex (fun hb=>?_) (fun hb=>?_)
  ·replace hp:=bif_t hb hp
   refine st_k w9 (i:=0) rfl rfl rfl fun H10 w10 s10=>?_
   dsimp only [List.set] at w10 s10
   refine st_k w10 (i:=0) rfl rfl rfl fun H11 w11 s11=>?_
   dsimp only [List.set] at w11 s11
   refine bind_ex (ldI_of (w11.ld (i:=0) rfl rfl)) ?_
   refine bind_ex (ldSl_of (w11.ld (i:=0) rfl rfl)) ?_
   obtain ⟨w12,s12⟩:=w11.nilS (eInt .i64).z (by decide)
   obtain ⟨w13,s13⟩:=w12.pick' [0] 2 rfl rfl rfl
   dsimp only [pk,pks,nth,List.drop] at w13 s13
   obtain rfl:=Option.some.inj hp
   exact ⟨_,_,rfl,_,_,_,_,rfl,rfl,w13,(s0.trans (s1.trans (s3.trans (s9.trans (s10.trans (s11.trans (s12.trans s13))))))),((CR.empty:CR (eInt .i64) _ _ [] []).step s13)⟩
  ·replace hp:=bif_f hb hp
   obtain ⟨r14,e14,hp⟩:=bind_some' hp
   refine call_ex (ah.P rfl ⟨w9,(bl.step (s1.trans (s3.trans s9)))⟩ e14) ?_
   rintro _ H15 ⟨o1a_15,o1n_15,o1c_15,o1k_15,rfl,rfl,w15,s15,f15_0⟩
   refine bind_ex rfl ?_
   refine bind_ex rfl ?_
   refine bind_ex rfl ?_
   refine bind_ex rfl ?_
   refine bind_ex rfl ?_
   refine st_k w15 (i:=1) rfl rfl rfl fun H16 w16 s16=>?_
   dsimp only [List.set] at w16 s16
   refine st_k w16 (i:=1) rfl rfl rfl fun H17 w17 s17=>?_
   dsimp only [List.set] at w17 s17
   refine bind_ex (ldI_of (w17.ld (i:=1) rfl rfl)) ?_
   refine bind_ex (ldSl_of (w17.ld (i:=1) rfl rfl)) ?_
   obtain ⟨w18,s18⟩:=w17.pick' [0] 2 rfl rfl rfl
   dsimp only [pk,pks,nth,List.drop] at w18 s18
   obtain rfl:=Option.some.inj hp
   exact ⟨_,_,rfl,_,_,_,_,rfl,rfl,w18,(s0.trans (s1.trans (s3.trans (s9.trans (s15.trans (s16.trans (s17.trans s18))))))),(f15_0.step (s16.trans (s17.trans s18)))⟩
def aZ.Q (H0:Hp) (Ri R0:List Rs)  (r:Int) (v:AV) (H':Hp):Prop:=v = (.int .i64 r)∧Out H0 Ri H' (R0) fun R=>True
def aZ.p (F:Nat) (aa:Int):Option (Int):=(bif (decide (aa < 0)) then (some (IntKind.i64.wrap (0 - aa))) else (some aa))
theorem aZ.P {F:Nat} {aa:Int} {H:Hp} {R0:List Rs}  (h0:Inn H R0 fun R=>True) {r:Int} (hp:aZ.p F aa = some r):∃ v H',aZ.tw F aa H = some (v,H')∧aZ.Q H R0 R0  r v H':=by
 obtain ⟨w0,_⟩:=h0
 unfold aZ.p at hp
 unfold aZ.tw aZ.twX
 have s0:=w0.rf
 refine bif_ex (fun hb=>?_) (fun hb=>?_)
 ·replace hp:=bif_t hb hp
  obtain rfl:=Option.some.inj hp
  exact ⟨_,_,rfl,rfl,w0,s0,trivial⟩
 ·replace hp:=bif_f hb hp
  obtain rfl:=Option.some.inj hp
  exact ⟨_,_,rfl,rfl,w0,s0,trivial⟩
def aO.Q (H0:Hp) (Ri R0:List Rs) (bO:Int) (ab:Nat) (r:Bool) (v:AV) (H':Hp):Prop:=v = (.bool r)∧Out H0 Ri H' (Rs.blk ab [.int .i64 bO] :: R0) fun R=>True
def aO.p (F:Nat) (aa:Int) (bO:Int):Option (Bool):=(bif (aa == 0) then (some true) else ((aZ.p F aa).bind fun r1=>(bif (decide (r1 > bO)) then (some true) else (some (decide (aa < (IntKind.i64.wrap (0 - bO))))))))
theorem aO.P {F:Nat} {aa bO:Int} {ab:Nat} {H:Hp} {R0:List Rs}  (h0:Inn H (Rs.blk ab [.int .i64 bO] :: R0) fun R=>True) {r:Bool} (hp:aO.p F aa bO = some r):∃ v H',aO.tw F aa ab 0 H = some (v,H')∧aO.Q H (Rs.blk ab [.int .i64 bO] :: R0) R0 bO ab r v H':=by
 obtain ⟨w0,_⟩:=h0
 unfold aO.p at hp
 unfold aO.tw aO.twX
 have s0:=w0.rf
 refine bif_ex (fun hb=>?_) (fun hb=>?_)
 ·replace hp:=bif_t hb hp
  obtain rfl:=Option.some.inj hp
  exact ⟨_,_,rfl,rfl,w0,s0,trivial⟩
 ·replace hp:=bif_f hb hp
  obtain ⟨r1,e1,hp⟩:=bind_some' hp
  refine call_ex (aZ.P ⟨w0,trivial⟩ e1) ?_
  rintro _ H2 ⟨rfl,w2,s2,_⟩
  refine bind_ex rfl ?_
  refine ifs_ex (W.cons_of (Rn:=[]) w0 w2 s2) ?_
  refine bind_ex (ldI_of (w2.ld (i:=0) rfl rfl)) ?_
  refine bif_ex (fun hb=>?_) (fun hb=>?_)
  ·replace hp:=bif_t hb hp
   obtain rfl:=Option.some.inj hp
   exact ⟨_,_,rfl,rfl,w2,(s0.trans s2),trivial⟩
  ·replace hp:=bif_f hb hp
   refine bind_ex (ldI_of (w2.ld (i:=0) rfl rfl)) ?_
   obtain rfl:=Option.some.inj hp
   exact ⟨_,_,rfl,rfl,w2,(s0.trans s2),trivial⟩
def av.Q (H0:Hp) (Ri R0:List Rs) (bO:Int) (ab:Nat) (r:Int) (v:AV) (H':Hp):Prop:=v = (.int .i64 r)∧Out H0 Ri H' (Rs.blk ab [.int .i64 bO] :: R0) fun R=>True
def av.S13 (H0:Hp) (Ri R0:List Rs) (eS:Int) (gB:Nat) (C:Sl→Nat→Nat→Int→Int→Hp→OA) (pC:List Int→Int→Int→Int→Option (Int)):Prop:=∀ {ji:ON} {gC:Nat} {jj:Cap} {eC:List Int} {cI cr:Int},∀ {H:Hp},gC = eC.length→(Out H0 Ri H (Rs.blk gB [.int .i64 eS] :: R0) fun R=>ROs (eInt .i64) H R ⟨ji,gC,jj⟩ eC)→∀ {r:Int},pC eC eS cI cr = some r→∃ v H',C ⟨ji,gC,jj⟩ gB 0 cI cr H = some (v,H')∧av.Q H0 Ri R0 eS gB r v H'
def av.pl13 (F:Nat) :Nat→List Int→Int→Int→Int→Option (Int)
 | 0,_,_,_,_=>none
 | k + 1,eC,eS,cI,cr=>(bif (decide (cr < cI)) then ((ix eC cr).bind fun n1=>(aO.p F (gt eC n1) eS).bind fun r2=>(bif r2 then (some cr) else (av.pl13 F k eC eS cI (IntKind.i64.wrap (cr + 1))))) else (some (-1)))
termination_by structural n=>n
theorem av.l13_P {F:Nat} {H0:Hp} {Ri R0:List Rs} {eS:Int} {gB:Nat} :∀ k,av.S13 H0 Ri R0 eS gB (av.l13 F (aO.tw F)  k) (av.pl13 F  k):=by
 intro k
 induction k with
 | zero=>
  intro ji gC jj eC cI cr H nz h0 r hp
  exact nomatch (show (none:Option (Int)) = some r from hp)
 | succ k ih=>
  intro ji gC jj eC cI cr H nz h0 r hp
  obtain ⟨w0,s0,nA⟩:=h0
  subst nz
  unfold av.pl13 at hp
  unfold av.l13
  refine bif_ex (fun hb=>?_) (fun hb=>?_)
  ·replace hp:=bif_t hb hp
   obtain ⟨n1,g1,hp⟩:=bind_some' hp
   obtain ⟨p1,q1,i1,h1,j1⟩:=ROs.ixr nA rfl g1
   refine bind_ex i1 ?_
   have h1:_ = [_]:=h1
   subst h1
   refine bind_ex (ldI_of (j1 0 _ rfl)) ?_
   obtain ⟨r2,e2,hp⟩:=bind_some' hp
   refine call_ex (aO.P ⟨w0,trivial⟩ e2) ?_
   rintro _ H3 ⟨rfl,w3,s3,_⟩
   refine bind_ex rfl ?_
   refine bif_ex (fun hb=>?_) (fun hb=>?_)
   ·replace hp:=bif_t hb hp
    obtain rfl:=Option.some.inj hp
    exact ⟨_,_,rfl,rfl,w3,(s0.trans s3),trivial⟩
   ·replace hp:=bif_f hb hp
    exact ih rfl ⟨w3,(s0.trans s3),(nA.step s3)⟩ hp
  ·replace hp:=bif_f hb hp
   obtain rfl:=Option.some.inj hp
   exact ⟨_,_,rfl,rfl,w0,s0,trivial⟩
def av.p (F:Nat) (ak:List Int) (bO:Int):Option (Int):=av.pl13 F F ak bO (ak.length:Int) 0
theorem av.P {F:Nat} {aK:ON} {ay ab:Nat} {aL:Cap} {ak:List Int} {bO:Int} {H:Hp} {R0:List Rs} (br:ay = ak.length) (h0:Inn H (Rs.blk ab [.int .i64 bO] :: R0) fun R=>ROs (eInt .i64) H R ⟨aK,ay,aL⟩ ak) {r:Int} (hp:av.p F ak bO = some r):∃ v H',av.tw F ⟨aK,ay,aL⟩ ab 0 H = some (v,H')∧av.Q H (Rs.blk ab [.int .i64 bO] :: R0) R0 bO ab r v H':=by
 obtain ⟨w0,bl⟩:=h0
 subst br
 unfold av.p at hp
 unfold av.tw av.twX
 have s0:=w0.rf
 exact av.l13_P F rfl ⟨w0,s0,bl⟩ hp
def aU.Q (H0:Hp) (Ri R0:List Rs) (bO:Int) (ab:Nat) (r:Bool) (v:AV) (H':Hp):Prop:=v = (.bool r)∧Out H0 Ri H' (Rs.blk ab [.int .i64 bO] :: R0) fun R=>True
def aU.p (F:Nat) (ak:List Int) (bO:Int):Option (Bool):=(av.p F ak bO).bind fun r1=>some (decide (r1 ≥ 0))
theorem aU.P {F:Nat} {aK:ON} {ay ab:Nat} {aL:Cap} {ak:List Int} {bO:Int} {H:Hp} {R0:List Rs} (br:ay = ak.length) (h0:Inn H (Rs.blk ab [.int .i64 bO] :: R0) fun R=>ROs (eInt .i64) H R ⟨aK,ay,aL⟩ ak) {r:Bool} (hp:aU.p F ak bO = some r):∃ v H',aU.tw F ⟨aK,ay,aL⟩ ab 0 H = some (v,H')∧aU.Q H (Rs.blk ab [.int .i64 bO] :: R0) R0 bO ab r v H':=by
 obtain ⟨w0,bl⟩:=h0
 subst br
 unfold aU.p at hp
 unfold aU.tw aU.twX
 have s0:=w0.rf
 obtain ⟨r1,e1,hp⟩:=bind_some' hp
 refine call_ex (av.P rfl ⟨w0,bl⟩ e1) ?_
 rintro _ H2 ⟨rfl,w2,s2,_⟩
 refine bind_ex rfl ?_
 obtain rfl:=Option.some.inj hp
 exact ⟨_,_,rfl,rfl,w2,(s0.trans s2),trivial⟩
def aV.Q (H0:Hp) (Ri R0:List Rs)  (r:Bool) (v:AV) (H':Hp):Prop:=v = (.bool r)∧Out H0 Ri H' (R0) fun R=>True
def aV.p (F:Nat) (ak:List Int) (ab:Int):Option (Bool):=(bif (decide ((ak.length:Int) ≤ 120)) then ((aU.p F ak ab).bind fun r2=>some (!r2)) else (some false))
theorem aV.P {F:Nat} {aK:ON} {ay:Nat} {aL:Cap} {ak:List Int} {ab:Int} {H:Hp} {R0:List Rs} (br:ay = ak.length) (h0:Inn H R0 fun R=>ROs (eInt .i64) H R ⟨aK,ay,aL⟩ ak) {r:Bool} (hp:aV.p F ak ab = some r):∃ v H',aV.tw F ⟨aK,ay,aL⟩ ab H = some (v,H')∧aV.Q H R0 R0  r v H':=by
 obtain ⟨w0,bl⟩:=h0
 subst br
 unfold aV.p at hp
 unfold aV.tw aV.twX
 have s0:=w0.rf
 refine new_k w0 fun H1 w1 s1=>?_
 refine bif_ex (fun hb=>?_) (fun hb=>?_)
 ·replace hp:=bif_t hb hp
  obtain ⟨r2,e2,hp⟩:=bind_some' hp
  refine call_ex (aU.P rfl ⟨w1,(bl.step s1)⟩ e2) ?_
  rintro _ H3 ⟨rfl,w3,s3,_⟩
  refine bind_ex rfl ?_
  obtain ⟨w4,s4⟩:=w3.pick' [] 1 rfl rfl rfl
  dsimp only [pk,pks,nth,List.drop] at w4 s4
  obtain rfl:=Option.some.inj hp
  exact ⟨_,_,rfl,rfl,w4,(s0.trans (s1.trans (s3.trans s4))),trivial⟩
 ·replace hp:=bif_f hb hp
  obtain ⟨w5,s5⟩:=w1.pick' [] 1 rfl rfl rfl
  dsimp only [pk,pks,nth,List.drop] at w5 s5
  obtain rfl:=Option.some.inj hp
  exact ⟨_,_,rfl,rfl,w5,(s0.trans (s1.trans s5)),trivial⟩
def aS.Q (H0:Hp) (Ri R0:List Rs)  (r:Bool) (v:AV) (H':Hp):Prop:=v = (.bool r)∧Out H0 Ri H' (R0) fun R=>True
def aS.p (F:Nat) (ak:List Int):Option (Bool):=(aV.p F ak 24).bind fun r1=>some r1
theorem aS.P {F:Nat} {aK:ON} {ay:Nat} {aL:Cap} {ak:List Int} {H:Hp} {R0:List Rs} (br:ay = ak.length) (h0:Inn H R0 fun R=>ROs (eInt .i64) H R ⟨aK,ay,aL⟩ ak) {r:Bool} (hp:aS.p F ak = some r):∃ v H',aS.tw F ⟨aK,ay,aL⟩ H = some (v,H')∧aS.Q H R0 R0  r v H':=by
 obtain ⟨w0,bl⟩:=h0
 subst br
 unfold aS.p at hp
 unfold aS.tw aS.twX
 have s0:=w0.rf
 obtain ⟨r1,e1,hp⟩:=bind_some' hp
 refine call_ex (aV.P rfl ⟨w0,bl⟩ e1) ?_
 rintro _ H2 ⟨rfl,w2,s2,_⟩
 refine bind_ex rfl ?_
 obtain rfl:=Option.some.inj hp
 exact ⟨_,_,rfl,rfl,w2,(s0.trans s2),trivial⟩
def aD.Q (H0:Hp) (Ri R0:List Rs)  (r:Bool) (v:AV) (H':Hp):Prop:=v = (.bool r)∧Out H0 Ri H' (R0) fun R=>True
def aD.p (F:Nat) (aa:Int) (ab:Int) (bB:Int):Option (Bool):=(bif (decide (ab ≤ aa)) then (some (decide (aa ≤ bB))) else (some false))
theorem aD.P {F:Nat} {aa ab bB:Int} {H:Hp} {R0:List Rs}  (h0:Inn H R0 fun R=>True) {r:Bool} (hp:aD.p F aa ab bB = some r):∃ v H',aD.tw F aa ab bB H = some (v,H')∧aD.Q H R0 R0  r v H':=by
 obtain ⟨w0,_⟩:=h0
 unfold aD.p at hp
 unfold aD.tw aD.twX
 have s0:=w0.rf
 refine bif_ex (fun hb=>?_) (fun hb=>?_)
 ·replace hp:=bif_t hb hp
  obtain rfl:=Option.some.inj hp
  exact ⟨_,_,rfl,rfl,w0,s0,trivial⟩
 ·replace hp:=bif_f hb hp
  obtain rfl:=Option.some.inj hp
  exact ⟨_,_,rfl,rfl,w0,s0,trivial⟩
def aM.Q (H0:Hp) (Ri R0:List Rs)  (r:List Int) (v:AV) (H':Hp):Prop:=∃ o0a:ON,∃ o0n:Nat,∃ o0c:Cap,∃ o0k:List AV,v = (.sl ⟨o0a,o0n,o0c⟩)∧o0n = (r).length∧Out H0 Ri H' (Rs.own ⟨o0a,o0n,o0c⟩ (eInt .i64).z o0k :: R0) fun R=>CR (eInt .i64) H' R o0k (r)
def aM.p (F:Nat) (ak:List Int):Option (List Int):=apn ([]:List Int) ak
theorem aM.P {F:Nat} {aK:ON} {ay:Nat} {aL:Cap} {ak:List Int} {H:Hp} {R0:List Rs} (br:ay = ak.length) (h0:Inn H R0 fun R=>ROs (eInt .i64) H R ⟨aK,ay,aL⟩ ak) {r:List Int} (hp:aM.p F ak = some r):∃ v H',aM.tw F ⟨aK,ay,aL⟩ H = some (v,H')∧aM.Q H R0 R0  r v H':=by
 obtain ⟨w0,f0⟩:=h0
 subst br
 unfold aM.p at hp
 unfold aM.tw aM.twX
 have s0:=w0.rf
 refine bif_ex (fun hb=>?_) (fun hb=>?_)
 ·obtain ⟨w1,s1⟩:=w0.nilS (eInt .i64).z (by decide)
  obtain rfl:=ROs.none_nil f0 (Option.isNone_iff_eq_none.1 hb)
  obtain rfl:r = []:=(apn_some hp).2
  exact ⟨_,_,rfl,none,0,.ex 0,[],rfl,rfl,w1,s0.trans s1,CR.empty⟩
 ·refine newS_k (eInt .i64) w0 (n:=0) (l:=[]) rfl CR.empty rfl fun H2 w2 s2 c2=>?_
  obtain ⟨xs,hx,cx⟩:=(f0.step s2).row rfl
  refine bind_ex hx ?_
  refine app_k (eInt .i64) w2 (i:=0) rfl rfl c2 cx rfl rfl hp fun a d H3 w3 s3 c3 _=>?_
  dsimp only [List.set] at w3 s3 c3
  exact ⟨_,_,rfl,_,_,_,_,rfl,rfl,w3,s0.trans (s2.trans s3),c3⟩
def ae.Q (H0:Hp) (Ri R0:List Rs)  (r:Int×List Int) (v:AV) (H':Hp):Prop:=∃ o1a:ON,∃ o1n:Nat,∃ o1c:Cap,∃ o1k:List AV,v = (.agg [(.int .i64 r.1),(.sl ⟨o1a,o1n,o1c⟩)])∧o1n = (r.2).length∧Out H0 Ri H' (Rs.own ⟨o1a,o1n,o1c⟩ (eInt .i64).z o1k :: R0) fun R=>CR (eInt .i64) H' R o1k (r.2)
def ae.S6 (H0:Hp) (Ri R0:List Rs)  (C:Nat→Nat→Nat→Nat→Hp→OA) (pC:Int→List Int→Option (Int×List Int)):Prop:=∀ {eT lf:Int} {jk jl:ON} {gD cc gE c_:Nat} {jm jn:Cap} {dA jo:List Int} {jp:List AV},∀ {H:Hp},gD = dA.length→gE = jo.length→(Out H0 Ri H (Rs.blk cc [.int .i64 eT,.sl ⟨jk,gD,jm⟩] :: Rs.own ⟨jl,gE,jn⟩ (eInt .i64).z jp :: Rs.blk c_ [.int .i64 lf,.sl ⟨jl,gE,jn⟩] :: R0) fun R=>ROs (eInt .i64) H R ⟨jk,gD,jm⟩ dA∧CR (eInt .i64) H R jp jo)→∀ {r:Int×List Int},pC eT dA = some r→∃ v H',C cc 0 c_ 0 H = some (v,H')∧ae.Q H0 Ri R0  r v H'
def ae.S14 (H0:Hp) (Ri R0:List Rs)  (C:Nat→Nat→Nat→Nat→Hp→OA) (pC:Int→List Int→Option (Int×List Int)):Prop:=∀ {eU lg:Int} {jq jr:ON} {gF cb gG cZ:Nat} {js jt:Cap} {dq ju:List Int} {jv:List AV},∀ {H:Hp},gF = dq.length→gG = ju.length→(Out H0 Ri H (Rs.blk cb [.int .i64 eU,.sl ⟨jq,gF,js⟩] :: Rs.own ⟨jr,gG,jt⟩ (eInt .i64).z jv :: Rs.blk cZ [.int .i64 lg,.sl ⟨jr,gG,jt⟩] :: R0) fun R=>ROs (eInt .i64) H R ⟨jq,gF,js⟩ dq∧CR (eInt .i64) H R jv ju)→∀ {r:Int×List Int},pC eU dq = some r→∃ v H',C cb 0 cZ 0 H = some (v,H')∧ae.Q H0 Ri R0  r v H'
def ae.pj1 (F:Nat)  (jw:Int) (fP:List Int):Option (Int×List Int):=(bif ((fP.length:Int) == 0) then (some (0,([]:List Int))) else ((aM.p F fP).bind fun r5=>some (jw,r5)))
theorem ae.j1_P {F:Nat} {H0:Hp} {Ri R0:List Rs}   {jw qP:Int} {nB nC:ON} {li fq lj dP:Nat} {nD nE:Cap} {fP nF:List Int} {nG:List AV} {H:Hp} (qQ:li = fP.length) (qR:lj = nF.length) (h0:Out H0 Ri H (Rs.blk fq [.int .i64 jw,.sl ⟨nB,li,nD⟩] :: Rs.own ⟨nC,lj,nE⟩ (eInt .i64).z nG :: Rs.blk dP [.int .i64 qP,.sl ⟨nC,lj,nE⟩] :: R0) fun R=>ROs (eInt .i64) H R ⟨nB,li,nD⟩ fP∧CR (eInt .i64) H R nG nF) {r:Int×List Int} (hp:ae.pj1 F  jw fP = some r):∃ v H',ae.j1 F (aM.tw F)  fq 0 dP 0 H = some (v,H')∧ae.Q H0 Ri R0  r v H':=by
 obtain ⟨w0,s0,qS,rV⟩:=h0
 subst qQ
 subst qR
 unfold ae.pj1 at hp
 unfold ae.j1
 refine bind_ex (ldSl_of (w0.ld (i:=0) rfl rfl)) ?_
 refine bif_ex (fun hb=>?_) (fun hb=>?_)
 ·replace hp:=bif_t hb hp
  refine st_k w0 (i:=2) rfl rfl rfl fun H1 w1 s1=>?_
  dsimp only [List.set] at w1 s1
  refine st_k w1 (i:=2) rfl rfl rfl fun H2 w2 s2=>?_
  dsimp only [List.set] at w2 s2
  refine bind_ex (ldI_of (w2.ld (i:=2) rfl rfl)) ?_
  refine bind_ex (ldSl_of (w2.ld (i:=2) rfl rfl)) ?_
  obtain ⟨w3,s3⟩:=w2.nilS (eInt .i64).z (by decide)
  obtain ⟨w4,s4⟩:=w3.pick' [0] 4 rfl rfl rfl
  dsimp only [pk,pks,nth,List.drop] at w4 s4
  obtain rfl:=Option.some.inj hp
  exact ⟨_,_,rfl,_,_,_,_,rfl,rfl,w4,(s0.trans (s1.trans (s2.trans (s3.trans s4)))),((CR.empty:CR (eInt .i64) _ _ [] []).step s4)⟩
 ·replace hp:=bif_f hb hp
  refine bind_ex (ldI_of (w0.ld (i:=0) rfl rfl)) ?_
  refine bind_ex (ldSl_of (w0.ld (i:=0) rfl rfl)) ?_
  obtain ⟨r5,e5,hp⟩:=bind_some' hp
  refine call_ex (aM.P rfl ⟨w0,qS⟩ e5) ?_
  rintro _ H6 ⟨o0a_6,o0n_6,o0c_6,o0k_6,rfl,rfl,w6,s6,f6_0⟩
  refine bind_ex rfl ?_
  refine ifs_ex (W.cons_of (Rn:=[_]) w0 w6 s6) ?_
  refine st_k w6 (i:=3) rfl rfl rfl fun H8 w8 s8=>?_
  dsimp only [List.set] at w8 s8
  refine st_k w8 (i:=3) rfl rfl rfl fun H9 w9 s9=>?_
  dsimp only [List.set] at w9 s9
  refine bind_ex (ldI_of (w9.ld (i:=3) rfl rfl)) ?_
  refine bind_ex (ldSl_of (w9.ld (i:=3) rfl rfl)) ?_
  obtain ⟨w10,s10⟩:=w9.pick' [0] 4 rfl rfl rfl
  dsimp only [pk,pks,nth,List.drop] at w10 s10
  obtain rfl:=Option.some.inj hp
  exact ⟨_,_,rfl,_,_,_,_,rfl,rfl,w10,(s0.trans (s6.trans (s8.trans (s9.trans s10)))),(f6_0.step (s8.trans (s9.trans s10)))⟩
def ae.pl14 (F:Nat) :Nat→Int→List Int→Option (Int×List Int)
 | 0,_,_=>none
 | k + 1,eU,dq=>(bif (decide ((dq.length:Int) > 0)) then ((ix dq (IntKind.i64.wrap ((dq.length:Int) - 1))).bind fun n1=>(bif ((gt dq n1) == 0) then ((cutf dq 0 (IntKind.i64.wrap ((dq.length:Int) - 1))).bind fun l2=>ae.pl14 F k eU l2) else (ae.pj1 F eU dq))) else (ae.pj1 F eU dq))
termination_by structural n=>n
theorem ae.l14_P {F:Nat} {H0:Hp} {Ri R0:List Rs}  :∀ k,ae.S14 H0 Ri R0  (ae.l14 F (aM.tw F)  k) (ae.pl14 F  k):=by
 intro k
 induction k with
 | zero=>
  intro eU lg jq jr gF cb gG cZ js jt dq ju jv H nH nI h0 r hp
  exact nomatch (show (none:Option (Int×List Int)) = some r from hp)
 | succ k ih=>
  intro eU lg jq jr gF cb gG cZ js jt dq ju jv H nH nI h0 r hp
  obtain ⟨w0,s0,jx,lk⟩:=h0
  subst nH
  subst nI
  unfold ae.pl14 at hp
  unfold ae.l14
  refine bind_ex (ldSl_of (w0.ld (i:=0) rfl rfl)) ?_
  refine bif_ex (fun hb=>?_) (fun hb=>?_)
  ·replace hp:=bif_t hb hp
   refine bind_ex (ldSl_of (w0.ld (i:=0) rfl rfl)) ?_
   refine bind_ex (ldSl_of (w0.ld (i:=0) rfl rfl)) ?_
   obtain ⟨n1,g1,hp⟩:=bind_some' hp
   obtain ⟨p1,q1,i1,h1,j1⟩:=ROs.ixr jx rfl g1
   refine bind_ex i1 ?_
   have h1:_ = [_]:=h1
   subst h1
   refine bind_ex (ldI_of (j1 0 _ rfl)) ?_
   refine bif_ex (fun hb=>?_) (fun hb=>?_)
   ·replace hp:=bif_t hb hp
    refine bind_ex (ldSl_of (w0.ld (i:=0) rfl rfl)) ?_
    refine bind_ex (ldSl_of (w0.ld (i:=0) rfl rfl)) ?_
    obtain ⟨l2,e2,hp⟩:=bind_some' hp
    obtain ⟨a2,d2,h2,f2⟩:=ROs.cutf jx rfl e2
    refine bind_ex h2 ?_
    refine st_k w0 (i:=0) rfl rfl rfl fun H3 w3 s3=>?_
    dsimp only [List.set] at w3 s3
    exact ih rfl rfl ⟨w3,(s0.trans s3),(f2.step s3),(lk.step s3)⟩ hp
   ·replace hp:=bif_f hb hp
    exact ae.j1_P rfl rfl ⟨w0,s0,jx,lk⟩ hp
  ·replace hp:=bif_f hb hp
   exact ae.j1_P rfl rfl ⟨w0,s0,jx,lk⟩ hp
def ae.pj2 (F:Nat)  (jy:Int) (gH:List Int):Option (Int×List Int):=ae.pl14 F F jy gH
theorem ae.j2_P {F:Nat} {H0:Hp} {Ri R0:List Rs}   {jy qT:Int} {nJ nK:ON} {ll hQ lm hR:Nat} {nL nM:Cap} {gH nN:List Int} {nO:List AV} {H:Hp} (qU:ll = gH.length) (qV:lm = nN.length) (h0:Out H0 Ri H (Rs.blk hQ [.int .i64 jy,.sl ⟨nJ,ll,nL⟩] :: Rs.own ⟨nK,lm,nM⟩ (eInt .i64).z nO :: Rs.blk hR [.int .i64 qT,.sl ⟨nK,lm,nM⟩] :: R0) fun R=>ROs (eInt .i64) H R ⟨nJ,ll,nL⟩ gH∧CR (eInt .i64) H R nO nN) {r:Int×List Int} (hp:ae.pj2 F  jy gH = some r):∃ v H',ae.j2 F (aM.tw F)  hQ 0 hR 0 H = some (v,H')∧ae.Q H0 Ri R0  r v H':=by
 obtain ⟨w0,s0,qW,qX⟩:=h0
 subst qU
 subst qV
 unfold ae.pj2 at hp
 unfold ae.j2
 exact ae.l14_P F rfl rfl ⟨w0,s0,qW,qX⟩ hp
def ae.pl6 (F:Nat) :Nat→Int→List Int→Option (Int×List Int)
 | 0,_,_=>none
 | k + 1,eT,dA=>(bif (decide ((dA.length:Int) > 0)) then ((ix dA 0).bind fun n1=>(bif ((gt dA n1) == 0) then ((cutf dA 1 (dA.length:Int)).bind fun l3=>ae.pl6 F k (IntKind.i64.wrap (eT + 1)) l3) else (ae.pj2 F eT dA))) else (ae.pj2 F eT dA))
termination_by structural n=>n
theorem ae.l6_P {F:Nat} {H0:Hp} {Ri R0:List Rs}  :∀ k,ae.S6 H0 Ri R0  (ae.l6 F (aM.tw F)  k) (ae.pl6 F  k):=by
 intro k
 induction k with
 | zero=>
  intro eT lf jk jl gD cc gE c_ jm jn dA jo jp H nP nQ h0 r hp
  exact nomatch (show (none:Option (Int×List Int)) = some r from hp)
 | succ k ih=>
  intro eT lf jk jl gD cc gE c_ jm jn dA jo jp H nP nQ h0 r hp
  obtain ⟨w0,s0,jz,ln⟩:=h0
  subst nP
  subst nQ
  unfold ae.pl6 at hp
  unfold ae.l6
  refine bind_ex (ldSl_of (w0.ld (i:=0) rfl rfl)) ?_
  refine bif_ex (fun hb=>?_) (fun hb=>?_)
  ·replace hp:=bif_t hb hp
   refine bind_ex (ldSl_of (w0.ld (i:=0) rfl rfl)) ?_
   obtain ⟨n1,g1,hp⟩:=bind_some' hp
   obtain ⟨p1,q1,i1,h1,j1⟩:=ROs.ixr jz rfl g1
   refine bind_ex i1 ?_
   have h1:_ = [_]:=h1
   subst h1
   refine bind_ex (ldI_of (j1 0 _ rfl)) ?_
   refine bif_ex (fun hb=>?_) (fun hb=>?_)
   ·replace hp:=bif_t hb hp
    refine bind_ex (ldI_of (w0.ld (i:=0) rfl rfl)) ?_
    refine st_k w0 (i:=0) rfl rfl rfl fun H2 w2 s2=>?_
    dsimp only [List.set] at w2 s2
    refine bind_ex (ldSl_of (w2.ld (i:=0) rfl rfl)) ?_
    obtain ⟨l3,e3,hp⟩:=bind_some' hp
    obtain ⟨a3,d3,h3,f3⟩:=ROs.cutf (jz.step s2) rfl e3
    refine bind_ex h3 ?_
    refine st_k w2 (i:=0) rfl rfl rfl fun H4 w4 s4=>?_
    dsimp only [List.set] at w4 s4
    exact ih rfl rfl ⟨w4,(s0.trans (s2.trans s4)),(f3.step s4),(ln.step (s2.trans s4))⟩ hp
   ·replace hp:=bif_f hb hp
    exact ae.j2_P rfl rfl ⟨w0,s0,jz,ln⟩ hp
  ·replace hp:=bif_f hb hp
   exact ae.j2_P rfl rfl ⟨w0,s0,jz,ln⟩ hp
def ae.p (F:Nat) (aa:Int) (az:List Int):Option (Int×List Int):=ae.pl6 F F aa az
theorem ae.P {F:Nat} {aa:Int} {bz:ON} {bh:Nat} {bA:Cap} {az:List Int} {H:Hp} {R0:List Rs} (cC:bh = az.length) (h0:Inn H R0 fun R=>ROs (eInt .i64) H R ⟨bz,bh,bA⟩ az) {r:Int×List Int} (hp:ae.p F aa az = some r):∃ v H',ae.tw F aa ⟨bz,bh,bA⟩ H = some (v,H')∧ae.Q H R0 R0  r v H':=by
 obtain ⟨w0,bN⟩:=h0
 subst cC
 unfold ae.p at hp
 unfold ae.tw ae.twX
 have s0:=w0.rf
 refine new_k w0 fun H1 w1 s1=>?_
 refine new_k w1 fun H2 w2 s2=>?_
 obtain ⟨w3,s3⟩:=w2.nilS (eInt .i64).z (by decide)
 obtain ⟨w4,s4⟩:=w3.pick' [2,0,1] 3 rfl rfl rfl
 dsimp only [pk,pks,nth,List.drop] at w4 s4
 exact ae.l6_P F rfl rfl ⟨w4,(s0.trans (s1.trans (s2.trans (s3.trans s4)))),(bN.step (s1.trans (s2.trans (s3.trans s4)))),((CR.empty:CR (eInt .i64) _ _ [] []).step s4)⟩ hp
def aE.Q (H0:Hp) (Ri R0:List Rs)  (r:Int×List Int) (v:AV) (H':Hp):Prop:=∃ o1a:ON,∃ o1n:Nat,∃ o1c:Cap,∃ o1k:List AV,v = (.agg [(.int .i64 r.1),(.sl ⟨o1a,o1n,o1c⟩)])∧o1n = (r.2).length∧Out H0 Ri H' (Rs.own ⟨o1a,o1n,o1c⟩ (eInt .i64).z o1k :: R0) fun R=>CR (eInt .i64) H' R o1k (r.2)
def aE.p (F:Nat) (aa:Int) (ab:Int):Option (Int×List Int):=(ae.p F ab ([aa]:List Int)).bind fun r4=>some (r4.1,r4.2)
theorem aE.P {F:Nat} {aa ab:Int} {H:Hp} {R0:List Rs}  (h0:Inn H R0 fun R=>True) {r:Int×List Int} (hp:aE.p F aa ab = some r):∃ v H',aE.tw F aa ab H = some (v,H')∧aE.Q H R0 R0  r v H':=by
 obtain ⟨w0,_⟩:=h0
 unfold aE.p at hp
 unfold aE.tw aE.twX
 have s0:=w0.rf
 refine new_k w0 fun H1 w1 s1=>?_
 refine newS_k (eInt .i64) w1 (n:=1) (l:=([aa]:List Int)) rfl (CR.cons1 rfl CR.empty) rfl fun H2 w2 s2 c2=>?_
 have f3:=W.borrow1 (eInt .i64) w2 c2
 obtain ⟨w3,s3⟩:=w2.right1
 obtain ⟨r4,e4,hp⟩:=bind_some' hp
 refine call_ex (ae.P rfl ⟨w3,f3⟩ e4) ?_
 rintro _ H5 ⟨o1a_5,o1n_5,o1c_5,o1k_5,rfl,rfl,w5,s5,f5_0⟩
 obtain ⟨w6,s6⟩:=W.frame1 w2 w5 s5
 refine bind_ex rfl ?_
 refine bind_ex rfl ?_
 refine bind_ex rfl ?_
 refine bind_ex rfl ?_
 refine bind_ex rfl ?_
 refine st_k w6 (i:=2) rfl rfl rfl fun H7 w7 s7=>?_
 dsimp only [List.set] at w7 s7
 refine st_k w7 (i:=2) rfl rfl rfl fun H8 w8 s8=>?_
 dsimp only [List.set] at w8 s8
 refine bind_ex (ldI_of (w8.ld (i:=2) rfl rfl)) ?_
 refine bind_ex (ldSl_of (w8.ld (i:=2) rfl rfl)) ?_
 obtain ⟨w9,s9⟩:=w8.pick' [1] 3 rfl rfl rfl
 dsimp only [pk,pks,nth,List.drop] at w9 s9
 obtain rfl:=Option.some.inj hp
 exact ⟨_,_,rfl,_,_,_,_,rfl,rfl,w9,(s0.trans (s1.trans (s2.trans (s6.trans (s7.trans (s8.trans s9)))))),((CR.flat (eInt_flat .i64) f5_0).step (s7.trans (s8.trans s9)))⟩
def a_.Q (H0:Hp) (Ri R0:List Rs)  (r:Int) (v:AV) (H':Hp):Prop:=v = (.int .i64 r)∧Out H0 Ri H' (R0) fun R=>True
def a_.p (F:Nat) (ak:List Int):Option (Int):=some (ak.length:Int)
theorem a_.P {F:Nat} {aK:ON} {ay:Nat} {aL:Cap} {ak:List Int} {H:Hp} {R0:List Rs} (br:ay = ak.length) (h0:Inn H R0 fun R=>ROs (eInt .i64) H R ⟨aK,ay,aL⟩ ak) {r:Int} (hp:a_.p F ak = some r):∃ v H',a_.tw F ⟨aK,ay,aL⟩ H = some (v,H')∧a_.Q H R0 R0  r v H':=by
 obtain ⟨w0,bl⟩:=h0
 subst br
 unfold a_.p at hp
 unfold a_.tw a_.twX
 have s0:=w0.rf
 obtain rfl:=Option.some.inj hp
 exact ⟨_,_,rfl,rfl,w0,s0,trivial⟩
def aA.Q (H0:Hp) (Ri R0:List Rs)  (r:Int) (v:AV) (H':Hp):Prop:=v = (.int .i64 r)∧Out H0 Ri H' (R0) fun R=>True
def aA.p (F:Nat) (aa:Int) (az:List Int):Option (Int):=(a_.p F az).bind fun r2=>some (IntKind.i64.wrap ((IntKind.i64.wrap (aa + r2)) - 1))
theorem aA.P {F:Nat} {aa:Int} {bz:ON} {bh:Nat} {bA:Cap} {az:List Int} {H:Hp} {R0:List Rs} (cC:bh = az.length) (h0:Inn H R0 fun R=>ROs (eInt .i64) H R ⟨bz,bh,bA⟩ az) {r:Int} (hp:aA.p F aa az = some r):∃ v H',aA.tw F aa ⟨bz,bh,bA⟩ H = some (v,H')∧aA.Q H R0 R0  r v H':=by
 obtain ⟨w0,bN⟩:=h0
 subst cC
 unfold aA.p at hp
 unfold aA.tw aA.twX
 have s0:=w0.rf
 refine new_k w0 fun H1 w1 s1=>?_
 refine bind_ex (ldI_of (w1.ld (i:=0) rfl rfl)) ?_
 refine bind_ex (ldSl_of (w1.ld (i:=0) rfl rfl)) ?_
 obtain ⟨r2,e2,hp⟩:=bind_some' hp
 refine call_ex (a_.P rfl ⟨w1,(bN.step s1)⟩ e2) ?_
 rintro _ H3 ⟨rfl,w3,s3,_⟩
 refine bind_ex rfl ?_
 refine ifs_ex (W.cons_of (Rn:=[]) w1 w3 s3) ?_
 obtain ⟨w5,s5⟩:=w3.pick' [] 1 rfl rfl rfl
 dsimp only [pk,pks,nth,List.drop] at w5 s5
 obtain rfl:=Option.some.inj hp
 exact ⟨_,_,rfl,rfl,w5,(s0.trans (s1.trans (s3.trans s5))),trivial⟩
def aT.Q (H0:Hp) (Ri R0:List Rs)  (r:Bool) (v:AV) (H':Hp):Prop:=v = (.bool r)∧Out H0 Ri H' (R0) fun R=>True
def aT.p (F:Nat) (aa:Int):Option (Bool):=(aD.p F aa (-1000000000000) 1000000000000).bind fun r1=>some (!r1)
theorem aT.P {F:Nat} {aa:Int} {H:Hp} {R0:List Rs}  (h0:Inn H R0 fun R=>True) {r:Bool} (hp:aT.p F aa = some r):∃ v H',aT.tw F aa H = some (v,H')∧aT.Q H R0 R0  r v H':=by
 obtain ⟨w0,_⟩:=h0
 unfold aT.p at hp
 unfold aT.tw aT.twX
 have s0:=w0.rf
 obtain ⟨r1,e1,hp⟩:=bind_some' hp
 refine call_ex (aD.P ⟨w0,trivial⟩ e1) ?_
 rintro _ H2 ⟨rfl,w2,s2,_⟩
 refine bind_ex rfl ?_
 obtain rfl:=Option.some.inj hp
 exact ⟨_,_,rfl,rfl,w2,(s0.trans s2),trivial⟩
def aw.Q (H0:Hp) (Ri R0:List Rs)  (r:Int) (v:AV) (H':Hp):Prop:=v = (.int .i64 r)∧Out H0 Ri H' (R0) fun R=>True
def aw.S13 (H0:Hp) (Ri R0:List Rs)  (C:Sl→Int→Int→Hp→OA) (pC:List Int→Int→Int→Option (Int)):Prop:=∀ {dn:ON} {cX:Nat} {dp:Cap} {bC:List Int} {bv bi:Int},∀ {H:Hp},cX = bC.length→(Out H0 Ri H R0 fun R=>ROs (eInt .i64) H R ⟨dn,cX,dp⟩ bC)→∀ {r:Int},pC bC bv bi = some r→∃ v H',C ⟨dn,cX,dp⟩ bv bi H = some (v,H')∧aw.Q H0 Ri R0  r v H'
def aw.pl13 (F:Nat) :Nat→List Int→Int→Int→Option (Int)
 | 0,_,_,_=>none
 | k + 1,bC,bv,bi=>(bif (decide (bi < bv)) then ((ix bC bi).bind fun n1=>(aT.p F (gt bC n1)).bind fun r2=>(bif r2 then (some bi) else (aw.pl13 F k bC bv (IntKind.i64.wrap (bi + 1))))) else (some (-1)))
termination_by structural n=>n
theorem aw.l13_P {F:Nat} {H0:Hp} {Ri R0:List Rs}  :∀ k,aw.S13 H0 Ri R0  (aw.l13 F (aT.tw F)  k) (aw.pl13 F  k):=by
 intro k
 induction k with
 | zero=>
  intro dn cX dp bC bv bi H eL h0 r hp
  exact nomatch (show (none:Option (Int)) = some r from hp)
 | succ k ih=>
  intro dn cX dp bC bv bi H eL h0 r hp
  obtain ⟨w0,s0,es⟩:=h0
  subst eL
  unfold aw.pl13 at hp
  unfold aw.l13
  refine bif_ex (fun hb=>?_) (fun hb=>?_)
  ·replace hp:=bif_t hb hp
   obtain ⟨n1,g1,hp⟩:=bind_some' hp
   obtain ⟨p1,q1,i1,h1,j1⟩:=ROs.ixr es rfl g1
   refine bind_ex i1 ?_
   have h1:_ = [_]:=h1
   subst h1
   refine bind_ex (ldI_of (j1 0 _ rfl)) ?_
   obtain ⟨r2,e2,hp⟩:=bind_some' hp
   refine call_ex (aT.P ⟨w0,trivial⟩ e2) ?_
   rintro _ H3 ⟨rfl,w3,s3,_⟩
   refine bind_ex rfl ?_
   refine bif_ex (fun hb=>?_) (fun hb=>?_)
   ·replace hp:=bif_t hb hp
    obtain rfl:=Option.some.inj hp
    exact ⟨_,_,rfl,rfl,w3,(s0.trans s3),trivial⟩
   ·replace hp:=bif_f hb hp
    exact ih rfl ⟨w3,(s0.trans s3),(es.step s3)⟩ hp
  ·replace hp:=bif_f hb hp
   obtain rfl:=Option.some.inj hp
   exact ⟨_,_,rfl,rfl,w0,s0,trivial⟩
def aw.p (F:Nat) (ak:List Int):Option (Int):=aw.pl13 F F ak (ak.length:Int) 0
theorem aw.P {F:Nat} {aK:ON} {ay:Nat} {aL:Cap} {ak:List Int} {H:Hp} {R0:List Rs} (br:ay = ak.length) (h0:Inn H R0 fun R=>ROs (eInt .i64) H R ⟨aK,ay,aL⟩ ak) {r:Int} (hp:aw.p F ak = some r):∃ v H',aw.tw F ⟨aK,ay,aL⟩ H = some (v,H')∧aw.Q H R0 R0  r v H':=by
 obtain ⟨w0,bl⟩:=h0
 subst br
 unfold aw.p at hp
 unfold aw.tw aw.twX
 have s0:=w0.rf
 exact aw.l13_P F rfl ⟨w0,s0,bl⟩ hp
def aW.Q (H0:Hp) (Ri R0:List Rs)  (r:Bool) (v:AV) (H':Hp):Prop:=v = (.bool r)∧Out H0 Ri H' (R0) fun R=>True
def aW.p (F:Nat) (ak:List Int):Option (Bool):=(aw.p F ak).bind fun r1=>some (decide (r1 ≥ 0))
theorem aW.P {F:Nat} {aK:ON} {ay:Nat} {aL:Cap} {ak:List Int} {H:Hp} {R0:List Rs} (br:ay = ak.length) (h0:Inn H R0 fun R=>ROs (eInt .i64) H R ⟨aK,ay,aL⟩ ak) {r:Bool} (hp:aW.p F ak = some r):∃ v H',aW.tw F ⟨aK,ay,aL⟩ H = some (v,H')∧aW.Q H R0 R0  r v H':=by
 obtain ⟨w0,bl⟩:=h0
 subst br
 unfold aW.p at hp
 unfold aW.tw aW.twX
 have s0:=w0.rf
 obtain ⟨r1,e1,hp⟩:=bind_some' hp
 refine call_ex (aw.P rfl ⟨w0,bl⟩ e1) ?_
 rintro _ H2 ⟨rfl,w2,s2,_⟩
 refine bind_ex rfl ?_
 obtain rfl:=Option.some.inj hp
 exact ⟨_,_,rfl,rfl,w2,(s0.trans s2),trivial⟩
def aC.Q (H0:Hp) (Ri R0:List Rs)  (r:Bool) (v:AV) (H':Hp):Prop:=v = (.bool r)∧Out H0 Ri H' (R0) fun R=>True
def aC.p (F:Nat) (aa:Int) (az:List Int):Option (Bool):=(bif ((az.length:Int) == 0) then (some (aa == 0)) else ((bif (decide ((az.length:Int) ≤ 160)) then ((ix az 0).bind fun n3=>(bif ((gt az n3) != 0) then ((ix az (IntKind.i64.wrap ((az.length:Int) - 1))).bind fun n4=>(bif ((gt az n4) != 0) then ((bif (decide (aa ≥ (-240))) then ((aA.p F aa az).bind fun r5=>(bif (decide (r5 ≤ 240)) then ((bif (decide (aa ≤ 240)) then ((aW.p F az).bind fun r7=>some (!r7)) else (some false))) else (some false))) else (some false))) else (some false))) else (some false))) else (some false))))
theorem aC.P {F:Nat} {aa:Int} {bz:ON} {bh:Nat} {bA:Cap} {az:List Int} {H:Hp} {R0:List Rs} (cC:bh = az.length) (h0:Inn H R0 fun R=>ROs (eInt .i64) H R ⟨bz,bh,bA⟩ az) {r:Bool} (hp:aC.p F aa az = some r):∃ v H',aC.tw F aa ⟨bz,bh,bA⟩ H = some (v,H')∧aC.Q H R0 R0  r v H':=by
 obtain ⟨w0,bN⟩:=h0
 subst cC
 unfold aC.p at hp
 unfold aC.tw aC.twX
 have s0:=w0.rf
 refine new_k w0 fun H1 w1 s1=>?_
 refine bind_ex (ldSl_of (w1.ld (i:=0) rfl rfl)) ?_
 refine bif_ex (fun hb=>?_) (fun hb=>?_)
 ·replace hp:=bif_t hb hp
  refine bind_ex (ldI_of (w1.ld (i:=0) rfl rfl)) ?_
  obtain ⟨w2,s2⟩:=w1.pick' [] 1 rfl rfl rfl
  dsimp only [pk,pks,nth,List.drop] at w2 s2
  obtain rfl:=Option.some.inj hp
  exact ⟨_,_,rfl,rfl,w2,(s0.trans (s1.trans s2)),trivial⟩
 ·replace hp:=bif_f hb hp
  refine bif_ex (fun hb=>?_) (fun hb=>?_)
  ·replace hp:=bif_t hb hp
   refine bind_ex (ldSl_of (w1.ld (i:=0) rfl rfl)) ?_
   obtain ⟨n3,g3,hp⟩:=bind_some' hp
   obtain ⟨p3,q3,i3,h3,j3⟩:=ROs.ixr (bN.step s1) rfl g3
   refine bind_ex i3 ?_
   have h3:_ = [_]:=h3
   subst h3
   refine bind_ex (ldI_of (j3 0 _ rfl)) ?_
   refine bif_ex (fun hb=>?_) (fun hb=>?_)
   ·replace hp:=bif_t hb hp
    refine bind_ex (ldSl_of (w1.ld (i:=0) rfl rfl)) ?_
    obtain ⟨n4,g4,hp⟩:=bind_some' hp
    obtain ⟨p4,q4,i4,h4,j4⟩:=ROs.ixr (bN.step s1) rfl g4
    refine bind_ex i4 ?_
    have h4:_ = [_]:=h4
    subst h4
    refine bind_ex (ldI_of (j4 0 _ rfl)) ?_
    refine bif_ex (fun hb=>?_) (fun hb=>?_)
    ·replace hp:=bif_t hb hp
     refine bind_ex (ldI_of (w1.ld (i:=0) rfl rfl)) ?_
     refine bif_ex (fun hb=>?_) (fun hb=>?_)
     ·replace hp:=bif_t hb hp
      refine bind_ex (ldI_of (w1.ld (i:=0) rfl rfl)) ?_
      refine bind_ex (ldSl_of (w1.ld (i:=0) rfl rfl)) ?_
      obtain ⟨r5,e5,hp⟩:=bind_some' hp
      refine call_ex (aA.P rfl ⟨w1,(bN.step s1)⟩ e5) ?_
      rintro _ H6 ⟨rfl,w6,s6,_⟩
      refine bind_ex rfl ?_
      refine bif_ex (fun hb=>?_) (fun hb=>?_)
      ·replace hp:=bif_t hb hp
       refine bind_ex (ldI_of (w6.ld (i:=0) rfl rfl)) ?_
       refine bif_ex (fun hb=>?_) (fun hb=>?_)
       ·replace hp:=bif_t hb hp
        refine bind_ex (ldSl_of (w6.ld (i:=0) rfl rfl)) ?_
        obtain ⟨r7,e7,hp⟩:=bind_some' hp
        refine call_ex (aW.P rfl ⟨w6,(bN.step (s1.trans s6))⟩ e7) ?_
        rintro _ H8 ⟨rfl,w8,s8,_⟩
        refine bind_ex rfl ?_
        obtain ⟨w9,s9⟩:=w8.pick' [] 1 rfl rfl rfl
        dsimp only [pk,pks,nth,List.drop] at w9 s9
        obtain rfl:=Option.some.inj hp
        exact ⟨_,_,rfl,rfl,w9,(s0.trans (s1.trans (s6.trans (s8.trans s9)))),trivial⟩
       ·replace hp:=bif_f hb hp
        obtain ⟨w10,s10⟩:=w6.pick' [] 1 rfl rfl rfl
        dsimp only [pk,pks,nth,List.drop] at w10 s10
        obtain rfl:=Option.some.inj hp
        exact ⟨_,_,rfl,rfl,w10,(s0.trans (s1.trans (s6.trans s10))),trivial⟩
      ·replace hp:=bif_f hb hp
       obtain ⟨w11,s11⟩:=w6.pick' [] 1 rfl rfl rfl
       dsimp only [pk,pks,nth,List.drop] at w11 s11
       obtain rfl:=Option.some.inj hp
       exact ⟨_,_,rfl,rfl,w11,(s0.trans (s1.trans (s6.trans s11))),trivial⟩
     ·replace hp:=bif_f hb hp
      obtain ⟨w12,s12⟩:=w1.pick' [] 1 rfl rfl rfl
      dsimp only [pk,pks,nth,List.drop] at w12 s12
      obtain rfl:=Option.some.inj hp
      exact ⟨_,_,rfl,rfl,w12,(s0.trans (s1.trans s12)),trivial⟩
    ·replace hp:=bif_f hb hp
     obtain ⟨w13,s13⟩:=w1.pick' [] 1 rfl rfl rfl
     dsimp only [pk,pks,nth,List.drop] at w13 s13
     obtain rfl:=Option.some.inj hp
     exact ⟨_,_,rfl,rfl,w13,(s0.trans (s1.trans s13)),trivial⟩
   ·replace hp:=bif_f hb hp
    obtain ⟨w14,s14⟩:=w1.pick' [] 1 rfl rfl rfl
    dsimp only [pk,pks,nth,List.drop] at w14 s14
    obtain rfl:=Option.some.inj hp
    exact ⟨_,_,rfl,rfl,w14,(s0.trans (s1.trans s14)),trivial⟩
  ·replace hp:=bif_f hb hp
   obtain ⟨w15,s15⟩:=w1.pick' [] 1 rfl rfl rfl
   dsimp only [pk,pks,nth,List.drop] at w15 s15
   obtain rfl:=Option.some.inj hp
   exact ⟨_,_,rfl,rfl,w15,(s0.trans (s1.trans s15)),trivial⟩
def aP.Q (H0:Hp) (Ri R0:List Rs)  (r:Bool) (v:AV) (H':Hp):Prop:=v = (.bool r)∧Out H0 Ri H' (R0) fun R=>True
def aP.p (F:Nat) (aa:Int) (az:List Int):Option (Bool):=(aC.p F aa az).bind fun r2=>some (!r2)
theorem aP.P {F:Nat} {aa:Int} {bz:ON} {bh:Nat} {bA:Cap} {az:List Int} {H:Hp} {R0:List Rs} (cC:bh = az.length) (h0:Inn H R0 fun R=>ROs (eInt .i64) H R ⟨bz,bh,bA⟩ az) {r:Bool} (hp:aP.p F aa az = some r):∃ v H',aP.tw F aa ⟨bz,bh,bA⟩ H = some (v,H')∧aP.Q H R0 R0  r v H':=by
 obtain ⟨w0,bN⟩:=h0
 subst cC
 unfold aP.p at hp
 unfold aP.tw aP.twX
 have s0:=w0.rf
 refine new_k w0 fun H1 w1 s1=>?_
 refine bind_ex (ldI_of (w1.ld (i:=0) rfl rfl)) ?_
 refine bind_ex (ldSl_of (w1.ld (i:=0) rfl rfl)) ?_
 obtain ⟨r2,e2,hp⟩:=bind_some' hp
 refine call_ex (aC.P rfl ⟨w1,(bN.step s1)⟩ e2) ?_
 rintro _ H3 ⟨rfl,w3,s3,_⟩
 refine bind_ex rfl ?_
 obtain ⟨w4,s4⟩:=w3.pick' [] 1 rfl rfl rfl
 dsimp only [pk,pks,nth,List.drop] at w4 s4
 obtain rfl:=Option.some.inj hp
 exact ⟨_,_,rfl,rfl,w4,(s0.trans (s1.trans (s3.trans s4))),trivial⟩
def au.Q (H0:Hp) (Ri R0:List Rs)  (r:Int) (v:AV) (H':Hp):Prop:=v = (.int .i64 r)∧Out H0 Ri H' (R0) fun R=>True
def au.S13 (H0:Hp) (Ri R0:List Rs)  (C:Sl→Int→Int→Hp→OA) (pC:List (Int×List Int)→Int→Int→Option (Int)):Prop:=∀ {dn:ON} {cX:Nat} {dp:Cap} {bC:List (Int×List Int)} {bv bi:Int},∀ {H:Hp},cX = bC.length→(Out H0 Ri H R0 fun R=>ROs (ePair (eInt .i64) (eSl (eInt .i64))) H R ⟨dn,cX,dp⟩ bC)→∀ {r:Int},pC bC bv bi = some r→∃ v H',C ⟨dn,cX,dp⟩ bv bi H = some (v,H')∧au.Q H0 Ri R0  r v H'
def au.pl13 (F:Nat) :Nat→List (Int×List Int)→Int→Int→Option (Int)
 | 0,_,_,_=>none
 | k + 1,bC,bv,bi=>(bif (decide (bi < bv)) then ((ix bC bi).bind fun n1=>(aP.p F ((gt bC n1).1) ((gt bC n1).2)).bind fun r2=>(bif r2 then (some bi) else (au.pl13 F k bC bv (IntKind.i64.wrap (bi + 1))))) else (some (-1)))
termination_by structural n=>n
theorem au.l13_P {F:Nat} {H0:Hp} {Ri R0:List Rs}  :∀ k,au.S13 H0 Ri R0  (au.l13 F (aP.tw F)  k) (au.pl13 F  k):=by
 intro k
 induction k with
 | zero=>
  intro dn cX dp bC bv bi H eL h0 r hp
  exact nomatch (show (none:Option (Int)) = some r from hp)
 | succ k ih=>
  intro dn cX dp bC bv bi H eL h0 r hp
  obtain ⟨w0,s0,es⟩:=h0
  subst eL
  unfold au.pl13 at hp
  unfold au.l13
  refine bif_ex (fun hb=>?_) (fun hb=>?_)
  ·replace hp:=bif_t hb hp
   obtain ⟨n1,g1,hp⟩:=bind_some' hp
   obtain ⟨p1,q1,i1,h1,j1⟩:=ROs.ixr es rfl g1
   refine bind_ex i1 ?_
   obtain ⟨_,_,rfl,rfl,⟨⟨qY,m1_1,c1_1⟩,rfl,f1_1⟩⟩:=h1
   obtain rfl:m1_1 = _:=f1_1.n
   refine bind_ex (ldI_of (j1 0 _ rfl)) ?_
   refine bind_ex (ldSl_of (j1 1 _ rfl)) ?_
   obtain ⟨r2,e2,hp⟩:=bind_some' hp
   refine call_ex (aP.P rfl ⟨w0,f1_1⟩ e2) ?_
   rintro _ H3 ⟨rfl,w3,s3,_⟩
   refine bind_ex rfl ?_
   refine bif_ex (fun hb=>?_) (fun hb=>?_)
   ·replace hp:=bif_t hb hp
    obtain rfl:=Option.some.inj hp
    exact ⟨_,_,rfl,rfl,w3,(s0.trans s3),trivial⟩
   ·replace hp:=bif_f hb hp
    exact ih rfl ⟨w3,(s0.trans s3),(es.step s3)⟩ hp
  ·replace hp:=bif_f hb hp
   obtain rfl:=Option.some.inj hp
   exact ⟨_,_,rfl,rfl,w0,s0,trivial⟩
def au.p (F:Nat) (ak:List (Int×List Int)):Option (Int):=au.pl13 F F ak (ak.length:Int) 0
theorem au.P {F:Nat} {aK:ON} {ay:Nat} {aL:Cap} {ak:List (Int×List Int)} {H:Hp} {R0:List Rs} (br:ay = ak.length) (h0:Inn H R0 fun R=>ROs (ePair (eInt .i64) (eSl (eInt .i64))) H R ⟨aK,ay,aL⟩ ak) {r:Int} (hp:au.p F ak = some r):∃ v H',au.tw F ⟨aK,ay,aL⟩ H = some (v,H')∧au.Q H R0 R0  r v H':=by
 obtain ⟨w0,bl⟩:=h0
 subst br
 unfold au.p at hp
 unfold au.tw au.twX
 have s0:=w0.rf
 exact au.l13_P F rfl ⟨w0,s0,bl⟩ hp
def aX.Q (H0:Hp) (Ri R0:List Rs)  (r:Bool) (v:AV) (H':Hp):Prop:=v = (.bool r)∧Out H0 Ri H' (R0) fun R=>True
def aX.p (F:Nat) (ak:List (Int×List Int)):Option (Bool):=(au.p F ak).bind fun r1=>some (decide (r1 ≥ 0))
theorem aX.P {F:Nat} {aK:ON} {ay:Nat} {aL:Cap} {ak:List (Int×List Int)} {H:Hp} {R0:List Rs} (br:ay = ak.length) (h0:Inn H R0 fun R=>ROs (ePair (eInt .i64) (eSl (eInt .i64))) H R ⟨aK,ay,aL⟩ ak) {r:Bool} (hp:aX.p F ak = some r):∃ v H',aX.tw F ⟨aK,ay,aL⟩ H = some (v,H')∧aX.Q H R0 R0  r v H':=by
 obtain ⟨w0,bl⟩:=h0
 subst br
 unfold aX.p at hp
 unfold aX.tw aX.twX
 have s0:=w0.rf
 obtain ⟨r1,e1,hp⟩:=bind_some' hp
 refine call_ex (au.P rfl ⟨w0,bl⟩ e1) ?_
 rintro _ H2 ⟨rfl,w2,s2,_⟩
 refine bind_ex rfl ?_
 obtain rfl:=Option.some.inj hp
 exact ⟨_,_,rfl,rfl,w2,(s0.trans s2),trivial⟩
def aG.Q (H0:Hp) (Ri R0:List Rs)  (r:Bool) (v:AV) (H':Hp):Prop:=v = (.bool r)∧Out H0 Ri H' (R0) fun R=>True
def aG.p (F:Nat) (ak:List (Int×List Int)):Option (Bool):=(aX.p F ak).bind fun r1=>some (!r1)
theorem aG.P {F:Nat} {aK:ON} {ay:Nat} {aL:Cap} {ak:List (Int×List Int)} {H:Hp} {R0:List Rs} (br:ay = ak.length) (h0:Inn H R0 fun R=>ROs (ePair (eInt .i64) (eSl (eInt .i64))) H R ⟨aK,ay,aL⟩ ak) {r:Bool} (hp:aG.p F ak = some r):∃ v H',aG.tw F ⟨aK,ay,aL⟩ H = some (v,H')∧aG.Q H R0 R0  r v H':=by
 obtain ⟨w0,bl⟩:=h0
 subst br
 unfold aG.p at hp
 unfold aG.tw aG.twX
 have s0:=w0.rf
 obtain ⟨r1,e1,hp⟩:=bind_some' hp
 refine call_ex (aX.P rfl ⟨w0,bl⟩ e1) ?_
 rintro _ H2 ⟨rfl,w2,s2,_⟩
 refine bind_ex rfl ?_
 obtain rfl:=Option.some.inj hp
 exact ⟨_,_,rfl,rfl,w2,(s0.trans s2),trivial⟩
def aI.Q (H0:Hp) (Ri R0:List Rs)  (r:Int×List Int×Int) (v:AV) (H':Hp):Prop:=∃ o1a:ON,∃ o1n:Nat,∃ o1c:Cap,∃ o1k:List AV,v = (.tup [(.agg [(.int .i64 r.1),(.sl ⟨o1a,o1n,o1c⟩)]),(.int .i64 r.2.2)])∧o1n = (r.2.1).length∧Out H0 Ri H' (Rs.own ⟨o1a,o1n,o1c⟩ (eInt .i64).z o1k :: R0) fun R=>CR (eInt .i64) H' R o1k (r.2.1)
def aI.p (F:Nat) (aa:Int) (az:List Int):Option (Int×List Int×Int):=(ae.p F aa az).bind fun r3=>(aC.p F r3.1 r3.2).bind fun r8=>(bif (!r8) then (some (0,([]:List Int),3)) else (some (r3.1,r3.2,0)))
theorem aI.P {F:Nat} {aa:Int} {bz:ON} {bh:Nat} {bA:Cap} {az:List Int} {H:Hp} {R0:List Rs} (cC:bh = az.length) (h0:Inn H R0 fun R=>ROs (eInt .i64) H R ⟨bz,bh,bA⟩ az) {r:Int×List Int×Int} (hp:aI.p F aa az = some r):∃ v H',aI.tw F aa ⟨bz,bh,bA⟩ H = some (v,H')∧aI.Q H R0 R0  r v H':=by
 obtain ⟨w0,bN⟩:=h0
 subst cC
 unfold aI.p at hp
 unfold aI.tw aI.twX
 have s0:=w0.rf
 refine new_k w0 fun H1 w1 s1=>?_
 refine new_k w1 fun H2 w2 s2=>?_
 refine bind_ex (ldI_of (w2.ld (i:=1) rfl rfl)) ?_
 refine bind_ex (ldSl_of (w2.ld (i:=1) rfl rfl)) ?_
 obtain ⟨r3,e3,hp⟩:=bind_some' hp
 refine call_ex (ae.P rfl ⟨w2,(bN.step (s1.trans s2))⟩ e3) ?_
 rintro _ H4 ⟨o1a_4,o1n_4,o1c_4,o1k_4,rfl,rfl,w4,s4,f4_0⟩
 refine bind_ex rfl ?_
 refine bind_ex rfl ?_
 refine bind_ex rfl ?_
 refine bind_ex rfl ?_
 refine bind_ex rfl ?_
 refine st_k w4 (i:=2) rfl rfl rfl fun H5 w5 s5=>?_
 dsimp only [List.set] at w5 s5
 refine st_k w5 (i:=2) rfl rfl rfl fun H6 w6 s6=>?_
 dsimp only [List.set] at w6 s6
 refine bind_ex (ldI_of (w6.ld (i:=2) rfl rfl)) ?_
 refine bind_ex (ldSl_of (w6.ld (i:=2) rfl rfl)) ?_
 have f7:=W.borrow1 (eInt .i64) w6 (f4_0.step (s5.trans s6))
 obtain ⟨w7,s7⟩:=w6.right1
 obtain ⟨r8,e8,hp⟩:=bind_some' hp
 refine call_ex (aC.P rfl ⟨w7,f7⟩ e8) ?_
 rintro _ H9 ⟨rfl,w9,s9,_⟩
 obtain ⟨w10,s10⟩:=W.frame1 w6 w9 s9
 refine bind_ex rfl ?_
 refine bif_ex (fun hb=>?_) (fun hb=>?_)
 ·replace hp:=bif_t hb hp
  refine st_k w10 (i:=1) rfl rfl rfl fun H11 w11 s11=>?_
  dsimp only [List.set] at w11 s11
  refine st_k w11 (i:=1) rfl rfl rfl fun H12 w12 s12=>?_
  dsimp only [List.set] at w12 s12
  refine bind_ex (ldI_of (w12.ld (i:=1) rfl rfl)) ?_
  refine bind_ex (ldSl_of (w12.ld (i:=1) rfl rfl)) ?_
  obtain ⟨w13,s13⟩:=w12.nilS (eInt .i64).z (by decide)
  obtain ⟨w14,s14⟩:=w13.pick' [0] 4 rfl rfl rfl
  dsimp only [pk,pks,nth,List.drop] at w14 s14
  obtain rfl:=Option.some.inj hp
  exact ⟨_,_,rfl,_,_,_,_,rfl,rfl,w14,(s0.trans (s1.trans (s2.trans (s4.trans (s5.trans (s6.trans (s10.trans (s11.trans (s12.trans (s13.trans s14)))))))))),((CR.empty:CR (eInt .i64) _ _ [] []).step s14)⟩
 ·replace hp:=bif_f hb hp
  refine bind_ex (ldI_of (w10.ld (i:=2) rfl rfl)) ?_
  refine bind_ex (ldSl_of (w10.ld (i:=2) rfl rfl)) ?_
  refine st_k w10 (i:=1) rfl rfl rfl fun H15 w15 s15=>?_
  dsimp only [List.set] at w15 s15
  refine st_k w15 (i:=1) rfl rfl rfl fun H16 w16 s16=>?_
  dsimp only [List.set] at w16 s16
  refine bind_ex (ldI_of (w16.ld (i:=1) rfl rfl)) ?_
  refine bind_ex (ldSl_of (w16.ld (i:=1) rfl rfl)) ?_
  obtain ⟨w17,s17⟩:=w16.pick' [0] 3 rfl rfl rfl
  dsimp only [pk,pks,nth,List.drop] at w17 s17
  obtain rfl:=Option.some.inj hp
  exact ⟨_,_,rfl,_,_,_,_,rfl,rfl,w17,(s0.trans (s1.trans (s2.trans (s4.trans (s5.trans (s6.trans (s10.trans (s15.trans (s16.trans s17))))))))),(f4_0.step (s5.trans (s6.trans (s10.trans (s15.trans (s16.trans s17))))))⟩
def ad.Q (H0:Hp) (Ri R0:List Rs)  (r:Int×List Int×Int) (v:AV) (H':Hp):Prop:=∃ o1a:ON,∃ o1n:Nat,∃ o1c:Cap,∃ o1k:List AV,v = (.tup [(.agg [(.int .i64 r.1),(.sl ⟨o1a,o1n,o1c⟩)]),(.int .i64 r.2.2)])∧o1n = (r.2.1).length∧Out H0 Ri H' (Rs.own ⟨o1a,o1n,o1c⟩ (eInt .i64).z o1k :: R0) fun R=>CR (eInt .i64) H' R o1k (r.2.1)
def ad.S125 (H0:Hp) (Ri R0:List Rs)  (C:Nat→Nat→Int→Nat→Nat→Sl→Int→Int→Hp→OA) (pC:Int→Int→List Int→List (Int×List Int)→Int→Int→Option (Int×List Int×Int)):Prop:=∀ {lo cE fc cL cF:Int} {jA jB jC:ON} {gI cD gJ cS gK:Nat} {jD jE jF:Cap} {jG eV:List Int} {jH jI jJ:List AV} {ek:List (Int×List Int)},∀ {H:Hp},gI = jG.length→gJ = eV.length→gK = ek.length→(Out H0 Ri H (Rs.own ⟨jA,gI,jD⟩ (eInt .i64).z jH :: Rs.blk cD [.int .i64 lo,.sl ⟨jA,gI,jD⟩] :: Rs.own ⟨jB,gJ,jE⟩ (eInt .i64).z jI :: Rs.blk cS [.int .i64 fc,.sl ⟨jB,gJ,jE⟩] :: Rs.own ⟨jC,gK,jF⟩ (ePair (eInt .i64) (eSl (eInt .i64))).z jJ :: R0) fun R=>CR (eInt .i64) H R jH jG∧CR (eInt .i64) H R jI eV∧CR (ePair (eInt .i64) (eSl (eInt .i64))) H R jJ ek)→∀ {r:Int×List Int×Int},pC cE fc eV ek cL cF = some r→∃ v H',C cD 0 cE cS 0 ⟨jC,gK,jF⟩ cL cF H = some (v,H')∧ad.Q H0 Ri R0  r v H'
def ad.S8027 (H0:Hp) (Ri R0:List Rs)  (C:Nat→Nat→Int→Nat→Nat→Sl→Int→Int→Nat→Nat→Sl→Int→Int→Hp→OA) (pC:Int→Int→List Int→List (Int×List Int)→Int→Int→Int→List Int→Int→Int→Option (Int×List Int×Int)):Prop:=∀ {lq bJ fd cv cA eW cK bY:Int} {jK jL jM gL:ON} {gM bX gN cg gO fQ cB:Nat} {jN jO jP gP:Cap} {jQ el eD:List Int} {jR jS jT:List AV} {eX:List (Int×List Int)},∀ {H:Hp},gM = jQ.length→gN = el.length→gO = eX.length→fQ = eD.length→(Out H0 Ri H (Rs.own ⟨jK,gM,jN⟩ (eInt .i64).z jR :: Rs.blk bX [.int .i64 lq,.sl ⟨jK,gM,jN⟩] :: Rs.own ⟨jL,gN,jO⟩ (eInt .i64).z jS :: Rs.blk cg [.int .i64 fd,.sl ⟨jL,gN,jO⟩] :: Rs.own ⟨jM,gO,jP⟩ (ePair (eInt .i64) (eSl (eInt .i64))).z jT :: Rs.blk cB [.int .i64 eW,.sl ⟨gL,fQ,gP⟩] :: R0) fun R=>CR (eInt .i64) H R jR jQ∧CR (eInt .i64) H R jS el∧CR (ePair (eInt .i64) (eSl (eInt .i64))) H R jT eX∧ROs (eInt .i64) H R ⟨gL,fQ,gP⟩ eD)→∀ {r:Int×List Int×Int},pC bJ fd el eX cv cA eW eD cK bY = some r→∃ v H',C bX 0 bJ cg 0 ⟨jM,gO,jP⟩ cv cA cB 0 ⟨gL,fQ,gP⟩ cK bY H = some (v,H')∧ad.Q H0 Ri R0  r v H'
def ad.pj4 (F:Nat) (dg:Int→Int→List Int→List (Int×List Int)→Int→Int→Option (Int×List Int×Int)) (fr:Int) (jU:Int) (gQ:List Int) (gR:List (Int×List Int)) (ft:Int) (fu:Int):Option (Int×List Int×Int):=dg fr jU gQ gR ft (IntKind.i64.wrap (fu + 1))
theorem ad.j4_P {F:Nat} {H0:Hp} {Ri R0:List Rs}  {C125_:Nat→Nat→Int→Nat→Nat→Sl→Int→Int→Hp→OA} {dg:Int→Int→List Int→List (Int×List Int)→Int→Int→Option (Int×List Int×Int)} (hC125:ad.S125 H0 Ri R0  C125_ dg) {qZ fr jU ft fu:Int} {nR nS nT:ON} {lr hT ls hU lu:Nat} {nU nV nW:Cap} {nX gQ:List Int} {nY nZ n_:List AV} {gR:List (Int×List Int)} {H:Hp} (q_:lr = nX.length) (ra:ls = gQ.length) (rb:lu = gR.length) (h0:Out H0 Ri H (Rs.own ⟨nR,lr,nU⟩ (eInt .i64).z nY :: Rs.blk hT [.int .i64 qZ,.sl ⟨nR,lr,nU⟩] :: Rs.own ⟨nS,ls,nV⟩ (eInt .i64).z nZ :: Rs.blk hU [.int .i64 jU,.sl ⟨nS,ls,nV⟩] :: Rs.own ⟨nT,lu,nW⟩ (ePair (eInt .i64) (eSl (eInt .i64))).z n_ :: R0) fun R=>CR (eInt .i64) H R nY nX∧CR (eInt .i64) H R nZ gQ∧CR (ePair (eInt .i64) (eSl (eInt .i64))) H R n_ gR) {r:Int×List Int×Int} (hp:ad.pj4 F dg fr jU gQ gR ft fu = some r):∃ v H',ad.j4 F (aG.tw F) (aA.tw F) (aI.tw F) C125_ hT 0 fr hU 0 ⟨nT,lu,nW⟩ ft fu H = some (v,H')∧ad.Q H0 Ri R0  r v H':=by
 obtain ⟨w0,s0,rc,rd,rg⟩:=h0
 subst q_
 subst ra
 subst rb
 unfold ad.pj4 at hp
 unfold ad.j4
 exact hC125 rfl rfl rfl ⟨w0,s0,rc,rd,rg⟩ hp
def ad.pj5 (F:Nat) (dg:Int→Int→List Int→List (Int×List Int)→Int→Int→Option (Int×List Int×Int)) (fv:Int) (jV:Int) (gS:List Int) (gT:List (Int×List Int)) (fw:Int) (fx:Int):Option (Int×List Int×Int):=ad.pj4 F dg fv jV gS gT fw fx
theorem ad.j5_P {F:Nat} {H0:Hp} {Ri R0:List Rs}  {C125_:Nat→Nat→Int→Nat→Nat→Sl→Int→Int→Hp→OA} {dg:Int→Int→List Int→List (Int×List Int)→Int→Int→Option (Int×List Int×Int)} (hC125:ad.S125 H0 Ri R0  C125_ dg) {rh fv jV fw fx:Int} {oa ob oc:ON} {lv hX lw hY lx:Nat} {od oe og:Cap} {oh gS:List Int} {oi oj ol:List AV} {gT:List (Int×List Int)} {H:Hp} (ri:lv = oh.length) (rj:lw = gS.length) (rk:lx = gT.length) (h0:Out H0 Ri H (Rs.own ⟨oa,lv,od⟩ (eInt .i64).z oi :: Rs.blk hX [.int .i64 rh,.sl ⟨oa,lv,od⟩] :: Rs.own ⟨ob,lw,oe⟩ (eInt .i64).z oj :: Rs.blk hY [.int .i64 jV,.sl ⟨ob,lw,oe⟩] :: Rs.own ⟨oc,lx,og⟩ (ePair (eInt .i64) (eSl (eInt .i64))).z ol :: R0) fun R=>CR (eInt .i64) H R oi oh∧CR (eInt .i64) H R oj gS∧CR (ePair (eInt .i64) (eSl (eInt .i64))) H R ol gT) {r:Int×List Int×Int} (hp:ad.pj5 F dg fv jV gS gT fw fx = some r):∃ v H',ad.j5 F (aG.tw F) (aA.tw F) (aI.tw F) C125_ hX 0 fv hY 0 ⟨oc,lx,og⟩ fw fx H = some (v,H')∧ad.Q H0 Ri R0  r v H':=by
 obtain ⟨w0,s0,rl,rm,rn⟩:=h0
 subst ri
 subst rj
 subst rk
 unfold ad.pj5 at hp
 unfold ad.j5
 exact ad.j4_P (@hC125) rfl rfl rfl ⟨w0,s0,rl,rm,rn⟩ hp
def ad.pl8027 (F:Nat) (dg:Int→Int→List Int→List (Int×List Int)→Int→Int→Option (Int×List Int×Int)):Nat→Int→Int→List Int→List (Int×List Int)→Int→Int→Int→List Int→Int→Int→Option (Int×List Int×Int)
 | 0,_,_,_,_,_,_,_,_,_,_=>none
 | k + 1,bJ,fd,el,eX,cv,cA,eW,eD,cK,bY=>(bif (decide (bY < cK)) then ((ix eD bY).bind fun n1=>(ix el (IntKind.i64.wrap ((IntKind.i64.wrap (eW - bJ)) + bY))).bind fun n2=>(ix el (IntKind.i64.wrap ((IntKind.i64.wrap (eW - bJ)) + bY))).bind fun n3=>(some (el.set n3 (IntKind.i64.wrap ((gt el n2) + (gt eD n1))))).bind fun l4=>ad.pl8027 F dg k bJ fd l4 eX cv cA eW eD cK (IntKind.i64.wrap (bY + 1))) else (ad.pj5 F dg bJ fd el eX cv cA))
termination_by structural n=>n
theorem ad.l8027_P {F:Nat} {H0:Hp} {Ri R0:List Rs}  {C125_:Nat→Nat→Int→Nat→Nat→Sl→Int→Int→Hp→OA} {dg:Int→Int→List Int→List (Int×List Int)→Int→Int→Option (Int×List Int×Int)} (hC125:ad.S125 H0 Ri R0  C125_ dg):∀ k,ad.S8027 H0 Ri R0  (ad.l8027 F (aG.tw F) (aA.tw F) (aI.tw F) C125_ k) (ad.pl8027 F dg k):=by
 intro k
 induction k with
 | zero=>
  intro lq bJ fd cv cA eW cK bY jK jL jM gL gM bX gN cg gO fQ cB jN jO jP gP jQ el eD jR jS jT eX H om oo oq ot h0 r hp
  exact nomatch (show (none:Option (Int×List Int×Int)) = some r from hp)
 | succ k ih=>
  intro lq bJ fd cv cA eW cK bY jK jL jM gL gM bX gN cg gO fQ cB jN jO jP gP jQ el eD jR jS jT eX H om oo oq ot h0 r hp
  obtain ⟨w0,s0,ou,jW,ov,ox⟩:=h0
  subst om
  subst oo
  subst oq
  subst ot
  unfold ad.pl8027 at hp
  unfold ad.l8027
  refine bif_ex (fun hb=>?_) (fun hb=>?_)
  ·replace hp:=bif_t hb hp
   obtain ⟨n1,g1,hp⟩:=bind_some' hp
   obtain ⟨p1,q1,i1,h1,j1⟩:=ROs.ixr ox rfl g1
   refine bind_ex i1 ?_
   have h1:_ = [_]:=h1
   subst h1
   refine bind_ex (ldI_of (j1 0 _ rfl)) ?_
   refine bind_ex (ldSl_of (w0.ld (i:=3) rfl rfl)) ?_
   refine bind_ex (ldI_of (w0.ld (i:=5) rfl rfl)) ?_
   obtain ⟨n2,g2,hp⟩:=bind_some' hp
   obtain ⟨p2,q2,i2,h2,j2⟩:=W.ixo (E:=(eInt .i64)) w0 (i:=2) rfl rfl jW g2
   refine bind_ex i2 ?_
   have h2:_ = [_]:=h2
   subst h2
   refine bind_ex (ldI_of (j2 0 _ rfl)) ?_
   obtain ⟨n3,g3,hp⟩:=bind_some' hp
   obtain ⟨p3,q3,i3,h3,j3⟩:=W.ixo (E:=(eInt .i64)) w0 (i:=2) rfl rfl jW g3
   refine bind_ex i3 ?_
   obtain ⟨l4,e4,hp⟩:=bind_some' hp
   refine sto_k (eInt .i64) w0 (i:=2) (j:=0) (p:=p3) rfl rfl jW g3 i3 e4 rfl rfl (fun _ h=>by have h:_ = [_]:=h; subst h; exact rfl) fun H5 k5 w5 s5 c5=>?_
   dsimp only [List.set] at w5 s5 c5
   exact ih rfl ((st_len e4).symm) rfl rfl ⟨w5,(s0.trans s5),(ou.step s5),c5,(ov.step s5),(ox.step s5)⟩ hp
  ·replace hp:=bif_f hb hp
   obtain ⟨w6,s6⟩:=w0.pick' [0,1,2,3,4] 6 rfl rfl rfl
   dsimp only [pk,pks,nth,List.drop] at w6 s6
   exact ad.j5_P (@hC125) rfl rfl rfl ⟨w6,(s0.trans s6),(ou.step s6),(jW.step s6),(ov.step s6)⟩ hp
def ad.pj3 (F:Nat)  (jX:Int) (gU:List Int):Option (Int×List Int×Int):=(aI.p F jX gU).bind fun r3=>some (r3.1,r3.2.1,r3.2.2)
theorem ad.j3_P {F:Nat} {H0:Hp} {Ri R0:List Rs}   {ro jX:Int} {oy oz:ON} {ly eZ lz fV:Nat} {oA oB:Cap} {oC gU:List Int} {oD oE:List AV} {H:Hp} (rp:ly = oC.length) (rq:lz = gU.length) (h0:Out H0 Ri H (Rs.own ⟨oy,ly,oA⟩ (eInt .i64).z oD :: Rs.blk eZ [.int .i64 ro,.sl ⟨oy,ly,oA⟩] :: Rs.own ⟨oz,lz,oB⟩ (eInt .i64).z oE :: Rs.blk fV [.int .i64 jX,.sl ⟨oz,lz,oB⟩] :: R0) fun R=>CR (eInt .i64) H R oD oC∧CR (eInt .i64) H R oE gU) {r:Int×List Int×Int} (hp:ad.pj3 F  jX gU = some r):∃ v H',ad.j3 F (aG.tw F) (aA.tw F) (aI.tw F)  eZ 0 fV 0 H = some (v,H')∧ad.Q H0 Ri R0  r v H':=by
 obtain ⟨w0,s0,rW,rr⟩:=h0
 subst rp
 subst rq
 unfold ad.pj3 at hp
 unfold ad.j3
 refine bind_ex (ldI_of (w0.ld (i:=3) rfl rfl)) ?_
 refine bind_ex (ldSl_of (w0.ld (i:=3) rfl rfl)) ?_
 obtain ⟨w1,s1⟩:=w0.pick' [2,0,1,3] 4 rfl rfl rfl
 dsimp only [pk,pks,nth,List.drop] at w1 s1
 have f2:=W.borrow1 (eInt .i64) w1 (rr.step s1)
 obtain ⟨w2,s2⟩:=w1.right1
 obtain ⟨r3,e3,hp⟩:=bind_some' hp
 refine call_ex (aI.P rfl ⟨w2,f2⟩ e3) ?_
 rintro _ H4 ⟨o1a_4,o1n_4,o1c_4,o1k_4,rfl,rfl,w4,s4,f4_0⟩
 obtain ⟨w5,s5⟩:=W.frame1 w1 w4 s4
 refine bind_ex rfl ?_
 refine bind_ex rfl ?_
 refine bind_ex rfl ?_
 refine bind_ex rfl ?_
 refine bind_ex rfl ?_
 refine bind_ex rfl ?_
 refine bind_ex rfl ?_
 refine bind_ex rfl ?_
 refine bind_ex rfl ?_
 refine st_k w5 (i:=3) rfl rfl rfl fun H6 w6 s6=>?_
 dsimp only [List.set] at w6 s6
 refine st_k w6 (i:=3) rfl rfl rfl fun H7 w7 s7=>?_
 dsimp only [List.set] at w7 s7
 refine bind_ex (ldI_of (w7.ld (i:=3) rfl rfl)) ?_
 refine bind_ex (ldSl_of (w7.ld (i:=3) rfl rfl)) ?_
 obtain ⟨w8,s8⟩:=w7.pick' [1] 5 rfl rfl rfl
 dsimp only [pk,pks,nth,List.drop] at w8 s8
 obtain rfl:=Option.some.inj hp
 exact ⟨_,_,rfl,_,_,_,_,rfl,rfl,w8,(s0.trans (s1.trans (s5.trans (s6.trans (s7.trans s8))))),((CR.flat (eInt_flat .i64) f4_0).step (s6.trans (s7.trans s8)))⟩
def ad.pl125 (F:Nat) :Nat→Int→Int→List Int→List (Int×List Int)→Int→Int→Option (Int×List Int×Int)
 | 0,_,_,_,_,_,_=>none
 | k + 1,cE,fc,eV,ek,cL,cF=>(bif (decide (cF < cL)) then ((ix ek cF).bind fun n1=>ad.pl8027 F (ad.pl125 F k) F cE fc eV ek cL cF ((gt ek n1).1) ((gt ek n1).2) ((((gt ek n1).2).length):Int) 0) else (ad.pj3 F fc eV))
termination_by structural n=>n
theorem ad.l125_P {F:Nat} {H0:Hp} {Ri R0:List Rs}  :∀ k,ad.S125 H0 Ri R0  (ad.l125 F (aG.tw F) (aA.tw F) (aI.tw F)  k) (ad.pl125 F  k):=by
 intro k
 induction k with
 | zero=>
  intro lo cE fc cL cF jA jB jC gI cD gJ cS gK jD jE jF jG eV jH jI jJ ek H oF oG oH h0 r hp
  exact nomatch (show (none:Option (Int×List Int×Int)) = some r from hp)
 | succ k ih=>
  intro lo cE fc cL cF jA jB jC gI cD gJ cS gK jD jE jF jG eV jH jI jJ ek H oF oG oH h0 r hp
  obtain ⟨w0,s0,oI,oJ,oK⟩:=h0
  subst oF
  subst oG
  subst oH
  unfold ad.pl125 at hp
  unfold ad.l125
  refine bif_ex (fun hb=>?_) (fun hb=>?_)
  ·replace hp:=bif_t hb hp
   obtain ⟨n1,g1,hp⟩:=bind_some' hp
   obtain ⟨p1,q1,i1,h1,j1⟩:=W.ixo (E:=(ePair (eInt .i64) (eSl (eInt .i64)))) w0 (i:=4) rfl rfl oK g1
   refine bind_ex i1 ?_
   obtain ⟨_,_,rfl,rfl,⟨⟨qY,m1_1,c1_1⟩,rfl,f1_1⟩⟩:=h1
   obtain rfl:m1_1 = _:=f1_1.n
   refine bind_ex (ldI_of (j1 0 _ rfl)) ?_
   refine bind_ex (ldSl_of (j1 1 _ rfl)) ?_
   refine new_k w0 fun H2 w2 s2=>?_
   refine st_k w2 (i:=0) rfl rfl rfl fun H3 w3 s3=>?_
   dsimp only [List.set] at w3 s3
   refine st_k w3 (i:=0) rfl rfl rfl fun H4 w4 s4=>?_
   dsimp only [List.set] at w4 s4
   refine bind_ex (ldSl_of (w4.ld (i:=0) rfl rfl)) ?_
   obtain ⟨w5,s5⟩:=w4.pick' [1,2,3,4,5,0] 6 rfl rfl rfl
   dsimp only [pk,pks,nth,List.drop] at w5 s5
   exact ad.l8027_P (@ih) F rfl rfl rfl rfl ⟨w5,(s0.trans (s2.trans (s3.trans (s4.trans s5)))),(oI.step (s2.trans (s3.trans (s4.trans s5)))),(oJ.step (s2.trans (s3.trans (s4.trans s5)))),(oK.step (s2.trans (s3.trans (s4.trans s5)))),(f1_1.step (s2.trans (s3.trans (s4.trans s5))))⟩ hp
  ·replace hp:=bif_f hb hp
   obtain ⟨w6,s6⟩:=w0.pick' [0,1,2,3] 5 rfl rfl rfl
   dsimp only [pk,pks,nth,List.drop] at w6 s6
   exact ad.j3_P rfl rfl ⟨w6,(s0.trans s6),(oI.step s6),(oJ.step s6)⟩ hp
def ad.p (F:Nat) (aa:Int) (az:List Int) (ac:Int) (bH:List Int):Option (Int×List Int×Int):=(aG.p F ([(aa,az),(ac,bH)]:List (Int×List Int))).bind fun r6=>(bif (!r6) then (some (0,([]:List Int),1)) else ((aA.p F aa az).bind fun r13=>(aA.p F ac bH).bind fun r16=>(mkn (IntKind.i64.wrap ((IntKind.i64.wrap ((if (if ac < aa then ac else aa) > (if r16 > r13 then r16 else r13) then (if ac < aa then ac else aa) else (if r16 > r13 then r16 else r13)) - (if ac < aa then ac else aa))) + 1)) (0:Int)).bind fun l19=>ad.pl125 F F (if ac < aa then ac else aa) (if ac < aa then ac else aa) l19 ([(aa,az),(ac,bH)]:List (Int×List Int)) (2:Int) 0))
theorem ad.P {F:Nat} {aa ac:Int} {bz eh:ON} {bh df:Nat} {bA ei:Cap} {az bH:List Int} {H:Hp} {R0:List Rs} (cC:bh = az.length) (fb:df = bH.length) (h0:Inn H R0 fun R=>ROs (eInt .i64) H R ⟨bz,bh,bA⟩ az∧ROs (eInt .i64) H R ⟨eh,df,ei⟩ bH) {r:Int×List Int×Int} (hp:ad.p F aa az ac bH = some r):∃ v H',ad.tw F aa ⟨bz,bh,bA⟩ ac ⟨eh,df,ei⟩ H = some (v,H')∧ad.Q H R0 R0  r v H':=by
 obtain ⟨w0,bN,ev⟩:=h0
 subst cC
 subst fb
 unfold ad.p at hp
 unfold ad.tw ad.twX
 have s0:=w0.rf
 refine new_k w0 fun H1 w1 s1=>?_
 refine new_k w1 fun H2 w2 s2=>?_
 refine new_k w2 fun H3 w3 s3=>?_
 refine bind_ex (ldI_of (w3.ld (i:=2) rfl rfl)) ?_
 refine bind_ex (ldSl_of (w3.ld (i:=2) rfl rfl)) ?_
 refine bind_ex (ldI_of (w3.ld (i:=1) rfl rfl)) ?_
 refine bind_ex (ldSl_of (w3.ld (i:=1) rfl rfl)) ?_
 refine newS_k (ePair (eInt .i64) (eSl (eInt .i64))) w3 (n:=2) (l:=([(aa,az),(ac,bH)]:List (Int×List Int))) rfl (CR.cons (c:=[_,_]) ⟨[_],_,rfl,rfl,⟨_,rfl,(bN.step (s1.trans (s2.trans s3)))⟩⟩ (CR.cons (c:=[_,_]) ⟨[_],_,rfl,rfl,⟨_,rfl,(ev.step (s1.trans (s2.trans s3)))⟩⟩ CR.empty)) rfl fun H4 w4 s4 c4=>?_
 have f5:=W.borrow1 (ePair (eInt .i64) (eSl (eInt .i64))) w4 c4
 obtain ⟨w5,s5⟩:=w4.right1
 obtain ⟨r6,e6,hp⟩:=bind_some' hp
 refine call_ex (aG.P rfl ⟨w5,f5⟩ e6) ?_
 rintro _ H7 ⟨rfl,w7,s7,_⟩
 obtain ⟨w8,s8⟩:=W.frame1 w4 w7 s7
 refine bind_ex rfl ?_
 refine bif_ex (fun hb=>?_) (fun hb=>?_)
 ·replace hp:=bif_t hb hp
  refine st_k w8 (i:=1) rfl rfl rfl fun H9 w9 s9=>?_
  dsimp only [List.set] at w9 s9
  refine st_k w9 (i:=1) rfl rfl rfl fun H10 w10 s10=>?_
  dsimp only [List.set] at w10 s10
  refine bind_ex (ldI_of (w10.ld (i:=1) rfl rfl)) ?_
  refine bind_ex (ldSl_of (w10.ld (i:=1) rfl rfl)) ?_
  obtain ⟨w11,s11⟩:=w10.nilS (eInt .i64).z (by decide)
  obtain ⟨w12,s12⟩:=w11.pick' [0] 5 rfl rfl rfl
  dsimp only [pk,pks,nth,List.drop] at w12 s12
  obtain rfl:=Option.some.inj hp
  exact ⟨_,_,rfl,_,_,_,_,rfl,rfl,w12,(s0.trans (s1.trans (s2.trans (s3.trans (s4.trans (s8.trans (s9.trans (s10.trans (s11.trans s12))))))))),((CR.empty:CR (eInt .i64) _ _ [] []).step s12)⟩
 ·replace hp:=bif_f hb hp
  refine bind_ex (ldI_of (w8.ld (i:=3) rfl rfl)) ?_
  refine bind_ex (ldI_of (w8.ld (i:=2) rfl rfl)) ?_
  refine bind_ex (ldI_of (w8.ld (i:=3) rfl rfl)) ?_
  refine bind_ex (ldSl_of (w8.ld (i:=3) rfl rfl)) ?_
  obtain ⟨r13,e13,hp⟩:=bind_some' hp
  refine call_ex (aA.P rfl ⟨w8,(bN.step (s1.trans (s2.trans (s3.trans (s4.trans s8)))))⟩ e13) ?_
  rintro _ H14 ⟨rfl,w14,s14,_⟩
  refine bind_ex rfl ?_
  refine ifs_ex (W.cons_of (Rn:=[]) w8 w14 s14) ?_
  refine bind_ex (ldI_of (w14.ld (i:=2) rfl rfl)) ?_
  refine bind_ex (ldSl_of (w14.ld (i:=2) rfl rfl)) ?_
  obtain ⟨r16,e16,hp⟩:=bind_some' hp
  refine call_ex (aA.P rfl ⟨w14,(ev.step (s1.trans (s2.trans (s3.trans (s4.trans (s8.trans s14))))))⟩ e16) ?_
  rintro _ H17 ⟨rfl,w17,s17,_⟩
  refine bind_ex rfl ?_
  refine ifs_ex (W.cons_of (Rn:=[]) w14 w17 s17) ?_
  obtain ⟨l19,e19,hp⟩:=bind_some' hp
  refine mk_k (eInt .i64) (0:Int) w17 rfl rfl rfl e19 fun H20 k20 w20 s20 c20=>?_
  refine new_k w20 fun H21 w21 s21=>?_
  refine st_k w21 (i:=0) rfl rfl rfl fun H22 w22 s22=>?_
  dsimp only [List.set] at w22 s22
  refine st_k w22 (i:=0) rfl rfl rfl fun H23 w23 s23=>?_
  dsimp only [List.set] at w23 s23
  refine bind_ex (ldI_of (w23.ld (i:=5) rfl rfl)) ?_
  refine bind_ex (ldSl_of (w23.ld (i:=5) rfl rfl)) ?_
  refine bind_ex (ldI_of (w23.ld (i:=4) rfl rfl)) ?_
  refine bind_ex (ldSl_of (w23.ld (i:=4) rfl rfl)) ?_
  refine newS_k (ePair (eInt .i64) (eSl (eInt .i64))) w23 (n:=2) (l:=([(aa,az),(ac,bH)]:List (Int×List Int))) rfl (CR.cons (c:=[_,_]) ⟨[_],_,rfl,rfl,⟨_,rfl,(bN.step (s1.trans (s2.trans (s3.trans (s4.trans (s8.trans (s14.trans (s17.trans (s20.trans (s21.trans (s22.trans s23)))))))))))⟩⟩ (CR.cons (c:=[_,_]) ⟨[_],_,rfl,rfl,⟨_,rfl,(ev.step (s1.trans (s2.trans (s3.trans (s4.trans (s8.trans (s14.trans (s17.trans (s20.trans (s21.trans (s22.trans s23)))))))))))⟩⟩ CR.empty)) rfl fun H24 w24 s24 c24=>?_
  obtain ⟨w25,s25⟩:=w24.nilS (eInt .i64).z (by decide)
  obtain ⟨w26,s26⟩:=w25.pick' [0,5,3,2,1] 8 rfl rfl rfl
  dsimp only [pk,pks,nth,List.drop] at w26 s26
  exact ad.l125_P F rfl rfl rfl ⟨w26,(s0.trans (s1.trans (s2.trans (s3.trans (s4.trans (s8.trans (s14.trans (s17.trans (s20.trans (s21.trans (s22.trans (s23.trans (s24.trans (s25.trans s26)))))))))))))),((CR.empty:CR (eInt .i64) _ _ [] []).step s26),(c20.step (s21.trans (s22.trans (s23.trans (s24.trans (s25.trans s26)))))),(c24.step (s25.trans s26))⟩ hp
def aF.Q (H0:Hp) (Ri R0:List Rs)  (r:Int×List Int) (v:AV) (H':Hp):Prop:=∃ o1a:ON,∃ o1n:Nat,∃ o1c:Cap,∃ o1k:List AV,v = (.agg [(.int .i64 r.1),(.sl ⟨o1a,o1n,o1c⟩)])∧o1n = (r.2).length∧Out H0 Ri H' (Rs.own ⟨o1a,o1n,o1c⟩ (eInt .i64).z o1k :: R0) fun R=>CR (eInt .i64) H' R o1k (r.2)
def aF.p (F:Nat) (aa:Int) (az:List Int) (ac:Int) (bH:List Int):Option (Int×List Int):=(ad.p F aa az ac bH).bind fun r4=>some (r4.1,r4.2.1)
theorem aF.P {F:Nat} {aa ac:Int} {bz eh:ON} {bh df:Nat} {bA ei:Cap} {az bH:List Int} {H:Hp} {R0:List Rs} (cC:bh = az.length) (fb:df = bH.length) (h0:Inn H R0 fun R=>ROs (eInt .i64) H R ⟨bz,bh,bA⟩ az∧ROs (eInt .i64) H R ⟨eh,df,ei⟩ bH) {r:Int×List Int} (hp:aF.p F aa az ac bH = some r):∃ v H',aF.tw F aa ⟨bz,bh,bA⟩ ac ⟨eh,df,ei⟩ H = some (v,H')∧aF.Q H R0 R0  r v H':=by
 obtain ⟨w0,bN,ev⟩:=h0
 subst cC
 subst fb
 unfold aF.p at hp
 unfold aF.tw aF.twX
 have s0:=w0.rf
 refine new_k w0 fun H1 w1 s1=>?_
 refine new_k w1 fun H2 w2 s2=>?_
 refine new_k w2 fun H3 w3 s3=>?_
 refine bind_ex (ldI_of (w3.ld (i:=2) rfl rfl)) ?_
 refine bind_ex (ldSl_of (w3.ld (i:=2) rfl rfl)) ?_
 refine bind_ex (ldI_of (w3.ld (i:=1) rfl rfl)) ?_
 refine bind_ex (ldSl_of (w3.ld (i:=1) rfl rfl)) ?_
 obtain ⟨r4,e4,hp⟩:=bind_some' hp
 refine call_ex (ad.P rfl rfl ⟨w3,(bN.step (s1.trans (s2.trans s3))),(ev.step (s1.trans (s2.trans s3)))⟩ e4) ?_
 rintro _ H5 ⟨o1a_5,o1n_5,o1c_5,o1k_5,rfl,rfl,w5,s5,f5_0⟩
 refine bind_ex rfl ?_
 refine bind_ex rfl ?_
 refine bind_ex rfl ?_
 refine bind_ex rfl ?_
 refine bind_ex rfl ?_
 refine bind_ex rfl ?_
 refine bind_ex rfl ?_
 refine bind_ex rfl ?_
 refine bind_ex rfl ?_
 refine new_k w5 fun H6 w6 s6=>?_
 refine st_k w6 (i:=0) rfl rfl rfl fun H7 w7 s7=>?_
 dsimp only [List.set] at w7 s7
 refine st_k w7 (i:=0) rfl rfl rfl fun H8 w8 s8=>?_
 dsimp only [List.set] at w8 s8
 refine bind_ex (ldI_of (w8.ld (i:=0) rfl rfl)) ?_
 refine bind_ex (ldSl_of (w8.ld (i:=0) rfl rfl)) ?_
 refine st_k w8 (i:=2) rfl rfl rfl fun H9 w9 s9=>?_
 dsimp only [List.set] at w9 s9
 refine st_k w9 (i:=2) rfl rfl rfl fun H10 w10 s10=>?_
 dsimp only [List.set] at w10 s10
 refine bind_ex (ldI_of (w10.ld (i:=2) rfl rfl)) ?_
 refine bind_ex (ldSl_of (w10.ld (i:=2) rfl rfl)) ?_
 obtain ⟨w11,s11⟩:=w10.pick' [1] 5 rfl rfl rfl
 dsimp only [pk,pks,nth,List.drop] at w11 s11
 obtain rfl:=Option.some.inj hp
 exact ⟨_,_,rfl,_,_,_,_,rfl,rfl,w11,(s0.trans (s1.trans (s2.trans (s3.trans (s5.trans (s6.trans (s7.trans (s8.trans (s9.trans (s10.trans s11)))))))))),(f5_0.step (s6.trans (s7.trans (s8.trans (s9.trans (s10.trans s11))))))⟩
def aH.Q (H0:Hp) (Ri R0:List Rs)  (r:Int) (v:AV) (H':Hp):Prop:=v = (.int .i64 r)∧Out H0 Ri H' (R0) fun R=>True
def aH.p (F:Nat) (aa:Int):Option (Int):=(bif (decide (aa < 0)) then (some (-1)) else (some 1))
theorem aH.P {F:Nat} {aa:Int} {H:Hp} {R0:List Rs}  (h0:Inn H R0 fun R=>True) {r:Int} (hp:aH.p F aa = some r):∃ v H',aH.tw F aa H = some (v,H')∧aH.Q H R0 R0  r v H':=by
 obtain ⟨w0,_⟩:=h0
 unfold aH.p at hp
 unfold aH.tw aH.twX
 have s0:=w0.rf
 refine bif_ex (fun hb=>?_) (fun hb=>?_)
 ·replace hp:=bif_t hb hp
  obtain rfl:=Option.some.inj hp
  exact ⟨_,_,rfl,rfl,w0,s0,trivial⟩
 ·replace hp:=bif_f hb hp
  obtain rfl:=Option.some.inj hp
  exact ⟨_,_,rfl,rfl,w0,s0,trivial⟩
def ai.Q (H0:Hp) (Ri R0:List Rs)  (r:Int×List Int) (v:AV) (H':Hp):Prop:=∃ o1a:ON,∃ o1n:Nat,∃ o1c:Cap,∃ o1k:List AV,v = (.agg [(.int .i64 r.1),(.sl ⟨o1a,o1n,o1c⟩)])∧o1n = (r.2).length∧Out H0 Ri H' (Rs.own ⟨o1a,o1n,o1c⟩ (eInt .i64).z o1k :: R0) fun R=>CR (eInt .i64) H' R o1k (r.2)
def ai.S61 (H0:Hp) (Ri R0:List Rs)  (C:Int→Nat→Nat→Nat→Nat→Int→Sl→Int→Int→Hp→OA) (pC:Int→Int→List Int→Int→List Int→Int→Int→Option (Int×List Int)):Prop:=∀ {bK lA eE bM ch bZ:Int} {jY jZ j_:ON} {gV bs gW bL gX:Nat} {ka kb kc:Cap} {kd ew dh:List Int} {ke kf:List AV},∀ {H:Hp},gV = kd.length→gW = ew.length→gX = dh.length→(Out H0 Ri H (Rs.own ⟨jY,gV,ka⟩ (eInt .i64).z ke :: Rs.blk bs [.int .i64 lA,.sl ⟨jY,gV,ka⟩] :: Rs.own ⟨jZ,gW,kb⟩ (eInt .i64).z kf :: Rs.blk bL [.int .i64 eE,.sl ⟨jZ,gW,kb⟩] :: R0) fun R=>CR (eInt .i64) H R ke kd∧CR (eInt .i64) H R kf ew∧ROs (eInt .i64) H R ⟨j_,gX,kc⟩ dh)→∀ {r:Int×List Int},pC bK eE ew bM dh ch bZ = some r→∃ v H',C bK bs 0 bL 0 bM ⟨j_,gX,kc⟩ ch bZ H = some (v,H')∧ai.Q H0 Ri R0  r v H'
def ai.pj4 (F:Nat) (bI:Int→Int→List Int→Int→List Int→Int→Int→Option (Int×List Int)) (fy:Int) (kg:Int) (gY:List Int) (fz:Int) (fA:Int) (gZ:List Int) (fB:Int) (fC:Int):Option (Int×List Int):=(aH.p F fA).bind fun r1=>bI fy kg gY (IntKind.i64.wrap (fz + r1)) gZ fB (IntKind.i64.wrap (fC + 1))
theorem ai.j4_P {F:Nat} {H0:Hp} {Ri R0:List Rs}  {C61_:Int→Nat→Nat→Nat→Nat→Int→Sl→Int→Int→Hp→OA} {bI:Int→Int→List Int→Int→List Int→Int→Int→Option (Int×List Int)} (hC61:ai.S61 H0 Ri R0  C61_ bI) {fy rs kg fz fA fB fC:Int} {oL oM oN:ON} {lB hZ lC h_ lD:Nat} {oO oP oQ:Cap} {oR gY gZ:List Int} {oS oT:List AV} {H:Hp} (rt:lB = oR.length) (ru:lC = gY.length) (rv:lD = gZ.length) (h0:Out H0 Ri H (Rs.own ⟨oL,lB,oO⟩ (eInt .i64).z oS :: Rs.blk hZ [.int .i64 rs,.sl ⟨oL,lB,oO⟩] :: Rs.own ⟨oM,lC,oP⟩ (eInt .i64).z oT :: Rs.blk h_ [.int .i64 kg,.sl ⟨oM,lC,oP⟩] :: R0) fun R=>CR (eInt .i64) H R oS oR∧CR (eInt .i64) H R oT gY∧ROs (eInt .i64) H R ⟨oN,lD,oQ⟩ gZ) {r:Int×List Int} (hp:ai.pj4 F bI fy kg gY fz fA gZ fB fC = some r):∃ v H',ai.j4 F (aE.tw F) (aF.tw F) (aH.tw F) C61_ fy hZ 0 h_ 0 fz fA ⟨oN,lD,oQ⟩ fB fC H = some (v,H')∧ai.Q H0 Ri R0  r v H':=by
 obtain ⟨w0,s0,rx,ry,rz⟩:=h0
 subst rt
 subst ru
 subst rv
 unfold ai.pj4 at hp
 unfold ai.j4
 obtain ⟨r1,e1,hp⟩:=bind_some' hp
 refine call_ex (aH.P ⟨w0,trivial⟩ e1) ?_
 rintro _ H2 ⟨rfl,w2,s2,_⟩
 refine bind_ex rfl ?_
 exact hC61 rfl rfl rfl ⟨w2,(s0.trans s2),(rx.step s2),(ry.step s2),(rz.step s2)⟩ hp
def ai.pj5 (F:Nat) (bI:Int→Int→List Int→Int→List Int→Int→Int→Option (Int×List Int)) (fD:Int) (kh:Int) (g_:List Int) (fE:Int) (fF:Int) (hd:List Int) (fG:Int) (fH:Int):Option (Int×List Int):=(aH.p F fF).bind fun r1=>bI fD kh g_ (IntKind.i64.wrap (fE + r1)) hd fG (IntKind.i64.wrap (fH + 1))
theorem ai.j5_P {F:Nat} {H0:Hp} {Ri R0:List Rs}  {C61_:Int→Nat→Nat→Nat→Nat→Int→Sl→Int→Int→Hp→OA} {bI:Int→Int→List Int→Int→List Int→Int→Int→Option (Int×List Int)} (hC61:ai.S61 H0 Ri R0  C61_ bI) {fD rA kh fE fF fG fH:Int} {oU oV oW:ON} {lE ia lF ib lG:Nat} {oX oY oZ:Cap} {o_ g_ hd:List Int} {pa pb:List AV} {H:Hp} (rB:lE = o_.length) (rC:lF = g_.length) (rD:lG = hd.length) (h0:Out H0 Ri H (Rs.own ⟨oU,lE,oX⟩ (eInt .i64).z pa :: Rs.blk ia [.int .i64 rA,.sl ⟨oU,lE,oX⟩] :: Rs.own ⟨oV,lF,oY⟩ (eInt .i64).z pb :: Rs.blk ib [.int .i64 kh,.sl ⟨oV,lF,oY⟩] :: R0) fun R=>CR (eInt .i64) H R pa o_∧CR (eInt .i64) H R pb g_∧ROs (eInt .i64) H R ⟨oW,lG,oZ⟩ hd) {r:Int×List Int} (hp:ai.pj5 F bI fD kh g_ fE fF hd fG fH = some r):∃ v H',ai.j5 F (aE.tw F) (aF.tw F) (aH.tw F) C61_ fD ia 0 ib 0 fE fF ⟨oW,lG,oZ⟩ fG fH H = some (v,H')∧ai.Q H0 Ri R0  r v H':=by
 obtain ⟨w0,s0,rE,rF,rG⟩:=h0
 subst rB
 subst rC
 subst rD
 unfold ai.pj5 at hp
 unfold ai.j5
 obtain ⟨r1,e1,hp⟩:=bind_some' hp
 refine call_ex (aH.P ⟨w0,trivial⟩ e1) ?_
 rintro _ H2 ⟨rfl,w2,s2,_⟩
 refine bind_ex rfl ?_
 exact hC61 rfl rfl rfl ⟨w2,(s0.trans s2),(rE.step s2),(rF.step s2),(rG.step s2)⟩ hp
def ai.pj6 (F:Nat) (bI:Int→Int→List Int→Int→List Int→Int→Int→Option (Int×List Int)) (fI:Int) (ki:Int) (hj:List Int) (fJ:Int) (fK:Int) (hu:List Int) (fL:Int) (fM:Int):Option (Int×List Int):=ai.pj5 F bI fI ki hj fJ fK hu fL fM
theorem ai.j6_P {F:Nat} {H0:Hp} {Ri R0:List Rs}  {C61_:Int→Nat→Nat→Nat→Nat→Int→Sl→Int→Int→Hp→OA} {bI:Int→Int→List Int→Int→List Int→Int→Int→Option (Int×List Int)} (hC61:ai.S61 H0 Ri R0  C61_ bI) {fI rH ki fJ fK fL fM:Int} {pc pd pe:ON} {lH ic lI ie lJ:Nat} {pf pg ph:Cap} {pi hj hu:List Int} {pj pl:List AV} {H:Hp} (rI:lH = pi.length) (rJ:lI = hj.length) (rK:lJ = hu.length) (h0:Out H0 Ri H (Rs.own ⟨pc,lH,pf⟩ (eInt .i64).z pj :: Rs.blk ic [.int .i64 rH,.sl ⟨pc,lH,pf⟩] :: Rs.own ⟨pd,lI,pg⟩ (eInt .i64).z pl :: Rs.blk ie [.int .i64 ki,.sl ⟨pd,lI,pg⟩] :: R0) fun R=>CR (eInt .i64) H R pj pi∧CR (eInt .i64) H R pl hj∧ROs (eInt .i64) H R ⟨pe,lJ,ph⟩ hu) {r:Int×List Int} (hp:ai.pj6 F bI fI ki hj fJ fK hu fL fM = some r):∃ v H',ai.j6 F (aE.tw F) (aF.tw F) (aH.tw F) C61_ fI ic 0 ie 0 fJ fK ⟨pe,lJ,ph⟩ fL fM H = some (v,H')∧ai.Q H0 Ri R0  r v H':=by
 obtain ⟨w0,s0,rL,rM,rN⟩:=h0
 subst rI
 subst rJ
 subst rK
 unfold ai.pj6 at hp
 unfold ai.j6
 exact ai.j5_P (@hC61) rfl rfl rfl ⟨w0,s0,rL,rM,rN⟩ hp
def ai.pl61 (F:Nat) :Nat→Int→Int→List Int→Int→List Int→Int→Int→Option (Int×List Int)
 | 0,_,_,_,_,_,_,_=>none
 | k + 1,bK,eE,ew,bM,dh,ch,bZ=>(bif (decide (bZ < ch)) then ((ix dh bZ).bind fun n1=>(bif ((gt dh n1) == bK) then ((aE.p F 1 bM).bind fun r2=>(aF.p F eE ew r2.1 r2.2).bind fun r8=>ai.pj4 F (ai.pl61 F k) bK r8.1 r8.2 bM (gt dh n1) dh ch bZ) else ((bif ((gt dh n1) == (IntKind.i64.wrap (0 - bK))) then ((aE.p F (-1) (IntKind.i64.wrap (bM - 1))).bind fun r15=>(aF.p F eE ew r15.1 r15.2).bind fun r21=>ai.pj6 F (ai.pl61 F k) bK r21.1 r21.2 bM (gt dh n1) dh ch bZ) else (ai.pj6 F (ai.pl61 F k) bK eE ew bM (gt dh n1) dh ch bZ))))) else (some (eE,ew)))
termination_by structural n=>n
theorem ai.l61_P {F:Nat} {H0:Hp} {Ri R0:List Rs}  :∀ k,ai.S61 H0 Ri R0  (ai.l61 F (aE.tw F) (aF.tw F) (aH.tw F)  k) (ai.pl61 F  k):=by
 intro k
 induction k with
 | zero=>
  intro bK lA eE bM ch bZ jY jZ j_ gV bs gW bL gX ka kb kc kd ew dh ke kf H pm po pp h0 r hp
  exact nomatch (show (none:Option (Int×List Int)) = some r from hp)
 | succ k ih=>
  intro bK lA eE bM ch bZ jY jZ j_ gV bs gW bL gX ka kb kc kd ew dh ke kf H pm po pp h0 r hp
  obtain ⟨w0,s0,lK,kj,kk⟩:=h0
  subst pm
  subst po
  subst pp
  unfold ai.pl61 at hp
  unfold ai.l61
  refine bif_ex (fun hb=>?_) (fun hb=>?_)
  ·replace hp:=bif_t hb hp
   obtain ⟨n1,g1,hp⟩:=bind_some' hp
   obtain ⟨p1,q1,i1,h1,j1⟩:=ROs.ixr kk rfl g1
   refine bind_ex i1 ?_
   have h1:_ = [_]:=h1
   subst h1
   refine bind_ex (ldI_of (j1 0 _ rfl)) ?_
   refine bif_ex (fun hb=>?_) (fun hb=>?_)
   ·replace hp:=bif_t hb hp
    refine bind_ex (ldI_of (w0.ld (i:=3) rfl rfl)) ?_
    refine bind_ex (ldSl_of (w0.ld (i:=3) rfl rfl)) ?_
    obtain ⟨r2,e2,hp⟩:=bind_some' hp
    refine call_ex (aE.P ⟨w0,trivial⟩ e2) ?_
    rintro _ H3 ⟨o1a_3,o1n_3,o1c_3,o1k_3,rfl,rfl,w3,s3,f3_0⟩
    refine bind_ex rfl ?_
    refine bind_ex rfl ?_
    refine bind_ex rfl ?_
    refine bind_ex rfl ?_
    refine bind_ex rfl ?_
    refine ifs_ex (W.cons_of (Rn:=[_]) w0 w3 s3) ?_
    obtain ⟨w5,s5⟩:=w3.pick' [3,0,1,2,4] 5 rfl rfl rfl
    dsimp only [pk,pks,nth,List.drop] at w5 s5
    have f6:=W.borrow1 (eInt .i64) w5 (kj.step (s3.trans s5))
    obtain ⟨w6,s6⟩:=w5.right1
    have f7:=W.borrow1 (eInt .i64) w6 ((f3_0.step s5).step s6)
    obtain ⟨w7,s7⟩:=w6.right1
    obtain ⟨r8,e8,hp⟩:=bind_some' hp
    refine call_ex (aF.P rfl rfl ⟨w7,(f6.step s7),f7⟩ e8) ?_
    rintro _ H9 ⟨o1a_9,o1n_9,o1c_9,o1k_9,rfl,rfl,w9,s9,f9_0⟩
    obtain ⟨w10,s10⟩:=W.frame1 w6 w9 s9
    obtain ⟨w11,s11⟩:=W.frame1 w5 w10 s10
    refine bind_ex rfl ?_
    refine bind_ex rfl ?_
    refine bind_ex rfl ?_
    refine bind_ex rfl ?_
    refine bind_ex rfl ?_
    refine st_k w11 (i:=5) rfl rfl rfl fun H12 w12 s12=>?_
    dsimp only [List.set] at w12 s12
    refine st_k w12 (i:=5) rfl rfl rfl fun H13 w13 s13=>?_
    dsimp only [List.set] at w13 s13
    obtain ⟨w14,s14⟩:=w13.pick' [3,4,2,5] 6 rfl rfl rfl
    dsimp only [pk,pks,nth,List.drop] at w14 s14
    exact ai.j4_P (@ih) rfl rfl rfl ⟨w14,(s0.trans (s3.trans (s5.trans (s11.trans (s12.trans (s13.trans s14)))))),(lK.step (s3.trans (s5.trans (s11.trans (s12.trans (s13.trans s14)))))),((CR.flat (eInt_flat .i64) f9_0).step (s12.trans (s13.trans s14))),(kk.step (s3.trans (s5.trans (s11.trans (s12.trans (s13.trans s14))))))⟩ hp
   ·replace hp:=bif_f hb hp
    refine bif_ex (fun hb=>?_) (fun hb=>?_)
    ·replace hp:=bif_t hb hp
     refine bind_ex (ldI_of (w0.ld (i:=3) rfl rfl)) ?_
     refine bind_ex (ldSl_of (w0.ld (i:=3) rfl rfl)) ?_
     obtain ⟨r15,e15,hp⟩:=bind_some' hp
     refine call_ex (aE.P ⟨w0,trivial⟩ e15) ?_
     rintro _ H16 ⟨o1a_16,o1n_16,o1c_16,o1k_16,rfl,rfl,w16,s16,f16_0⟩
     refine bind_ex rfl ?_
     refine bind_ex rfl ?_
     refine bind_ex rfl ?_
     refine bind_ex rfl ?_
     refine bind_ex rfl ?_
     refine ifs_ex (W.cons_of (Rn:=[_]) w0 w16 s16) ?_
     obtain ⟨w18,s18⟩:=w16.pick' [3,0,1,2,4] 5 rfl rfl rfl
     dsimp only [pk,pks,nth,List.drop] at w18 s18
     have f19:=W.borrow1 (eInt .i64) w18 (kj.step (s16.trans s18))
     obtain ⟨w19,s19⟩:=w18.right1
     have f20:=W.borrow1 (eInt .i64) w19 ((f16_0.step s18).step s19)
     obtain ⟨w20,s20⟩:=w19.right1
     obtain ⟨r21,e21,hp⟩:=bind_some' hp
     refine call_ex (aF.P rfl rfl ⟨w20,(f19.step s20),f20⟩ e21) ?_
     rintro _ H22 ⟨o1a_22,o1n_22,o1c_22,o1k_22,rfl,rfl,w22,s22,f22_0⟩
     obtain ⟨w23,s23⟩:=W.frame1 w19 w22 s22
     obtain ⟨w24,s24⟩:=W.frame1 w18 w23 s23
     refine bind_ex rfl ?_
     refine bind_ex rfl ?_
     refine bind_ex rfl ?_
     refine bind_ex rfl ?_
     refine bind_ex rfl ?_
     refine st_k w24 (i:=5) rfl rfl rfl fun H25 w25 s25=>?_
     dsimp only [List.set] at w25 s25
     refine st_k w25 (i:=5) rfl rfl rfl fun H26 w26 s26=>?_
     dsimp only [List.set] at w26 s26
     obtain ⟨w27,s27⟩:=w26.pick' [3,4,2,5] 6 rfl rfl rfl
     dsimp only [pk,pks,nth,List.drop] at w27 s27
     exact ai.j6_P (@ih) rfl rfl rfl ⟨w27,(s0.trans (s16.trans (s18.trans (s24.trans (s25.trans (s26.trans s27)))))),(lK.step (s16.trans (s18.trans (s24.trans (s25.trans (s26.trans s27)))))),((CR.flat (eInt_flat .i64) f22_0).step (s25.trans (s26.trans s27))),(kk.step (s16.trans (s18.trans (s24.trans (s25.trans (s26.trans s27))))))⟩ hp
    ·replace hp:=bif_f hb hp
     exact ai.j6_P (@ih) rfl rfl rfl ⟨w0,s0,lK,kj,kk⟩ hp
  ·replace hp:=bif_f hb hp
   refine bind_ex (ldI_of (w0.ld (i:=3) rfl rfl)) ?_
   refine bind_ex (ldSl_of (w0.ld (i:=3) rfl rfl)) ?_
   refine st_k w0 (i:=1) rfl rfl rfl fun H28 w28 s28=>?_
   dsimp only [List.set] at w28 s28
   refine st_k w28 (i:=1) rfl rfl rfl fun H29 w29 s29=>?_
   dsimp only [List.set] at w29 s29
   refine bind_ex (ldI_of (w29.ld (i:=1) rfl rfl)) ?_
   refine bind_ex (ldSl_of (w29.ld (i:=1) rfl rfl)) ?_
   obtain ⟨w30,s30⟩:=w29.pick' [2] 4 rfl rfl rfl
   dsimp only [pk,pks,nth,List.drop] at w30 s30
   obtain rfl:=Option.some.inj hp
   exact ⟨_,_,rfl,_,_,_,_,rfl,rfl,w30,(s0.trans (s28.trans (s29.trans s30))),(kj.step (s28.trans (s29.trans s30)))⟩
def ai.p (F:Nat) (ak:List Int) (ab:Int):Option (Int×List Int):=ai.pl61 F F ab 0 ([]:List Int) 0 ak (ak.length:Int) 0
theorem ai.P {F:Nat} {aK:ON} {ay:Nat} {aL:Cap} {ak:List Int} {ab:Int} {H:Hp} {R0:List Rs} (br:ay = ak.length) (h0:Inn H R0 fun R=>ROs (eInt .i64) H R ⟨aK,ay,aL⟩ ak) {r:Int×List Int} (hp:ai.p F ak ab = some r):∃ v H',ai.tw F ⟨aK,ay,aL⟩ ab H = some (v,H')∧ai.Q H R0 R0  r v H':=by
 obtain ⟨w0,bl⟩:=h0
 subst br
 unfold ai.p at hp
 unfold ai.tw ai.twX
 have s0:=w0.rf
 refine new_k w0 fun H1 w1 s1=>?_
 refine new_k w1 fun H2 w2 s2=>?_
 obtain ⟨w3,s3⟩:=w2.nilS (eInt .i64).z (by decide)
 obtain ⟨w4,s4⟩:=w3.nilS (eInt .i64).z (by decide)
 obtain ⟨w5,s5⟩:=w4.pick' [1,3,0,2] 4 rfl rfl rfl
 dsimp only [pk,pks,nth,List.drop] at w5 s5
 exact ai.l61_P F rfl rfl rfl ⟨w5,(s0.trans (s1.trans (s2.trans (s3.trans (s4.trans s5))))),((CR.empty:CR (eInt .i64) _ _ [] []).step (s4.trans s5)),((CR.empty:CR (eInt .i64) _ _ [] []).step s5),(bl.step (s1.trans (s2.trans (s3.trans (s4.trans s5)))))⟩ hp
def aN.Q (H0:Hp) (Ri R0:List Rs)  (r:Int×List Int×Int) (v:AV) (H':Hp):Prop:=∃ o1a:ON,∃ o1n:Nat,∃ o1c:Cap,∃ o1k:List AV,v = (.tup [(.agg [(.int .i64 r.1),(.sl ⟨o1a,o1n,o1c⟩)]),(.int .i64 r.2.2)])∧o1n = (r.2.1).length∧Out H0 Ri H' (Rs.own ⟨o1a,o1n,o1c⟩ (eInt .i64).z o1k :: R0) fun R=>CR (eInt .i64) H' R o1k (r.2.1)
def aN.p (F:Nat) (ak:List Int) (ab:Int):Option (Int×List Int×Int):=(aS.p F ak).bind fun r2=>(bif (!r2) then (some (0,([]:List Int),1)) else ((aD.p F ab 1 24).bind fun r8=>(bif (!r8) then (some (0,([]:List Int),2)) else ((ai.p F ak ab).bind fun r14=>some (r14.1,r14.2,0)))))
theorem aN.P {F:Nat} {aK:ON} {ay:Nat} {aL:Cap} {ak:List Int} {ab:Int} {H:Hp} {R0:List Rs} (br:ay = ak.length) (h0:Inn H R0 fun R=>ROs (eInt .i64) H R ⟨aK,ay,aL⟩ ak) {r:Int×List Int×Int} (hp:aN.p F ak ab = some r):∃ v H',aN.tw F ⟨aK,ay,aL⟩ ab H = some (v,H')∧aN.Q H R0 R0  r v H':=by
 obtain ⟨w0,bl⟩:=h0
 subst br
 unfold aN.p at hp
 unfold aN.tw aN.twX
 have s0:=w0.rf
 refine new_k w0 fun H1 w1 s1=>?_
 obtain ⟨r2,e2,hp⟩:=bind_some' hp
 refine call_ex (aS.P rfl ⟨w1,(bl.step s1)⟩ e2) ?_
 rintro _ H3 ⟨rfl,w3,s3,_⟩
 refine bind_ex rfl ?_
 refine bif_ex (fun hb=>?_) (fun hb=>?_)
 ·replace hp:=bif_t hb hp
  refine st_k w3 (i:=0) rfl rfl rfl fun H4 w4 s4=>?_
  dsimp only [List.set] at w4 s4
  refine st_k w4 (i:=0) rfl rfl rfl fun H5 w5 s5=>?_
  dsimp only [List.set] at w5 s5
  refine bind_ex (ldI_of (w5.ld (i:=0) rfl rfl)) ?_
  refine bind_ex (ldSl_of (w5.ld (i:=0) rfl rfl)) ?_
  obtain ⟨w6,s6⟩:=w5.nilS (eInt .i64).z (by decide)
  obtain ⟨w7,s7⟩:=w6.pick' [0] 2 rfl rfl rfl
  dsimp only [pk,pks,nth,List.drop] at w7 s7
  obtain rfl:=Option.some.inj hp
  exact ⟨_,_,rfl,_,_,_,_,rfl,rfl,w7,(s0.trans (s1.trans (s3.trans (s4.trans (s5.trans (s6.trans s7)))))),((CR.empty:CR (eInt .i64) _ _ [] []).step s7)⟩
 ·replace hp:=bif_f hb hp
  obtain ⟨r8,e8,hp⟩:=bind_some' hp
  refine call_ex (aD.P ⟨w3,trivial⟩ e8) ?_
  rintro _ H9 ⟨rfl,w9,s9,_⟩
  refine bind_ex rfl ?_
  refine bif_ex (fun hb=>?_) (fun hb=>?_)
  ·replace hp:=bif_t hb hp
   refine st_k w9 (i:=0) rfl rfl rfl fun H10 w10 s10=>?_
   dsimp only [List.set] at w10 s10
   refine st_k w10 (i:=0) rfl rfl rfl fun H11 w11 s11=>?_
   dsimp only [List.set] at w11 s11
   refine bind_ex (ldI_of (w11.ld (i:=0) rfl rfl)) ?_
   refine bind_ex (ldSl_of (w11.ld (i:=0) rfl rfl)) ?_
   obtain ⟨w12,s12⟩:=w11.nilS (eInt .i64).z (by decide)
   obtain ⟨w13,s13⟩:=w12.pick' [0] 2 rfl rfl rfl
   dsimp only [pk,pks,nth,List.drop] at w13 s13
   obtain rfl:=Option.some.inj hp
   exact ⟨_,_,rfl,_,_,_,_,rfl,rfl,w13,(s0.trans (s1.trans (s3.trans (s9.trans (s10.trans (s11.trans (s12.trans s13))))))),((CR.empty:CR (eInt .i64) _ _ [] []).step s13)⟩
  ·replace hp:=bif_f hb hp
   obtain ⟨r14,e14,hp⟩:=bind_some' hp
   refine call_ex (ai.P rfl ⟨w9,(bl.step (s1.trans (s3.trans s9)))⟩ e14) ?_
   rintro _ H15 ⟨o1a_15,o1n_15,o1c_15,o1k_15,rfl,rfl,w15,s15,f15_0⟩
   refine bind_ex rfl ?_
   refine bind_ex rfl ?_
   refine bind_ex rfl ?_
   refine bind_ex rfl ?_
   refine bind_ex rfl ?_
   refine st_k w15 (i:=1) rfl rfl rfl fun H16 w16 s16=>?_
   dsimp only [List.set] at w16 s16
   refine st_k w16 (i:=1) rfl rfl rfl fun H17 w17 s17=>?_
   dsimp only [List.set] at w17 s17
   refine bind_ex (ldI_of (w17.ld (i:=1) rfl rfl)) ?_
   refine bind_ex (ldSl_of (w17.ld (i:=1) rfl rfl)) ?_
   obtain ⟨w18,s18⟩:=w17.pick' [0] 2 rfl rfl rfl
   dsimp only [pk,pks,nth,List.drop] at w18 s18
   obtain rfl:=Option.some.inj hp
   exact ⟨_,_,rfl,_,_,_,_,rfl,rfl,w18,(s0.trans (s1.trans (s3.trans (s9.trans (s15.trans (s16.trans (s17.trans s18))))))),(f15_0.step (s16.trans (s17.trans s18)))⟩
def ap.Q (H0:Hp) (Ri R0:List Rs)  (r:Bool) (v:AV) (H':Hp):Prop:=v = (.bool r)∧Out H0 Ri H' (R0) fun R=>True
def ap.S29 (H0:Hp) (Ri R0:List Rs)  (C:Sl→Sl→Int→Hp→OA) (pC:List Int→List Int→Int→Option (Bool)):Prop:=∀ {dl kl:ON} {cW hz:Nat} {dm km:Cap} {bk eF:List Int} {cw:Int},∀ {H:Hp},cW = bk.length→hz = eF.length→(Out H0 Ri H R0 fun R=>ROs (eInt .i64) H R ⟨dl,cW,dm⟩ bk∧ROs (eInt .i64) H R ⟨kl,hz,km⟩ eF)→∀ {r:Bool},pC bk eF cw = some r→∃ v H',C ⟨dl,cW,dm⟩ ⟨kl,hz,km⟩ cw H = some (v,H')∧ap.Q H0 Ri R0  r v H'
def ap.pl29 (F:Nat) :Nat→List Int→List Int→Int→Option (Bool)
 | 0,_,_,_=>none
 | k + 1,bk,eF,cw=>(bif (decide (cw < (bk.length:Int))) then ((ix bk cw).bind fun n1=>(ix eF cw).bind fun n2=>(bif ((gt bk n1) != (gt eF n2)) then (some false) else (ap.pl29 F k bk eF (IntKind.i64.wrap (cw + 1))))) else (some true))
termination_by structural n=>n
theorem ap.l29_P {F:Nat} {H0:Hp} {Ri R0:List Rs}  :∀ k,ap.S29 H0 Ri R0  (ap.l29 F   k) (ap.pl29 F  k):=by
 intro k
 induction k with
 | zero=>
  intro dl kl cW hz dm km bk eF cw H ec pq h0 r hp
  exact nomatch (show (none:Option (Bool)) = some r from hp)
 | succ k ih=>
  intro dl kl cW hz dm km bk eF cw H ec pq h0 r hp
  obtain ⟨w0,s0,dG,pr⟩:=h0
  subst ec
  subst pq
  unfold ap.pl29 at hp
  unfold ap.l29
  refine bif_ex (fun hb=>?_) (fun hb=>?_)
  ·replace hp:=bif_t hb hp
   obtain ⟨n1,g1,hp⟩:=bind_some' hp
   obtain ⟨p1,q1,i1,h1,j1⟩:=ROs.ixr dG rfl g1
   refine bind_ex i1 ?_
   have h1:_ = [_]:=h1
   subst h1
   refine bind_ex (ldI_of (j1 0 _ rfl)) ?_
   obtain ⟨n2,g2,hp⟩:=bind_some' hp
   obtain ⟨p2,q2,i2,h2,j2⟩:=ROs.ixr pr rfl g2
   refine bind_ex i2 ?_
   have h2:_ = [_]:=h2
   subst h2
   refine bind_ex (ldI_of (j2 0 _ rfl)) ?_
   refine bif_ex (fun hb=>?_) (fun hb=>?_)
   ·replace hp:=bif_t hb hp
    obtain rfl:=Option.some.inj hp
    exact ⟨_,_,rfl,rfl,w0,s0,trivial⟩
   ·replace hp:=bif_f hb hp
    exact ih rfl rfl ⟨w0,s0,dG,pr⟩ hp
  ·replace hp:=bif_f hb hp
   obtain rfl:=Option.some.inj hp
   exact ⟨_,_,rfl,rfl,w0,s0,trivial⟩
def ap.p (F:Nat) (ak:List Int) (dz:List Int):Option (Bool):=(bif ((ak.length:Int) != (dz.length:Int)) then (some false) else (ap.pl29 F F ak dz 0))
theorem ap.P {F:Nat} {aK gd:ON} {ay e_:Nat} {aL gf:Cap} {ak dz:List Int} {H:Hp} {R0:List Rs} (br:ay = ak.length) (kH:e_ = dz.length) (h0:Inn H R0 fun R=>ROs (eInt .i64) H R ⟨aK,ay,aL⟩ ak∧ROs (eInt .i64) H R ⟨gd,e_,gf⟩ dz) {r:Bool} (hp:ap.p F ak dz = some r):∃ v H',ap.tw F ⟨aK,ay,aL⟩ ⟨gd,e_,gf⟩ H = some (v,H')∧ap.Q H R0 R0  r v H':=by
 obtain ⟨w0,bl,kI⟩:=h0
 subst br
 subst kH
 unfold ap.p at hp
 unfold ap.tw ap.twX
 have s0:=w0.rf
 refine bif_ex (fun hb=>?_) (fun hb=>?_)
 ·replace hp:=bif_t hb hp
  obtain rfl:=Option.some.inj hp
  exact ⟨_,_,rfl,rfl,w0,s0,trivial⟩
 ·replace hp:=bif_f hb hp
  exact ap.l29_P F rfl rfl ⟨w0,s0,bl,kI⟩ hp
def aJ.Q (H0:Hp) (Ri R0:List Rs)  (r:Bool) (v:AV) (H':Hp):Prop:=v = (.bool r)∧Out H0 Ri H' (R0) fun R=>True
def aJ.p (F:Nat) (aa:Int) (az:List Int) (ac:Int) (bH:List Int):Option (Bool):=(bif (aa != ac) then (some false) else ((ap.p F az bH).bind fun r4=>(bif (!r4) then (some false) else (some true))))
theorem aJ.P {F:Nat} {aa ac:Int} {bz eh:ON} {bh df:Nat} {bA ei:Cap} {az bH:List Int} {H:Hp} {R0:List Rs} (cC:bh = az.length) (fb:df = bH.length) (h0:Inn H R0 fun R=>ROs (eInt .i64) H R ⟨bz,bh,bA⟩ az∧ROs (eInt .i64) H R ⟨eh,df,ei⟩ bH) {r:Bool} (hp:aJ.p F aa az ac bH = some r):∃ v H',aJ.tw F aa ⟨bz,bh,bA⟩ ac ⟨eh,df,ei⟩ H = some (v,H')∧aJ.Q H R0 R0  r v H':=by
 obtain ⟨w0,bN,ev⟩:=h0
 subst cC
 subst fb
 unfold aJ.p at hp
 unfold aJ.tw aJ.twX
 have s0:=w0.rf
 refine new_k w0 fun H1 w1 s1=>?_
 refine new_k w1 fun H2 w2 s2=>?_
 refine bind_ex (ldI_of (w2.ld (i:=1) rfl rfl)) ?_
 refine bind_ex (ldI_of (w2.ld (i:=0) rfl rfl)) ?_
 refine bif_ex (fun hb=>?_) (fun hb=>?_)
 ·replace hp:=bif_t hb hp
  obtain ⟨w3,s3⟩:=w2.pick' [] 2 rfl rfl rfl
  dsimp only [pk,pks,nth,List.drop] at w3 s3
  obtain rfl:=Option.some.inj hp
  exact ⟨_,_,rfl,rfl,w3,(s0.trans (s1.trans (s2.trans s3))),trivial⟩
 ·replace hp:=bif_f hb hp
  refine bind_ex (ldSl_of (w2.ld (i:=1) rfl rfl)) ?_
  refine bind_ex (ldSl_of (w2.ld (i:=0) rfl rfl)) ?_
  obtain ⟨r4,e4,hp⟩:=bind_some' hp
  refine call_ex (ap.P rfl rfl ⟨w2,(bN.step (s1.trans s2)),(ev.step (s1.trans s2))⟩ e4) ?_
  rintro _ H5 ⟨rfl,w5,s5,_⟩
  refine bind_ex rfl ?_
  refine bif_ex (fun hb=>?_) (fun hb=>?_)
  ·replace hp:=bif_t hb hp
   obtain ⟨w6,s6⟩:=w5.pick' [] 2 rfl rfl rfl
   dsimp only [pk,pks,nth,List.drop] at w6 s6
   obtain rfl:=Option.some.inj hp
   exact ⟨_,_,rfl,rfl,w6,(s0.trans (s1.trans (s2.trans (s5.trans s6)))),trivial⟩
  ·replace hp:=bif_f hb hp
   obtain ⟨w7,s7⟩:=w5.pick' [] 2 rfl rfl rfl
   dsimp only [pk,pks,nth,List.drop] at w7 s7
   obtain rfl:=Option.some.inj hp
   exact ⟨_,_,rfl,rfl,w7,(s0.trans (s1.trans (s2.trans (s5.trans s7)))),trivial⟩
def aq.Q (H0:Hp) (Ri R0:List Rs) (aK:ON) (ay:Nat) (aL:Cap) (hB:Bool) (hC hD:List AV) (r:Int×List Int) (v:AV) (H':Hp):Prop:=∃ ps:List AV,v = (.int .i64 r.1)∧ay = (r.2).length∧Out H0 Ri H' (Rs.ow hB ⟨aK,ay,aL⟩ (eInt .i64).z hC ps hD :: R0) fun R=>CR (eInt .i64) H' R ps (r.2)
def aq.S13 (H0:Hp) (Ri R0:List Rs) (hE:ON) (fR:Nat) (hG:Cap) (kn:Bool) (ko kp:List AV) (C:Sl→Int→Int→Hp→OA) (pC:List Int→Int→Int→Option (Int×List Int)):Prop:=∀ {bk:List Int} {kq:List AV} {bb bq:Int},∀ {H:Hp},fR = bk.length→(Out H0 Ri H (Rs.ow kn ⟨hE,fR,hG⟩ (eInt .i64).z ko kq kp :: R0) fun R=>CR (eInt .i64) H R kq bk)→∀ {r:Int×List Int},pC bk bb bq = some r→∃ v H',C ⟨hE,fR,hG⟩ bb bq H = some (v,H')∧aq.Q H0 Ri R0 hE fR hG kn ko kp r v H'
def aq.pl13 (F:Nat) :Nat→List Int→Int→Int→Option (Int×List Int)
 | 0,_,_,_=>none
 | k + 1,bk,bb,bq=>(bif (decide (bq < (bk.length:Int))) then ((ix bk bq).bind fun n1=>(some (bk.set n1 bb)).bind fun l2=>aq.pl13 F k l2 (IntKind.i64.wrap (bb + 1)) (IntKind.i64.wrap (bq + 1))) else (some (bb,bk)))
termination_by structural n=>n
theorem aq.l13_P {F:Nat} {H0:Hp} {Ri R0:List Rs} {hE:ON} {fR:Nat} {hG:Cap} {kn:Bool} {ko kp:List AV} :∀ k,aq.S13 H0 Ri R0 hE fR hG kn ko kp (aq.l13 F   k) (aq.pl13 F  k):=by
 intro k
 induction k with
 | zero=>
  intro bk kq bb bq H ec h0 r hp
  exact nomatch (show (none:Option (Int×List Int)) = some r from hp)
 | succ k ih=>
  intro bk kq bb bq H ec h0 r hp
  obtain ⟨w0,s0,dG⟩:=h0
  subst ec
  unfold aq.pl13 at hp
  unfold aq.l13
  refine bif_ex (fun hb=>?_) (fun hb=>?_)
  ·replace hp:=bif_t hb hp
   obtain ⟨n1,g1,hp⟩:=bind_some' hp
   obtain ⟨p1,q1,i1,h1,j1⟩:=W.ixo (E:=(eInt .i64)) w0 (i:=0) rfl rfl dG g1
   refine bind_ex i1 ?_
   obtain ⟨l2,e2,hp⟩:=bind_some' hp
   refine sto_k (eInt .i64) w0 (i:=0) (j:=0) (p:=p1) rfl rfl dG g1 i1 e2 rfl rfl (fun _ h=>by have h:_ = [_]:=h; subst h; exact rfl) fun H3 k3 w3 s3 c3=>?_
   dsimp only [List.set] at w3 s3 c3
   exact ih ((st_len e2).symm) ⟨w3,(s0.trans s3),c3⟩ hp
  ·replace hp:=bif_f hb hp
   obtain rfl:=Option.some.inj hp
   exact ⟨_,_,rfl,_,rfl,rfl,w0,s0,dG⟩
def aq.p (F:Nat) (ak:List Int) (ab:Int):Option (Int×List Int):=aq.pl13 F F ak ab 0
theorem aq.P {F:Nat} {aK:ON} {ay:Nat} {aL:Cap} {ak:List Int} {hB:Bool} {hC hD lL:List AV} {ab:Int} {H:Hp} {R0:List Rs} (br:ay = ak.length) (h0:Inn H (Rs.ow hB ⟨aK,ay,aL⟩ (eInt .i64).z hC lL hD :: R0) fun R=>CR (eInt .i64) H R lL ak) {r:Int×List Int} (hp:aq.p F ak ab = some r):∃ v H',aq.tw F ⟨aK,ay,aL⟩ ab H = some (v,H')∧aq.Q H (Rs.ow hB ⟨aK,ay,aL⟩ (eInt .i64).z hC lL hD :: R0) R0 aK ay aL hB hC hD r v H':=by
 obtain ⟨w0,bl⟩:=h0
 subst br
 unfold aq.p at hp
 unfold aq.tw aq.twX
 have s0:=w0.rf
 exact aq.l13_P F rfl ⟨w0,s0,bl⟩ hp
def aY.Q (H0:Hp) (Ri R0:List Rs) (bz:ON) (bh:Nat) (bA:Cap) (hH:Bool) (hI hJ:List AV) (r:Int×List Int) (v:AV) (H':Hp):Prop:=∃ pt:List AV,v = (.int .i64 r.1)∧bh = (r.2).length∧Out H0 Ri H' (Rs.ow hH ⟨bz,bh,bA⟩ (eInt .i64).z hI pt hJ :: R0) fun R=>CR (eInt .i64) H' R pt (r.2)
def aY.p (F:Nat) (az:List Int) (ac:Int):Option (Int×List Int):=(aq.p F az ac).bind fun r3=>some (r3.1,r3.2)
theorem aY.P {F:Nat} {aa ac:Int} {bz:ON} {bh:Nat} {bA:Cap} {az:List Int} {hH:Bool} {hI hJ lM:List AV} {H:Hp} {R0:List Rs} (cC:bh = az.length) (h0:Inn H (Rs.ow hH ⟨bz,bh,bA⟩ (eInt .i64).z hI lM hJ :: R0) fun R=>CR (eInt .i64) H R lM az) {r:Int×List Int} (hp:aY.p F az ac = some r):∃ v H',aY.tw F aa ⟨bz,bh,bA⟩ ac H = some (v,H')∧aY.Q H (Rs.ow hH ⟨bz,bh,bA⟩ (eInt .i64).z hI lM hJ :: R0) R0 bz bh bA hH hI hJ r v H':=by
 obtain ⟨w0,bN⟩:=h0
 subst cC
 unfold aY.p at hp
 unfold aY.tw aY.twX
 have s0:=w0.rf
 refine new_k w0 fun H1 w1 s1=>?_
 refine bind_ex (ldSl_of (w1.ld (i:=0) rfl rfl)) ?_
 obtain ⟨w2,s2⟩:=w1.pick' [1,0] 2 rfl rfl rfl
 dsimp only [pk,pks,nth,List.drop] at w2 s2
 obtain ⟨r3,e3,hp⟩:=bind_some' hp
 refine call_ex (aq.P rfl ⟨w2,(bN.step (s1.trans s2))⟩ e3) ?_
 rintro _ H4 ⟨rX,rfl,hl4_0,w4,s4,f4_0⟩
 refine bind_ex rfl ?_
 obtain ⟨w5,s5⟩:=w4.pick' [0] 2 rfl rfl rfl
 dsimp only [pk,pks,nth,List.drop] at w5 s5
 obtain rfl:=Option.some.inj hp
 exact ⟨_,_,rfl,_,rfl,hl4_0,w5,(s0.trans (s1.trans (s2.trans (s4.trans s5)))),(f4_0.step s5)⟩
def ax.Q (H0:Hp) (Ri R0:List Rs)  (r:Int) (v:AV) (H':Hp):Prop:=v = (.int .i64 r)∧Out H0 Ri H' (R0) fun R=>True
def ax.S13 (H0:Hp) (Ri R0:List Rs)  (C:Sl→Int→Int→Hp→OA) (pC:List Int→Int→Int→Option (Int)):Prop:=∀ {dl:ON} {cW:Nat} {dm:Cap} {bk:List Int} {bb bq:Int},∀ {H:Hp},cW = bk.length→(Out H0 Ri H R0 fun R=>ROs (eInt .i64) H R ⟨dl,cW,dm⟩ bk)→∀ {r:Int},pC bk bb bq = some r→∃ v H',C ⟨dl,cW,dm⟩ bb bq H = some (v,H')∧ax.Q H0 Ri R0  r v H'
def ax.pl13 (F:Nat) :Nat→List Int→Int→Int→Option (Int)
 | 0,_,_,_=>none
 | k + 1,bk,bb,bq=>(bif (decide (bq < (bk.length:Int))) then ((ix bk bq).bind fun n1=>(bif ((gt bk n1) != bb) then (some (-1)) else (ax.pl13 F k bk (IntKind.i64.wrap (bb + 1)) (IntKind.i64.wrap (bq + 1))))) else (some bb))
termination_by structural n=>n
theorem ax.l13_P {F:Nat} {H0:Hp} {Ri R0:List Rs}  :∀ k,ax.S13 H0 Ri R0  (ax.l13 F   k) (ax.pl13 F  k):=by
 intro k
 induction k with
 | zero=>
  intro dl cW dm bk bb bq H ec h0 r hp
  exact nomatch (show (none:Option (Int)) = some r from hp)
 | succ k ih=>
  intro dl cW dm bk bb bq H ec h0 r hp
  obtain ⟨w0,s0,dG⟩:=h0
  subst ec
  unfold ax.pl13 at hp
  unfold ax.l13
  refine bif_ex (fun hb=>?_) (fun hb=>?_)
  ·replace hp:=bif_t hb hp
   obtain ⟨n1,g1,hp⟩:=bind_some' hp
   obtain ⟨p1,q1,i1,h1,j1⟩:=ROs.ixr dG rfl g1
   refine bind_ex i1 ?_
   have h1:_ = [_]:=h1
   subst h1
   refine bind_ex (ldI_of (j1 0 _ rfl)) ?_
   refine bif_ex (fun hb=>?_) (fun hb=>?_)
   ·replace hp:=bif_t hb hp
    obtain rfl:=Option.some.inj hp
    exact ⟨_,_,rfl,rfl,w0,s0,trivial⟩
   ·replace hp:=bif_f hb hp
    exact ih rfl ⟨w0,s0,dG⟩ hp
  ·replace hp:=bif_f hb hp
   obtain rfl:=Option.some.inj hp
   exact ⟨_,_,rfl,rfl,w0,s0,trivial⟩
def ax.p (F:Nat) (ak:List Int) (ab:Int):Option (Int):=ax.pl13 F F ak ab 0
theorem ax.P {F:Nat} {aK:ON} {ay:Nat} {aL:Cap} {ak:List Int} {ab:Int} {H:Hp} {R0:List Rs} (br:ay = ak.length) (h0:Inn H R0 fun R=>ROs (eInt .i64) H R ⟨aK,ay,aL⟩ ak) {r:Int} (hp:ax.p F ak ab = some r):∃ v H',ax.tw F ⟨aK,ay,aL⟩ ab H = some (v,H')∧ax.Q H R0 R0  r v H':=by
 obtain ⟨w0,bl⟩:=h0
 subst br
 unfold ax.p at hp
 unfold ax.tw ax.twX
 have s0:=w0.rf
 exact ax.l13_P F rfl ⟨w0,s0,bl⟩ hp
def aQ.Q (H0:Hp) (Ri R0:List Rs)  (r:Int) (v:AV) (H':Hp):Prop:=v = (.int .i64 r)∧Out H0 Ri H' (R0) fun R=>True
def aQ.p (F:Nat) (az:List Int) (ac:Int):Option (Int):=(ax.p F az ac).bind fun r2=>(bif (decide (r2 < 0)) then (some (-1)) else (some r2))
theorem aQ.P {F:Nat} {aa ac:Int} {bz:ON} {bh:Nat} {bA:Cap} {az:List Int} {H:Hp} {R0:List Rs} (cC:bh = az.length) (h0:Inn H R0 fun R=>ROs (eInt .i64) H R ⟨bz,bh,bA⟩ az) {r:Int} (hp:aQ.p F az ac = some r):∃ v H',aQ.tw F aa ⟨bz,bh,bA⟩ ac H = some (v,H')∧aQ.Q H R0 R0  r v H':=by
 obtain ⟨w0,bN⟩:=h0
 subst cC
 unfold aQ.p at hp
 unfold aQ.tw aQ.twX
 have s0:=w0.rf
 refine new_k w0 fun H1 w1 s1=>?_
 refine bind_ex (ldSl_of (w1.ld (i:=0) rfl rfl)) ?_
 obtain ⟨r2,e2,hp⟩:=bind_some' hp
 refine call_ex (ax.P rfl ⟨w1,(bN.step s1)⟩ e2) ?_
 rintro _ H3 ⟨rfl,w3,s3,_⟩
 refine bind_ex rfl ?_
 refine bif_ex (fun hb=>?_) (fun hb=>?_)
 ·replace hp:=bif_t hb hp
  obtain ⟨w4,s4⟩:=w3.pick' [] 1 rfl rfl rfl
  dsimp only [pk,pks,nth,List.drop] at w4 s4
  obtain rfl:=Option.some.inj hp
  exact ⟨_,_,rfl,rfl,w4,(s0.trans (s1.trans (s3.trans s4))),trivial⟩
 ·replace hp:=bif_f hb hp
  obtain ⟨w5,s5⟩:=w3.pick' [] 1 rfl rfl rfl
  dsimp only [pk,pks,nth,List.drop] at w5 s5
  obtain rfl:=Option.some.inj hp
  exact ⟨_,_,rfl,rfl,w5,(s0.trans (s1.trans (s3.trans s5))),trivial⟩
def bc.Q (H0:Hp) (Ri R0:List Rs)  (r:Bool) (v:AV) (H':Hp):Prop:=v = (.bool r)∧Out H0 Ri H' (R0) fun R=>True
def bc.p (F:Nat) (ak:List Int) (ab:Int):Option (Bool):=(bif (decide ((ak.length:Int) > 1048576)) then (some true) else ((ar.p F ak).bind fun r1=>(aR.p F r1 ab).bind fun r4=>(ar.p F ak).bind fun r10=>(aN.p F r10 ab).bind fun r13=>(aJ.p F r13.1 r13.2.1 r4.1 r4.2.1).bind fun r22=>(bif (!r22) then (some false) else ((bif (r13.2.2 != r4.2.2) then (some false) else ((ar.p F ak).bind fun r28=>(ap.p F r10 r28).bind fun r33=>(bif (!r33) then (some false) else ((aq.p F r10 1).bind fun r38=>(bif (decide (r38.1 < 0)) then (some false) else ((aJ.p F r13.1 r13.2.1 r4.1 r4.2.1).bind fun r44=>(bif (!r44) then (some false) else ((bif (r13.2.2 != r4.2.2) then (some false) else ((aY.p F r13.2.1 1).bind fun r50=>(aQ.p F r50.2 1).bind fun r53=>(bif (decide (r53 < 0)) then (some false) else ((bif (r53 != r50.1) then (some false) else ((ar.p F ak).bind fun r58=>(aN.p F r58 ab).bind fun r61=>(aJ.p F r61.1 r61.2.1 r4.1 r4.2.1).bind fun r70=>(bif (!r70) then (some false) else ((bif (r61.2.2 != r4.2.2) then (some false) else ((aQ.p F r50.2 1).bind fun r78=>(bif (decide (r78 < 0)) then (some false) else ((bif (r78 != r50.1) then (some false) else (some true))))))))))))))))))))))))))
theorem bc.P {F:Nat} {aK:ON} {ay:Nat} {aL:Cap} {ak:List Int} {ab:Int} {H:Hp} {R0:List Rs} (br:ay = ak.length) (h0:Inn H R0 fun R=>ROs (eInt .i64) H R ⟨aK,ay,aL⟩ ak) {r:Bool} (hp:bc.p F ak ab = some r):∃ v H',bc.tw F ⟨aK,ay,aL⟩ ab H = some (v,H')∧bc.Q H R0 R0  r v H':=by
 obtain ⟨w0,bl⟩:=h0
 subst br
 unfold bc.p at hp
 unfold bc.tw bc.twX
 have s0:=w0.rf
 refine bif_ex (fun hb=>?_) (fun hb=>?_)
 ·replace hp:=bif_t hb hp
  obtain rfl:=Option.some.inj hp
  exact ⟨_,_,rfl,rfl,w0,s0,trivial⟩
 ·replace hp:=bif_f hb hp
  obtain ⟨r1,e1,hp⟩:=bind_some' hp
  refine call_ex (ar.P rfl ⟨w0,bl⟩ e1) ?_
  rintro _ H2 ⟨o0a_2,o0n_2,o0c_2,o0k_2,rfl,rfl,w2,s2,f2_0⟩
  refine bind_ex rfl ?_
  have f3:=W.borrow1 (eInt .i64) w2 f2_0
  obtain ⟨w3,s3⟩:=w2.right1
  obtain ⟨r4,e4,hp⟩:=bind_some' hp
  refine call_ex (aR.P rfl ⟨w3,f3⟩ e4) ?_
  rintro _ H5 ⟨o1a_5,o1n_5,o1c_5,o1k_5,rfl,rfl,w5,s5,f5_0⟩
  obtain ⟨w6,s6⟩:=W.frame1 w2 w5 s5
  refine bind_ex rfl ?_
  refine bind_ex rfl ?_
  refine bind_ex rfl ?_
  refine bind_ex rfl ?_
  refine bind_ex rfl ?_
  refine bind_ex rfl ?_
  refine bind_ex rfl ?_
  refine bind_ex rfl ?_
  refine bind_ex rfl ?_
  refine new_k w6 fun H7 w7 s7=>?_
  refine st_k w7 (i:=0) rfl rfl rfl fun H8 w8 s8=>?_
  dsimp only [List.set] at w8 s8
  refine st_k w8 (i:=0) rfl rfl rfl fun H9 w9 s9=>?_
  dsimp only [List.set] at w9 s9
  obtain ⟨r10,e10,hp⟩:=bind_some' hp
  refine call_ex (ar.P rfl ⟨w9,(bl.step (s2.trans (s6.trans (s7.trans (s8.trans s9)))))⟩ e10) ?_
  rintro _ H11 ⟨o0a_11,o0n_11,o0c_11,o0k_11,rfl,rfl,w11,s11,f11_0⟩
  refine bind_ex rfl ?_
  have f12:=W.borrow1 (eInt .i64) w11 f11_0
  obtain ⟨w12,s12⟩:=w11.right1
  obtain ⟨r13,e13,hp⟩:=bind_some' hp
  refine call_ex (aN.P rfl ⟨w12,f12⟩ e13) ?_
  rintro _ H14 ⟨o1a_14,o1n_14,o1c_14,o1k_14,rfl,rfl,w14,s14,f14_0⟩
  obtain ⟨w15,s15⟩:=W.frame1 w11 w14 s14
  refine bind_ex rfl ?_
  refine bind_ex rfl ?_
  refine bind_ex rfl ?_
  refine bind_ex rfl ?_
  refine bind_ex rfl ?_
  refine bind_ex rfl ?_
  refine bind_ex rfl ?_
  refine bind_ex rfl ?_
  refine bind_ex rfl ?_
  refine new_k w15 fun H16 w16 s16=>?_
  refine st_k w16 (i:=0) rfl rfl rfl fun H17 w17 s17=>?_
  dsimp only [List.set] at w17 s17
  refine st_k w17 (i:=0) rfl rfl rfl fun H18 w18 s18=>?_
  dsimp only [List.set] at w18 s18
  refine bind_ex (ldI_of (w18.ld (i:=0) rfl rfl)) ?_
  refine bind_ex (ldSl_of (w18.ld (i:=0) rfl rfl)) ?_
  refine bind_ex (ldI_of (w18.ld (i:=3) rfl rfl)) ?_
  refine bind_ex (ldSl_of (w18.ld (i:=3) rfl rfl)) ?_
  obtain ⟨w19,s19⟩:=w18.pick' [2,5,0,1,3,4] 6 rfl rfl rfl
  dsimp only [pk,pks,nth,List.drop] at w19 s19
  have f20:=W.borrow1 (eInt .i64) w19 ((CR.flat (eInt_flat .i64) f14_0).step (s16.trans (s17.trans (s18.trans s19))))
  obtain ⟨w20,s20⟩:=w19.right1
  have f21:=W.borrow1 (eInt .i64) w20 (((CR.flat (eInt_flat .i64) f5_0).step (s7.trans (s8.trans (s9.trans (s11.trans (s15.trans (s16.trans (s17.trans (s18.trans s19))))))))).step s20)
  obtain ⟨w21,s21⟩:=w20.right1
  obtain ⟨r22,e22,hp⟩:=bind_some' hp
  refine call_ex (aJ.P rfl rfl ⟨w21,(f20.step s21),f21⟩ e22) ?_
  rintro _ H23 ⟨rfl,w23,s23,_⟩
  obtain ⟨w24,s24⟩:=W.frame1 w20 w23 s23
  obtain ⟨w25,s25⟩:=W.frame1 w19 w24 s24
  refine bind_ex rfl ?_
  refine bif_ex (fun hb=>?_) (fun hb=>?_)
  ·replace hp:=bif_t hb hp
   obtain ⟨w26,s26⟩:=w25.pick' [] 6 rfl rfl rfl
   dsimp only [pk,pks,nth,List.drop] at w26 s26
   obtain rfl:=Option.some.inj hp
   exact ⟨_,_,rfl,rfl,w26,(s0.trans (s2.trans (s6.trans (s7.trans (s8.trans (s9.trans (s11.trans (s15.trans (s16.trans (s17.trans (s18.trans (s19.trans (s25.trans s26))))))))))))),trivial⟩
  ·replace hp:=bif_f hb hp
   refine bif_ex (fun hb=>?_) (fun hb=>?_)
   ·replace hp:=bif_t hb hp
    obtain ⟨w27,s27⟩:=w25.pick' [] 6 rfl rfl rfl
    dsimp only [pk,pks,nth,List.drop] at w27 s27
    obtain rfl:=Option.some.inj hp
    exact ⟨_,_,rfl,rfl,w27,(s0.trans (s2.trans (s6.trans (s7.trans (s8.trans (s9.trans (s11.trans (s15.trans (s16.trans (s17.trans (s18.trans (s19.trans (s25.trans s27))))))))))))),trivial⟩
   ·replace hp:=bif_f hb hp
    obtain ⟨r28,e28,hp⟩:=bind_some' hp
    refine call_ex (ar.P rfl ⟨w25,(bl.step (s2.trans (s6.trans (s7.trans (s8.trans (s9.trans (s11.trans (s15.trans (s16.trans (s17.trans (s18.trans (s19.trans s25))))))))))))⟩ e28) ?_
    rintro _ H29 ⟨o0a_29,o0n_29,o0c_29,o0k_29,rfl,rfl,w29,s29,f29_0⟩
    refine bind_ex rfl ?_
    obtain ⟨w30,s30⟩:=w29.pick' [4,0,1,2,3,5,6] 7 rfl rfl rfl
    dsimp only [pk,pks,nth,List.drop] at w30 s30
    have f31:=W.borrow1 (eInt .i64) w30 (f11_0.step (s15.trans (s16.trans (s17.trans (s18.trans (s19.trans (s25.trans (s29.trans s30))))))))
    obtain ⟨w31,s31⟩:=w30.right1
    have f32:=W.borrow1 (eInt .i64) w31 ((f29_0.step s30).step s31)
    obtain ⟨w32,s32⟩:=w31.right1
    obtain ⟨r33,e33,hp⟩:=bind_some' hp
    refine call_ex (ap.P rfl rfl ⟨w32,(f31.step s32),f32⟩ e33) ?_
    rintro _ H34 ⟨rfl,w34,s34,_⟩
    obtain ⟨w35,s35⟩:=W.frame1 w31 w34 s34
    obtain ⟨w36,s36⟩:=W.frame1 w30 w35 s35
    refine bind_ex rfl ?_
    refine bif_ex (fun hb=>?_) (fun hb=>?_)
    ·replace hp:=bif_t hb hp
     obtain ⟨w37,s37⟩:=w36.pick' [] 7 rfl rfl rfl
     dsimp only [pk,pks,nth,List.drop] at w37 s37
     obtain rfl:=Option.some.inj hp
     exact ⟨_,_,rfl,rfl,w37,(s0.trans (s2.trans (s6.trans (s7.trans (s8.trans (s9.trans (s11.trans (s15.trans (s16.trans (s17.trans (s18.trans (s19.trans (s25.trans (s29.trans (s30.trans (s36.trans s37)))))))))))))))),trivial⟩
    ·replace hp:=bif_f hb hp
     obtain ⟨r38,e38,hp⟩:=bind_some' hp
     refine call_ex (aq.P rfl ⟨w36,(f11_0.step (s15.trans (s16.trans (s17.trans (s18.trans (s19.trans (s25.trans (s29.trans (s30.trans s36)))))))))⟩ e38) ?_
     rintro _ H39 ⟨rY,rfl,hl39_0,w39,s39,f39_0⟩
     refine bind_ex rfl ?_
     refine bif_ex (fun hb=>?_) (fun hb=>?_)
     ·replace hp:=bif_t hb hp
      obtain ⟨w40,s40⟩:=w39.pick' [] 7 rfl rfl rfl
      dsimp only [pk,pks,nth,List.drop] at w40 s40
      obtain rfl:=Option.some.inj hp
      exact ⟨_,_,rfl,rfl,w40,(s0.trans (s2.trans (s6.trans (s7.trans (s8.trans (s9.trans (s11.trans (s15.trans (s16.trans (s17.trans (s18.trans (s19.trans (s25.trans (s29.trans (s30.trans (s36.trans (s39.trans s40))))))))))))))))),trivial⟩
     ·replace hp:=bif_f hb hp
      refine bind_ex (ldI_of (w39.ld (i:=4) rfl rfl)) ?_
      refine bind_ex (ldSl_of (w39.ld (i:=4) rfl rfl)) ?_
      refine bind_ex (ldI_of (w39.ld (i:=5) rfl rfl)) ?_
      refine bind_ex (ldSl_of (w39.ld (i:=5) rfl rfl)) ?_
      obtain ⟨w41,s41⟩:=w39.pick' [2,3,0,1,4,5,6] 7 rfl rfl rfl
      dsimp only [pk,pks,nth,List.drop] at w41 s41
      have f42:=W.borrow1 (eInt .i64) w41 ((CR.flat (eInt_flat .i64) f14_0).step (s16.trans (s17.trans (s18.trans (s19.trans (s25.trans (s29.trans (s30.trans (s36.trans (s39.trans s41))))))))))
      obtain ⟨w42,s42⟩:=w41.right1
      have f43:=W.borrow1 (eInt .i64) w42 (((CR.flat (eInt_flat .i64) f5_0).step (s7.trans (s8.trans (s9.trans (s11.trans (s15.trans (s16.trans (s17.trans (s18.trans (s19.trans (s25.trans (s29.trans (s30.trans (s36.trans (s39.trans s41))))))))))))))).step s42)
      obtain ⟨w43,s43⟩:=w42.right1
      obtain ⟨r44,e44,hp⟩:=bind_some' hp
      refine call_ex (aJ.P rfl rfl ⟨w43,(f42.step s43),f43⟩ e44) ?_
      rintro _ H45 ⟨rfl,w45,s45,_⟩
      obtain ⟨w46,s46⟩:=W.frame1 w42 w45 s45
      obtain ⟨w47,s47⟩:=W.frame1 w41 w46 s46
      refine bind_ex rfl ?_
      refine bif_ex (fun hb=>?_) (fun hb=>?_)
      ·replace hp:=bif_t hb hp
       obtain ⟨w48,s48⟩:=w47.pick' [] 7 rfl rfl rfl
       dsimp only [pk,pks,nth,List.drop] at w48 s48
       obtain rfl:=Option.some.inj hp
       exact ⟨_,_,rfl,rfl,w48,(s0.trans (s2.trans (s6.trans (s7.trans (s8.trans (s9.trans (s11.trans (s15.trans (s16.trans (s17.trans (s18.trans (s19.trans (s25.trans (s29.trans (s30.trans (s36.trans (s39.trans (s41.trans (s47.trans s48))))))))))))))))))),trivial⟩
      ·replace hp:=bif_f hb hp
       refine bif_ex (fun hb=>?_) (fun hb=>?_)
       ·replace hp:=bif_t hb hp
        obtain ⟨w49,s49⟩:=w47.pick' [] 7 rfl rfl rfl
        dsimp only [pk,pks,nth,List.drop] at w49 s49
        obtain rfl:=Option.some.inj hp
        exact ⟨_,_,rfl,rfl,w49,(s0.trans (s2.trans (s6.trans (s7.trans (s8.trans (s9.trans (s11.trans (s15.trans (s16.trans (s17.trans (s18.trans (s19.trans (s25.trans (s29.trans (s30.trans (s36.trans (s39.trans (s41.trans (s47.trans s49))))))))))))))))))),trivial⟩
       ·replace hp:=bif_f hb hp
        refine bind_ex (ldI_of (w47.ld (i:=4) rfl rfl)) ?_
        refine bind_ex (ldSl_of (w47.ld (i:=4) rfl rfl)) ?_
        obtain ⟨r50,e50,hp⟩:=bind_some' hp
        refine call_ex (aY.P rfl ⟨w47,((CR.flat (eInt_flat .i64) f14_0).step (s16.trans (s17.trans (s18.trans (s19.trans (s25.trans (s29.trans (s30.trans (s36.trans (s39.trans (s41.trans s47)))))))))))⟩ e50) ?_
        rintro _ H51 ⟨rZ,rfl,hl51_0,w51,s51,f51_0⟩
        refine bind_ex rfl ?_
        refine bind_ex (ldI_of (w51.ld (i:=4) rfl rfl)) ?_
        refine bind_ex (ldSl_of (w51.ld (i:=4) rfl rfl)) ?_
        have f52:=W.borrow1 (eInt .i64) w51 f51_0
        obtain ⟨w52,s52⟩:=w51.right1
        obtain ⟨r53,e53,hp⟩:=bind_some' hp
        refine call_ex (aQ.P hl51_0 ⟨w52,f52⟩ e53) ?_
        rintro _ H54 ⟨rfl,w54,s54,_⟩
        obtain ⟨w55,s55⟩:=W.frame1 w51 w54 s54
        refine bind_ex rfl ?_
        refine bif_ex (fun hb=>?_) (fun hb=>?_)
        ·replace hp:=bif_t hb hp
         obtain ⟨w56,s56⟩:=w55.pick' [] 7 rfl rfl rfl
         dsimp only [pk,pks,nth,List.drop] at w56 s56
         obtain rfl:=Option.some.inj hp
         exact ⟨_,_,rfl,rfl,w56,(s0.trans (s2.trans (s6.trans (s7.trans (s8.trans (s9.trans (s11.trans (s15.trans (s16.trans (s17.trans (s18.trans (s19.trans (s25.trans (s29.trans (s30.trans (s36.trans (s39.trans (s41.trans (s47.trans (s51.trans (s55.trans s56))))))))))))))))))))),trivial⟩
        ·replace hp:=bif_f hb hp
         refine bif_ex (fun hb=>?_) (fun hb=>?_)
         ·replace hp:=bif_t hb hp
          obtain ⟨w57,s57⟩:=w55.pick' [] 7 rfl rfl rfl
          dsimp only [pk,pks,nth,List.drop] at w57 s57
          obtain rfl:=Option.some.inj hp
          exact ⟨_,_,rfl,rfl,w57,(s0.trans (s2.trans (s6.trans (s7.trans (s8.trans (s9.trans (s11.trans (s15.trans (s16.trans (s17.trans (s18.trans (s19.trans (s25.trans (s29.trans (s30.trans (s36.trans (s39.trans (s41.trans (s47.trans (s51.trans (s55.trans s57))))))))))))))))))))),trivial⟩
         ·replace hp:=bif_f hb hp
          obtain ⟨r58,e58,hp⟩:=bind_some' hp
          refine call_ex (ar.P rfl ⟨w55,(bl.step (s2.trans (s6.trans (s7.trans (s8.trans (s9.trans (s11.trans (s15.trans (s16.trans (s17.trans (s18.trans (s19.trans (s25.trans (s29.trans (s30.trans (s36.trans (s39.trans (s41.trans (s47.trans (s51.trans s55))))))))))))))))))))⟩ e58) ?_
          rintro _ H59 ⟨o0a_59,o0n_59,o0c_59,o0k_59,rfl,rfl,w59,s59,f59_0⟩
          refine bind_ex rfl ?_
          have f60:=W.borrow1 (eInt .i64) w59 f59_0
          obtain ⟨w60,s60⟩:=w59.right1
          obtain ⟨r61,e61,hp⟩:=bind_some' hp
          refine call_ex (aN.P rfl ⟨w60,f60⟩ e61) ?_
          rintro _ H62 ⟨o1a_62,o1n_62,o1c_62,o1k_62,rfl,rfl,w62,s62,f62_0⟩
          obtain ⟨w63,s63⟩:=W.frame1 w59 w62 s62
          refine bind_ex rfl ?_
          refine bind_ex rfl ?_
          refine bind_ex rfl ?_
          refine bind_ex rfl ?_
          refine bind_ex rfl ?_
          refine bind_ex rfl ?_
          refine bind_ex rfl ?_
          refine bind_ex rfl ?_
          refine bind_ex rfl ?_
          refine new_k w63 fun H64 w64 s64=>?_
          refine st_k w64 (i:=0) rfl rfl rfl fun H65 w65 s65=>?_
          dsimp only [List.set] at w65 s65
          refine st_k w65 (i:=0) rfl rfl rfl fun H66 w66 s66=>?_
          dsimp only [List.set] at w66 s66
          refine bind_ex (ldI_of (w66.ld (i:=0) rfl rfl)) ?_
          refine bind_ex (ldSl_of (w66.ld (i:=0) rfl rfl)) ?_
          refine bind_ex (ldI_of (w66.ld (i:=8) rfl rfl)) ?_
          refine bind_ex (ldSl_of (w66.ld (i:=8) rfl rfl)) ?_
          obtain ⟨w67,s67⟩:=w66.pick' [2,4,0,1,3,5,6,7,8,9] 10 rfl rfl rfl
          dsimp only [pk,pks,nth,List.drop] at w67 s67
          have f68:=W.borrow1 (eInt .i64) w67 ((CR.flat (eInt_flat .i64) f62_0).step (s64.trans (s65.trans (s66.trans s67))))
          obtain ⟨w68,s68⟩:=w67.right1
          have f69:=W.borrow1 (eInt .i64) w68 (((CR.flat (eInt_flat .i64) f5_0).step (s7.trans (s8.trans (s9.trans (s11.trans (s15.trans (s16.trans (s17.trans (s18.trans (s19.trans (s25.trans (s29.trans (s30.trans (s36.trans (s39.trans (s41.trans (s47.trans (s51.trans (s55.trans (s59.trans (s63.trans (s64.trans (s65.trans (s66.trans s67)))))))))))))))))))))))).step s68)
          obtain ⟨w69,s69⟩:=w68.right1
          obtain ⟨r70,e70,hp⟩:=bind_some' hp
          refine call_ex (aJ.P rfl rfl ⟨w69,(f68.step s69),f69⟩ e70) ?_
          rintro _ H71 ⟨rfl,w71,s71,_⟩
          obtain ⟨w72,s72⟩:=W.frame1 w68 w71 s71
          obtain ⟨w73,s73⟩:=W.frame1 w67 w72 s72
          refine bind_ex rfl ?_
          refine bif_ex (fun hb=>?_) (fun hb=>?_)
          ·replace hp:=bif_t hb hp
           obtain ⟨w74,s74⟩:=w73.pick' [] 10 rfl rfl rfl
           dsimp only [pk,pks,nth,List.drop] at w74 s74
           obtain rfl:=Option.some.inj hp
           exact ⟨_,_,rfl,rfl,w74,(s0.trans (s2.trans (s6.trans (s7.trans (s8.trans (s9.trans (s11.trans (s15.trans (s16.trans (s17.trans (s18.trans (s19.trans (s25.trans (s29.trans (s30.trans (s36.trans (s39.trans (s41.trans (s47.trans (s51.trans (s55.trans (s59.trans (s63.trans (s64.trans (s65.trans (s66.trans (s67.trans (s73.trans s74)))))))))))))))))))))))))))),trivial⟩
          ·replace hp:=bif_f hb hp
           refine bif_ex (fun hb=>?_) (fun hb=>?_)
           ·replace hp:=bif_t hb hp
            obtain ⟨w75,s75⟩:=w73.pick' [] 10 rfl rfl rfl
            dsimp only [pk,pks,nth,List.drop] at w75 s75
            obtain rfl:=Option.some.inj hp
            exact ⟨_,_,rfl,rfl,w75,(s0.trans (s2.trans (s6.trans (s7.trans (s8.trans (s9.trans (s11.trans (s15.trans (s16.trans (s17.trans (s18.trans (s19.trans (s25.trans (s29.trans (s30.trans (s36.trans (s39.trans (s41.trans (s47.trans (s51.trans (s55.trans (s59.trans (s63.trans (s64.trans (s65.trans (s66.trans (s67.trans (s73.trans s75)))))))))))))))))))))))))))),trivial⟩
           ·replace hp:=bif_f hb hp
            refine bind_ex (ldI_of (w73.ld (i:=7) rfl rfl)) ?_
            refine bind_ex (ldSl_of (w73.ld (i:=7) rfl rfl)) ?_
            obtain ⟨w76,s76⟩:=w73.pick' [4,0,1,2,3,5,6,7,8,9] 10 rfl rfl rfl
            dsimp only [pk,pks,nth,List.drop] at w76 s76
            have f77:=W.borrow1 (eInt .i64) w76 (f51_0.step (s55.trans (s59.trans (s63.trans (s64.trans (s65.trans (s66.trans (s67.trans (s73.trans s76)))))))))
            obtain ⟨w77,s77⟩:=w76.right1
            obtain ⟨r78,e78,hp⟩:=bind_some' hp
            refine call_ex (aQ.P hl51_0 ⟨w77,f77⟩ e78) ?_
            rintro _ H79 ⟨rfl,w79,s79,_⟩
            obtain ⟨w80,s80⟩:=W.frame1 w76 w79 s79
            refine bind_ex rfl ?_
            refine bif_ex (fun hb=>?_) (fun hb=>?_)
            ·replace hp:=bif_t hb hp
             obtain ⟨w81,s81⟩:=w80.pick' [] 10 rfl rfl rfl
             dsimp only [pk,pks,nth,List.drop] at w81 s81
             obtain rfl:=Option.some.inj hp
             exact ⟨_,_,rfl,rfl,w81,(s0.trans (s2.trans (s6.trans (s7.trans (s8.trans (s9.trans (s11.trans (s15.trans (s16.trans (s17.trans (s18.trans (s19.trans (s25.trans (s29.trans (s30.trans (s36.trans (s39.trans (s41.trans (s47.trans (s51.trans (s55.trans (s59.trans (s63.trans (s64.trans (s65.trans (s66.trans (s67.trans (s73.trans (s76.trans (s80.trans s81)))))))))))))))))))))))))))))),trivial⟩
            ·replace hp:=bif_f hb hp
             refine bif_ex (fun hb=>?_) (fun hb=>?_)
             ·replace hp:=bif_t hb hp
              obtain ⟨w82,s82⟩:=w80.pick' [] 10 rfl rfl rfl
              dsimp only [pk,pks,nth,List.drop] at w82 s82
              obtain rfl:=Option.some.inj hp
              exact ⟨_,_,rfl,rfl,w82,(s0.trans (s2.trans (s6.trans (s7.trans (s8.trans (s9.trans (s11.trans (s15.trans (s16.trans (s17.trans (s18.trans (s19.trans (s25.trans (s29.trans (s30.trans (s36.trans (s39.trans (s41.trans (s47.trans (s51.trans (s55.trans (s59.trans (s63.trans (s64.trans (s65.trans (s66.trans (s67.trans (s73.trans (s76.trans (s80.trans s82)))))))))))))))))))))))))))))),trivial⟩
             ·replace hp:=bif_f hb hp
              obtain ⟨w83,s83⟩:=w80.pick' [] 10 rfl rfl rfl
              dsimp only [pk,pks,nth,List.drop] at w83 s83
              obtain rfl:=Option.some.inj hp
              exact ⟨_,_,rfl,rfl,w83,(s0.trans (s2.trans (s6.trans (s7.trans (s8.trans (s9.trans (s11.trans (s15.trans (s16.trans (s17.trans (s18.trans (s19.trans (s25.trans (s29.trans (s30.trans (s36.trans (s39.trans (s41.trans (s47.trans (s51.trans (s55.trans (s59.trans (s63.trans (s64.trans (s65.trans (s66.trans (s67.trans (s73.trans (s76.trans (s80.trans s83)))))))))))))))))))))))))))))),trivial⟩
end Go.Proofs.Yteeahaikelpkpaa.AE
