import Derived.Test.YtahjhlcmcnemiaaT1
import Derived.Test.YtahjhlcmcnemiaaE2
set_option linter.unusedVariables false
set_option linter.unusedSimpArgs false
namespace Go.Proofs.Ytahjhlcmcnemiaa.AE
open Go Go.AE Go.Proofs
set_option linter.unusedVariables false
set_option maxHeartbeats 4000000
set_option maxRecDepth 100000
def aX.Q (H0:Hp) (Ri R0:List Rs)  (r:Int) (v:AV) (H':Hp):Prop:=v = (.int .i64 r)∧Out H0 Ri H' (R0) fun R=>True
def aX.p (F:Nat) (ay:List Int) (ac:Int):Option (Int):=(bif (decide ((IntKind.i64.wrap (ac - (ay.length:Int))) < 0)) then (some (-1)) else (some (IntKind.i64.wrap (ac - (ay.length:Int)))))
theorem aX.P {F:Nat} {a_:ON} {aG:Nat} {ba:Cap} {ay:List Int} {ac:Int} {H:Hp} {R0:List Rs} (bq:aG = ay.length) (h0:Inn H R0 fun R=>ROs (eInt .i64) H R ⟨a_,aG,ba⟩ ay) {r:Int} (hp:aX.p F ay ac = some r):∃ v H',aX.tw F ⟨a_,aG,ba⟩ ac H = some (v,H')∧aX.Q H R0 R0  r v H':=by
 obtain ⟨w0,bs⟩:=h0
 subst bq
 unfold aX.p at hp
 unfold aX.tw aX.twX
 have s0:=w0.rf
 refine bif_ex (fun hb=>?_) (fun hb=>?_)
 ·replace hp:=bif_t hb hp
  obtain rfl:=Option.some.inj hp
  exact ⟨_,_,rfl,rfl,w0,s0,trivial⟩
 ·replace hp:=bif_f hb hp
  obtain rfl:=Option.some.inj hp
  exact ⟨_,_,rfl,rfl,w0,s0,trivial⟩
def aO.Q (H0:Hp) (Ri R0:List Rs)  (r:Int) (v:AV) (H':Hp):Prop:=v = (.int .i64 r)∧Out H0 Ri H' (R0) fun R=>True
def aO.p (F:Nat) (aC:List Int) (af:Int):Option (Int):=(aX.p F aC af).bind fun r2=>(bif (decide (r2 < 0)) then (some (-1)) else (some r2))
theorem aO.P {F:Nat} {aa af:Int} {bn:ON} {bj:Nat} {bo:Cap} {aC:List Int} {H:Hp} {R0:List Rs} (ce:bj = aC.length) (h0:Inn H R0 fun R=>ROs (eInt .i64) H R ⟨bn,bj,bo⟩ aC) {r:Int} (hp:aO.p F aC af = some r):∃ v H',aO.tw F aa ⟨bn,bj,bo⟩ af H = some (v,H')∧aO.Q H R0 R0  r v H':=by
 obtain ⟨w0,bu⟩:=h0
 subst ce
 unfold aO.p at hp
 unfold aO.tw aO.twX
 have s0:=w0.rf
 refine new_k w0 fun H1 w1 s1=>?_
 refine bind_ex (ldSl_of (w1.ld (i:=0) rfl rfl)) ?_
 obtain ⟨r2,e2,hp⟩:=bind_some' hp
 refine call_ex (aX.P rfl ⟨w1,(bu.step s1)⟩ e2) ?_
 rintro _ H3 ⟨rfl,w3,s3,_⟩
 refine bind_ex rfl ?_
 refine bif_ex (fun hb=>?_) (fun hb=>?_)
 ·replace hp:=bif_t hb hp
  obtain ⟨w4,s4⟩:=w3.pick' [] 1 rfl rfl rfl
  dsimp only [pk,pks,nth,List.drop] at w4 s4
  obtain rfl:=Option.some.inj hp
  exact ⟨_,_,rfl,rfl,w4,(s0.trans (s1.trans (s3.trans s4))),trivial⟩
 ·replace hp:=bif_f hb hp
  obtain ⟨w5,s5⟩:=w3.pick' [] 1 rfl rfl rfl
  dsimp only [pk,pks,nth,List.drop] at w5 s5
  obtain rfl:=Option.some.inj hp
  exact ⟨_,_,rfl,rfl,w5,(s0.trans (s1.trans (s3.trans s5))),trivial⟩
def aw.Q (H0:Hp) (Ri R0:List Rs)  (r:List Int) (v:AV) (H':Hp):Prop:=∃ o0a:ON,∃ o0n:Nat,∃ o0c:Cap,∃ o0k:List AV,v = (.sl ⟨o0a,o0n,o0c⟩)∧o0n = (r).length∧Out H0 Ri H' (Rs.own ⟨o0a,o0n,o0c⟩ (eInt .i64).z o0k :: R0) fun R=>CR (eInt .i64) H' R o0k (r)
def aw.S29 (H0:Hp) (Ri R0:List Rs)  (C:Sl→Sl→Int→Hp→OA) (pC:List Int→List Int→Int→Option (List Int)):Prop:=∀ {cf fu:ON} {bD ew:Nat} {cg fv:Cap} {az dD:List Int} {fw:List AV} {bG:Int},∀ {H:Hp},bD = az.length→ew = dD.length→(Out H0 Ri H (Rs.own ⟨fu,ew,fv⟩ (eInt .i64).z fw :: R0) fun R=>ROs (eInt .i64) H R ⟨cf,bD,cg⟩ az∧CR (eInt .i64) H R fw dD)→∀ {r:List Int},pC az dD bG = some r→∃ v H',C ⟨cf,bD,cg⟩ ⟨fu,ew,fv⟩ bG H = some (v,H')∧aw.Q H0 Ri R0  r v H'
def aw.pl29 (F:Nat) :Nat→List Int→List Int→Int→Option (List Int)
 | 0,_,_,_=>none
 | k + 1,az,dD,bG=>(bif (decide (bG < (az.length:Int))) then ((ix az bG).bind fun n1=>(ix dD bG).bind fun n2=>(some (dD.set n2 (gt az n1))).bind fun l3=>aw.pl29 F k az l3 (IntKind.i64.wrap (bG + 1))) else (some dD))
termination_by structural n=>n
theorem aw.l29_P {F:Nat} {H0:Hp} {Ri R0:List Rs}  :∀ k,aw.S29 H0 Ri R0  (aw.l29 F   k) (aw.pl29 F  k):=by
 intro k
 induction k with
 | zero=>
  intro cf fu bD ew cg fv az dD fw bG H cu hQ h0 r hp
  exact nomatch (show (none:Option (List Int)) = some r from hp)
 | succ k ih=>
  intro cf fu bD ew cg fv az dD fw bG H cu hQ h0 r hp
  obtain ⟨w0,s0,bE,gJ⟩:=h0
  subst cu
  subst hQ
  unfold aw.pl29 at hp
  unfold aw.l29
  refine bif_ex (fun hb=>?_) (fun hb=>?_)
  ·replace hp:=bif_t hb hp
   obtain ⟨n1,g1,hp⟩:=bind_some' hp
   obtain ⟨p1,q1,i1,h1,j1⟩:=ROs.ixr bE rfl g1
   refine bind_ex i1 ?_
   have h1:_ = [_]:=h1
   subst h1
   refine bind_ex (ldI_of (j1 0 _ rfl)) ?_
   obtain ⟨n2,g2,hp⟩:=bind_some' hp
   obtain ⟨p2,q2,i2,h2,j2⟩:=W.ixo (E:=(eInt .i64)) w0 (i:=0) rfl rfl gJ g2
   refine bind_ex i2 ?_
   obtain ⟨l3,e3,hp⟩:=bind_some' hp
   refine sto_k (eInt .i64) w0 (i:=0) (j:=0) (p:=p2) rfl rfl gJ g2 i2 e3 rfl rfl (fun _ h=>by have h:_ = [_]:=h; subst h; exact rfl) fun H4 k4 w4 s4 c4=>?_
   dsimp only [List.set] at w4 s4 c4
   exact ih rfl ((st_len e3).symm) ⟨w4,(s0.trans s4),(bE.step s4),c4⟩ hp
  ·replace hp:=bif_f hb hp
   obtain rfl:=Option.some.inj hp
   exact ⟨_,_,rfl,_,_,_,_,rfl,rfl,w0,s0,gJ⟩
def aw.p (F:Nat) (ay:List Int):Option (List Int):=(mkn (ay.length:Int) (0:Int)).bind fun l1=>aw.pl29 F F ay l1 0
theorem aw.P {F:Nat} {a_:ON} {aG:Nat} {ba:Cap} {ay:List Int} {H:Hp} {R0:List Rs} (bq:aG = ay.length) (h0:Inn H R0 fun R=>ROs (eInt .i64) H R ⟨a_,aG,ba⟩ ay) {r:List Int} (hp:aw.p F ay = some r):∃ v H',aw.tw F ⟨a_,aG,ba⟩ H = some (v,H')∧aw.Q H R0 R0  r v H':=by
 obtain ⟨w0,bs⟩:=h0
 subst bq
 unfold aw.p at hp
 unfold aw.tw aw.twX
 have s0:=w0.rf
 obtain ⟨l1,e1,hp⟩:=bind_some' hp
 refine mk_k (eInt .i64) (0:Int) w0 rfl rfl rfl e1 fun H2 k2 w2 s2 c2=>?_
 exact aw.l29_P F rfl rfl ⟨w2,(s0.trans s2),(bs.step s2),c2⟩ hp
def aH.Q (H0:Hp) (Ri R0:List Rs)  (r:Int×List Int) (v:AV) (H':Hp):Prop:=∃ o1a:ON,∃ o1n:Nat,∃ o1c:Cap,∃ o1k:List AV,v = (.agg [(.int .i64 r.1),(.sl ⟨o1a,o1n,o1c⟩)])∧o1n = (r.2).length∧Out H0 Ri H' (Rs.own ⟨o1a,o1n,o1c⟩ (eInt .i64).z o1k :: R0) fun R=>CR (eInt .i64) H' R o1k (r.2)
def aH.p (F:Nat) (aa:Int) (aC:List Int):Option (Int×List Int):=(aw.p F aC).bind fun r5=>some (aa,r5)
theorem aH.P {F:Nat} {aa:Int} {bn:ON} {bj:Nat} {bo:Cap} {aC:List Int} {H:Hp} {R0:List Rs} (ce:bj = aC.length) (h0:Inn H R0 fun R=>ROs (eInt .i64) H R ⟨bn,bj,bo⟩ aC) {r:Int×List Int} (hp:aH.p F aa aC = some r):∃ v H',aH.tw F aa ⟨bn,bj,bo⟩ H = some (v,H')∧aH.Q H R0 R0  r v H':=by
 obtain ⟨w0,bu⟩:=h0
 subst ce
 unfold aH.p at hp
 unfold aH.tw aH.twX
 have s0:=w0.rf
 refine new_k w0 fun H1 w1 s1=>?_
 refine new_k w1 fun H2 w2 s2=>?_
 refine new_k w2 fun H3 w3 s3=>?_
 refine bind_ex (ldI_of (w3.ld (i:=2) rfl rfl)) ?_
 refine st_k w3 (i:=0) rfl rfl rfl fun H4 w4 s4=>?_
 dsimp only [List.set] at w4 s4
 refine bind_ex (ldSl_of (w4.ld (i:=2) rfl rfl)) ?_
 obtain ⟨r5,e5,hp⟩:=bind_some' hp
 refine call_ex (aw.P rfl ⟨w4,(bu.step (s1.trans (s2.trans (s3.trans s4))))⟩ e5) ?_
 rintro _ H6 ⟨o0a_6,o0n_6,o0c_6,o0k_6,rfl,rfl,w6,s6,f6_0⟩
 refine bind_ex rfl ?_
 refine st_k w6 (i:=1) rfl rfl rfl fun H7 w7 s7=>?_
 dsimp only [List.set] at w7 s7
 refine bind_ex (ldI_of (w7.ld (i:=1) rfl rfl)) ?_
 refine bind_ex (ldSl_of (w7.ld (i:=1) rfl rfl)) ?_
 refine st_k w7 (i:=2) rfl rfl rfl fun H8 w8 s8=>?_
 dsimp only [List.set] at w8 s8
 refine st_k w8 (i:=2) rfl rfl rfl fun H9 w9 s9=>?_
 dsimp only [List.set] at w9 s9
 refine bind_ex (ldI_of (w9.ld (i:=2) rfl rfl)) ?_
 refine bind_ex (ldSl_of (w9.ld (i:=2) rfl rfl)) ?_
 obtain ⟨w10,s10⟩:=w9.pick' [0] 4 rfl rfl rfl
 dsimp only [pk,pks,nth,List.drop] at w10 s10
 obtain rfl:=Option.some.inj hp
 exact ⟨_,_,rfl,_,_,_,_,rfl,rfl,w10,(s0.trans (s1.trans (s2.trans (s3.trans (s4.trans (s6.trans (s7.trans (s8.trans (s9.trans s10))))))))),(f6_0.step (s7.trans (s8.trans (s9.trans s10))))⟩
def aD.Q (H0:Hp) (Ri R0:List Rs)  (r:Bool) (v:AV) (H':Hp):Prop:=v = (.bool r)∧Out H0 Ri H' (R0) fun R=>True
def aD.p (F:Nat) (aa:Int) (ac:Int) (aZ:Int):Option (Bool):=(bif (decide (aa ≥ ac)) then (some (decide (aa ≤ aZ))) else (some false))
theorem aD.P {F:Nat} {aa ac aZ:Int} {H:Hp} {R0:List Rs}  (h0:Inn H R0 fun R=>True) {r:Bool} (hp:aD.p F aa ac aZ = some r):∃ v H',aD.tw F aa ac aZ H = some (v,H')∧aD.Q H R0 R0  r v H':=by
 obtain ⟨w0,_⟩:=h0
 unfold aD.p at hp
 unfold aD.tw aD.twX
 have s0:=w0.rf
 refine bif_ex (fun hb=>?_) (fun hb=>?_)
 ·replace hp:=bif_t hb hp
  obtain rfl:=Option.some.inj hp
  exact ⟨_,_,rfl,rfl,w0,s0,trivial⟩
 ·replace hp:=bif_f hb hp
  obtain rfl:=Option.some.inj hp
  exact ⟨_,_,rfl,rfl,w0,s0,trivial⟩
def aM.Q (H0:Hp) (Ri R0:List Rs)  (r:Bool) (v:AV) (H':Hp):Prop:=v = (.bool r)∧Out H0 Ri H' (R0) fun R=>True
def aM.p (F:Nat) (aa:Int) (ac:Int):Option (Bool):=(bif (aa != 0) then ((aD.p F aa (IntKind.i64.wrap (1 - ac)) (IntKind.i64.wrap (ac - 1))).bind fun r1=>some r1) else (some false))
theorem aM.P {F:Nat} {aa ac:Int} {H:Hp} {R0:List Rs}  (h0:Inn H R0 fun R=>True) {r:Bool} (hp:aM.p F aa ac = some r):∃ v H',aM.tw F aa ac H = some (v,H')∧aM.Q H R0 R0  r v H':=by
 obtain ⟨w0,_⟩:=h0
 unfold aM.p at hp
 unfold aM.tw aM.twX
 have s0:=w0.rf
 refine bif_ex (fun hb=>?_) (fun hb=>?_)
 ·replace hp:=bif_t hb hp
  obtain ⟨r1,e1,hp⟩:=bind_some' hp
  refine call_ex (aD.P ⟨w0,trivial⟩ e1) ?_
  rintro _ H2 ⟨rfl,w2,s2,_⟩
  refine bind_ex rfl ?_
  obtain rfl:=Option.some.inj hp
  exact ⟨_,_,rfl,rfl,w2,(s0.trans s2),trivial⟩
 ·replace hp:=bif_f hb hp
  obtain rfl:=Option.some.inj hp
  exact ⟨_,_,rfl,rfl,w0,s0,trivial⟩
def ak.Q (H0:Hp) (Ri R0:List Rs)  (r:Bool) (v:AV) (H':Hp):Prop:=v = (.bool r)∧Out H0 Ri H' (R0) fun R=>True
def ak.S29 (H0:Hp) (Ri R0:List Rs)  (C:Nat→Nat→Int→Hp→OA) (pC:Int→List Int→Int→Option (Bool)):Prop:=∀ {ec bS:Int} {fx:ON} {ey ch:Nat} {fy:Cap} {dz:List Int},∀ {H:Hp},ey = dz.length→(Out H0 Ri H (Rs.blk ch [.int .i64 ec,.sl ⟨fx,ey,fy⟩] :: R0) fun R=>ROs (eInt .i64) H R ⟨fx,ey,fy⟩ dz)→∀ {r:Bool},pC ec dz bS = some r→∃ v H',C ch 0 bS H = some (v,H')∧ak.Q H0 Ri R0  r v H'
def ak.pl29 (F:Nat) :Nat→Int→List Int→Int→Option (Bool)
 | 0,_,_,_=>none
 | k + 1,ec,dz,bS=>(bif (decide (bS < (dz.length:Int))) then ((ix dz bS).bind fun n1=>(aM.p F (gt dz n1) ec).bind fun r2=>(bif (!r2) then (some false) else (ak.pl29 F k ec dz (IntKind.i64.wrap (bS + 1))))) else (some true))
termination_by structural n=>n
theorem ak.l29_P {F:Nat} {H0:Hp} {Ri R0:List Rs}  :∀ k,ak.S29 H0 Ri R0  (ak.l29 F (aD.tw F) (aM.tw F)  k) (ak.pl29 F  k):=by
 intro k
 induction k with
 | zero=>
  intro ec bS fx ey ch fy dz H hR h0 r hp
  exact nomatch (show (none:Option (Bool)) = some r from hp)
 | succ k ih=>
  intro ec bS fx ey ch fy dz H hR h0 r hp
  obtain ⟨w0,s0,hS⟩:=h0
  subst hR
  unfold ak.pl29 at hp
  unfold ak.l29
  refine bind_ex (ldSl_of (w0.ld (i:=0) rfl rfl)) ?_
  refine bif_ex (fun hb=>?_) (fun hb=>?_)
  ·replace hp:=bif_t hb hp
   refine bind_ex (ldSl_of (w0.ld (i:=0) rfl rfl)) ?_
   obtain ⟨n1,g1,hp⟩:=bind_some' hp
   obtain ⟨p1,q1,i1,h1,j1⟩:=ROs.ixr hS rfl g1
   refine bind_ex i1 ?_
   have h1:_ = [_]:=h1
   subst h1
   refine bind_ex (ldI_of (j1 0 _ rfl)) ?_
   refine bind_ex (ldI_of (w0.ld (i:=0) rfl rfl)) ?_
   obtain ⟨r2,e2,hp⟩:=bind_some' hp
   refine call_ex (aM.P ⟨w0,trivial⟩ e2) ?_
   rintro _ H3 ⟨rfl,w3,s3,_⟩
   refine bind_ex rfl ?_
   refine bif_ex (fun hb=>?_) (fun hb=>?_)
   ·replace hp:=bif_t hb hp
    obtain ⟨w4,s4⟩:=w3.pick' [] 1 rfl rfl rfl
    dsimp only [pk,pks,nth,List.drop] at w4 s4
    obtain rfl:=Option.some.inj hp
    exact ⟨_,_,rfl,rfl,w4,(s0.trans (s3.trans s4)),trivial⟩
   ·replace hp:=bif_f hb hp
    exact ih rfl ⟨w3,(s0.trans s3),(hS.step s3)⟩ hp
  ·replace hp:=bif_f hb hp
   obtain ⟨w5,s5⟩:=w0.pick' [] 1 rfl rfl rfl
   dsimp only [pk,pks,nth,List.drop] at w5 s5
   obtain rfl:=Option.some.inj hp
   exact ⟨_,_,rfl,rfl,w5,(s0.trans s5),trivial⟩
def ak.p (F:Nat) (aa:Int) (aC:List Int):Option (Bool):=(aD.p F aa 1 6).bind fun r2=>(bif (!r2) then (some false) else ((bif (decide ((aC.length:Int) > 24)) then (some false) else (ak.pl29 F F aa aC 0))))
theorem ak.P {F:Nat} {aa:Int} {bn:ON} {bj:Nat} {bo:Cap} {aC:List Int} {H:Hp} {R0:List Rs} (ce:bj = aC.length) (h0:Inn H R0 fun R=>ROs (eInt .i64) H R ⟨bn,bj,bo⟩ aC) {r:Bool} (hp:ak.p F aa aC = some r):∃ v H',ak.tw F aa ⟨bn,bj,bo⟩ H = some (v,H')∧ak.Q H R0 R0  r v H':=by
 obtain ⟨w0,bu⟩:=h0
 subst ce
 unfold ak.p at hp
 unfold ak.tw ak.twX
 have s0:=w0.rf
 refine new_k w0 fun H1 w1 s1=>?_
 refine bind_ex (ldI_of (w1.ld (i:=0) rfl rfl)) ?_
 obtain ⟨r2,e2,hp⟩:=bind_some' hp
 refine call_ex (aD.P ⟨w1,trivial⟩ e2) ?_
 rintro _ H3 ⟨rfl,w3,s3,_⟩
 refine bind_ex rfl ?_
 refine bif_ex (fun hb=>?_) (fun hb=>?_)
 ·replace hp:=bif_t hb hp
  obtain ⟨w4,s4⟩:=w3.pick' [] 1 rfl rfl rfl
  dsimp only [pk,pks,nth,List.drop] at w4 s4
  obtain rfl:=Option.some.inj hp
  exact ⟨_,_,rfl,rfl,w4,(s0.trans (s1.trans (s3.trans s4))),trivial⟩
 ·replace hp:=bif_f hb hp
  refine bind_ex (ldSl_of (w3.ld (i:=0) rfl rfl)) ?_
  refine bif_ex (fun hb=>?_) (fun hb=>?_)
  ·replace hp:=bif_t hb hp
   obtain ⟨w5,s5⟩:=w3.pick' [] 1 rfl rfl rfl
   dsimp only [pk,pks,nth,List.drop] at w5 s5
   obtain rfl:=Option.some.inj hp
   exact ⟨_,_,rfl,rfl,w5,(s0.trans (s1.trans (s3.trans s5))),trivial⟩
  ·replace hp:=bif_f hb hp
   exact ak.l29_P F rfl ⟨w3,(s0.trans (s1.trans s3)),(bu.step (s1.trans s3))⟩ hp
def aA.Q (H0:Hp) (Ri R0:List Rs)  (r:Int) (v:AV) (H':Hp):Prop:=v = (.int .i64 r)∧Out H0 Ri H' (R0) fun R=>True
def aA.p (F:Nat) (aa:Int):Option (Int):=some (if (IntKind.i64.wrap (0 - aa)) > aa then (IntKind.i64.wrap (0 - aa)) else aa)
theorem aA.P {F:Nat} {aa:Int} {H:Hp} {R0:List Rs}  (h0:Inn H R0 fun R=>True) {r:Int} (hp:aA.p F aa = some r):∃ v H',aA.tw F aa H = some (v,H')∧aA.Q H R0 R0  r v H':=by
 obtain ⟨w0,_⟩:=h0
 unfold aA.p at hp
 unfold aA.tw aA.twX
 have s0:=w0.rf
 obtain rfl:=Option.some.inj hp
 exact ⟨_,_,rfl,rfl,w0,s0,trivial⟩
def aj.Q (H0:Hp) (Ri R0:List Rs)  (r:Int) (v:AV) (H':Hp):Prop:=v = (.int .i64 r)∧Out H0 Ri H' (R0) fun R=>True
def aj.S13 (H0:Hp) (Ri R0:List Rs)  (C:Sl→Int→Int→Int→Hp→OA) (pC:List Int→Int→Int→Int→Option (Int)):Prop:=∀ {dE:ON} {dr:Nat} {dG:Cap} {br:List Int} {bv bO bw:Int},∀ {H:Hp},dr = br.length→(Out H0 Ri H R0 fun R=>ROs (eInt .i64) H R ⟨dE,dr,dG⟩ br)→∀ {r:Int},pC br bv bO bw = some r→∃ v H',C ⟨dE,dr,dG⟩ bv bO bw H = some (v,H')∧aj.Q H0 Ri R0  r v H'
def aj.pl13 (F:Nat) :Nat→List Int→Int→Int→Int→Option (Int)
 | 0,_,_,_,_=>none
 | k + 1,br,bv,bO,bw=>(bif (decide (bw ≤ (br.length:Int))) then ((if (br.length:Int) = 0 then none else ((ix br (Int.tmod (IntKind.i64.wrap ((IntKind.i64.wrap (bv - bw)) + (br.length:Int))) (br.length:Int))).bind fun n2=>(aA.p F (gt br n2)).bind fun r3=>(bif ((IntKind.i64.wrap (r3 - 1)) == bO) then (some (IntKind.i64.wrap (2 * (Int.tmod (IntKind.i64.wrap ((IntKind.i64.wrap (bv - bw)) + (br.length:Int))) (br.length:Int))))) else ((bif (r3 == bO) then (some (IntKind.i64.wrap ((IntKind.i64.wrap (2 * (Int.tmod (IntKind.i64.wrap ((IntKind.i64.wrap (bv - bw)) + (br.length:Int))) (br.length:Int)))) + 1))) else (aj.pl13 F k br bv bO (IntKind.i64.wrap (bw + 1))))))))) else (some (-1)))
termination_by structural n=>n
theorem aj.l13_P {F:Nat} {H0:Hp} {Ri R0:List Rs}  :∀ k,aj.S13 H0 Ri R0  (aj.l13 F (aA.tw F)  k) (aj.pl13 F  k):=by
 intro k
 induction k with
 | zero=>
  intro dE dr dG br bv bO bw H ez h0 r hp
  exact nomatch (show (none:Option (Int)) = some r from hp)
 | succ k ih=>
  intro dE dr dG br bv bO bw H ez h0 r hp
  obtain ⟨w0,s0,eA⟩:=h0
  subst ez
  unfold aj.pl13 at hp
  unfold aj.l13
  refine bif_ex (fun hb=>?_) (fun hb=>?_)
  ·replace hp:=bif_t hb hp
   obtain ⟨g1,hp⟩:=ifn_p hp
   refine ifn_ex g1 ?_
   obtain ⟨n2,g2,hp⟩:=bind_some' hp
   obtain ⟨p2,q2,i2,h2,j2⟩:=ROs.ixr eA rfl g2
   refine bind_ex i2 ?_
   have h2:_ = [_]:=h2
   subst h2
   refine bind_ex (ldI_of (j2 0 _ rfl)) ?_
   obtain ⟨r3,e3,hp⟩:=bind_some' hp
   refine call_ex (aA.P ⟨w0,trivial⟩ e3) ?_
   rintro _ H4 ⟨rfl,w4,s4,_⟩
   refine bind_ex rfl ?_
   refine bif_ex (fun hb=>?_) (fun hb=>?_)
   ·replace hp:=bif_t hb hp
    obtain rfl:=Option.some.inj hp
    exact ⟨_,_,rfl,rfl,w4,(s0.trans s4),trivial⟩
   ·replace hp:=bif_f hb hp
    refine bif_ex (fun hb=>?_) (fun hb=>?_)
    ·replace hp:=bif_t hb hp
     obtain rfl:=Option.some.inj hp
     exact ⟨_,_,rfl,rfl,w4,(s0.trans s4),trivial⟩
    ·replace hp:=bif_f hb hp
     exact ih rfl ⟨w4,(s0.trans s4),(eA.step s4)⟩ hp
  ·replace hp:=bif_f hb hp
   obtain rfl:=Option.some.inj hp
   exact ⟨_,_,rfl,rfl,w0,s0,trivial⟩
def aj.p (F:Nat) (ay:List Int) (ac:Int) (aZ:Int):Option (Int):=aj.pl13 F F ay ac aZ 1
theorem aj.P {F:Nat} {a_:ON} {aG:Nat} {ba:Cap} {ay:List Int} {ac aZ:Int} {H:Hp} {R0:List Rs} (bq:aG = ay.length) (h0:Inn H R0 fun R=>ROs (eInt .i64) H R ⟨a_,aG,ba⟩ ay) {r:Int} (hp:aj.p F ay ac aZ = some r):∃ v H',aj.tw F ⟨a_,aG,ba⟩ ac aZ H = some (v,H')∧aj.Q H R0 R0  r v H':=by
 obtain ⟨w0,bs⟩:=h0
 subst bq
 unfold aj.p at hp
 unfold aj.tw aj.twX
 have s0:=w0.rf
 exact aj.l13_P F rfl ⟨w0,s0,bs⟩ hp
def ae.Q (H0:Hp) (Ri R0:List Rs)  (r:(List (Int×Int×Int×Int×Int))×Int) (v:AV) (H':Hp):Prop:=∃ o0a:ON,∃ o0n:Nat,∃ o0c:Cap,∃ o0k:List AV,v = (.agg [(.sl ⟨o0a,o0n,o0c⟩),(.int .i64 r.2)])∧o0n = (r.1).length∧Out H0 Ri H' (Rs.own ⟨o0a,o0n,o0c⟩ (ePair (eInt .i64) (ePair (eInt .i64) (ePair (eInt .i64) (ePair (eInt .i64) (eInt .i64))))).z o0k :: R0) fun R=>CR (ePair (eInt .i64) (ePair (eInt .i64) (ePair (eInt .i64) (ePair (eInt .i64) (eInt .i64))))) H' R o0k (r.1)
def ae.S61 (H0:Hp) (Ri R0:List Rs)  (C:Nat→Nat→Nat→Nat→Nat→Nat→Sl→Int→Hp→OA) (pC:List Int→List (Int×Int×Int×Int×Int)→Int→List Bool→Int→Option ((List (Int×Int×Int×Int×Int))×Int)):Prop:=∀ {gK gL dU bk:Int} {fz fA fB fC:ON} {eB bx eC bY eD ci eE:Nat} {fD fE fF fG:Cap} {cG:List Int} {fH dH:List (Int×Int×Int×Int×Int)} {fI fJ fK:List AV} {dI:List Bool},∀ {H:Hp},eB = cG.length→eC = fH.length→eD = dH.length→eE = dI.length→(Out H0 Ri H (Rs.blk bx [.int .i64 gK,.sl ⟨fz,eB,fD⟩] :: Rs.own ⟨fA,eC,fE⟩ (ePair (eInt .i64) (ePair (eInt .i64) (ePair (eInt .i64) (ePair (eInt .i64) (eInt .i64))))).z fI :: Rs.blk bY [.sl ⟨fA,eC,fE⟩,.int .i64 gL] :: Rs.own ⟨fB,eD,fF⟩ (ePair (eInt .i64) (ePair (eInt .i64) (ePair (eInt .i64) (ePair (eInt .i64) (eInt .i64))))).z fJ :: Rs.blk ci [.sl ⟨fB,eD,fF⟩,.int .i64 dU] :: Rs.own ⟨fC,eE,fG⟩ eBool.z fK :: R0) fun R=>ROs (eInt .i64) H R ⟨fz,eB,fD⟩ cG∧CR (ePair (eInt .i64) (ePair (eInt .i64) (ePair (eInt .i64) (ePair (eInt .i64) (eInt .i64))))) H R fI fH∧CR (ePair (eInt .i64) (ePair (eInt .i64) (ePair (eInt .i64) (ePair (eInt .i64) (eInt .i64))))) H R fJ dH∧CR eBool H R fK dI)→∀ {r:(List (Int×Int×Int×Int×Int))×Int},pC cG dH dU dI bk = some r→∃ v H',C bx 0 bY 0 ci 0 ⟨fC,eE,fG⟩ bk H = some (v,H')∧ae.Q H0 Ri R0  r v H'
def ae.pj5 (F:Nat) (fL:List Int→List (Int×Int×Int×Int×Int)→Int→List Bool→Int→Option ((List (Int×Int×Int×Int×Int))×Int)) (eF:List Int) (eG:List (Int×Int×Int×Int×Int)) (fM:Int) (eH:List Bool) (ei:Int) (ek:Int) (el:Int) (em:Int) (en:Int) (eo:Int):Option ((List (Int×Int×Int×Int×Int))×Int):=(apn eG ([(ek,el,em,en,eo)]:List (Int×Int×Int×Int×Int))).bind fun l2=>fL eF l2 fM eH (IntKind.i64.wrap (ei + 1))
theorem ae.j5_P {F:Nat} {H0:Hp} {Ri R0:List Rs}  {C61_:Nat→Nat→Nat→Nat→Nat→Nat→Sl→Int→Hp→OA} {fL:List Int→List (Int×Int×Int×Int×Int)→Int→List Bool→Int→Option ((List (Int×Int×Int×Int×Int))×Int)} (hC61:ae.S61 H0 Ri R0  C61_ fL) {jE jF fM ei ek el em en eo:Int} {hT hU hX hY:ON} {gM fq gN fr gO eh gP dS:Nat} {hZ h_ ia ib:Cap} {eF:List Int} {ic eG:List (Int×Int×Int×Int×Int)} {ie ig ii:List AV} {eH:List Bool} {H:Hp} (jG:gM = eF.length) (jH:gN = ic.length) (jI:gO = eG.length) (jJ:gP = eH.length) (h0:Out H0 Ri H (Rs.blk fq [.int .i64 jE,.sl ⟨hT,gM,hZ⟩] :: Rs.own ⟨hU,gN,h_⟩ (ePair (eInt .i64) (ePair (eInt .i64) (ePair (eInt .i64) (ePair (eInt .i64) (eInt .i64))))).z ie :: Rs.blk fr [.sl ⟨hU,gN,h_⟩,.int .i64 jF] :: Rs.own ⟨hX,gO,ia⟩ (ePair (eInt .i64) (ePair (eInt .i64) (ePair (eInt .i64) (ePair (eInt .i64) (eInt .i64))))).z ig :: Rs.blk eh [.sl ⟨hX,gO,ia⟩,.int .i64 fM] :: Rs.own ⟨hY,gP,ib⟩ eBool.z ii :: Rs.blk dS [.int .i64 ek,.int .i64 el,.int .i64 em,.int .i64 en,.int .i64 eo] :: R0) fun R=>ROs (eInt .i64) H R ⟨hT,gM,hZ⟩ eF∧CR (ePair (eInt .i64) (ePair (eInt .i64) (ePair (eInt .i64) (ePair (eInt .i64) (eInt .i64))))) H R ie ic∧CR (ePair (eInt .i64) (ePair (eInt .i64) (ePair (eInt .i64) (ePair (eInt .i64) (eInt .i64))))) H R ig eG∧CR eBool H R ii eH) {r:(List (Int×Int×Int×Int×Int))×Int} (hp:ae.pj5 F fL eF eG fM eH ei ek el em en eo = some r):∃ v H',ae.j5 F (aA.tw F) (aj.tw F) C61_ fq 0 fr 0 eh 0 ⟨hY,gP,ib⟩ ei dS 0 H = some (v,H')∧ae.Q H0 Ri R0  r v H':=by
 obtain ⟨w0,s0,jK,jL,jM,jN⟩:=h0
 subst jG
 subst jH
 subst jI
 subst jJ
 unfold ae.pj5 at hp
 unfold ae.j5
 refine bind_ex (ldSl_of (w0.ld (i:=4) rfl rfl)) ?_
 refine bind_ex (ldI_of (w0.ld (i:=6) rfl rfl)) ?_
 refine bind_ex (ldI_of (w0.ld (i:=6) rfl rfl)) ?_
 refine bind_ex (ldI_of (w0.ld (i:=6) rfl rfl)) ?_
 refine bind_ex (ldI_of (w0.ld (i:=6) rfl rfl)) ?_
 refine bind_ex (ldI_of (w0.ld (i:=6) rfl rfl)) ?_
 refine newS_k (ePair (eInt .i64) (ePair (eInt .i64) (ePair (eInt .i64) (ePair (eInt .i64) (eInt .i64))))) w0 (n:=1) (l:=([(ek,el,em,en,eo)]:List (Int×Int×Int×Int×Int))) rfl (CR.cons (c:=[_,_,_,_,_]) ⟨[_],_,rfl,rfl,⟨[_],_,rfl,rfl,⟨[_],_,rfl,rfl,⟨[_],_,rfl,rfl,rfl⟩⟩⟩⟩ CR.empty) rfl fun H1 w1 s1 c1=>?_
 refine bind_ex (w1.rowo (i:=0) rfl) ?_
 obtain ⟨l2,e2,hp⟩:=bind_some' hp
 refine app_k (ePair (eInt .i64) (ePair (eInt .i64) (ePair (eInt .i64) (ePair (eInt .i64) (eInt .i64))))) w1 (i:=4) rfl rfl (jM.step s1) c1 (show 1 = List.length ([(ek,el,em,en,eo)]:List (Int×Int×Int×Int×Int)) from rfl) rfl e2 fun a3 d3 H3 w3 s3 c3 x3=>?_
 dsimp only [List.set] at w3 s3 c3
 refine st_k w3 (i:=5) rfl rfl rfl fun H4 w4 s4=>?_
 dsimp only [List.set] at w4 s4
 obtain ⟨w5,s5⟩:=w4.pick' [1,2,3,4,5,6] 8 rfl rfl rfl
 dsimp only [pk,pks,nth,List.drop] at w5 s5
 exact hC61 rfl rfl rfl rfl ⟨w5,(s0.trans (s1.trans (s3.trans (s4.trans s5)))),(jK.step (s1.trans (s3.trans (s4.trans s5)))),(jL.step (s1.trans (s3.trans (s4.trans s5)))),(c3.step (s4.trans s5)),(jN.step (s1.trans (s3.trans (s4.trans s5))))⟩ hp
def ae.S125 (H0:Hp) (Ri R0:List Rs)  (C:Nat→Nat→Nat→Nat→Sl→Int→Hp→OA) (pC:List (Int×Int×Int×Int×Int)→Int→List Bool→Int→Option ((List (Int×Int×Int×Int×Int))×Int)):Prop:=∀ {fN fO fP:ON} {eI bI eJ bP eK:Nat} {fQ fR fS:Cap} {fT dJ:List (Int×Int×Int×Int×Int)} {fU fV fW:List AV} {gQ dV bJ:Int} {dt:List Bool},∀ {H:Hp},eI = fT.length→eJ = dJ.length→eK = dt.length→(Out H0 Ri H (Rs.own ⟨fN,eI,fQ⟩ (ePair (eInt .i64) (ePair (eInt .i64) (ePair (eInt .i64) (ePair (eInt .i64) (eInt .i64))))).z fU :: Rs.blk bI [.sl ⟨fN,eI,fQ⟩,.int .i64 gQ] :: Rs.own ⟨fO,eJ,fR⟩ (ePair (eInt .i64) (ePair (eInt .i64) (ePair (eInt .i64) (ePair (eInt .i64) (eInt .i64))))).z fV :: Rs.blk bP [.sl ⟨fO,eJ,fR⟩,.int .i64 dV] :: Rs.own ⟨fP,eK,fS⟩ eBool.z fW :: R0) fun R=>CR (ePair (eInt .i64) (ePair (eInt .i64) (ePair (eInt .i64) (ePair (eInt .i64) (eInt .i64))))) H R fU fT∧CR (ePair (eInt .i64) (ePair (eInt .i64) (ePair (eInt .i64) (ePair (eInt .i64) (eInt .i64))))) H R fV dJ∧CR eBool H R fW dt)→∀ {r:(List (Int×Int×Int×Int×Int))×Int},pC dJ dV dt bJ = some r→∃ v H',C bI 0 bP 0 ⟨fP,eK,fS⟩ bJ H = some (v,H')∧ae.Q H0 Ri R0  r v H'
def ae.pj3 (F:Nat) (fX:List (Int×Int×Int×Int×Int)→Int→List Bool→Int→Option ((List (Int×Int×Int×Int×Int))×Int)) (eL:List (Int×Int×Int×Int×Int)) (fY:Int) (eM:List Bool) (eg:Int):Option ((List (Int×Int×Int×Int×Int))×Int):=fX eL fY eM (IntKind.i64.wrap (eg + 1))
theorem ae.j3_P {F:Nat} {H0:Hp} {Ri R0:List Rs}  {C125_:Nat→Nat→Nat→Nat→Sl→Int→Hp→OA} {fX:List (Int×Int×Int×Int×Int)→Int→List Bool→Int→Option ((List (Int×Int×Int×Int×Int))×Int)} (hC125:ae.S125 H0 Ri R0  C125_ fX) {ij ik il:ON} {gR fl gS fm gT:Nat} {im io ip:Cap} {iq eL:List (Int×Int×Int×Int×Int)} {ir iu iv:List AV} {jO fY eg:Int} {eM:List Bool} {H:Hp} (jP:gR = iq.length) (jQ:gS = eL.length) (jR:gT = eM.length) (h0:Out H0 Ri H (Rs.own ⟨ij,gR,im⟩ (ePair (eInt .i64) (ePair (eInt .i64) (ePair (eInt .i64) (ePair (eInt .i64) (eInt .i64))))).z ir :: Rs.blk fl [.sl ⟨ij,gR,im⟩,.int .i64 jO] :: Rs.own ⟨ik,gS,io⟩ (ePair (eInt .i64) (ePair (eInt .i64) (ePair (eInt .i64) (ePair (eInt .i64) (eInt .i64))))).z iu :: Rs.blk fm [.sl ⟨ik,gS,io⟩,.int .i64 fY] :: Rs.own ⟨il,gT,ip⟩ eBool.z iv :: R0) fun R=>CR (ePair (eInt .i64) (ePair (eInt .i64) (ePair (eInt .i64) (ePair (eInt .i64) (eInt .i64))))) H R ir iq∧CR (ePair (eInt .i64) (ePair (eInt .i64) (ePair (eInt .i64) (ePair (eInt .i64) (eInt .i64))))) H R iu eL∧CR eBool H R iv eM) {r:(List (Int×Int×Int×Int×Int))×Int} (hp:ae.pj3 F fX eL fY eM eg = some r):∃ v H',ae.j3 F (aA.tw F) (aj.tw F) C125_ fl 0 fm 0 ⟨il,gT,ip⟩ eg H = some (v,H')∧ae.Q H0 Ri R0  r v H':=by
 obtain ⟨w0,s0,jS,jT,jU⟩:=h0
 subst jP
 subst jQ
 subst jR
 unfold ae.pj3 at hp
 unfold ae.j3
 exact hC125 rfl rfl rfl ⟨w0,s0,jS,jT,jU⟩ hp
def ae.pl125 (F:Nat) :Nat→List (Int×Int×Int×Int×Int)→Int→List Bool→Int→Option ((List (Int×Int×Int×Int×Int))×Int)
 | 0,_,_,_,_=>none
 | k + 1,dJ,dV,dt,bJ=>(bif (decide (bJ < (dt.length:Int))) then ((ix dt bJ).bind fun n1=>(bif (!(gt dt n1)) then (ae.pj3 F (ae.pl125 F k) dJ (IntKind.i64.wrap (dV + 1)) dt bJ) else (ae.pj3 F (ae.pl125 F k) dJ dV dt bJ))) else (some (dJ,dV)))
termination_by structural n=>n
theorem ae.l125_P {F:Nat} {H0:Hp} {Ri R0:List Rs}  :∀ k,ae.S125 H0 Ri R0  (ae.l125 F (aA.tw F) (aj.tw F)  k) (ae.pl125 F  k):=by
 intro k
 induction k with
 | zero=>
  intro fN fO fP eI bI eJ bP eK fQ fR fS fT dJ fU fV fW gQ dV bJ dt H iw iy iz h0 r hp
  exact nomatch (show (none:Option ((List (Int×Int×Int×Int×Int))×Int)) = some r from hp)
 | succ k ih=>
  intro fN fO fP eI bI eJ bP eK fQ fR fS fT dJ fU fV fW gQ dV bJ dt H iw iy iz h0 r hp
  obtain ⟨w0,s0,iA,gU,gV⟩:=h0
  subst iw
  subst iy
  subst iz
  unfold ae.pl125 at hp
  unfold ae.l125
  refine bif_ex (fun hb=>?_) (fun hb=>?_)
  ·replace hp:=bif_t hb hp
   obtain ⟨n1,g1,hp⟩:=bind_some' hp
   obtain ⟨p1,q1,i1,h1,j1⟩:=W.ixo (E:=eBool) w0 (i:=4) rfl rfl gV g1
   refine bind_ex i1 ?_
   have h1:_ = [_]:=h1
   subst h1
   refine bind_ex (ldB_of (j1 0 _ rfl)) ?_
   refine bif_ex (fun hb=>?_) (fun hb=>?_)
   ·replace hp:=bif_t hb hp
    refine bind_ex (ldI_of (w0.ld (i:=3) rfl rfl)) ?_
    refine st_k w0 (i:=3) rfl rfl rfl fun H2 w2 s2=>?_
    dsimp only [List.set] at w2 s2
    exact ae.j3_P (@ih) rfl rfl rfl ⟨w2,(s0.trans s2),(iA.step s2),(gU.step s2),(gV.step s2)⟩ hp
   ·replace hp:=bif_f hb hp
    exact ae.j3_P (@ih) rfl rfl rfl ⟨w0,s0,iA,gU,gV⟩ hp
  ·replace hp:=bif_f hb hp
   refine bind_ex (ldSl_of (w0.ld (i:=3) rfl rfl)) ?_
   refine bind_ex (ldI_of (w0.ld (i:=3) rfl rfl)) ?_
   refine st_k w0 (i:=1) rfl rfl rfl fun H3 w3 s3=>?_
   dsimp only [List.set] at w3 s3
   refine st_k w3 (i:=1) rfl rfl rfl fun H4 w4 s4=>?_
   dsimp only [List.set] at w4 s4
   refine bind_ex (ldSl_of (w4.ld (i:=1) rfl rfl)) ?_
   refine bind_ex (ldI_of (w4.ld (i:=1) rfl rfl)) ?_
   obtain ⟨w5,s5⟩:=w4.pick' [2] 5 rfl rfl rfl
   dsimp only [pk,pks,nth,List.drop] at w5 s5
   obtain rfl:=Option.some.inj hp
   exact ⟨_,_,rfl,_,_,_,_,rfl,rfl,w5,(s0.trans (s3.trans (s4.trans s5))),(gU.step (s3.trans (s4.trans s5)))⟩
def ae.pj4 (F:Nat)  (eN:List (Int×Int×Int×Int×Int)) (fZ:Int) (eO:List Bool):Option ((List (Int×Int×Int×Int×Int))×Int):=ae.pl125 F F eN fZ eO 0
theorem ae.j4_P {F:Nat} {H0:Hp} {Ri R0:List Rs}   {iB iC iD:ON} {gW fo gX fp gY:Nat} {iE iF iG:Cap} {iH eN:List (Int×Int×Int×Int×Int)} {iI iJ iK:List AV} {jV fZ:Int} {eO:List Bool} {H:Hp} (jW:gW = iH.length) (jX:gX = eN.length) (jY:gY = eO.length) (h0:Out H0 Ri H (Rs.own ⟨iB,gW,iE⟩ (ePair (eInt .i64) (ePair (eInt .i64) (ePair (eInt .i64) (ePair (eInt .i64) (eInt .i64))))).z iI :: Rs.blk fo [.sl ⟨iB,gW,iE⟩,.int .i64 jV] :: Rs.own ⟨iC,gX,iF⟩ (ePair (eInt .i64) (ePair (eInt .i64) (ePair (eInt .i64) (ePair (eInt .i64) (eInt .i64))))).z iJ :: Rs.blk fp [.sl ⟨iC,gX,iF⟩,.int .i64 fZ] :: Rs.own ⟨iD,gY,iG⟩ eBool.z iK :: R0) fun R=>CR (ePair (eInt .i64) (ePair (eInt .i64) (ePair (eInt .i64) (ePair (eInt .i64) (eInt .i64))))) H R iI iH∧CR (ePair (eInt .i64) (ePair (eInt .i64) (ePair (eInt .i64) (ePair (eInt .i64) (eInt .i64))))) H R iJ eN∧CR eBool H R iK eO) {r:(List (Int×Int×Int×Int×Int))×Int} (hp:ae.pj4 F  eN fZ eO = some r):∃ v H',ae.j4 F (aA.tw F) (aj.tw F)  fo 0 fp 0 ⟨iD,gY,iG⟩ H = some (v,H')∧ae.Q H0 Ri R0  r v H':=by
 obtain ⟨w0,s0,jZ,j_,ka⟩:=h0
 subst jW
 subst jX
 subst jY
 unfold ae.pj4 at hp
 unfold ae.j4
 exact ae.l125_P F rfl rfl rfl ⟨w0,s0,jZ,j_,ka⟩ hp
def ae.pl61 (F:Nat) :Nat→List Int→List (Int×Int×Int×Int×Int)→Int→List Bool→Int→Option ((List (Int×Int×Int×Int×Int))×Int)
 | 0,_,_,_,_,_=>none
 | k + 1,cG,dH,dU,dI,bk=>(bif (decide (bk < (cG.length:Int))) then ((ix cG bk).bind fun n1=>(aA.p F (gt cG n1)).bind fun r2=>(ix dI (IntKind.i64.wrap (r2 - 1))).bind fun n4=>(some (dI.set n4 true)).bind fun l5=>(ix l5 r2).bind fun n7=>(some (l5.set n7 true)).bind fun l8=>(aj.p F cG bk (IntKind.i64.wrap (r2 - 1))).bind fun r10=>(aj.p F cG bk r2).bind fun r12=>(ix cG bk).bind fun n20=>(bif (decide ((gt cG n20) < 0)) then (ae.pj5 F (ae.pl61 F k) cG dH dU l8 bk r10 r12 (IntKind.i64.wrap ((IntKind.i64.wrap (2 * bk)) + 1)) (IntKind.i64.wrap (2 * bk)) (-1)) else (ae.pj5 F (ae.pl61 F k) cG dH dU l8 bk r12 (IntKind.i64.wrap ((IntKind.i64.wrap (2 * bk)) + 1)) (IntKind.i64.wrap (2 * bk)) r10 1))) else (ae.pj4 F dH dU dI))
termination_by structural n=>n
theorem ae.l61_P {F:Nat} {H0:Hp} {Ri R0:List Rs}  :∀ k,ae.S61 H0 Ri R0  (ae.l61 F (aA.tw F) (aj.tw F)  k) (ae.pl61 F  k):=by
 intro k
 induction k with
 | zero=>
  intro gK gL dU bk fz fA fB fC eB bx eC bY eD ci eE fD fE fF fG cG fH dH fI fJ fK dI H iL iM iN iO h0 r hp
  exact nomatch (show (none:Option ((List (Int×Int×Int×Int×Int))×Int)) = some r from hp)
 | succ k ih=>
  intro gK gL dU bk fz fA fB fC eB bx eC bY eD ci eE fD fE fF fG cG fH dH fI fJ fK dI H iL iM iN iO h0 r hp
  obtain ⟨w0,s0,ep,gZ,g_,hf⟩:=h0
  subst iL
  subst iM
  subst iN
  subst iO
  unfold ae.pl61 at hp
  unfold ae.l61
  refine bind_ex (ldSl_of (w0.ld (i:=0) rfl rfl)) ?_
  refine bif_ex (fun hb=>?_) (fun hb=>?_)
  ·replace hp:=bif_t hb hp
   refine bind_ex (ldSl_of (w0.ld (i:=0) rfl rfl)) ?_
   obtain ⟨n1,g1,hp⟩:=bind_some' hp
   obtain ⟨p1,q1,i1,h1,j1⟩:=ROs.ixr ep rfl g1
   refine bind_ex i1 ?_
   have h1:_ = [_]:=h1
   subst h1
   refine bind_ex (ldI_of (j1 0 _ rfl)) ?_
   obtain ⟨r2,e2,hp⟩:=bind_some' hp
   refine call_ex (aA.P ⟨w0,trivial⟩ e2) ?_
   rintro _ H3 ⟨rfl,w3,s3,_⟩
   refine bind_ex rfl ?_
   obtain ⟨n4,g4,hp⟩:=bind_some' hp
   obtain ⟨p4,q4,i4,h4,j4⟩:=W.ixo (E:=eBool) w3 (i:=5) rfl rfl (hf.step s3) g4
   refine bind_ex i4 ?_
   obtain ⟨l5,e5,hp⟩:=bind_some' hp
   refine sto_k eBool w3 (i:=5) (j:=0) (p:=p4) rfl rfl (hf.step s3) g4 i4 e5 rfl rfl (fun _ h=>by have h:_ = [_]:=h; subst h; exact rfl) fun H6 k6 w6 s6 c6=>?_
   dsimp only [List.set] at w6 s6 c6
   obtain ⟨n7,g7,hp⟩:=bind_some' hp
   obtain ⟨p7,q7,i7,h7,j7⟩:=W.ixo (E:=eBool) w6 (i:=5) rfl rfl c6 g7
   refine bind_ex i7 ?_
   obtain ⟨l8,e8,hp⟩:=bind_some' hp
   refine sto_k eBool w6 (i:=5) (j:=0) (p:=p7) rfl rfl c6 g7 i7 e8 rfl rfl (fun _ h=>by have h:_ = [_]:=h; subst h; exact rfl) fun H9 k9 w9 s9 c9=>?_
   dsimp only [List.set] at w9 s9 c9
   refine bind_ex (ldSl_of (w9.ld (i:=0) rfl rfl)) ?_
   obtain ⟨r10,e10,hp⟩:=bind_some' hp
   refine call_ex (aj.P rfl ⟨w9,(ep.step (s3.trans (s6.trans s9)))⟩ e10) ?_
   rintro _ H11 ⟨rfl,w11,s11,_⟩
   refine bind_ex rfl ?_
   refine bind_ex (ldSl_of (w11.ld (i:=0) rfl rfl)) ?_
   obtain ⟨r12,e12,hp⟩:=bind_some' hp
   refine call_ex (aj.P rfl ⟨w11,(ep.step (s3.trans (s6.trans (s9.trans s11))))⟩ e12) ?_
   rintro _ H13 ⟨rfl,w13,s13,_⟩
   refine bind_ex rfl ?_
   refine new_k w13 fun H14 w14 s14=>?_
   refine st_k w14 (i:=0) rfl rfl rfl fun H15 w15 s15=>?_
   dsimp only [List.set] at w15 s15
   refine st_k w15 (i:=0) rfl rfl rfl fun H16 w16 s16=>?_
   dsimp only [List.set] at w16 s16
   refine st_k w16 (i:=0) rfl rfl rfl fun H17 w17 s17=>?_
   dsimp only [List.set] at w17 s17
   refine st_k w17 (i:=0) rfl rfl rfl fun H18 w18 s18=>?_
   dsimp only [List.set] at w18 s18
   refine st_k w18 (i:=0) rfl rfl rfl fun H19 w19 s19=>?_
   dsimp only [List.set] at w19 s19
   refine bind_ex (ldSl_of (w19.ld (i:=1) rfl rfl)) ?_
   obtain ⟨n20,g20,hp⟩:=bind_some' hp
   obtain ⟨p20,q20,i20,h20,j20⟩:=ROs.ixr (ep.step (s3.trans (s6.trans (s9.trans (s11.trans (s13.trans (s14.trans (s15.trans (s16.trans (s17.trans (s18.trans s19))))))))))) rfl g20
   refine bind_ex i20 ?_
   have h20:_ = [_]:=h20
   subst h20
   refine bind_ex (ldI_of (j20 0 _ rfl)) ?_
   refine bif_ex (fun hb=>?_) (fun hb=>?_)
   ·replace hp:=bif_t hb hp
    refine st_k w19 (i:=0) rfl rfl rfl fun H21 w21 s21=>?_
    dsimp only [List.set] at w21 s21
    refine st_k w21 (i:=0) rfl rfl rfl fun H22 w22 s22=>?_
    dsimp only [List.set] at w22 s22
    refine st_k w22 (i:=0) rfl rfl rfl fun H23 w23 s23=>?_
    dsimp only [List.set] at w23 s23
    refine st_k w23 (i:=0) rfl rfl rfl fun H24 w24 s24=>?_
    dsimp only [List.set] at w24 s24
    refine st_k w24 (i:=0) rfl rfl rfl fun H25 w25 s25=>?_
    dsimp only [List.set] at w25 s25
    obtain ⟨w26,s26⟩:=w25.pick' [1,2,3,4,5,6,0] 7 rfl rfl rfl
    dsimp only [pk,pks,nth,List.drop] at w26 s26
    exact ae.j5_P (@ih) rfl rfl rfl ((st_len e5).symm.trans (st_len e8).symm) ⟨w26,(s0.trans (s3.trans (s6.trans (s9.trans (s11.trans (s13.trans (s14.trans (s15.trans (s16.trans (s17.trans (s18.trans (s19.trans (s21.trans (s22.trans (s23.trans (s24.trans (s25.trans s26))))))))))))))))),(ep.step (s3.trans (s6.trans (s9.trans (s11.trans (s13.trans (s14.trans (s15.trans (s16.trans (s17.trans (s18.trans (s19.trans (s21.trans (s22.trans (s23.trans (s24.trans (s25.trans s26))))))))))))))))),(gZ.step (s3.trans (s6.trans (s9.trans (s11.trans (s13.trans (s14.trans (s15.trans (s16.trans (s17.trans (s18.trans (s19.trans (s21.trans (s22.trans (s23.trans (s24.trans (s25.trans s26))))))))))))))))),(g_.step (s3.trans (s6.trans (s9.trans (s11.trans (s13.trans (s14.trans (s15.trans (s16.trans (s17.trans (s18.trans (s19.trans (s21.trans (s22.trans (s23.trans (s24.trans (s25.trans s26))))))))))))))))),(c9.step (s11.trans (s13.trans (s14.trans (s15.trans (s16.trans (s17.trans (s18.trans (s19.trans (s21.trans (s22.trans (s23.trans (s24.trans (s25.trans s26))))))))))))))⟩ hp
   ·replace hp:=bif_f hb hp
    obtain ⟨w27,s27⟩:=w19.pick' [1,2,3,4,5,6,0] 7 rfl rfl rfl
    dsimp only [pk,pks,nth,List.drop] at w27 s27
    exact ae.j5_P (@ih) rfl rfl rfl ((st_len e5).symm.trans (st_len e8).symm) ⟨w27,(s0.trans (s3.trans (s6.trans (s9.trans (s11.trans (s13.trans (s14.trans (s15.trans (s16.trans (s17.trans (s18.trans (s19.trans s27)))))))))))),(ep.step (s3.trans (s6.trans (s9.trans (s11.trans (s13.trans (s14.trans (s15.trans (s16.trans (s17.trans (s18.trans (s19.trans s27)))))))))))),(gZ.step (s3.trans (s6.trans (s9.trans (s11.trans (s13.trans (s14.trans (s15.trans (s16.trans (s17.trans (s18.trans (s19.trans s27)))))))))))),(g_.step (s3.trans (s6.trans (s9.trans (s11.trans (s13.trans (s14.trans (s15.trans (s16.trans (s17.trans (s18.trans (s19.trans s27)))))))))))),(c9.step (s11.trans (s13.trans (s14.trans (s15.trans (s16.trans (s17.trans (s18.trans (s19.trans s27)))))))))⟩ hp
  ·replace hp:=bif_f hb hp
   obtain ⟨w28,s28⟩:=w0.pick' [1,2,3,4,5] 6 rfl rfl rfl
   dsimp only [pk,pks,nth,List.drop] at w28 s28
   exact ae.j4_P rfl rfl rfl ⟨w28,(s0.trans s28),(gZ.step s28),(g_.step s28),(hf.step s28)⟩ hp
def ae.p (F:Nat) (aa:Int) (aC:List Int):Option ((List (Int×Int×Int×Int×Int))×Int):=(mkn aa false).bind fun l6=>ae.pl61 F F aC ([]:List (Int×Int×Int×Int×Int)) 0 l6 0
theorem ae.P {F:Nat} {aa:Int} {bn:ON} {bj:Nat} {bo:Cap} {aC:List Int} {H:Hp} {R0:List Rs} (ce:bj = aC.length) (h0:Inn H R0 fun R=>ROs (eInt .i64) H R ⟨bn,bj,bo⟩ aC) {r:(List (Int×Int×Int×Int×Int))×Int} (hp:ae.p F aa aC = some r):∃ v H',ae.tw F aa ⟨bn,bj,bo⟩ H = some (v,H')∧ae.Q H R0 R0  r v H':=by
 obtain ⟨w0,bu⟩:=h0
 subst ce
 unfold ae.p at hp
 unfold ae.tw ae.twX
 have s0:=w0.rf
 refine new_k w0 fun H1 w1 s1=>?_
 refine new_k w1 fun H2 w2 s2=>?_
 refine new_k w2 fun H3 w3 s3=>?_
 refine st_k w3 (i:=0) rfl rfl rfl fun H4 w4 s4=>?_
 dsimp only [List.set] at w4 s4
 refine st_k w4 (i:=0) rfl rfl rfl fun H5 w5 s5=>?_
 dsimp only [List.set] at w5 s5
 refine bind_ex (ldI_of (w5.ld (i:=2) rfl rfl)) ?_
 obtain ⟨l6,e6,hp⟩:=bind_some' hp
 refine mk_k eBool false w5 rfl rfl rfl e6 fun H7 k7 w7 s7 c7=>?_
 obtain ⟨w8,s8⟩:=w7.nilS (ePair (eInt .i64) (ePair (eInt .i64) (ePair (eInt .i64) (ePair (eInt .i64) (eInt .i64))))).z (by decide)
 obtain ⟨w9,s9⟩:=w8.nilS (ePair (eInt .i64) (ePair (eInt .i64) (ePair (eInt .i64) (ePair (eInt .i64) (eInt .i64))))).z (by decide)
 obtain ⟨w10,s10⟩:=w9.pick' [5,1,4,0,3,2] 6 rfl rfl rfl
 dsimp only [pk,pks,nth,List.drop] at w10 s10
 exact ae.l61_P F rfl rfl rfl rfl ⟨w10,(s0.trans (s1.trans (s2.trans (s3.trans (s4.trans (s5.trans (s7.trans (s8.trans (s9.trans s10))))))))),(bu.step (s1.trans (s2.trans (s3.trans (s4.trans (s5.trans (s7.trans (s8.trans (s9.trans s10))))))))),((CR.empty:CR (ePair (eInt .i64) (ePair (eInt .i64) (ePair (eInt .i64) (ePair (eInt .i64) (eInt .i64))))) _ _ [] []).step (s9.trans s10)),((CR.empty:CR (ePair (eInt .i64) (ePair (eInt .i64) (ePair (eInt .i64) (ePair (eInt .i64) (eInt .i64))))) _ _ [] []).step s10),(c7.step (s8.trans (s9.trans s10)))⟩ hp
def aP.Q (H0:Hp) (Ri R0:List Rs)  (r:(List (Int×Int×Int×Int×Int))×Int×Int) (v:AV) (H':Hp):Prop:=∃ o0a:ON,∃ o0n:Nat,∃ o0c:Cap,∃ o0k:List AV,v = (.tup [(.agg [(.sl ⟨o0a,o0n,o0c⟩),(.int .i64 r.2.1)]),(.int .i64 r.2.2)])∧o0n = (r.1).length∧Out H0 Ri H' (Rs.own ⟨o0a,o0n,o0c⟩ (ePair (eInt .i64) (ePair (eInt .i64) (ePair (eInt .i64) (ePair (eInt .i64) (eInt .i64))))).z o0k :: R0) fun R=>CR (ePair (eInt .i64) (ePair (eInt .i64) (ePair (eInt .i64) (ePair (eInt .i64) (eInt .i64))))) H' R o0k (r.1)
def aP.p (F:Nat) (aa:Int) (aC:List Int):Option ((List (Int×Int×Int×Int×Int))×Int×Int):=(ak.p F aa aC).bind fun r3=>(bif (!r3) then (some (([]:List (Int×Int×Int×Int×Int)),0,1)) else ((bif (decide ((aC.length:Int) > 10)) then (some (([]:List (Int×Int×Int×Int×Int)),0,3)) else ((ae.p F aa aC).bind fun r13=>some (r13.1,r13.2,0)))))
theorem aP.P {F:Nat} {aa:Int} {bn:ON} {bj:Nat} {bo:Cap} {aC:List Int} {H:Hp} {R0:List Rs} (ce:bj = aC.length) (h0:Inn H R0 fun R=>ROs (eInt .i64) H R ⟨bn,bj,bo⟩ aC) {r:(List (Int×Int×Int×Int×Int))×Int×Int} (hp:aP.p F aa aC = some r):∃ v H',aP.tw F aa ⟨bn,bj,bo⟩ H = some (v,H')∧aP.Q H R0 R0  r v H':=by
 obtain ⟨w0,bu⟩:=h0
 subst ce
 unfold aP.p at hp
 unfold aP.tw aP.twX
 have s0:=w0.rf
 refine new_k w0 fun H1 w1 s1=>?_
 refine new_k w1 fun H2 w2 s2=>?_
 refine bind_ex (ldI_of (w2.ld (i:=1) rfl rfl)) ?_
 refine bind_ex (ldSl_of (w2.ld (i:=1) rfl rfl)) ?_
 obtain ⟨r3,e3,hp⟩:=bind_some' hp
 refine call_ex (ak.P rfl ⟨w2,(bu.step (s1.trans s2))⟩ e3) ?_
 rintro _ H4 ⟨rfl,w4,s4,_⟩
 refine bind_ex rfl ?_
 refine bif_ex (fun hb=>?_) (fun hb=>?_)
 ·replace hp:=bif_t hb hp
  refine st_k w4 (i:=0) rfl rfl rfl fun H5 w5 s5=>?_
  dsimp only [List.set] at w5 s5
  refine st_k w5 (i:=0) rfl rfl rfl fun H6 w6 s6=>?_
  dsimp only [List.set] at w6 s6
  refine bind_ex (ldSl_of (w6.ld (i:=0) rfl rfl)) ?_
  refine bind_ex (ldI_of (w6.ld (i:=0) rfl rfl)) ?_
  obtain ⟨w7,s7⟩:=w6.nilS (ePair (eInt .i64) (ePair (eInt .i64) (ePair (eInt .i64) (ePair (eInt .i64) (eInt .i64))))).z (by decide)
  obtain ⟨w8,s8⟩:=w7.pick' [0] 3 rfl rfl rfl
  dsimp only [pk,pks,nth,List.drop] at w8 s8
  obtain rfl:=Option.some.inj hp
  exact ⟨_,_,rfl,_,_,_,_,rfl,rfl,w8,(s0.trans (s1.trans (s2.trans (s4.trans (s5.trans (s6.trans (s7.trans s8))))))),((CR.empty:CR (ePair (eInt .i64) (ePair (eInt .i64) (ePair (eInt .i64) (ePair (eInt .i64) (eInt .i64))))) _ _ [] []).step s8)⟩
 ·replace hp:=bif_f hb hp
  refine bind_ex (ldSl_of (w4.ld (i:=1) rfl rfl)) ?_
  refine bif_ex (fun hb=>?_) (fun hb=>?_)
  ·replace hp:=bif_t hb hp
   refine st_k w4 (i:=0) rfl rfl rfl fun H9 w9 s9=>?_
   dsimp only [List.set] at w9 s9
   refine st_k w9 (i:=0) rfl rfl rfl fun H10 w10 s10=>?_
   dsimp only [List.set] at w10 s10
   refine bind_ex (ldSl_of (w10.ld (i:=0) rfl rfl)) ?_
   refine bind_ex (ldI_of (w10.ld (i:=0) rfl rfl)) ?_
   obtain ⟨w11,s11⟩:=w10.nilS (ePair (eInt .i64) (ePair (eInt .i64) (ePair (eInt .i64) (ePair (eInt .i64) (eInt .i64))))).z (by decide)
   obtain ⟨w12,s12⟩:=w11.pick' [0] 3 rfl rfl rfl
   dsimp only [pk,pks,nth,List.drop] at w12 s12
   obtain rfl:=Option.some.inj hp
   exact ⟨_,_,rfl,_,_,_,_,rfl,rfl,w12,(s0.trans (s1.trans (s2.trans (s4.trans (s9.trans (s10.trans (s11.trans s12))))))),((CR.empty:CR (ePair (eInt .i64) (ePair (eInt .i64) (ePair (eInt .i64) (ePair (eInt .i64) (eInt .i64))))) _ _ [] []).step s12)⟩
  ·replace hp:=bif_f hb hp
   refine bind_ex (ldI_of (w4.ld (i:=1) rfl rfl)) ?_
   refine bind_ex (ldSl_of (w4.ld (i:=1) rfl rfl)) ?_
   obtain ⟨r13,e13,hp⟩:=bind_some' hp
   refine call_ex (ae.P rfl ⟨w4,(bu.step (s1.trans (s2.trans s4)))⟩ e13) ?_
   rintro _ H14 ⟨o0a_14,o0n_14,o0c_14,o0k_14,rfl,rfl,w14,s14,f14_0⟩
   refine bind_ex rfl ?_
   refine bind_ex rfl ?_
   refine bind_ex rfl ?_
   refine bind_ex rfl ?_
   refine bind_ex rfl ?_
   refine st_k w14 (i:=1) rfl rfl rfl fun H15 w15 s15=>?_
   dsimp only [List.set] at w15 s15
   refine st_k w15 (i:=1) rfl rfl rfl fun H16 w16 s16=>?_
   dsimp only [List.set] at w16 s16
   refine bind_ex (ldSl_of (w16.ld (i:=1) rfl rfl)) ?_
   refine bind_ex (ldI_of (w16.ld (i:=1) rfl rfl)) ?_
   obtain ⟨w17,s17⟩:=w16.pick' [0] 3 rfl rfl rfl
   dsimp only [pk,pks,nth,List.drop] at w17 s17
   obtain rfl:=Option.some.inj hp
   exact ⟨_,_,rfl,_,_,_,_,rfl,rfl,w17,(s0.trans (s1.trans (s2.trans (s4.trans (s14.trans (s15.trans (s16.trans s17))))))),(f14_0.step (s15.trans (s16.trans s17)))⟩
def aE.Q (H0:Hp) (Ri R0:List Rs)  (r:Bool) (v:AV) (H':Hp):Prop:=v = (.bool r)∧Out H0 Ri H' (R0) fun R=>True
def aE.p (F:Nat) (aa:Int) (ac:Int) (aZ:Int):Option (Bool):=(bif (decide (ac ≤ aa)) then (some (decide (aa ≤ aZ))) else (some false))
theorem aE.P {F:Nat} {aa ac aZ:Int} {H:Hp} {R0:List Rs}  (h0:Inn H R0 fun R=>True) {r:Bool} (hp:aE.p F aa ac aZ = some r):∃ v H',aE.tw F aa ac aZ H = some (v,H')∧aE.Q H R0 R0  r v H':=by
 obtain ⟨w0,_⟩:=h0
 unfold aE.p at hp
 unfold aE.tw aE.twX
 have s0:=w0.rf
 refine bif_ex (fun hb=>?_) (fun hb=>?_)
 ·replace hp:=bif_t hb hp
  obtain rfl:=Option.some.inj hp
  exact ⟨_,_,rfl,rfl,w0,s0,trivial⟩
 ·replace hp:=bif_f hb hp
  obtain rfl:=Option.some.inj hp
  exact ⟨_,_,rfl,rfl,w0,s0,trivial⟩
def aQ.Q (H0:Hp) (Ri R0:List Rs)  (r:Bool) (v:AV) (H':Hp):Prop:=v = (.bool r)∧Out H0 Ri H' (R0) fun R=>True
def aQ.p (F:Nat) (aa:Int) (ac:Int):Option (Bool):=(bif (ac != 0) then ((aE.p F ac (IntKind.i64.wrap (1 - aa)) (IntKind.i64.wrap (aa - 1))).bind fun r1=>some r1) else (some false))
theorem aQ.P {F:Nat} {aa ac:Int} {H:Hp} {R0:List Rs}  (h0:Inn H R0 fun R=>True) {r:Bool} (hp:aQ.p F aa ac = some r):∃ v H',aQ.tw F aa ac H = some (v,H')∧aQ.Q H R0 R0  r v H':=by
 obtain ⟨w0,_⟩:=h0
 unfold aQ.p at hp
 unfold aQ.tw aQ.twX
 have s0:=w0.rf
 refine bif_ex (fun hb=>?_) (fun hb=>?_)
 ·replace hp:=bif_t hb hp
  obtain ⟨r1,e1,hp⟩:=bind_some' hp
  refine call_ex (aE.P ⟨w0,trivial⟩ e1) ?_
  rintro _ H2 ⟨rfl,w2,s2,_⟩
  refine bind_ex rfl ?_
  obtain rfl:=Option.some.inj hp
  exact ⟨_,_,rfl,rfl,w2,(s0.trans s2),trivial⟩
 ·replace hp:=bif_f hb hp
  obtain rfl:=Option.some.inj hp
  exact ⟨_,_,rfl,rfl,w0,s0,trivial⟩
def aR.Q (H0:Hp) (Ri R0:List Rs) (bt:Int) (cv:Sl) (ac:Nat) (r:Bool) (v:AV) (H':Hp):Prop:=v = (.bool r)∧Out H0 Ri H' (Rs.blk ac [.int .i64 bt,.sl cv] :: R0) fun R=>True
def aR.p (F:Nat) (aa:Int) (bt:Int):Option (Bool):=(aQ.p F bt aa).bind fun r1=>some (!r1)
theorem aR.P {F:Nat} {aa bt:Int} {cv:Sl} {ac:Nat} {H:Hp} {R0:List Rs}  (h0:Inn H (Rs.blk ac [.int .i64 bt,.sl cv] :: R0) fun R=>True) {r:Bool} (hp:aR.p F aa bt = some r):∃ v H',aR.tw F aa ac 0 H = some (v,H')∧aR.Q H (Rs.blk ac [.int .i64 bt,.sl cv] :: R0) R0 bt cv ac r v H':=by
 obtain ⟨w0,_⟩:=h0
 unfold aR.p at hp
 unfold aR.tw aR.twX
 have s0:=w0.rf
 refine bind_ex (ldI_of (w0.ld (i:=0) rfl rfl)) ?_
 obtain ⟨r1,e1,hp⟩:=bind_some' hp
 refine call_ex (aQ.P ⟨w0,trivial⟩ e1) ?_
 rintro _ H2 ⟨rfl,w2,s2,_⟩
 refine bind_ex rfl ?_
 obtain rfl:=Option.some.inj hp
 exact ⟨_,_,rfl,rfl,w2,(s0.trans s2),trivial⟩
def ap.Q (H0:Hp) (Ri R0:List Rs) (bt:Int) (cv:Sl) (ac:Nat) (r:Int) (v:AV) (H':Hp):Prop:=v = (.int .i64 r)∧Out H0 Ri H' (Rs.blk ac [.int .i64 bt,.sl cv] :: R0) fun R=>True
def ap.S13 (H0:Hp) (Ri R0:List Rs) (dW:Int) (f_:Sl) (eP:Nat) (C:Sl→Nat→Nat→Int→Int→Hp→OA) (pC:List Int→Int→Int→Int→Option (Int)):Prop:=∀ {dE:ON} {dr:Nat} {dG:Cap} {br:List Int} {bZ bL:Int},∀ {H:Hp},dr = br.length→(Out H0 Ri H (Rs.blk eP [.int .i64 dW,.sl f_] :: R0) fun R=>ROs (eInt .i64) H R ⟨dE,dr,dG⟩ br)→∀ {r:Int},pC br dW bZ bL = some r→∃ v H',C ⟨dE,dr,dG⟩ eP 0 bZ bL H = some (v,H')∧ap.Q H0 Ri R0 dW f_ eP r v H'
def ap.pl13 (F:Nat) :Nat→List Int→Int→Int→Int→Option (Int)
 | 0,_,_,_,_=>none
 | k + 1,br,dW,bZ,bL=>(bif (decide (bL < bZ)) then ((ix br bL).bind fun n1=>(aR.p F (gt br n1) dW).bind fun r2=>(bif r2 then (some bL) else (ap.pl13 F k br dW bZ (IntKind.i64.wrap (bL + 1))))) else (some (-1)))
termination_by structural n=>n
theorem ap.l13_P {F:Nat} {H0:Hp} {Ri R0:List Rs} {dW:Int} {f_:Sl} {eP:Nat} :∀ k,ap.S13 H0 Ri R0 dW f_ eP (ap.l13 F (aR.tw F)  k) (ap.pl13 F  k):=by
 intro k
 induction k with
 | zero=>
  intro dE dr dG br bZ bL H ez h0 r hp
  exact nomatch (show (none:Option (Int)) = some r from hp)
 | succ k ih=>
  intro dE dr dG br bZ bL H ez h0 r hp
  obtain ⟨w0,s0,eA⟩:=h0
  subst ez
  unfold ap.pl13 at hp
  unfold ap.l13
  refine bif_ex (fun hb=>?_) (fun hb=>?_)
  ·replace hp:=bif_t hb hp
   obtain ⟨n1,g1,hp⟩:=bind_some' hp
   obtain ⟨p1,q1,i1,h1,j1⟩:=ROs.ixr eA rfl g1
   refine bind_ex i1 ?_
   have h1:_ = [_]:=h1
   subst h1
   refine bind_ex (ldI_of (j1 0 _ rfl)) ?_
   obtain ⟨r2,e2,hp⟩:=bind_some' hp
   refine call_ex (aR.P ⟨w0,trivial⟩ e2) ?_
   rintro _ H3 ⟨rfl,w3,s3,_⟩
   refine bind_ex rfl ?_
   refine bif_ex (fun hb=>?_) (fun hb=>?_)
   ·replace hp:=bif_t hb hp
    obtain rfl:=Option.some.inj hp
    exact ⟨_,_,rfl,rfl,w3,(s0.trans s3),trivial⟩
   ·replace hp:=bif_f hb hp
    exact ih rfl ⟨w3,(s0.trans s3),(eA.step s3)⟩ hp
  ·replace hp:=bif_f hb hp
   obtain rfl:=Option.some.inj hp
   exact ⟨_,_,rfl,rfl,w0,s0,trivial⟩
def ap.p (F:Nat) (ay:List Int) (bt:Int):Option (Int):=ap.pl13 F F ay bt (ay.length:Int) 0
theorem ap.P {F:Nat} {a_:ON} {aG ac:Nat} {ba:Cap} {ay:List Int} {bt:Int} {cv:Sl} {H:Hp} {R0:List Rs} (bq:aG = ay.length) (h0:Inn H (Rs.blk ac [.int .i64 bt,.sl cv] :: R0) fun R=>ROs (eInt .i64) H R ⟨a_,aG,ba⟩ ay) {r:Int} (hp:ap.p F ay bt = some r):∃ v H',ap.tw F ⟨a_,aG,ba⟩ ac 0 H = some (v,H')∧ap.Q H (Rs.blk ac [.int .i64 bt,.sl cv] :: R0) R0 bt cv ac r v H':=by
 obtain ⟨w0,bs⟩:=h0
 subst bq
 unfold ap.p at hp
 unfold ap.tw ap.twX
 have s0:=w0.rf
 exact ap.l13_P F rfl ⟨w0,s0,bs⟩ hp
def aV.Q (H0:Hp) (Ri R0:List Rs) (bt:Int) (cv:Sl) (ac:Nat) (r:Bool) (v:AV) (H':Hp):Prop:=v = (.bool r)∧Out H0 Ri H' (Rs.blk ac [.int .i64 bt,.sl cv] :: R0) fun R=>True
def aV.p (F:Nat) (ay:List Int) (bt:Int):Option (Bool):=(ap.p F ay bt).bind fun r1=>some (decide (r1 ≥ 0))
theorem aV.P {F:Nat} {a_:ON} {aG ac:Nat} {ba:Cap} {ay:List Int} {bt:Int} {cv:Sl} {H:Hp} {R0:List Rs} (bq:aG = ay.length) (h0:Inn H (Rs.blk ac [.int .i64 bt,.sl cv] :: R0) fun R=>ROs (eInt .i64) H R ⟨a_,aG,ba⟩ ay) {r:Bool} (hp:aV.p F ay bt = some r):∃ v H',aV.tw F ⟨a_,aG,ba⟩ ac 0 H = some (v,H')∧aV.Q H (Rs.blk ac [.int .i64 bt,.sl cv] :: R0) R0 bt cv ac r v H':=by
 obtain ⟨w0,bs⟩:=h0
 subst bq
 unfold aV.p at hp
 unfold aV.tw aV.twX
 have s0:=w0.rf
 obtain ⟨r1,e1,hp⟩:=bind_some' hp
 refine call_ex (ap.P rfl ⟨w0,bs⟩ e1) ?_
 rintro _ H2 ⟨rfl,w2,s2,_⟩
 refine bind_ex rfl ?_
 obtain rfl:=Option.some.inj hp
 exact ⟨_,_,rfl,rfl,w2,(s0.trans s2),trivial⟩
def aK.Q (H0:Hp) (Ri R0:List Rs)  (r:Bool) (v:AV) (H':Hp):Prop:=v = (.bool r)∧Out H0 Ri H' (R0) fun R=>True
def aK.p (F:Nat) (aa:Int) (aC:List Int):Option (Bool):=(aE.p F aa 1 6).bind fun r2=>(bif r2 then ((bif (decide ((aC.length:Int) ≤ 24)) then ((aV.p F aC aa).bind fun r4=>some (!r4)) else (some false))) else (some false))
theorem aK.P {F:Nat} {aa:Int} {bn:ON} {bj:Nat} {bo:Cap} {aC:List Int} {H:Hp} {R0:List Rs} (ce:bj = aC.length) (h0:Inn H R0 fun R=>ROs (eInt .i64) H R ⟨bn,bj,bo⟩ aC) {r:Bool} (hp:aK.p F aa aC = some r):∃ v H',aK.tw F aa ⟨bn,bj,bo⟩ H = some (v,H')∧aK.Q H R0 R0  r v H':=by
 obtain ⟨w0,bu⟩:=h0
 subst ce
 unfold aK.p at hp
 unfold aK.tw aK.twX
 have s0:=w0.rf
 refine new_k w0 fun H1 w1 s1=>?_
 refine bind_ex (ldI_of (w1.ld (i:=0) rfl rfl)) ?_
 obtain ⟨r2,e2,hp⟩:=bind_some' hp
 refine call_ex (aE.P ⟨w1,trivial⟩ e2) ?_
 rintro _ H3 ⟨rfl,w3,s3,_⟩
 refine bind_ex rfl ?_
 refine bif_ex (fun hb=>?_) (fun hb=>?_)
 ·replace hp:=bif_t hb hp
  refine bind_ex (ldSl_of (w3.ld (i:=0) rfl rfl)) ?_
  refine bif_ex (fun hb=>?_) (fun hb=>?_)
  ·replace hp:=bif_t hb hp
   refine bind_ex (ldSl_of (w3.ld (i:=0) rfl rfl)) ?_
   obtain ⟨r4,e4,hp⟩:=bind_some' hp
   refine call_ex (aV.P rfl ⟨w3,(bu.step (s1.trans s3))⟩ e4) ?_
   rintro _ H5 ⟨rfl,w5,s5,_⟩
   refine bind_ex rfl ?_
   obtain ⟨w6,s6⟩:=w5.pick' [] 1 rfl rfl rfl
   dsimp only [pk,pks,nth,List.drop] at w6 s6
   obtain rfl:=Option.some.inj hp
   exact ⟨_,_,rfl,rfl,w6,(s0.trans (s1.trans (s3.trans (s5.trans s6)))),trivial⟩
  ·replace hp:=bif_f hb hp
   obtain ⟨w7,s7⟩:=w3.pick' [] 1 rfl rfl rfl
   dsimp only [pk,pks,nth,List.drop] at w7 s7
   obtain rfl:=Option.some.inj hp
   exact ⟨_,_,rfl,rfl,w7,(s0.trans (s1.trans (s3.trans s7))),trivial⟩
 ·replace hp:=bif_f hb hp
  obtain ⟨w8,s8⟩:=w3.pick' [] 1 rfl rfl rfl
  dsimp only [pk,pks,nth,List.drop] at w8 s8
  obtain rfl:=Option.some.inj hp
  exact ⟨_,_,rfl,rfl,w8,(s0.trans (s1.trans (s3.trans s8))),trivial⟩
def bits_Mul64.Q (H0:Hp) (Ri R0:List Rs)  (r:Int×Int) (v:AV) (H':Hp):Prop:=v = (.tup [(.int .u64 r.1),(.int .u64 r.2)])∧Out H0 Ri H' (R0) fun R=>True
def bits_Mul64.p (F:Nat) (aa:Int) (ac:Int):Option (Int×Int):=some ((IntKind.u64.wrap ((IntKind.u64.wrap ((IntKind.u64.wrap ((Int.fdiv aa (2 ^ (min (32:Int).toNat (IntKind.u64).bits))) * (Int.fdiv ac (2 ^ (min (32:Int).toNat (IntKind.u64).bits))))) + (Int.fdiv (IntKind.u64.wrap ((IntKind.u64.wrap ((Int.fdiv aa (2 ^ (min (32:Int).toNat (IntKind.u64).bits))) * (Go.bits .and .u64 ac 4294967295))) + (Int.fdiv (IntKind.u64.wrap ((Go.bits .and .u64 aa 4294967295) * (Go.bits .and .u64 ac 4294967295))) (2 ^ (min (32:Int).toNat (IntKind.u64).bits))))) (2 ^ (min (32:Int).toNat (IntKind.u64).bits))))) + (Int.fdiv (IntKind.u64.wrap ((Go.bits .and .u64 (IntKind.u64.wrap ((IntKind.u64.wrap ((Int.fdiv aa (2 ^ (min (32:Int).toNat (IntKind.u64).bits))) * (Go.bits .and .u64 ac 4294967295))) + (Int.fdiv (IntKind.u64.wrap ((Go.bits .and .u64 aa 4294967295) * (Go.bits .and .u64 ac 4294967295))) (2 ^ (min (32:Int).toNat (IntKind.u64).bits))))) 4294967295) + (IntKind.u64.wrap ((Go.bits .and .u64 aa 4294967295) * (Int.fdiv ac (2 ^ (min (32:Int).toNat (IntKind.u64).bits))))))) (2 ^ (min (32:Int).toNat (IntKind.u64).bits))))),(IntKind.u64.wrap (aa * ac)))
theorem bits_Mul64.P {F:Nat} {aa ac:Int} {H:Hp} {R0:List Rs}  (h0:Inn H R0 fun R=>True) {r:Int×Int} (hp:bits_Mul64.p F aa ac = some r):∃ v H',bits_Mul64.tw F aa ac H = some (v,H')∧bits_Mul64.Q H R0 R0  r v H':=by
 obtain ⟨w0,_⟩:=h0
 unfold bits_Mul64.p at hp
 unfold bits_Mul64.tw bits_Mul64.twX
 have s0:=w0.rf
 obtain rfl:=Option.some.inj hp
 exact ⟨_,_,rfl,rfl,w0,s0,trivial⟩
def bits_Mul.Q (H0:Hp) (Ri R0:List Rs)  (r:Int×Int) (v:AV) (H':Hp):Prop:=v = (.tup [(.int .u64 r.1),(.int .u64 r.2)])∧Out H0 Ri H' (R0) fun R=>True
def bits_Mul.p (F:Nat) (aa:Int) (ac:Int):Option (Int×Int):=(bits_Mul64.p F aa ac).bind fun r1=>some (r1.1,r1.2)
theorem bits_Mul.P {F:Nat} {aa ac:Int} {H:Hp} {R0:List Rs}  (h0:Inn H R0 fun R=>True) {r:Int×Int} (hp:bits_Mul.p F aa ac = some r):∃ v H',bits_Mul.tw F aa ac H = some (v,H')∧bits_Mul.Q H R0 R0  r v H':=by
 obtain ⟨w0,_⟩:=h0
 unfold bits_Mul.p at hp
 unfold bits_Mul.tw bits_Mul.twX
 have s0:=w0.rf
 obtain ⟨r1,e1,hp⟩:=bind_some' hp
 refine call_ex (bits_Mul64.P ⟨w0,trivial⟩ e1) ?_
 rintro _ H2 ⟨rfl,w2,s2,_⟩
 refine bind_ex rfl ?_
 refine bind_ex rfl ?_
 refine bind_ex rfl ?_
 refine bind_ex rfl ?_
 refine bind_ex rfl ?_
 obtain rfl:=Option.some.inj hp
 exact ⟨_,_,rfl,rfl,w2,(s0.trans s2),trivial⟩
def ah.Q (H0:Hp) (Ri R0:List Rs)  (r:List Int) (v:AV) (H':Hp):Prop:=∃ o0a:ON,∃ o0n:Nat,∃ o0k:List AV,v = (.sl ⟨o0a,o0n,.ex o0n⟩)∧o0n = (r).length∧Out H0 Ri H' (Rs.own ⟨o0a,o0n,.ex o0n⟩ (eInt .i64).z o0k :: R0) fun R=>CR (eInt .i64) H' R o0k (r)
def ah.pj1 (F:Nat)  (er:List Int) (ea:Int):Option (List Int):=(mkn (IntKind.i64.wrap ea) (0:Int)).bind fun l1=>(some (cpl l1 er)).bind fun l3=>(rept F l3 ((min er.length l1.length:Nat):Int)).bind fun l5=>some l5
theorem ah.j1_P {F:Nat} {H0:Hp} {Ri R0:List Rs}   {iP:ON} {hj:Nat} {iQ:Cap} {er:List Int} {ea:Int} {H:Hp} (kb:hj = er.length) (h0:Out H0 Ri H R0 fun R=>ROs (eInt .i64) H R ⟨iP,hj,iQ⟩ er) {r:List Int} (hp:ah.pj1 F  er ea = some r):∃ v H',ah.j1 F (bits_Mul.tw F)  ⟨iP,hj,iQ⟩ ea H = some (v,H')∧ah.Q H0 Ri R0  r v H':=by
 obtain ⟨w0,s0,kc⟩:=h0
 subst kb
 unfold ah.pj1 at hp
 unfold ah.j1
 obtain ⟨l1,e1,hp⟩:=bind_some' hp
 refine mk_k (eInt .i64) (0:Int) w0 rfl rfl rfl e1 fun H2 k2 w2 s2 c2=>?_
 obtain ⟨x3,h3,c3⟩:=(kc.step s2).row (z:=(eInt .i64).z) rfl
 obtain ⟨l3,e3,hp⟩:=bind_some' hp
 refine cpy_k (eInt .i64) w2 (i:=0) rfl rfl c2 h3 c3 rfl rfl e3 fun k4 H4 w4 s4 c4=>?_
 dsimp only [List.set] at w4 s4 c4
 obtain ⟨l5,e5,hp⟩:=bind_some' hp
 refine rept_K (eInt .i64) rfl (L:=ah.l254 F (bits_Mul.tw F)) (fun _ _ _ _=>rfl) w4 (i:=0) rfl c4 e5 fun H6 k6 w6 s6 c6=>?_
 dsimp only [List.set] at w6 s6 c6
 obtain rfl:=Option.some.inj hp
 exact ⟨_,_,rfl,_,_,_,rfl,((cpl_len e3).symm.trans (rept_len e5).symm),w6,(s0.trans (s2.trans (s4.trans s6))),c6⟩
def ah.pj2 (F:Nat)  (es:List Int) (ej:Int):Option (List Int):=(bits_Mul.p F (IntKind.u64.wrap (es.length:Int)) (IntKind.u64.wrap ej)).bind fun r1=>(bif (decide (r1.1 > 0)) then (none) else ((bif (decide (r1.2 > 9223372036854775807)) then (none) else (ah.pj1 F es r1.2))))
theorem ah.j2_P {F:Nat} {H0:Hp} {Ri R0:List Rs}   {iR:ON} {ho:Nat} {iS:Cap} {es:List Int} {ej:Int} {H:Hp} (kd:ho = es.length) (h0:Out H0 Ri H R0 fun R=>ROs (eInt .i64) H R ⟨iR,ho,iS⟩ es) {r:List Int} (hp:ah.pj2 F  es ej = some r):∃ v H',ah.j2 F (bits_Mul.tw F)  ⟨iR,ho,iS⟩ ej H = some (v,H')∧ah.Q H0 Ri R0  r v H':=by
 obtain ⟨w0,s0,ke⟩:=h0
 subst kd
 unfold ah.pj2 at hp
 unfold ah.j2
 obtain ⟨r1,e1,hp⟩:=bind_some' hp
 refine call_ex (bits_Mul.P ⟨w0,trivial⟩ e1) ?_
 rintro _ H2 ⟨rfl,w2,s2,_⟩
 refine bind_ex rfl ?_
 refine bind_ex rfl ?_
 refine bind_ex rfl ?_
 refine bind_ex rfl ?_
 refine bind_ex rfl ?_
 refine bif_ex (fun hb=>?_) (fun hb=>?_)
 ·replace hp:=bif_t hb hp
  cases hp
 ·replace hp:=bif_f hb hp
  refine bif_ex (fun hb=>?_) (fun hb=>?_)
  ·replace hp:=bif_t hb hp
   cases hp
  ·replace hp:=bif_f hb hp
   exact ah.j1_P rfl ⟨w2,(s0.trans s2),(ke.step s2)⟩ hp
def ah.p (F:Nat) (ay:List Int) (ac:Int):Option (List Int):=(bif (decide (ac < 0)) then (none) else (ah.pj2 F ay ac))
theorem ah.P {F:Nat} {a_:ON} {aG:Nat} {ba:Cap} {ay:List Int} {ac:Int} {H:Hp} {R0:List Rs} (bq:aG = ay.length) (h0:Inn H R0 fun R=>ROs (eInt .i64) H R ⟨a_,aG,ba⟩ ay) {r:List Int} (hp:ah.p F ay ac = some r):∃ v H',ah.tw F ⟨a_,aG,ba⟩ ac H = some (v,H')∧ah.Q H R0 R0  r v H':=by
 obtain ⟨w0,bs⟩:=h0
 subst bq
 unfold ah.p at hp
 unfold ah.tw ah.twX
 have s0:=w0.rf
 refine bif_ex (fun hb=>?_) (fun hb=>?_)
 ·replace hp:=bif_t hb hp
  cases hp
 ·replace hp:=bif_f hb hp
  exact ah.j2_P rfl ⟨w0,s0,bs⟩ hp
def aF.Q (H0:Hp) (Ri R0:List Rs)  (r:Int) (v:AV) (H':Hp):Prop:=v = (.int .i64 r)∧Out H0 Ri H' (R0) fun R=>True
def aF.p (F:Nat) (aa:Int):Option (Int):=(bif (decide (aa < 0)) then (some (IntKind.i64.wrap (0 - aa))) else (some aa))
theorem aF.P {F:Nat} {aa:Int} {H:Hp} {R0:List Rs}  (h0:Inn H R0 fun R=>True) {r:Int} (hp:aF.p F aa = some r):∃ v H',aF.tw F aa H = some (v,H')∧aF.Q H R0 R0  r v H':=by
 obtain ⟨w0,_⟩:=h0
 unfold aF.p at hp
 unfold aF.tw aF.twX
 have s0:=w0.rf
 refine bif_ex (fun hb=>?_) (fun hb=>?_)
 ·replace hp:=bif_t hb hp
  obtain rfl:=Option.some.inj hp
  exact ⟨_,_,rfl,rfl,w0,s0,trivial⟩
 ·replace hp:=bif_f hb hp
  obtain rfl:=Option.some.inj hp
  exact ⟨_,_,rfl,rfl,w0,s0,trivial⟩
def aN.Q (H0:Hp) (Ri R0:List Rs)  (r:Int) (v:AV) (H':Hp):Prop:=v = (.int .i64 r)∧Out H0 Ri H' (R0) fun R=>True
def aN.p (F:Nat) (aa:Bool):Option (Int):=(bif aa then (some 1) else (some 0))
theorem aN.P {F:Nat} {aa:Bool} {H:Hp} {R0:List Rs}  (h0:Inn H R0 fun R=>True) {r:Int} (hp:aN.p F aa = some r):∃ v H',aN.tw F aa H = some (v,H')∧aN.Q H R0 R0  r v H':=by
 obtain ⟨w0,_⟩:=h0
 unfold aN.p at hp
 unfold aN.tw aN.twX
 have s0:=w0.rf
 refine bif_ex (fun hb=>?_) (fun hb=>?_)
 ·replace hp:=bif_t hb hp
  obtain rfl:=Option.some.inj hp
  exact ⟨_,_,rfl,rfl,w0,s0,trivial⟩
 ·replace hp:=bif_f hb hp
  obtain rfl:=Option.some.inj hp
  exact ⟨_,_,rfl,rfl,w0,s0,trivial⟩
def ag.Q (H0:Hp) (Ri R0:List Rs)  (r:(List (Int×Int×Int×Int×Int))×Int×Int) (v:AV) (H':Hp):Prop:=∃ o0a:ON,∃ o0n:Nat,∃ o0c:Cap,∃ o0k:List AV,v = (.tup [(.agg [(.sl ⟨o0a,o0n,o0c⟩),(.int .i64 r.2.1)]),(.int .i64 r.2.2)])∧o0n = (r.1).length∧Out H0 Ri H' (Rs.own ⟨o0a,o0n,o0c⟩ (ePair (eInt .i64) (ePair (eInt .i64) (ePair (eInt .i64) (ePair (eInt .i64) (eInt .i64))))).z o0k :: R0) fun R=>CR (ePair (eInt .i64) (ePair (eInt .i64) (ePair (eInt .i64) (ePair (eInt .i64) (eInt .i64))))) H' R o0k (r.1)
def ag.S61 (H0:Hp) (Ri R0:List Rs)  (C:Nat→Nat→Nat→Nat→Sl→Sl→Int→Int→Hp→OA) (pC:List Int→List Int→Int→Int→Option ((List (Int×Int×Int×Int×Int))×Int×Int)):Prop:=∀ {hr hu cd bB:Int} {eQ ga gb:ON} {et bW eR cc eS:Nat} {eT gc gd:Cap} {du dA:List Int} {gf:List (Int×Int×Int×Int×Int)} {gg gh:List AV},∀ {H:Hp},et = du.length→eR = gf.length→eS = dA.length→(Out H0 Ri H (Rs.blk bW [.int .i64 hr,.sl ⟨eQ,et,eT⟩] :: Rs.own ⟨ga,eR,gc⟩ (ePair (eInt .i64) (ePair (eInt .i64) (ePair (eInt .i64) (ePair (eInt .i64) (eInt .i64))))).z gg :: Rs.blk cc [.sl ⟨ga,eR,gc⟩,.int .i64 hu] :: Rs.own ⟨gb,eS,gd⟩ (eInt .i64).z gh :: R0) fun R=>ROs (eInt .i64) H R ⟨eQ,et,eT⟩ du∧CR (ePair (eInt .i64) (ePair (eInt .i64) (ePair (eInt .i64) (ePair (eInt .i64) (eInt .i64))))) H R gg gf∧CR (eInt .i64) H R gh dA)→∀ {r:(List (Int×Int×Int×Int×Int))×Int×Int},pC du dA cd bB = some r→∃ v H',C bW 0 cc 0 ⟨gb,eS,gd⟩ ⟨eQ,et,eT⟩ cd bB H = some (v,H')∧ag.Q H0 Ri R0  r v H'
def ag.S253 (H0:Hp) (Ri R0:List Rs)  (C:Nat→Nat→Nat→Nat→Sl→Nat→Nat→Sl→Int→Int→Hp→OA) (pC:List Int→List Int→List (Int×Int×Int×Int×Int)→Int→Int→Int→Option ((List (Int×Int×Int×Int×Int))×Int×Int)):Prop:=∀ {hw hx ed cb bV:Int} {gi gj eU gk:ON} {eV bR eW bT eu eX bU:Nat} {gm gn eY gp:Cap} {dK dB:List Int} {gq dX:List (Int×Int×Int×Int×Int)} {gr gu gv:List AV},∀ {H:Hp},eV = dK.length→eW = gq.length→eu = dB.length→eX = dX.length→(Out H0 Ri H (Rs.blk bR [.int .i64 hw,.sl ⟨gi,eV,gm⟩] :: Rs.own ⟨gj,eW,gn⟩ (ePair (eInt .i64) (ePair (eInt .i64) (ePair (eInt .i64) (ePair (eInt .i64) (eInt .i64))))).z gr :: Rs.blk bT [.sl ⟨gj,eW,gn⟩,.int .i64 hx] :: Rs.own ⟨eU,eu,eY⟩ (eInt .i64).z gu :: Rs.own ⟨gk,eX,gp⟩ (ePair (eInt .i64) (ePair (eInt .i64) (ePair (eInt .i64) (ePair (eInt .i64) (eInt .i64))))).z gv :: Rs.blk bU [.sl ⟨gk,eX,gp⟩,.int .i64 ed] :: R0) fun R=>ROs (eInt .i64) H R ⟨gi,eV,gm⟩ dK∧CR (ePair (eInt .i64) (ePair (eInt .i64) (ePair (eInt .i64) (ePair (eInt .i64) (eInt .i64))))) H R gr gq∧CR (eInt .i64) H R gu dB∧CR (ePair (eInt .i64) (ePair (eInt .i64) (ePair (eInt .i64) (ePair (eInt .i64) (eInt .i64))))) H R gv dX)→∀ {r:(List (Int×Int×Int×Int×Int))×Int×Int},pC dK dB dX ed cb bV = some r→∃ v H',C bR 0 bT 0 ⟨eU,eu,eY⟩ bU 0 ⟨eU,eu,eY⟩ cb bV H = some (v,H')∧ag.Q H0 Ri R0  r v H'
def ag.S509 (H0:Hp) (Ri R0:List Rs)  (C:Nat→Nat→Sl→Nat→Nat→Sl→Int→Int→Hp→OA) (pC:List Int→List (Int×Int×Int×Int×Int)→Int→List Int→Int→Int→Option ((List (Int×Int×Int×Int×Int))×Int×Int)):Prop:=∀ {gw gx gy gz:ON} {eZ bz e_ fa bA fb:Nat} {gA gB gC gD:Cap} {gE dL:List (Int×Int×Int×Int×Int)} {gF gG gH:List AV} {hy dY bQ bc:Int} {bN cZ:List Int},∀ {H:Hp},eZ = gE.length→e_ = bN.length→fa = dL.length→fb = cZ.length→(Out H0 Ri H (Rs.own ⟨gw,eZ,gA⟩ (ePair (eInt .i64) (ePair (eInt .i64) (ePair (eInt .i64) (ePair (eInt .i64) (eInt .i64))))).z gF :: Rs.blk bz [.sl ⟨gw,eZ,gA⟩,.int .i64 hy] :: Rs.own ⟨gx,e_,gB⟩ (eInt .i64).z gG :: Rs.own ⟨gy,fa,gC⟩ (ePair (eInt .i64) (ePair (eInt .i64) (ePair (eInt .i64) (ePair (eInt .i64) (eInt .i64))))).z gH :: Rs.blk bA [.sl ⟨gy,fa,gC⟩,.int .i64 dY] :: R0) fun R=>CR (ePair (eInt .i64) (ePair (eInt .i64) (ePair (eInt .i64) (ePair (eInt .i64) (eInt .i64))))) H R gF gE∧CR (eInt .i64) H R gG bN∧CR (ePair (eInt .i64) (ePair (eInt .i64) (ePair (eInt .i64) (ePair (eInt .i64) (eInt .i64))))) H R gH dL∧ROs (eInt .i64) H R ⟨gz,fb,gD⟩ cZ)→∀ {r:(List (Int×Int×Int×Int×Int))×Int×Int},pC bN dL dY cZ bQ bc = some r→∃ v H',C bz 0 ⟨gx,e_,gB⟩ bA 0 ⟨gz,fb,gD⟩ bQ bc H = some (v,H')∧ag.Q H0 Ri R0  r v H'
def ag.pl509 (F:Nat) :Nat→List Int→List (Int×Int×Int×Int×Int)→Int→List Int→Int→Int→Option ((List (Int×Int×Int×Int×Int))×Int×Int)
 | 0,_,_,_,_,_,_=>none
 | k + 1,bN,dL,dY,cZ,bQ,bc=>(bif (decide (bc < bQ)) then ((ix cZ bc).bind fun n1=>(aF.p F (gt cZ n1)).bind fun r2=>(ix bN (IntKind.i64.wrap (r2 - 1))).bind fun n4=>(aF.p F (gt cZ n1)).bind fun r5=>(ix bN r5).bind fun n7=>(bif (decide ((gt cZ n1) < 0)) then ((apn dL ([((gt bN n4),(gt bN n7),(IntKind.i64.wrap ((IntKind.i64.wrap (2 * bc)) + 1)),(IntKind.i64.wrap (2 * bc)),(-1))]:List (Int×Int×Int×Int×Int))).bind fun l23=>(some (bN.set n4 (IntKind.i64.wrap (2 * bc)))).bind fun l26=>(some (l26.set n7 (IntKind.i64.wrap ((IntKind.i64.wrap (2 * bc)) + 1)))).bind fun l28=>ag.pl509 F k l28 l23 dY cZ bQ (IntKind.i64.wrap (bc + 1))) else ((apn dL ([((gt bN n7),(IntKind.i64.wrap ((IntKind.i64.wrap (2 * bc)) + 1)),(IntKind.i64.wrap (2 * bc)),(gt bN n4),1)]:List (Int×Int×Int×Int×Int))).bind fun l32=>(some (bN.set n4 (IntKind.i64.wrap (2 * bc)))).bind fun l35=>(some (l35.set n7 (IntKind.i64.wrap ((IntKind.i64.wrap (2 * bc)) + 1)))).bind fun l37=>ag.pl509 F k l37 l32 dY cZ bQ (IntKind.i64.wrap (bc + 1))))) else (some (dL,dY,0)))
termination_by structural n=>n
theorem ag.l509_P {F:Nat} {H0:Hp} {Ri R0:List Rs}  :∀ k,ag.S509 H0 Ri R0  (ag.l509 F (aK.tw F) (ah.tw F) (aF.tw F) (aN.tw F)  k) (ag.pl509 F  k):=by
 intro k
 induction k with
 | zero=>
  intro gw gx gy gz eZ bz e_ fa bA fb gA gB gC gD gE dL gF gG gH hy dY bQ bc bN cZ H iT iU iV iW h0 r hp
  exact nomatch (show (none:Option ((List (Int×Int×Int×Int×Int))×Int×Int)) = some r from hp)
 | succ k ih=>
  intro gw gx gy gz eZ bz e_ fa bA fb gA gB gC gD gE dL gF gG gH hy dY bQ bc bN cZ H iT iU iV iW h0 r hp
  obtain ⟨w0,s0,iX,ee,hz,hB⟩:=h0
  subst iT
  subst iU
  subst iV
  subst iW
  unfold ag.pl509 at hp
  unfold ag.l509
  refine bif_ex (fun hb=>?_) (fun hb=>?_)
  ·replace hp:=bif_t hb hp
   obtain ⟨n1,g1,hp⟩:=bind_some' hp
   obtain ⟨p1,q1,i1,h1,j1⟩:=ROs.ixr hB rfl g1
   refine bind_ex i1 ?_
   have h1:_ = [_]:=h1
   subst h1
   refine bind_ex (ldI_of (j1 0 _ rfl)) ?_
   obtain ⟨r2,e2,hp⟩:=bind_some' hp
   refine call_ex (aF.P ⟨w0,trivial⟩ e2) ?_
   rintro _ H3 ⟨rfl,w3,s3,_⟩
   refine bind_ex rfl ?_
   obtain ⟨n4,g4,hp⟩:=bind_some' hp
   obtain ⟨p4,q4,i4,h4,j4⟩:=W.ixo (E:=(eInt .i64)) w3 (i:=2) rfl rfl (ee.step s3) g4
   refine bind_ex i4 ?_
   obtain ⟨r5,e5,hp⟩:=bind_some' hp
   refine call_ex (aF.P ⟨w3,trivial⟩ e5) ?_
   rintro _ H6 ⟨rfl,w6,s6,_⟩
   refine bind_ex rfl ?_
   obtain ⟨n7,g7,hp⟩:=bind_some' hp
   obtain ⟨p7,q7,i7,h7,j7⟩:=W.ixo (E:=(eInt .i64)) w6 (i:=2) rfl rfl (ee.step (s3.trans s6)) g7
   refine bind_ex i7 ?_
   have h7:_ = [_]:=h7
   subst h7
   refine bind_ex (ldI_of (j7 0 _ rfl)) ?_
   obtain ⟨p8,q8,i8,h8,j8⟩:=W.ixo (E:=(eInt .i64)) w6 (i:=2) rfl rfl (ee.step (s3.trans s6)) g4
   obtain rfl:=Option.some.inj (i4.symm.trans i8)
   have h8:_ = [_]:=h8
   subst h8
   refine bind_ex (ldI_of (j8 0 _ rfl)) ?_
   refine new_k w6 fun H9 w9 s9=>?_
   refine st_k w9 (i:=0) rfl rfl rfl fun H10 w10 s10=>?_
   dsimp only [List.set] at w10 s10
   refine st_k w10 (i:=0) rfl rfl rfl fun H11 w11 s11=>?_
   dsimp only [List.set] at w11 s11
   refine st_k w11 (i:=0) rfl rfl rfl fun H12 w12 s12=>?_
   dsimp only [List.set] at w12 s12
   refine st_k w12 (i:=0) rfl rfl rfl fun H13 w13 s13=>?_
   dsimp only [List.set] at w13 s13
   refine st_k w13 (i:=0) rfl rfl rfl fun H14 w14 s14=>?_
   dsimp only [List.set] at w14 s14
   refine bif_ex (fun hb=>?_) (fun hb=>?_)
   ·replace hp:=bif_t hb hp
    obtain ⟨p15,q15,i15,h15,j15⟩:=W.ixo (E:=(eInt .i64)) w14 (i:=3) rfl rfl (ee.step (s3.trans (s6.trans (s9.trans (s10.trans (s11.trans (s12.trans (s13.trans s14)))))))) g4
    obtain rfl:=Option.some.inj (i4.symm.trans i15)
    have h15:_ = [_]:=h15
    subst h15
    refine bind_ex (ldI_of (j15 0 _ rfl)) ?_
    obtain ⟨p16,q16,i16,h16,j16⟩:=W.ixo (E:=(eInt .i64)) w14 (i:=3) rfl rfl (ee.step (s3.trans (s6.trans (s9.trans (s10.trans (s11.trans (s12.trans (s13.trans s14)))))))) g7
    obtain rfl:=Option.some.inj (i7.symm.trans i16)
    have h16:_ = [_]:=h16
    subst h16
    refine bind_ex (ldI_of (j16 0 _ rfl)) ?_
    refine st_k w14 (i:=0) rfl rfl rfl fun H17 w17 s17=>?_
    dsimp only [List.set] at w17 s17
    refine st_k w17 (i:=0) rfl rfl rfl fun H18 w18 s18=>?_
    dsimp only [List.set] at w18 s18
    refine st_k w18 (i:=0) rfl rfl rfl fun H19 w19 s19=>?_
    dsimp only [List.set] at w19 s19
    refine st_k w19 (i:=0) rfl rfl rfl fun H20 w20 s20=>?_
    dsimp only [List.set] at w20 s20
    refine st_k w20 (i:=0) rfl rfl rfl fun H21 w21 s21=>?_
    dsimp only [List.set] at w21 s21
    refine bind_ex (ldSl_of (w21.ld (i:=5) rfl rfl)) ?_
    refine bind_ex (ldI_of (w21.ld (i:=0) rfl rfl)) ?_
    refine bind_ex (ldI_of (w21.ld (i:=0) rfl rfl)) ?_
    refine bind_ex (ldI_of (w21.ld (i:=0) rfl rfl)) ?_
    refine bind_ex (ldI_of (w21.ld (i:=0) rfl rfl)) ?_
    refine bind_ex (ldI_of (w21.ld (i:=0) rfl rfl)) ?_
    refine newS_k (ePair (eInt .i64) (ePair (eInt .i64) (ePair (eInt .i64) (ePair (eInt .i64) (eInt .i64))))) w21 (n:=1) (l:=([((gt bN n4),(gt bN n7),(IntKind.i64.wrap ((IntKind.i64.wrap (2 * bc)) + 1)),(IntKind.i64.wrap (2 * bc)),(-1))]:List (Int×Int×Int×Int×Int))) rfl (CR.cons (c:=[_,_,_,_,_]) ⟨[_],_,rfl,rfl,⟨[_],_,rfl,rfl,⟨[_],_,rfl,rfl,⟨[_],_,rfl,rfl,rfl⟩⟩⟩⟩ CR.empty) rfl fun H22 w22 s22 c22=>?_
    refine bind_ex (w22.rowo (i:=0) rfl) ?_
    obtain ⟨l23,e23,hp⟩:=bind_some' hp
    refine app_k (ePair (eInt .i64) (ePair (eInt .i64) (ePair (eInt .i64) (ePair (eInt .i64) (eInt .i64))))) w22 (i:=5) rfl rfl (hz.step (s3.trans (s6.trans (s9.trans (s10.trans (s11.trans (s12.trans (s13.trans (s14.trans (s17.trans (s18.trans (s19.trans (s20.trans (s21.trans s22)))))))))))))) c22 (show 1 = List.length ([((gt bN n4),(gt bN n7),(IntKind.i64.wrap ((IntKind.i64.wrap (2 * bc)) + 1)),(IntKind.i64.wrap (2 * bc)),(-1))]:List (Int×Int×Int×Int×Int)) from rfl) rfl e23 fun a24 d24 H24 w24 s24 c24 x24=>?_
    dsimp only [List.set] at w24 s24 c24
    refine st_k w24 (i:=6) rfl rfl rfl fun H25 w25 s25=>?_
    dsimp only [List.set] at w25 s25
    obtain ⟨l26,e26,hp⟩:=bind_some' hp
    refine sto_k (eInt .i64) w25 (i:=4) (j:=0) (p:=p4) rfl rfl (ee.step (s3.trans (s6.trans (s9.trans (s10.trans (s11.trans (s12.trans (s13.trans (s14.trans (s17.trans (s18.trans (s19.trans (s20.trans (s21.trans (s22.trans (s24.trans s25)))))))))))))))) g4 i4 e26 rfl rfl (fun _ h=>by have h:_ = [_]:=h; subst h; exact rfl) fun H27 k27 w27 s27 c27=>?_
    dsimp only [List.set] at w27 s27 c27
    obtain ⟨l28,e28,hp⟩:=bind_some' hp
    refine sto_k (eInt .i64) w27 (i:=4) (j:=0) (p:=p7) rfl rfl c27 (ix_len g7 (st_len e26)) i7 e28 rfl rfl (fun _ h=>by have h:_ = [_]:=h; subst h; exact rfl) fun H29 k29 w29 s29 c29=>?_
    dsimp only [List.set] at w29 s29 c29
    obtain ⟨w30,s30⟩:=w29.pick' [2,3,4,5,6] 7 rfl rfl rfl
    dsimp only [pk,pks,nth,List.drop] at w30 s30
    exact ih rfl ((st_len e26).symm.trans (st_len e28).symm) rfl rfl ⟨w30,(s0.trans (s3.trans (s6.trans (s9.trans (s10.trans (s11.trans (s12.trans (s13.trans (s14.trans (s17.trans (s18.trans (s19.trans (s20.trans (s21.trans (s22.trans (s24.trans (s25.trans (s27.trans (s29.trans s30))))))))))))))))))),(iX.step (s3.trans (s6.trans (s9.trans (s10.trans (s11.trans (s12.trans (s13.trans (s14.trans (s17.trans (s18.trans (s19.trans (s20.trans (s21.trans (s22.trans (s24.trans (s25.trans (s27.trans (s29.trans s30))))))))))))))))))),(c29.step s30),(c24.step (s25.trans (s27.trans (s29.trans s30)))),(hB.step (s3.trans (s6.trans (s9.trans (s10.trans (s11.trans (s12.trans (s13.trans (s14.trans (s17.trans (s18.trans (s19.trans (s20.trans (s21.trans (s22.trans (s24.trans (s25.trans (s27.trans (s29.trans s30)))))))))))))))))))⟩ hp
   ·replace hp:=bif_f hb hp
    refine bind_ex (ldSl_of (w14.ld (i:=5) rfl rfl)) ?_
    refine bind_ex (ldI_of (w14.ld (i:=0) rfl rfl)) ?_
    refine bind_ex (ldI_of (w14.ld (i:=0) rfl rfl)) ?_
    refine bind_ex (ldI_of (w14.ld (i:=0) rfl rfl)) ?_
    refine bind_ex (ldI_of (w14.ld (i:=0) rfl rfl)) ?_
    refine bind_ex (ldI_of (w14.ld (i:=0) rfl rfl)) ?_
    refine newS_k (ePair (eInt .i64) (ePair (eInt .i64) (ePair (eInt .i64) (ePair (eInt .i64) (eInt .i64))))) w14 (n:=1) (l:=([((gt bN n7),(IntKind.i64.wrap ((IntKind.i64.wrap (2 * bc)) + 1)),(IntKind.i64.wrap (2 * bc)),(gt bN n4),1)]:List (Int×Int×Int×Int×Int))) rfl (CR.cons (c:=[_,_,_,_,_]) ⟨[_],_,rfl,rfl,⟨[_],_,rfl,rfl,⟨[_],_,rfl,rfl,⟨[_],_,rfl,rfl,rfl⟩⟩⟩⟩ CR.empty) rfl fun H31 w31 s31 c31=>?_
    refine bind_ex (w31.rowo (i:=0) rfl) ?_
    obtain ⟨l32,e32,hp⟩:=bind_some' hp
    refine app_k (ePair (eInt .i64) (ePair (eInt .i64) (ePair (eInt .i64) (ePair (eInt .i64) (eInt .i64))))) w31 (i:=5) rfl rfl (hz.step (s3.trans (s6.trans (s9.trans (s10.trans (s11.trans (s12.trans (s13.trans (s14.trans s31))))))))) c31 (show 1 = List.length ([((gt bN n7),(IntKind.i64.wrap ((IntKind.i64.wrap (2 * bc)) + 1)),(IntKind.i64.wrap (2 * bc)),(gt bN n4),1)]:List (Int×Int×Int×Int×Int)) from rfl) rfl e32 fun a33 d33 H33 w33 s33 c33 x33=>?_
    dsimp only [List.set] at w33 s33 c33
    refine st_k w33 (i:=6) rfl rfl rfl fun H34 w34 s34=>?_
    dsimp only [List.set] at w34 s34
    obtain ⟨l35,e35,hp⟩:=bind_some' hp
    refine sto_k (eInt .i64) w34 (i:=4) (j:=0) (p:=p4) rfl rfl (ee.step (s3.trans (s6.trans (s9.trans (s10.trans (s11.trans (s12.trans (s13.trans (s14.trans (s31.trans (s33.trans s34))))))))))) g4 i4 e35 rfl rfl (fun _ h=>by have h:_ = [_]:=h; subst h; exact rfl) fun H36 k36 w36 s36 c36=>?_
    dsimp only [List.set] at w36 s36 c36
    obtain ⟨l37,e37,hp⟩:=bind_some' hp
    refine sto_k (eInt .i64) w36 (i:=4) (j:=0) (p:=p7) rfl rfl c36 (ix_len g7 (st_len e35)) i7 e37 rfl rfl (fun _ h=>by have h:_ = [_]:=h; subst h; exact rfl) fun H38 k38 w38 s38 c38=>?_
    dsimp only [List.set] at w38 s38 c38
    obtain ⟨w39,s39⟩:=w38.pick' [2,3,4,5,6] 7 rfl rfl rfl
    dsimp only [pk,pks,nth,List.drop] at w39 s39
    exact ih rfl ((st_len e35).symm.trans (st_len e37).symm) rfl rfl ⟨w39,(s0.trans (s3.trans (s6.trans (s9.trans (s10.trans (s11.trans (s12.trans (s13.trans (s14.trans (s31.trans (s33.trans (s34.trans (s36.trans (s38.trans s39)))))))))))))),(iX.step (s3.trans (s6.trans (s9.trans (s10.trans (s11.trans (s12.trans (s13.trans (s14.trans (s31.trans (s33.trans (s34.trans (s36.trans (s38.trans s39)))))))))))))),(c38.step s39),(c33.step (s34.trans (s36.trans (s38.trans s39)))),(hB.step (s3.trans (s6.trans (s9.trans (s10.trans (s11.trans (s12.trans (s13.trans (s14.trans (s31.trans (s33.trans (s34.trans (s36.trans (s38.trans s39))))))))))))))⟩ hp
  ·replace hp:=bif_f hb hp
   refine bind_ex (ldSl_of (w0.ld (i:=4) rfl rfl)) ?_
   refine bind_ex (ldI_of (w0.ld (i:=4) rfl rfl)) ?_
   refine st_k w0 (i:=1) rfl rfl rfl fun H40 w40 s40=>?_
   dsimp only [List.set] at w40 s40
   refine st_k w40 (i:=1) rfl rfl rfl fun H41 w41 s41=>?_
   dsimp only [List.set] at w41 s41
   refine bind_ex (ldSl_of (w41.ld (i:=1) rfl rfl)) ?_
   refine bind_ex (ldI_of (w41.ld (i:=1) rfl rfl)) ?_
   obtain ⟨w42,s42⟩:=w41.pick' [3] 5 rfl rfl rfl
   dsimp only [pk,pks,nth,List.drop] at w42 s42
   obtain rfl:=Option.some.inj hp
   exact ⟨_,_,rfl,_,_,_,_,rfl,rfl,w42,(s0.trans (s40.trans (s41.trans s42))),(hz.step (s40.trans (s41.trans s42)))⟩
def ag.pl253 (F:Nat) :Nat→List Int→List Int→List (Int×Int×Int×Int×Int)→Int→Int→Int→Option ((List (Int×Int×Int×Int×Int))×Int×Int)
 | 0,_,_,_,_,_,_=>none
 | k + 1,dK,dB,dX,ed,cb,bV=>(bif (decide (bV < cb)) then ((ix dB bV).bind fun n1=>(aN.p F (decide ((gt dB n1) < 0))).bind fun r2=>ag.pl253 F k dK dB dX (IntKind.i64.wrap (ed + r2)) cb (IntKind.i64.wrap (bV + 1))) else (ag.pl509 F F dB dX ed dK (dK.length:Int) 0))
termination_by structural n=>n
theorem ag.l253_P {F:Nat} {H0:Hp} {Ri R0:List Rs}  :∀ k,ag.S253 H0 Ri R0  (ag.l253 F (aK.tw F) (ah.tw F) (aF.tw F) (aN.tw F)  k) (ag.pl253 F  k):=by
 intro k
 induction k with
 | zero=>
  intro hw hx ed cb bV gi gj eU gk eV bR eW bT eu eX bU gm gn eY gp dK dB gq dX gr gu gv H iY iZ i_ ja h0 r hp
  exact nomatch (show (none:Option ((List (Int×Int×Int×Int×Int))×Int×Int)) = some r from hp)
 | succ k ih=>
  intro hw hx ed cb bV gi gj eU gk eV bR eW bT eu eX bU gm gn eY gp dK dB gq dX gr gu gv H iY iZ i_ ja h0 r hp
  obtain ⟨w0,s0,jb,jc,hC,jd⟩:=h0
  subst iY
  subst iZ
  subst i_
  subst ja
  unfold ag.pl253 at hp
  unfold ag.l253
  refine bif_ex (fun hb=>?_) (fun hb=>?_)
  ·replace hp:=bif_t hb hp
   obtain ⟨n1,g1,hp⟩:=bind_some' hp
   obtain ⟨p1,q1,i1,h1,j1⟩:=W.ixo (E:=(eInt .i64)) w0 (i:=3) rfl rfl hC g1
   refine bind_ex i1 ?_
   have h1:_ = [_]:=h1
   subst h1
   refine bind_ex (ldI_of (j1 0 _ rfl)) ?_
   refine bind_ex (ldI_of (w0.ld (i:=5) rfl rfl)) ?_
   obtain ⟨r2,e2,hp⟩:=bind_some' hp
   refine call_ex (aN.P ⟨w0,trivial⟩ e2) ?_
   rintro _ H3 ⟨rfl,w3,s3,_⟩
   refine bind_ex rfl ?_
   refine ifs_ex (W.cons_of (Rn:=[]) w0 w3 s3) ?_
   refine st_k w3 (i:=5) rfl rfl rfl fun H5 w5 s5=>?_
   dsimp only [List.set] at w5 s5
   exact ih rfl rfl rfl rfl ⟨w5,(s0.trans (s3.trans s5)),(jb.step (s3.trans s5)),(jc.step (s3.trans s5)),(hC.step (s3.trans s5)),(jd.step (s3.trans s5))⟩ hp
  ·replace hp:=bif_f hb hp
   refine bind_ex (ldSl_of (w0.ld (i:=0) rfl rfl)) ?_
   obtain ⟨w6,s6⟩:=w0.pick' [1,2,3,4,5] 6 rfl rfl rfl
   dsimp only [pk,pks,nth,List.drop] at w6 s6
   exact ag.l509_P F rfl rfl rfl rfl ⟨w6,(s0.trans s6),(jc.step s6),(hC.step s6),(jd.step s6),(jb.step s6)⟩ hp
def ag.pl61 (F:Nat) :Nat→List Int→List Int→Int→Int→Option ((List (Int×Int×Int×Int×Int))×Int×Int)
 | 0,_,_,_,_=>none
 | k + 1,du,dA,cd,bB=>(bif (decide (bB < cd)) then ((ix du bB).bind fun n1=>(aF.p F (gt du n1)).bind fun r2=>(aF.p F (gt du n1)).bind fun r4=>(ix dA (IntKind.i64.wrap (r2 - 1))).bind fun n6=>(some (dA.set n6 (IntKind.i64.wrap (2 * bB)))).bind fun l7=>(ix l7 r4).bind fun n9=>(some (l7.set n9 (IntKind.i64.wrap ((IntKind.i64.wrap (2 * bB)) + 1)))).bind fun l10=>ag.pl61 F k du l10 cd (IntKind.i64.wrap (bB + 1))) else (ag.pl253 F F du dA ([]:List (Int×Int×Int×Int×Int)) 0 (dA.length:Int) 0))
termination_by structural n=>n
theorem ag.l61_P {F:Nat} {H0:Hp} {Ri R0:List Rs}  :∀ k,ag.S61 H0 Ri R0  (ag.l61 F (aK.tw F) (ah.tw F) (aF.tw F) (aN.tw F)  k) (ag.pl61 F  k):=by
 intro k
 induction k with
 | zero=>
  intro hr hu cd bB eQ ga gb et bW eR cc eS eT gc gd du dA gf gg gh H je jf jg h0 r hp
  exact nomatch (show (none:Option ((List (Int×Int×Int×Int×Int))×Int×Int)) = some r from hp)
 | succ k ih=>
  intro hr hu cd bB eQ ga gb et bW eR cc eS eT gc gd du dA gf gg gh H je jf jg h0 r hp
  obtain ⟨w0,s0,hE,jh,hG⟩:=h0
  subst je
  subst jf
  subst jg
  unfold ag.pl61 at hp
  unfold ag.l61
  refine bif_ex (fun hb=>?_) (fun hb=>?_)
  ·replace hp:=bif_t hb hp
   obtain ⟨n1,g1,hp⟩:=bind_some' hp
   obtain ⟨p1,q1,i1,h1,j1⟩:=ROs.ixr hE rfl g1
   refine bind_ex i1 ?_
   have h1:_ = [_]:=h1
   subst h1
   refine bind_ex (ldI_of (j1 0 _ rfl)) ?_
   obtain ⟨r2,e2,hp⟩:=bind_some' hp
   refine call_ex (aF.P ⟨w0,trivial⟩ e2) ?_
   rintro _ H3 ⟨rfl,w3,s3,_⟩
   refine bind_ex rfl ?_
   obtain ⟨r4,e4,hp⟩:=bind_some' hp
   refine call_ex (aF.P ⟨w3,trivial⟩ e4) ?_
   rintro _ H5 ⟨rfl,w5,s5,_⟩
   refine bind_ex rfl ?_
   obtain ⟨n6,g6,hp⟩:=bind_some' hp
   obtain ⟨p6,q6,i6,h6,j6⟩:=W.ixo (E:=(eInt .i64)) w5 (i:=3) rfl rfl (hG.step (s3.trans s5)) g6
   refine bind_ex i6 ?_
   obtain ⟨l7,e7,hp⟩:=bind_some' hp
   refine sto_k (eInt .i64) w5 (i:=3) (j:=0) (p:=p6) rfl rfl (hG.step (s3.trans s5)) g6 i6 e7 rfl rfl (fun _ h=>by have h:_ = [_]:=h; subst h; exact rfl) fun H8 k8 w8 s8 c8=>?_
   dsimp only [List.set] at w8 s8 c8
   obtain ⟨n9,g9,hp⟩:=bind_some' hp
   obtain ⟨p9,q9,i9,h9,j9⟩:=W.ixo (E:=(eInt .i64)) w8 (i:=3) rfl rfl c8 g9
   refine bind_ex i9 ?_
   obtain ⟨l10,e10,hp⟩:=bind_some' hp
   refine sto_k (eInt .i64) w8 (i:=3) (j:=0) (p:=p9) rfl rfl c8 g9 i9 e10 rfl rfl (fun _ h=>by have h:_ = [_]:=h; subst h; exact rfl) fun H11 k11 w11 s11 c11=>?_
   dsimp only [List.set] at w11 s11 c11
   exact ih rfl rfl ((st_len e7).symm.trans (st_len e10).symm) ⟨w11,(s0.trans (s3.trans (s5.trans (s8.trans s11)))),(hE.step (s3.trans (s5.trans (s8.trans s11)))),(jh.step (s3.trans (s5.trans (s8.trans s11)))),c11⟩ hp
  ·replace hp:=bif_f hb hp
   refine new_k w0 fun H12 w12 s12=>?_
   obtain ⟨w13,s13⟩:=w12.nilS (ePair (eInt .i64) (ePair (eInt .i64) (ePair (eInt .i64) (ePair (eInt .i64) (eInt .i64))))).z (by decide)
   obtain ⟨w14,s14⟩:=w13.pick' [2,3,4,5,0,1] 6 rfl rfl rfl
   dsimp only [pk,pks,nth,List.drop] at w14 s14
   exact ag.l253_P F rfl rfl rfl rfl ⟨w14,(s0.trans (s12.trans (s13.trans s14))),(hE.step (s12.trans (s13.trans s14))),(jh.step (s12.trans (s13.trans s14))),(hG.step (s12.trans (s13.trans s14))),((CR.empty:CR (ePair (eInt .i64) (ePair (eInt .i64) (ePair (eInt .i64) (ePair (eInt .i64) (eInt .i64))))) _ _ [] []).step s14)⟩ hp
def ag.p (F:Nat) (aa:Int) (aC:List Int):Option ((List (Int×Int×Int×Int×Int))×Int×Int):=(aK.p F aa aC).bind fun r3=>(bif (!r3) then (some (([]:List (Int×Int×Int×Int×Int)),0,1)) else ((bif (decide ((aC.length:Int) > 10)) then (some (([]:List (Int×Int×Int×Int×Int)),0,3)) else ((ah.p F ([(-1)]:List Int) aa).bind fun r15=>ag.pl61 F F aC r15 (aC.length:Int) 0))))
theorem ag.P {F:Nat} {aa:Int} {bn:ON} {bj:Nat} {bo:Cap} {aC:List Int} {H:Hp} {R0:List Rs} (ce:bj = aC.length) (h0:Inn H R0 fun R=>ROs (eInt .i64) H R ⟨bn,bj,bo⟩ aC) {r:(List (Int×Int×Int×Int×Int))×Int×Int} (hp:ag.p F aa aC = some r):∃ v H',ag.tw F aa ⟨bn,bj,bo⟩ H = some (v,H')∧ag.Q H R0 R0  r v H':=by
 obtain ⟨w0,bu⟩:=h0
 subst ce
 unfold ag.p at hp
 unfold ag.tw ag.twX
 have s0:=w0.rf
 refine new_k w0 fun H1 w1 s1=>?_
 refine new_k w1 fun H2 w2 s2=>?_
 refine bind_ex (ldI_of (w2.ld (i:=1) rfl rfl)) ?_
 refine bind_ex (ldSl_of (w2.ld (i:=1) rfl rfl)) ?_
 obtain ⟨r3,e3,hp⟩:=bind_some' hp
 refine call_ex (aK.P rfl ⟨w2,(bu.step (s1.trans s2))⟩ e3) ?_
 rintro _ H4 ⟨rfl,w4,s4,_⟩
 refine bind_ex rfl ?_
 refine bif_ex (fun hb=>?_) (fun hb=>?_)
 ·replace hp:=bif_t hb hp
  refine st_k w4 (i:=0) rfl rfl rfl fun H5 w5 s5=>?_
  dsimp only [List.set] at w5 s5
  refine st_k w5 (i:=0) rfl rfl rfl fun H6 w6 s6=>?_
  dsimp only [List.set] at w6 s6
  refine bind_ex (ldSl_of (w6.ld (i:=0) rfl rfl)) ?_
  refine bind_ex (ldI_of (w6.ld (i:=0) rfl rfl)) ?_
  obtain ⟨w7,s7⟩:=w6.nilS (ePair (eInt .i64) (ePair (eInt .i64) (ePair (eInt .i64) (ePair (eInt .i64) (eInt .i64))))).z (by decide)
  obtain ⟨w8,s8⟩:=w7.pick' [0] 3 rfl rfl rfl
  dsimp only [pk,pks,nth,List.drop] at w8 s8
  obtain rfl:=Option.some.inj hp
  exact ⟨_,_,rfl,_,_,_,_,rfl,rfl,w8,(s0.trans (s1.trans (s2.trans (s4.trans (s5.trans (s6.trans (s7.trans s8))))))),((CR.empty:CR (ePair (eInt .i64) (ePair (eInt .i64) (ePair (eInt .i64) (ePair (eInt .i64) (eInt .i64))))) _ _ [] []).step s8)⟩
 ·replace hp:=bif_f hb hp
  refine bind_ex (ldSl_of (w4.ld (i:=1) rfl rfl)) ?_
  refine bif_ex (fun hb=>?_) (fun hb=>?_)
  ·replace hp:=bif_t hb hp
   refine st_k w4 (i:=0) rfl rfl rfl fun H9 w9 s9=>?_
   dsimp only [List.set] at w9 s9
   refine st_k w9 (i:=0) rfl rfl rfl fun H10 w10 s10=>?_
   dsimp only [List.set] at w10 s10
   refine bind_ex (ldSl_of (w10.ld (i:=0) rfl rfl)) ?_
   refine bind_ex (ldI_of (w10.ld (i:=0) rfl rfl)) ?_
   obtain ⟨w11,s11⟩:=w10.nilS (ePair (eInt .i64) (ePair (eInt .i64) (ePair (eInt .i64) (ePair (eInt .i64) (eInt .i64))))).z (by decide)
   obtain ⟨w12,s12⟩:=w11.pick' [0] 3 rfl rfl rfl
   dsimp only [pk,pks,nth,List.drop] at w12 s12
   obtain rfl:=Option.some.inj hp
   exact ⟨_,_,rfl,_,_,_,_,rfl,rfl,w12,(s0.trans (s1.trans (s2.trans (s4.trans (s9.trans (s10.trans (s11.trans s12))))))),((CR.empty:CR (ePair (eInt .i64) (ePair (eInt .i64) (ePair (eInt .i64) (ePair (eInt .i64) (eInt .i64))))) _ _ [] []).step s12)⟩
  ·replace hp:=bif_f hb hp
   refine newS_k (eInt .i64) w4 (n:=1) (l:=([(-1)]:List Int)) rfl (CR.cons1 rfl CR.empty) rfl fun H13 w13 s13 c13=>?_
   refine bind_ex (ldI_of (w13.ld (i:=2) rfl rfl)) ?_
   have f14:=W.borrow1 (eInt .i64) w13 c13
   obtain ⟨w14,s14⟩:=w13.right1
   obtain ⟨r15,e15,hp⟩:=bind_some' hp
   refine call_ex (ah.P (show 1 = List.length ([(-1)]:List Int) from rfl) ⟨w14,f14⟩ e15) ?_
   rintro _ H16 ⟨o0a_16,o0n_16,o0k_16,rfl,rfl,w16,s16,f16_0⟩
   obtain ⟨w17,s17⟩:=W.frame1 w13 w16 s16
   refine bind_ex rfl ?_
   refine bind_ex (ldSl_of (w17.ld (i:=3) rfl rfl)) ?_
   obtain ⟨w18,s18⟩:=w17.nilS (ePair (eInt .i64) (ePair (eInt .i64) (ePair (eInt .i64) (ePair (eInt .i64) (eInt .i64))))).z (by decide)
   obtain ⟨w19,s19⟩:=w18.pick' [4,0,3,2] 5 rfl rfl rfl
   dsimp only [pk,pks,nth,List.drop] at w19 s19
   exact ag.l61_P F rfl rfl rfl ⟨w19,(s0.trans (s1.trans (s2.trans (s4.trans (s13.trans (s17.trans (s18.trans s19))))))),(bu.step (s1.trans (s2.trans (s4.trans (s13.trans (s17.trans (s18.trans s19))))))),((CR.empty:CR (ePair (eInt .i64) (ePair (eInt .i64) (ePair (eInt .i64) (ePair (eInt .i64) (eInt .i64))))) _ _ [] []).step s19),((CR.flat (eInt_flat .i64) f16_0).step (s18.trans s19))⟩ hp
def aW.Q (H0:Hp) (Ri R0:List Rs)  (r:Bool) (v:AV) (H':Hp):Prop:=v = (.bool r)∧Out H0 Ri H' (R0) fun R=>True
def aW.p (F:Nat) (aa:Int) (ad:Int) (cl:Int) (cm:Int) (cn:Int) (co:Int) (cp:Int) (cq:Int) (cr:Int) (ct:Int):Option (Bool):=(bif (aa != co) then (some false) else ((bif (ad != cp) then (some false) else ((bif (cl != cq) then (some false) else ((bif (cm != cr) then (some false) else ((bif (cn != ct) then (some false) else (some true))))))))))
theorem aW.P {F:Nat} {aa ad cl cm cn co cp cq cr ct:Int} {H:Hp} {R0:List Rs}  (h0:Inn H R0 fun R=>True) {r:Bool} (hp:aW.p F aa ad cl cm cn co cp cq cr ct = some r):∃ v H',aW.tw F aa ad cl cm cn co cp cq cr ct H = some (v,H')∧aW.Q H R0 R0  r v H':=by
 obtain ⟨w0,_⟩:=h0
 unfold aW.p at hp
 unfold aW.tw aW.twX
 have s0:=w0.rf
 refine new_k w0 fun H1 w1 s1=>?_
 refine new_k w1 fun H2 w2 s2=>?_
 refine bind_ex (ldI_of (w2.ld (i:=1) rfl rfl)) ?_
 refine bind_ex (ldI_of (w2.ld (i:=0) rfl rfl)) ?_
 refine bif_ex (fun hb=>?_) (fun hb=>?_)
 ·replace hp:=bif_t hb hp
  obtain ⟨w3,s3⟩:=w2.pick' [] 2 rfl rfl rfl
  dsimp only [pk,pks,nth,List.drop] at w3 s3
  obtain rfl:=Option.some.inj hp
  exact ⟨_,_,rfl,rfl,w3,(s0.trans (s1.trans (s2.trans s3))),trivial⟩
 ·replace hp:=bif_f hb hp
  refine bind_ex (ldI_of (w2.ld (i:=1) rfl rfl)) ?_
  refine bind_ex (ldI_of (w2.ld (i:=0) rfl rfl)) ?_
  refine bif_ex (fun hb=>?_) (fun hb=>?_)
  ·replace hp:=bif_t hb hp
   obtain ⟨w4,s4⟩:=w2.pick' [] 2 rfl rfl rfl
   dsimp only [pk,pks,nth,List.drop] at w4 s4
   obtain rfl:=Option.some.inj hp
   exact ⟨_,_,rfl,rfl,w4,(s0.trans (s1.trans (s2.trans s4))),trivial⟩
  ·replace hp:=bif_f hb hp
   refine bind_ex (ldI_of (w2.ld (i:=1) rfl rfl)) ?_
   refine bind_ex (ldI_of (w2.ld (i:=0) rfl rfl)) ?_
   refine bif_ex (fun hb=>?_) (fun hb=>?_)
   ·replace hp:=bif_t hb hp
    obtain ⟨w5,s5⟩:=w2.pick' [] 2 rfl rfl rfl
    dsimp only [pk,pks,nth,List.drop] at w5 s5
    obtain rfl:=Option.some.inj hp
    exact ⟨_,_,rfl,rfl,w5,(s0.trans (s1.trans (s2.trans s5))),trivial⟩
   ·replace hp:=bif_f hb hp
    refine bind_ex (ldI_of (w2.ld (i:=1) rfl rfl)) ?_
    refine bind_ex (ldI_of (w2.ld (i:=0) rfl rfl)) ?_
    refine bif_ex (fun hb=>?_) (fun hb=>?_)
    ·replace hp:=bif_t hb hp
     obtain ⟨w6,s6⟩:=w2.pick' [] 2 rfl rfl rfl
     dsimp only [pk,pks,nth,List.drop] at w6 s6
     obtain rfl:=Option.some.inj hp
     exact ⟨_,_,rfl,rfl,w6,(s0.trans (s1.trans (s2.trans s6))),trivial⟩
    ·replace hp:=bif_f hb hp
     refine bind_ex (ldI_of (w2.ld (i:=1) rfl rfl)) ?_
     refine bind_ex (ldI_of (w2.ld (i:=0) rfl rfl)) ?_
     refine bif_ex (fun hb=>?_) (fun hb=>?_)
     ·replace hp:=bif_t hb hp
      obtain ⟨w7,s7⟩:=w2.pick' [] 2 rfl rfl rfl
      dsimp only [pk,pks,nth,List.drop] at w7 s7
      obtain rfl:=Option.some.inj hp
      exact ⟨_,_,rfl,rfl,w7,(s0.trans (s1.trans (s2.trans s7))),trivial⟩
     ·replace hp:=bif_f hb hp
      obtain ⟨w8,s8⟩:=w2.pick' [] 2 rfl rfl rfl
      dsimp only [pk,pks,nth,List.drop] at w8 s8
      obtain rfl:=Option.some.inj hp
      exact ⟨_,_,rfl,rfl,w8,(s0.trans (s1.trans (s2.trans s8))),trivial⟩
def aq.Q (H0:Hp) (Ri R0:List Rs)  (r:Bool) (v:AV) (H':Hp):Prop:=v = (.bool r)∧Out H0 Ri H' (R0) fun R=>True
def aq.S29 (H0:Hp) (Ri R0:List Rs)  (C:Sl→Sl→Int→Hp→OA) (pC:List (Int×Int×Int×Int×Int)→List (Int×Int×Int×Int×Int)→Int→Option (Bool)):Prop:=∀ {cf dM:ON} {bD dv:Nat} {cg dN:Cap} {az bF:List (Int×Int×Int×Int×Int)} {bh:Int},∀ {H:Hp},bD = az.length→dv = bF.length→(Out H0 Ri H R0 fun R=>ROs (ePair (eInt .i64) (ePair (eInt .i64) (ePair (eInt .i64) (ePair (eInt .i64) (eInt .i64))))) H R ⟨cf,bD,cg⟩ az∧ROs (ePair (eInt .i64) (ePair (eInt .i64) (ePair (eInt .i64) (ePair (eInt .i64) (eInt .i64))))) H R ⟨dM,dv,dN⟩ bF)→∀ {r:Bool},pC az bF bh = some r→∃ v H',C ⟨cf,bD,cg⟩ ⟨dM,dv,dN⟩ bh H = some (v,H')∧aq.Q H0 Ri R0  r v H'
def aq.pl29 (F:Nat) :Nat→List (Int×Int×Int×Int×Int)→List (Int×Int×Int×Int×Int)→Int→Option (Bool)
 | 0,_,_,_=>none
 | k + 1,az,bF,bh=>(bif (decide (bh < (az.length:Int))) then ((ix az bh).bind fun n1=>(ix bF bh).bind fun n2=>(aW.p F ((gt az n1).1) ((gt az n1).2.1) ((gt az n1).2.2.1) ((gt az n1).2.2.2.1) ((gt az n1).2.2.2.2) ((gt bF n2).1) ((gt bF n2).2.1) ((gt bF n2).2.2.1) ((gt bF n2).2.2.2.1) ((gt bF n2).2.2.2.2)).bind fun r3=>(bif (!r3) then (some false) else (aq.pl29 F k az bF (IntKind.i64.wrap (bh + 1))))) else (some true))
termination_by structural n=>n
theorem aq.l29_P {F:Nat} {H0:Hp} {Ri R0:List Rs}  :∀ k,aq.S29 H0 Ri R0  (aq.l29 F (aW.tw F)  k) (aq.pl29 F  k):=by
 intro k
 induction k with
 | zero=>
  intro cf dM bD dv cg dN az bF bh H cu fc h0 r hp
  exact nomatch (show (none:Option (Bool)) = some r from hp)
 | succ k ih=>
  intro cf dM bD dv cg dN az bF bh H cu fc h0 r hp
  obtain ⟨w0,s0,bE,fd⟩:=h0
  subst cu
  subst fc
  unfold aq.pl29 at hp
  unfold aq.l29
  refine bif_ex (fun hb=>?_) (fun hb=>?_)
  ·replace hp:=bif_t hb hp
   obtain ⟨n1,g1,hp⟩:=bind_some' hp
   obtain ⟨p1,q1,i1,h1,j1⟩:=ROs.ixr bE rfl g1
   refine bind_ex i1 ?_
   obtain ⟨_,_,rfl,rfl,_,_,rfl,rfl,_,_,rfl,rfl,_,_,rfl,rfl,rfl⟩:=h1
   refine bind_ex (ldI_of (j1 0 _ rfl)) ?_
   refine bind_ex (ldI_of (j1 1 _ rfl)) ?_
   refine bind_ex (ldI_of (j1 2 _ rfl)) ?_
   refine bind_ex (ldI_of (j1 3 _ rfl)) ?_
   refine bind_ex (ldI_of (j1 4 _ rfl)) ?_
   obtain ⟨n2,g2,hp⟩:=bind_some' hp
   obtain ⟨p2,q2,i2,h2,j2⟩:=ROs.ixr fd rfl g2
   refine bind_ex i2 ?_
   obtain ⟨_,_,rfl,rfl,_,_,rfl,rfl,_,_,rfl,rfl,_,_,rfl,rfl,rfl⟩:=h2
   refine bind_ex (ldI_of (j2 0 _ rfl)) ?_
   refine bind_ex (ldI_of (j2 1 _ rfl)) ?_
   refine bind_ex (ldI_of (j2 2 _ rfl)) ?_
   refine bind_ex (ldI_of (j2 3 _ rfl)) ?_
   refine bind_ex (ldI_of (j2 4 _ rfl)) ?_
   obtain ⟨r3,e3,hp⟩:=bind_some' hp
   refine call_ex (aW.P ⟨w0,trivial⟩ e3) ?_
   rintro _ H4 ⟨rfl,w4,s4,_⟩
   refine bind_ex rfl ?_
   refine bif_ex (fun hb=>?_) (fun hb=>?_)
   ·replace hp:=bif_t hb hp
    obtain rfl:=Option.some.inj hp
    exact ⟨_,_,rfl,rfl,w4,(s0.trans s4),trivial⟩
   ·replace hp:=bif_f hb hp
    exact ih rfl rfl ⟨w4,(s0.trans s4),(bE.step s4),(fd.step s4)⟩ hp
  ·replace hp:=bif_f hb hp
   obtain rfl:=Option.some.inj hp
   exact ⟨_,_,rfl,rfl,w0,s0,trivial⟩
def aq.p (F:Nat) (ay:List (Int×Int×Int×Int×Int)) (cR:List (Int×Int×Int×Int×Int)):Option (Bool):=(bif ((ay.length:Int) != (cR.length:Int)) then (some false) else (aq.pl29 F F ay cR 0))
theorem aq.P {F:Nat} {a_ fe:ON} {aG ef:Nat} {ba ff:Cap} {ay cR:List (Int×Int×Int×Int×Int)} {H:Hp} {R0:List Rs} (bq:aG = ay.length) (hH:ef = cR.length) (h0:Inn H R0 fun R=>ROs (ePair (eInt .i64) (ePair (eInt .i64) (ePair (eInt .i64) (ePair (eInt .i64) (eInt .i64))))) H R ⟨a_,aG,ba⟩ ay∧ROs (ePair (eInt .i64) (ePair (eInt .i64) (ePair (eInt .i64) (ePair (eInt .i64) (eInt .i64))))) H R ⟨fe,ef,ff⟩ cR) {r:Bool} (hp:aq.p F ay cR = some r):∃ v H',aq.tw F ⟨a_,aG,ba⟩ ⟨fe,ef,ff⟩ H = some (v,H')∧aq.Q H R0 R0  r v H':=by
 obtain ⟨w0,bs,hI⟩:=h0
 subst bq
 subst hH
 unfold aq.p at hp
 unfold aq.tw aq.twX
 have s0:=w0.rf
 refine bif_ex (fun hb=>?_) (fun hb=>?_)
 ·replace hp:=bif_t hb hp
  obtain rfl:=Option.some.inj hp
  exact ⟨_,_,rfl,rfl,w0,s0,trivial⟩
 ·replace hp:=bif_f hb hp
  exact aq.l29_P F rfl rfl ⟨w0,s0,bs,hI⟩ hp
def aI.Q (H0:Hp) (Ri R0:List Rs)  (r:Bool) (v:AV) (H':Hp):Prop:=v = (.bool r)∧Out H0 Ri H' (R0) fun R=>True
def aI.p (F:Nat) (ay:List (Int×Int×Int×Int×Int)) (ad:Int) (fg:List (Int×Int×Int×Int×Int)) (bp:Int):Option (Bool):=(aq.p F ay fg).bind fun r3=>(bif (!r3) then (some false) else ((bif (ad != bp) then (some false) else (some true))))
theorem aI.P {F:Nat} {a_ ji:ON} {aG hJ:Nat} {ba jj:Cap} {ay fg:List (Int×Int×Int×Int×Int)} {ad bp:Int} {H:Hp} {R0:List Rs} (bq:aG = ay.length) (kf:hJ = fg.length) (h0:Inn H R0 fun R=>ROs (ePair (eInt .i64) (ePair (eInt .i64) (ePair (eInt .i64) (ePair (eInt .i64) (eInt .i64))))) H R ⟨a_,aG,ba⟩ ay∧ROs (ePair (eInt .i64) (ePair (eInt .i64) (ePair (eInt .i64) (ePair (eInt .i64) (eInt .i64))))) H R ⟨ji,hJ,jj⟩ fg) {r:Bool} (hp:aI.p F ay ad fg bp = some r):∃ v H',aI.tw F ⟨a_,aG,ba⟩ ad ⟨ji,hJ,jj⟩ bp H = some (v,H')∧aI.Q H R0 R0  r v H':=by
 obtain ⟨w0,bs,kg⟩:=h0
 subst bq
 subst kf
 unfold aI.p at hp
 unfold aI.tw aI.twX
 have s0:=w0.rf
 refine new_k w0 fun H1 w1 s1=>?_
 refine new_k w1 fun H2 w2 s2=>?_
 refine bind_ex (ldSl_of (w2.ld (i:=1) rfl rfl)) ?_
 refine bind_ex (ldSl_of (w2.ld (i:=0) rfl rfl)) ?_
 obtain ⟨r3,e3,hp⟩:=bind_some' hp
 refine call_ex (aq.P rfl rfl ⟨w2,(bs.step (s1.trans s2)),(kg.step (s1.trans s2))⟩ e3) ?_
 rintro _ H4 ⟨rfl,w4,s4,_⟩
 refine bind_ex rfl ?_
 refine bif_ex (fun hb=>?_) (fun hb=>?_)
 ·replace hp:=bif_t hb hp
  obtain ⟨w5,s5⟩:=w4.pick' [] 2 rfl rfl rfl
  dsimp only [pk,pks,nth,List.drop] at w5 s5
  obtain rfl:=Option.some.inj hp
  exact ⟨_,_,rfl,rfl,w5,(s0.trans (s1.trans (s2.trans (s4.trans s5)))),trivial⟩
 ·replace hp:=bif_f hb hp
  refine bind_ex (ldI_of (w4.ld (i:=1) rfl rfl)) ?_
  refine bind_ex (ldI_of (w4.ld (i:=0) rfl rfl)) ?_
  refine bif_ex (fun hb=>?_) (fun hb=>?_)
  ·replace hp:=bif_t hb hp
   obtain ⟨w6,s6⟩:=w4.pick' [] 2 rfl rfl rfl
   dsimp only [pk,pks,nth,List.drop] at w6 s6
   obtain rfl:=Option.some.inj hp
   exact ⟨_,_,rfl,rfl,w6,(s0.trans (s1.trans (s2.trans (s4.trans s6)))),trivial⟩
  ·replace hp:=bif_f hb hp
   obtain ⟨w7,s7⟩:=w4.pick' [] 2 rfl rfl rfl
   dsimp only [pk,pks,nth,List.drop] at w7 s7
   obtain rfl:=Option.some.inj hp
   exact ⟨_,_,rfl,rfl,w7,(s0.trans (s1.trans (s2.trans (s4.trans s7)))),trivial⟩
def ar.Q (H0:Hp) (Ri R0:List Rs)  (r:Bool) (v:AV) (H':Hp):Prop:=v = (.bool r)∧Out H0 Ri H' (R0) fun R=>True
def ar.S29 (H0:Hp) (Ri R0:List Rs)  (C:Sl→Sl→Int→Hp→OA) (pC:List Int→List Int→Int→Option (Bool)):Prop:=∀ {cf dM:ON} {bD dv:Nat} {cg dN:Cap} {az bF:List Int} {bh:Int},∀ {H:Hp},bD = az.length→dv = bF.length→(Out H0 Ri H R0 fun R=>ROs (eInt .i64) H R ⟨cf,bD,cg⟩ az∧ROs (eInt .i64) H R ⟨dM,dv,dN⟩ bF)→∀ {r:Bool},pC az bF bh = some r→∃ v H',C ⟨cf,bD,cg⟩ ⟨dM,dv,dN⟩ bh H = some (v,H')∧ar.Q H0 Ri R0  r v H'
def ar.pl29 (F:Nat) :Nat→List Int→List Int→Int→Option (Bool)
 | 0,_,_,_=>none
 | k + 1,az,bF,bh=>(bif (decide (bh < (az.length:Int))) then ((ix az bh).bind fun n1=>(ix bF bh).bind fun n2=>(bif ((gt az n1) != (gt bF n2)) then (some false) else (ar.pl29 F k az bF (IntKind.i64.wrap (bh + 1))))) else (some true))
termination_by structural n=>n
theorem ar.l29_P {F:Nat} {H0:Hp} {Ri R0:List Rs}  :∀ k,ar.S29 H0 Ri R0  (ar.l29 F   k) (ar.pl29 F  k):=by
 intro k
 induction k with
 | zero=>
  intro cf dM bD dv cg dN az bF bh H cu fc h0 r hp
  exact nomatch (show (none:Option (Bool)) = some r from hp)
 | succ k ih=>
  intro cf dM bD dv cg dN az bF bh H cu fc h0 r hp
  obtain ⟨w0,s0,bE,fd⟩:=h0
  subst cu
  subst fc
  unfold ar.pl29 at hp
  unfold ar.l29
  refine bif_ex (fun hb=>?_) (fun hb=>?_)
  ·replace hp:=bif_t hb hp
   obtain ⟨n1,g1,hp⟩:=bind_some' hp
   obtain ⟨p1,q1,i1,h1,j1⟩:=ROs.ixr bE rfl g1
   refine bind_ex i1 ?_
   have h1:_ = [_]:=h1
   subst h1
   refine bind_ex (ldI_of (j1 0 _ rfl)) ?_
   obtain ⟨n2,g2,hp⟩:=bind_some' hp
   obtain ⟨p2,q2,i2,h2,j2⟩:=ROs.ixr fd rfl g2
   refine bind_ex i2 ?_
   have h2:_ = [_]:=h2
   subst h2
   refine bind_ex (ldI_of (j2 0 _ rfl)) ?_
   refine bif_ex (fun hb=>?_) (fun hb=>?_)
   ·replace hp:=bif_t hb hp
    obtain rfl:=Option.some.inj hp
    exact ⟨_,_,rfl,rfl,w0,s0,trivial⟩
   ·replace hp:=bif_f hb hp
    exact ih rfl rfl ⟨w0,s0,bE,fd⟩ hp
  ·replace hp:=bif_f hb hp
   obtain rfl:=Option.some.inj hp
   exact ⟨_,_,rfl,rfl,w0,s0,trivial⟩
def ar.p (F:Nat) (ay:List Int) (cR:List Int):Option (Bool):=(bif ((ay.length:Int) != (cR.length:Int)) then (some false) else (ar.pl29 F F ay cR 0))
theorem ar.P {F:Nat} {a_ fe:ON} {aG ef:Nat} {ba ff:Cap} {ay cR:List Int} {H:Hp} {R0:List Rs} (bq:aG = ay.length) (hH:ef = cR.length) (h0:Inn H R0 fun R=>ROs (eInt .i64) H R ⟨a_,aG,ba⟩ ay∧ROs (eInt .i64) H R ⟨fe,ef,ff⟩ cR) {r:Bool} (hp:ar.p F ay cR = some r):∃ v H',ar.tw F ⟨a_,aG,ba⟩ ⟨fe,ef,ff⟩ H = some (v,H')∧ar.Q H R0 R0  r v H':=by
 obtain ⟨w0,bs,hI⟩:=h0
 subst bq
 subst hH
 unfold ar.p at hp
 unfold ar.tw ar.twX
 have s0:=w0.rf
 refine bif_ex (fun hb=>?_) (fun hb=>?_)
 ·replace hp:=bif_t hb hp
  obtain rfl:=Option.some.inj hp
  exact ⟨_,_,rfl,rfl,w0,s0,trivial⟩
 ·replace hp:=bif_f hb hp
  exact ar.l29_P F rfl rfl ⟨w0,s0,bs,hI⟩ hp
def aS.Q (H0:Hp) (Ri R0:List Rs)  (r:Bool) (v:AV) (H':Hp):Prop:=v = (.bool r)∧Out H0 Ri H' (R0) fun R=>True
def aS.p (F:Nat) (aa:Int) (aC:List Int) (af:Int) (fh:List Int):Option (Bool):=(bif (aa != af) then (some false) else ((ar.p F aC fh).bind fun r4=>(bif (!r4) then (some false) else (some true))))
theorem aS.P {F:Nat} {aa af:Int} {bn jk:ON} {bj hK:Nat} {bo jl:Cap} {aC fh:List Int} {H:Hp} {R0:List Rs} (ce:bj = aC.length) (kh:hK = fh.length) (h0:Inn H R0 fun R=>ROs (eInt .i64) H R ⟨bn,bj,bo⟩ aC∧ROs (eInt .i64) H R ⟨jk,hK,jl⟩ fh) {r:Bool} (hp:aS.p F aa aC af fh = some r):∃ v H',aS.tw F aa ⟨bn,bj,bo⟩ af ⟨jk,hK,jl⟩ H = some (v,H')∧aS.Q H R0 R0  r v H':=by
 obtain ⟨w0,bu,ki⟩:=h0
 subst ce
 subst kh
 unfold aS.p at hp
 unfold aS.tw aS.twX
 have s0:=w0.rf
 refine new_k w0 fun H1 w1 s1=>?_
 refine new_k w1 fun H2 w2 s2=>?_
 refine bind_ex (ldI_of (w2.ld (i:=1) rfl rfl)) ?_
 refine bind_ex (ldI_of (w2.ld (i:=0) rfl rfl)) ?_
 refine bif_ex (fun hb=>?_) (fun hb=>?_)
 ·replace hp:=bif_t hb hp
  obtain ⟨w3,s3⟩:=w2.pick' [] 2 rfl rfl rfl
  dsimp only [pk,pks,nth,List.drop] at w3 s3
  obtain rfl:=Option.some.inj hp
  exact ⟨_,_,rfl,rfl,w3,(s0.trans (s1.trans (s2.trans s3))),trivial⟩
 ·replace hp:=bif_f hb hp
  refine bind_ex (ldSl_of (w2.ld (i:=1) rfl rfl)) ?_
  refine bind_ex (ldSl_of (w2.ld (i:=0) rfl rfl)) ?_
  obtain ⟨r4,e4,hp⟩:=bind_some' hp
  refine call_ex (ar.P rfl rfl ⟨w2,(bu.step (s1.trans s2)),(ki.step (s1.trans s2))⟩ e4) ?_
  rintro _ H5 ⟨rfl,w5,s5,_⟩
  refine bind_ex rfl ?_
  refine bif_ex (fun hb=>?_) (fun hb=>?_)
  ·replace hp:=bif_t hb hp
   obtain ⟨w6,s6⟩:=w5.pick' [] 2 rfl rfl rfl
   dsimp only [pk,pks,nth,List.drop] at w6 s6
   obtain rfl:=Option.some.inj hp
   exact ⟨_,_,rfl,rfl,w6,(s0.trans (s1.trans (s2.trans (s5.trans s6)))),trivial⟩
  ·replace hp:=bif_f hb hp
   obtain ⟨w7,s7⟩:=w5.pick' [] 2 rfl rfl rfl
   dsimp only [pk,pks,nth,List.drop] at w7 s7
   obtain rfl:=Option.some.inj hp
   exact ⟨_,_,rfl,rfl,w7,(s0.trans (s1.trans (s2.trans (s5.trans s7)))),trivial⟩
def au.Q (H0:Hp) (Ri R0:List Rs) (a_:ON) (aG:Nat) (ba:Cap) (cw:Bool) (cx cy:List AV) (r:Int×List Int) (v:AV) (H':Hp):Prop:=∃ dZ:List AV,v = (.int .i64 r.1)∧aG = (r.2).length∧Out H0 Ri H' (Rs.ow cw ⟨a_,aG,ba⟩ (eInt .i64).z cx dZ cy :: R0) fun R=>CR (eInt .i64) H' R dZ (r.2)
def au.S13 (H0:Hp) (Ri R0:List Rs) (dw:ON) (cS:Nat) (dx:Cap) (dO:Bool) (dP dQ:List AV) (C:Sl→Int→Int→Hp→OA) (pC:List Int→Int→Int→Option (Int×List Int)):Prop:=∀ {az:List Int} {dR:List AV} {ai aB:Int},∀ {H:Hp},cS = az.length→(Out H0 Ri H (Rs.ow dO ⟨dw,cS,dx⟩ (eInt .i64).z dP dR dQ :: R0) fun R=>CR (eInt .i64) H R dR az)→∀ {r:Int×List Int},pC az ai aB = some r→∃ v H',C ⟨dw,cS,dx⟩ ai aB H = some (v,H')∧au.Q H0 Ri R0 dw cS dx dO dP dQ r v H'
def au.pl13 (F:Nat) :Nat→List Int→Int→Int→Option (Int×List Int)
 | 0,_,_,_=>none
 | k + 1,az,ai,aB=>(bif (decide (aB < (az.length:Int))) then ((ix az aB).bind fun n1=>(some (az.set n1 ai)).bind fun l2=>au.pl13 F k l2 (IntKind.i64.wrap (ai + 1)) (IntKind.i64.wrap (aB + 1))) else (some (ai,az)))
termination_by structural n=>n
theorem au.l13_P {F:Nat} {H0:Hp} {Ri R0:List Rs} {dw:ON} {cS:Nat} {dx:Cap} {dO:Bool} {dP dQ:List AV} :∀ k,au.S13 H0 Ri R0 dw cS dx dO dP dQ (au.l13 F   k) (au.pl13 F  k):=by
 intro k
 induction k with
 | zero=>
  intro az dR ai aB H cu h0 r hp
  exact nomatch (show (none:Option (Int×List Int)) = some r from hp)
 | succ k ih=>
  intro az dR ai aB H cu h0 r hp
  obtain ⟨w0,s0,bE⟩:=h0
  subst cu
  unfold au.pl13 at hp
  unfold au.l13
  refine bif_ex (fun hb=>?_) (fun hb=>?_)
  ·replace hp:=bif_t hb hp
   obtain ⟨n1,g1,hp⟩:=bind_some' hp
   obtain ⟨p1,q1,i1,h1,j1⟩:=W.ixo (E:=(eInt .i64)) w0 (i:=0) rfl rfl bE g1
   refine bind_ex i1 ?_
   obtain ⟨l2,e2,hp⟩:=bind_some' hp
   refine sto_k (eInt .i64) w0 (i:=0) (j:=0) (p:=p1) rfl rfl bE g1 i1 e2 rfl rfl (fun _ h=>by have h:_ = [_]:=h; subst h; exact rfl) fun H3 k3 w3 s3 c3=>?_
   dsimp only [List.set] at w3 s3 c3
   exact ih ((st_len e2).symm) ⟨w3,(s0.trans s3),c3⟩ hp
  ·replace hp:=bif_f hb hp
   obtain rfl:=Option.some.inj hp
   exact ⟨_,_,rfl,_,rfl,rfl,w0,s0,bE⟩
def au.p (F:Nat) (ay:List Int) (ac:Int):Option (Int×List Int):=au.pl13 F F ay ac 0
theorem au.P {F:Nat} {a_:ON} {aG:Nat} {ba:Cap} {ay:List Int} {cw:Bool} {cx cy dy:List AV} {ac:Int} {H:Hp} {R0:List Rs} (bq:aG = ay.length) (h0:Inn H (Rs.ow cw ⟨a_,aG,ba⟩ (eInt .i64).z cx dy cy :: R0) fun R=>CR (eInt .i64) H R dy ay) {r:Int×List Int} (hp:au.p F ay ac = some r):∃ v H',au.tw F ⟨a_,aG,ba⟩ ac H = some (v,H')∧au.Q H (Rs.ow cw ⟨a_,aG,ba⟩ (eInt .i64).z cx dy cy :: R0) R0 a_ aG ba cw cx cy r v H':=by
 obtain ⟨w0,bs⟩:=h0
 subst bq
 unfold au.p at hp
 unfold au.tw au.twX
 have s0:=w0.rf
 exact au.l13_P F rfl ⟨w0,s0,bs⟩ hp
def aT.Q (H0:Hp) (Ri R0:List Rs) (bn:ON) (bj:Nat) (bo:Cap) (fi:Bool) (fj fk:List AV) (r:Int×List Int) (v:AV) (H':Hp):Prop:=∃ jm:List AV,v = (.int .i64 r.1)∧bj = (r.2).length∧Out H0 Ri H' (Rs.ow fi ⟨bn,bj,bo⟩ (eInt .i64).z fj jm fk :: R0) fun R=>CR (eInt .i64) H' R jm (r.2)
def aT.p (F:Nat) (aC:List Int) (af:Int):Option (Int×List Int):=(au.p F aC af).bind fun r3=>some (r3.1,r3.2)
theorem aT.P {F:Nat} {aa af:Int} {bn:ON} {bj:Nat} {bo:Cap} {aC:List Int} {fi:Bool} {fj fk hL:List AV} {H:Hp} {R0:List Rs} (ce:bj = aC.length) (h0:Inn H (Rs.ow fi ⟨bn,bj,bo⟩ (eInt .i64).z fj hL fk :: R0) fun R=>CR (eInt .i64) H R hL aC) {r:Int×List Int} (hp:aT.p F aC af = some r):∃ v H',aT.tw F aa ⟨bn,bj,bo⟩ af H = some (v,H')∧aT.Q H (Rs.ow fi ⟨bn,bj,bo⟩ (eInt .i64).z fj hL fk :: R0) R0 bn bj bo fi fj fk r v H':=by
 obtain ⟨w0,bu⟩:=h0
 subst ce
 unfold aT.p at hp
 unfold aT.tw aT.twX
 have s0:=w0.rf
 refine new_k w0 fun H1 w1 s1=>?_
 refine bind_ex (ldSl_of (w1.ld (i:=0) rfl rfl)) ?_
 obtain ⟨w2,s2⟩:=w1.pick' [1,0] 2 rfl rfl rfl
 dsimp only [pk,pks,nth,List.drop] at w2 s2
 obtain ⟨r3,e3,hp⟩:=bind_some' hp
 refine call_ex (au.P rfl ⟨w2,(bu.step (s1.trans s2))⟩ e3) ?_
 rintro _ H4 ⟨kj,rfl,hl4_0,w4,s4,f4_0⟩
 refine bind_ex rfl ?_
 obtain ⟨w5,s5⟩:=w4.pick' [0] 2 rfl rfl rfl
 dsimp only [pk,pks,nth,List.drop] at w5 s5
 obtain rfl:=Option.some.inj hp
 exact ⟨_,_,rfl,_,rfl,hl4_0,w5,(s0.trans (s1.trans (s2.trans (s4.trans s5)))),(f4_0.step s5)⟩
def av.Q (H0:Hp) (Ri R0:List Rs) (a_:ON) (aG:Nat) (ba:Cap) (cw:Bool) (cx cy:List AV) (r:Int×(List (Int×Int×Int×Int×Int))) (v:AV) (H':Hp):Prop:=∃ dZ:List AV,v = (.int .i64 r.1)∧aG = (r.2).length∧Out H0 Ri H' (Rs.ow cw ⟨a_,aG,ba⟩ (ePair (eInt .i64) (ePair (eInt .i64) (ePair (eInt .i64) (ePair (eInt .i64) (eInt .i64))))).z cx dZ cy :: R0) fun R=>CR (ePair (eInt .i64) (ePair (eInt .i64) (ePair (eInt .i64) (ePair (eInt .i64) (eInt .i64))))) H' R dZ (r.2)
def av.S13 (H0:Hp) (Ri R0:List Rs) (dw:ON) (cS:Nat) (dx:Cap) (dO:Bool) (dP dQ:List AV) (C:Sl→Int→Int→Hp→OA) (pC:List (Int×Int×Int×Int×Int)→Int→Int→Option (Int×(List (Int×Int×Int×Int×Int)))):Prop:=∀ {az:List (Int×Int×Int×Int×Int)} {dR:List AV} {ai aB:Int},∀ {H:Hp},cS = az.length→(Out H0 Ri H (Rs.ow dO ⟨dw,cS,dx⟩ (ePair (eInt .i64) (ePair (eInt .i64) (ePair (eInt .i64) (ePair (eInt .i64) (eInt .i64))))).z dP dR dQ :: R0) fun R=>CR (ePair (eInt .i64) (ePair (eInt .i64) (ePair (eInt .i64) (ePair (eInt .i64) (eInt .i64))))) H R dR az)→∀ {r:Int×(List (Int×Int×Int×Int×Int))},pC az ai aB = some r→∃ v H',C ⟨dw,cS,dx⟩ ai aB H = some (v,H')∧av.Q H0 Ri R0 dw cS dx dO dP dQ r v H'
def av.pl13 (F:Nat) :Nat→List (Int×Int×Int×Int×Int)→Int→Int→Option (Int×(List (Int×Int×Int×Int×Int)))
 | 0,_,_,_=>none
 | k + 1,az,ai,aB=>(bif (decide (aB < (az.length:Int))) then ((ix az aB).bind fun n1=>(some (az.set n1 (ai,(gt az n1).2.1,(gt az n1).2.2.1,(gt az n1).2.2.2.1,(gt az n1).2.2.2.2))).bind fun l2=>(ix l2 aB).bind fun n4=>(some (l2.set n4 ((gt l2 n4).1,(IntKind.i64.wrap (ai + 1)),(gt l2 n4).2.2.1,(gt l2 n4).2.2.2.1,(gt l2 n4).2.2.2.2))).bind fun l5=>(ix l5 aB).bind fun n7=>(some (l5.set n7 ((gt l5 n7).1,(gt l5 n7).2.1,(IntKind.i64.wrap ((IntKind.i64.wrap (ai + 1)) + 1)),(gt l5 n7).2.2.2.1,(gt l5 n7).2.2.2.2))).bind fun l8=>(ix l8 aB).bind fun n10=>(some (l8.set n10 ((gt l8 n10).1,(gt l8 n10).2.1,(gt l8 n10).2.2.1,(IntKind.i64.wrap ((IntKind.i64.wrap ((IntKind.i64.wrap (ai + 1)) + 1)) + 1)),(gt l8 n10).2.2.2.2))).bind fun l11=>(ix l11 aB).bind fun n13=>(some (l11.set n13 ((gt l11 n13).1,(gt l11 n13).2.1,(gt l11 n13).2.2.1,(gt l11 n13).2.2.2.1,(IntKind.i64.wrap ((IntKind.i64.wrap ((IntKind.i64.wrap ((IntKind.i64.wrap (ai + 1)) + 1)) + 1)) + 1))))).bind fun l14=>av.pl13 F k l14 (IntKind.i64.wrap ((IntKind.i64.wrap ((IntKind.i64.wrap ((IntKind.i64.wrap ((IntKind.i64.wrap (ai + 1)) + 1)) + 1)) + 1)) + 1)) (IntKind.i64.wrap (aB + 1))) else (some (ai,az)))
termination_by structural n=>n
theorem av.l13_P {F:Nat} {H0:Hp} {Ri R0:List Rs} {dw:ON} {cS:Nat} {dx:Cap} {dO:Bool} {dP dQ:List AV} :∀ k,av.S13 H0 Ri R0 dw cS dx dO dP dQ (av.l13 F   k) (av.pl13 F  k):=by
 intro k
 induction k with
 | zero=>
  intro az dR ai aB H cu h0 r hp
  exact nomatch (show (none:Option (Int×(List (Int×Int×Int×Int×Int)))) = some r from hp)
 | succ k ih=>
  intro az dR ai aB H cu h0 r hp
  obtain ⟨w0,s0,bE⟩:=h0
  subst cu
  unfold av.pl13 at hp
  unfold av.l13
  refine bif_ex (fun hb=>?_) (fun hb=>?_)
  ·replace hp:=bif_t hb hp
   obtain ⟨n1,g1,hp⟩:=bind_some' hp
   obtain ⟨p1,q1,i1,h1,j1⟩:=W.ixo (E:=(ePair (eInt .i64) (ePair (eInt .i64) (ePair (eInt .i64) (ePair (eInt .i64) (eInt .i64)))))) w0 (i:=0) rfl rfl bE g1
   refine bind_ex i1 ?_
   obtain ⟨l2,e2,hp⟩:=bind_some' hp
   refine sto_k (ePair (eInt .i64) (ePair (eInt .i64) (ePair (eInt .i64) (ePair (eInt .i64) (eInt .i64))))) w0 (i:=0) (j:=0) (p:=p1) rfl rfl bE g1 i1 e2 rfl rfl (fun _ h=>by obtain ⟨_,_,rfl,rfl,_,_,rfl,rfl,_,_,rfl,rfl,_,_,rfl,rfl,rfl⟩:=h; exact ⟨[_],_,rfl,rfl,[_],_,rfl,rfl,[_],_,rfl,rfl,[_],_,rfl,rfl,rfl⟩) fun H3 k3 w3 s3 c3=>?_
   dsimp only [List.set] at w3 s3 c3
   obtain ⟨n4,g4,hp⟩:=bind_some' hp
   obtain ⟨p4,q4,i4,h4,j4⟩:=W.ixo (E:=(ePair (eInt .i64) (ePair (eInt .i64) (ePair (eInt .i64) (ePair (eInt .i64) (eInt .i64)))))) w3 (i:=0) rfl rfl c3 g4
   refine bind_ex i4 ?_
   obtain ⟨l5,e5,hp⟩:=bind_some' hp
   refine sto_k (ePair (eInt .i64) (ePair (eInt .i64) (ePair (eInt .i64) (ePair (eInt .i64) (eInt .i64))))) w3 (i:=0) (j:=1) (p:=p4) rfl rfl c3 g4 i4 e5 rfl rfl (fun _ h=>by obtain ⟨_,_,rfl,rfl,_,_,rfl,rfl,_,_,rfl,rfl,_,_,rfl,rfl,rfl⟩:=h; exact ⟨[_],_,rfl,rfl,[_],_,rfl,rfl,[_],_,rfl,rfl,[_],_,rfl,rfl,rfl⟩) fun H6 k6 w6 s6 c6=>?_
   dsimp only [List.set] at w6 s6 c6
   obtain ⟨n7,g7,hp⟩:=bind_some' hp
   obtain ⟨p7,q7,i7,h7,j7⟩:=W.ixo (E:=(ePair (eInt .i64) (ePair (eInt .i64) (ePair (eInt .i64) (ePair (eInt .i64) (eInt .i64)))))) w6 (i:=0) rfl rfl c6 g7
   refine bind_ex i7 ?_
   obtain ⟨l8,e8,hp⟩:=bind_some' hp
   refine sto_k (ePair (eInt .i64) (ePair (eInt .i64) (ePair (eInt .i64) (ePair (eInt .i64) (eInt .i64))))) w6 (i:=0) (j:=2) (p:=p7) rfl rfl c6 g7 i7 e8 rfl rfl (fun _ h=>by obtain ⟨_,_,rfl,rfl,_,_,rfl,rfl,_,_,rfl,rfl,_,_,rfl,rfl,rfl⟩:=h; exact ⟨[_],_,rfl,rfl,[_],_,rfl,rfl,[_],_,rfl,rfl,[_],_,rfl,rfl,rfl⟩) fun H9 k9 w9 s9 c9=>?_
   dsimp only [List.set] at w9 s9 c9
   obtain ⟨n10,g10,hp⟩:=bind_some' hp
   obtain ⟨p10,q10,i10,h10,j10⟩:=W.ixo (E:=(ePair (eInt .i64) (ePair (eInt .i64) (ePair (eInt .i64) (ePair (eInt .i64) (eInt .i64)))))) w9 (i:=0) rfl rfl c9 g10
   refine bind_ex i10 ?_
   obtain ⟨l11,e11,hp⟩:=bind_some' hp
   refine sto_k (ePair (eInt .i64) (ePair (eInt .i64) (ePair (eInt .i64) (ePair (eInt .i64) (eInt .i64))))) w9 (i:=0) (j:=3) (p:=p10) rfl rfl c9 g10 i10 e11 rfl rfl (fun _ h=>by obtain ⟨_,_,rfl,rfl,_,_,rfl,rfl,_,_,rfl,rfl,_,_,rfl,rfl,rfl⟩:=h; exact ⟨[_],_,rfl,rfl,[_],_,rfl,rfl,[_],_,rfl,rfl,[_],_,rfl,rfl,rfl⟩) fun H12 k12 w12 s12 c12=>?_
   dsimp only [List.set] at w12 s12 c12
   obtain ⟨n13,g13,hp⟩:=bind_some' hp
   obtain ⟨p13,q13,i13,h13,j13⟩:=W.ixo (E:=(ePair (eInt .i64) (ePair (eInt .i64) (ePair (eInt .i64) (ePair (eInt .i64) (eInt .i64)))))) w12 (i:=0) rfl rfl c12 g13
   refine bind_ex i13 ?_
   obtain ⟨l14,e14,hp⟩:=bind_some' hp
   refine sto_k (ePair (eInt .i64) (ePair (eInt .i64) (ePair (eInt .i64) (ePair (eInt .i64) (eInt .i64))))) w12 (i:=0) (j:=4) (p:=p13) rfl rfl c12 g13 i13 e14 rfl rfl (fun _ h=>by obtain ⟨_,_,rfl,rfl,_,_,rfl,rfl,_,_,rfl,rfl,_,_,rfl,rfl,rfl⟩:=h; exact ⟨[_],_,rfl,rfl,[_],_,rfl,rfl,[_],_,rfl,rfl,[_],_,rfl,rfl,rfl⟩) fun H15 k15 w15 s15 c15=>?_
   dsimp only [List.set] at w15 s15 c15
   exact ih (((((st_len e2).symm.trans (st_len e5).symm).trans (st_len e8).symm).trans (st_len e11).symm).trans (st_len e14).symm) ⟨w15,(s0.trans (s3.trans (s6.trans (s9.trans (s12.trans s15))))),c15⟩ hp
  ·replace hp:=bif_f hb hp
   obtain rfl:=Option.some.inj hp
   exact ⟨_,_,rfl,_,rfl,rfl,w0,s0,bE⟩
def av.p (F:Nat) (ay:List (Int×Int×Int×Int×Int)) (ac:Int):Option (Int×(List (Int×Int×Int×Int×Int))):=av.pl13 F F ay ac 0
theorem av.P {F:Nat} {a_:ON} {aG:Nat} {ba:Cap} {ay:List (Int×Int×Int×Int×Int)} {cw:Bool} {cx cy dy:List AV} {ac:Int} {H:Hp} {R0:List Rs} (bq:aG = ay.length) (h0:Inn H (Rs.ow cw ⟨a_,aG,ba⟩ (ePair (eInt .i64) (ePair (eInt .i64) (ePair (eInt .i64) (ePair (eInt .i64) (eInt .i64))))).z cx dy cy :: R0) fun R=>CR (ePair (eInt .i64) (ePair (eInt .i64) (ePair (eInt .i64) (ePair (eInt .i64) (eInt .i64))))) H R dy ay) {r:Int×(List (Int×Int×Int×Int×Int))} (hp:av.p F ay ac = some r):∃ v H',av.tw F ⟨a_,aG,ba⟩ ac H = some (v,H')∧av.Q H (Rs.ow cw ⟨a_,aG,ba⟩ (ePair (eInt .i64) (ePair (eInt .i64) (ePair (eInt .i64) (ePair (eInt .i64) (eInt .i64))))).z cx dy cy :: R0) R0 a_ aG ba cw cx cy r v H':=by
 obtain ⟨w0,bs⟩:=h0
 subst bq
 unfold av.p at hp
 unfold av.tw av.twX
 have s0:=w0.rf
 exact av.l13_P F rfl ⟨w0,s0,bs⟩ hp
def aU.Q (H0:Hp) (Ri R0:List Rs) (a_:ON) (aG:Nat) (ba:Cap) (cw:Bool) (cx cy:List AV) (r:Int×(List (Int×Int×Int×Int×Int))) (v:AV) (H':Hp):Prop:=∃ dZ:List AV,v = (.int .i64 r.1)∧aG = (r.2).length∧Out H0 Ri H' (Rs.ow cw ⟨a_,aG,ba⟩ (ePair (eInt .i64) (ePair (eInt .i64) (ePair (eInt .i64) (ePair (eInt .i64) (eInt .i64))))).z cx dZ cy :: R0) fun R=>CR (ePair (eInt .i64) (ePair (eInt .i64) (ePair (eInt .i64) (ePair (eInt .i64) (eInt .i64))))) H' R dZ (r.2)
def aU.p (F:Nat) (ay:List (Int×Int×Int×Int×Int)) (af:Int):Option (Int×(List (Int×Int×Int×Int×Int))):=(av.p F ay af).bind fun r3=>some (r3.1,r3.2)
theorem aU.P {F:Nat} {a_:ON} {aG:Nat} {ba:Cap} {ay:List (Int×Int×Int×Int×Int)} {cw:Bool} {cx cy dy:List AV} {ad af:Int} {H:Hp} {R0:List Rs} (bq:aG = ay.length) (h0:Inn H (Rs.ow cw ⟨a_,aG,ba⟩ (ePair (eInt .i64) (ePair (eInt .i64) (ePair (eInt .i64) (ePair (eInt .i64) (eInt .i64))))).z cx dy cy :: R0) fun R=>CR (ePair (eInt .i64) (ePair (eInt .i64) (ePair (eInt .i64) (ePair (eInt .i64) (eInt .i64))))) H R dy ay) {r:Int×(List (Int×Int×Int×Int×Int))} (hp:aU.p F ay af = some r):∃ v H',aU.tw F ⟨a_,aG,ba⟩ ad af H = some (v,H')∧aU.Q H (Rs.ow cw ⟨a_,aG,ba⟩ (ePair (eInt .i64) (ePair (eInt .i64) (ePair (eInt .i64) (ePair (eInt .i64) (eInt .i64))))).z cx dy cy :: R0) R0 a_ aG ba cw cx cy r v H':=by
 obtain ⟨w0,bs⟩:=h0
 subst bq
 unfold aU.p at hp
 unfold aU.tw aU.twX
 have s0:=w0.rf
 refine new_k w0 fun H1 w1 s1=>?_
 refine bind_ex (ldSl_of (w1.ld (i:=0) rfl rfl)) ?_
 obtain ⟨w2,s2⟩:=w1.pick' [1,0] 2 rfl rfl rfl
 dsimp only [pk,pks,nth,List.drop] at w2 s2
 obtain ⟨r3,e3,hp⟩:=bind_some' hp
 refine call_ex (av.P rfl ⟨w2,(bs.step (s1.trans s2))⟩ e3) ?_
 rintro _ H4 ⟨kj,rfl,hl4_0,w4,s4,f4_0⟩
 refine bind_ex rfl ?_
 obtain ⟨w5,s5⟩:=w4.pick' [0] 2 rfl rfl rfl
 dsimp only [pk,pks,nth,List.drop] at w5 s5
 obtain rfl:=Option.some.inj hp
 exact ⟨_,_,rfl,_,rfl,hl4_0,w5,(s0.trans (s1.trans (s2.trans (s4.trans s5)))),(f4_0.step s5)⟩
def ax.Q (H0:Hp) (Ri R0:List Rs)  (r:Int) (v:AV) (H':Hp):Prop:=v = (.int .i64 r)∧Out H0 Ri H' (R0) fun R=>True
def ax.S13 (H0:Hp) (Ri R0:List Rs)  (C:Sl→Int→Int→Hp→OA) (pC:List (Int×Int×Int×Int×Int)→Int→Int→Option (Int)):Prop:=∀ {cf:ON} {bD:Nat} {cg:Cap} {az:List (Int×Int×Int×Int×Int)} {ai aB:Int},∀ {H:Hp},bD = az.length→(Out H0 Ri H R0 fun R=>ROs (ePair (eInt .i64) (ePair (eInt .i64) (ePair (eInt .i64) (ePair (eInt .i64) (eInt .i64))))) H R ⟨cf,bD,cg⟩ az)→∀ {r:Int},pC az ai aB = some r→∃ v H',C ⟨cf,bD,cg⟩ ai aB H = some (v,H')∧ax.Q H0 Ri R0  r v H'
def ax.pl13 (F:Nat) :Nat→List (Int×Int×Int×Int×Int)→Int→Int→Option (Int)
 | 0,_,_,_=>none
 | k + 1,az,ai,aB=>(bif (decide (aB < (az.length:Int))) then ((ix az aB).bind fun n1=>(bif (((gt az n1).1) != ai) then (some (-1)) else ((ix az aB).bind fun n2=>(bif (((gt az n2).2.1) != (IntKind.i64.wrap (ai + 1))) then (some (-1)) else ((ix az aB).bind fun n3=>(bif (((gt az n3).2.2.1) != (IntKind.i64.wrap ((IntKind.i64.wrap (ai + 1)) + 1))) then (some (-1)) else ((ix az aB).bind fun n4=>(bif (((gt az n4).2.2.2.1) != (IntKind.i64.wrap ((IntKind.i64.wrap ((IntKind.i64.wrap (ai + 1)) + 1)) + 1))) then (some (-1)) else ((ix az aB).bind fun n5=>(bif (((gt az n5).2.2.2.2) != (IntKind.i64.wrap ((IntKind.i64.wrap ((IntKind.i64.wrap ((IntKind.i64.wrap (ai + 1)) + 1)) + 1)) + 1))) then (some (-1)) else (ax.pl13 F k az (IntKind.i64.wrap ((IntKind.i64.wrap ((IntKind.i64.wrap ((IntKind.i64.wrap ((IntKind.i64.wrap (ai + 1)) + 1)) + 1)) + 1)) + 1)) (IntKind.i64.wrap (aB + 1))))))))))))) else (some ai))
termination_by structural n=>n
theorem ax.l13_P {F:Nat} {H0:Hp} {Ri R0:List Rs}  :∀ k,ax.S13 H0 Ri R0  (ax.l13 F   k) (ax.pl13 F  k):=by
 intro k
 induction k with
 | zero=>
  intro cf bD cg az ai aB H cu h0 r hp
  exact nomatch (show (none:Option (Int)) = some r from hp)
 | succ k ih=>
  intro cf bD cg az ai aB H cu h0 r hp
  obtain ⟨w0,s0,bE⟩:=h0
  subst cu
  unfold ax.pl13 at hp
  unfold ax.l13
  refine bif_ex (fun hb=>?_) (fun hb=>?_)
  ·replace hp:=bif_t hb hp
   obtain ⟨n1,g1,hp⟩:=bind_some' hp
   obtain ⟨p1,q1,i1,h1,j1⟩:=ROs.ixr bE rfl g1
   refine bind_ex i1 ?_
   obtain ⟨_,_,rfl,rfl,_,_,rfl,rfl,_,_,rfl,rfl,_,_,rfl,rfl,rfl⟩:=h1
   refine bind_ex (ldI_of (j1 0 _ rfl)) ?_
   refine bif_ex (fun hb=>?_) (fun hb=>?_)
   ·replace hp:=bif_t hb hp
    obtain rfl:=Option.some.inj hp
    exact ⟨_,_,rfl,rfl,w0,s0,trivial⟩
   ·replace hp:=bif_f hb hp
    obtain ⟨n2,g2,hp⟩:=bind_some' hp
    obtain ⟨p2,q2,i2,h2,j2⟩:=ROs.ixr bE rfl g2
    refine bind_ex i2 ?_
    obtain ⟨_,_,rfl,rfl,_,_,rfl,rfl,_,_,rfl,rfl,_,_,rfl,rfl,rfl⟩:=h2
    refine bind_ex (ldI_of (j2 1 _ rfl)) ?_
    refine bif_ex (fun hb=>?_) (fun hb=>?_)
    ·replace hp:=bif_t hb hp
     obtain rfl:=Option.some.inj hp
     exact ⟨_,_,rfl,rfl,w0,s0,trivial⟩
    ·replace hp:=bif_f hb hp
     obtain ⟨n3,g3,hp⟩:=bind_some' hp
     obtain ⟨p3,q3,i3,h3,j3⟩:=ROs.ixr bE rfl g3
     refine bind_ex i3 ?_
     obtain ⟨_,_,rfl,rfl,_,_,rfl,rfl,_,_,rfl,rfl,_,_,rfl,rfl,rfl⟩:=h3
     refine bind_ex (ldI_of (j3 2 _ rfl)) ?_
     refine bif_ex (fun hb=>?_) (fun hb=>?_)
     ·replace hp:=bif_t hb hp
      obtain rfl:=Option.some.inj hp
      exact ⟨_,_,rfl,rfl,w0,s0,trivial⟩
     ·replace hp:=bif_f hb hp
      obtain ⟨n4,g4,hp⟩:=bind_some' hp
      obtain ⟨p4,q4,i4,h4,j4⟩:=ROs.ixr bE rfl g4
      refine bind_ex i4 ?_
      obtain ⟨_,_,rfl,rfl,_,_,rfl,rfl,_,_,rfl,rfl,_,_,rfl,rfl,rfl⟩:=h4
      refine bind_ex (ldI_of (j4 3 _ rfl)) ?_
      refine bif_ex (fun hb=>?_) (fun hb=>?_)
      ·replace hp:=bif_t hb hp
       obtain rfl:=Option.some.inj hp
       exact ⟨_,_,rfl,rfl,w0,s0,trivial⟩
      ·replace hp:=bif_f hb hp
       obtain ⟨n5,g5,hp⟩:=bind_some' hp
       obtain ⟨p5,q5,i5,h5,j5⟩:=ROs.ixr bE rfl g5
       refine bind_ex i5 ?_
       obtain ⟨_,_,rfl,rfl,_,_,rfl,rfl,_,_,rfl,rfl,_,_,rfl,rfl,rfl⟩:=h5
       refine bind_ex (ldI_of (j5 4 _ rfl)) ?_
       refine bif_ex (fun hb=>?_) (fun hb=>?_)
       ·replace hp:=bif_t hb hp
        obtain rfl:=Option.some.inj hp
        exact ⟨_,_,rfl,rfl,w0,s0,trivial⟩
       ·replace hp:=bif_f hb hp
        exact ih rfl ⟨w0,s0,bE⟩ hp
  ·replace hp:=bif_f hb hp
   obtain rfl:=Option.some.inj hp
   exact ⟨_,_,rfl,rfl,w0,s0,trivial⟩
def ax.p (F:Nat) (ay:List (Int×Int×Int×Int×Int)) (ac:Int):Option (Int):=ax.pl13 F F ay ac 0
theorem ax.P {F:Nat} {a_:ON} {aG:Nat} {ba:Cap} {ay:List (Int×Int×Int×Int×Int)} {ac:Int} {H:Hp} {R0:List Rs} (bq:aG = ay.length) (h0:Inn H R0 fun R=>ROs (ePair (eInt .i64) (ePair (eInt .i64) (ePair (eInt .i64) (ePair (eInt .i64) (eInt .i64))))) H R ⟨a_,aG,ba⟩ ay) {r:Int} (hp:ax.p F ay ac = some r):∃ v H',ax.tw F ⟨a_,aG,ba⟩ ac H = some (v,H')∧ax.Q H R0 R0  r v H':=by
 obtain ⟨w0,bs⟩:=h0
 subst bq
 unfold ax.p at hp
 unfold ax.tw ax.twX
 have s0:=w0.rf
 exact ax.l13_P F rfl ⟨w0,s0,bs⟩ hp
def aL.Q (H0:Hp) (Ri R0:List Rs)  (r:Int) (v:AV) (H':Hp):Prop:=v = (.int .i64 r)∧Out H0 Ri H' (R0) fun R=>True
def aL.p (F:Nat) (ay:List (Int×Int×Int×Int×Int)) (af:Int):Option (Int):=(ax.p F ay af).bind fun r2=>(bif (decide (r2 < 0)) then (some (-1)) else (some r2))
theorem aL.P {F:Nat} {a_:ON} {aG:Nat} {ba:Cap} {ay:List (Int×Int×Int×Int×Int)} {ad af:Int} {H:Hp} {R0:List Rs} (bq:aG = ay.length) (h0:Inn H R0 fun R=>ROs (ePair (eInt .i64) (ePair (eInt .i64) (ePair (eInt .i64) (ePair (eInt .i64) (eInt .i64))))) H R ⟨a_,aG,ba⟩ ay) {r:Int} (hp:aL.p F ay af = some r):∃ v H',aL.tw F ⟨a_,aG,ba⟩ ad af H = some (v,H')∧aL.Q H R0 R0  r v H':=by
 obtain ⟨w0,bs⟩:=h0
 subst bq
 unfold aL.p at hp
 unfold aL.tw aL.twX
 have s0:=w0.rf
 refine new_k w0 fun H1 w1 s1=>?_
 refine bind_ex (ldSl_of (w1.ld (i:=0) rfl rfl)) ?_
 obtain ⟨r2,e2,hp⟩:=bind_some' hp
 refine call_ex (ax.P rfl ⟨w1,(bs.step s1)⟩ e2) ?_
 rintro _ H3 ⟨rfl,w3,s3,_⟩
 refine bind_ex rfl ?_
 refine bif_ex (fun hb=>?_) (fun hb=>?_)
 ·replace hp:=bif_t hb hp
  obtain ⟨w4,s4⟩:=w3.pick' [] 1 rfl rfl rfl
  dsimp only [pk,pks,nth,List.drop] at w4 s4
  obtain rfl:=Option.some.inj hp
  exact ⟨_,_,rfl,rfl,w4,(s0.trans (s1.trans (s3.trans s4))),trivial⟩
 ·replace hp:=bif_f hb hp
  obtain ⟨w5,s5⟩:=w3.pick' [] 1 rfl rfl rfl
  dsimp only [pk,pks,nth,List.drop] at w5 s5
  obtain rfl:=Option.some.inj hp
  exact ⟨_,_,rfl,rfl,w5,(s0.trans (s1.trans (s3.trans s5))),trivial⟩
def aY.Q (H0:Hp) (Ri R0:List Rs)  (r:Bool) (v:AV) (H':Hp):Prop:=v = (.bool r)∧Out H0 Ri H' (R0) fun R=>True
def aY.p (F:Nat) (aa:Int) (aC:List Int):Option (Bool):=(aO.p F aC 1048576).bind fun r2=>(bif (decide (r2 < 0)) then (some true) else ((aH.p F aa aC).bind fun r5=>(aP.p F r5.1 r5.2).bind fun r8=>(aH.p F aa aC).bind fun r14=>(ag.p F r14.1 r14.2).bind fun r21=>(aI.p F r21.1 r21.2.1 r8.1 r8.2.1).bind fun r30=>(bif (!r30) then (some false) else ((bif (r21.2.2 != r8.2.2) then (some false) else ((aH.p F aa aC).bind fun r36=>(aS.p F r14.1 r14.2 r36.1 r36.2).bind fun r42=>(bif (!r42) then (some false) else ((aT.p F r14.2 1).bind fun r47=>(bif (decide (r47.1 < 0)) then (some false) else ((aI.p F r21.1 r21.2.1 r8.1 r8.2.1).bind fun r53=>(bif (!r53) then (some false) else ((bif (r21.2.2 != r8.2.2) then (some false) else ((aU.p F r21.1 1).bind fun r59=>(aL.p F r59.2 1).bind fun r62=>(bif (decide (r62 < 0)) then (some false) else ((bif (r62 != r59.1) then (some false) else ((aH.p F aa aC).bind fun r67=>(ag.p F r67.1 r67.2).bind fun r70=>(aI.p F r70.1 r70.2.1 r8.1 r8.2.1).bind fun r79=>(bif (!r79) then (some false) else ((bif (r70.2.2 != r8.2.2) then (some false) else ((aL.p F r59.2 1).bind fun r87=>(bif (decide (r87 < 0)) then (some false) else ((bif (r87 != r59.1) then (some false) else (some true))))))))))))))))))))))))))
theorem aY.P {F:Nat} {aa:Int} {bn:ON} {bj:Nat} {bo:Cap} {aC:List Int} {H:Hp} {R0:List Rs} (ce:bj = aC.length) (h0:Inn H R0 fun R=>ROs (eInt .i64) H R ⟨bn,bj,bo⟩ aC) {r:Bool} (hp:aY.p F aa aC = some r):∃ v H',aY.tw F aa ⟨bn,bj,bo⟩ H = some (v,H')∧aY.Q H R0 R0  r v H':=by
 obtain ⟨w0,bu⟩:=h0
 subst ce
 unfold aY.p at hp
 unfold aY.tw aY.twX
 have s0:=w0.rf
 refine new_k w0 fun H1 w1 s1=>?_
 refine bind_ex (ldI_of (w1.ld (i:=0) rfl rfl)) ?_
 refine bind_ex (ldSl_of (w1.ld (i:=0) rfl rfl)) ?_
 obtain ⟨r2,e2,hp⟩:=bind_some' hp
 refine call_ex (aO.P rfl ⟨w1,(bu.step s1)⟩ e2) ?_
 rintro _ H3 ⟨rfl,w3,s3,_⟩
 refine bind_ex rfl ?_
 refine bif_ex (fun hb=>?_) (fun hb=>?_)
 ·replace hp:=bif_t hb hp
  obtain ⟨w4,s4⟩:=w3.pick' [] 1 rfl rfl rfl
  dsimp only [pk,pks,nth,List.drop] at w4 s4
  obtain rfl:=Option.some.inj hp
  exact ⟨_,_,rfl,rfl,w4,(s0.trans (s1.trans (s3.trans s4))),trivial⟩
 ·replace hp:=bif_f hb hp
  refine bind_ex (ldI_of (w3.ld (i:=0) rfl rfl)) ?_
  refine bind_ex (ldSl_of (w3.ld (i:=0) rfl rfl)) ?_
  obtain ⟨r5,e5,hp⟩:=bind_some' hp
  refine call_ex (aH.P rfl ⟨w3,(bu.step (s1.trans s3))⟩ e5) ?_
  rintro _ H6 ⟨o1a_6,o1n_6,o1c_6,o1k_6,rfl,rfl,w6,s6,f6_0⟩
  refine bind_ex rfl ?_
  refine bind_ex rfl ?_
  refine bind_ex rfl ?_
  refine bind_ex rfl ?_
  refine bind_ex rfl ?_
  have f7:=W.borrow1 (eInt .i64) w6 f6_0
  obtain ⟨w7,s7⟩:=w6.right1
  obtain ⟨r8,e8,hp⟩:=bind_some' hp
  refine call_ex (aP.P rfl ⟨w7,f7⟩ e8) ?_
  rintro _ H9 ⟨o0a_9,o0n_9,o0c_9,o0k_9,rfl,rfl,w9,s9,f9_0⟩
  obtain ⟨w10,s10⟩:=W.frame1 w6 w9 s9
  refine bind_ex rfl ?_
  refine bind_ex rfl ?_
  refine bind_ex rfl ?_
  refine bind_ex rfl ?_
  refine bind_ex rfl ?_
  refine bind_ex rfl ?_
  refine bind_ex rfl ?_
  refine bind_ex rfl ?_
  refine bind_ex rfl ?_
  refine new_k w10 fun H11 w11 s11=>?_
  refine st_k w11 (i:=0) rfl rfl rfl fun H12 w12 s12=>?_
  dsimp only [List.set] at w12 s12
  refine st_k w12 (i:=0) rfl rfl rfl fun H13 w13 s13=>?_
  dsimp only [List.set] at w13 s13
  refine bind_ex (ldI_of (w13.ld (i:=3) rfl rfl)) ?_
  refine bind_ex (ldSl_of (w13.ld (i:=3) rfl rfl)) ?_
  obtain ⟨r14,e14,hp⟩:=bind_some' hp
  refine call_ex (aH.P rfl ⟨w13,(bu.step (s1.trans (s3.trans (s6.trans (s10.trans (s11.trans (s12.trans s13)))))))⟩ e14) ?_
  rintro _ H15 ⟨o1a_15,o1n_15,o1c_15,o1k_15,rfl,rfl,w15,s15,f15_0⟩
  refine bind_ex rfl ?_
  refine bind_ex rfl ?_
  refine bind_ex rfl ?_
  refine bind_ex rfl ?_
  refine bind_ex rfl ?_
  refine new_k w15 fun H16 w16 s16=>?_
  refine st_k w16 (i:=0) rfl rfl rfl fun H17 w17 s17=>?_
  dsimp only [List.set] at w17 s17
  refine st_k w17 (i:=0) rfl rfl rfl fun H18 w18 s18=>?_
  dsimp only [List.set] at w18 s18
  refine bind_ex (ldI_of (w18.ld (i:=0) rfl rfl)) ?_
  refine bind_ex (ldSl_of (w18.ld (i:=0) rfl rfl)) ?_
  obtain ⟨w19,s19⟩:=w18.pick' [1,0,2,3,4,5] 6 rfl rfl rfl
  dsimp only [pk,pks,nth,List.drop] at w19 s19
  have f20:=W.borrow1 (eInt .i64) w19 (f15_0.step (s16.trans (s17.trans (s18.trans s19))))
  obtain ⟨w20,s20⟩:=w19.right1
  obtain ⟨r21,e21,hp⟩:=bind_some' hp
  refine call_ex (ag.P rfl ⟨w20,f20⟩ e21) ?_
  rintro _ H22 ⟨o0a_22,o0n_22,o0c_22,o0k_22,rfl,rfl,w22,s22,f22_0⟩
  obtain ⟨w23,s23⟩:=W.frame1 w19 w22 s22
  refine bind_ex rfl ?_
  refine bind_ex rfl ?_
  refine bind_ex rfl ?_
  refine bind_ex rfl ?_
  refine bind_ex rfl ?_
  refine bind_ex rfl ?_
  refine bind_ex rfl ?_
  refine bind_ex rfl ?_
  refine bind_ex rfl ?_
  refine new_k w23 fun H24 w24 s24=>?_
  refine st_k w24 (i:=0) rfl rfl rfl fun H25 w25 s25=>?_
  dsimp only [List.set] at w25 s25
  refine st_k w25 (i:=0) rfl rfl rfl fun H26 w26 s26=>?_
  dsimp only [List.set] at w26 s26
  refine bind_ex (ldSl_of (w26.ld (i:=0) rfl rfl)) ?_
  refine bind_ex (ldI_of (w26.ld (i:=0) rfl rfl)) ?_
  refine bind_ex (ldSl_of (w26.ld (i:=4) rfl rfl)) ?_
  refine bind_ex (ldI_of (w26.ld (i:=4) rfl rfl)) ?_
  obtain ⟨w27,s27⟩:=w26.pick' [2,6,0,1,3,4,5,7] 8 rfl rfl rfl
  dsimp only [pk,pks,nth,List.drop] at w27 s27
  have f28:=W.borrow1 (ePair (eInt .i64) (ePair (eInt .i64) (ePair (eInt .i64) (ePair (eInt .i64) (eInt .i64))))) w27 ((CR.flat (ePair_flat (eInt_flat .i64) (ePair_flat (eInt_flat .i64) (ePair_flat (eInt_flat .i64) (ePair_flat (eInt_flat .i64) (eInt_flat .i64))))) f22_0).step (s24.trans (s25.trans (s26.trans s27))))
  obtain ⟨w28,s28⟩:=w27.right1
  have f29:=W.borrow1 (ePair (eInt .i64) (ePair (eInt .i64) (ePair (eInt .i64) (ePair (eInt .i64) (eInt .i64))))) w28 (((CR.flat (ePair_flat (eInt_flat .i64) (ePair_flat (eInt_flat .i64) (ePair_flat (eInt_flat .i64) (ePair_flat (eInt_flat .i64) (eInt_flat .i64))))) f9_0).step (s11.trans (s12.trans (s13.trans (s15.trans (s16.trans (s17.trans (s18.trans (s19.trans (s23.trans (s24.trans (s25.trans (s26.trans s27))))))))))))).step s28)
  obtain ⟨w29,s29⟩:=w28.right1
  obtain ⟨r30,e30,hp⟩:=bind_some' hp
  refine call_ex (aI.P rfl rfl ⟨w29,(f28.step s29),f29⟩ e30) ?_
  rintro _ H31 ⟨rfl,w31,s31,_⟩
  obtain ⟨w32,s32⟩:=W.frame1 w28 w31 s31
  obtain ⟨w33,s33⟩:=W.frame1 w27 w32 s32
  refine bind_ex rfl ?_
  refine bif_ex (fun hb=>?_) (fun hb=>?_)
  ·replace hp:=bif_t hb hp
   obtain ⟨w34,s34⟩:=w33.pick' [] 8 rfl rfl rfl
   dsimp only [pk,pks,nth,List.drop] at w34 s34
   obtain rfl:=Option.some.inj hp
   exact ⟨_,_,rfl,rfl,w34,(s0.trans (s1.trans (s3.trans (s6.trans (s10.trans (s11.trans (s12.trans (s13.trans (s15.trans (s16.trans (s17.trans (s18.trans (s19.trans (s23.trans (s24.trans (s25.trans (s26.trans (s27.trans (s33.trans s34))))))))))))))))))),trivial⟩
  ·replace hp:=bif_f hb hp
   refine bif_ex (fun hb=>?_) (fun hb=>?_)
   ·replace hp:=bif_t hb hp
    obtain ⟨w35,s35⟩:=w33.pick' [] 8 rfl rfl rfl
    dsimp only [pk,pks,nth,List.drop] at w35 s35
    obtain rfl:=Option.some.inj hp
    exact ⟨_,_,rfl,rfl,w35,(s0.trans (s1.trans (s3.trans (s6.trans (s10.trans (s11.trans (s12.trans (s13.trans (s15.trans (s16.trans (s17.trans (s18.trans (s19.trans (s23.trans (s24.trans (s25.trans (s26.trans (s27.trans (s33.trans s35))))))))))))))))))),trivial⟩
   ·replace hp:=bif_f hb hp
    refine bind_ex (ldI_of (w33.ld (i:=4) rfl rfl)) ?_
    refine bind_ex (ldSl_of (w33.ld (i:=4) rfl rfl)) ?_
    refine bind_ex (ldI_of (w33.ld (i:=7) rfl rfl)) ?_
    refine bind_ex (ldSl_of (w33.ld (i:=7) rfl rfl)) ?_
    obtain ⟨r36,e36,hp⟩:=bind_some' hp
    refine call_ex (aH.P rfl ⟨w33,(bu.step (s1.trans (s3.trans (s6.trans (s10.trans (s11.trans (s12.trans (s13.trans (s15.trans (s16.trans (s17.trans (s18.trans (s19.trans (s23.trans (s24.trans (s25.trans (s26.trans (s27.trans s33))))))))))))))))))⟩ e36) ?_
    rintro _ H37 ⟨o1a_37,o1n_37,o1c_37,o1k_37,rfl,rfl,w37,s37,f37_0⟩
    refine bind_ex rfl ?_
    refine bind_ex rfl ?_
    refine bind_ex rfl ?_
    refine bind_ex rfl ?_
    refine bind_ex rfl ?_
    refine ifs_ex (W.cons_of (Rn:=[_]) w33 w37 s37) ?_
    obtain ⟨w39,s39⟩:=w37.pick' [4,0,1,2,3,5,6,7,8] 9 rfl rfl rfl
    dsimp only [pk,pks,nth,List.drop] at w39 s39
    have f40:=W.borrow1 (eInt .i64) w39 (f15_0.step (s16.trans (s17.trans (s18.trans (s19.trans (s23.trans (s24.trans (s25.trans (s26.trans (s27.trans (s33.trans (s37.trans s39))))))))))))
    obtain ⟨w40,s40⟩:=w39.right1
    have f41:=W.borrow1 (eInt .i64) w40 ((f37_0.step s39).step s40)
    obtain ⟨w41,s41⟩:=w40.right1
    obtain ⟨r42,e42,hp⟩:=bind_some' hp
    refine call_ex (aS.P rfl rfl ⟨w41,(f40.step s41),f41⟩ e42) ?_
    rintro _ H43 ⟨rfl,w43,s43,_⟩
    obtain ⟨w44,s44⟩:=W.frame1 w40 w43 s43
    obtain ⟨w45,s45⟩:=W.frame1 w39 w44 s44
    refine bind_ex rfl ?_
    refine bif_ex (fun hb=>?_) (fun hb=>?_)
    ·replace hp:=bif_t hb hp
     obtain ⟨w46,s46⟩:=w45.pick' [] 9 rfl rfl rfl
     dsimp only [pk,pks,nth,List.drop] at w46 s46
     obtain rfl:=Option.some.inj hp
     exact ⟨_,_,rfl,rfl,w46,(s0.trans (s1.trans (s3.trans (s6.trans (s10.trans (s11.trans (s12.trans (s13.trans (s15.trans (s16.trans (s17.trans (s18.trans (s19.trans (s23.trans (s24.trans (s25.trans (s26.trans (s27.trans (s33.trans (s37.trans (s39.trans (s45.trans s46)))))))))))))))))))))),trivial⟩
    ·replace hp:=bif_f hb hp
     refine bind_ex (ldI_of (w45.ld (i:=5) rfl rfl)) ?_
     refine bind_ex (ldSl_of (w45.ld (i:=5) rfl rfl)) ?_
     obtain ⟨r47,e47,hp⟩:=bind_some' hp
     refine call_ex (aT.P rfl ⟨w45,(f15_0.step (s16.trans (s17.trans (s18.trans (s19.trans (s23.trans (s24.trans (s25.trans (s26.trans (s27.trans (s33.trans (s37.trans (s39.trans s45)))))))))))))⟩ e47) ?_
     rintro _ H48 ⟨ko,rfl,hl48_0,w48,s48,f48_0⟩
     refine bind_ex rfl ?_
     refine bif_ex (fun hb=>?_) (fun hb=>?_)
     ·replace hp:=bif_t hb hp
      obtain ⟨w49,s49⟩:=w48.pick' [] 9 rfl rfl rfl
      dsimp only [pk,pks,nth,List.drop] at w49 s49
      obtain rfl:=Option.some.inj hp
      exact ⟨_,_,rfl,rfl,w49,(s0.trans (s1.trans (s3.trans (s6.trans (s10.trans (s11.trans (s12.trans (s13.trans (s15.trans (s16.trans (s17.trans (s18.trans (s19.trans (s23.trans (s24.trans (s25.trans (s26.trans (s27.trans (s33.trans (s37.trans (s39.trans (s45.trans (s48.trans s49))))))))))))))))))))))),trivial⟩
     ·replace hp:=bif_f hb hp
      refine bind_ex (ldSl_of (w48.ld (i:=4) rfl rfl)) ?_
      refine bind_ex (ldI_of (w48.ld (i:=4) rfl rfl)) ?_
      refine bind_ex (ldSl_of (w48.ld (i:=6) rfl rfl)) ?_
      refine bind_ex (ldI_of (w48.ld (i:=6) rfl rfl)) ?_
      obtain ⟨w50,s50⟩:=w48.pick' [2,3,0,1,4,5,6,7,8] 9 rfl rfl rfl
      dsimp only [pk,pks,nth,List.drop] at w50 s50
      have f51:=W.borrow1 (ePair (eInt .i64) (ePair (eInt .i64) (ePair (eInt .i64) (ePair (eInt .i64) (eInt .i64))))) w50 ((CR.flat (ePair_flat (eInt_flat .i64) (ePair_flat (eInt_flat .i64) (ePair_flat (eInt_flat .i64) (ePair_flat (eInt_flat .i64) (eInt_flat .i64))))) f22_0).step (s24.trans (s25.trans (s26.trans (s27.trans (s33.trans (s37.trans (s39.trans (s45.trans (s48.trans s50))))))))))
      obtain ⟨w51,s51⟩:=w50.right1
      have f52:=W.borrow1 (ePair (eInt .i64) (ePair (eInt .i64) (ePair (eInt .i64) (ePair (eInt .i64) (eInt .i64))))) w51 (((CR.flat (ePair_flat (eInt_flat .i64) (ePair_flat (eInt_flat .i64) (ePair_flat (eInt_flat .i64) (ePair_flat (eInt_flat .i64) (eInt_flat .i64))))) f9_0).step (s11.trans (s12.trans (s13.trans (s15.trans (s16.trans (s17.trans (s18.trans (s19.trans (s23.trans (s24.trans (s25.trans (s26.trans (s27.trans (s33.trans (s37.trans (s39.trans (s45.trans (s48.trans s50))))))))))))))))))).step s51)
      obtain ⟨w52,s52⟩:=w51.right1
      obtain ⟨r53,e53,hp⟩:=bind_some' hp
      refine call_ex (aI.P rfl rfl ⟨w52,(f51.step s52),f52⟩ e53) ?_
      rintro _ H54 ⟨rfl,w54,s54,_⟩
      obtain ⟨w55,s55⟩:=W.frame1 w51 w54 s54
      obtain ⟨w56,s56⟩:=W.frame1 w50 w55 s55
      refine bind_ex rfl ?_
      refine bif_ex (fun hb=>?_) (fun hb=>?_)
      ·replace hp:=bif_t hb hp
       obtain ⟨w57,s57⟩:=w56.pick' [] 9 rfl rfl rfl
       dsimp only [pk,pks,nth,List.drop] at w57 s57
       obtain rfl:=Option.some.inj hp
       exact ⟨_,_,rfl,rfl,w57,(s0.trans (s1.trans (s3.trans (s6.trans (s10.trans (s11.trans (s12.trans (s13.trans (s15.trans (s16.trans (s17.trans (s18.trans (s19.trans (s23.trans (s24.trans (s25.trans (s26.trans (s27.trans (s33.trans (s37.trans (s39.trans (s45.trans (s48.trans (s50.trans (s56.trans s57))))))))))))))))))))))))),trivial⟩
      ·replace hp:=bif_f hb hp
       refine bif_ex (fun hb=>?_) (fun hb=>?_)
       ·replace hp:=bif_t hb hp
        obtain ⟨w58,s58⟩:=w56.pick' [] 9 rfl rfl rfl
        dsimp only [pk,pks,nth,List.drop] at w58 s58
        obtain rfl:=Option.some.inj hp
        exact ⟨_,_,rfl,rfl,w58,(s0.trans (s1.trans (s3.trans (s6.trans (s10.trans (s11.trans (s12.trans (s13.trans (s15.trans (s16.trans (s17.trans (s18.trans (s19.trans (s23.trans (s24.trans (s25.trans (s26.trans (s27.trans (s33.trans (s37.trans (s39.trans (s45.trans (s48.trans (s50.trans (s56.trans s58))))))))))))))))))))))))),trivial⟩
       ·replace hp:=bif_f hb hp
        refine bind_ex (ldSl_of (w56.ld (i:=4) rfl rfl)) ?_
        refine bind_ex (ldI_of (w56.ld (i:=4) rfl rfl)) ?_
        obtain ⟨r59,e59,hp⟩:=bind_some' hp
        refine call_ex (aU.P rfl ⟨w56,((CR.flat (ePair_flat (eInt_flat .i64) (ePair_flat (eInt_flat .i64) (ePair_flat (eInt_flat .i64) (ePair_flat (eInt_flat .i64) (eInt_flat .i64))))) f22_0).step (s24.trans (s25.trans (s26.trans (s27.trans (s33.trans (s37.trans (s39.trans (s45.trans (s48.trans (s50.trans s56)))))))))))⟩ e59) ?_
        rintro _ H60 ⟨kp,rfl,hl60_0,w60,s60,f60_0⟩
        refine bind_ex rfl ?_
        refine bind_ex (ldSl_of (w60.ld (i:=4) rfl rfl)) ?_
        refine bind_ex (ldI_of (w60.ld (i:=4) rfl rfl)) ?_
        have f61:=W.borrow1 (ePair (eInt .i64) (ePair (eInt .i64) (ePair (eInt .i64) (ePair (eInt .i64) (eInt .i64))))) w60 f60_0
        obtain ⟨w61,s61⟩:=w60.right1
        obtain ⟨r62,e62,hp⟩:=bind_some' hp
        refine call_ex (aL.P hl60_0 ⟨w61,f61⟩ e62) ?_
        rintro _ H63 ⟨rfl,w63,s63,_⟩
        obtain ⟨w64,s64⟩:=W.frame1 w60 w63 s63
        refine bind_ex rfl ?_
        refine bif_ex (fun hb=>?_) (fun hb=>?_)
        ·replace hp:=bif_t hb hp
         obtain ⟨w65,s65⟩:=w64.pick' [] 9 rfl rfl rfl
         dsimp only [pk,pks,nth,List.drop] at w65 s65
         obtain rfl:=Option.some.inj hp
         exact ⟨_,_,rfl,rfl,w65,(s0.trans (s1.trans (s3.trans (s6.trans (s10.trans (s11.trans (s12.trans (s13.trans (s15.trans (s16.trans (s17.trans (s18.trans (s19.trans (s23.trans (s24.trans (s25.trans (s26.trans (s27.trans (s33.trans (s37.trans (s39.trans (s45.trans (s48.trans (s50.trans (s56.trans (s60.trans (s64.trans s65))))))))))))))))))))))))))),trivial⟩
        ·replace hp:=bif_f hb hp
         refine bif_ex (fun hb=>?_) (fun hb=>?_)
         ·replace hp:=bif_t hb hp
          obtain ⟨w66,s66⟩:=w64.pick' [] 9 rfl rfl rfl
          dsimp only [pk,pks,nth,List.drop] at w66 s66
          obtain rfl:=Option.some.inj hp
          exact ⟨_,_,rfl,rfl,w66,(s0.trans (s1.trans (s3.trans (s6.trans (s10.trans (s11.trans (s12.trans (s13.trans (s15.trans (s16.trans (s17.trans (s18.trans (s19.trans (s23.trans (s24.trans (s25.trans (s26.trans (s27.trans (s33.trans (s37.trans (s39.trans (s45.trans (s48.trans (s50.trans (s56.trans (s60.trans (s64.trans s66))))))))))))))))))))))))))),trivial⟩
         ·replace hp:=bif_f hb hp
          refine bind_ex (ldI_of (w64.ld (i:=8) rfl rfl)) ?_
          refine bind_ex (ldSl_of (w64.ld (i:=8) rfl rfl)) ?_
          obtain ⟨r67,e67,hp⟩:=bind_some' hp
          refine call_ex (aH.P rfl ⟨w64,(bu.step (s1.trans (s3.trans (s6.trans (s10.trans (s11.trans (s12.trans (s13.trans (s15.trans (s16.trans (s17.trans (s18.trans (s19.trans (s23.trans (s24.trans (s25.trans (s26.trans (s27.trans (s33.trans (s37.trans (s39.trans (s45.trans (s48.trans (s50.trans (s56.trans (s60.trans s64))))))))))))))))))))))))))⟩ e67) ?_
          rintro _ H68 ⟨o1a_68,o1n_68,o1c_68,o1k_68,rfl,rfl,w68,s68,f68_0⟩
          refine bind_ex rfl ?_
          refine bind_ex rfl ?_
          refine bind_ex rfl ?_
          refine bind_ex rfl ?_
          refine bind_ex rfl ?_
          have f69:=W.borrow1 (eInt .i64) w68 f68_0
          obtain ⟨w69,s69⟩:=w68.right1
          obtain ⟨r70,e70,hp⟩:=bind_some' hp
          refine call_ex (ag.P rfl ⟨w69,f69⟩ e70) ?_
          rintro _ H71 ⟨o0a_71,o0n_71,o0c_71,o0k_71,rfl,rfl,w71,s71,f71_0⟩
          obtain ⟨w72,s72⟩:=W.frame1 w68 w71 s71
          refine bind_ex rfl ?_
          refine bind_ex rfl ?_
          refine bind_ex rfl ?_
          refine bind_ex rfl ?_
          refine bind_ex rfl ?_
          refine bind_ex rfl ?_
          refine bind_ex rfl ?_
          refine bind_ex rfl ?_
          refine bind_ex rfl ?_
          refine new_k w72 fun H73 w73 s73=>?_
          refine st_k w73 (i:=0) rfl rfl rfl fun H74 w74 s74=>?_
          dsimp only [List.set] at w74 s74
          refine st_k w74 (i:=0) rfl rfl rfl fun H75 w75 s75=>?_
          dsimp only [List.set] at w75 s75
          refine bind_ex (ldSl_of (w75.ld (i:=0) rfl rfl)) ?_
          refine bind_ex (ldI_of (w75.ld (i:=0) rfl rfl)) ?_
          refine bind_ex (ldSl_of (w75.ld (i:=9) rfl rfl)) ?_
          refine bind_ex (ldI_of (w75.ld (i:=9) rfl rfl)) ?_
          obtain ⟨w76,s76⟩:=w75.pick' [2,4,0,1,3,5,6,7,8,9,10,11] 12 rfl rfl rfl
          dsimp only [pk,pks,nth,List.drop] at w76 s76
          have f77:=W.borrow1 (ePair (eInt .i64) (ePair (eInt .i64) (ePair (eInt .i64) (ePair (eInt .i64) (eInt .i64))))) w76 ((CR.flat (ePair_flat (eInt_flat .i64) (ePair_flat (eInt_flat .i64) (ePair_flat (eInt_flat .i64) (ePair_flat (eInt_flat .i64) (eInt_flat .i64))))) f71_0).step (s73.trans (s74.trans (s75.trans s76))))
          obtain ⟨w77,s77⟩:=w76.right1
          have f78:=W.borrow1 (ePair (eInt .i64) (ePair (eInt .i64) (ePair (eInt .i64) (ePair (eInt .i64) (eInt .i64))))) w77 (((CR.flat (ePair_flat (eInt_flat .i64) (ePair_flat (eInt_flat .i64) (ePair_flat (eInt_flat .i64) (ePair_flat (eInt_flat .i64) (eInt_flat .i64))))) f9_0).step (s11.trans (s12.trans (s13.trans (s15.trans (s16.trans (s17.trans (s18.trans (s19.trans (s23.trans (s24.trans (s25.trans (s26.trans (s27.trans (s33.trans (s37.trans (s39.trans (s45.trans (s48.trans (s50.trans (s56.trans (s60.trans (s64.trans (s68.trans (s72.trans (s73.trans (s74.trans (s75.trans s76)))))))))))))))))))))))))))).step s77)
          obtain ⟨w78,s78⟩:=w77.right1
          obtain ⟨r79,e79,hp⟩:=bind_some' hp
          refine call_ex (aI.P rfl rfl ⟨w78,(f77.step s78),f78⟩ e79) ?_
          rintro _ H80 ⟨rfl,w80,s80,_⟩
          obtain ⟨w81,s81⟩:=W.frame1 w77 w80 s80
          obtain ⟨w82,s82⟩:=W.frame1 w76 w81 s81
          refine bind_ex rfl ?_
          refine bif_ex (fun hb=>?_) (fun hb=>?_)
          ·replace hp:=bif_t hb hp
           obtain ⟨w83,s83⟩:=w82.pick' [] 12 rfl rfl rfl
           dsimp only [pk,pks,nth,List.drop] at w83 s83
           obtain rfl:=Option.some.inj hp
           exact ⟨_,_,rfl,rfl,w83,(s0.trans (s1.trans (s3.trans (s6.trans (s10.trans (s11.trans (s12.trans (s13.trans (s15.trans (s16.trans (s17.trans (s18.trans (s19.trans (s23.trans (s24.trans (s25.trans (s26.trans (s27.trans (s33.trans (s37.trans (s39.trans (s45.trans (s48.trans (s50.trans (s56.trans (s60.trans (s64.trans (s68.trans (s72.trans (s73.trans (s74.trans (s75.trans (s76.trans (s82.trans s83)))))))))))))))))))))))))))))))))),trivial⟩
          ·replace hp:=bif_f hb hp
           refine bif_ex (fun hb=>?_) (fun hb=>?_)
           ·replace hp:=bif_t hb hp
            obtain ⟨w84,s84⟩:=w82.pick' [] 12 rfl rfl rfl
            dsimp only [pk,pks,nth,List.drop] at w84 s84
            obtain rfl:=Option.some.inj hp
            exact ⟨_,_,rfl,rfl,w84,(s0.trans (s1.trans (s3.trans (s6.trans (s10.trans (s11.trans (s12.trans (s13.trans (s15.trans (s16.trans (s17.trans (s18.trans (s19.trans (s23.trans (s24.trans (s25.trans (s26.trans (s27.trans (s33.trans (s37.trans (s39.trans (s45.trans (s48.trans (s50.trans (s56.trans (s60.trans (s64.trans (s68.trans (s72.trans (s73.trans (s74.trans (s75.trans (s76.trans (s82.trans s84)))))))))))))))))))))))))))))))))),trivial⟩
           ·replace hp:=bif_f hb hp
            refine bind_ex (ldSl_of (w82.ld (i:=7) rfl rfl)) ?_
            refine bind_ex (ldI_of (w82.ld (i:=7) rfl rfl)) ?_
            obtain ⟨w85,s85⟩:=w82.pick' [4,0,1,2,3,5,6,7,8,9,10,11] 12 rfl rfl rfl
            dsimp only [pk,pks,nth,List.drop] at w85 s85
            have f86:=W.borrow1 (ePair (eInt .i64) (ePair (eInt .i64) (ePair (eInt .i64) (ePair (eInt .i64) (eInt .i64))))) w85 (f60_0.step (s64.trans (s68.trans (s72.trans (s73.trans (s74.trans (s75.trans (s76.trans (s82.trans s85)))))))))
            obtain ⟨w86,s86⟩:=w85.right1
            obtain ⟨r87,e87,hp⟩:=bind_some' hp
            refine call_ex (aL.P hl60_0 ⟨w86,f86⟩ e87) ?_
            rintro _ H88 ⟨rfl,w88,s88,_⟩
            obtain ⟨w89,s89⟩:=W.frame1 w85 w88 s88
            refine bind_ex rfl ?_
            refine bif_ex (fun hb=>?_) (fun hb=>?_)
            ·replace hp:=bif_t hb hp
             obtain ⟨w90,s90⟩:=w89.pick' [] 12 rfl rfl rfl
             dsimp only [pk,pks,nth,List.drop] at w90 s90
             obtain rfl:=Option.some.inj hp
             exact ⟨_,_,rfl,rfl,w90,(s0.trans (s1.trans (s3.trans (s6.trans (s10.trans (s11.trans (s12.trans (s13.trans (s15.trans (s16.trans (s17.trans (s18.trans (s19.trans (s23.trans (s24.trans (s25.trans (s26.trans (s27.trans (s33.trans (s37.trans (s39.trans (s45.trans (s48.trans (s50.trans (s56.trans (s60.trans (s64.trans (s68.trans (s72.trans (s73.trans (s74.trans (s75.trans (s76.trans (s82.trans (s85.trans (s89.trans s90)))))))))))))))))))))))))))))))))))),trivial⟩
            ·replace hp:=bif_f hb hp
             refine bif_ex (fun hb=>?_) (fun hb=>?_)
             ·replace hp:=bif_t hb hp
              obtain ⟨w91,s91⟩:=w89.pick' [] 12 rfl rfl rfl
              dsimp only [pk,pks,nth,List.drop] at w91 s91
              obtain rfl:=Option.some.inj hp
              exact ⟨_,_,rfl,rfl,w91,(s0.trans (s1.trans (s3.trans (s6.trans (s10.trans (s11.trans (s12.trans (s13.trans (s15.trans (s16.trans (s17.trans (s18.trans (s19.trans (s23.trans (s24.trans (s25.trans (s26.trans (s27.trans (s33.trans (s37.trans (s39.trans (s45.trans (s48.trans (s50.trans (s56.trans (s60.trans (s64.trans (s68.trans (s72.trans (s73.trans (s74.trans (s75.trans (s76.trans (s82.trans (s85.trans (s89.trans s91)))))))))))))))))))))))))))))))))))),trivial⟩
             ·replace hp:=bif_f hb hp
              obtain ⟨w92,s92⟩:=w89.pick' [] 12 rfl rfl rfl
              dsimp only [pk,pks,nth,List.drop] at w92 s92
              obtain rfl:=Option.some.inj hp
              exact ⟨_,_,rfl,rfl,w92,(s0.trans (s1.trans (s3.trans (s6.trans (s10.trans (s11.trans (s12.trans (s13.trans (s15.trans (s16.trans (s17.trans (s18.trans (s19.trans (s23.trans (s24.trans (s25.trans (s26.trans (s27.trans (s33.trans (s37.trans (s39.trans (s45.trans (s48.trans (s50.trans (s56.trans (s60.trans (s64.trans (s68.trans (s72.trans (s73.trans (s74.trans (s75.trans (s76.trans (s82.trans (s85.trans (s89.trans s92)))))))))))))))))))))))))))))))))))),trivial⟩
end Go.Proofs.Ytahjhlcmcnemiaa.AE
