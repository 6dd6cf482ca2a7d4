import Derived.Test.YthfinhmkgdmelaaP1
import Derived.Test.YthfinhmkgdmelaaT2
import Derived.Test.YthfinhmkgdmelaaE2
set_option linter.unusedVariables false
set_option linter.unusedSimpArgs false
namespace Go.Proofs.Ythfinhmkgdmelaa.AE
open Go Go.AE Go.Proofs
set_option linter.unusedVariables false
set_option maxHeartbeats 4000000
set_option maxRecDepth 100000
def aU.S29 (H0:Hp) (Ri R0:List Rs)  (C:Sl→Sl→Int→Hp→OA) (pC:List (Int×Int×Int×Int×Int)→List (Int×Int×Int×Int×Int)→Int→Option (Bool)):Prop:=∀ {fm kO:ON} {dR jC:Nat} {fo kP:Cap} {bi dX:List (Int×Int×Int×Int×Int)} {bK:Int},∀ {H:Hp},dR = bi.length→jC = dX.length→(Out H0 Ri H R0 fun R=>ROs (ePair (eInt .i64) (ePair (eInt .i64) (ePair (eInt .i64) (ePair (eInt .i64) (eInt .i64))))) H R ⟨fm,dR,fo⟩ bi∧ROs (ePair (eInt .i64) (ePair (eInt .i64) (ePair (eInt .i64) (ePair (eInt .i64) (eInt .i64))))) H R ⟨kO,jC,kP⟩ dX)→∀ {r:Bool},pC bi dX bK = some r→∃ v H',C ⟨fm,dR,fo⟩ ⟨kO,jC,kP⟩ bK H = some (v,H')∧aU.Q H0 Ri R0  r v H'
def aU.pl29 (F:Nat) :Nat→List (Int×Int×Int×Int×Int)→List (Int×Int×Int×Int×Int)→Int→Option (Bool)
 | 0,_,_,_=>none
 | k + 1,bi,dX,bK=>(bif (decide (bK < (bi.length:Int))) then ((ix bi bK).bind fun n1=>(ix dX bK).bind fun n2=>(bD.p F ((gt bi n1).1) ((gt bi n1).2.1) ((gt bi n1).2.2.1) ((gt bi n1).2.2.2.1) ((gt bi n1).2.2.2.2) ((gt dX n2).1) ((gt dX n2).2.1) ((gt dX n2).2.2.1) ((gt dX n2).2.2.2.1) ((gt dX n2).2.2.2.2)).bind fun r3=>(bif (!r3) then (some false) else (aU.pl29 F k bi dX (IntKind.i64.wrap (bK + 1))))) else (some true))
termination_by structural n=>n
theorem aU.l29_P {F:Nat} {H0:Hp} {Ri R0:List Rs}  :∀ k,aU.S29 H0 Ri R0  (aU.l29 F (bD.tw F)  k) (aU.pl29 F  k):=by
 intro k
 induction k with
 | zero=>
  intro fm kO dR jC fo kP bi dX bK H fV rv h0 r hp
  exact nomatch (show (none:Option (Bool)) = some r from hp)
 | succ k ih=>
  intro fm kO dR jC fo kP bi dX bK H fV rv h0 r hp
  obtain ⟨w0,s0,fp,rx⟩:=h0
  subst fV
  subst rv
  unfold aU.pl29 at hp
  unfold aU.l29
  refine bif_ex (fun hb=>?_) (fun hb=>?_)
  ·replace hp:=bif_t hb hp
   obtain ⟨n1,g1,hp⟩:=bind_some' hp
   obtain ⟨p1,q1,i1,h1,j1⟩:=ROs.ixr fp rfl g1
   refine bind_ex i1 ?_
   obtain ⟨_,_,rfl,rfl,_,_,rfl,rfl,_,_,rfl,rfl,_,_,rfl,rfl,rfl⟩:=h1
   refine bind_ex (ldI_of (j1 0 _ rfl)) ?_
   refine bind_ex (ldI_of (j1 1 _ rfl)) ?_
   refine bind_ex (ldI_of (j1 2 _ rfl)) ?_
   refine bind_ex (ldI_of (j1 3 _ rfl)) ?_
   refine bind_ex (ldI_of (j1 4 _ rfl)) ?_
   obtain ⟨n2,g2,hp⟩:=bind_some' hp
   obtain ⟨p2,q2,i2,h2,j2⟩:=ROs.ixr rx rfl g2
   refine bind_ex i2 ?_
   obtain ⟨_,_,rfl,rfl,_,_,rfl,rfl,_,_,rfl,rfl,_,_,rfl,rfl,rfl⟩:=h2
   refine bind_ex (ldI_of (j2 0 _ rfl)) ?_
   refine bind_ex (ldI_of (j2 1 _ rfl)) ?_
   refine bind_ex (ldI_of (j2 2 _ rfl)) ?_
   refine bind_ex (ldI_of (j2 3 _ rfl)) ?_
   refine bind_ex (ldI_of (j2 4 _ rfl)) ?_
   obtain ⟨r3,e3,hp⟩:=bind_some' hp
   refine call_ex (bD.P ⟨w0,trivial⟩ e3) ?_
   rintro _ H4 ⟨rfl,w4,s4,_⟩
   refine bind_ex rfl ?_
   refine bif_ex (fun hb=>?_) (fun hb=>?_)
   ·replace hp:=bif_t hb hp
    obtain rfl:=Option.some.inj hp
    exact ⟨_,_,rfl,rfl,w4,(s0.trans s4),trivial⟩
   ·replace hp:=bif_f hb hp
    exact ih rfl rfl ⟨w4,(s0.trans s4),(fp.step s4),(rx.step s4)⟩ hp
  ·replace hp:=bif_f hb hp
   obtain rfl:=Option.some.inj hp
   exact ⟨_,_,rfl,rfl,w0,s0,trivial⟩
def aU.p (F:Nat) (ac:List (Int×Int×Int×Int×Int)) (ie:List (Int×Int×Int×Int×Int)):Option (Bool):=(bif ((ac.length:Int) != (ie.length:Int)) then (some false) else (aU.pl29 F F ac ie 0))
theorem aU.P {F:Nat} {au ry:ON} {ah mi:Nat} {av rz:Cap} {ac ie:List (Int×Int×Int×Int×Int)} {H:Hp} {R0:List Rs} (bb:ah = ac.length) (zu:mi = ie.length) (h0:Inn H R0 fun R=>ROs (ePair (eInt .i64) (ePair (eInt .i64) (ePair (eInt .i64) (ePair (eInt .i64) (eInt .i64))))) H R ⟨au,ah,av⟩ ac∧ROs (ePair (eInt .i64) (ePair (eInt .i64) (ePair (eInt .i64) (ePair (eInt .i64) (eInt .i64))))) H R ⟨ry,mi,rz⟩ ie) {r:Bool} (hp:aU.p F ac ie = some r):∃ v H',aU.tw F ⟨au,ah,av⟩ ⟨ry,mi,rz⟩ H = some (v,H')∧aU.Q H R0 R0  r v H':=by
 obtain ⟨w0,aL,zv⟩:=h0
 subst bb
 subst zu
 unfold aU.p at hp
 unfold aU.tw aU.twX
 have s0:=w0.rf
 refine bif_ex (fun hb=>?_) (fun hb=>?_)
 ·replace hp:=bif_t hb hp
  obtain rfl:=Option.some.inj hp
  exact ⟨_,_,rfl,rfl,w0,s0,trivial⟩
 ·replace hp:=bif_f hb hp
  exact aU.l29_P F rfl rfl ⟨w0,s0,aL,zv⟩ hp
def bx.Q (H0:Hp) (Ri R0:List Rs)  (r:Bool) (v:AV) (H':Hp):Prop:=v = (.bool r)∧Out H0 Ri H' (R0) fun R=>True
def bx.p (F:Nat) (ac:List (Int×Int×Int×Int×Int)) (ab:Int) (dq:List (Int×Int×Int×Int×Int)) (bf:Int):Option (Bool):=(aU.p F ac dq).bind fun r3=>(bif (!r3) then (some false) else ((bif (ab != bf) then (some false) else (some true))))
theorem bx.P {F:Nat} {au jt:ON} {ah gC:Nat} {av ju:Cap} {ac dq:List (Int×Int×Int×Int×Int)} {ab bf:Int} {H:Hp} {R0:List Rs} (bb:ah = ac.length) (l_:gC = dq.length) (h0:Inn H R0 fun R=>ROs (ePair (eInt .i64) (ePair (eInt .i64) (ePair (eInt .i64) (ePair (eInt .i64) (eInt .i64))))) H R ⟨au,ah,av⟩ ac∧ROs (ePair (eInt .i64) (ePair (eInt .i64) (ePair (eInt .i64) (ePair (eInt .i64) (eInt .i64))))) H R ⟨jt,gC,ju⟩ dq) {r:Bool} (hp:bx.p F ac ab dq bf = some r):∃ v H',bx.tw F ⟨au,ah,av⟩ ab ⟨jt,gC,ju⟩ bf H = some (v,H')∧bx.Q H R0 R0  r v H':=by
 obtain ⟨w0,aL,ma⟩:=h0
 subst bb
 subst l_
 unfold bx.p at hp
 unfold bx.tw bx.twX
 have s0:=w0.rf
 refine new_k w0 fun H1 w1 s1=>?_
 refine new_k w1 fun H2 w2 s2=>?_
 refine bind_ex (ldSl_of (w2.ld (i:=1) rfl rfl)) ?_
 refine bind_ex (ldSl_of (w2.ld (i:=0) rfl rfl)) ?_
 obtain ⟨r3,e3,hp⟩:=bind_some' hp
 refine call_ex (aU.P rfl rfl ⟨w2,(aL.step (s1.trans s2)),(ma.step (s1.trans s2))⟩ e3) ?_
 rintro _ H4 ⟨rfl,w4,s4,_⟩
 refine bind_ex rfl ?_
 refine bif_ex (fun hb=>?_) (fun hb=>?_)
 ·replace hp:=bif_t hb hp
  obtain ⟨w5,s5⟩:=w4.pick' [] 2 rfl rfl rfl
  dsimp only [pk,pks,nth,List.drop] at w5 s5
  obtain rfl:=Option.some.inj hp
  exact ⟨_,_,rfl,rfl,w5,(s0.trans (s1.trans (s2.trans (s4.trans s5)))),trivial⟩
 ·replace hp:=bif_f hb hp
  refine bind_ex (ldI_of (w4.ld (i:=1) rfl rfl)) ?_
  refine bind_ex (ldI_of (w4.ld (i:=0) rfl rfl)) ?_
  refine bif_ex (fun hb=>?_) (fun hb=>?_)
  ·replace hp:=bif_t hb hp
   obtain ⟨w6,s6⟩:=w4.pick' [] 2 rfl rfl rfl
   dsimp only [pk,pks,nth,List.drop] at w6 s6
   obtain rfl:=Option.some.inj hp
   exact ⟨_,_,rfl,rfl,w6,(s0.trans (s1.trans (s2.trans (s4.trans s6)))),trivial⟩
  ·replace hp:=bif_f hb hp
   obtain ⟨w7,s7⟩:=w4.pick' [] 2 rfl rfl rfl
   dsimp only [pk,pks,nth,List.drop] at w7 s7
   obtain rfl:=Option.some.inj hp
   exact ⟨_,_,rfl,rfl,w7,(s0.trans (s1.trans (s2.trans (s4.trans s7)))),trivial⟩
def aV.Q (H0:Hp) (Ri R0:List Rs) (au:ON) (ah:Nat) (av:Cap) (dU:Bool) (dV dW:List AV) (r:Int×(List (Int×Int×Int×Int×Int))) (v:AV) (H':Hp):Prop:=∃ jA:List AV,v = (.int .i64 r.1)∧ah = (r.2).length∧Out H0 Ri H' (Rs.ow dU ⟨au,ah,av⟩ (ePair (eInt .i64) (ePair (eInt .i64) (ePair (eInt .i64) (ePair (eInt .i64) (eInt .i64))))).z dV jA dW :: R0) fun R=>CR (ePair (eInt .i64) (ePair (eInt .i64) (ePair (eInt .i64) (ePair (eInt .i64) (eInt .i64))))) H' R jA (r.2)
def aV.S13 (H0:Hp) (Ri R0:List Rs) (dH:ON) (da:Nat) (dI:Cap) (fI:Bool) (fJ fK:List AV) (C:Sl→Int→Int→Hp→OA) (pC:List (Int×Int×Int×Int×Int)→Int→Int→Option (Int×(List (Int×Int×Int×Int×Int)))):Prop:=∀ {bi:List (Int×Int×Int×Int×Int)} {kQ:List AV} {aN bo:Int},∀ {H:Hp},da = bi.length→(Out H0 Ri H (Rs.ow fI ⟨dH,da,dI⟩ (ePair (eInt .i64) (ePair (eInt .i64) (ePair (eInt .i64) (ePair (eInt .i64) (eInt .i64))))).z fJ kQ fK :: R0) fun R=>CR (ePair (eInt .i64) (ePair (eInt .i64) (ePair (eInt .i64) (ePair (eInt .i64) (eInt .i64))))) H R kQ bi)→∀ {r:Int×(List (Int×Int×Int×Int×Int))},pC bi aN bo = some r→∃ v H',C ⟨dH,da,dI⟩ aN bo H = some (v,H')∧aV.Q H0 Ri R0 dH da dI fI fJ fK r v H'
def aV.pl13 (F:Nat) :Nat→List (Int×Int×Int×Int×Int)→Int→Int→Option (Int×(List (Int×Int×Int×Int×Int)))
 | 0,_,_,_=>none
 | k + 1,bi,aN,bo=>(bif (decide (bo < (bi.length:Int))) then ((ix bi bo).bind fun n1=>(some (bi.set n1 (aN,(gt bi n1).2.1,(gt bi n1).2.2.1,(gt bi n1).2.2.2.1,(gt bi n1).2.2.2.2))).bind fun l2=>(ix l2 bo).bind fun n4=>(some (l2.set n4 ((gt l2 n4).1,(IntKind.i64.wrap (aN + 1)),(gt l2 n4).2.2.1,(gt l2 n4).2.2.2.1,(gt l2 n4).2.2.2.2))).bind fun l5=>(ix l5 bo).bind fun n7=>(some (l5.set n7 ((gt l5 n7).1,(gt l5 n7).2.1,(IntKind.i64.wrap ((IntKind.i64.wrap (aN + 1)) + 1)),(gt l5 n7).2.2.2.1,(gt l5 n7).2.2.2.2))).bind fun l8=>(ix l8 bo).bind fun n10=>(some (l8.set n10 ((gt l8 n10).1,(gt l8 n10).2.1,(gt l8 n10).2.2.1,(IntKind.i64.wrap ((IntKind.i64.wrap ((IntKind.i64.wrap (aN + 1)) + 1)) + 1)),(gt l8 n10).2.2.2.2))).bind fun l11=>(ix l11 bo).bind fun n13=>(some (l11.set n13 ((gt l11 n13).1,(gt l11 n13).2.1,(gt l11 n13).2.2.1,(gt l11 n13).2.2.2.1,(IntKind.i64.wrap ((IntKind.i64.wrap ((IntKind.i64.wrap ((IntKind.i64.wrap (aN + 1)) + 1)) + 1)) + 1))))).bind fun l14=>aV.pl13 F k l14 (IntKind.i64.wrap ((IntKind.i64.wrap ((IntKind.i64.wrap ((IntKind.i64.wrap ((IntKind.i64.wrap (aN + 1)) + 1)) + 1)) + 1)) + 1)) (IntKind.i64.wrap (bo + 1))) else (some (aN,bi)))
termination_by structural n=>n
theorem aV.l13_P {F:Nat} {H0:Hp} {Ri R0:List Rs} {dH:ON} {da:Nat} {dI:Cap} {fI:Bool} {fJ fK:List AV} :∀ k,aV.S13 H0 Ri R0 dH da dI fI fJ fK (aV.l13 F   k) (aV.pl13 F  k):=by
 intro k
 induction k with
 | zero=>
  intro bi kQ aN bo H fV h0 r hp
  exact nomatch (show (none:Option (Int×(List (Int×Int×Int×Int×Int)))) = some r from hp)
 | succ k ih=>
  intro bi kQ aN bo H fV h0 r hp
  obtain ⟨w0,s0,fp⟩:=h0
  subst fV
  unfold aV.pl13 at hp
  unfold aV.l13
  refine bif_ex (fun hb=>?_) (fun hb=>?_)
  ·replace hp:=bif_t hb hp
   obtain ⟨n1,g1,hp⟩:=bind_some' hp
   obtain ⟨p1,q1,i1,h1,j1⟩:=W.ixo (E:=(ePair (eInt .i64) (ePair (eInt .i64) (ePair (eInt .i64) (ePair (eInt .i64) (eInt .i64)))))) w0 (i:=0) rfl rfl fp g1
   refine bind_ex i1 ?_
   obtain ⟨l2,e2,hp⟩:=bind_some' hp
   refine sto_k (ePair (eInt .i64) (ePair (eInt .i64) (ePair (eInt .i64) (ePair (eInt .i64) (eInt .i64))))) w0 (i:=0) (j:=0) (p:=p1) rfl rfl fp g1 i1 e2 rfl rfl (fun _ h=>by obtain ⟨_,_,rfl,rfl,_,_,rfl,rfl,_,_,rfl,rfl,_,_,rfl,rfl,rfl⟩:=h; exact ⟨[_],_,rfl,rfl,[_],_,rfl,rfl,[_],_,rfl,rfl,[_],_,rfl,rfl,rfl⟩) fun H3 k3 w3 s3 c3=>?_
   dsimp only [List.set] at w3 s3 c3
   obtain ⟨n4,g4,hp⟩:=bind_some' hp
   obtain ⟨p4,q4,i4,h4,j4⟩:=W.ixo (E:=(ePair (eInt .i64) (ePair (eInt .i64) (ePair (eInt .i64) (ePair (eInt .i64) (eInt .i64)))))) w3 (i:=0) rfl rfl c3 g4
   refine bind_ex i4 ?_
   obtain ⟨l5,e5,hp⟩:=bind_some' hp
   refine sto_k (ePair (eInt .i64) (ePair (eInt .i64) (ePair (eInt .i64) (ePair (eInt .i64) (eInt .i64))))) w3 (i:=0) (j:=1) (p:=p4) rfl rfl c3 g4 i4 e5 rfl rfl (fun _ h=>by obtain ⟨_,_,rfl,rfl,_,_,rfl,rfl,_,_,rfl,rfl,_,_,rfl,rfl,rfl⟩:=h; exact ⟨[_],_,rfl,rfl,[_],_,rfl,rfl,[_],_,rfl,rfl,[_],_,rfl,rfl,rfl⟩) fun H6 k6 w6 s6 c6=>?_
   dsimp only [List.set] at w6 s6 c6
   obtain ⟨n7,g7,hp⟩:=bind_some' hp
   obtain ⟨p7,q7,i7,h7,j7⟩:=W.ixo (E:=(ePair (eInt .i64) (ePair (eInt .i64) (ePair (eInt .i64) (ePair (eInt .i64) (eInt .i64)))))) w6 (i:=0) rfl rfl c6 g7
   refine bind_ex i7 ?_
   obtain ⟨l8,e8,hp⟩:=bind_some' hp
   refine sto_k (ePair (eInt .i64) (ePair (eInt .i64) (ePair (eInt .i64) (ePair (eInt .i64) (eInt .i64))))) w6 (i:=0) (j:=2) (p:=p7) rfl rfl c6 g7 i7 e8 rfl rfl (fun _ h=>by obtain ⟨_,_,rfl,rfl,_,_,rfl,rfl,_,_,rfl,rfl,_,_,rfl,rfl,rfl⟩:=h; exact ⟨[_],_,rfl,rfl,[_],_,rfl,rfl,[_],_,rfl,rfl,[_],_,rfl,rfl,rfl⟩) fun H9 k9 w9 s9 c9=>?_
   dsimp only [List.set] at w9 s9 c9
   obtain ⟨n10,g10,hp⟩:=bind_some' hp
   obtain ⟨p10,q10,i10,h10,j10⟩:=W.ixo (E:=(ePair (eInt .i64) (ePair (eInt .i64) (ePair (eInt .i64) (ePair (eInt .i64) (eInt .i64)))))) w9 (i:=0) rfl rfl c9 g10
   refine bind_ex i10 ?_
   obtain ⟨l11,e11,hp⟩:=bind_some' hp
   refine sto_k (ePair (eInt .i64) (ePair (eInt .i64) (ePair (eInt .i64) (ePair (eInt .i64) (eInt .i64))))) w9 (i:=0) (j:=3) (p:=p10) rfl rfl c9 g10 i10 e11 rfl rfl (fun _ h=>by obtain ⟨_,_,rfl,rfl,_,_,rfl,rfl,_,_,rfl,rfl,_,_,rfl,rfl,rfl⟩:=h; exact ⟨[_],_,rfl,rfl,[_],_,rfl,rfl,[_],_,rfl,rfl,[_],_,rfl,rfl,rfl⟩) fun H12 k12 w12 s12 c12=>?_
   dsimp only [List.set] at w12 s12 c12
   obtain ⟨n13,g13,hp⟩:=bind_some' hp
   obtain ⟨p13,q13,i13,h13,j13⟩:=W.ixo (E:=(ePair (eInt .i64) (ePair (eInt .i64) (ePair (eInt .i64) (ePair (eInt .i64) (eInt .i64)))))) w12 (i:=0) rfl rfl c12 g13
   refine bind_ex i13 ?_
   obtain ⟨l14,e14,hp⟩:=bind_some' hp
   refine sto_k (ePair (eInt .i64) (ePair (eInt .i64) (ePair (eInt .i64) (ePair (eInt .i64) (eInt .i64))))) w12 (i:=0) (j:=4) (p:=p13) rfl rfl c12 g13 i13 e14 rfl rfl (fun _ h=>by obtain ⟨_,_,rfl,rfl,_,_,rfl,rfl,_,_,rfl,rfl,_,_,rfl,rfl,rfl⟩:=h; exact ⟨[_],_,rfl,rfl,[_],_,rfl,rfl,[_],_,rfl,rfl,[_],_,rfl,rfl,rfl⟩) fun H15 k15 w15 s15 c15=>?_
   dsimp only [List.set] at w15 s15 c15
   exact ih (((((st_len e2).symm.trans (st_len e5).symm).trans (st_len e8).symm).trans (st_len e11).symm).trans (st_len e14).symm) ⟨w15,(s0.trans (s3.trans (s6.trans (s9.trans (s12.trans s15))))),c15⟩ hp
  ·replace hp:=bif_f hb hp
   obtain rfl:=Option.some.inj hp
   exact ⟨_,_,rfl,_,rfl,rfl,w0,s0,fp⟩
def aV.p (F:Nat) (ac:List (Int×Int×Int×Int×Int)) (ae:Int):Option (Int×(List (Int×Int×Int×Int×Int))):=aV.pl13 F F ac ae 0
theorem aV.P {F:Nat} {au:ON} {ah:Nat} {av:Cap} {ac:List (Int×Int×Int×Int×Int)} {dU:Bool} {dV dW gG:List AV} {ae:Int} {H:Hp} {R0:List Rs} (bb:ah = ac.length) (h0:Inn H (Rs.ow dU ⟨au,ah,av⟩ (ePair (eInt .i64) (ePair (eInt .i64) (ePair (eInt .i64) (ePair (eInt .i64) (eInt .i64))))).z dV gG dW :: R0) fun R=>CR (ePair (eInt .i64) (ePair (eInt .i64) (ePair (eInt .i64) (ePair (eInt .i64) (eInt .i64))))) H R gG ac) {r:Int×(List (Int×Int×Int×Int×Int))} (hp:aV.p F ac ae = some r):∃ v H',aV.tw F ⟨au,ah,av⟩ ae H = some (v,H')∧aV.Q H (Rs.ow dU ⟨au,ah,av⟩ (ePair (eInt .i64) (ePair (eInt .i64) (ePair (eInt .i64) (ePair (eInt .i64) (eInt .i64))))).z dV gG dW :: R0) R0 au ah av dU dV dW r v H':=by
 obtain ⟨w0,aL⟩:=h0
 subst bb
 unfold aV.p at hp
 unfold aV.tw aV.twX
 have s0:=w0.rf
 exact aV.l13_P F rfl ⟨w0,s0,aL⟩ hp
def bz.Q (H0:Hp) (Ri R0:List Rs) (au:ON) (ah:Nat) (av:Cap) (dU:Bool) (dV dW:List AV) (r:Int×(List (Int×Int×Int×Int×Int))) (v:AV) (H':Hp):Prop:=∃ jA:List AV,v = (.int .i64 r.1)∧ah = (r.2).length∧Out H0 Ri H' (Rs.ow dU ⟨au,ah,av⟩ (ePair (eInt .i64) (ePair (eInt .i64) (ePair (eInt .i64) (ePair (eInt .i64) (eInt .i64))))).z dV jA dW :: R0) fun R=>CR (ePair (eInt .i64) (ePair (eInt .i64) (ePair (eInt .i64) (ePair (eInt .i64) (eInt .i64))))) H' R jA (r.2)
def bz.p (F:Nat) (ac:List (Int×Int×Int×Int×Int)) (af:Int):Option (Int×(List (Int×Int×Int×Int×Int))):=(aV.p F ac af).bind fun r3=>some (r3.1,r3.2)
theorem bz.P {F:Nat} {au:ON} {ah:Nat} {av:Cap} {ac:List (Int×Int×Int×Int×Int)} {dU:Bool} {dV dW gG:List AV} {ab af:Int} {H:Hp} {R0:List Rs} (bb:ah = ac.length) (h0:Inn H (Rs.ow dU ⟨au,ah,av⟩ (ePair (eInt .i64) (ePair (eInt .i64) (ePair (eInt .i64) (ePair (eInt .i64) (eInt .i64))))).z dV gG dW :: R0) fun R=>CR (ePair (eInt .i64) (ePair (eInt .i64) (ePair (eInt .i64) (ePair (eInt .i64) (eInt .i64))))) H R gG ac) {r:Int×(List (Int×Int×Int×Int×Int))} (hp:bz.p F ac af = some r):∃ v H',bz.tw F ⟨au,ah,av⟩ ab af H = some (v,H')∧bz.Q H (Rs.ow dU ⟨au,ah,av⟩ (ePair (eInt .i64) (ePair (eInt .i64) (ePair (eInt .i64) (ePair (eInt .i64) (eInt .i64))))).z dV gG dW :: R0) R0 au ah av dU dV dW r v H':=by
 obtain ⟨w0,aL⟩:=h0
 subst bb
 unfold bz.p at hp
 unfold bz.tw bz.twX
 have s0:=w0.rf
 refine new_k w0 fun H1 w1 s1=>?_
 refine bind_ex (ldSl_of (w1.ld (i:=0) rfl rfl)) ?_
 obtain ⟨w2,s2⟩:=w1.pick' [1,0] 2 rfl rfl rfl
 dsimp only [pk,pks,nth,List.drop] at w2 s2
 obtain ⟨r3,e3,hp⟩:=bind_some' hp
 refine call_ex (aV.P rfl ⟨w2,(aL.step (s1.trans s2))⟩ e3) ?_
 rintro _ H4 ⟨KE,rfl,hl4_0,w4,s4,f4_0⟩
 refine bind_ex rfl ?_
 obtain ⟨w5,s5⟩:=w4.pick' [0] 2 rfl rfl rfl
 dsimp only [pk,pks,nth,List.drop] at w5 s5
 obtain rfl:=Option.some.inj hp
 exact ⟨_,_,rfl,_,rfl,hl4_0,w5,(s0.trans (s1.trans (s2.trans (s4.trans s5)))),(f4_0.step s5)⟩
def aW.Q (H0:Hp) (Ri R0:List Rs) (au:ON) (ah:Nat) (av:Cap) (dU:Bool) (dV dW:List AV) (r:Int×List Int) (v:AV) (H':Hp):Prop:=∃ jA:List AV,v = (.int .i64 r.1)∧ah = (r.2).length∧Out H0 Ri H' (Rs.ow dU ⟨au,ah,av⟩ (eInt .i64).z dV jA dW :: R0) fun R=>CR (eInt .i64) H' R jA (r.2)
def aW.S13 (H0:Hp) (Ri R0:List Rs) (dH:ON) (da:Nat) (dI:Cap) (fI:Bool) (fJ fK:List AV) (C:Sl→Int→Int→Hp→OA) (pC:List Int→Int→Int→Option (Int×List Int)):Prop:=∀ {bi:List Int} {kQ:List AV} {aN bo:Int},∀ {H:Hp},da = bi.length→(Out H0 Ri H (Rs.ow fI ⟨dH,da,dI⟩ (eInt .i64).z fJ kQ fK :: R0) fun R=>CR (eInt .i64) H R kQ bi)→∀ {r:Int×List Int},pC bi aN bo = some r→∃ v H',C ⟨dH,da,dI⟩ aN bo H = some (v,H')∧aW.Q H0 Ri R0 dH da dI fI fJ fK r v H'
def aW.pl13 (F:Nat) :Nat→List Int→Int→Int→Option (Int×List Int)
 | 0,_,_,_=>none
 | k + 1,bi,aN,bo=>(bif (decide (bo < (bi.length:Int))) then ((ix bi bo).bind fun n1=>(some (bi.set n1 aN)).bind fun l2=>aW.pl13 F k l2 (IntKind.i64.wrap (aN + 1)) (IntKind.i64.wrap (bo + 1))) else (some (aN,bi)))
termination_by structural n=>n
theorem aW.l13_P {F:Nat} {H0:Hp} {Ri R0:List Rs} {dH:ON} {da:Nat} {dI:Cap} {fI:Bool} {fJ fK:List AV} :∀ k,aW.S13 H0 Ri R0 dH da dI fI fJ fK (aW.l13 F   k) (aW.pl13 F  k):=by
 intro k
 induction k with
 | zero=>
  intro bi kQ aN bo H fV h0 r hp
  exact nomatch (show (none:Option (Int×List Int)) = some r from hp)
 | succ k ih=>
  intro bi kQ aN bo H fV h0 r hp
  obtain ⟨w0,s0,fp⟩:=h0
  subst fV
  unfold aW.pl13 at hp
  unfold aW.l13
  refine bif_ex (fun hb=>?_) (fun hb=>?_)
  ·replace hp:=bif_t hb hp
   obtain ⟨n1,g1,hp⟩:=bind_some' hp
   obtain ⟨p1,q1,i1,h1,j1⟩:=W.ixo (E:=(eInt .i64)) w0 (i:=0) rfl rfl fp g1
   refine bind_ex i1 ?_
   obtain ⟨l2,e2,hp⟩:=bind_some' hp
   refine sto_k (eInt .i64) w0 (i:=0) (j:=0) (p:=p1) rfl rfl fp g1 i1 e2 rfl rfl (fun _ h=>by have h:_ = [_]:=h; subst h; exact rfl) fun H3 k3 w3 s3 c3=>?_
   dsimp only [List.set] at w3 s3 c3
   exact ih ((st_len e2).symm) ⟨w3,(s0.trans s3),c3⟩ hp
  ·replace hp:=bif_f hb hp
   obtain rfl:=Option.some.inj hp
   exact ⟨_,_,rfl,_,rfl,rfl,w0,s0,fp⟩
def aW.p (F:Nat) (ac:List Int) (ae:Int):Option (Int×List Int):=aW.pl13 F F ac ae 0
theorem aW.P {F:Nat} {au:ON} {ah:Nat} {av:Cap} {ac:List Int} {dU:Bool} {dV dW gG:List AV} {ae:Int} {H:Hp} {R0:List Rs} (bb:ah = ac.length) (h0:Inn H (Rs.ow dU ⟨au,ah,av⟩ (eInt .i64).z dV gG dW :: R0) fun R=>CR (eInt .i64) H R gG ac) {r:Int×List Int} (hp:aW.p F ac ae = some r):∃ v H',aW.tw F ⟨au,ah,av⟩ ae H = some (v,H')∧aW.Q H (Rs.ow dU ⟨au,ah,av⟩ (eInt .i64).z dV gG dW :: R0) R0 au ah av dU dV dW r v H':=by
 obtain ⟨w0,aL⟩:=h0
 subst bb
 unfold aW.p at hp
 unfold aW.tw aW.twX
 have s0:=w0.rf
 exact aW.l13_P F rfl ⟨w0,s0,aL⟩ hp
def aP.Q (H0:Hp) (Ri R0:List Rs)  (r:Int) (v:AV) (H':Hp):Prop:=v = (.int .i64 r)∧Out H0 Ri H' (R0) fun R=>True
def aP.S13 (H0:Hp) (Ri R0:List Rs)  (C:Sl→Int→Int→Hp→OA) (pC:List Int→Int→Int→Option (Int)):Prop:=∀ {fm:ON} {dR:Nat} {fo:Cap} {bi:List Int} {aN bo:Int},∀ {H:Hp},dR = bi.length→(Out H0 Ri H R0 fun R=>ROs (eInt .i64) H R ⟨fm,dR,fo⟩ bi)→∀ {r:Int},pC bi aN bo = some r→∃ v H',C ⟨fm,dR,fo⟩ aN bo H = some (v,H')∧aP.Q H0 Ri R0  r v H'
def aP.pl13 (F:Nat) :Nat→List Int→Int→Int→Option (Int)
 | 0,_,_,_=>none
 | k + 1,bi,aN,bo=>(bif (decide (bo < (bi.length:Int))) then ((ix bi bo).bind fun n1=>(bif ((gt bi n1) != aN) then (some (-1)) else (aP.pl13 F k bi (IntKind.i64.wrap (aN + 1)) (IntKind.i64.wrap (bo + 1))))) else (some aN))
termination_by structural n=>n
theorem aP.l13_P {F:Nat} {H0:Hp} {Ri R0:List Rs}  :∀ k,aP.S13 H0 Ri R0  (aP.l13 F   k) (aP.pl13 F  k):=by
 intro k
 induction k with
 | zero=>
  intro fm dR fo bi aN bo H fV h0 r hp
  exact nomatch (show (none:Option (Int)) = some r from hp)
 | succ k ih=>
  intro fm dR fo bi aN bo H fV h0 r hp
  obtain ⟨w0,s0,fp⟩:=h0
  subst fV
  unfold aP.pl13 at hp
  unfold aP.l13
  refine bif_ex (fun hb=>?_) (fun hb=>?_)
  ·replace hp:=bif_t hb hp
   obtain ⟨n1,g1,hp⟩:=bind_some' hp
   obtain ⟨p1,q1,i1,h1,j1⟩:=ROs.ixr fp rfl g1
   refine bind_ex i1 ?_
   have h1:_ = [_]:=h1
   subst h1
   refine bind_ex (ldI_of (j1 0 _ rfl)) ?_
   refine bif_ex (fun hb=>?_) (fun hb=>?_)
   ·replace hp:=bif_t hb hp
    obtain rfl:=Option.some.inj hp
    exact ⟨_,_,rfl,rfl,w0,s0,trivial⟩
   ·replace hp:=bif_f hb hp
    exact ih rfl ⟨w0,s0,fp⟩ hp
  ·replace hp:=bif_f hb hp
   obtain rfl:=Option.some.inj hp
   exact ⟨_,_,rfl,rfl,w0,s0,trivial⟩
def aP.p (F:Nat) (ac:List Int) (ae:Int):Option (Int):=aP.pl13 F F ac ae 0
theorem aP.P {F:Nat} {au:ON} {ah:Nat} {av:Cap} {ac:List Int} {ae:Int} {H:Hp} {R0:List Rs} (bb:ah = ac.length) (h0:Inn H R0 fun R=>ROs (eInt .i64) H R ⟨au,ah,av⟩ ac) {r:Int} (hp:aP.p F ac ae = some r):∃ v H',aP.tw F ⟨au,ah,av⟩ ae H = some (v,H')∧aP.Q H R0 R0  r v H':=by
 obtain ⟨w0,aL⟩:=h0
 subst bb
 unfold aP.p at hp
 unfold aP.tw aP.twX
 have s0:=w0.rf
 exact aP.l13_P F rfl ⟨w0,s0,aL⟩ hp
def bL.Q (H0:Hp) (Ri R0:List Rs)  (r:Bool) (v:AV) (H':Hp):Prop:=v = (.bool r)∧Out H0 Ri H' (R0) fun R=>True
def bL.p (F:Nat) (ac:List (Int×Int×Int×Int×Int)) (ab:Int) (af:Int):Option (Bool):=(bv.p F ac 1048576).bind fun r2=>(bif (decide (r2 < 0)) then (some true) else ((bp.p F ac ab).bind fun r5=>(ai.p F r5.1 r5.2 af).bind fun r8=>(bp.p F ac ab).bind fun r11=>(az.p F r11.1 r11.2 af).bind fun r18=>(aO.p F r18.1 r8.1).bind fun r24=>(bif (!r24) then (some false) else ((bif (r18.2 != r8.2) then (some false) else ((bp.p F ac ab).bind fun r30=>(bx.p F r11.1 r11.2 r30.1 r30.2).bind fun r36=>(bif (!r36) then (some false) else ((bz.p F r11.1 1).bind fun r41=>(bif (decide (r41.1 < 0)) then (some false) else ((aO.p F r18.1 r8.1).bind fun r47=>(bif (!r47) then (some false) else ((bif (r18.2 != r8.2) then (some false) else ((aW.p F r18.1 1).bind fun r53=>(aP.p F r53.2 1).bind fun r56=>(bif (decide (r56 < 0)) then (some false) else ((bif (r56 != r53.1) then (some false) else ((bp.p F ac ab).bind fun r61=>(az.p F r61.1 r61.2 af).bind fun r64=>(aO.p F r64.1 r8.1).bind fun r70=>(bif (!r70) then (some false) else ((bif (r64.2 != r8.2) then (some false) else ((aP.p F r53.2 1).bind fun r78=>(bif (decide (r78 < 0)) then (some false) else ((bif (r78 != r53.1) then (some false) else (some true))))))))))))))))))))))))))
theorem bL.P {F:Nat} {au:ON} {ah:Nat} {av:Cap} {ac:List (Int×Int×Int×Int×Int)} {ab af:Int} {H:Hp} {R0:List Rs} (bb:ah = ac.length) (h0:Inn H R0 fun R=>ROs (ePair (eInt .i64) (ePair (eInt .i64) (ePair (eInt .i64) (ePair (eInt .i64) (eInt .i64))))) H R ⟨au,ah,av⟩ ac) {r:Bool} (hp:bL.p F ac ab af = some r):∃ v H',bL.tw F ⟨au,ah,av⟩ ab af H = some (v,H')∧bL.Q H R0 R0  r v H':=by
 obtain ⟨w0,aL⟩:=h0
 subst bb
 unfold bL.p at hp
 unfold bL.tw bL.twX
 have s0:=w0.rf
 refine new_k w0 fun H1 w1 s1=>?_
 refine bind_ex (ldSl_of (w1.ld (i:=0) rfl rfl)) ?_
 refine bind_ex (ldI_of (w1.ld (i:=0) rfl rfl)) ?_
 obtain ⟨r2,e2,hp⟩:=bind_some' hp
 refine call_ex (bv.P rfl ⟨w1,(aL.step s1)⟩ e2) ?_
 rintro _ H3 ⟨rfl,w3,s3,_⟩
 refine bind_ex rfl ?_
 refine bif_ex (fun hb=>?_) (fun hb=>?_)
 ·replace hp:=bif_t hb hp
  obtain ⟨w4,s4⟩:=w3.pick' [] 1 rfl rfl rfl
  dsimp only [pk,pks,nth,List.drop] at w4 s4
  obtain rfl:=Option.some.inj hp
  exact ⟨_,_,rfl,rfl,w4,(s0.trans (s1.trans (s3.trans s4))),trivial⟩
 ·replace hp:=bif_f hb hp
  refine bind_ex (ldSl_of (w3.ld (i:=0) rfl rfl)) ?_
  refine bind_ex (ldI_of (w3.ld (i:=0) rfl rfl)) ?_
  obtain ⟨r5,e5,hp⟩:=bind_some' hp
  refine call_ex (bp.P rfl ⟨w3,(aL.step (s1.trans s3))⟩ e5) ?_
  rintro _ H6 ⟨o0a_6,o0n_6,o0c_6,o0k_6,rfl,rfl,w6,s6,f6_0⟩
  refine bind_ex rfl ?_
  refine bind_ex rfl ?_
  refine bind_ex rfl ?_
  refine bind_ex rfl ?_
  refine bind_ex rfl ?_
  have f7:=W.borrow1 (ePair (eInt .i64) (ePair (eInt .i64) (ePair (eInt .i64) (ePair (eInt .i64) (eInt .i64))))) w6 f6_0
  obtain ⟨w7,s7⟩:=w6.right1
  obtain ⟨r8,e8,hp⟩:=bind_some' hp
  refine call_ex (ai.P rfl ⟨w7,f7⟩ e8) ?_
  rintro _ H9 ⟨o0a_9,o0n_9,o0c_9,o0k_9,rfl,rfl,w9,s9,f9_0⟩
  obtain ⟨w10,s10⟩:=W.frame1 w6 w9 s9
  refine bind_ex rfl ?_
  refine bind_ex rfl ?_
  refine bind_ex rfl ?_
  refine bind_ex rfl ?_
  refine bind_ex rfl ?_
  refine bind_ex (ldSl_of (w10.ld (i:=2) rfl rfl)) ?_
  refine bind_ex (ldI_of (w10.ld (i:=2) rfl rfl)) ?_
  obtain ⟨r11,e11,hp⟩:=bind_some' hp
  refine call_ex (bp.P rfl ⟨w10,(aL.step (s1.trans (s3.trans (s6.trans s10))))⟩ e11) ?_
  rintro _ H12 ⟨o0a_12,o0n_12,o0c_12,o0k_12,rfl,rfl,w12,s12,f12_0⟩
  refine bind_ex rfl ?_
  refine bind_ex rfl ?_
  refine bind_ex rfl ?_
  refine bind_ex rfl ?_
  refine bind_ex rfl ?_
  refine new_k w12 fun H13 w13 s13=>?_
  refine st_k w13 (i:=0) rfl rfl rfl fun H14 w14 s14=>?_
  dsimp only [List.set] at w14 s14
  refine st_k w14 (i:=0) rfl rfl rfl fun H15 w15 s15=>?_
  dsimp only [List.set] at w15 s15
  refine bind_ex (ldSl_of (w15.ld (i:=0) rfl rfl)) ?_
  refine bind_ex (ldI_of (w15.ld (i:=0) rfl rfl)) ?_
  obtain ⟨w16,s16⟩:=w15.pick' [1,0,2,3,4] 5 rfl rfl rfl
  dsimp only [pk,pks,nth,List.drop] at w16 s16
  have f17:=W.borrow1 (ePair (eInt .i64) (ePair (eInt .i64) (ePair (eInt .i64) (ePair (eInt .i64) (eInt .i64))))) w16 (f12_0.step (s13.trans (s14.trans (s15.trans s16))))
  obtain ⟨w17,s17⟩:=w16.right1
  obtain ⟨r18,e18,hp⟩:=bind_some' hp
  refine call_ex (az.P rfl ⟨w17,f17⟩ e18) ?_
  rintro _ H19 ⟨o0a_19,o0n_19,o0c_19,o0k_19,rfl,rfl,w19,s19,f19_0⟩
  obtain ⟨w20,s20⟩:=W.frame1 w16 w19 s19
  refine bind_ex rfl ?_
  refine bind_ex rfl ?_
  refine bind_ex rfl ?_
  refine bind_ex rfl ?_
  refine bind_ex rfl ?_
  obtain ⟨w21,s21⟩:=w20.pick' [1,4,0,2,3,5] 6 rfl rfl rfl
  dsimp only [pk,pks,nth,List.drop] at w21 s21
  have f22:=W.borrow1 (eInt .i64) w21 ((CR.flat (eInt_flat .i64) f19_0).step s21)
  obtain ⟨w22,s22⟩:=w21.right1
  have f23:=W.borrow1 (eInt .i64) w22 (((CR.flat (eInt_flat .i64) f9_0).step (s12.trans (s13.trans (s14.trans (s15.trans (s16.trans (s20.trans s21))))))).step s22)
  obtain ⟨w23,s23⟩:=w22.right1
  obtain ⟨r24,e24,hp⟩:=bind_some' hp
  refine call_ex (aO.P rfl rfl ⟨w23,(f22.step s23),f23⟩ e24) ?_
  rintro _ H25 ⟨rfl,w25,s25,_⟩
  obtain ⟨w26,s26⟩:=W.frame1 w22 w25 s25
  obtain ⟨w27,s27⟩:=W.frame1 w21 w26 s26
  refine bind_ex rfl ?_
  refine bif_ex (fun hb=>?_) (fun hb=>?_)
  ·replace hp:=bif_t hb hp
   obtain ⟨w28,s28⟩:=w27.pick' [] 6 rfl rfl rfl
   dsimp only [pk,pks,nth,List.drop] at w28 s28
   obtain rfl:=Option.some.inj hp
   exact ⟨_,_,rfl,rfl,w28,(s0.trans (s1.trans (s3.trans (s6.trans (s10.trans (s12.trans (s13.trans (s14.trans (s15.trans (s16.trans (s20.trans (s21.trans (s27.trans s28))))))))))))),trivial⟩
  ·replace hp:=bif_f hb hp
   refine bif_ex (fun hb=>?_) (fun hb=>?_)
   ·replace hp:=bif_t hb hp
    obtain ⟨w29,s29⟩:=w27.pick' [] 6 rfl rfl rfl
    dsimp only [pk,pks,nth,List.drop] at w29 s29
    obtain rfl:=Option.some.inj hp
    exact ⟨_,_,rfl,rfl,w29,(s0.trans (s1.trans (s3.trans (s6.trans (s10.trans (s12.trans (s13.trans (s14.trans (s15.trans (s16.trans (s20.trans (s21.trans (s27.trans s29))))))))))))),trivial⟩
   ·replace hp:=bif_f hb hp
    refine bind_ex (ldSl_of (w27.ld (i:=3) rfl rfl)) ?_
    refine bind_ex (ldI_of (w27.ld (i:=3) rfl rfl)) ?_
    refine bind_ex (ldSl_of (w27.ld (i:=5) rfl rfl)) ?_
    refine bind_ex (ldI_of (w27.ld (i:=5) rfl rfl)) ?_
    obtain ⟨r30,e30,hp⟩:=bind_some' hp
    refine call_ex (bp.P rfl ⟨w27,(aL.step (s1.trans (s3.trans (s6.trans (s10.trans (s12.trans (s13.trans (s14.trans (s15.trans (s16.trans (s20.trans (s21.trans s27))))))))))))⟩ e30) ?_
    rintro _ H31 ⟨o0a_31,o0n_31,o0c_31,o0k_31,rfl,rfl,w31,s31,f31_0⟩
    refine bind_ex rfl ?_
    refine bind_ex rfl ?_
    refine bind_ex rfl ?_
    refine bind_ex rfl ?_
    refine bind_ex rfl ?_
    refine ifs_ex (W.cons_of (Rn:=[_]) w27 w31 s31) ?_
    obtain ⟨w33,s33⟩:=w31.pick' [3,0,1,2,4,5,6] 7 rfl rfl rfl
    dsimp only [pk,pks,nth,List.drop] at w33 s33
    have f34:=W.borrow1 (ePair (eInt .i64) (ePair (eInt .i64) (ePair (eInt .i64) (ePair (eInt .i64) (eInt .i64))))) w33 (f12_0.step (s13.trans (s14.trans (s15.trans (s16.trans (s20.trans (s21.trans (s27.trans (s31.trans s33)))))))))
    obtain ⟨w34,s34⟩:=w33.right1
    have f35:=W.borrow1 (ePair (eInt .i64) (ePair (eInt .i64) (ePair (eInt .i64) (ePair (eInt .i64) (eInt .i64))))) w34 ((f31_0.step s33).step s34)
    obtain ⟨w35,s35⟩:=w34.right1
    obtain ⟨r36,e36,hp⟩:=bind_some' hp
    refine call_ex (bx.P rfl rfl ⟨w35,(f34.step s35),f35⟩ e36) ?_
    rintro _ H37 ⟨rfl,w37,s37,_⟩
    obtain ⟨w38,s38⟩:=W.frame1 w34 w37 s37
    obtain ⟨w39,s39⟩:=W.frame1 w33 w38 s38
    refine bind_ex rfl ?_
    refine bif_ex (fun hb=>?_) (fun hb=>?_)
    ·replace hp:=bif_t hb hp
     obtain ⟨w40,s40⟩:=w39.pick' [] 7 rfl rfl rfl
     dsimp only [pk,pks,nth,List.drop] at w40 s40
     obtain rfl:=Option.some.inj hp
     exact ⟨_,_,rfl,rfl,w40,(s0.trans (s1.trans (s3.trans (s6.trans (s10.trans (s12.trans (s13.trans (s14.trans (s15.trans (s16.trans (s20.trans (s21.trans (s27.trans (s31.trans (s33.trans (s39.trans s40)))))))))))))))),trivial⟩
    ·replace hp:=bif_f hb hp
     refine bind_ex (ldSl_of (w39.ld (i:=4) rfl rfl)) ?_
     refine bind_ex (ldI_of (w39.ld (i:=4) rfl rfl)) ?_
     obtain ⟨r41,e41,hp⟩:=bind_some' hp
     refine call_ex (bz.P rfl ⟨w39,(f12_0.step (s13.trans (s14.trans (s15.trans (s16.trans (s20.trans (s21.trans (s27.trans (s31.trans (s33.trans s39))))))))))⟩ e41) ?_
     rintro _ H42 ⟨KF,rfl,hl42_0,w42,s42,f42_0⟩
     refine bind_ex rfl ?_
     refine bif_ex (fun hb=>?_) (fun hb=>?_)
     ·replace hp:=bif_t hb hp
      obtain ⟨w43,s43⟩:=w42.pick' [] 7 rfl rfl rfl
      dsimp only [pk,pks,nth,List.drop] at w43 s43
      obtain rfl:=Option.some.inj hp
      exact ⟨_,_,rfl,rfl,w43,(s0.trans (s1.trans (s3.trans (s6.trans (s10.trans (s12.trans (s13.trans (s14.trans (s15.trans (s16.trans (s20.trans (s21.trans (s27.trans (s31.trans (s33.trans (s39.trans (s42.trans s43))))))))))))))))),trivial⟩
     ·replace hp:=bif_f hb hp
      obtain ⟨w44,s44⟩:=w42.pick' [2,3,0,1,4,5,6] 7 rfl rfl rfl
      dsimp only [pk,pks,nth,List.drop] at w44 s44
      have f45:=W.borrow1 (eInt .i64) w44 ((CR.flat (eInt_flat .i64) f19_0).step (s21.trans (s27.trans (s31.trans (s33.trans (s39.trans (s42.trans s44)))))))
      obtain ⟨w45,s45⟩:=w44.right1
      have f46:=W.borrow1 (eInt .i64) w45 (((CR.flat (eInt_flat .i64) f9_0).step (s12.trans (s13.trans (s14.trans (s15.trans (s16.trans (s20.trans (s21.trans (s27.trans (s31.trans (s33.trans (s39.trans (s42.trans s44))))))))))))).step s45)
      obtain ⟨w46,s46⟩:=w45.right1
      obtain ⟨r47,e47,hp⟩:=bind_some' hp
      refine call_ex (aO.P rfl rfl ⟨w46,(f45.step s46),f46⟩ e47) ?_
      rintro _ H48 ⟨rfl,w48,s48,_⟩
      obtain ⟨w49,s49⟩:=W.frame1 w45 w48 s48
      obtain ⟨w50,s50⟩:=W.frame1 w44 w49 s49
      refine bind_ex rfl ?_
      refine bif_ex (fun hb=>?_) (fun hb=>?_)
      ·replace hp:=bif_t hb hp
       obtain ⟨w51,s51⟩:=w50.pick' [] 7 rfl rfl rfl
       dsimp only [pk,pks,nth,List.drop] at w51 s51
       obtain rfl:=Option.some.inj hp
       exact ⟨_,_,rfl,rfl,w51,(s0.trans (s1.trans (s3.trans (s6.trans (s10.trans (s12.trans (s13.trans (s14.trans (s15.trans (s16.trans (s20.trans (s21.trans (s27.trans (s31.trans (s33.trans (s39.trans (s42.trans (s44.trans (s50.trans s51))))))))))))))))))),trivial⟩
      ·replace hp:=bif_f hb hp
       refine bif_ex (fun hb=>?_) (fun hb=>?_)
       ·replace hp:=bif_t hb hp
        obtain ⟨w52,s52⟩:=w50.pick' [] 7 rfl rfl rfl
        dsimp only [pk,pks,nth,List.drop] at w52 s52
        obtain rfl:=Option.some.inj hp
        exact ⟨_,_,rfl,rfl,w52,(s0.trans (s1.trans (s3.trans (s6.trans (s10.trans (s12.trans (s13.trans (s14.trans (s15.trans (s16.trans (s20.trans (s21.trans (s27.trans (s31.trans (s33.trans (s39.trans (s42.trans (s44.trans (s50.trans s52))))))))))))))))))),trivial⟩
       ·replace hp:=bif_f hb hp
        obtain ⟨r53,e53,hp⟩:=bind_some' hp
        refine call_ex (aW.P rfl ⟨w50,((CR.flat (eInt_flat .i64) f19_0).step (s21.trans (s27.trans (s31.trans (s33.trans (s39.trans (s42.trans (s44.trans s50))))))))⟩ e53) ?_
        rintro _ H54 ⟨KG,rfl,hl54_0,w54,s54,f54_0⟩
        refine bind_ex rfl ?_
        have f55:=W.borrow1 (eInt .i64) w54 f54_0
        obtain ⟨w55,s55⟩:=w54.right1
        obtain ⟨r56,e56,hp⟩:=bind_some' hp
        refine call_ex (aP.P hl54_0 ⟨w55,f55⟩ e56) ?_
        rintro _ H57 ⟨rfl,w57,s57,_⟩
        obtain ⟨w58,s58⟩:=W.frame1 w54 w57 s57
        refine bind_ex rfl ?_
        refine bif_ex (fun hb=>?_) (fun hb=>?_)
        ·replace hp:=bif_t hb hp
         obtain ⟨w59,s59⟩:=w58.pick' [] 7 rfl rfl rfl
         dsimp only [pk,pks,nth,List.drop] at w59 s59
         obtain rfl:=Option.some.inj hp
         exact ⟨_,_,rfl,rfl,w59,(s0.trans (s1.trans (s3.trans (s6.trans (s10.trans (s12.trans (s13.trans (s14.trans (s15.trans (s16.trans (s20.trans (s21.trans (s27.trans (s31.trans (s33.trans (s39.trans (s42.trans (s44.trans (s50.trans (s54.trans (s58.trans s59))))))))))))))))))))),trivial⟩
        ·replace hp:=bif_f hb hp
         refine bif_ex (fun hb=>?_) (fun hb=>?_)
         ·replace hp:=bif_t hb hp
          obtain ⟨w60,s60⟩:=w58.pick' [] 7 rfl rfl rfl
          dsimp only [pk,pks,nth,List.drop] at w60 s60
          obtain rfl:=Option.some.inj hp
          exact ⟨_,_,rfl,rfl,w60,(s0.trans (s1.trans (s3.trans (s6.trans (s10.trans (s12.trans (s13.trans (s14.trans (s15.trans (s16.trans (s20.trans (s21.trans (s27.trans (s31.trans (s33.trans (s39.trans (s42.trans (s44.trans (s50.trans (s54.trans (s58.trans s60))))))))))))))))))))),trivial⟩
         ·replace hp:=bif_f hb hp
          refine bind_ex (ldSl_of (w58.ld (i:=6) rfl rfl)) ?_
          refine bind_ex (ldI_of (w58.ld (i:=6) rfl rfl)) ?_
          obtain ⟨r61,e61,hp⟩:=bind_some' hp
          refine call_ex (bp.P rfl ⟨w58,(aL.step (s1.trans (s3.trans (s6.trans (s10.trans (s12.trans (s13.trans (s14.trans (s15.trans (s16.trans (s20.trans (s21.trans (s27.trans (s31.trans (s33.trans (s39.trans (s42.trans (s44.trans (s50.trans (s54.trans s58))))))))))))))))))))⟩ e61) ?_
          rintro _ H62 ⟨o0a_62,o0n_62,o0c_62,o0k_62,rfl,rfl,w62,s62,f62_0⟩
          refine bind_ex rfl ?_
          refine bind_ex rfl ?_
          refine bind_ex rfl ?_
          refine bind_ex rfl ?_
          refine bind_ex rfl ?_
          have f63:=W.borrow1 (ePair (eInt .i64) (ePair (eInt .i64) (ePair (eInt .i64) (ePair (eInt .i64) (eInt .i64))))) w62 f62_0
          obtain ⟨w63,s63⟩:=w62.right1
          obtain ⟨r64,e64,hp⟩:=bind_some' hp
          refine call_ex (az.P rfl ⟨w63,f63⟩ e64) ?_
          rintro _ H65 ⟨o0a_65,o0n_65,o0c_65,o0k_65,rfl,rfl,w65,s65,f65_0⟩
          obtain ⟨w66,s66⟩:=W.frame1 w62 w65 s65
          refine bind_ex rfl ?_
          refine bind_ex rfl ?_
          refine bind_ex rfl ?_
          refine bind_ex rfl ?_
          refine bind_ex rfl ?_
          obtain ⟨w67,s67⟩:=w66.pick' [1,3,0,2,4,5,6,7,8] 9 rfl rfl rfl
          dsimp only [pk,pks,nth,List.drop] at w67 s67
          have f68:=W.borrow1 (eInt .i64) w67 ((CR.flat (eInt_flat .i64) f65_0).step s67)
          obtain ⟨w68,s68⟩:=w67.right1
          have f69:=W.borrow1 (eInt .i64) w68 (((CR.flat (eInt_flat .i64) f9_0).step (s12.trans (s13.trans (s14.trans (s15.trans (s16.trans (s20.trans (s21.trans (s27.trans (s31.trans (s33.trans (s39.trans (s42.trans (s44.trans (s50.trans (s54.trans (s58.trans (s62.trans (s66.trans s67))))))))))))))))))).step s68)
          obtain ⟨w69,s69⟩:=w68.right1
          obtain ⟨r70,e70,hp⟩:=bind_some' hp
          refine call_ex (aO.P rfl rfl ⟨w69,(f68.step s69),f69⟩ e70) ?_
          rintro _ H71 ⟨rfl,w71,s71,_⟩
          obtain ⟨w72,s72⟩:=W.frame1 w68 w71 s71
          obtain ⟨w73,s73⟩:=W.frame1 w67 w72 s72
          refine bind_ex rfl ?_
          refine bif_ex (fun hb=>?_) (fun hb=>?_)
          ·replace hp:=bif_t hb hp
           obtain ⟨w74,s74⟩:=w73.pick' [] 9 rfl rfl rfl
           dsimp only [pk,pks,nth,List.drop] at w74 s74
           obtain rfl:=Option.some.inj hp
           exact ⟨_,_,rfl,rfl,w74,(s0.trans (s1.trans (s3.trans (s6.trans (s10.trans (s12.trans (s13.trans (s14.trans (s15.trans (s16.trans (s20.trans (s21.trans (s27.trans (s31.trans (s33.trans (s39.trans (s42.trans (s44.trans (s50.trans (s54.trans (s58.trans (s62.trans (s66.trans (s67.trans (s73.trans s74))))))))))))))))))))))))),trivial⟩
          ·replace hp:=bif_f hb hp
           refine bif_ex (fun hb=>?_) (fun hb=>?_)
           ·replace hp:=bif_t hb hp
            obtain ⟨w75,s75⟩:=w73.pick' [] 9 rfl rfl rfl
            dsimp only [pk,pks,nth,List.drop] at w75 s75
            obtain rfl:=Option.some.inj hp
            exact ⟨_,_,rfl,rfl,w75,(s0.trans (s1.trans (s3.trans (s6.trans (s10.trans (s12.trans (s13.trans (s14.trans (s15.trans (s16.trans (s20.trans (s21.trans (s27.trans (s31.trans (s33.trans (s39.trans (s42.trans (s44.trans (s50.trans (s54.trans (s58.trans (s62.trans (s66.trans (s67.trans (s73.trans s75))))))))))))))))))))))))),trivial⟩
           ·replace hp:=bif_f hb hp
            obtain ⟨w76,s76⟩:=w73.pick' [3,0,1,2,4,5,6,7,8] 9 rfl rfl rfl
            dsimp only [pk,pks,nth,List.drop] at w76 s76
            have f77:=W.borrow1 (eInt .i64) w76 (f54_0.step (s58.trans (s62.trans (s66.trans (s67.trans (s73.trans s76))))))
            obtain ⟨w77,s77⟩:=w76.right1
            obtain ⟨r78,e78,hp⟩:=bind_some' hp
            refine call_ex (aP.P hl54_0 ⟨w77,f77⟩ e78) ?_
            rintro _ H79 ⟨rfl,w79,s79,_⟩
            obtain ⟨w80,s80⟩:=W.frame1 w76 w79 s79
            refine bind_ex rfl ?_
            refine bif_ex (fun hb=>?_) (fun hb=>?_)
            ·replace hp:=bif_t hb hp
             obtain ⟨w81,s81⟩:=w80.pick' [] 9 rfl rfl rfl
             dsimp only [pk,pks,nth,List.drop] at w81 s81
             obtain rfl:=Option.some.inj hp
             exact ⟨_,_,rfl,rfl,w81,(s0.trans (s1.trans (s3.trans (s6.trans (s10.trans (s12.trans (s13.trans (s14.trans (s15.trans (s16.trans (s20.trans (s21.trans (s27.trans (s31.trans (s33.trans (s39.trans (s42.trans (s44.trans (s50.trans (s54.trans (s58.trans (s62.trans (s66.trans (s67.trans (s73.trans (s76.trans (s80.trans s81))))))))))))))))))))))))))),trivial⟩
            ·replace hp:=bif_f hb hp
             refine bif_ex (fun hb=>?_) (fun hb=>?_)
             ·replace hp:=bif_t hb hp
              obtain ⟨w82,s82⟩:=w80.pick' [] 9 rfl rfl rfl
              dsimp only [pk,pks,nth,List.drop] at w82 s82
              obtain rfl:=Option.some.inj hp
              exact ⟨_,_,rfl,rfl,w82,(s0.trans (s1.trans (s3.trans (s6.trans (s10.trans (s12.trans (s13.trans (s14.trans (s15.trans (s16.trans (s20.trans (s21.trans (s27.trans (s31.trans (s33.trans (s39.trans (s42.trans (s44.trans (s50.trans (s54.trans (s58.trans (s62.trans (s66.trans (s67.trans (s73.trans (s76.trans (s80.trans s82))))))))))))))))))))))))))),trivial⟩
             ·replace hp:=bif_f hb hp
              obtain ⟨w83,s83⟩:=w80.pick' [] 9 rfl rfl rfl
              dsimp only [pk,pks,nth,List.drop] at w83 s83
              obtain rfl:=Option.some.inj hp
              exact ⟨_,_,rfl,rfl,w83,(s0.trans (s1.trans (s3.trans (s6.trans (s10.trans (s12.trans (s13.trans (s14.trans (s15.trans (s16.trans (s20.trans (s21.trans (s27.trans (s31.trans (s33.trans (s39.trans (s42.trans (s44.trans (s50.trans (s54.trans (s58.trans (s62.trans (s66.trans (s67.trans (s73.trans (s76.trans (s80.trans s83))))))))))))))))))))))))))),trivial⟩
end Go.Proofs.Ythfinhmkgdmelaa.AE
