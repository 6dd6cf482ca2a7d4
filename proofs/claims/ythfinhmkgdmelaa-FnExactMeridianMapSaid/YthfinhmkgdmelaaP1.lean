import Derived.Test.YthfinhmkgdmelaaT2
import Derived.Test.YthfinhmkgdmelaaE2
set_option linter.unusedVariables false
set_option linter.unusedSimpArgs false
namespace Go.Proofs.Ythfinhmkgdmelaa.AE
open Go Go.AE Go.Proofs
set_option linter.unusedVariables false
set_option maxHeartbeats 4000000
set_option maxRecDepth 100000
def bA.Q (H0:Hp) (Ri R0:List Rs)  (r:Int) (v:AV) (H':Hp):Prop:=v = (.int .i64 r)∧Out H0 Ri H' (R0) fun R=>True
def bA.p (F:Nat) (ac:List (Int×Int×Int×Int×Int)) (ae:Int):Option (Int):=(bif (decide ((IntKind.i64.wrap (ae - (ac.length:Int))) < 0)) then (some (-1)) else (some (IntKind.i64.wrap (ae - (ac.length:Int)))))
theorem bA.P {F:Nat} {au:ON} {ah:Nat} {av:Cap} {ac:List (Int×Int×Int×Int×Int)} {ae:Int} {H:Hp} {R0:List Rs} (bb:ah = ac.length) (h0:Inn H R0 fun R=>ROs (ePair (eInt .i64) (ePair (eInt .i64) (ePair (eInt .i64) (ePair (eInt .i64) (eInt .i64))))) H R ⟨au,ah,av⟩ ac) {r:Int} (hp:bA.p F ac ae = some r):∃ v H',bA.tw F ⟨au,ah,av⟩ ae H = some (v,H')∧bA.Q H R0 R0  r v H':=by
 obtain ⟨w0,aL⟩:=h0
 subst bb
 unfold bA.p at hp
 unfold bA.tw bA.twX
 have s0:=w0.rf
 refine bif_ex (fun hb=>?_) (fun hb=>?_)
 ·replace hp:=bif_t hb hp
  obtain rfl:=Option.some.inj hp
  exact ⟨_,_,rfl,rfl,w0,s0,trivial⟩
 ·replace hp:=bif_f hb hp
  obtain rfl:=Option.some.inj hp
  exact ⟨_,_,rfl,rfl,w0,s0,trivial⟩
def bv.Q (H0:Hp) (Ri R0:List Rs)  (r:Int) (v:AV) (H':Hp):Prop:=v = (.int .i64 r)∧Out H0 Ri H' (R0) fun R=>True
def bv.p (F:Nat) (ac:List (Int×Int×Int×Int×Int)) (af:Int):Option (Int):=(bA.p F ac af).bind fun r2=>(bif (decide (r2 < 0)) then (some (-1)) else (some r2))
theorem bv.P {F:Nat} {au:ON} {ah:Nat} {av:Cap} {ac:List (Int×Int×Int×Int×Int)} {ab af:Int} {H:Hp} {R0:List Rs} (bb:ah = ac.length) (h0:Inn H R0 fun R=>ROs (ePair (eInt .i64) (ePair (eInt .i64) (ePair (eInt .i64) (ePair (eInt .i64) (eInt .i64))))) H R ⟨au,ah,av⟩ ac) {r:Int} (hp:bv.p F ac af = some r):∃ v H',bv.tw F ⟨au,ah,av⟩ ab af H = some (v,H')∧bv.Q H R0 R0  r v H':=by
 obtain ⟨w0,aL⟩:=h0
 subst bb
 unfold bv.p at hp
 unfold bv.tw bv.twX
 have s0:=w0.rf
 refine new_k w0 fun H1 w1 s1=>?_
 refine bind_ex (ldSl_of (w1.ld (i:=0) rfl rfl)) ?_
 obtain ⟨r2,e2,hp⟩:=bind_some' hp
 refine call_ex (bA.P rfl ⟨w1,(aL.step s1)⟩ e2) ?_
 rintro _ H3 ⟨rfl,w3,s3,_⟩
 refine bind_ex rfl ?_
 refine bif_ex (fun hb=>?_) (fun hb=>?_)
 ·replace hp:=bif_t hb hp
  obtain ⟨w4,s4⟩:=w3.pick' [] 1 rfl rfl rfl
  dsimp only [pk,pks,nth,List.drop] at w4 s4
  obtain rfl:=Option.some.inj hp
  exact ⟨_,_,rfl,rfl,w4,(s0.trans (s1.trans (s3.trans s4))),trivial⟩
 ·replace hp:=bif_f hb hp
  obtain ⟨w5,s5⟩:=w3.pick' [] 1 rfl rfl rfl
  dsimp only [pk,pks,nth,List.drop] at w5 s5
  obtain rfl:=Option.some.inj hp
  exact ⟨_,_,rfl,rfl,w5,(s0.trans (s1.trans (s3.trans s5))),trivial⟩
def bB.Q (H0:Hp) (Ri R0:List Rs)  (r:Int×Int×Int×Int×Int) (v:AV) (H':Hp):Prop:=v = (.agg [(.int .i64 r.1),(.int .i64 r.2.1),(.int .i64 r.2.2.1),(.int .i64 r.2.2.2.1),(.int .i64 r.2.2.2.2)])∧Out H0 Ri H' (R0) fun R=>True
def bB.p (F:Nat) (aa:Int) (ab:Int) (aC:Int) (aD:Int) (aA:Int):Option (Int×Int×Int×Int×Int):=some (aa,ab,aC,aD,aA)
theorem bB.P {F:Nat} {aa ab aC aD aA:Int} {H:Hp} {R0:List Rs}  (h0:Inn H R0 fun R=>True) {r:Int×Int×Int×Int×Int} (hp:bB.p F aa ab aC aD aA = some r):∃ v H',bB.tw F aa ab aC aD aA H = some (v,H')∧bB.Q H R0 R0  r v H':=by
 obtain ⟨w0,_⟩:=h0
 unfold bB.p at hp
 unfold bB.tw bB.twX
 have s0:=w0.rf
 refine new_k w0 fun H1 w1 s1=>?_
 refine new_k w1 fun H2 w2 s2=>?_
 refine new_k w2 fun H3 w3 s3=>?_
 refine bind_ex (ldI_of (w3.ld (i:=2) rfl rfl)) ?_
 refine st_k w3 (i:=0) rfl rfl rfl fun H4 w4 s4=>?_
 dsimp only [List.set] at w4 s4
 refine bind_ex (ldI_of (w4.ld (i:=2) rfl rfl)) ?_
 refine st_k w4 (i:=0) rfl rfl rfl fun H5 w5 s5=>?_
 dsimp only [List.set] at w5 s5
 refine bind_ex (ldI_of (w5.ld (i:=2) rfl rfl)) ?_
 refine st_k w5 (i:=0) rfl rfl rfl fun H6 w6 s6=>?_
 dsimp only [List.set] at w6 s6
 refine bind_ex (ldI_of (w6.ld (i:=2) rfl rfl)) ?_
 refine st_k w6 (i:=0) rfl rfl rfl fun H7 w7 s7=>?_
 dsimp only [List.set] at w7 s7
 refine bind_ex (ldI_of (w7.ld (i:=2) rfl rfl)) ?_
 refine st_k w7 (i:=0) rfl rfl rfl fun H8 w8 s8=>?_
 dsimp only [List.set] at w8 s8
 refine bind_ex (ldI_of (w8.ld (i:=0) rfl rfl)) ?_
 refine bind_ex (ldI_of (w8.ld (i:=0) rfl rfl)) ?_
 refine bind_ex (ldI_of (w8.ld (i:=0) rfl rfl)) ?_
 refine bind_ex (ldI_of (w8.ld (i:=0) rfl rfl)) ?_
 refine bind_ex (ldI_of (w8.ld (i:=0) rfl rfl)) ?_
 refine st_k w8 (i:=1) rfl rfl rfl fun H9 w9 s9=>?_
 dsimp only [List.set] at w9 s9
 refine st_k w9 (i:=1) rfl rfl rfl fun H10 w10 s10=>?_
 dsimp only [List.set] at w10 s10
 refine st_k w10 (i:=1) rfl rfl rfl fun H11 w11 s11=>?_
 dsimp only [List.set] at w11 s11
 refine st_k w11 (i:=1) rfl rfl rfl fun H12 w12 s12=>?_
 dsimp only [List.set] at w12 s12
 refine st_k w12 (i:=1) rfl rfl rfl fun H13 w13 s13=>?_
 dsimp only [List.set] at w13 s13
 refine bind_ex (ldI_of (w13.ld (i:=1) rfl rfl)) ?_
 refine bind_ex (ldI_of (w13.ld (i:=1) rfl rfl)) ?_
 refine bind_ex (ldI_of (w13.ld (i:=1) rfl rfl)) ?_
 refine bind_ex (ldI_of (w13.ld (i:=1) rfl rfl)) ?_
 refine bind_ex (ldI_of (w13.ld (i:=1) rfl rfl)) ?_
 obtain ⟨w14,s14⟩:=w13.pick' [] 3 rfl rfl rfl
 dsimp only [pk,pks,nth,List.drop] at w14 s14
 obtain rfl:=Option.some.inj hp
 exact ⟨_,_,rfl,rfl,w14,(s0.trans (s1.trans (s2.trans (s3.trans (s4.trans (s5.trans (s6.trans (s7.trans (s8.trans (s9.trans (s10.trans (s11.trans (s12.trans (s13.trans s14)))))))))))))),trivial⟩
def aS.Q (H0:Hp) (Ri R0:List Rs)  (r:(List (Int×Int×Int×Int×Int))) (v:AV) (H':Hp):Prop:=∃ o0a:ON,∃ o0n:Nat,∃ o0c:Cap,∃ o0k:List AV,v = (.sl ⟨o0a,o0n,o0c⟩)∧o0n = (r).length∧Out H0 Ri H' (Rs.own ⟨o0a,o0n,o0c⟩ (ePair (eInt .i64) (ePair (eInt .i64) (ePair (eInt .i64) (ePair (eInt .i64) (eInt .i64))))).z o0k :: R0) fun R=>CR (ePair (eInt .i64) (ePair (eInt .i64) (ePair (eInt .i64) (ePair (eInt .i64) (eInt .i64))))) H' R o0k (r)
def aS.S29 (H0:Hp) (Ri R0:List Rs)  (C:Sl→Sl→Int→Hp→OA) (pC:List (Int×Int×Int×Int×Int)→List (Int×Int×Int×Int×Int)→Int→Option ((List (Int×Int×Int×Int×Int)))):Prop:=∀ {fm rV:ON} {dR nH:Nat} {fo rW:Cap} {bi hX:List (Int×Int×Int×Int×Int)} {rX:List AV} {dZ:Int},∀ {H:Hp},dR = bi.length→nH = hX.length→(Out H0 Ri H (Rs.own ⟨rV,nH,rW⟩ (ePair (eInt .i64) (ePair (eInt .i64) (ePair (eInt .i64) (ePair (eInt .i64) (eInt .i64))))).z rX :: R0) fun R=>ROs (ePair (eInt .i64) (ePair (eInt .i64) (ePair (eInt .i64) (ePair (eInt .i64) (eInt .i64))))) H R ⟨fm,dR,fo⟩ bi∧CR (ePair (eInt .i64) (ePair (eInt .i64) (ePair (eInt .i64) (ePair (eInt .i64) (eInt .i64))))) H R rX hX)→∀ {r:(List (Int×Int×Int×Int×Int))},pC bi hX dZ = some r→∃ v H',C ⟨fm,dR,fo⟩ ⟨rV,nH,rW⟩ dZ H = some (v,H')∧aS.Q H0 Ri R0  r v H'
def aS.pl29 (F:Nat) :Nat→List (Int×Int×Int×Int×Int)→List (Int×Int×Int×Int×Int)→Int→Option ((List (Int×Int×Int×Int×Int)))
 | 0,_,_,_=>none
 | k + 1,bi,hX,dZ=>(bif (decide (dZ < (bi.length:Int))) then ((ix bi dZ).bind fun n1=>(bB.p F ((gt bi n1).1) ((gt bi n1).2.1) ((gt bi n1).2.2.1) ((gt bi n1).2.2.2.1) ((gt bi n1).2.2.2.2)).bind fun r2=>(ix hX dZ).bind fun n4=>(some (hX.set n4 (r2.1,(gt hX n4).2.1,(gt hX n4).2.2.1,(gt hX n4).2.2.2.1,(gt hX n4).2.2.2.2))).bind fun l5=>(some (l5.set n4 ((gt l5 n4).1,r2.2.1,(gt l5 n4).2.2.1,(gt l5 n4).2.2.2.1,(gt l5 n4).2.2.2.2))).bind fun l7=>(some (l7.set n4 ((gt l7 n4).1,(gt l7 n4).2.1,r2.2.2.1,(gt l7 n4).2.2.2.1,(gt l7 n4).2.2.2.2))).bind fun l9=>(some (l9.set n4 ((gt l9 n4).1,(gt l9 n4).2.1,(gt l9 n4).2.2.1,r2.2.2.2.1,(gt l9 n4).2.2.2.2))).bind fun l11=>(some (l11.set n4 ((gt l11 n4).1,(gt l11 n4).2.1,(gt l11 n4).2.2.1,(gt l11 n4).2.2.2.1,r2.2.2.2.2))).bind fun l13=>aS.pl29 F k bi l13 (IntKind.i64.wrap (dZ + 1))) else (some hX))
termination_by structural n=>n
theorem aS.l29_P {F:Nat} {H0:Hp} {Ri R0:List Rs}  :∀ k,aS.S29 H0 Ri R0  (aS.l29 F (bB.tw F)  k) (aS.pl29 F  k):=by
 intro k
 induction k with
 | zero=>
  intro fm rV dR nH fo rW bi hX rX dZ H fV zQ h0 r hp
  exact nomatch (show (none:Option ((List (Int×Int×Int×Int×Int)))) = some r from hp)
 | succ k ih=>
  intro fm rV dR nH fo rW bi hX rX dZ H fV zQ h0 r hp
  obtain ⟨w0,s0,fp,wN⟩:=h0
  subst fV
  subst zQ
  unfold aS.pl29 at hp
  unfold aS.l29
  refine bif_ex (fun hb=>?_) (fun hb=>?_)
  ·replace hp:=bif_t hb hp
   obtain ⟨n1,g1,hp⟩:=bind_some' hp
   obtain ⟨p1,q1,i1,h1,j1⟩:=ROs.ixr fp rfl g1
   refine bind_ex i1 ?_
   obtain ⟨_,_,rfl,rfl,_,_,rfl,rfl,_,_,rfl,rfl,_,_,rfl,rfl,rfl⟩:=h1
   refine bind_ex (ldI_of (j1 0 _ rfl)) ?_
   refine bind_ex (ldI_of (j1 1 _ rfl)) ?_
   refine bind_ex (ldI_of (j1 2 _ rfl)) ?_
   refine bind_ex (ldI_of (j1 3 _ rfl)) ?_
   refine bind_ex (ldI_of (j1 4 _ rfl)) ?_
   obtain ⟨r2,e2,hp⟩:=bind_some' hp
   refine call_ex (bB.P ⟨w0,trivial⟩ e2) ?_
   rintro _ H3 ⟨rfl,w3,s3,_⟩
   refine bind_ex rfl ?_
   refine bind_ex rfl ?_
   refine bind_ex rfl ?_
   refine bind_ex rfl ?_
   refine bind_ex rfl ?_
   refine bind_ex rfl ?_
   refine bind_ex rfl ?_
   refine bind_ex rfl ?_
   refine bind_ex rfl ?_
   refine bind_ex rfl ?_
   refine bind_ex rfl ?_
   obtain ⟨n4,g4,hp⟩:=bind_some' hp
   obtain ⟨p4,q4,i4,h4,j4⟩:=W.ixo (E:=(ePair (eInt .i64) (ePair (eInt .i64) (ePair (eInt .i64) (ePair (eInt .i64) (eInt .i64)))))) w3 (i:=0) rfl rfl (wN.step s3) g4
   refine bind_ex i4 ?_
   obtain ⟨l5,e5,hp⟩:=bind_some' hp
   refine sto_k (ePair (eInt .i64) (ePair (eInt .i64) (ePair (eInt .i64) (ePair (eInt .i64) (eInt .i64))))) w3 (i:=0) (j:=0) (p:=p4) rfl rfl (wN.step s3) g4 i4 e5 rfl rfl (fun _ h=>by obtain ⟨_,_,rfl,rfl,_,_,rfl,rfl,_,_,rfl,rfl,_,_,rfl,rfl,rfl⟩:=h; exact ⟨[_],_,rfl,rfl,[_],_,rfl,rfl,[_],_,rfl,rfl,[_],_,rfl,rfl,rfl⟩) fun H6 k6 w6 s6 c6=>?_
   dsimp only [List.set] at w6 s6 c6
   obtain ⟨l7,e7,hp⟩:=bind_some' hp
   refine sto_k (ePair (eInt .i64) (ePair (eInt .i64) (ePair (eInt .i64) (ePair (eInt .i64) (eInt .i64))))) w6 (i:=0) (j:=1) (p:=p4) rfl rfl c6 (ix_len g4 (st_len e5)) i4 e7 rfl rfl (fun _ h=>by obtain ⟨_,_,rfl,rfl,_,_,rfl,rfl,_,_,rfl,rfl,_,_,rfl,rfl,rfl⟩:=h; exact ⟨[_],_,rfl,rfl,[_],_,rfl,rfl,[_],_,rfl,rfl,[_],_,rfl,rfl,rfl⟩) fun H8 k8 w8 s8 c8=>?_
   dsimp only [List.set] at w8 s8 c8
   obtain ⟨l9,e9,hp⟩:=bind_some' hp
   refine sto_k (ePair (eInt .i64) (ePair (eInt .i64) (ePair (eInt .i64) (ePair (eInt .i64) (eInt .i64))))) w8 (i:=0) (j:=2) (p:=p4) rfl rfl c8 (ix_len g4 ((st_len e7).trans (st_len e5))) i4 e9 rfl rfl (fun _ h=>by obtain ⟨_,_,rfl,rfl,_,_,rfl,rfl,_,_,rfl,rfl,_,_,rfl,rfl,rfl⟩:=h; exact ⟨[_],_,rfl,rfl,[_],_,rfl,rfl,[_],_,rfl,rfl,[_],_,rfl,rfl,rfl⟩) fun H10 k10 w10 s10 c10=>?_
   dsimp only [List.set] at w10 s10 c10
   obtain ⟨l11,e11,hp⟩:=bind_some' hp
   refine sto_k (ePair (eInt .i64) (ePair (eInt .i64) (ePair (eInt .i64) (ePair (eInt .i64) (eInt .i64))))) w10 (i:=0) (j:=3) (p:=p4) rfl rfl c10 (ix_len g4 (((st_len e9).trans (st_len e7)).trans (st_len e5))) i4 e11 rfl rfl (fun _ h=>by obtain ⟨_,_,rfl,rfl,_,_,rfl,rfl,_,_,rfl,rfl,_,_,rfl,rfl,rfl⟩:=h; exact ⟨[_],_,rfl,rfl,[_],_,rfl,rfl,[_],_,rfl,rfl,[_],_,rfl,rfl,rfl⟩) fun H12 k12 w12 s12 c12=>?_
   dsimp only [List.set] at w12 s12 c12
   obtain ⟨l13,e13,hp⟩:=bind_some' hp
   refine sto_k (ePair (eInt .i64) (ePair (eInt .i64) (ePair (eInt .i64) (ePair (eInt .i64) (eInt .i64))))) w12 (i:=0) (j:=4) (p:=p4) rfl rfl c12 (ix_len g4 ((((st_len e11).trans (st_len e9)).trans (st_len e7)).trans (st_len e5))) i4 e13 rfl rfl (fun _ h=>by obtain ⟨_,_,rfl,rfl,_,_,rfl,rfl,_,_,rfl,rfl,_,_,rfl,rfl,rfl⟩:=h; exact ⟨[_],_,rfl,rfl,[_],_,rfl,rfl,[_],_,rfl,rfl,[_],_,rfl,rfl,rfl⟩) fun H14 k14 w14 s14 c14=>?_
   dsimp only [List.set] at w14 s14 c14
   exact ih rfl (((((st_len e5).symm.trans (st_len e7).symm).trans (st_len e9).symm).trans (st_len e11).symm).trans (st_len e13).symm) ⟨w14,(s0.trans (s3.trans (s6.trans (s8.trans (s10.trans (s12.trans s14)))))),(fp.step (s3.trans (s6.trans (s8.trans (s10.trans (s12.trans s14)))))),c14⟩ hp
  ·replace hp:=bif_f hb hp
   obtain rfl:=Option.some.inj hp
   exact ⟨_,_,rfl,_,_,_,_,rfl,rfl,w0,s0,wN⟩
def aS.p (F:Nat) (ac:List (Int×Int×Int×Int×Int)):Option ((List (Int×Int×Int×Int×Int))):=(mkn (ac.length:Int) ((0:Int),(0:Int),(0:Int),(0:Int),(0:Int))).bind fun l1=>aS.pl29 F F ac l1 0
theorem aS.P {F:Nat} {au:ON} {ah:Nat} {av:Cap} {ac:List (Int×Int×Int×Int×Int)} {H:Hp} {R0:List Rs} (bb:ah = ac.length) (h0:Inn H R0 fun R=>ROs (ePair (eInt .i64) (ePair (eInt .i64) (ePair (eInt .i64) (ePair (eInt .i64) (eInt .i64))))) H R ⟨au,ah,av⟩ ac) {r:(List (Int×Int×Int×Int×Int))} (hp:aS.p F ac = some r):∃ v H',aS.tw F ⟨au,ah,av⟩ H = some (v,H')∧aS.Q H R0 R0  r v H':=by
 obtain ⟨w0,aL⟩:=h0
 subst bb
 unfold aS.p at hp
 unfold aS.tw aS.twX
 have s0:=w0.rf
 obtain ⟨l1,e1,hp⟩:=bind_some' hp
 refine mk_k (ePair (eInt .i64) (ePair (eInt .i64) (ePair (eInt .i64) (ePair (eInt .i64) (eInt .i64))))) ((0:Int),(0:Int),(0:Int),(0:Int),(0:Int)) w0 ⟨[_],_,rfl,rfl,⟨[_],_,rfl,rfl,⟨[_],_,rfl,rfl,⟨[_],_,rfl,rfl,rfl⟩⟩⟩⟩ rfl rfl e1 fun H2 k2 w2 s2 c2=>?_
 exact aS.l29_P F rfl rfl ⟨w2,(s0.trans s2),(aL.step s2),c2⟩ hp
def bp.Q (H0:Hp) (Ri R0:List Rs)  (r:(List (Int×Int×Int×Int×Int))×Int) (v:AV) (H':Hp):Prop:=∃ o0a:ON,∃ o0n:Nat,∃ o0c:Cap,∃ o0k:List AV,v = (.agg [(.sl ⟨o0a,o0n,o0c⟩),(.int .i64 r.2)])∧o0n = (r.1).length∧Out H0 Ri H' (Rs.own ⟨o0a,o0n,o0c⟩ (ePair (eInt .i64) (ePair (eInt .i64) (ePair (eInt .i64) (ePair (eInt .i64) (eInt .i64))))).z o0k :: R0) fun R=>CR (ePair (eInt .i64) (ePair (eInt .i64) (ePair (eInt .i64) (ePair (eInt .i64) (eInt .i64))))) H' R o0k (r.1)
def bp.p (F:Nat) (ac:List (Int×Int×Int×Int×Int)) (ab:Int):Option ((List (Int×Int×Int×Int×Int))×Int):=(aS.p F ac).bind fun r4=>some (r4,ab)
theorem bp.P {F:Nat} {au:ON} {ah:Nat} {av:Cap} {ac:List (Int×Int×Int×Int×Int)} {ab:Int} {H:Hp} {R0:List Rs} (bb:ah = ac.length) (h0:Inn H R0 fun R=>ROs (ePair (eInt .i64) (ePair (eInt .i64) (ePair (eInt .i64) (ePair (eInt .i64) (eInt .i64))))) H R ⟨au,ah,av⟩ ac) {r:(List (Int×Int×Int×Int×Int))×Int} (hp:bp.p F ac ab = some r):∃ v H',bp.tw F ⟨au,ah,av⟩ ab H = some (v,H')∧bp.Q H R0 R0  r v H':=by
 obtain ⟨w0,aL⟩:=h0
 subst bb
 unfold bp.p at hp
 unfold bp.tw bp.twX
 have s0:=w0.rf
 refine new_k w0 fun H1 w1 s1=>?_
 refine new_k w1 fun H2 w2 s2=>?_
 refine new_k w2 fun H3 w3 s3=>?_
 refine bind_ex (ldSl_of (w3.ld (i:=2) rfl rfl)) ?_
 obtain ⟨r4,e4,hp⟩:=bind_some' hp
 refine call_ex (aS.P rfl ⟨w3,(aL.step (s1.trans (s2.trans s3)))⟩ e4) ?_
 rintro _ H5 ⟨o0a_5,o0n_5,o0c_5,o0k_5,rfl,rfl,w5,s5,f5_0⟩
 refine bind_ex rfl ?_
 refine st_k w5 (i:=1) rfl rfl rfl fun H6 w6 s6=>?_
 dsimp only [List.set] at w6 s6
 refine bind_ex (ldI_of (w6.ld (i:=3) rfl rfl)) ?_
 refine st_k w6 (i:=1) rfl rfl rfl fun H7 w7 s7=>?_
 dsimp only [List.set] at w7 s7
 refine bind_ex (ldSl_of (w7.ld (i:=1) rfl rfl)) ?_
 refine bind_ex (ldI_of (w7.ld (i:=1) rfl rfl)) ?_
 refine st_k w7 (i:=2) rfl rfl rfl fun H8 w8 s8=>?_
 dsimp only [List.set] at w8 s8
 refine st_k w8 (i:=2) rfl rfl rfl fun H9 w9 s9=>?_
 dsimp only [List.set] at w9 s9
 refine bind_ex (ldSl_of (w9.ld (i:=2) rfl rfl)) ?_
 refine bind_ex (ldI_of (w9.ld (i:=2) rfl rfl)) ?_
 obtain ⟨w10,s10⟩:=w9.pick' [0] 4 rfl rfl rfl
 dsimp only [pk,pks,nth,List.drop] at w10 s10
 obtain rfl:=Option.some.inj hp
 exact ⟨_,_,rfl,_,_,_,_,rfl,rfl,w10,(s0.trans (s1.trans (s2.trans (s3.trans (s5.trans (s6.trans (s7.trans (s8.trans (s9.trans s10))))))))),(f5_0.step (s6.trans (s7.trans (s8.trans (s9.trans s10)))))⟩
def aX.Q (H0:Hp) (Ri R0:List Rs)  (r:Bool) (v:AV) (H':Hp):Prop:=v = (.bool r)∧Out H0 Ri H' (R0) fun R=>True
def aX.p (F:Nat) (aa:Int) (ae:Int) (bM:Int):Option (Bool):=(bif (decide (aa ≥ ae)) then (some (decide (aa ≤ bM))) else (some false))
theorem aX.P {F:Nat} {aa ae bM:Int} {H:Hp} {R0:List Rs}  (h0:Inn H R0 fun R=>True) {r:Bool} (hp:aX.p F aa ae bM = some r):∃ v H',aX.tw F aa ae bM H = some (v,H')∧aX.Q H R0 R0  r v H':=by
 obtain ⟨w0,_⟩:=h0
 unfold aX.p at hp
 unfold aX.tw aX.twX
 have s0:=w0.rf
 refine bif_ex (fun hb=>?_) (fun hb=>?_)
 ·replace hp:=bif_t hb hp
  obtain rfl:=Option.some.inj hp
  exact ⟨_,_,rfl,rfl,w0,s0,trivial⟩
 ·replace hp:=bif_f hb hp
  obtain rfl:=Option.some.inj hp
  exact ⟨_,_,rfl,rfl,w0,s0,trivial⟩
def aM.Q (H0:Hp) (Ri R0:List Rs)  (r:Int) (v:AV) (H':Hp):Prop:=v = (.int .i64 r)∧Out H0 Ri H' (R0) fun R=>True
def aM.p (F:Nat) (aa:Int) (ab:Int) (aC:Int) (aD:Int) (bh:Int):Option (Int):=(ix ([aa,ab,aC,aD]:List Int) bh).bind fun n3=>some (gt ([aa,ab,aC,aD]:List Int) n3)
theorem aM.P {F:Nat} {aa ab aC aD aA bh:Int} {H:Hp} {R0:List Rs}  (h0:Inn H R0 fun R=>True) {r:Int} (hp:aM.p F aa ab aC aD bh = some r):∃ v H',aM.tw F aa ab aC aD aA bh H = some (v,H')∧aM.Q H R0 R0  r v H':=by
 obtain ⟨w0,_⟩:=h0
 unfold aM.p at hp
 unfold aM.tw aM.twX
 have s0:=w0.rf
 refine new_k w0 fun H1 w1 s1=>?_
 refine bind_ex (ldI_of (w1.ld (i:=0) rfl rfl)) ?_
 refine bind_ex (ldI_of (w1.ld (i:=0) rfl rfl)) ?_
 refine bind_ex (ldI_of (w1.ld (i:=0) rfl rfl)) ?_
 refine bind_ex (ldI_of (w1.ld (i:=0) rfl rfl)) ?_
 refine newS_k (eInt .i64) w1 (n:=4) (l:=([aa,ab,aC,aD]:List Int)) rfl (CR.cons1 rfl (CR.cons1 rfl (CR.cons1 rfl (CR.cons1 rfl CR.empty)))) rfl fun H2 w2 s2 c2=>?_
 obtain ⟨n3,g3,hp⟩:=bind_some' hp
 obtain ⟨p3,q3,i3,h3,j3⟩:=W.ixo (E:=(eInt .i64)) w2 (i:=0) rfl rfl c2 g3
 refine bind_ex i3 ?_
 have h3:_ = [_]:=h3
 subst h3
 refine bind_ex (ldI_of (j3 0 _ rfl)) ?_
 obtain ⟨w4,s4⟩:=w2.pick' [] 2 rfl rfl rfl
 dsimp only [pk,pks,nth,List.drop] at w4 s4
 obtain rfl:=Option.some.inj hp
 exact ⟨_,_,rfl,rfl,w4,(s0.trans (s1.trans (s2.trans s4))),trivial⟩
def aZ.Q (H0:Hp) (Ri R0:List Rs)  (r:Bool) (v:AV) (H':Hp):Prop:=v = (.bool r)∧Out H0 Ri H' (R0) fun R=>True
def aZ.p (F:Nat) (aA:Int) (bh:Int):Option (Bool):=(bif (bh == 0) then (some true) else ((bif (bh == 3) then ((bif (aA == 1) then (some true) else ((bif (bh == 1) then (some (aA == (-1))) else (some false))))) else ((bif (bh == 1) then (some (aA == (-1))) else (some false))))))
theorem aZ.P {F:Nat} {aa ab aC aD aA bh:Int} {H:Hp} {R0:List Rs}  (h0:Inn H R0 fun R=>True) {r:Bool} (hp:aZ.p F aA bh = some r):∃ v H',aZ.tw F aa ab aC aD aA bh H = some (v,H')∧aZ.Q H R0 R0  r v H':=by
 obtain ⟨w0,_⟩:=h0
 unfold aZ.p at hp
 unfold aZ.tw aZ.twX
 have s0:=w0.rf
 refine new_k w0 fun H1 w1 s1=>?_
 refine bif_ex (fun hb=>?_) (fun hb=>?_)
 ·replace hp:=bif_t hb hp
  obtain ⟨w2,s2⟩:=w1.pick' [] 1 rfl rfl rfl
  dsimp only [pk,pks,nth,List.drop] at w2 s2
  obtain rfl:=Option.some.inj hp
  exact ⟨_,_,rfl,rfl,w2,(s0.trans (s1.trans s2)),trivial⟩
 ·replace hp:=bif_f hb hp
  refine bif_ex (fun hb=>?_) (fun hb=>?_)
  ·replace hp:=bif_t hb hp
   refine bind_ex (ldI_of (w1.ld (i:=0) rfl rfl)) ?_
   refine bif_ex (fun hb=>?_) (fun hb=>?_)
   ·replace hp:=bif_t hb hp
    obtain ⟨w3,s3⟩:=w1.pick' [] 1 rfl rfl rfl
    dsimp only [pk,pks,nth,List.drop] at w3 s3
    obtain rfl:=Option.some.inj hp
    exact ⟨_,_,rfl,rfl,w3,(s0.trans (s1.trans s3)),trivial⟩
   ·replace hp:=bif_f hb hp
    refine bif_ex (fun hb=>?_) (fun hb=>?_)
    ·replace hp:=bif_t hb hp
     refine bind_ex (ldI_of (w1.ld (i:=0) rfl rfl)) ?_
     obtain ⟨w4,s4⟩:=w1.pick' [] 1 rfl rfl rfl
     dsimp only [pk,pks,nth,List.drop] at w4 s4
     obtain rfl:=Option.some.inj hp
     exact ⟨_,_,rfl,rfl,w4,(s0.trans (s1.trans s4)),trivial⟩
    ·replace hp:=bif_f hb hp
     obtain ⟨w5,s5⟩:=w1.pick' [] 1 rfl rfl rfl
     dsimp only [pk,pks,nth,List.drop] at w5 s5
     obtain rfl:=Option.some.inj hp
     exact ⟨_,_,rfl,rfl,w5,(s0.trans (s1.trans s5)),trivial⟩
  ·replace hp:=bif_f hb hp
   refine bif_ex (fun hb=>?_) (fun hb=>?_)
   ·replace hp:=bif_t hb hp
    refine bind_ex (ldI_of (w1.ld (i:=0) rfl rfl)) ?_
    obtain ⟨w6,s6⟩:=w1.pick' [] 1 rfl rfl rfl
    dsimp only [pk,pks,nth,List.drop] at w6 s6
    obtain rfl:=Option.some.inj hp
    exact ⟨_,_,rfl,rfl,w6,(s0.trans (s1.trans s6)),trivial⟩
   ·replace hp:=bif_f hb hp
    obtain ⟨w7,s7⟩:=w1.pick' [] 1 rfl rfl rfl
    dsimp only [pk,pks,nth,List.drop] at w7 s7
    obtain rfl:=Option.some.inj hp
    exact ⟨_,_,rfl,rfl,w7,(s0.trans (s1.trans s7)),trivial⟩
def aw.Q (H0:Hp) (Ri R0:List Rs)  (r:Bool) (v:AV) (H':Hp):Prop:=v = (.bool r)∧Out H0 Ri H' (R0) fun R=>True
def aw.S61 (H0:Hp) (Ri R0:List Rs)  (C:Nat→Nat→Int→Sl→Sl→Int→Hp→OA) (pC:List (Int×Int×Int×Int×Int)→Int→List Bool→List Bool→Int→Option (Bool)):Prop:=∀ {gT gU rY:ON} {fW bH fX nI:Nat} {gV gW rZ:Cap} {cm:List (Int×Int×Int×Int×Int)} {ja bQ ea:Int} {cK kX:List Bool} {gX r_:List AV},∀ {H:Hp},fW = cm.length→fX = cK.length→nI = kX.length→(Out H0 Ri H (Rs.blk bH [.sl ⟨gT,fW,gV⟩,.int .i64 ja] :: Rs.own ⟨gU,fX,gW⟩ eBool.z gX :: Rs.own ⟨rY,nI,rZ⟩ eBool.z r_ :: R0) fun R=>ROs (ePair (eInt .i64) (ePair (eInt .i64) (ePair (eInt .i64) (ePair (eInt .i64) (eInt .i64))))) H R ⟨gT,fW,gV⟩ cm∧CR eBool H R gX cK∧CR eBool H R r_ kX)→∀ {r:Bool},pC cm bQ cK kX ea = some r→∃ v H',C bH 0 bQ ⟨gU,fX,gW⟩ ⟨rY,nI,rZ⟩ ea H = some (v,H')∧aw.Q H0 Ri R0  r v H'
def aw.S3927 (H0:Hp) (Ri R0:List Rs)  (C:Nat→Nat→Int→Sl→Sl→Int→Nat→Nat→Int→Hp→OA) (pC:List (Int×Int×Int×Int×Int)→Int→List Bool→List Bool→Int→Int→Int→Int→Int→Int→Int→Option (Bool)):Prop:=∀ {sa sb sc:ON} {nJ d_ nK nL dh:Nat} {sd se sf:Cap} {jO:List (Int×Int×Int×Int×Int)} {wO db bY kY kZ k_ la lb dy:Int} {iz iA:List Bool} {sh si:List AV},∀ {H:Hp},nJ = jO.length→nK = iz.length→nL = iA.length→(Out H0 Ri H (Rs.blk d_ [.sl ⟨sa,nJ,sd⟩,.int .i64 wO] :: Rs.own ⟨sb,nK,se⟩ eBool.z sh :: Rs.own ⟨sc,nL,sf⟩ eBool.z si :: Rs.blk dh [.int .i64 kY,.int .i64 kZ,.int .i64 k_,.int .i64 la,.int .i64 lb] :: R0) fun R=>ROs (ePair (eInt .i64) (ePair (eInt .i64) (ePair (eInt .i64) (ePair (eInt .i64) (eInt .i64))))) H R ⟨sa,nJ,sd⟩ jO∧CR eBool H R sh iz∧CR eBool H R si iA)→∀ {r:Bool},pC jO db iz iA bY kY kZ k_ la lb dy = some r→∃ v H',C d_ 0 db ⟨sb,nK,se⟩ ⟨sc,nL,sf⟩ bY dh 0 dy H = some (v,H')∧aw.Q H0 Ri R0  r v H'
def aw.pl3927 (F:Nat) (ax:List (Int×Int×Int×Int×Int)→Int→List Bool→List Bool→Int→Option (Bool)):Nat→List (Int×Int×Int×Int×Int)→Int→List Bool→List Bool→Int→Int→Int→Int→Int→Int→Int→Option (Bool)
 | 0,_,_,_,_,_,_,_,_,_,_,_=>none
 | k + 1,jO,db,iz,iA,bY,kY,kZ,k_,la,lb,dy=>(bif (decide (dy < 4)) then ((aM.p F kY kZ k_ la dy).bind fun r1=>(aX.p F r1 0 (IntKind.i64.wrap (db - 1))).bind fun r3=>(bif (!r3) then (some false) else ((aZ.p F lb dy).bind fun r6=>(bif r6 then ((ix iz r1).bind fun n8=>(bif (gt iz n8) then (some false) else ((ix iz r1).bind fun n10=>(some (iz.set n10 true)).bind fun l11=>aw.pl3927 F ax k jO db l11 iA bY kY kZ k_ la lb (IntKind.i64.wrap (dy + 1))))) else ((ix iA r1).bind fun n13=>(bif (gt iA n13) then (some false) else ((ix iA r1).bind fun n15=>(some (iA.set n15 true)).bind fun l16=>aw.pl3927 F ax k jO db iz l16 bY kY kZ k_ la lb (IntKind.i64.wrap (dy + 1))))))))) else (ax jO db iz iA (IntKind.i64.wrap (bY + 1))))
termination_by structural n=>n
theorem aw.l3927_P {F:Nat} {H0:Hp} {Ri R0:List Rs}  {C61_:Nat→Nat→Int→Sl→Sl→Int→Hp→OA} {ax:List (Int×Int×Int×Int×Int)→Int→List Bool→List Bool→Int→Option (Bool)} (hC61:aw.S61 H0 Ri R0  C61_ ax):∀ k,aw.S3927 H0 Ri R0  (aw.l3927 F (aM.tw F) (aX.tw F) (aZ.tw F) C61_ k) (aw.pl3927 F ax k):=by
 intro k
 induction k with
 | zero=>
  intro sa sb sc nJ d_ nK nL dh sd se sf jO wO db bY kY kZ k_ la lb dy iz iA sh si H zR zS zT h0 r hp
  exact nomatch (show (none:Option (Bool)) = some r from hp)
 | succ k ih=>
  intro sa sb sc nJ d_ nK nL dh sd se sf jO wO db bY kY kZ k_ la lb dy iz iA sh si H zR zS zT h0 r hp
  obtain ⟨w0,s0,wP,nM,nN⟩:=h0
  subst zR
  subst zS
  subst zT
  unfold aw.pl3927 at hp
  unfold aw.l3927
  refine bif_ex (fun hb=>?_) (fun hb=>?_)
  ·replace hp:=bif_t hb hp
   refine bind_ex (ldI_of (w0.ld (i:=3) rfl rfl)) ?_
   refine bind_ex (ldI_of (w0.ld (i:=3) rfl rfl)) ?_
   refine bind_ex (ldI_of (w0.ld (i:=3) rfl rfl)) ?_
   refine bind_ex (ldI_of (w0.ld (i:=3) rfl rfl)) ?_
   refine bind_ex (ldI_of (w0.ld (i:=3) rfl rfl)) ?_
   obtain ⟨r1,e1,hp⟩:=bind_some' hp
   refine call_ex (aM.P ⟨w0,trivial⟩ e1) ?_
   rintro _ H2 ⟨rfl,w2,s2,_⟩
   refine bind_ex rfl ?_
   obtain ⟨r3,e3,hp⟩:=bind_some' hp
   refine call_ex (aX.P ⟨w2,trivial⟩ e3) ?_
   rintro _ H4 ⟨rfl,w4,s4,_⟩
   refine bind_ex rfl ?_
   refine bif_ex (fun hb=>?_) (fun hb=>?_)
   ·replace hp:=bif_t hb hp
    obtain ⟨w5,s5⟩:=w4.pick' [] 4 rfl rfl rfl
    dsimp only [pk,pks,nth,List.drop] at w5 s5
    obtain rfl:=Option.some.inj hp
    exact ⟨_,_,rfl,rfl,w5,(s0.trans (s2.trans (s4.trans s5))),trivial⟩
   ·replace hp:=bif_f hb hp
    refine bind_ex (ldI_of (w4.ld (i:=3) rfl rfl)) ?_
    refine bind_ex (ldI_of (w4.ld (i:=3) rfl rfl)) ?_
    refine bind_ex (ldI_of (w4.ld (i:=3) rfl rfl)) ?_
    refine bind_ex (ldI_of (w4.ld (i:=3) rfl rfl)) ?_
    refine bind_ex (ldI_of (w4.ld (i:=3) rfl rfl)) ?_
    obtain ⟨r6,e6,hp⟩:=bind_some' hp
    refine call_ex (aZ.P ⟨w4,trivial⟩ e6) ?_
    rintro _ H7 ⟨rfl,w7,s7,_⟩
    refine bind_ex rfl ?_
    refine bif_ex (fun hb=>?_) (fun hb=>?_)
    ·replace hp:=bif_t hb hp
     obtain ⟨n8,g8,hp⟩:=bind_some' hp
     obtain ⟨p8,q8,i8,h8,j8⟩:=W.ixo (E:=eBool) w7 (i:=1) rfl rfl (nM.step (s2.trans (s4.trans s7))) g8
     refine bind_ex i8 ?_
     have h8:_ = [_]:=h8
     subst h8
     refine bind_ex (ldB_of (j8 0 _ rfl)) ?_
     refine bif_ex (fun hb=>?_) (fun hb=>?_)
     ·replace hp:=bif_t hb hp
      obtain ⟨w9,s9⟩:=w7.pick' [] 4 rfl rfl rfl
      dsimp only [pk,pks,nth,List.drop] at w9 s9
      obtain rfl:=Option.some.inj hp
      exact ⟨_,_,rfl,rfl,w9,(s0.trans (s2.trans (s4.trans (s7.trans s9)))),trivial⟩
     ·replace hp:=bif_f hb hp
      obtain ⟨n10,g10,hp⟩:=bind_some' hp
      obtain ⟨p10,q10,i10,h10,j10⟩:=W.ixo (E:=eBool) w7 (i:=1) rfl rfl (nM.step (s2.trans (s4.trans s7))) g10
      refine bind_ex i10 ?_
      obtain ⟨l11,e11,hp⟩:=bind_some' hp
      refine sto_k eBool w7 (i:=1) (j:=0) (p:=p10) rfl rfl (nM.step (s2.trans (s4.trans s7))) g10 i10 e11 rfl rfl (fun _ h=>by have h:_ = [_]:=h; subst h; exact rfl) fun H12 k12 w12 s12 c12=>?_
      dsimp only [List.set] at w12 s12 c12
      exact ih rfl ((st_len e11).symm) rfl ⟨w12,(s0.trans (s2.trans (s4.trans (s7.trans s12)))),(wP.step (s2.trans (s4.trans (s7.trans s12)))),c12,(nN.step (s2.trans (s4.trans (s7.trans s12))))⟩ hp
    ·replace hp:=bif_f hb hp
     obtain ⟨n13,g13,hp⟩:=bind_some' hp
     obtain ⟨p13,q13,i13,h13,j13⟩:=W.ixo (E:=eBool) w7 (i:=2) rfl rfl (nN.step (s2.trans (s4.trans s7))) g13
     refine bind_ex i13 ?_
     have h13:_ = [_]:=h13
     subst h13
     refine bind_ex (ldB_of (j13 0 _ rfl)) ?_
     refine bif_ex (fun hb=>?_) (fun hb=>?_)
     ·replace hp:=bif_t hb hp
      obtain ⟨w14,s14⟩:=w7.pick' [] 4 rfl rfl rfl
      dsimp only [pk,pks,nth,List.drop] at w14 s14
      obtain rfl:=Option.some.inj hp
      exact ⟨_,_,rfl,rfl,w14,(s0.trans (s2.trans (s4.trans (s7.trans s14)))),trivial⟩
     ·replace hp:=bif_f hb hp
      obtain ⟨n15,g15,hp⟩:=bind_some' hp
      obtain ⟨p15,q15,i15,h15,j15⟩:=W.ixo (E:=eBool) w7 (i:=2) rfl rfl (nN.step (s2.trans (s4.trans s7))) g15
      refine bind_ex i15 ?_
      obtain ⟨l16,e16,hp⟩:=bind_some' hp
      refine sto_k eBool w7 (i:=2) (j:=0) (p:=p15) rfl rfl (nN.step (s2.trans (s4.trans s7))) g15 i15 e16 rfl rfl (fun _ h=>by have h:_ = [_]:=h; subst h; exact rfl) fun H17 k17 w17 s17 c17=>?_
      dsimp only [List.set] at w17 s17 c17
      exact ih rfl rfl ((st_len e16).symm) ⟨w17,(s0.trans (s2.trans (s4.trans (s7.trans s17)))),(wP.step (s2.trans (s4.trans (s7.trans s17)))),(nM.step (s2.trans (s4.trans (s7.trans s17)))),c17⟩ hp
  ·replace hp:=bif_f hb hp
   obtain ⟨w18,s18⟩:=w0.pick' [0,1,2] 4 rfl rfl rfl
   dsimp only [pk,pks,nth,List.drop] at w18 s18
   exact hC61 rfl rfl rfl ⟨w18,(s0.trans s18),(wP.step s18),(nM.step s18),(nN.step s18)⟩ hp
def aw.pl61 (F:Nat) :Nat→List (Int×Int×Int×Int×Int)→Int→List Bool→List Bool→Int→Option (Bool)
 | 0,_,_,_,_,_=>none
 | k + 1,cm,bQ,cK,kX,ea=>(bif (decide (ea < (cm.length:Int))) then ((ix cm ea).bind fun n1=>(bif (((gt cm n1).2.2.2.2) != 1) then ((bif (((gt cm n1).2.2.2.2) != (-1)) then (some false) else (aw.pl3927 F (aw.pl61 F k) F cm bQ cK kX ea ((gt cm n1).1) ((gt cm n1).2.1) ((gt cm n1).2.2.1) ((gt cm n1).2.2.2.1) ((gt cm n1).2.2.2.2) 0))) else (aw.pl3927 F (aw.pl61 F k) F cm bQ cK kX ea ((gt cm n1).1) ((gt cm n1).2.1) ((gt cm n1).2.2.1) ((gt cm n1).2.2.2.1) ((gt cm n1).2.2.2.2) 0))) else (some true))
termination_by structural n=>n
theorem aw.l61_P {F:Nat} {H0:Hp} {Ri R0:List Rs}  :∀ k,aw.S61 H0 Ri R0  (aw.l61 F (aM.tw F) (aX.tw F) (aZ.tw F)  k) (aw.pl61 F  k):=by
 intro k
 induction k with
 | zero=>
  intro gT gU rY fW bH fX nI gV gW rZ cm ja bQ ea cK kX gX r_ H lc lf zU h0 r hp
  exact nomatch (show (none:Option (Bool)) = some r from hp)
 | succ k ih=>
  intro gT gU rY fW bH fX nI gV gW rZ cm ja bQ ea cK kX gX r_ H lc lf zU h0 r hp
  obtain ⟨w0,s0,jP,jE,zV⟩:=h0
  subst lc
  subst lf
  subst zU
  unfold aw.pl61 at hp
  unfold aw.l61
  refine bind_ex (ldSl_of (w0.ld (i:=0) rfl rfl)) ?_
  refine bif_ex (fun hb=>?_) (fun hb=>?_)
  ·replace hp:=bif_t hb hp
   refine bind_ex (ldSl_of (w0.ld (i:=0) rfl rfl)) ?_
   obtain ⟨n1,g1,hp⟩:=bind_some' hp
   obtain ⟨p1,q1,i1,h1,j1⟩:=ROs.ixr jP rfl g1
   refine bind_ex i1 ?_
   obtain ⟨_,_,rfl,rfl,_,_,rfl,rfl,_,_,rfl,rfl,_,_,rfl,rfl,rfl⟩:=h1
   refine bind_ex (ldI_of (j1 0 _ rfl)) ?_
   refine bind_ex (ldI_of (j1 1 _ rfl)) ?_
   refine bind_ex (ldI_of (j1 2 _ rfl)) ?_
   refine bind_ex (ldI_of (j1 3 _ rfl)) ?_
   refine bind_ex (ldI_of (j1 4 _ rfl)) ?_
   refine new_k w0 fun H2 w2 s2=>?_
   refine st_k w2 (i:=0) rfl rfl rfl fun H3 w3 s3=>?_
   dsimp only [List.set] at w3 s3
   refine st_k w3 (i:=0) rfl rfl rfl fun H4 w4 s4=>?_
   dsimp only [List.set] at w4 s4
   refine st_k w4 (i:=0) rfl rfl rfl fun H5 w5 s5=>?_
   dsimp only [List.set] at w5 s5
   refine st_k w5 (i:=0) rfl rfl rfl fun H6 w6 s6=>?_
   dsimp only [List.set] at w6 s6
   refine st_k w6 (i:=0) rfl rfl rfl fun H7 w7 s7=>?_
   dsimp only [List.set] at w7 s7
   refine bind_ex (ldI_of (w7.ld (i:=0) rfl rfl)) ?_
   refine bif_ex (fun hb=>?_) (fun hb=>?_)
   ·replace hp:=bif_t hb hp
    refine bind_ex (ldI_of (w7.ld (i:=0) rfl rfl)) ?_
    refine bif_ex (fun hb=>?_) (fun hb=>?_)
    ·replace hp:=bif_t hb hp
     obtain ⟨w8,s8⟩:=w7.pick' [] 4 rfl rfl rfl
     dsimp only [pk,pks,nth,List.drop] at w8 s8
     obtain rfl:=Option.some.inj hp
     exact ⟨_,_,rfl,rfl,w8,(s0.trans (s2.trans (s3.trans (s4.trans (s5.trans (s6.trans (s7.trans s8))))))),trivial⟩
    ·replace hp:=bif_f hb hp
     obtain ⟨w9,s9⟩:=w7.pick' [1,2,3,0] 4 rfl rfl rfl
     dsimp only [pk,pks,nth,List.drop] at w9 s9
     exact aw.l3927_P (@ih) F rfl rfl rfl ⟨w9,(s0.trans (s2.trans (s3.trans (s4.trans (s5.trans (s6.trans (s7.trans s9))))))),(jP.step (s2.trans (s3.trans (s4.trans (s5.trans (s6.trans (s7.trans s9))))))),(jE.step (s2.trans (s3.trans (s4.trans (s5.trans (s6.trans (s7.trans s9))))))),(zV.step (s2.trans (s3.trans (s4.trans (s5.trans (s6.trans (s7.trans s9)))))))⟩ hp
   ·replace hp:=bif_f hb hp
    obtain ⟨w10,s10⟩:=w7.pick' [1,2,3,0] 4 rfl rfl rfl
    dsimp only [pk,pks,nth,List.drop] at w10 s10
    exact aw.l3927_P (@ih) F rfl rfl rfl ⟨w10,(s0.trans (s2.trans (s3.trans (s4.trans (s5.trans (s6.trans (s7.trans s10))))))),(jP.step (s2.trans (s3.trans (s4.trans (s5.trans (s6.trans (s7.trans s10))))))),(jE.step (s2.trans (s3.trans (s4.trans (s5.trans (s6.trans (s7.trans s10))))))),(zV.step (s2.trans (s3.trans (s4.trans (s5.trans (s6.trans (s7.trans s10)))))))⟩ hp
  ·replace hp:=bif_f hb hp
   obtain ⟨w11,s11⟩:=w0.pick' [] 3 rfl rfl rfl
   dsimp only [pk,pks,nth,List.drop] at w11 s11
   obtain rfl:=Option.some.inj hp
   exact ⟨_,_,rfl,rfl,w11,(s0.trans s11),trivial⟩
def aw.p (F:Nat) (ac:List (Int×Int×Int×Int×Int)):Option (Bool):=(mkn (IntKind.i64.wrap (2 * (ac.length:Int))) false).bind fun l2=>(mkn (IntKind.i64.wrap (2 * (ac.length:Int))) false).bind fun l4=>aw.pl61 F F ac (IntKind.i64.wrap (2 * (ac.length:Int))) l2 l4 0
theorem aw.P {F:Nat} {au:ON} {ah:Nat} {av:Cap} {ac:List (Int×Int×Int×Int×Int)} {ab:Int} {H:Hp} {R0:List Rs} (bb:ah = ac.length) (h0:Inn H R0 fun R=>ROs (ePair (eInt .i64) (ePair (eInt .i64) (ePair (eInt .i64) (ePair (eInt .i64) (eInt .i64))))) H R ⟨au,ah,av⟩ ac) {r:Bool} (hp:aw.p F ac = some r):∃ v H',aw.tw F ⟨au,ah,av⟩ ab H = some (v,H')∧aw.Q H R0 R0  r v H':=by
 obtain ⟨w0,aL⟩:=h0
 subst bb
 unfold aw.p at hp
 unfold aw.tw aw.twX
 have s0:=w0.rf
 refine new_k w0 fun H1 w1 s1=>?_
 refine bind_ex (ldSl_of (w1.ld (i:=0) rfl rfl)) ?_
 obtain ⟨l2,e2,hp⟩:=bind_some' hp
 refine mk_k eBool false w1 rfl rfl rfl e2 fun H3 k3 w3 s3 c3=>?_
 obtain ⟨l4,e4,hp⟩:=bind_some' hp
 refine mk_k eBool false w3 rfl rfl rfl e4 fun H5 k5 w5 s5 c5=>?_
 obtain ⟨w6,s6⟩:=w5.pick' [2,1,0] 3 rfl rfl rfl
 dsimp only [pk,pks,nth,List.drop] at w6 s6
 exact aw.l61_P F rfl rfl rfl ⟨w6,(s0.trans (s1.trans (s3.trans (s5.trans s6)))),(aL.step (s1.trans (s3.trans (s5.trans s6)))),(c3.step (s5.trans s6)),(c5.step s6)⟩ hp
def aj.Q (H0:Hp) (Ri R0:List Rs)  (r:Int×Int) (v:AV) (H':Hp):Prop:=v = (.tup [(.int .i64 r.1),(.int .i64 r.2)])∧Out H0 Ri H' (R0) fun R=>True
def aj.S13 (H0:Hp) (Ri R0:List Rs)  (C:Int→Bool→Nat→Nat→Int→Hp→OA) (pC:Int→Bool→List (Int×Int×Int×Int×Int)→Int→Option (Int×Int)):Prop:=∀ {bT wQ fx:Int} {fw:Bool} {sj:ON} {nO cR:Nat} {sk:Cap} {lg:List (Int×Int×Int×Int×Int)},∀ {H:Hp},nO = lg.length→(Out H0 Ri H (Rs.blk cR [.sl ⟨sj,nO,sk⟩,.int .i64 wQ] :: R0) fun R=>ROs (ePair (eInt .i64) (ePair (eInt .i64) (ePair (eInt .i64) (ePair (eInt .i64) (eInt .i64))))) H R ⟨sj,nO,sk⟩ lg)→∀ {r:Int×Int},pC bT fw lg fx = some r→∃ v H',C bT fw cR 0 fx H = some (v,H')∧aj.Q H0 Ri R0  r v H'
def aj.S213 (H0:Hp) (Ri R0:List Rs)  (C:Int→Bool→Nat→Nat→Int→Int→Hp→OA) (pC:Int→Bool→List (Int×Int×Int×Int×Int)→Int→Int→Option (Int×Int)):Prop:=∀ {di wR dc dj:Int} {dt:Bool} {sm:ON} {nP eJ:Nat} {sn:Cap} {gl:List (Int×Int×Int×Int×Int)},∀ {H:Hp},nP = gl.length→(Out H0 Ri H (Rs.blk eJ [.sl ⟨sm,nP,sn⟩,.int .i64 wR] :: R0) fun R=>ROs (ePair (eInt .i64) (ePair (eInt .i64) (ePair (eInt .i64) (ePair (eInt .i64) (eInt .i64))))) H R ⟨sm,nP,sn⟩ gl)→∀ {r:Int×Int},pC di dt gl dc dj = some r→∃ v H',C di dt eJ 0 dc dj H = some (v,H')∧aj.Q H0 Ri R0  r v H'
def aj.pj3 (F:Nat) (gm:Int→Bool→List (Int×Int×Int×Int×Int)→Int→Option (Int×Int)) (jD:Int) (mj:Bool) (nQ:List (Int×Int×Int×Int×Int)) (ml:Int):Option (Int×Int):=gm jD mj nQ (IntKind.i64.wrap (ml + 1))
theorem aj.j3_P {F:Nat} {H0:Hp} {Ri R0:List Rs}  {C13_:Int→Bool→Nat→Nat→Int→Hp→OA} {gm:Int→Bool→List (Int×Int×Int×Int×Int)→Int→Option (Int×Int)} (hC13:aj.S13 H0 Ri R0  C13_ gm) {jD Hj ml:Int} {mj:Bool} {zW:ON} {wS kR:Nat} {zX:Cap} {nQ:List (Int×Int×Int×Int×Int)} {H:Hp} (Hk:wS = nQ.length) (h0:Out H0 Ri H (Rs.blk kR [.sl ⟨zW,wS,zX⟩,.int .i64 Hj] :: R0) fun R=>ROs (ePair (eInt .i64) (ePair (eInt .i64) (ePair (eInt .i64) (ePair (eInt .i64) (eInt .i64))))) H R ⟨zW,wS,zX⟩ nQ) {r:Int×Int} (hp:aj.pj3 F gm jD mj nQ ml = some r):∃ v H',aj.j3 F (aM.tw F) (aZ.tw F) C13_ jD mj kR 0 ml H = some (v,H')∧aj.Q H0 Ri R0  r v H':=by
 obtain ⟨w0,s0,Hl⟩:=h0
 subst Hk
 unfold aj.pj3 at hp
 unfold aj.j3
 exact hC13 rfl ⟨w0,s0,Hl⟩ hp
def aj.pj4 (F:Nat) (gm:Int→Bool→List (Int×Int×Int×Int×Int)→Int→Option (Int×Int)) (mm:Int) (mn:Bool) (nR:List (Int×Int×Int×Int×Int)) (mo:Int):Option (Int×Int):=aj.pj3 F gm mm mn nR mo
theorem aj.j4_P {F:Nat} {H0:Hp} {Ri R0:List Rs}  {C13_:Int→Bool→Nat→Nat→Int→Hp→OA} {gm:Int→Bool→List (Int×Int×Int×Int×Int)→Int→Option (Int×Int)} (hC13:aj.S13 H0 Ri R0  C13_ gm) {mm Hm mo:Int} {mn:Bool} {zY:ON} {wT rA:Nat} {zZ:Cap} {nR:List (Int×Int×Int×Int×Int)} {H:Hp} (Hn:wT = nR.length) (h0:Out H0 Ri H (Rs.blk rA [.sl ⟨zY,wT,zZ⟩,.int .i64 Hm] :: R0) fun R=>ROs (ePair (eInt .i64) (ePair (eInt .i64) (ePair (eInt .i64) (ePair (eInt .i64) (eInt .i64))))) H R ⟨zY,wT,zZ⟩ nR) {r:Int×Int} (hp:aj.pj4 F gm mm mn nR mo = some r):∃ v H',aj.j4 F (aM.tw F) (aZ.tw F) C13_ mm mn rA 0 mo H = some (v,H')∧aj.Q H0 Ri R0  r v H':=by
 obtain ⟨w0,s0,Ho⟩:=h0
 subst Hn
 unfold aj.pj4 at hp
 unfold aj.j4
 exact aj.j3_P (@hC13) rfl ⟨w0,s0,Ho⟩ hp
def aj.pl213 (F:Nat) (gm:Int→Bool→List (Int×Int×Int×Int×Int)→Int→Option (Int×Int)):Nat→Int→Bool→List (Int×Int×Int×Int×Int)→Int→Int→Option (Int×Int)
 | 0,_,_,_,_,_=>none
 | k + 1,di,dt,gl,dc,dj=>(bif (decide (dj < 4)) then ((ix gl dc).bind fun n1=>(aM.p F ((gt gl n1).1) ((gt gl n1).2.1) ((gt gl n1).2.2.1) ((gt gl n1).2.2.2.1) dj).bind fun r2=>(bif (r2 == di) then ((ix gl dc).bind fun n4=>(aZ.p F ((gt gl n4).2.2.2.2) dj).bind fun r5=>(bif (r5 == dt) then (some (dc,dj)) else (aj.pl213 F gm k di dt gl dc (IntKind.i64.wrap (dj + 1))))) else (aj.pl213 F gm k di dt gl dc (IntKind.i64.wrap (dj + 1))))) else (aj.pj4 F gm di dt gl dc))
termination_by structural n=>n
theorem aj.l213_P {F:Nat} {H0:Hp} {Ri R0:List Rs}  {C13_:Int→Bool→Nat→Nat→Int→Hp→OA} {gm:Int→Bool→List (Int×Int×Int×Int×Int)→Int→Option (Int×Int)} (hC13:aj.S13 H0 Ri R0  C13_ gm):∀ k,aj.S213 H0 Ri R0  (aj.l213 F (aM.tw F) (aZ.tw F) C13_ k) (aj.pl213 F gm k):=by
 intro k
 induction k with
 | zero=>
  intro di wR dc dj dt sm nP eJ sn gl H z_ h0 r hp
  exact nomatch (show (none:Option (Int×Int)) = some r from hp)
 | succ k ih=>
  intro di wR dc dj dt sm nP eJ sn gl H z_ h0 r hp
  obtain ⟨w0,s0,nS⟩:=h0
  subst z_
  unfold aj.pl213 at hp
  unfold aj.l213
  refine bif_ex (fun hb=>?_) (fun hb=>?_)
  ·replace hp:=bif_t hb hp
   refine bind_ex (ldSl_of (w0.ld (i:=0) rfl rfl)) ?_
   obtain ⟨n1,g1,hp⟩:=bind_some' hp
   obtain ⟨p1,q1,i1,h1,j1⟩:=ROs.ixr nS rfl g1
   refine bind_ex i1 ?_
   obtain ⟨_,_,rfl,rfl,_,_,rfl,rfl,_,_,rfl,rfl,_,_,rfl,rfl,rfl⟩:=h1
   refine bind_ex (ldI_of (j1 0 _ rfl)) ?_
   refine bind_ex (ldI_of (j1 1 _ rfl)) ?_
   refine bind_ex (ldI_of (j1 2 _ rfl)) ?_
   refine bind_ex (ldI_of (j1 3 _ rfl)) ?_
   refine bind_ex (ldI_of (j1 4 _ rfl)) ?_
   obtain ⟨r2,e2,hp⟩:=bind_some' hp
   refine call_ex (aM.P ⟨w0,trivial⟩ e2) ?_
   rintro _ H3 ⟨rfl,w3,s3,_⟩
   refine bind_ex rfl ?_
   refine bif_ex (fun hb=>?_) (fun hb=>?_)
   ·replace hp:=bif_t hb hp
    refine bind_ex (ldSl_of (w3.ld (i:=0) rfl rfl)) ?_
    obtain ⟨n4,g4,hp⟩:=bind_some' hp
    obtain ⟨p4,q4,i4,h4,j4⟩:=ROs.ixr (nS.step s3) rfl g4
    refine bind_ex i4 ?_
    obtain ⟨_,_,rfl,rfl,_,_,rfl,rfl,_,_,rfl,rfl,_,_,rfl,rfl,rfl⟩:=h4
    refine bind_ex (ldI_of (j4 0 _ rfl)) ?_
    refine bind_ex (ldI_of (j4 1 _ rfl)) ?_
    refine bind_ex (ldI_of (j4 2 _ rfl)) ?_
    refine bind_ex (ldI_of (j4 3 _ rfl)) ?_
    refine bind_ex (ldI_of (j4 4 _ rfl)) ?_
    obtain ⟨r5,e5,hp⟩:=bind_some' hp
    refine call_ex (aZ.P ⟨w3,trivial⟩ e5) ?_
    rintro _ H6 ⟨rfl,w6,s6,_⟩
    refine bind_ex rfl ?_
    refine bif_ex (fun hb=>?_) (fun hb=>?_)
    ·replace hp:=bif_t hb hp
     obtain ⟨w7,s7⟩:=w6.pick' [] 1 rfl rfl rfl
     dsimp only [pk,pks,nth,List.drop] at w7 s7
     obtain rfl:=Option.some.inj hp
     exact ⟨_,_,rfl,rfl,w7,(s0.trans (s3.trans (s6.trans s7))),trivial⟩
    ·replace hp:=bif_f hb hp
     exact ih rfl ⟨w6,(s0.trans (s3.trans s6)),(nS.step (s3.trans s6))⟩ hp
   ·replace hp:=bif_f hb hp
    exact ih rfl ⟨w3,(s0.trans s3),(nS.step s3)⟩ hp
  ·replace hp:=bif_f hb hp
   exact aj.j4_P (@hC13) rfl ⟨w0,s0,nS⟩ hp
def aj.pl13 (F:Nat) :Nat→Int→Bool→List (Int×Int×Int×Int×Int)→Int→Option (Int×Int)
 | 0,_,_,_,_=>none
 | k + 1,bT,fw,lg,fx=>(bif (decide (fx < (lg.length:Int))) then (aj.pl213 F (aj.pl13 F k) F bT fw lg fx 0) else (some ((-1),(-1))))
termination_by structural n=>n
theorem aj.l13_P {F:Nat} {H0:Hp} {Ri R0:List Rs}  :∀ k,aj.S13 H0 Ri R0  (aj.l13 F (aM.tw F) (aZ.tw F)  k) (aj.pl13 F  k):=by
 intro k
 induction k with
 | zero=>
  intro bT wQ fx fw sj nO cR sk lg H Aa h0 r hp
  exact nomatch (show (none:Option (Int×Int)) = some r from hp)
 | succ k ih=>
  intro bT wQ fx fw sj nO cR sk lg H Aa h0 r hp
  obtain ⟨w0,s0,Hq⟩:=h0
  subst Aa
  unfold aj.pl13 at hp
  unfold aj.l13
  refine bind_ex (ldSl_of (w0.ld (i:=0) rfl rfl)) ?_
  refine bif_ex (fun hb=>?_) (fun hb=>?_)
  ·replace hp:=bif_t hb hp
   exact aj.l213_P (@ih) F rfl ⟨w0,s0,Hq⟩ hp
  ·replace hp:=bif_f hb hp
   obtain ⟨w1,s1⟩:=w0.pick' [] 1 rfl rfl rfl
   dsimp only [pk,pks,nth,List.drop] at w1 s1
   obtain rfl:=Option.some.inj hp
   exact ⟨_,_,rfl,rfl,w1,(s0.trans s1),trivial⟩
def aj.p (F:Nat) (ac:List (Int×Int×Int×Int×Int)) (af:Int) (fO:Bool):Option (Int×Int):=aj.pl13 F F af fO ac 0
theorem aj.P {F:Nat} {au:ON} {ah:Nat} {av:Cap} {ac:List (Int×Int×Int×Int×Int)} {ab af:Int} {fO:Bool} {H:Hp} {R0:List Rs} (bb:ah = ac.length) (h0:Inn H R0 fun R=>ROs (ePair (eInt .i64) (ePair (eInt .i64) (ePair (eInt .i64) (ePair (eInt .i64) (eInt .i64))))) H R ⟨au,ah,av⟩ ac) {r:Int×Int} (hp:aj.p F ac af fO = some r):∃ v H',aj.tw F ⟨au,ah,av⟩ ab af fO H = some (v,H')∧aj.Q H R0 R0  r v H':=by
 obtain ⟨w0,aL⟩:=h0
 subst bb
 unfold aj.p at hp
 unfold aj.tw aj.twX
 have s0:=w0.rf
 refine new_k w0 fun H1 w1 s1=>?_
 exact aj.l13_P F rfl ⟨w1,(s0.trans s1),(aL.step s1)⟩ hp
def br.Q (H0:Hp) (Ri R0:List Rs)  (r:Int) (v:AV) (H':Hp):Prop:=v = (.int .i64 r)∧Out H0 Ri H' (R0) fun R=>True
def br.p (F:Nat) (ac:List (Int×Int×Int×Int×Int)) (af:Int):Option (Int):=(ix ac (IntKind.i64.wrap (Int.tdiv af 4))).bind fun n2=>(aM.p F ((gt ac n2).1) ((gt ac n2).2.1) ((gt ac n2).2.2.1) ((gt ac n2).2.2.2.1) (Int.tmod (IntKind.i64.wrap ((Int.tmod af 4) + 1)) 4)).bind fun r9=>(aZ.p F ((gt ac n2).2.2.2.2) (Int.tmod (IntKind.i64.wrap ((Int.tmod af 4) + 1)) 4)).bind fun r12=>(aj.p F ac r9 (!r12)).bind fun r15=>some (IntKind.i64.wrap ((IntKind.i64.wrap (4 * r15.1)) + r15.2))
theorem br.P {F:Nat} {au:ON} {ah:Nat} {av:Cap} {ac:List (Int×Int×Int×Int×Int)} {ab af:Int} {H:Hp} {R0:List Rs} (bb:ah = ac.length) (h0:Inn H R0 fun R=>ROs (ePair (eInt .i64) (ePair (eInt .i64) (ePair (eInt .i64) (ePair (eInt .i64) (eInt .i64))))) H R ⟨au,ah,av⟩ ac) {r:Int} (hp:br.p F ac af = some r):∃ v H',br.tw F ⟨au,ah,av⟩ ab af H = some (v,H')∧br.Q H R0 R0  r v H':=by
 obtain ⟨w0,aL⟩:=h0
 subst bb
 unfold br.p at hp
 unfold br.tw br.twX
 have s0:=w0.rf
 refine new_k w0 fun H1 w1 s1=>?_
 refine bind_ex (ldSl_of (w1.ld (i:=0) rfl rfl)) ?_
 obtain ⟨n2,g2,hp⟩:=bind_some' hp
 obtain ⟨p2,q2,i2,h2,j2⟩:=ROs.ixr (aL.step s1) rfl g2
 refine bind_ex i2 ?_
 obtain ⟨_,_,rfl,rfl,_,_,rfl,rfl,_,_,rfl,rfl,_,_,rfl,rfl,rfl⟩:=h2
 refine bind_ex (ldI_of (j2 0 _ rfl)) ?_
 refine bind_ex (ldI_of (j2 1 _ rfl)) ?_
 refine bind_ex (ldI_of (j2 2 _ rfl)) ?_
 refine bind_ex (ldI_of (j2 3 _ rfl)) ?_
 refine bind_ex (ldI_of (j2 4 _ rfl)) ?_
 refine new_k w1 fun H3 w3 s3=>?_
 refine st_k w3 (i:=0) rfl rfl rfl fun H4 w4 s4=>?_
 dsimp only [List.set] at w4 s4
 refine st_k w4 (i:=0) rfl rfl rfl fun H5 w5 s5=>?_
 dsimp only [List.set] at w5 s5
 refine st_k w5 (i:=0) rfl rfl rfl fun H6 w6 s6=>?_
 dsimp only [List.set] at w6 s6
 refine st_k w6 (i:=0) rfl rfl rfl fun H7 w7 s7=>?_
 dsimp only [List.set] at w7 s7
 refine st_k w7 (i:=0) rfl rfl rfl fun H8 w8 s8=>?_
 dsimp only [List.set] at w8 s8
 refine bind_ex (ldSl_of (w8.ld (i:=1) rfl rfl)) ?_
 refine bind_ex (ldI_of (w8.ld (i:=1) rfl rfl)) ?_
 refine bind_ex (ldI_of (w8.ld (i:=0) rfl rfl)) ?_
 refine bind_ex (ldI_of (w8.ld (i:=0) rfl rfl)) ?_
 refine bind_ex (ldI_of (w8.ld (i:=0) rfl rfl)) ?_
 refine bind_ex (ldI_of (w8.ld (i:=0) rfl rfl)) ?_
 refine bind_ex (ldI_of (w8.ld (i:=0) rfl rfl)) ?_
 obtain ⟨r9,e9,hp⟩:=bind_some' hp
 refine call_ex (aM.P ⟨w8,trivial⟩ e9) ?_
 rintro _ H10 ⟨rfl,w10,s10,_⟩
 refine bind_ex rfl ?_
 refine ifs_ex (W.cons_of (Rn:=[]) w8 w10 s10) ?_
 refine bind_ex (ldI_of (w10.ld (i:=0) rfl rfl)) ?_
 refine bind_ex (ldI_of (w10.ld (i:=0) rfl rfl)) ?_
 refine bind_ex (ldI_of (w10.ld (i:=0) rfl rfl)) ?_
 refine bind_ex (ldI_of (w10.ld (i:=0) rfl rfl)) ?_
 refine bind_ex (ldI_of (w10.ld (i:=0) rfl rfl)) ?_
 obtain ⟨r12,e12,hp⟩:=bind_some' hp
 refine call_ex (aZ.P ⟨w10,trivial⟩ e12) ?_
 rintro _ H13 ⟨rfl,w13,s13,_⟩
 refine bind_ex rfl ?_
 refine ifs_ex (W.cons_of (Rn:=[]) w10 w13 s13) ?_
 obtain ⟨r15,e15,hp⟩:=bind_some' hp
 refine call_ex (aj.P rfl ⟨w13,(aL.step (s1.trans (s3.trans (s4.trans (s5.trans (s6.trans (s7.trans (s8.trans (s10.trans s13)))))))))⟩ e15) ?_
 rintro _ H16 ⟨rfl,w16,s16,_⟩
 refine bind_ex rfl ?_
 refine bind_ex rfl ?_
 refine bind_ex rfl ?_
 refine bind_ex rfl ?_
 refine bind_ex rfl ?_
 obtain ⟨w17,s17⟩:=w16.pick' [] 2 rfl rfl rfl
 dsimp only [pk,pks,nth,List.drop] at w17 s17
 obtain rfl:=Option.some.inj hp
 exact ⟨_,_,rfl,rfl,w17,(s0.trans (s1.trans (s3.trans (s4.trans (s5.trans (s6.trans (s7.trans (s8.trans (s10.trans (s13.trans (s16.trans s17))))))))))),trivial⟩
def aq.Q (H0:Hp) (Ri R0:List Rs)  (r:List (List Int)) (v:AV) (H':Hp):Prop:=∃ o0a:ON,∃ o0n:Nat,∃ o0c:Cap,∃ o0k:List AV,v = (.sl ⟨o0a,o0n,o0c⟩)∧o0n = (r).length∧Out H0 Ri H' (Rs.own ⟨o0a,o0n,o0c⟩ (eSl (eInt .i64)).z o0k :: R0) fun R=>CR (eSl (eInt .i64)) H' R o0k (r)
def aq.S61 (H0:Hp) (Ri R0:List Rs)  (C:Nat→Nat→Sl→Sl→Int→Hp→OA) (pC:List (Int×Int×Int×Int×Int)→List (List Int)→List Bool→Int→Option (List (List Int))):Prop:=∀ {gT jQ gU:ON} {fW bH jb fX:Nat} {gV jR gW:Cap} {cm:List (Int×Int×Int×Int×Int)} {ja bE:Int} {fq:List (List Int)} {jS gX:List AV} {cK:List Bool},∀ {H:Hp},fW = cm.length→jb = fq.length→fX = cK.length→(Out H0 Ri H (Rs.blk bH [.sl ⟨gT,fW,gV⟩,.int .i64 ja] :: Rs.own ⟨jQ,jb,jR⟩ (eSl (eInt .i64)).z jS :: Rs.own ⟨gU,fX,gW⟩ eBool.z gX :: R0) fun R=>ROs (ePair (eInt .i64) (ePair (eInt .i64) (ePair (eInt .i64) (ePair (eInt .i64) (eInt .i64))))) H R ⟨gT,fW,gV⟩ cm∧CR (eSl (eInt .i64)) H R jS fq∧CR eBool H R gX cK)→∀ {r:List (List Int)},pC cm fq cK bE = some r→∃ v H',C bH 0 ⟨jQ,jb,jR⟩ ⟨gU,fX,gW⟩ bE H = some (v,H')∧aq.Q H0 Ri R0  r v H'
def aq.pj4 (F:Nat) (ax:List (Int×Int×Int×Int×Int)→List (List Int)→List Bool→Int→Option (List (List Int))) (jc:List (Int×Int×Int×Int×Int)) (jd:List (List Int)) (je:List Bool) (ho:Int):Option (List (List Int)):=ax jc jd je (IntKind.i64.wrap (ho + 1))
theorem aq.j4_P {F:Nat} {H0:Hp} {Ri R0:List Rs}  {C61_:Nat→Nat→Sl→Sl→Int→Hp→OA} {ax:List (Int×Int×Int×Int×Int)→List (List Int)→List Bool→Int→Option (List (List Int))} (hC61:aq.S61 H0 Ri R0  C61_ ax) {nT nU nV:ON} {lJ jL lK lL:Nat} {nW nX nY:Cap} {jc:List (Int×Int×Int×Int×Int)} {wU ho:Int} {jd:List (List Int)} {nZ n_:List AV} {je:List Bool} {H:Hp} (wV:lJ = jc.length) (wW:lK = jd.length) (wX:lL = je.length) (h0:Out H0 Ri H (Rs.blk jL [.sl ⟨nT,lJ,nW⟩,.int .i64 wU] :: Rs.own ⟨nU,lK,nX⟩ (eSl (eInt .i64)).z nZ :: Rs.own ⟨nV,lL,nY⟩ eBool.z n_ :: R0) fun R=>ROs (ePair (eInt .i64) (ePair (eInt .i64) (ePair (eInt .i64) (ePair (eInt .i64) (eInt .i64))))) H R ⟨nT,lJ,nW⟩ jc∧CR (eSl (eInt .i64)) H R nZ jd∧CR eBool H R n_ je) {r:List (List Int)} (hp:aq.pj4 F ax jc jd je ho = some r):∃ v H',aq.j4 F (br.tw F) C61_ jL 0 ⟨nU,lK,nX⟩ ⟨nV,lL,nY⟩ ho H = some (v,H')∧aq.Q H0 Ri R0  r v H':=by
 obtain ⟨w0,s0,wY,wZ,w_⟩:=h0
 subst wV
 subst wW
 subst wX
 unfold aq.pj4 at hp
 unfold aq.j4
 exact hC61 rfl rfl rfl ⟨w0,s0,wY,wZ,w_⟩ hp
def aq.S7853 (H0:Hp) (Ri R0:List Rs)  (C:Nat→Nat→Sl→Sl→Int→Sl→Int→Hp→OA) (pC:List (Int×Int×Int×Int×Int)→List (List Int)→List Bool→Int→List Int→Int→Option (List (List Int))):Prop:=∀ {jT jU jV jW:ON} {jf b_ jg jh ji:Nat} {jX jY jZ j_:Cap} {ft:List (Int×Int×Int×Int×Int)} {lM ch bR:Int} {fY:List (List Int)} {ka kb kc:List AV} {dS:List Bool} {fZ:List Int},∀ {H:Hp},jf = ft.length→jg = fY.length→jh = dS.length→ji = fZ.length→(Out H0 Ri H (Rs.blk b_ [.sl ⟨jT,jf,jX⟩,.int .i64 lM] :: Rs.own ⟨jU,jg,jY⟩ (eSl (eInt .i64)).z ka :: Rs.own ⟨jV,jh,jZ⟩ eBool.z kb :: Rs.own ⟨jW,ji,j_⟩ (eInt .i64).z kc :: R0) fun R=>ROs (ePair (eInt .i64) (ePair (eInt .i64) (ePair (eInt .i64) (ePair (eInt .i64) (eInt .i64))))) H R ⟨jT,jf,jX⟩ ft∧CR (eSl (eInt .i64)) H R ka fY∧CR eBool H R kb dS∧CR (eInt .i64) H R kc fZ)→∀ {r:List (List Int)},pC ft fY dS ch fZ bR = some r→∃ v H',C b_ 0 ⟨jU,jg,jY⟩ ⟨jV,jh,jZ⟩ ch ⟨jW,ji,j_⟩ bR H = some (v,H')∧aq.Q H0 Ri R0  r v H'
def aq.pj5 (F:Nat) (ax:List (Int×Int×Int×Int×Int)→List (List Int)→List Bool→Int→Option (List (List Int))) (jj:List (Int×Int×Int×Int×Int)) (jk:List (List Int)) (jl:List Bool) (hB:Int):Option (List (List Int)):=ax jj jk jl (IntKind.i64.wrap (hB + 1))
theorem aq.j5_P {F:Nat} {H0:Hp} {Ri R0:List Rs}  {C61_:Nat→Nat→Sl→Sl→Int→Hp→OA} {ax:List (Int×Int×Int×Int×Int)→List (List Int)→List Bool→Int→Option (List (List Int))} (hC61:aq.S61 H0 Ri R0  C61_ ax) {oa ob oc:ON} {lN jM lO lP:Nat} {od oe og:Cap} {jj:List (Int×Int×Int×Int×Int)} {xa hB:Int} {jk:List (List Int)} {oh oi:List AV} {jl:List Bool} {H:Hp} (xb:lN = jj.length) (xc:lO = jk.length) (xd:lP = jl.length) (h0:Out H0 Ri H (Rs.blk jM [.sl ⟨oa,lN,od⟩,.int .i64 xa] :: Rs.own ⟨ob,lO,oe⟩ (eSl (eInt .i64)).z oh :: Rs.own ⟨oc,lP,og⟩ eBool.z oi :: R0) fun R=>ROs (ePair (eInt .i64) (ePair (eInt .i64) (ePair (eInt .i64) (ePair (eInt .i64) (eInt .i64))))) H R ⟨oa,lN,od⟩ jj∧CR (eSl (eInt .i64)) H R oh jk∧CR eBool H R oi jl) {r:List (List Int)} (hp:aq.pj5 F ax jj jk jl hB = some r):∃ v H',aq.j5 F (br.tw F) C61_ jM 0 ⟨ob,lO,oe⟩ ⟨oc,lP,og⟩ hB H = some (v,H')∧aq.Q H0 Ri R0  r v H':=by
 obtain ⟨w0,s0,xe,xf,xg⟩:=h0
 subst xb
 subst xc
 subst xd
 unfold aq.pj5 at hp
 unfold aq.j5
 exact hC61 rfl rfl rfl ⟨w0,s0,xe,xf,xg⟩ hp
def aq.pj6 (F:Nat) (ax:List (Int×Int×Int×Int×Int)→List (List Int)→List Bool→Int→Option (List (List Int))) (jm:List (Int×Int×Int×Int×Int)) (jn:List (List Int)) (jo:List Bool) (hC:Int) (gB:List Int):Option (List (List Int)):=(apn jn ([gB]:List (List Int))).bind fun l3=>aq.pj5 F ax jm l3 jo hC
theorem aq.j6_P {F:Nat} {H0:Hp} {Ri R0:List Rs}  {C61_:Nat→Nat→Sl→Sl→Int→Hp→OA} {ax:List (Int×Int×Int×Int×Int)→List (List Int)→List Bool→Int→Option (List (List Int))} (hC61:aq.S61 H0 Ri R0  C61_ ax) {oj ol om oo:ON} {lQ jN lR lS lT:Nat} {oq ot ou ov:Cap} {jm:List (Int×Int×Int×Int×Int)} {xh hC:Int} {jn:List (List Int)} {ox oy oz:List AV} {jo:List Bool} {gB:List Int} {H:Hp} (xi:lQ = jm.length) (xj:lR = jn.length) (xk:lS = jo.length) (xl:lT = gB.length) (h0:Out H0 Ri H (Rs.blk jN [.sl ⟨oj,lQ,oq⟩,.int .i64 xh] :: Rs.own ⟨ol,lR,ot⟩ (eSl (eInt .i64)).z ox :: Rs.own ⟨om,lS,ou⟩ eBool.z oy :: Rs.own ⟨oo,lT,ov⟩ (eInt .i64).z oz :: R0) fun R=>ROs (ePair (eInt .i64) (ePair (eInt .i64) (ePair (eInt .i64) (ePair (eInt .i64) (eInt .i64))))) H R ⟨oj,lQ,oq⟩ jm∧CR (eSl (eInt .i64)) H R ox jn∧CR eBool H R oy jo∧CR (eInt .i64) H R oz gB) {r:List (List Int)} (hp:aq.pj6 F ax jm jn jo hC gB = some r):∃ v H',aq.j6 F (br.tw F) C61_ jN 0 ⟨ol,lR,ot⟩ ⟨om,lS,ou⟩ hC ⟨oo,lT,ov⟩ H = some (v,H')∧aq.Q H0 Ri R0  r v H':=by
 obtain ⟨w0,s0,xm,xn,xo,xp⟩:=h0
 subst xi
 subst xj
 subst xk
 subst xl
 unfold aq.pj6 at hp
 unfold aq.j6
 obtain ⟨w1,s1,f1⟩:=w0.frz (i:=3) (eInt .i64) rfl xp
 dsimp only [List.eraseIdx] at w1 s1 f1
 refine newS_k (eSl (eInt .i64)) w1 (n:=1) (l:=([gB]:List (List Int))) rfl (CR.cons1 ⟨_,rfl,f1⟩ CR.empty) rfl fun H2 w2 s2 c2=>?_
 refine bind_ex (w2.rowo (i:=0) rfl) ?_
 obtain ⟨l3,e3,hp⟩:=bind_some' hp
 refine app_k (eSl (eInt .i64)) w2 (i:=2) rfl rfl (xn.step (s1.trans s2)) c2 (show 1 = List.length ([gB]:List (List Int)) from rfl) rfl e3 fun a4 d4 H4 w4 s4 c4 x4=>?_
 dsimp only [List.set] at w4 s4 c4
 obtain ⟨w5,s5⟩:=w4.pick' [1,2,3] 4 rfl rfl rfl
 dsimp only [pk,pks,nth,List.drop] at w5 s5
 exact aq.j5_P (@hC61) rfl rfl rfl ⟨w5,(s0.trans (s1.trans (s2.trans (s4.trans s5)))),(xm.step (s1.trans (s2.trans (s4.trans s5)))),(c4.step s5),(xo.step (s1.trans (s2.trans (s4.trans s5))))⟩ hp
def aq.pl7853 (F:Nat) (ax:List (Int×Int×Int×Int×Int)→List (List Int)→List Bool→Int→Option (List (List Int))):Nat→List (Int×Int×Int×Int×Int)→List (List Int)→List Bool→Int→List Int→Int→Option (List (List Int))
 | 0,_,_,_,_,_,_=>none
 | k + 1,ft,fY,dS,ch,fZ,bR=>(ix dS bR).bind fun n1=>(bif (!(gt dS n1)) then ((ix dS bR).bind fun n2=>(some (dS.set n2 true)).bind fun l3=>(apn fZ ([bR]:List Int)).bind fun l6=>(br.p F ft bR).bind fun r8=>aq.pl7853 F ax k ft fY l3 ch l6 r8) else (aq.pj6 F ax ft fY dS ch fZ))
termination_by structural n=>n
theorem aq.l7853_P {F:Nat} {H0:Hp} {Ri R0:List Rs}  {C61_:Nat→Nat→Sl→Sl→Int→Hp→OA} {ax:List (Int×Int×Int×Int×Int)→List (List Int)→List Bool→Int→Option (List (List Int))} (hC61:aq.S61 H0 Ri R0  C61_ ax):∀ k,aq.S7853 H0 Ri R0  (aq.l7853 F (br.tw F) C61_ k) (aq.pl7853 F ax k):=by
 intro k
 induction k with
 | zero=>
  intro jT jU jV jW jf b_ jg jh ji jX jY jZ j_ ft lM ch bR fY ka kb kc dS fZ H oA oB oC oD h0 r hp
  exact nomatch (show (none:Option (List (List Int))) = some r from hp)
 | succ k ih=>
  intro jT jU jV jW jf b_ jg jh ji jX jY jZ j_ ft lM ch bR fY ka kb kc dS fZ H oA oB oC oD h0 r hp
  obtain ⟨w0,s0,lU,oE,kd,oF⟩:=h0
  subst oA
  subst oB
  subst oC
  subst oD
  unfold aq.pl7853 at hp
  unfold aq.l7853
  obtain ⟨n1,g1,hp⟩:=bind_some' hp
  obtain ⟨p1,q1,i1,h1,j1⟩:=W.ixo (E:=eBool) w0 (i:=2) rfl rfl kd g1
  refine bind_ex i1 ?_
  have h1:_ = [_]:=h1
  subst h1
  refine bind_ex (ldB_of (j1 0 _ rfl)) ?_
  refine bif_ex (fun hb=>?_) (fun hb=>?_)
  ·replace hp:=bif_t hb hp
   obtain ⟨n2,g2,hp⟩:=bind_some' hp
   obtain ⟨p2,q2,i2,h2,j2⟩:=W.ixo (E:=eBool) w0 (i:=2) rfl rfl kd g2
   refine bind_ex i2 ?_
   obtain ⟨l3,e3,hp⟩:=bind_some' hp
   refine sto_k eBool w0 (i:=2) (j:=0) (p:=p2) rfl rfl kd g2 i2 e3 rfl rfl (fun _ h=>by have h:_ = [_]:=h; subst h; exact rfl) fun H4 k4 w4 s4 c4=>?_
   dsimp only [List.set] at w4 s4 c4
   refine newS_k (eInt .i64) w4 (n:=1) (l:=([bR]:List Int)) rfl (CR.cons1 rfl CR.empty) rfl fun H5 w5 s5 c5=>?_
   refine bind_ex (w5.rowo (i:=0) rfl) ?_
   obtain ⟨l6,e6,hp⟩:=bind_some' hp
   refine app_k (eInt .i64) w5 (i:=4) rfl rfl (oF.step (s4.trans s5)) c5 (show 1 = List.length ([bR]:List Int) from rfl) rfl e6 fun a7 d7 H7 w7 s7 c7 x7=>?_
   dsimp only [List.set] at w7 s7 c7
   refine bind_ex (ldSl_of (w7.ld (i:=1) rfl rfl)) ?_
   refine bind_ex (ldI_of (w7.ld (i:=1) rfl rfl)) ?_
   obtain ⟨r8,e8,hp⟩:=bind_some' hp
   refine call_ex (br.P rfl ⟨w7,(lU.step (s4.trans (s5.trans s7)))⟩ e8) ?_
   rintro _ H9 ⟨rfl,w9,s9,_⟩
   refine bind_ex rfl ?_
   obtain ⟨w10,s10⟩:=w9.pick' [1,2,3,4] 5 rfl rfl rfl
   dsimp only [pk,pks,nth,List.drop] at w10 s10
   exact ih rfl rfl ((st_len e3).symm) rfl ⟨w10,(s0.trans (s4.trans (s5.trans (s7.trans (s9.trans s10))))),(lU.step (s4.trans (s5.trans (s7.trans (s9.trans s10))))),(oE.step (s4.trans (s5.trans (s7.trans (s9.trans s10))))),(c4.step (s5.trans (s7.trans (s9.trans s10)))),(c7.step (s9.trans s10))⟩ hp
  ·replace hp:=bif_f hb hp
   exact aq.j6_P (@hC61) rfl rfl rfl rfl ⟨w0,s0,lU,oE,kd,oF⟩ hp
def aq.pl61 (F:Nat) :Nat→List (Int×Int×Int×Int×Int)→List (List Int)→List Bool→Int→Option (List (List Int))
 | 0,_,_,_,_=>none
 | k + 1,cm,fq,cK,bE=>(bif (decide (bE < (cK.length:Int))) then ((ix cK bE).bind fun n1=>(bif (gt cK n1) then (aq.pj4 F (aq.pl61 F k) cm fq cK bE) else (aq.pl7853 F (aq.pl61 F k) F cm fq cK bE ([]:List Int) bE))) else (some fq))
termination_by structural n=>n
theorem aq.l61_P {F:Nat} {H0:Hp} {Ri R0:List Rs}  :∀ k,aq.S61 H0 Ri R0  (aq.l61 F (br.tw F)  k) (aq.pl61 F  k):=by
 intro k
 induction k with
 | zero=>
  intro gT jQ gU fW bH jb fX gV jR gW cm ja bE fq jS gX cK H lc oG lf h0 r hp
  exact nomatch (show (none:Option (List (List Int))) = some r from hp)
 | succ k ih=>
  intro gT jQ gU fW bH jb fX gV jR gW cm ja bE fq jS gX cK H lc oG lf h0 r hp
  obtain ⟨w0,s0,jP,lV,jE⟩:=h0
  subst lc
  subst oG
  subst lf
  unfold aq.pl61 at hp
  unfold aq.l61
  refine bif_ex (fun hb=>?_) (fun hb=>?_)
  ·replace hp:=bif_t hb hp
   obtain ⟨n1,g1,hp⟩:=bind_some' hp
   obtain ⟨p1,q1,i1,h1,j1⟩:=W.ixo (E:=eBool) w0 (i:=2) rfl rfl jE g1
   refine bind_ex i1 ?_
   have h1:_ = [_]:=h1
   subst h1
   refine bind_ex (ldB_of (j1 0 _ rfl)) ?_
   refine bif_ex (fun hb=>?_) (fun hb=>?_)
   ·replace hp:=bif_t hb hp
    exact aq.j4_P (@ih) rfl rfl rfl ⟨w0,s0,jP,lV,jE⟩ hp
   ·replace hp:=bif_f hb hp
    refine newS_k (eInt .i64) w0 (n:=0) (l:=([]:List Int)) rfl CR.empty rfl fun H2 w2 s2 c2=>?_
    obtain ⟨w3,s3⟩:=w2.pick' [1,2,3,0] 4 rfl rfl rfl
    dsimp only [pk,pks,nth,List.drop] at w3 s3
    exact aq.l7853_P (@ih) F rfl rfl rfl (show 0 = List.length ([]:List Int) from rfl) ⟨w3,(s0.trans (s2.trans s3)),(jP.step (s2.trans s3)),(lV.step (s2.trans s3)),(jE.step (s2.trans s3)),(c2.step s3)⟩ hp
  ·replace hp:=bif_f hb hp
   obtain ⟨w4,s4⟩:=w0.pick' [1] 3 rfl rfl rfl
   dsimp only [pk,pks,nth,List.drop] at w4 s4
   obtain rfl:=Option.some.inj hp
   exact ⟨_,_,rfl,_,_,_,_,rfl,rfl,w4,(s0.trans s4),(lV.step s4)⟩
def aq.p (F:Nat) (ac:List (Int×Int×Int×Int×Int)):Option (List (List Int)):=(mkn (IntKind.i64.wrap (4 * (ac.length:Int))) false).bind fun l3=>aq.pl61 F F ac ([]:List (List Int)) l3 0
theorem aq.P {F:Nat} {au:ON} {ah:Nat} {av:Cap} {ac:List (Int×Int×Int×Int×Int)} {ab:Int} {H:Hp} {R0:List Rs} (bb:ah = ac.length) (h0:Inn H R0 fun R=>ROs (ePair (eInt .i64) (ePair (eInt .i64) (ePair (eInt .i64) (ePair (eInt .i64) (eInt .i64))))) H R ⟨au,ah,av⟩ ac) {r:List (List Int)} (hp:aq.p F ac = some r):∃ v H',aq.tw F ⟨au,ah,av⟩ ab H = some (v,H')∧aq.Q H R0 R0  r v H':=by
 obtain ⟨w0,aL⟩:=h0
 subst bb
 unfold aq.p at hp
 unfold aq.tw aq.twX
 have s0:=w0.rf
 refine new_k w0 fun H1 w1 s1=>?_
 refine newS_k (eSl (eInt .i64)) w1 (n:=0) (l:=([]:List (List Int))) rfl CR.empty rfl fun H2 w2 s2 c2=>?_
 refine bind_ex (ldSl_of (w2.ld (i:=1) rfl rfl)) ?_
 obtain ⟨l3,e3,hp⟩:=bind_some' hp
 refine mk_k eBool false w2 rfl rfl rfl e3 fun H4 k4 w4 s4 c4=>?_
 obtain ⟨w5,s5⟩:=w4.pick' [2,1,0] 3 rfl rfl rfl
 dsimp only [pk,pks,nth,List.drop] at w5 s5
 exact aq.l61_P F rfl (show 0 = List.length ([]:List (List Int)) from rfl) rfl ⟨w5,(s0.trans (s1.trans (s2.trans (s4.trans s5)))),(aL.step (s1.trans (s2.trans (s4.trans s5)))),(c2.step (s4.trans s5)),(c4.step s5)⟩ hp
def ag.Q (H0:Hp) (Ri R0:List Rs)  (r:List Int) (v:AV) (H':Hp):Prop:=∃ o0a:ON,∃ o0n:Nat,∃ o0c:Cap,∃ o0k:List AV,v = (.sl ⟨o0a,o0n,o0c⟩)∧o0n = (r).length∧Out H0 Ri H' (Rs.own ⟨o0a,o0n,o0c⟩ (eInt .i64).z o0k :: R0) fun R=>CR (eInt .i64) H' R o0k (r)
def ag.S29 (H0:Hp) (Ri R0:List Rs)  (C:Nat→Nat→Sl→Int→Hp→OA) (pC:List (Int×Int×Int×Int×Int)→List Int→Int→Option (List Int)):Prop:=∀ {ke sp:ON} {jp cq oH:Nat} {kf sq:Cap} {fu:List (Int×Int×Int×Int×Int)} {jq cH:Int} {li:List Int} {ss:List AV},∀ {H:Hp},jp = fu.length→oH = li.length→(Out H0 Ri H (Rs.blk cq [.sl ⟨ke,jp,kf⟩,.int .i64 jq] :: Rs.own ⟨sp,oH,sq⟩ (eInt .i64).z ss :: R0) fun R=>ROs (ePair (eInt .i64) (ePair (eInt .i64) (ePair (eInt .i64) (ePair (eInt .i64) (eInt .i64))))) H R ⟨ke,jp,kf⟩ fu∧CR (eInt .i64) H R ss li)→∀ {r:List Int},pC fu li cH = some r→∃ v H',C cq 0 ⟨sp,oH,sq⟩ cH H = some (v,H')∧ag.Q H0 Ri R0  r v H'
def ag.S61 (H0:Hp) (Ri R0:List Rs)  (C:Nat→Nat→Sl→Int→Hp→OA) (pC:List (Int×Int×Int×Int×Int)→List Int→Int→Option (List Int)):Prop:=∀ {su sv:ON} {oI bZ oJ:Nat} {sw sx:Cap} {jF:List (Int×Int×Int×Int×Int)} {xq eb:Int} {iB:List Int} {sy:List AV},∀ {H:Hp},oI = jF.length→oJ = iB.length→(Out H0 Ri H (Rs.blk bZ [.sl ⟨su,oI,sw⟩,.int .i64 xq] :: Rs.own ⟨sv,oJ,sx⟩ (eInt .i64).z sy :: R0) fun R=>ROs (ePair (eInt .i64) (ePair (eInt .i64) (ePair (eInt .i64) (ePair (eInt .i64) (eInt .i64))))) H R ⟨su,oI,sw⟩ jF∧CR (eInt .i64) H R sy iB)→∀ {r:List Int},pC jF iB eb = some r→∃ v H',C bZ 0 ⟨sv,oJ,sx⟩ eb H = some (v,H')∧ag.Q H0 Ri R0  r v H'
def ag.S7855 (H0:Hp) (Ri R0:List Rs)  (C:Nat→Nat→Sl→Int→Int→Int→Int→Hp→OA) (pC:List (Int×Int×Int×Int×Int)→List Int→Int→Int→Int→Int→Option (List Int)):Prop:=∀ {sB sC:ON} {oK eB oL:Nat} {sD sE:Cap} {kg:List (Int×Int×Int×Int×Int)} {xr dK cS dd dz:Int} {hY:List Int} {sF:List AV},∀ {H:Hp},oK = kg.length→oL = hY.length→(Out H0 Ri H (Rs.blk eB [.sl ⟨sB,oK,sD⟩,.int .i64 xr] :: Rs.own ⟨sC,oL,sE⟩ (eInt .i64).z sF :: R0) fun R=>ROs (ePair (eInt .i64) (ePair (eInt .i64) (ePair (eInt .i64) (ePair (eInt .i64) (eInt .i64))))) H R ⟨sB,oK,sD⟩ kg∧CR (eInt .i64) H R sF hY)→∀ {r:List Int},pC kg hY dK cS dd dz = some r→∃ v H',C eB 0 ⟨sC,oL,sE⟩ dK cS dd dz H = some (v,H')∧ag.Q H0 Ri R0  r v H'
def ag.pj8 (F:Nat) (sG:List (Int×Int×Int×Int×Int)→List Int→Int→Int→Int→Int→Option (List Int)) (oM:List (Int×Int×Int×Int×Int)) (oN:List Int) (mr:Int) (ms:Int) (mu:Int) (mv:Int):Option (List Int):=sG oM oN mr ms mu (IntKind.i64.wrap (mv + 1))
theorem ag.j8_P {F:Nat} {H0:Hp} {Ri R0:List Rs}  {C7855_:Nat→Nat→Sl→Int→Int→Int→Int→Hp→OA} {sG:List (Int×Int×Int×Int×Int)→List Int→Int→Int→Int→Int→Option (List Int)} (hC7855:ag.S7855 H0 Ri R0  C7855_ sG) {Ab Ac:ON} {xt rD xu:Nat} {Ad Ae:Cap} {oM:List (Int×Int×Int×Int×Int)} {Hr mr ms mu mv:Int} {oN:List Int} {Af:List AV} {H:Hp} (Hs:xt = oM.length) (Ht:xu = oN.length) (h0:Out H0 Ri H (Rs.blk rD [.sl ⟨Ab,xt,Ad⟩,.int .i64 Hr] :: Rs.own ⟨Ac,xu,Ae⟩ (eInt .i64).z Af :: R0) fun R=>ROs (ePair (eInt .i64) (ePair (eInt .i64) (ePair (eInt .i64) (ePair (eInt .i64) (eInt .i64))))) H R ⟨Ab,xt,Ad⟩ oM∧CR (eInt .i64) H R Af oN) {r:List Int} (hp:ag.pj8 F sG oM oN mr ms mu mv = some r):∃ v H',ag.j8 F (aj.tw F) C7855_ rD 0 ⟨Ac,xu,Ae⟩ mr ms mu mv H = some (v,H')∧ag.Q H0 Ri R0  r v H':=by
 obtain ⟨w0,s0,Hu,Hv⟩:=h0
 subst Hs
 subst Ht
 unfold ag.pj8 at hp
 unfold ag.j8
 exact hC7855 rfl rfl ⟨w0,s0,Hu,Hv⟩ hp
def ag.pj6 (F:Nat) (ax:List (Int×Int×Int×Int×Int)→List Int→Int→Option (List Int)) (oO:List (Int×Int×Int×Int×Int)) (oP:List Int) (mp:Int):Option (List Int):=ax oO oP (IntKind.i64.wrap (mp + 1))
theorem ag.j6_P {F:Nat} {H0:Hp} {Ri R0:List Rs}  {C61_:Nat→Nat→Sl→Int→Hp→OA} {ax:List (Int×Int×Int×Int×Int)→List Int→Int→Option (List Int)} (hC61:ag.S61 H0 Ri R0  C61_ ax) {Ag Ah:ON} {xv rB xw:Nat} {Ai Aj:Cap} {oO:List (Int×Int×Int×Int×Int)} {Hw mp:Int} {oP:List Int} {Ak:List AV} {H:Hp} (Hx:xv = oO.length) (Hy:xw = oP.length) (h0:Out H0 Ri H (Rs.blk rB [.sl ⟨Ag,xv,Ai⟩,.int .i64 Hw] :: Rs.own ⟨Ah,xw,Aj⟩ (eInt .i64).z Ak :: R0) fun R=>ROs (ePair (eInt .i64) (ePair (eInt .i64) (ePair (eInt .i64) (ePair (eInt .i64) (eInt .i64))))) H R ⟨Ag,xv,Ai⟩ oO∧CR (eInt .i64) H R Ak oP) {r:List Int} (hp:ag.pj6 F ax oO oP mp = some r):∃ v H',ag.j6 F (aj.tw F) C61_ rB 0 ⟨Ah,xw,Aj⟩ mp H = some (v,H')∧ag.Q H0 Ri R0  r v H':=by
 obtain ⟨w0,s0,Hz,HA⟩:=h0
 subst Hx
 subst Hy
 unfold ag.pj6 at hp
 unfold ag.j6
 exact hC61 rfl rfl ⟨w0,s0,Hz,HA⟩ hp
def ag.pj7 (F:Nat) (ax:List (Int×Int×Int×Int×Int)→List Int→Int→Option (List Int)) (oQ:List (Int×Int×Int×Int×Int)) (oR:List Int) (kS:Int):Option (List Int):=ag.pj6 F ax oQ oR kS
theorem ag.j7_P {F:Nat} {H0:Hp} {Ri R0:List Rs}  {C61_:Nat→Nat→Sl→Int→Hp→OA} {ax:List (Int×Int×Int×Int×Int)→List Int→Int→Option (List Int)} (hC61:ag.S61 H0 Ri R0  C61_ ax) {Al Am:ON} {xx rC xy:Nat} {An Ao:Cap} {oQ:List (Int×Int×Int×Int×Int)} {HB kS:Int} {oR:List Int} {Ap:List AV} {H:Hp} (HC:xx = oQ.length) (HD:xy = oR.length) (h0:Out H0 Ri H (Rs.blk rC [.sl ⟨Al,xx,An⟩,.int .i64 HB] :: Rs.own ⟨Am,xy,Ao⟩ (eInt .i64).z Ap :: R0) fun R=>ROs (ePair (eInt .i64) (ePair (eInt .i64) (ePair (eInt .i64) (ePair (eInt .i64) (eInt .i64))))) H R ⟨Al,xx,An⟩ oQ∧CR (eInt .i64) H R Ap oR) {r:List Int} (hp:ag.pj7 F ax oQ oR kS = some r):∃ v H',ag.j7 F (aj.tw F) C61_ rC 0 ⟨Am,xy,Ao⟩ kS H = some (v,H')∧ag.Q H0 Ri R0  r v H':=by
 obtain ⟨w0,s0,HE,HF⟩:=h0
 subst HC
 subst HD
 unfold ag.pj7 at hp
 unfold ag.j7
 exact ag.j6_P (@hC61) rfl rfl ⟨w0,s0,HE,HF⟩ hp
def ag.pl7855 (F:Nat) (ax:List (Int×Int×Int×Int×Int)→List Int→Int→Option (List Int)):Nat→List (Int×Int×Int×Int×Int)→List Int→Int→Int→Int→Int→Option (List Int)
 | 0,_,_,_,_,_,_=>none
 | k + 1,kg,hY,dK,cS,dd,dz=>(bif (decide (dz < (hY.length:Int))) then ((ix hY dz).bind fun n1=>(bif ((gt hY n1) == (if dd > cS then dd else cS)) then ((ix hY dz).bind fun n2=>(some (hY.set n2 (if dd < cS then dd else cS))).bind fun l3=>ag.pj8 F (ag.pl7855 F ax k) kg l3 dK cS dd dz) else (ag.pj8 F (ag.pl7855 F ax k) kg hY dK cS dd dz))) else (ag.pj7 F ax kg hY dK))
termination_by structural n=>n
theorem ag.l7855_P {F:Nat} {H0:Hp} {Ri R0:List Rs}  {C61_:Nat→Nat→Sl→Int→Hp→OA} {ax:List (Int×Int×Int×Int×Int)→List Int→Int→Option (List Int)} (hC61:ag.S61 H0 Ri R0  C61_ ax):∀ k,ag.S7855 H0 Ri R0  (ag.l7855 F (aj.tw F) C61_ k) (ag.pl7855 F ax k):=by
 intro k
 induction k with
 | zero=>
  intro sB sC oK eB oL sD sE kg xr dK cS dd dz hY sF H Aq Ar h0 r hp
  exact nomatch (show (none:Option (List Int)) = some r from hp)
 | succ k ih=>
  intro sB sC oK eB oL sD sE kg xr dK cS dd dz hY sF H Aq Ar h0 r hp
  obtain ⟨w0,s0,xz,oS⟩:=h0
  subst Aq
  subst Ar
  unfold ag.pl7855 at hp
  unfold ag.l7855
  refine bif_ex (fun hb=>?_) (fun hb=>?_)
  ·replace hp:=bif_t hb hp
   obtain ⟨n1,g1,hp⟩:=bind_some' hp
   obtain ⟨p1,q1,i1,h1,j1⟩:=W.ixo (E:=(eInt .i64)) w0 (i:=1) rfl rfl oS g1
   refine bind_ex i1 ?_
   have h1:_ = [_]:=h1
   subst h1
   refine bind_ex (ldI_of (j1 0 _ rfl)) ?_
   refine bif_ex (fun hb=>?_) (fun hb=>?_)
   ·replace hp:=bif_t hb hp
    obtain ⟨n2,g2,hp⟩:=bind_some' hp
    obtain ⟨p2,q2,i2,h2,j2⟩:=W.ixo (E:=(eInt .i64)) w0 (i:=1) rfl rfl oS g2
    refine bind_ex i2 ?_
    obtain ⟨l3,e3,hp⟩:=bind_some' hp
    refine sto_k (eInt .i64) w0 (i:=1) (j:=0) (p:=p2) rfl rfl oS g2 i2 e3 rfl rfl (fun _ h=>by have h:_ = [_]:=h; subst h; exact rfl) fun H4 k4 w4 s4 c4=>?_
    dsimp only [List.set] at w4 s4 c4
    exact ag.j8_P (@ih) rfl ((st_len e3).symm) ⟨w4,(s0.trans s4),(xz.step s4),c4⟩ hp
   ·replace hp:=bif_f hb hp
    exact ag.j8_P (@ih) rfl rfl ⟨w0,s0,xz,oS⟩ hp
  ·replace hp:=bif_f hb hp
   exact ag.j7_P (@hC61) rfl rfl ⟨w0,s0,xz,oS⟩ hp
def ag.pl61 (F:Nat) :Nat→List (Int×Int×Int×Int×Int)→List Int→Int→Option (List Int)
 | 0,_,_,_=>none
 | k + 1,jF,iB,eb=>(bif (decide (eb < (IntKind.i64.wrap (2 * (jF.length:Int))))) then ((aj.p F jF eb true).bind fun r1=>(aj.p F jF eb false).bind fun r3=>(ix iB r1.1).bind fun n5=>(ix iB r3.1).bind fun n6=>ag.pl7855 F (ag.pl61 F k) F jF iB eb (gt iB n5) (gt iB n6) 0) else (some iB))
termination_by structural n=>n
theorem ag.l61_P {F:Nat} {H0:Hp} {Ri R0:List Rs}  :∀ k,ag.S61 H0 Ri R0  (ag.l61 F (aj.tw F)  k) (ag.pl61 F  k):=by
 intro k
 induction k with
 | zero=>
  intro su sv oI bZ oJ sw sx jF xq eb iB sy H As At h0 r hp
  exact nomatch (show (none:Option (List Int)) = some r from hp)
 | succ k ih=>
  intro su sv oI bZ oJ sw sx jF xq eb iB sy H As At h0 r hp
  obtain ⟨w0,s0,xA,sH⟩:=h0
  subst As
  subst At
  unfold ag.pl61 at hp
  unfold ag.l61
  refine bind_ex (ldSl_of (w0.ld (i:=0) rfl rfl)) ?_
  refine bif_ex (fun hb=>?_) (fun hb=>?_)
  ·replace hp:=bif_t hb hp
   refine bind_ex (ldSl_of (w0.ld (i:=0) rfl rfl)) ?_
   refine bind_ex (ldI_of (w0.ld (i:=0) rfl rfl)) ?_
   obtain ⟨r1,e1,hp⟩:=bind_some' hp
   refine call_ex (aj.P rfl ⟨w0,xA⟩ e1) ?_
   rintro _ H2 ⟨rfl,w2,s2,_⟩
   refine bind_ex rfl ?_
   refine bind_ex rfl ?_
   refine bind_ex rfl ?_
   refine bind_ex rfl ?_
   refine bind_ex rfl ?_
   refine bind_ex (ldSl_of (w2.ld (i:=0) rfl rfl)) ?_
   refine bind_ex (ldI_of (w2.ld (i:=0) rfl rfl)) ?_
   obtain ⟨r3,e3,hp⟩:=bind_some' hp
   refine call_ex (aj.P rfl ⟨w2,(xA.step s2)⟩ e3) ?_
   rintro _ H4 ⟨rfl,w4,s4,_⟩
   refine bind_ex rfl ?_
   refine bind_ex rfl ?_
   refine bind_ex rfl ?_
   refine bind_ex rfl ?_
   refine bind_ex rfl ?_
   obtain ⟨n5,g5,hp⟩:=bind_some' hp
   obtain ⟨p5,q5,i5,h5,j5⟩:=W.ixo (E:=(eInt .i64)) w4 (i:=1) rfl rfl (sH.step (s2.trans s4)) g5
   refine bind_ex i5 ?_
   have h5:_ = [_]:=h5
   subst h5
   refine bind_ex (ldI_of (j5 0 _ rfl)) ?_
   obtain ⟨n6,g6,hp⟩:=bind_some' hp
   obtain ⟨p6,q6,i6,h6,j6⟩:=W.ixo (E:=(eInt .i64)) w4 (i:=1) rfl rfl (sH.step (s2.trans s4)) g6
   refine bind_ex i6 ?_
   have h6:_ = [_]:=h6
   subst h6
   refine bind_ex (ldI_of (j6 0 _ rfl)) ?_
   exact ag.l7855_P (@ih) F rfl rfl ⟨w4,(s0.trans (s2.trans s4)),(xA.step (s2.trans s4)),(sH.step (s2.trans s4))⟩ hp
  ·replace hp:=bif_f hb hp
   obtain ⟨w7,s7⟩:=w0.pick' [1] 2 rfl rfl rfl
   dsimp only [pk,pks,nth,List.drop] at w7 s7
   obtain rfl:=Option.some.inj hp
   exact ⟨_,_,rfl,_,_,_,_,rfl,rfl,w7,(s0.trans s7),(sH.step s7)⟩
def ag.pj9 (F:Nat)  (oT:List (Int×Int×Int×Int×Int)) (oU:List Int):Option (List Int):=ag.pl61 F F oT oU 0
theorem ag.j9_P {F:Nat} {H0:Hp} {Ri R0:List Rs}   {Au Av:ON} {xB rE xC:Nat} {Aw Ax:Cap} {oT:List (Int×Int×Int×Int×Int)} {HG:Int} {oU:List Int} {Ay:List AV} {H:Hp} (HH:xB = oT.length) (HI:xC = oU.length) (h0:Out H0 Ri H (Rs.blk rE [.sl ⟨Au,xB,Aw⟩,.int .i64 HG] :: Rs.own ⟨Av,xC,Ax⟩ (eInt .i64).z Ay :: R0) fun R=>ROs (ePair (eInt .i64) (ePair (eInt .i64) (ePair (eInt .i64) (ePair (eInt .i64) (eInt .i64))))) H R ⟨Au,xB,Aw⟩ oT∧CR (eInt .i64) H R Ay oU) {r:List Int} (hp:ag.pj9 F  oT oU = some r):∃ v H',ag.j9 F (aj.tw F)  rE 0 ⟨Av,xC,Ax⟩ H = some (v,H')∧ag.Q H0 Ri R0  r v H':=by
 obtain ⟨w0,s0,HJ,HK⟩:=h0
 subst HH
 subst HI
 unfold ag.pj9 at hp
 unfold ag.j9
 exact ag.l61_P F rfl rfl ⟨w0,s0,HJ,HK⟩ hp
def ag.pl29 (F:Nat) :Nat→List (Int×Int×Int×Int×Int)→List Int→Int→Option (List Int)
 | 0,_,_,_=>none
 | k + 1,fu,li,cH=>(bif (decide (cH < (fu.length:Int))) then ((apn li ([cH]:List Int)).bind fun l2=>ag.pl29 F k fu l2 (IntKind.i64.wrap (cH + 1))) else (ag.pj9 F fu li))
termination_by structural n=>n
theorem ag.l29_P {F:Nat} {H0:Hp} {Ri R0:List Rs}  :∀ k,ag.S29 H0 Ri R0  (ag.l29 F (aj.tw F)  k) (ag.pl29 F  k):=by
 intro k
 induction k with
 | zero=>
  intro ke sp jp cq oH kf sq fu jq cH li ss H oV Az h0 r hp
  exact nomatch (show (none:Option (List Int)) = some r from hp)
 | succ k ih=>
  intro ke sp jp cq oH kf sq fu jq cH li ss H oV Az h0 r hp
  obtain ⟨w0,s0,oW,AA⟩:=h0
  subst oV
  subst Az
  unfold ag.pl29 at hp
  unfold ag.l29
  refine bind_ex (ldSl_of (w0.ld (i:=0) rfl rfl)) ?_
  refine bif_ex (fun hb=>?_) (fun hb=>?_)
  ·replace hp:=bif_t hb hp
   refine newS_k (eInt .i64) w0 (n:=1) (l:=([cH]:List Int)) rfl (CR.cons1 rfl CR.empty) rfl fun H1 w1 s1 c1=>?_
   refine bind_ex (w1.rowo (i:=0) rfl) ?_
   obtain ⟨l2,e2,hp⟩:=bind_some' hp
   refine app_k (eInt .i64) w1 (i:=2) rfl rfl (AA.step s1) c1 (show 1 = List.length ([cH]:List Int) from rfl) rfl e2 fun a3 d3 H3 w3 s3 c3 x3=>?_
   dsimp only [List.set] at w3 s3 c3
   obtain ⟨w4,s4⟩:=w3.pick' [1,2] 3 rfl rfl rfl
   dsimp only [pk,pks,nth,List.drop] at w4 s4
   exact ih rfl rfl ⟨w4,(s0.trans (s1.trans (s3.trans s4))),(oW.step (s1.trans (s3.trans s4))),(c3.step s4)⟩ hp
  ·replace hp:=bif_f hb hp
   exact ag.j9_P rfl rfl ⟨w0,s0,oW,AA⟩ hp
def ag.p (F:Nat) (ac:List (Int×Int×Int×Int×Int)):Option (List Int):=ag.pl29 F F ac ([]:List Int) 0
theorem ag.P {F:Nat} {au:ON} {ah:Nat} {av:Cap} {ac:List (Int×Int×Int×Int×Int)} {ab:Int} {H:Hp} {R0:List Rs} (bb:ah = ac.length) (h0:Inn H R0 fun R=>ROs (ePair (eInt .i64) (ePair (eInt .i64) (ePair (eInt .i64) (ePair (eInt .i64) (eInt .i64))))) H R ⟨au,ah,av⟩ ac) {r:List Int} (hp:ag.p F ac = some r):∃ v H',ag.tw F ⟨au,ah,av⟩ ab H = some (v,H')∧ag.Q H R0 R0  r v H':=by
 obtain ⟨w0,aL⟩:=h0
 subst bb
 unfold ag.p at hp
 unfold ag.tw ag.twX
 have s0:=w0.rf
 refine new_k w0 fun H1 w1 s1=>?_
 refine newS_k (eInt .i64) w1 (n:=0) (l:=([]:List Int)) rfl CR.empty rfl fun H2 w2 s2 c2=>?_
 obtain ⟨w3,s3⟩:=w2.pick' [1,0] 2 rfl rfl rfl
 dsimp only [pk,pks,nth,List.drop] at w3 s3
 exact ag.l29_P F rfl (show 0 = List.length ([]:List Int) from rfl) ⟨w3,(s0.trans (s1.trans (s2.trans s3))),(aL.step (s1.trans (s2.trans s3))),(c2.step s3)⟩ hp
def aE.Q (H0:Hp) (Ri R0:List Rs)  (r:Int) (v:AV) (H':Hp):Prop:=v = (.int .i64 r)∧Out H0 Ri H' (R0) fun R=>True
def aE.S61 (H0:Hp) (Ri R0:List Rs)  (C:Int→Sl→Int→Hp→OA) (pC:Int→List Int→Int→Option (Int)):Prop:=∀ {ec dA:Int} {sI:ON} {oX:Nat} {sJ:Cap} {jr:List Int} {sK:List AV},∀ {H:Hp},oX = jr.length→(Out H0 Ri H (Rs.own ⟨sI,oX,sJ⟩ (eInt .i64).z sK :: R0) fun R=>CR (eInt .i64) H R sK jr)→∀ {r:Int},pC ec jr dA = some r→∃ v H',C ec ⟨sI,oX,sJ⟩ dA H = some (v,H')∧aE.Q H0 Ri R0  r v H'
def aE.pj2 (F:Nat) (ax:Int→List Int→Int→Option (Int)) (mx:Int) (oY:List Int) (mz:Int):Option (Int):=ax mx oY (IntKind.i64.wrap (mz + 1))
theorem aE.j2_P {F:Nat} {H0:Hp} {Ri R0:List Rs}  {C61_:Int→Sl→Int→Hp→OA} {ax:Int→List Int→Int→Option (Int)} (hC61:aE.S61 H0 Ri R0  C61_ ax) {mx mz:Int} {AB:ON} {xD:Nat} {AC:Cap} {oY:List Int} {AD:List AV} {H:Hp} (HL:xD = oY.length) (h0:Out H0 Ri H (Rs.own ⟨AB,xD,AC⟩ (eInt .i64).z AD :: R0) fun R=>CR (eInt .i64) H R AD oY) {r:Int} (hp:aE.pj2 F ax mx oY mz = some r):∃ v H',aE.j2 F (ag.tw F) C61_ mx ⟨AB,xD,AC⟩ mz H = some (v,H')∧aE.Q H0 Ri R0  r v H':=by
 obtain ⟨w0,s0,HM⟩:=h0
 subst HL
 unfold aE.pj2 at hp
 unfold aE.j2
 exact hC61 rfl ⟨w0,s0,HM⟩ hp
def aE.pl61 (F:Nat) :Nat→Int→List Int→Int→Option (Int)
 | 0,_,_,_=>none
 | k + 1,ec,jr,dA=>(bif (decide (dA < (jr.length:Int))) then ((ix jr dA).bind fun n1=>(bif ((gt jr n1) == dA) then (aE.pj2 F (aE.pl61 F k) (IntKind.i64.wrap (ec + 1)) jr dA) else (aE.pj2 F (aE.pl61 F k) ec jr dA))) else (some ec))
termination_by structural n=>n
theorem aE.l61_P {F:Nat} {H0:Hp} {Ri R0:List Rs}  :∀ k,aE.S61 H0 Ri R0  (aE.l61 F (ag.tw F)  k) (aE.pl61 F  k):=by
 intro k
 induction k with
 | zero=>
  intro ec dA sI oX sJ jr sK H AF h0 r hp
  exact nomatch (show (none:Option (Int)) = some r from hp)
 | succ k ih=>
  intro ec dA sI oX sJ jr sK H AF h0 r hp
  obtain ⟨w0,s0,xE⟩:=h0
  subst AF
  unfold aE.pl61 at hp
  unfold aE.l61
  refine bif_ex (fun hb=>?_) (fun hb=>?_)
  ·replace hp:=bif_t hb hp
   obtain ⟨n1,g1,hp⟩:=bind_some' hp
   obtain ⟨p1,q1,i1,h1,j1⟩:=W.ixo (E:=(eInt .i64)) w0 (i:=0) rfl rfl xE g1
   refine bind_ex i1 ?_
   have h1:_ = [_]:=h1
   subst h1
   refine bind_ex (ldI_of (j1 0 _ rfl)) ?_
   refine bif_ex (fun hb=>?_) (fun hb=>?_)
   ·replace hp:=bif_t hb hp
    exact aE.j2_P (@ih) rfl ⟨w0,s0,xE⟩ hp
   ·replace hp:=bif_f hb hp
    exact aE.j2_P (@ih) rfl ⟨w0,s0,xE⟩ hp
  ·replace hp:=bif_f hb hp
   obtain ⟨w2,s2⟩:=w0.pick' [] 1 rfl rfl rfl
   dsimp only [pk,pks,nth,List.drop] at w2 s2
   obtain rfl:=Option.some.inj hp
   exact ⟨_,_,rfl,rfl,w2,(s0.trans s2),trivial⟩
def aE.p (F:Nat) (ac:List (Int×Int×Int×Int×Int)):Option (Int):=(ag.p F ac).bind fun r2=>aE.pl61 F F 0 r2 0
theorem aE.P {F:Nat} {au:ON} {ah:Nat} {av:Cap} {ac:List (Int×Int×Int×Int×Int)} {ab:Int} {H:Hp} {R0:List Rs} (bb:ah = ac.length) (h0:Inn H R0 fun R=>ROs (ePair (eInt .i64) (ePair (eInt .i64) (ePair (eInt .i64) (ePair (eInt .i64) (eInt .i64))))) H R ⟨au,ah,av⟩ ac) {r:Int} (hp:aE.p F ac = some r):∃ v H',aE.tw F ⟨au,ah,av⟩ ab H = some (v,H')∧aE.Q H R0 R0  r v H':=by
 obtain ⟨w0,aL⟩:=h0
 subst bb
 unfold aE.p at hp
 unfold aE.tw aE.twX
 have s0:=w0.rf
 refine new_k w0 fun H1 w1 s1=>?_
 refine bind_ex (ldSl_of (w1.ld (i:=0) rfl rfl)) ?_
 refine bind_ex (ldI_of (w1.ld (i:=0) rfl rfl)) ?_
 obtain ⟨r2,e2,hp⟩:=bind_some' hp
 refine call_ex (ag.P rfl ⟨w1,(aL.step s1)⟩ e2) ?_
 rintro _ H3 ⟨o0a_3,o0n_3,o0c_3,o0k_3,rfl,rfl,w3,s3,f3_0⟩
 refine bind_ex rfl ?_
 obtain ⟨w4,s4⟩:=w3.pick' [0] 2 rfl rfl rfl
 dsimp only [pk,pks,nth,List.drop] at w4 s4
 exact aE.l61_P F rfl ⟨w4,(s0.trans (s1.trans (s3.trans s4))),(f3_0.step s4)⟩ hp
def bn.Q (H0:Hp) (Ri R0:List Rs)  (r:Bool) (v:AV) (H':Hp):Prop:=v = (.bool r)∧Out H0 Ri H' (R0) fun R=>True
def bn.p (F:Nat) (ac:List (Int×Int×Int×Int×Int)) (ab:Int):Option (Bool):=(bif (decide ((ac.length:Int) > 10)) then (some false) else ((aX.p F ab 0 8).bind fun r3=>(bif (!r3) then (some false) else ((aw.p F ac).bind fun r6=>(bif (!r6) then (some false) else ((aq.p F ac).bind fun r9=>(aE.p F ac).bind fun r12=>some ((r9.length:Int) == (IntKind.i64.wrap ((ac.length:Int) + (IntKind.i64.wrap (2 * r12)))))))))))
theorem bn.P {F:Nat} {au:ON} {ah:Nat} {av:Cap} {ac:List (Int×Int×Int×Int×Int)} {ab:Int} {H:Hp} {R0:List Rs} (bb:ah = ac.length) (h0:Inn H R0 fun R=>ROs (ePair (eInt .i64) (ePair (eInt .i64) (ePair (eInt .i64) (ePair (eInt .i64) (eInt .i64))))) H R ⟨au,ah,av⟩ ac) {r:Bool} (hp:bn.p F ac ab = some r):∃ v H',bn.tw F ⟨au,ah,av⟩ ab H = some (v,H')∧bn.Q H R0 R0  r v H':=by
 obtain ⟨w0,aL⟩:=h0
 subst bb
 unfold bn.p at hp
 unfold bn.tw bn.twX
 have s0:=w0.rf
 refine new_k w0 fun H1 w1 s1=>?_
 refine bind_ex (ldSl_of (w1.ld (i:=0) rfl rfl)) ?_
 refine bif_ex (fun hb=>?_) (fun hb=>?_)
 ·replace hp:=bif_t hb hp
  obtain ⟨w2,s2⟩:=w1.pick' [] 1 rfl rfl rfl
  dsimp only [pk,pks,nth,List.drop] at w2 s2
  obtain rfl:=Option.some.inj hp
  exact ⟨_,_,rfl,rfl,w2,(s0.trans (s1.trans s2)),trivial⟩
 ·replace hp:=bif_f hb hp
  refine bind_ex (ldI_of (w1.ld (i:=0) rfl rfl)) ?_
  obtain ⟨r3,e3,hp⟩:=bind_some' hp
  refine call_ex (aX.P ⟨w1,trivial⟩ e3) ?_
  rintro _ H4 ⟨rfl,w4,s4,_⟩
  refine bind_ex rfl ?_
  refine bif_ex (fun hb=>?_) (fun hb=>?_)
  ·replace hp:=bif_t hb hp
   obtain ⟨w5,s5⟩:=w4.pick' [] 1 rfl rfl rfl
   dsimp only [pk,pks,nth,List.drop] at w5 s5
   obtain rfl:=Option.some.inj hp
   exact ⟨_,_,rfl,rfl,w5,(s0.trans (s1.trans (s4.trans s5))),trivial⟩
  ·replace hp:=bif_f hb hp
   refine bind_ex (ldSl_of (w4.ld (i:=0) rfl rfl)) ?_
   refine bind_ex (ldI_of (w4.ld (i:=0) rfl rfl)) ?_
   obtain ⟨r6,e6,hp⟩:=bind_some' hp
   refine call_ex (aw.P rfl ⟨w4,(aL.step (s1.trans s4))⟩ e6) ?_
   rintro _ H7 ⟨rfl,w7,s7,_⟩
   refine bind_ex rfl ?_
   refine bif_ex (fun hb=>?_) (fun hb=>?_)
   ·replace hp:=bif_t hb hp
    obtain ⟨w8,s8⟩:=w7.pick' [] 1 rfl rfl rfl
    dsimp only [pk,pks,nth,List.drop] at w8 s8
    obtain rfl:=Option.some.inj hp
    exact ⟨_,_,rfl,rfl,w8,(s0.trans (s1.trans (s4.trans (s7.trans s8)))),trivial⟩
   ·replace hp:=bif_f hb hp
    refine bind_ex (ldSl_of (w7.ld (i:=0) rfl rfl)) ?_
    refine bind_ex (ldI_of (w7.ld (i:=0) rfl rfl)) ?_
    obtain ⟨r9,e9,hp⟩:=bind_some' hp
    refine call_ex (aq.P rfl ⟨w7,(aL.step (s1.trans (s4.trans s7)))⟩ e9) ?_
    rintro _ H10 ⟨o0a_10,o0n_10,o0c_10,o0k_10,rfl,rfl,w10,s10,f10_0⟩
    refine bind_ex rfl ?_
    refine ifs_ex (W.cons_of (Rn:=[_]) w7 w10 s10) ?_
    refine bind_ex (ldSl_of (w10.ld (i:=1) rfl rfl)) ?_
    refine bind_ex (ldSl_of (w10.ld (i:=1) rfl rfl)) ?_
    refine bind_ex (ldI_of (w10.ld (i:=1) rfl rfl)) ?_
    obtain ⟨r12,e12,hp⟩:=bind_some' hp
    refine call_ex (aE.P rfl ⟨w10,(aL.step (s1.trans (s4.trans (s7.trans s10))))⟩ e12) ?_
    rintro _ H13 ⟨rfl,w13,s13,_⟩
    refine bind_ex rfl ?_
    refine ifs_ex (W.cons_of (Rn:=[]) w10 w13 s13) ?_
    obtain ⟨w15,s15⟩:=w13.pick' [] 2 rfl rfl rfl
    dsimp only [pk,pks,nth,List.drop] at w15 s15
    obtain rfl:=Option.some.inj hp
    exact ⟨_,_,rfl,rfl,w15,(s0.trans (s1.trans (s4.trans (s7.trans (s10.trans (s13.trans s15)))))),trivial⟩
def ad.Q (H0:Hp) (Ri R0:List Rs)  (r:List Int×Int) (v:AV) (H':Hp):Prop:=∃ o0a:ON,∃ o0n:Nat,∃ o0c:Cap,∃ o0k:List AV,v = (.tup [(.sl ⟨o0a,o0n,o0c⟩),(.int .i64 r.2)])∧o0n = (r.1).length∧Out H0 Ri H' (Rs.own ⟨o0a,o0n,o0c⟩ (eInt .i64).z o0k :: R0) fun R=>CR (eInt .i64) H' R o0k (r.1)
def ad.S29 (H0:Hp) (Ri R0:List Rs)  (C:Nat→Nat→Sl→Int→Hp→OA) (pC:List (Int×Int×Int×Int×Int)→Int→List Int→Int→Option (List Int×Int)):Prop:=∀ {ke sL:ON} {jp cq oZ:Nat} {kf sM:Cap} {fu:List (Int×Int×Int×Int×Int)} {jq ee:Int} {lj:List Int} {sO:List AV},∀ {H:Hp},jp = fu.length→oZ = lj.length→(Out H0 Ri H (Rs.blk cq [.sl ⟨ke,jp,kf⟩,.int .i64 jq] :: Rs.own ⟨sL,oZ,sM⟩ (eInt .i64).z sO :: R0) fun R=>ROs (ePair (eInt .i64) (ePair (eInt .i64) (ePair (eInt .i64) (ePair (eInt .i64) (eInt .i64))))) H R ⟨ke,jp,kf⟩ fu∧CR (eInt .i64) H R sO lj)→∀ {r:List Int×Int},pC fu jq lj ee = some r→∃ v H',C cq 0 ⟨sL,oZ,sM⟩ ee H = some (v,H')∧ad.Q H0 Ri R0  r v H'
def ad.S61 (H0:Hp) (Ri R0:List Rs)  (C:Nat→Nat→Sl→Int→Hp→OA) (pC:List (Int×Int×Int×Int×Int)→Int→List Int→Int→Option (List Int×Int)):Prop:=∀ {sQ sS:ON} {o_ eL pa:Nat} {sT sU:Cap} {iC:List (Int×Int×Int×Int×Int)} {lW ed:Int} {iD:List Int} {sV:List AV},∀ {H:Hp},o_ = iC.length→pa = iD.length→(Out H0 Ri H (Rs.blk eL [.sl ⟨sQ,o_,sT⟩,.int .i64 lW] :: Rs.own ⟨sS,pa,sU⟩ (eInt .i64).z sV :: R0) fun R=>ROs (ePair (eInt .i64) (ePair (eInt .i64) (ePair (eInt .i64) (ePair (eInt .i64) (eInt .i64))))) H R ⟨sQ,o_,sT⟩ iC∧CR (eInt .i64) H R sV iD)→∀ {r:List Int×Int},pC iC lW iD ed = some r→∃ v H',C eL 0 ⟨sS,pa,sU⟩ ed H = some (v,H')∧ad.Q H0 Ri R0  r v H'
def ad.S1963 (H0:Hp) (Ri R0:List Rs)  (C:Nat→Nat→Sl→Int→Int→Int→Int→Hp→OA) (pC:List (Int×Int×Int×Int×Int)→Int→List Int→Int→Int→Int→Int→Option (List Int×Int)):Prop:=∀ {sW sX:ON} {pb eC pc:Nat} {sY sZ:Cap} {kh:List (Int×Int×Int×Int×Int)} {lk dL cT de dB:Int} {hZ:List Int} {s_:List AV},∀ {H:Hp},pb = kh.length→pc = hZ.length→(Out H0 Ri H (Rs.blk eC [.sl ⟨sW,pb,sY⟩,.int .i64 lk] :: Rs.own ⟨sX,pc,sZ⟩ (eInt .i64).z s_ :: R0) fun R=>ROs (ePair (eInt .i64) (ePair (eInt .i64) (ePair (eInt .i64) (ePair (eInt .i64) (eInt .i64))))) H R ⟨sW,pb,sY⟩ kh∧CR (eInt .i64) H R s_ hZ)→∀ {r:List Int×Int},pC kh lk hZ dL cT de dB = some r→∃ v H',C eC 0 ⟨sX,pc,sZ⟩ dL cT de dB H = some (v,H')∧ad.Q H0 Ri R0  r v H'
def ad.pj12 (F:Nat) (ta:List (Int×Int×Int×Int×Int)→Int→List Int→Int→Int→Int→Int→Option (List Int×Int)) (pd:List (Int×Int×Int×Int×Int)) (tc:Int) (pe:List Int) (mF:Int) (mG:Int) (mH:Int) (mI:Int):Option (List Int×Int):=ta pd tc pe mF mG mH (IntKind.i64.wrap (mI + 1))
theorem ad.j12_P {F:Nat} {H0:Hp} {Ri R0:List Rs}  {C1963_:Nat→Nat→Sl→Int→Int→Int→Int→Hp→OA} {ta:List (Int×Int×Int×Int×Int)→Int→List Int→Int→Int→Int→Int→Option (List Int×Int)} (hC1963:ad.S1963 H0 Ri R0  C1963_ ta) {AG AH:ON} {xF rK xG:Nat} {AI AJ:Cap} {pd:List (Int×Int×Int×Int×Int)} {tc mF mG mH mI:Int} {pe:List Int} {AK:List AV} {H:Hp} (HN:xF = pd.length) (HO:xG = pe.length) (h0:Out H0 Ri H (Rs.blk rK [.sl ⟨AG,xF,AI⟩,.int .i64 tc] :: Rs.own ⟨AH,xG,AJ⟩ (eInt .i64).z AK :: R0) fun R=>ROs (ePair (eInt .i64) (ePair (eInt .i64) (ePair (eInt .i64) (ePair (eInt .i64) (eInt .i64))))) H R ⟨AG,xF,AI⟩ pd∧CR (eInt .i64) H R AK pe) {r:List Int×Int} (hp:ad.pj12 F ta pd tc pe mF mG mH mI = some r):∃ v H',ad.j12 F  C1963_ rK 0 ⟨AH,xG,AJ⟩ mF mG mH mI H = some (v,H')∧ad.Q H0 Ri R0  r v H':=by
 obtain ⟨w0,s0,HP,HQ⟩:=h0
 subst HN
 subst HO
 unfold ad.pj12 at hp
 unfold ad.j12
 exact hC1963 rfl rfl ⟨w0,s0,HP,HQ⟩ hp
def ad.pj10 (F:Nat) (ax:List (Int×Int×Int×Int×Int)→Int→List Int→Int→Option (List Int×Int)) (pf:List (Int×Int×Int×Int×Int)) (td:Int) (pg:List Int) (mD:Int):Option (List Int×Int):=ax pf td pg (IntKind.i64.wrap (mD + 1))
theorem ad.j10_P {F:Nat} {H0:Hp} {Ri R0:List Rs}  {C61_:Nat→Nat→Sl→Int→Hp→OA} {ax:List (Int×Int×Int×Int×Int)→Int→List Int→Int→Option (List Int×Int)} (hC61:ad.S61 H0 Ri R0  C61_ ax) {AL AM:ON} {xH rI xI:Nat} {AN AO:Cap} {pf:List (Int×Int×Int×Int×Int)} {td mD:Int} {pg:List Int} {AP:List AV} {H:Hp} (HR:xH = pf.length) (HS:xI = pg.length) (h0:Out H0 Ri H (Rs.blk rI [.sl ⟨AL,xH,AN⟩,.int .i64 td] :: Rs.own ⟨AM,xI,AO⟩ (eInt .i64).z AP :: R0) fun R=>ROs (ePair (eInt .i64) (ePair (eInt .i64) (ePair (eInt .i64) (ePair (eInt .i64) (eInt .i64))))) H R ⟨AL,xH,AN⟩ pf∧CR (eInt .i64) H R AP pg) {r:List Int×Int} (hp:ad.pj10 F ax pf td pg mD = some r):∃ v H',ad.j10 F  C61_ rI 0 ⟨AM,xI,AO⟩ mD H = some (v,H')∧ad.Q H0 Ri R0  r v H':=by
 obtain ⟨w0,s0,HT,HU⟩:=h0
 subst HR
 subst HS
 unfold ad.pj10 at hp
 unfold ad.j10
 exact hC61 rfl rfl ⟨w0,s0,HT,HU⟩ hp
def ad.pj11 (F:Nat) (ax:List (Int×Int×Int×Int×Int)→Int→List Int→Int→Option (List Int×Int)) (ph:List (Int×Int×Int×Int×Int)) (te:Int) (pi:List Int) (mE:Int):Option (List Int×Int):=ad.pj10 F ax ph te pi mE
theorem ad.j11_P {F:Nat} {H0:Hp} {Ri R0:List Rs}  {C61_:Nat→Nat→Sl→Int→Hp→OA} {ax:List (Int×Int×Int×Int×Int)→Int→List Int→Int→Option (List Int×Int)} (hC61:ad.S61 H0 Ri R0  C61_ ax) {AQ AR:ON} {xJ rJ xK:Nat} {AS AT:Cap} {ph:List (Int×Int×Int×Int×Int)} {te mE:Int} {pi:List Int} {AU:List AV} {H:Hp} (HV:xJ = ph.length) (HW:xK = pi.length) (h0:Out H0 Ri H (Rs.blk rJ [.sl ⟨AQ,xJ,AS⟩,.int .i64 te] :: Rs.own ⟨AR,xK,AT⟩ (eInt .i64).z AU :: R0) fun R=>ROs (ePair (eInt .i64) (ePair (eInt .i64) (ePair (eInt .i64) (ePair (eInt .i64) (eInt .i64))))) H R ⟨AQ,xJ,AS⟩ ph∧CR (eInt .i64) H R AU pi) {r:List Int×Int} (hp:ad.pj11 F ax ph te pi mE = some r):∃ v H',ad.j11 F  C61_ rJ 0 ⟨AR,xK,AT⟩ mE H = some (v,H')∧ad.Q H0 Ri R0  r v H':=by
 obtain ⟨w0,s0,HX,HY⟩:=h0
 subst HV
 subst HW
 unfold ad.pj11 at hp
 unfold ad.j11
 exact ad.j10_P (@hC61) rfl rfl ⟨w0,s0,HX,HY⟩ hp
def ad.pl1963 (F:Nat) (ax:List (Int×Int×Int×Int×Int)→Int→List Int→Int→Option (List Int×Int)):Nat→List (Int×Int×Int×Int×Int)→Int→List Int→Int→Int→Int→Int→Option (List Int×Int)
 | 0,_,_,_,_,_,_,_=>none
 | k + 1,kh,lk,hZ,dL,cT,de,dB=>(bif (decide (dB < (hZ.length:Int))) then ((ix hZ dB).bind fun n1=>(bif ((gt hZ n1) == (if de > cT then de else cT)) then ((ix hZ dB).bind fun n2=>(some (hZ.set n2 (if de < cT then de else cT))).bind fun l3=>ad.pj12 F (ad.pl1963 F ax k) kh lk l3 dL cT de dB) else (ad.pj12 F (ad.pl1963 F ax k) kh lk hZ dL cT de dB))) else (ad.pj11 F ax kh lk hZ dL))
termination_by structural n=>n
theorem ad.l1963_P {F:Nat} {H0:Hp} {Ri R0:List Rs}  {C61_:Nat→Nat→Sl→Int→Hp→OA} {ax:List (Int×Int×Int×Int×Int)→Int→List Int→Int→Option (List Int×Int)} (hC61:ad.S61 H0 Ri R0  C61_ ax):∀ k,ad.S1963 H0 Ri R0  (ad.l1963 F  C61_ k) (ad.pl1963 F ax k):=by
 intro k
 induction k with
 | zero=>
  intro sW sX pb eC pc sY sZ kh lk dL cT de dB hZ s_ H AW AX h0 r hp
  exact nomatch (show (none:Option (List Int×Int)) = some r from hp)
 | succ k ih=>
  intro sW sX pb eC pc sY sZ kh lk dL cT de dB hZ s_ H AW AX h0 r hp
  obtain ⟨w0,s0,xL,pj⟩:=h0
  subst AW
  subst AX
  unfold ad.pl1963 at hp
  unfold ad.l1963
  refine bif_ex (fun hb=>?_) (fun hb=>?_)
  ·replace hp:=bif_t hb hp
   obtain ⟨n1,g1,hp⟩:=bind_some' hp
   obtain ⟨p1,q1,i1,h1,j1⟩:=W.ixo (E:=(eInt .i64)) w0 (i:=1) rfl rfl pj g1
   refine bind_ex i1 ?_
   have h1:_ = [_]:=h1
   subst h1
   refine bind_ex (ldI_of (j1 0 _ rfl)) ?_
   refine bif_ex (fun hb=>?_) (fun hb=>?_)
   ·replace hp:=bif_t hb hp
    obtain ⟨n2,g2,hp⟩:=bind_some' hp
    obtain ⟨p2,q2,i2,h2,j2⟩:=W.ixo (E:=(eInt .i64)) w0 (i:=1) rfl rfl pj g2
    refine bind_ex i2 ?_
    obtain ⟨l3,e3,hp⟩:=bind_some' hp
    refine sto_k (eInt .i64) w0 (i:=1) (j:=0) (p:=p2) rfl rfl pj g2 i2 e3 rfl rfl (fun _ h=>by have h:_ = [_]:=h; subst h; exact rfl) fun H4 k4 w4 s4 c4=>?_
    dsimp only [List.set] at w4 s4 c4
    exact ad.j12_P (@ih) rfl ((st_len e3).symm) ⟨w4,(s0.trans s4),(xL.step s4),c4⟩ hp
   ·replace hp:=bif_f hb hp
    exact ad.j12_P (@ih) rfl rfl ⟨w0,s0,xL,pj⟩ hp
  ·replace hp:=bif_f hb hp
   exact ad.j11_P (@hC61) rfl rfl ⟨w0,s0,xL,pj⟩ hp
def ad.S509 (H0:Hp) (Ri R0:List Rs)  (C:Nat→Nat→Sl→Sl→Int→Int→Hp→OA) (pC:Int→List Int→List Int→Int→Int→Option (List Int×Int)):Prop:=∀ {tf tg th:ON} {pl eK pm po:Nat} {ti tj tk:Cap} {tl:List (Int×Int×Int×Int×Int)} {ll du dl:Int} {h_ ia:List Int} {tn tp:List AV},∀ {H:Hp},pl = tl.length→pm = h_.length→po = ia.length→(Out H0 Ri H (Rs.blk eK [.sl ⟨tf,pl,ti⟩,.int .i64 ll] :: Rs.own ⟨tg,pm,tj⟩ (eInt .i64).z tn :: Rs.own ⟨th,po,tk⟩ (eInt .i64).z tp :: R0) fun R=>ROs (ePair (eInt .i64) (ePair (eInt .i64) (ePair (eInt .i64) (ePair (eInt .i64) (eInt .i64))))) H R ⟨tf,pl,ti⟩ tl∧CR (eInt .i64) H R tn h_∧CR (eInt .i64) H R tp ia)→∀ {r:List Int×Int},pC ll h_ ia du dl = some r→∃ v H',C eK 0 ⟨tg,pm,tj⟩ ⟨th,po,tk⟩ du dl H = some (v,H')∧ad.Q H0 Ri R0  r v H'
def ad.pj7 (F:Nat) (eV:Int→List Int→List Int→Int→Int→Option (List Int×Int)) (tq:Int) (pp:List Int) (pq:List Int) (mB:Int) (mC:Int):Option (List Int×Int):=eV tq pp pq mB (IntKind.i64.wrap (mC + 1))
theorem ad.j7_P {F:Nat} {H0:Hp} {Ri R0:List Rs}  {C509_:Nat→Nat→Sl→Sl→Int→Int→Hp→OA} {eV:Int→List Int→List Int→Int→Int→Option (List Int×Int)} (hC509:ad.S509 H0 Ri R0  C509_ eV) {AY AZ A_:ON} {xM rG xN xO:Nat} {Ba Bb Bc:Cap} {Bd:List (Int×Int×Int×Int×Int)} {tq mB mC:Int} {pp pq:List Int} {Be Bf:List AV} {H:Hp} (HZ:xM = Bd.length) (H_:xN = pp.length) (Ia:xO = pq.length) (h0:Out H0 Ri H (Rs.blk rG [.sl ⟨AY,xM,Ba⟩,.int .i64 tq] :: Rs.own ⟨AZ,xN,Bb⟩ (eInt .i64).z Be :: Rs.own ⟨A_,xO,Bc⟩ (eInt .i64).z Bf :: R0) fun R=>ROs (ePair (eInt .i64) (ePair (eInt .i64) (ePair (eInt .i64) (ePair (eInt .i64) (eInt .i64))))) H R ⟨AY,xM,Ba⟩ Bd∧CR (eInt .i64) H R Be pp∧CR (eInt .i64) H R Bf pq) {r:List Int×Int} (hp:ad.pj7 F eV tq pp pq mB mC = some r):∃ v H',ad.j7 F  C509_ rG 0 ⟨AZ,xN,Bb⟩ ⟨A_,xO,Bc⟩ mB mC H = some (v,H')∧ad.Q H0 Ri R0  r v H':=by
 obtain ⟨w0,s0,Ib,Ic,Id⟩:=h0
 subst HZ
 subst H_
 subst Ia
 unfold ad.pj7 at hp
 unfold ad.j7
 exact hC509 rfl rfl rfl ⟨w0,s0,Ib,Ic,Id⟩ hp
def ad.pj6 (F:Nat)  (ts:Int) (pr:List Int) (mA:Int):Option (List Int×Int):=some (pr,(IntKind.i64.wrap (mA + ts)))
theorem ad.j6_P {F:Nat} {H0:Hp} {Ri R0:List Rs}   {Bg Bh:ON} {xP rF xQ:Nat} {Bi Bj:Cap} {Bk:List (Int×Int×Int×Int×Int)} {ts mA:Int} {pr:List Int} {Bl:List AV} {H:Hp} (Ie:xP = Bk.length) (If:xQ = pr.length) (h0:Out H0 Ri H (Rs.blk rF [.sl ⟨Bg,xP,Bi⟩,.int .i64 ts] :: Rs.own ⟨Bh,xQ,Bj⟩ (eInt .i64).z Bl :: R0) fun R=>ROs (ePair (eInt .i64) (ePair (eInt .i64) (ePair (eInt .i64) (ePair (eInt .i64) (eInt .i64))))) H R ⟨Bg,xP,Bi⟩ Bk∧CR (eInt .i64) H R Bl pr) {r:List Int×Int} (hp:ad.pj6 F  ts pr mA = some r):∃ v H',ad.j6 F   rF 0 ⟨Bh,xQ,Bj⟩ mA H = some (v,H')∧ad.Q H0 Ri R0  r v H':=by
 obtain ⟨w0,s0,Kz,Ig⟩:=h0
 subst Ie
 subst If
 unfold ad.pj6 at hp
 unfold ad.j6
 refine bind_ex (ldI_of (w0.ld (i:=0) rfl rfl)) ?_
 obtain ⟨w1,s1⟩:=w0.pick' [1] 2 rfl rfl rfl
 dsimp only [pk,pks,nth,List.drop] at w1 s1
 obtain rfl:=Option.some.inj hp
 exact ⟨_,_,rfl,_,_,_,_,rfl,rfl,w1,(s0.trans s1),(Ig.step s1)⟩
def ad.pl509 (F:Nat) :Nat→Int→List Int→List Int→Int→Int→Option (List Int×Int)
 | 0,_,_,_,_,_=>none
 | k + 1,ll,h_,ia,du,dl=>(bif (decide (dl < (h_.length:Int))) then ((ix h_ dl).bind fun n1=>(bif ((gt h_ n1) == dl) then ((apn ia ([du]:List Int)).bind fun l3=>ad.pj7 F (ad.pl509 F k) ll h_ l3 (IntKind.i64.wrap (du + 1)) dl) else ((ix h_ dl).bind fun n6=>(ix ia (gt h_ n6)).bind fun n7=>(apn ia ([(gt ia n7)]:List Int)).bind fun l9=>ad.pj7 F (ad.pl509 F k) ll h_ l9 du dl))) else (ad.pj6 F ll ia du))
termination_by structural n=>n
theorem ad.l509_P {F:Nat} {H0:Hp} {Ri R0:List Rs}  :∀ k,ad.S509 H0 Ri R0  (ad.l509 F   k) (ad.pl509 F  k):=by
 intro k
 induction k with
 | zero=>
  intro tf tg th pl eK pm po ti tj tk tl ll du dl h_ ia tn tp H Bm Bn Bo h0 r hp
  exact nomatch (show (none:Option (List Int×Int)) = some r from hp)
 | succ k ih=>
  intro tf tg th pl eK pm po ti tj tk tl ll du dl h_ ia tn tp H Bm Bn Bo h0 r hp
  obtain ⟨w0,s0,xR,tt,tu⟩:=h0
  subst Bm
  subst Bn
  subst Bo
  unfold ad.pl509 at hp
  unfold ad.l509
  refine bif_ex (fun hb=>?_) (fun hb=>?_)
  ·replace hp:=bif_t hb hp
   obtain ⟨n1,g1,hp⟩:=bind_some' hp
   obtain ⟨p1,q1,i1,h1,j1⟩:=W.ixo (E:=(eInt .i64)) w0 (i:=1) rfl rfl tt g1
   refine bind_ex i1 ?_
   have h1:_ = [_]:=h1
   subst h1
   refine bind_ex (ldI_of (j1 0 _ rfl)) ?_
   refine bif_ex (fun hb=>?_) (fun hb=>?_)
   ·replace hp:=bif_t hb hp
    refine newS_k (eInt .i64) w0 (n:=1) (l:=([du]:List Int)) rfl (CR.cons1 rfl CR.empty) rfl fun H2 w2 s2 c2=>?_
    refine bind_ex (w2.rowo (i:=0) rfl) ?_
    obtain ⟨l3,e3,hp⟩:=bind_some' hp
    refine app_k (eInt .i64) w2 (i:=3) rfl rfl (tu.step s2) c2 (show 1 = List.length ([du]:List Int) from rfl) rfl e3 fun a4 d4 H4 w4 s4 c4 x4=>?_
    dsimp only [List.set] at w4 s4 c4
    obtain ⟨w5,s5⟩:=w4.pick' [1,2,3] 4 rfl rfl rfl
    dsimp only [pk,pks,nth,List.drop] at w5 s5
    exact ad.j7_P (@ih) rfl rfl rfl ⟨w5,(s0.trans (s2.trans (s4.trans s5))),(xR.step (s2.trans (s4.trans s5))),(tt.step (s2.trans (s4.trans s5))),(c4.step s5)⟩ hp
   ·replace hp:=bif_f hb hp
    obtain ⟨n6,g6,hp⟩:=bind_some' hp
    obtain ⟨p6,q6,i6,h6,j6⟩:=W.ixo (E:=(eInt .i64)) w0 (i:=1) rfl rfl tt g6
    refine bind_ex i6 ?_
    have h6:_ = [_]:=h6
    subst h6
    refine bind_ex (ldI_of (j6 0 _ rfl)) ?_
    obtain ⟨n7,g7,hp⟩:=bind_some' hp
    obtain ⟨p7,q7,i7,h7,j7⟩:=W.ixo (E:=(eInt .i64)) w0 (i:=2) rfl rfl tu g7
    refine bind_ex i7 ?_
    have h7:_ = [_]:=h7
    subst h7
    refine bind_ex (ldI_of (j7 0 _ rfl)) ?_
    refine newS_k (eInt .i64) w0 (n:=1) (l:=([(gt ia n7)]:List Int)) rfl (CR.cons1 rfl CR.empty) rfl fun H8 w8 s8 c8=>?_
    refine bind_ex (w8.rowo (i:=0) rfl) ?_
    obtain ⟨l9,e9,hp⟩:=bind_some' hp
    refine app_k (eInt .i64) w8 (i:=3) rfl rfl (tu.step s8) c8 (show 1 = List.length ([(gt ia n7)]:List Int) from rfl) rfl e9 fun a10 d10 H10 w10 s10 c10 x10=>?_
    dsimp only [List.set] at w10 s10 c10
    obtain ⟨w11,s11⟩:=w10.pick' [1,2,3] 4 rfl rfl rfl
    dsimp only [pk,pks,nth,List.drop] at w11 s11
    exact ad.j7_P (@ih) rfl rfl rfl ⟨w11,(s0.trans (s8.trans (s10.trans s11))),(xR.step (s8.trans (s10.trans s11))),(tt.step (s8.trans (s10.trans s11))),(c10.step s11)⟩ hp
  ·replace hp:=bif_f hb hp
   obtain ⟨w12,s12⟩:=w0.pick' [0,2] 3 rfl rfl rfl
   dsimp only [pk,pks,nth,List.drop] at w12 s12
   exact ad.j6_P rfl rfl ⟨w12,(s0.trans s12),(xR.step s12),(tu.step s12)⟩ hp
def ad.pj8 (F:Nat)  (tv:Int) (ps:List Int):Option (List Int×Int):=ad.pl509 F F tv ps ([]:List Int) 0 0
theorem ad.j8_P {F:Nat} {H0:Hp} {Ri R0:List Rs}   {Bp Bq:ON} {xS rH xT:Nat} {Br Bs:Cap} {Bt:List (Int×Int×Int×Int×Int)} {tv:Int} {ps:List Int} {Bu:List AV} {H:Hp} (Ih:xS = Bt.length) (Ii:xT = ps.length) (h0:Out H0 Ri H (Rs.blk rH [.sl ⟨Bp,xS,Br⟩,.int .i64 tv] :: Rs.own ⟨Bq,xT,Bs⟩ (eInt .i64).z Bu :: R0) fun R=>ROs (ePair (eInt .i64) (ePair (eInt .i64) (ePair (eInt .i64) (ePair (eInt .i64) (eInt .i64))))) H R ⟨Bp,xS,Br⟩ Bt∧CR (eInt .i64) H R Bu ps) {r:List Int×Int} (hp:ad.pj8 F  tv ps = some r):∃ v H',ad.j8 F   rH 0 ⟨Bq,xT,Bs⟩ H = some (v,H')∧ad.Q H0 Ri R0  r v H':=by
 obtain ⟨w0,s0,Ij,Ik⟩:=h0
 subst Ih
 subst Ii
 unfold ad.pj8 at hp
 unfold ad.j8
 refine newS_k (eInt .i64) w0 (n:=0) (l:=([]:List Int)) rfl CR.empty rfl fun H1 w1 s1 c1=>?_
 obtain ⟨w2,s2⟩:=w1.pick' [1,2,0] 3 rfl rfl rfl
 dsimp only [pk,pks,nth,List.drop] at w2 s2
 exact ad.l509_P F rfl rfl (show 0 = List.length ([]:List Int) from rfl) ⟨w2,(s0.trans (s1.trans s2)),(Ij.step (s1.trans s2)),(Ik.step (s1.trans s2)),(c1.step s2)⟩ hp
def ad.pl61 (F:Nat) :Nat→List (Int×Int×Int×Int×Int)→Int→List Int→Int→Option (List Int×Int)
 | 0,_,_,_,_=>none
 | k + 1,iC,lW,iD,ed=>(bif (decide (ed < (iC.length:Int))) then ((ix iC ed).bind fun n1=>(ix iD ((gt iC n1).2.1)).bind fun n2=>(ix iC ed).bind fun n3=>(ix iD ((gt iC n3).2.2.2.1)).bind fun n4=>ad.pl1963 F (ad.pl61 F k) F iC lW iD ed (gt iD n2) (gt iD n4) 0) else (ad.pj8 F lW iD))
termination_by structural n=>n
theorem ad.l61_P {F:Nat} {H0:Hp} {Ri R0:List Rs}  :∀ k,ad.S61 H0 Ri R0  (ad.l61 F   k) (ad.pl61 F  k):=by
 intro k
 induction k with
 | zero=>
  intro sQ sS o_ eL pa sT sU iC lW ed iD sV H Bv Bw h0 r hp
  exact nomatch (show (none:Option (List Int×Int)) = some r from hp)
 | succ k ih=>
  intro sQ sS o_ eL pa sT sU iC lW ed iD sV H Bv Bw h0 r hp
  obtain ⟨w0,s0,tx,tz⟩:=h0
  subst Bv
  subst Bw
  unfold ad.pl61 at hp
  unfold ad.l61
  refine bind_ex (ldSl_of (w0.ld (i:=0) rfl rfl)) ?_
  refine bif_ex (fun hb=>?_) (fun hb=>?_)
  ·replace hp:=bif_t hb hp
   refine bind_ex (ldSl_of (w0.ld (i:=0) rfl rfl)) ?_
   obtain ⟨n1,g1,hp⟩:=bind_some' hp
   obtain ⟨p1,q1,i1,h1,j1⟩:=ROs.ixr tx rfl g1
   refine bind_ex i1 ?_
   obtain ⟨_,_,rfl,rfl,_,_,rfl,rfl,_,_,rfl,rfl,_,_,rfl,rfl,rfl⟩:=h1
   refine bind_ex (ldI_of (j1 1 _ rfl)) ?_
   obtain ⟨n2,g2,hp⟩:=bind_some' hp
   obtain ⟨p2,q2,i2,h2,j2⟩:=W.ixo (E:=(eInt .i64)) w0 (i:=1) rfl rfl tz g2
   refine bind_ex i2 ?_
   have h2:_ = [_]:=h2
   subst h2
   refine bind_ex (ldI_of (j2 0 _ rfl)) ?_
   refine bind_ex (ldSl_of (w0.ld (i:=0) rfl rfl)) ?_
   obtain ⟨n3,g3,hp⟩:=bind_some' hp
   obtain ⟨p3,q3,i3,h3,j3⟩:=ROs.ixr tx rfl g3
   refine bind_ex i3 ?_
   obtain ⟨_,_,rfl,rfl,_,_,rfl,rfl,_,_,rfl,rfl,_,_,rfl,rfl,rfl⟩:=h3
   refine bind_ex (ldI_of (j3 3 _ rfl)) ?_
   obtain ⟨n4,g4,hp⟩:=bind_some' hp
   obtain ⟨p4,q4,i4,h4,j4⟩:=W.ixo (E:=(eInt .i64)) w0 (i:=1) rfl rfl tz g4
   refine bind_ex i4 ?_
   have h4:_ = [_]:=h4
   subst h4
   refine bind_ex (ldI_of (j4 0 _ rfl)) ?_
   exact ad.l1963_P (@ih) F rfl rfl ⟨w0,s0,tx,tz⟩ hp
  ·replace hp:=bif_f hb hp
   exact ad.j8_P rfl rfl ⟨w0,s0,tx,tz⟩ hp
def ad.pj13 (F:Nat)  (pt:List (Int×Int×Int×Int×Int)) (tB:Int) (pu:List Int):Option (List Int×Int):=ad.pl61 F F pt tB pu 0
theorem ad.j13_P {F:Nat} {H0:Hp} {Ri R0:List Rs}   {Bx By:ON} {xU mw xV:Nat} {Bz BA:Cap} {pt:List (Int×Int×Int×Int×Int)} {tB:Int} {pu:List Int} {BB:List AV} {H:Hp} (Il:xU = pt.length) (Im:xV = pu.length) (h0:Out H0 Ri H (Rs.blk mw [.sl ⟨Bx,xU,Bz⟩,.int .i64 tB] :: Rs.own ⟨By,xV,BA⟩ (eInt .i64).z BB :: R0) fun R=>ROs (ePair (eInt .i64) (ePair (eInt .i64) (ePair (eInt .i64) (ePair (eInt .i64) (eInt .i64))))) H R ⟨Bx,xU,Bz⟩ pt∧CR (eInt .i64) H R BB pu) {r:List Int×Int} (hp:ad.pj13 F  pt tB pu = some r):∃ v H',ad.j13 F   mw 0 ⟨By,xV,BA⟩ H = some (v,H')∧ad.Q H0 Ri R0  r v H':=by
 obtain ⟨w0,s0,In,Io⟩:=h0
 subst Il
 subst Im
 unfold ad.pj13 at hp
 unfold ad.j13
 exact ad.l61_P F rfl rfl ⟨w0,s0,In,Io⟩ hp
def ad.pl29 (F:Nat) :Nat→List (Int×Int×Int×Int×Int)→Int→List Int→Int→Option (List Int×Int)
 | 0,_,_,_,_=>none
 | k + 1,fu,jq,lj,ee=>(bif (decide (ee < (IntKind.i64.wrap (2 * (fu.length:Int))))) then ((apn lj ([ee]:List Int)).bind fun l2=>ad.pl29 F k fu jq l2 (IntKind.i64.wrap (ee + 1))) else (ad.pj13 F fu jq lj))
termination_by structural n=>n
theorem ad.l29_P {F:Nat} {H0:Hp} {Ri R0:List Rs}  :∀ k,ad.S29 H0 Ri R0  (ad.l29 F   k) (ad.pl29 F  k):=by
 intro k
 induction k with
 | zero=>
  intro ke sL jp cq oZ kf sM fu jq ee lj sO H oV BC h0 r hp
  exact nomatch (show (none:Option (List Int×Int)) = some r from hp)
 | succ k ih=>
  intro ke sL jp cq oZ kf sM fu jq ee lj sO H oV BC h0 r hp
  obtain ⟨w0,s0,oW,BD⟩:=h0
  subst oV
  subst BC
  unfold ad.pl29 at hp
  unfold ad.l29
  refine bind_ex (ldSl_of (w0.ld (i:=0) rfl rfl)) ?_
  refine bif_ex (fun hb=>?_) (fun hb=>?_)
  ·replace hp:=bif_t hb hp
   refine newS_k (eInt .i64) w0 (n:=1) (l:=([ee]:List Int)) rfl (CR.cons1 rfl CR.empty) rfl fun H1 w1 s1 c1=>?_
   refine bind_ex (w1.rowo (i:=0) rfl) ?_
   obtain ⟨l2,e2,hp⟩:=bind_some' hp
   refine app_k (eInt .i64) w1 (i:=2) rfl rfl (BD.step s1) c1 (show 1 = List.length ([ee]:List Int) from rfl) rfl e2 fun a3 d3 H3 w3 s3 c3 x3=>?_
   dsimp only [List.set] at w3 s3 c3
   obtain ⟨w4,s4⟩:=w3.pick' [1,2] 3 rfl rfl rfl
   dsimp only [pk,pks,nth,List.drop] at w4 s4
   exact ih rfl rfl ⟨w4,(s0.trans (s1.trans (s3.trans s4))),(oW.step (s1.trans (s3.trans s4))),(c3.step s4)⟩ hp
  ·replace hp:=bif_f hb hp
   exact ad.j13_P rfl rfl ⟨w0,s0,oW,BD⟩ hp
def ad.p (F:Nat) (ac:List (Int×Int×Int×Int×Int)) (ab:Int):Option (List Int×Int):=ad.pl29 F F ac ab ([]:List Int) 0
theorem ad.P {F:Nat} {au:ON} {ah:Nat} {av:Cap} {ac:List (Int×Int×Int×Int×Int)} {ab:Int} {H:Hp} {R0:List Rs} (bb:ah = ac.length) (h0:Inn H R0 fun R=>ROs (ePair (eInt .i64) (ePair (eInt .i64) (ePair (eInt .i64) (ePair (eInt .i64) (eInt .i64))))) H R ⟨au,ah,av⟩ ac) {r:List Int×Int} (hp:ad.p F ac ab = some r):∃ v H',ad.tw F ⟨au,ah,av⟩ ab H = some (v,H')∧ad.Q H R0 R0  r v H':=by
 obtain ⟨w0,aL⟩:=h0
 subst bb
 unfold ad.p at hp
 unfold ad.tw ad.twX
 have s0:=w0.rf
 refine new_k w0 fun H1 w1 s1=>?_
 refine newS_k (eInt .i64) w1 (n:=0) (l:=([]:List Int)) rfl CR.empty rfl fun H2 w2 s2 c2=>?_
 obtain ⟨w3,s3⟩:=w2.pick' [1,0] 2 rfl rfl rfl
 dsimp only [pk,pks,nth,List.drop] at w3 s3
 exact ad.l29_P F rfl (show 0 = List.length ([]:List Int) from rfl) ⟨w3,(s0.trans (s1.trans (s2.trans s3))),(aL.step (s1.trans (s2.trans s3))),(c2.step s3)⟩ hp
def bs.Q (H0:Hp) (Ri R0:List Rs)  (r:Int) (v:AV) (H':Hp):Prop:=v = (.int .i64 r)∧Out H0 Ri H' (R0) fun R=>True
def bs.p (F:Nat) (ac:List (Int×Int×Int×Int×Int)) (af:Int):Option (Int):=(aj.p F ac af true).bind fun r2=>(ix ac r2.1).bind fun n4=>(aM.p F ((gt ac n4).1) ((gt ac n4).2.1) ((gt ac n4).2.2.1) ((gt ac n4).2.2.2.1) (Int.tmod (IntKind.i64.wrap (r2.2 + 2)) 4)).bind fun r5=>some r5
theorem bs.P {F:Nat} {au:ON} {ah:Nat} {av:Cap} {ac:List (Int×Int×Int×Int×Int)} {ab af:Int} {H:Hp} {R0:List Rs} (bb:ah = ac.length) (h0:Inn H R0 fun R=>ROs (ePair (eInt .i64) (ePair (eInt .i64) (ePair (eInt .i64) (ePair (eInt .i64) (eInt .i64))))) H R ⟨au,ah,av⟩ ac) {r:Int} (hp:bs.p F ac af = some r):∃ v H',bs.tw F ⟨au,ah,av⟩ ab af H = some (v,H')∧bs.Q H R0 R0  r v H':=by
 obtain ⟨w0,aL⟩:=h0
 subst bb
 unfold bs.p at hp
 unfold bs.tw bs.twX
 have s0:=w0.rf
 refine new_k w0 fun H1 w1 s1=>?_
 refine bind_ex (ldSl_of (w1.ld (i:=0) rfl rfl)) ?_
 refine bind_ex (ldI_of (w1.ld (i:=0) rfl rfl)) ?_
 obtain ⟨r2,e2,hp⟩:=bind_some' hp
 refine call_ex (aj.P rfl ⟨w1,(aL.step s1)⟩ e2) ?_
 rintro _ H3 ⟨rfl,w3,s3,_⟩
 refine bind_ex rfl ?_
 refine bind_ex rfl ?_
 refine bind_ex rfl ?_
 refine bind_ex rfl ?_
 refine bind_ex rfl ?_
 refine bind_ex (ldSl_of (w3.ld (i:=0) rfl rfl)) ?_
 obtain ⟨n4,g4,hp⟩:=bind_some' hp
 obtain ⟨p4,q4,i4,h4,j4⟩:=ROs.ixr (aL.step (s1.trans s3)) rfl g4
 refine bind_ex i4 ?_
 obtain ⟨_,_,rfl,rfl,_,_,rfl,rfl,_,_,rfl,rfl,_,_,rfl,rfl,rfl⟩:=h4
 refine bind_ex (ldI_of (j4 0 _ rfl)) ?_
 refine bind_ex (ldI_of (j4 1 _ rfl)) ?_
 refine bind_ex (ldI_of (j4 2 _ rfl)) ?_
 refine bind_ex (ldI_of (j4 3 _ rfl)) ?_
 refine bind_ex (ldI_of (j4 4 _ rfl)) ?_
 obtain ⟨r5,e5,hp⟩:=bind_some' hp
 refine call_ex (aM.P ⟨w3,trivial⟩ e5) ?_
 rintro _ H6 ⟨rfl,w6,s6,_⟩
 refine bind_ex rfl ?_
 obtain ⟨w7,s7⟩:=w6.pick' [] 1 rfl rfl rfl
 dsimp only [pk,pks,nth,List.drop] at w7 s7
 obtain rfl:=Option.some.inj hp
 exact ⟨_,_,rfl,rfl,w7,(s0.trans (s1.trans (s3.trans (s6.trans s7)))),trivial⟩
def ao.Q (H0:Hp) (Ri R0:List Rs)  (r:List (List Int)) (v:AV) (H':Hp):Prop:=∃ o0a:ON,∃ o0n:Nat,∃ o0c:Cap,∃ o0k:List AV,v = (.sl ⟨o0a,o0n,o0c⟩)∧o0n = (r).length∧Out H0 Ri H' (Rs.own ⟨o0a,o0n,o0c⟩ (eSl (eInt .i64)).z o0k :: R0) fun R=>CR (eSl (eInt .i64)) H' R o0k (r)
def ao.S61 (H0:Hp) (Ri R0:List Rs)  (C:Nat→Nat→Sl→Sl→Int→Hp→OA) (pC:List (Int×Int×Int×Int×Int)→List (List Int)→List Bool→Int→Option (List (List Int))):Prop:=∀ {gT jQ gU:ON} {fW bH jb fX:Nat} {gV jR gW:Cap} {cm:List (Int×Int×Int×Int×Int)} {ja bE:Int} {fq:List (List Int)} {jS gX:List AV} {cK:List Bool},∀ {H:Hp},fW = cm.length→jb = fq.length→fX = cK.length→(Out H0 Ri H (Rs.blk bH [.sl ⟨gT,fW,gV⟩,.int .i64 ja] :: Rs.own ⟨jQ,jb,jR⟩ (eSl (eInt .i64)).z jS :: Rs.own ⟨gU,fX,gW⟩ eBool.z gX :: R0) fun R=>ROs (ePair (eInt .i64) (ePair (eInt .i64) (ePair (eInt .i64) (ePair (eInt .i64) (eInt .i64))))) H R ⟨gT,fW,gV⟩ cm∧CR (eSl (eInt .i64)) H R jS fq∧CR eBool H R gX cK)→∀ {r:List (List Int)},pC cm fq cK bE = some r→∃ v H',C bH 0 ⟨jQ,jb,jR⟩ ⟨gU,fX,gW⟩ bE H = some (v,H')∧ao.Q H0 Ri R0  r v H'
def ao.pj4 (F:Nat) (ax:List (Int×Int×Int×Int×Int)→List (List Int)→List Bool→Int→Option (List (List Int))) (jc:List (Int×Int×Int×Int×Int)) (jd:List (List Int)) (je:List Bool) (ho:Int):Option (List (List Int)):=ax jc jd je (IntKind.i64.wrap (ho + 1))
theorem ao.j4_P {F:Nat} {H0:Hp} {Ri R0:List Rs}  {C61_:Nat→Nat→Sl→Sl→Int→Hp→OA} {ax:List (Int×Int×Int×Int×Int)→List (List Int)→List Bool→Int→Option (List (List Int))} (hC61:ao.S61 H0 Ri R0  C61_ ax) {nT nU nV:ON} {lJ jL lK lL:Nat} {nW nX nY:Cap} {jc:List (Int×Int×Int×Int×Int)} {wU ho:Int} {jd:List (List Int)} {nZ n_:List AV} {je:List Bool} {H:Hp} (wV:lJ = jc.length) (wW:lK = jd.length) (wX:lL = je.length) (h0:Out H0 Ri H (Rs.blk jL [.sl ⟨nT,lJ,nW⟩,.int .i64 wU] :: Rs.own ⟨nU,lK,nX⟩ (eSl (eInt .i64)).z nZ :: Rs.own ⟨nV,lL,nY⟩ eBool.z n_ :: R0) fun R=>ROs (ePair (eInt .i64) (ePair (eInt .i64) (ePair (eInt .i64) (ePair (eInt .i64) (eInt .i64))))) H R ⟨nT,lJ,nW⟩ jc∧CR (eSl (eInt .i64)) H R nZ jd∧CR eBool H R n_ je) {r:List (List Int)} (hp:ao.pj4 F ax jc jd je ho = some r):∃ v H',ao.j4 F (bs.tw F) C61_ jL 0 ⟨nU,lK,nX⟩ ⟨nV,lL,nY⟩ ho H = some (v,H')∧ao.Q H0 Ri R0  r v H':=by
 obtain ⟨w0,s0,wY,wZ,w_⟩:=h0
 subst wV
 subst wW
 subst wX
 unfold ao.pj4 at hp
 unfold ao.j4
 exact hC61 rfl rfl rfl ⟨w0,s0,wY,wZ,w_⟩ hp
def ao.S7853 (H0:Hp) (Ri R0:List Rs)  (C:Nat→Nat→Sl→Sl→Int→Sl→Int→Hp→OA) (pC:List (Int×Int×Int×Int×Int)→List (List Int)→List Bool→Int→List Int→Int→Option (List (List Int))):Prop:=∀ {jT jU jV jW:ON} {jf b_ jg jh ji:Nat} {jX jY jZ j_:Cap} {ft:List (Int×Int×Int×Int×Int)} {lM ch bR:Int} {fY:List (List Int)} {ka kb kc:List AV} {dS:List Bool} {fZ:List Int},∀ {H:Hp},jf = ft.length→jg = fY.length→jh = dS.length→ji = fZ.length→(Out H0 Ri H (Rs.blk b_ [.sl ⟨jT,jf,jX⟩,.int .i64 lM] :: Rs.own ⟨jU,jg,jY⟩ (eSl (eInt .i64)).z ka :: Rs.own ⟨jV,jh,jZ⟩ eBool.z kb :: Rs.own ⟨jW,ji,j_⟩ (eInt .i64).z kc :: R0) fun R=>ROs (ePair (eInt .i64) (ePair (eInt .i64) (ePair (eInt .i64) (ePair (eInt .i64) (eInt .i64))))) H R ⟨jT,jf,jX⟩ ft∧CR (eSl (eInt .i64)) H R ka fY∧CR eBool H R kb dS∧CR (eInt .i64) H R kc fZ)→∀ {r:List (List Int)},pC ft fY dS ch fZ bR = some r→∃ v H',C b_ 0 ⟨jU,jg,jY⟩ ⟨jV,jh,jZ⟩ ch ⟨jW,ji,j_⟩ bR H = some (v,H')∧ao.Q H0 Ri R0  r v H'
def ao.pj5 (F:Nat) (ax:List (Int×Int×Int×Int×Int)→List (List Int)→List Bool→Int→Option (List (List Int))) (jj:List (Int×Int×Int×Int×Int)) (jk:List (List Int)) (jl:List Bool) (hB:Int):Option (List (List Int)):=ax jj jk jl (IntKind.i64.wrap (hB + 1))
theorem ao.j5_P {F:Nat} {H0:Hp} {Ri R0:List Rs}  {C61_:Nat→Nat→Sl→Sl→Int→Hp→OA} {ax:List (Int×Int×Int×Int×Int)→List (List Int)→List Bool→Int→Option (List (List Int))} (hC61:ao.S61 H0 Ri R0  C61_ ax) {oa ob oc:ON} {lN jM lO lP:Nat} {od oe og:Cap} {jj:List (Int×Int×Int×Int×Int)} {xa hB:Int} {jk:List (List Int)} {oh oi:List AV} {jl:List Bool} {H:Hp} (xb:lN = jj.length) (xc:lO = jk.length) (xd:lP = jl.length) (h0:Out H0 Ri H (Rs.blk jM [.sl ⟨oa,lN,od⟩,.int .i64 xa] :: Rs.own ⟨ob,lO,oe⟩ (eSl (eInt .i64)).z oh :: Rs.own ⟨oc,lP,og⟩ eBool.z oi :: R0) fun R=>ROs (ePair (eInt .i64) (ePair (eInt .i64) (ePair (eInt .i64) (ePair (eInt .i64) (eInt .i64))))) H R ⟨oa,lN,od⟩ jj∧CR (eSl (eInt .i64)) H R oh jk∧CR eBool H R oi jl) {r:List (List Int)} (hp:ao.pj5 F ax jj jk jl hB = some r):∃ v H',ao.j5 F (bs.tw F) C61_ jM 0 ⟨ob,lO,oe⟩ ⟨oc,lP,og⟩ hB H = some (v,H')∧ao.Q H0 Ri R0  r v H':=by
 obtain ⟨w0,s0,xe,xf,xg⟩:=h0
 subst xb
 subst xc
 subst xd
 unfold ao.pj5 at hp
 unfold ao.j5
 exact hC61 rfl rfl rfl ⟨w0,s0,xe,xf,xg⟩ hp
def ao.pj6 (F:Nat) (ax:List (Int×Int×Int×Int×Int)→List (List Int)→List Bool→Int→Option (List (List Int))) (jm:List (Int×Int×Int×Int×Int)) (jn:List (List Int)) (jo:List Bool) (hC:Int) (gB:List Int):Option (List (List Int)):=(apn jn ([gB]:List (List Int))).bind fun l3=>ao.pj5 F ax jm l3 jo hC
theorem ao.j6_P {F:Nat} {H0:Hp} {Ri R0:List Rs}  {C61_:Nat→Nat→Sl→Sl→Int→Hp→OA} {ax:List (Int×Int×Int×Int×Int)→List (List Int)→List Bool→Int→Option (List (List Int))} (hC61:ao.S61 H0 Ri R0  C61_ ax) {oj ol om oo:ON} {lQ jN lR lS lT:Nat} {oq ot ou ov:Cap} {jm:List (Int×Int×Int×Int×Int)} {xh hC:Int} {jn:List (List Int)} {ox oy oz:List AV} {jo:List Bool} {gB:List Int} {H:Hp} (xi:lQ = jm.length) (xj:lR = jn.length) (xk:lS = jo.length) (xl:lT = gB.length) (h0:Out H0 Ri H (Rs.blk jN [.sl ⟨oj,lQ,oq⟩,.int .i64 xh] :: Rs.own ⟨ol,lR,ot⟩ (eSl (eInt .i64)).z ox :: Rs.own ⟨om,lS,ou⟩ eBool.z oy :: Rs.own ⟨oo,lT,ov⟩ (eInt .i64).z oz :: R0) fun R=>ROs (ePair (eInt .i64) (ePair (eInt .i64) (ePair (eInt .i64) (ePair (eInt .i64) (eInt .i64))))) H R ⟨oj,lQ,oq⟩ jm∧CR (eSl (eInt .i64)) H R ox jn∧CR eBool H R oy jo∧CR (eInt .i64) H R oz gB) {r:List (List Int)} (hp:ao.pj6 F ax jm jn jo hC gB = some r):∃ v H',ao.j6 F (bs.tw F) C61_ jN 0 ⟨ol,lR,ot⟩ ⟨om,lS,ou⟩ hC ⟨oo,lT,ov⟩ H = some (v,H')∧ao.Q H0 Ri R0  r v H':=by
 obtain ⟨w0,s0,xm,xn,xo,xp⟩:=h0
 subst xi
 subst xj
 subst xk
 subst xl
 unfold ao.pj6 at hp
 unfold ao.j6
 obtain ⟨w1,s1,f1⟩:=w0.frz (i:=3) (eInt .i64) rfl xp
 dsimp only [List.eraseIdx] at w1 s1 f1
 refine newS_k (eSl (eInt .i64)) w1 (n:=1) (l:=([gB]:List (List Int))) rfl (CR.cons1 ⟨_,rfl,f1⟩ CR.empty) rfl fun H2 w2 s2 c2=>?_
 refine bind_ex (w2.rowo (i:=0) rfl) ?_
 obtain ⟨l3,e3,hp⟩:=bind_some' hp
 refine app_k (eSl (eInt .i64)) w2 (i:=2) rfl rfl (xn.step (s1.trans s2)) c2 (show 1 = List.length ([gB]:List (List Int)) from rfl) rfl e3 fun a4 d4 H4 w4 s4 c4 x4=>?_
 dsimp only [List.set] at w4 s4 c4
 obtain ⟨w5,s5⟩:=w4.pick' [1,2,3] 4 rfl rfl rfl
 dsimp only [pk,pks,nth,List.drop] at w5 s5
 exact ao.j5_P (@hC61) rfl rfl rfl ⟨w5,(s0.trans (s1.trans (s2.trans (s4.trans s5)))),(xm.step (s1.trans (s2.trans (s4.trans s5)))),(c4.step s5),(xo.step (s1.trans (s2.trans (s4.trans s5))))⟩ hp
def ao.pl7853 (F:Nat) (ax:List (Int×Int×Int×Int×Int)→List (List Int)→List Bool→Int→Option (List (List Int))):Nat→List (Int×Int×Int×Int×Int)→List (List Int)→List Bool→Int→List Int→Int→Option (List (List Int))
 | 0,_,_,_,_,_,_=>none
 | k + 1,ft,fY,dS,ch,fZ,bR=>(ix dS bR).bind fun n1=>(bif (!(gt dS n1)) then ((ix dS bR).bind fun n2=>(some (dS.set n2 true)).bind fun l3=>(apn fZ ([bR]:List Int)).bind fun l6=>(bs.p F ft bR).bind fun r8=>ao.pl7853 F ax k ft fY l3 ch l6 r8) else (ao.pj6 F ax ft fY dS ch fZ))
termination_by structural n=>n
theorem ao.l7853_P {F:Nat} {H0:Hp} {Ri R0:List Rs}  {C61_:Nat→Nat→Sl→Sl→Int→Hp→OA} {ax:List (Int×Int×Int×Int×Int)→List (List Int)→List Bool→Int→Option (List (List Int))} (hC61:ao.S61 H0 Ri R0  C61_ ax):∀ k,ao.S7853 H0 Ri R0  (ao.l7853 F (bs.tw F) C61_ k) (ao.pl7853 F ax k):=by
 intro k
 induction k with
 | zero=>
  intro jT jU jV jW jf b_ jg jh ji jX jY jZ j_ ft lM ch bR fY ka kb kc dS fZ H oA oB oC oD h0 r hp
  exact nomatch (show (none:Option (List (List Int))) = some r from hp)
 | succ k ih=>
  intro jT jU jV jW jf b_ jg jh ji jX jY jZ j_ ft lM ch bR fY ka kb kc dS fZ H oA oB oC oD h0 r hp
  obtain ⟨w0,s0,lU,oE,kd,oF⟩:=h0
  subst oA
  subst oB
  subst oC
  subst oD
  unfold ao.pl7853 at hp
  unfold ao.l7853
  obtain ⟨n1,g1,hp⟩:=bind_some' hp
  obtain ⟨p1,q1,i1,h1,j1⟩:=W.ixo (E:=eBool) w0 (i:=2) rfl rfl kd g1
  refine bind_ex i1 ?_
  have h1:_ = [_]:=h1
  subst h1
  refine bind_ex (ldB_of (j1 0 _ rfl)) ?_
  refine bif_ex (fun hb=>?_) (fun hb=>?_)
  ·replace hp:=bif_t hb hp
   obtain ⟨n2,g2,hp⟩:=bind_some' hp
   obtain ⟨p2,q2,i2,h2,j2⟩:=W.ixo (E:=eBool) w0 (i:=2) rfl rfl kd g2
   refine bind_ex i2 ?_
   obtain ⟨l3,e3,hp⟩:=bind_some' hp
   refine sto_k eBool w0 (i:=2) (j:=0) (p:=p2) rfl rfl kd g2 i2 e3 rfl rfl (fun _ h=>by have h:_ = [_]:=h; subst h; exact rfl) fun H4 k4 w4 s4 c4=>?_
   dsimp only [List.set] at w4 s4 c4
   refine newS_k (eInt .i64) w4 (n:=1) (l:=([bR]:List Int)) rfl (CR.cons1 rfl CR.empty) rfl fun H5 w5 s5 c5=>?_
   refine bind_ex (w5.rowo (i:=0) rfl) ?_
   obtain ⟨l6,e6,hp⟩:=bind_some' hp
   refine app_k (eInt .i64) w5 (i:=4) rfl rfl (oF.step (s4.trans s5)) c5 (show 1 = List.length ([bR]:List Int) from rfl) rfl e6 fun a7 d7 H7 w7 s7 c7 x7=>?_
   dsimp only [List.set] at w7 s7 c7
   refine bind_ex (ldSl_of (w7.ld (i:=1) rfl rfl)) ?_
   refine bind_ex (ldI_of (w7.ld (i:=1) rfl rfl)) ?_
   obtain ⟨r8,e8,hp⟩:=bind_some' hp
   refine call_ex (bs.P rfl ⟨w7,(lU.step (s4.trans (s5.trans s7)))⟩ e8) ?_
   rintro _ H9 ⟨rfl,w9,s9,_⟩
   refine bind_ex rfl ?_
   obtain ⟨w10,s10⟩:=w9.pick' [1,2,3,4] 5 rfl rfl rfl
   dsimp only [pk,pks,nth,List.drop] at w10 s10
   exact ih rfl rfl ((st_len e3).symm) rfl ⟨w10,(s0.trans (s4.trans (s5.trans (s7.trans (s9.trans s10))))),(lU.step (s4.trans (s5.trans (s7.trans (s9.trans s10))))),(oE.step (s4.trans (s5.trans (s7.trans (s9.trans s10))))),(c4.step (s5.trans (s7.trans (s9.trans s10)))),(c7.step (s9.trans s10))⟩ hp
  ·replace hp:=bif_f hb hp
   exact ao.j6_P (@hC61) rfl rfl rfl rfl ⟨w0,s0,lU,oE,kd,oF⟩ hp
def ao.pl61 (F:Nat) :Nat→List (Int×Int×Int×Int×Int)→List (List Int)→List Bool→Int→Option (List (List Int))
 | 0,_,_,_,_=>none
 | k + 1,cm,fq,cK,bE=>(bif (decide (bE < (cK.length:Int))) then ((ix cK bE).bind fun n1=>(bif (gt cK n1) then (ao.pj4 F (ao.pl61 F k) cm fq cK bE) else (ao.pl7853 F (ao.pl61 F k) F cm fq cK bE ([]:List Int) bE))) else (some fq))
termination_by structural n=>n
theorem ao.l61_P {F:Nat} {H0:Hp} {Ri R0:List Rs}  :∀ k,ao.S61 H0 Ri R0  (ao.l61 F (bs.tw F)  k) (ao.pl61 F  k):=by
 intro k
 induction k with
 | zero=>
  intro gT jQ gU fW bH jb fX gV jR gW cm ja bE fq jS gX cK H lc oG lf h0 r hp
  exact nomatch (show (none:Option (List (List Int))) = some r from hp)
 | succ k ih=>
  intro gT jQ gU fW bH jb fX gV jR gW cm ja bE fq jS gX cK H lc oG lf h0 r hp
  obtain ⟨w0,s0,jP,lV,jE⟩:=h0
  subst lc
  subst oG
  subst lf
  unfold ao.pl61 at hp
  unfold ao.l61
  refine bif_ex (fun hb=>?_) (fun hb=>?_)
  ·replace hp:=bif_t hb hp
   obtain ⟨n1,g1,hp⟩:=bind_some' hp
   obtain ⟨p1,q1,i1,h1,j1⟩:=W.ixo (E:=eBool) w0 (i:=2) rfl rfl jE g1
   refine bind_ex i1 ?_
   have h1:_ = [_]:=h1
   subst h1
   refine bind_ex (ldB_of (j1 0 _ rfl)) ?_
   refine bif_ex (fun hb=>?_) (fun hb=>?_)
   ·replace hp:=bif_t hb hp
    exact ao.j4_P (@ih) rfl rfl rfl ⟨w0,s0,jP,lV,jE⟩ hp
   ·replace hp:=bif_f hb hp
    refine newS_k (eInt .i64) w0 (n:=0) (l:=([]:List Int)) rfl CR.empty rfl fun H2 w2 s2 c2=>?_
    obtain ⟨w3,s3⟩:=w2.pick' [1,2,3,0] 4 rfl rfl rfl
    dsimp only [pk,pks,nth,List.drop] at w3 s3
    exact ao.l7853_P (@ih) F rfl rfl rfl (show 0 = List.length ([]:List Int) from rfl) ⟨w3,(s0.trans (s2.trans s3)),(jP.step (s2.trans s3)),(lV.step (s2.trans s3)),(jE.step (s2.trans s3)),(c2.step s3)⟩ hp
  ·replace hp:=bif_f hb hp
   obtain ⟨w4,s4⟩:=w0.pick' [1] 3 rfl rfl rfl
   dsimp only [pk,pks,nth,List.drop] at w4 s4
   obtain rfl:=Option.some.inj hp
   exact ⟨_,_,rfl,_,_,_,_,rfl,rfl,w4,(s0.trans s4),(lV.step s4)⟩
def ao.p (F:Nat) (ac:List (Int×Int×Int×Int×Int)):Option (List (List Int)):=(mkn (IntKind.i64.wrap (2 * (ac.length:Int))) false).bind fun l3=>ao.pl61 F F ac ([]:List (List Int)) l3 0
theorem ao.P {F:Nat} {au:ON} {ah:Nat} {av:Cap} {ac:List (Int×Int×Int×Int×Int)} {ab:Int} {H:Hp} {R0:List Rs} (bb:ah = ac.length) (h0:Inn H R0 fun R=>ROs (ePair (eInt .i64) (ePair (eInt .i64) (ePair (eInt .i64) (ePair (eInt .i64) (eInt .i64))))) H R ⟨au,ah,av⟩ ac) {r:List (List Int)} (hp:ao.p F ac = some r):∃ v H',ao.tw F ⟨au,ah,av⟩ ab H = some (v,H')∧ao.Q H R0 R0  r v H':=by
 obtain ⟨w0,aL⟩:=h0
 subst bb
 unfold ao.p at hp
 unfold ao.tw ao.twX
 have s0:=w0.rf
 refine new_k w0 fun H1 w1 s1=>?_
 refine newS_k (eSl (eInt .i64)) w1 (n:=0) (l:=([]:List (List Int))) rfl CR.empty rfl fun H2 w2 s2 c2=>?_
 refine bind_ex (ldSl_of (w2.ld (i:=1) rfl rfl)) ?_
 obtain ⟨l3,e3,hp⟩:=bind_some' hp
 refine mk_k eBool false w2 rfl rfl rfl e3 fun H4 k4 w4 s4 c4=>?_
 obtain ⟨w5,s5⟩:=w4.pick' [2,1,0] 3 rfl rfl rfl
 dsimp only [pk,pks,nth,List.drop] at w5 s5
 exact ao.l61_P F rfl (show 0 = List.length ([]:List (List Int)) from rfl) rfl ⟨w5,(s0.trans (s1.trans (s2.trans (s4.trans s5)))),(aL.step (s1.trans (s2.trans (s4.trans s5)))),(c2.step (s4.trans s5)),(c4.step s5)⟩ hp
def ai.Q (H0:Hp) (Ri R0:List Rs)  (r:List Int×Int) (v:AV) (H':Hp):Prop:=∃ o0a:ON,∃ o0n:Nat,∃ o0c:Cap,∃ o0k:List AV,v = (.tup [(.sl ⟨o0a,o0n,o0c⟩),(.int .i64 r.2)])∧o0n = (r.1).length∧Out H0 Ri H' (Rs.own ⟨o0a,o0n,o0c⟩ (eInt .i64).z o0k :: R0) fun R=>CR (eInt .i64) H' R o0k (r.1)
def ai.S509 (H0:Hp) (Ri R0:List Rs)  (C:Int→Nat→Nat→Sl→Int→Sl→Sl→Int→Hp→OA) (pC:Int→Int→List Int→Int→List Int→List (List Int)→Int→Option (List Int×Int)):Prop:=∀ {bZ lX eF fA:Int} {tC tD tE tF:ON} {pv eN pw px py:Nat} {tG tH tI tJ:Cap} {tK:List (Int×Int×Int×Int×Int)} {lY lm:List Int} {tL tM tO:List AV} {ki:List (List Int)},∀ {H:Hp},pv = tK.length→pw = lY.length→px = lm.length→py = ki.length→(Out H0 Ri H (Rs.blk eN [.sl ⟨tC,pv,tG⟩,.int .i64 lX] :: Rs.own ⟨tD,pw,tH⟩ (eInt .i64).z tL :: Rs.own ⟨tE,px,tI⟩ (eInt .i64).z tM :: Rs.own ⟨tF,py,tJ⟩ (eSl (eInt .i64)).z tO :: R0) fun R=>ROs (ePair (eInt .i64) (ePair (eInt .i64) (ePair (eInt .i64) (ePair (eInt .i64) (eInt .i64))))) H R ⟨tC,pv,tG⟩ tK∧CR (eInt .i64) H R tL lY∧CR (eInt .i64) H R tM lm∧CR (eSl (eInt .i64)) H R tO ki)→∀ {r:List Int×Int},pC bZ lX lY eF lm ki fA = some r→∃ v H',C bZ eN 0 ⟨tD,pw,tH⟩ eF ⟨tE,px,tI⟩ ⟨tF,py,tJ⟩ fA H = some (v,H')∧ai.Q H0 Ri R0  r v H'
def ai.S8149 (H0:Hp) (Ri R0:List Rs)  (C:Int→Nat→Nat→Sl→Int→Sl→Sl→Int→Int→Hp→OA) (pC:Int→Int→List Int→Int→List Int→List (List Int)→Int→Int→Option (List Int×Int)):Prop:=∀ {cP lZ eg dw eM:Int} {tP tQ tR tS:ON} {pz eE pA pB pD:Nat} {tT tU tV tW:Cap} {tX:List (Int×Int×Int×Int×Int)} {jG kj:List Int} {tY tZ t_:List AV} {ib:List (List Int)},∀ {H:Hp},pz = tX.length→pA = jG.length→pB = kj.length→pD = ib.length→(Out H0 Ri H (Rs.blk eE [.sl ⟨tP,pz,tT⟩,.int .i64 lZ] :: Rs.own ⟨tQ,pA,tU⟩ (eInt .i64).z tY :: Rs.own ⟨tR,pB,tV⟩ (eInt .i64).z tZ :: Rs.own ⟨tS,pD,tW⟩ (eSl (eInt .i64)).z t_ :: R0) fun R=>ROs (ePair (eInt .i64) (ePair (eInt .i64) (ePair (eInt .i64) (ePair (eInt .i64) (eInt .i64))))) H R ⟨tP,pz,tT⟩ tX∧CR (eInt .i64) H R tY jG∧CR (eInt .i64) H R tZ kj∧CR (eSl (eInt .i64)) H R t_ ib)→∀ {r:List Int×Int},pC cP lZ jG eg kj ib dw eM = some r→∃ v H',C cP eE 0 ⟨tQ,pA,tU⟩ eg ⟨tR,pB,tV⟩ ⟨tS,pD,tW⟩ dw eM H = some (v,H')∧ai.Q H0 Ri R0  r v H'
def ai.pj4 (F:Nat) (eV:Int→Int→List Int→Int→List Int→List (List Int)→Int→Option (List Int×Int)) (mL:Int) (ua:Int) (pE:List Int) (mM:Int) (pF:List Int) (pG:List (List Int)) (mN:Int):Option (List Int×Int):=eV mL ua pE mM pF pG (IntKind.i64.wrap (mN + 1))
theorem ai.j4_P {F:Nat} {H0:Hp} {Ri R0:List Rs}  {C509_:Int→Nat→Nat→Sl→Int→Sl→Sl→Int→Hp→OA} {eV:Int→Int→List Int→Int→List Int→List (List Int)→Int→Option (List Int×Int)} (hC509:ai.S509 H0 Ri R0  C509_ eV) {mL ua mM mN:Int} {BE BF BG BH:ON} {xW rM xX xY xZ:Nat} {BI BJ BK BL:Cap} {BM:List (Int×Int×Int×Int×Int)} {pE pF:List Int} {BN BO BP:List AV} {pG:List (List Int)} {H:Hp} (Ip:xW = BM.length) (Iq:xX = pE.length) (Ir:xY = pF.length) (Is:xZ = pG.length) (h0:Out H0 Ri H (Rs.blk rM [.sl ⟨BE,xW,BI⟩,.int .i64 ua] :: Rs.own ⟨BF,xX,BJ⟩ (eInt .i64).z BN :: Rs.own ⟨BG,xY,BK⟩ (eInt .i64).z BO :: Rs.own ⟨BH,xZ,BL⟩ (eSl (eInt .i64)).z BP :: R0) fun R=>ROs (ePair (eInt .i64) (ePair (eInt .i64) (ePair (eInt .i64) (ePair (eInt .i64) (eInt .i64))))) H R ⟨BE,xW,BI⟩ BM∧CR (eInt .i64) H R BN pE∧CR (eInt .i64) H R BO pF∧CR (eSl (eInt .i64)) H R BP pG) {r:List Int×Int} (hp:ai.pj4 F eV mL ua pE mM pF pG mN = some r):∃ v H',ai.j4 F (bn.tw F) (aX.tw F) (ad.tw F) (ao.tw F) C509_ mL rM 0 ⟨BF,xX,BJ⟩ mM ⟨BG,xY,BK⟩ ⟨BH,xZ,BL⟩ mN H = some (v,H')∧ai.Q H0 Ri R0  r v H':=by
 obtain ⟨w0,s0,It,Iu,Iv,Iw⟩:=h0
 subst Ip
 subst Iq
 subst Ir
 subst Is
 unfold ai.pj4 at hp
 unfold ai.j4
 exact hC509 rfl rfl rfl rfl ⟨w0,s0,It,Iu,Iv,Iw⟩ hp
def ai.pj5 (F:Nat) (eV:Int→Int→List Int→Int→List Int→List (List Int)→Int→Option (List Int×Int)) (mO:Int) (ub:Int) (pH:List Int) (mQ:Int) (pI:List Int) (pJ:List (List Int)) (mR:Int):Option (List Int×Int):=ai.pj4 F eV mO ub pH mQ pI pJ mR
theorem ai.j5_P {F:Nat} {H0:Hp} {Ri R0:List Rs}  {C509_:Int→Nat→Nat→Sl→Int→Sl→Sl→Int→Hp→OA} {eV:Int→Int→List Int→Int→List Int→List (List Int)→Int→Option (List Int×Int)} (hC509:ai.S509 H0 Ri R0  C509_ eV) {mO ub mQ mR:Int} {BQ BR BS BT:ON} {x_ rN ya yb yc:Nat} {BU BV BW BX:Cap} {BY:List (Int×Int×Int×Int×Int)} {pH pI:List Int} {BZ B_ Ca:List AV} {pJ:List (List Int)} {H:Hp} (Ix:x_ = BY.length) (Iy:ya = pH.length) (Iz:yb = pI.length) (IA:yc = pJ.length) (h0:Out H0 Ri H (Rs.blk rN [.sl ⟨BQ,x_,BU⟩,.int .i64 ub] :: Rs.own ⟨BR,ya,BV⟩ (eInt .i64).z BZ :: Rs.own ⟨BS,yb,BW⟩ (eInt .i64).z B_ :: Rs.own ⟨BT,yc,BX⟩ (eSl (eInt .i64)).z Ca :: R0) fun R=>ROs (ePair (eInt .i64) (ePair (eInt .i64) (ePair (eInt .i64) (ePair (eInt .i64) (eInt .i64))))) H R ⟨BQ,x_,BU⟩ BY∧CR (eInt .i64) H R BZ pH∧CR (eInt .i64) H R B_ pI∧CR (eSl (eInt .i64)) H R Ca pJ) {r:List Int×Int} (hp:ai.pj5 F eV mO ub pH mQ pI pJ mR = some r):∃ v H',ai.j5 F (bn.tw F) (aX.tw F) (ad.tw F) (ao.tw F) C509_ mO rN 0 ⟨BR,ya,BV⟩ mQ ⟨BS,yb,BW⟩ ⟨BT,yc,BX⟩ mR H = some (v,H')∧ai.Q H0 Ri R0  r v H':=by
 obtain ⟨w0,s0,IB,IC,ID,IE⟩:=h0
 subst Ix
 subst Iy
 subst Iz
 subst IA
 unfold ai.pj5 at hp
 unfold ai.j5
 exact ai.j4_P (@hC509) rfl rfl rfl rfl ⟨w0,s0,IB,IC,ID,IE⟩ hp
def ai.pl8149 (F:Nat) (eV:Int→Int→List Int→Int→List Int→List (List Int)→Int→Option (List Int×Int)):Nat→Int→Int→List Int→Int→List Int→List (List Int)→Int→Int→Option (List Int×Int)
 | 0,_,_,_,_,_,_,_,_=>none
 | k + 1,cP,lZ,jG,eg,kj,ib,dw,eM=>(ix ib dw).bind fun n1=>(bif (decide (eM < (((gt ib n1).length):Int))) then ((ix ib dw).bind fun n2=>(ix (gt ib n2) eM).bind fun n3=>(ix jG (gt (gt ib n2) n3)).bind fun n4=>(if cP = 0 then none else ((ix kj (gt jG n4)).bind fun n6=>(some (kj.set n6 (Int.tmod dw cP))).bind fun l7=>ai.pl8149 F eV k cP lZ jG eg l7 ib dw (IntKind.i64.wrap (eM + 1))))) else (ai.pj5 F eV cP lZ jG eg kj ib dw))
termination_by structural n=>n
theorem ai.l8149_P {F:Nat} {H0:Hp} {Ri R0:List Rs}  {C509_:Int→Nat→Nat→Sl→Int→Sl→Sl→Int→Hp→OA} {eV:Int→Int→List Int→Int→List Int→List (List Int)→Int→Option (List Int×Int)} (hC509:ai.S509 H0 Ri R0  C509_ eV):∀ k,ai.S8149 H0 Ri R0  (ai.l8149 F (bn.tw F) (aX.tw F) (ad.tw F) (ao.tw F) C509_ k) (ai.pl8149 F eV k):=by
 intro k
 induction k with
 | zero=>
  intro cP lZ eg dw eM tP tQ tR tS pz eE pA pB pD tT tU tV tW tX jG kj tY tZ t_ ib H Cb Cc Cd Ce h0 r hp
  exact nomatch (show (none:Option (List Int×Int)) = some r from hp)
 | succ k ih=>
  intro cP lZ eg dw eM tP tQ tR tS pz eE pA pB pD tT tU tV tW tX jG kj tY tZ t_ ib H Cb Cc Cd Ce h0 r hp
  obtain ⟨w0,s0,Cf,yd,ye,uc⟩:=h0
  subst Cb
  subst Cc
  subst Cd
  subst Ce
  unfold ai.pl8149 at hp
  unfold ai.l8149
  obtain ⟨n1,g1,hp⟩:=bind_some' hp
  obtain ⟨p1,q1,i1,h1,j1⟩:=W.ixo (E:=(eSl (eInt .i64))) w0 (i:=3) rfl rfl uc g1
  refine bind_ex i1 ?_
  obtain ⟨⟨IF,m1_0,c1_0⟩,rfl,f1_0⟩:=h1
  obtain rfl:m1_0 = _:=f1_0.n
  refine bind_ex (ldSl_of (j1 0 _ rfl)) ?_
  refine bif_ex (fun hb=>?_) (fun hb=>?_)
  ·replace hp:=bif_t hb hp
   obtain ⟨n2,g2,hp⟩:=bind_some' hp
   obtain ⟨p2,q2,i2,h2,j2⟩:=W.ixo (E:=(eSl (eInt .i64))) w0 (i:=3) rfl rfl uc g2
   refine bind_ex i2 ?_
   obtain ⟨⟨KA,m2_0,c2_0⟩,rfl,f2_0⟩:=h2
   obtain rfl:m2_0 = _:=f2_0.n
   refine bind_ex (ldSl_of (j2 0 _ rfl)) ?_
   obtain ⟨n3,g3,hp⟩:=bind_some' hp
   obtain ⟨p3,q3,i3,h3,j3⟩:=ROs.ixr f2_0 rfl g3
   refine bind_ex i3 ?_
   have h3:_ = [_]:=h3
   subst h3
   refine bind_ex (ldI_of (j3 0 _ rfl)) ?_
   obtain ⟨n4,g4,hp⟩:=bind_some' hp
   obtain ⟨p4,q4,i4,h4,j4⟩:=W.ixo (E:=(eInt .i64)) w0 (i:=1) rfl rfl yd g4
   refine bind_ex i4 ?_
   have h4:_ = [_]:=h4
   subst h4
   refine bind_ex (ldI_of (j4 0 _ rfl)) ?_
   obtain ⟨g5,hp⟩:=ifn_p hp
   refine ifn_ex g5 ?_
   obtain ⟨n6,g6,hp⟩:=bind_some' hp
   obtain ⟨p6,q6,i6,h6,j6⟩:=W.ixo (E:=(eInt .i64)) w0 (i:=2) rfl rfl ye g6
   refine bind_ex i6 ?_
   obtain ⟨l7,e7,hp⟩:=bind_some' hp
   refine sto_k (eInt .i64) w0 (i:=2) (j:=0) (p:=p6) rfl rfl ye g6 i6 e7 rfl rfl (fun _ h=>by have h:_ = [_]:=h; subst h; exact rfl) fun H8 k8 w8 s8 c8=>?_
   dsimp only [List.set] at w8 s8 c8
   exact ih rfl rfl ((st_len e7).symm) rfl ⟨w8,(s0.trans s8),(Cf.step s8),(yd.step s8),c8,(uc.step s8)⟩ hp
  ·replace hp:=bif_f hb hp
   exact ai.j5_P (@hC509) rfl rfl rfl rfl ⟨w0,s0,Cf,yd,ye,uc⟩ hp
def ai.S1021 (H0:Hp) (Ri R0:List Rs)  (C:Int→Nat→Nat→Int→Sl→Sl→Int→Hp→OA) (pC:Int→Int→Int→List Int→List (List Int)→Int→Option (List Int×Int)):Prop:=∀ {dv iE eD ef:Int} {kk ud ue:ON} {js ca pK pL:Nat} {kl ug uh:Cap} {gY:List (Int×Int×Int×Int×Int)} {km:List Int} {ui uj:List AV} {ln:List (List Int)},∀ {H:Hp},js = gY.length→pK = km.length→pL = ln.length→(Out H0 Ri H (Rs.blk ca [.sl ⟨kk,js,kl⟩,.int .i64 iE] :: Rs.own ⟨ud,pK,ug⟩ (eInt .i64).z ui :: Rs.own ⟨ue,pL,uh⟩ (eSl (eInt .i64)).z uj :: R0) fun R=>ROs (ePair (eInt .i64) (ePair (eInt .i64) (ePair (eInt .i64) (ePair (eInt .i64) (eInt .i64))))) H R ⟨kk,js,kl⟩ gY∧CR (eInt .i64) H R ui km∧CR (eSl (eInt .i64)) H R uj ln)→∀ {r:List Int×Int},pC dv iE eD km ln ef = some r→∃ v H',C dv ca 0 eD ⟨ud,pK,ug⟩ ⟨ue,pL,uh⟩ ef H = some (v,H')∧ai.Q H0 Ri R0  r v H'
def ai.pl1021 (F:Nat) :Nat→Int→Int→Int→List Int→List (List Int)→Int→Option (List Int×Int)
 | 0,_,_,_,_,_,_=>none
 | k + 1,dv,iE,eD,km,ln,ef=>(bif (decide (ef < iE)) then ((if dv = 0 then none else ((ix km (IntKind.i64.wrap ((IntKind.i64.wrap (eD - iE)) + ef))).bind fun n2=>(some (km.set n2 (Int.tmod (IntKind.i64.wrap ((ln.length:Int) + ef)) dv))).bind fun l3=>ai.pl1021 F k dv iE eD l3 ln (IntKind.i64.wrap (ef + 1))))) else (some (km,0)))
termination_by structural n=>n
theorem ai.l1021_P {F:Nat} {H0:Hp} {Ri R0:List Rs}  :∀ k,ai.S1021 H0 Ri R0  (ai.l1021 F (bn.tw F) (aX.tw F) (ad.tw F) (ao.tw F)  k) (ai.pl1021 F  k):=by
 intro k
 induction k with
 | zero=>
  intro dv iE eD ef kk ud ue js ca pK pL kl ug uh gY km ui uj ln H pM Cg Ch h0 r hp
  exact nomatch (show (none:Option (List Int×Int)) = some r from hp)
 | succ k ih=>
  intro dv iE eD ef kk ud ue js ca pK pL kl ug uh gY km ui uj ln H pM Cg Ch h0 r hp
  obtain ⟨w0,s0,pN,yf,IG⟩:=h0
  subst pM
  subst Cg
  subst Ch
  unfold ai.pl1021 at hp
  unfold ai.l1021
  refine bind_ex (ldI_of (w0.ld (i:=0) rfl rfl)) ?_
  refine bif_ex (fun hb=>?_) (fun hb=>?_)
  ·replace hp:=bif_t hb hp
   refine bind_ex (ldI_of (w0.ld (i:=0) rfl rfl)) ?_
   obtain ⟨g1,hp⟩:=ifn_p hp
   refine ifn_ex g1 ?_
   obtain ⟨n2,g2,hp⟩:=bind_some' hp
   obtain ⟨p2,q2,i2,h2,j2⟩:=W.ixo (E:=(eInt .i64)) w0 (i:=1) rfl rfl yf g2
   refine bind_ex i2 ?_
   obtain ⟨l3,e3,hp⟩:=bind_some' hp
   refine sto_k (eInt .i64) w0 (i:=1) (j:=0) (p:=p2) rfl rfl yf g2 i2 e3 rfl rfl (fun _ h=>by have h:_ = [_]:=h; subst h; exact rfl) fun H4 k4 w4 s4 c4=>?_
   dsimp only [List.set] at w4 s4 c4
   exact ih rfl ((st_len e3).symm) rfl ⟨w4,(s0.trans s4),(pN.step s4),c4,(IG.step s4)⟩ hp
  ·replace hp:=bif_f hb hp
   obtain ⟨w5,s5⟩:=w0.pick' [1] 3 rfl rfl rfl
   dsimp only [pk,pks,nth,List.drop] at w5 s5
   obtain rfl:=Option.some.inj hp
   exact ⟨_,_,rfl,_,_,_,_,rfl,rfl,w5,(s0.trans s5),(yf.step s5)⟩
def ai.pj3 (F:Nat)  (mJ:Int) (uk:Int) (mK:Int) (pO:List Int) (pP:List (List Int)):Option (List Int×Int):=ai.pl1021 F F mJ uk mK pO pP 0
theorem ai.j3_P {F:Nat} {H0:Hp} {Ri R0:List Rs}   {mJ uk mK:Int} {Ci Cj Ck:ON} {yg rL yh yi:Nat} {Cl Cm Cn:Cap} {Co:List (Int×Int×Int×Int×Int)} {pO:List Int} {Cq Cs:List AV} {pP:List (List Int)} {H:Hp} (IH:yg = Co.length) (II:yh = pO.length) (IJ:yi = pP.length) (h0:Out H0 Ri H (Rs.blk rL [.sl ⟨Ci,yg,Cl⟩,.int .i64 uk] :: Rs.own ⟨Cj,yh,Cm⟩ (eInt .i64).z Cq :: Rs.own ⟨Ck,yi,Cn⟩ (eSl (eInt .i64)).z Cs :: R0) fun R=>ROs (ePair (eInt .i64) (ePair (eInt .i64) (ePair (eInt .i64) (ePair (eInt .i64) (eInt .i64))))) H R ⟨Ci,yg,Cl⟩ Co∧CR (eInt .i64) H R Cq pO∧CR (eSl (eInt .i64)) H R Cs pP) {r:List Int×Int} (hp:ai.pj3 F  mJ uk mK pO pP = some r):∃ v H',ai.j3 F (bn.tw F) (aX.tw F) (ad.tw F) (ao.tw F)  mJ rL 0 mK ⟨Cj,yh,Cm⟩ ⟨Ck,yi,Cn⟩ H = some (v,H')∧ai.Q H0 Ri R0  r v H':=by
 obtain ⟨w0,s0,IK,IL,IM⟩:=h0
 subst IH
 subst II
 subst IJ
 unfold ai.pj3 at hp
 unfold ai.j3
 exact ai.l1021_P F rfl rfl rfl ⟨w0,s0,IK,IL,IM⟩ hp
def ai.pl509 (F:Nat) :Nat→Int→Int→List Int→Int→List Int→List (List Int)→Int→Option (List Int×Int)
 | 0,_,_,_,_,_,_,_=>none
 | k + 1,bZ,lX,lY,eF,lm,ki,fA=>(bif (decide (fA < (ki.length:Int))) then (ai.pl8149 F (ai.pl509 F k) F bZ lX lY eF lm ki fA 0) else (ai.pj3 F bZ lX eF lm ki))
termination_by structural n=>n
theorem ai.l509_P {F:Nat} {H0:Hp} {Ri R0:List Rs}  :∀ k,ai.S509 H0 Ri R0  (ai.l509 F (bn.tw F) (aX.tw F) (ad.tw F) (ao.tw F)  k) (ai.pl509 F  k):=by
 intro k
 induction k with
 | zero=>
  intro bZ lX eF fA tC tD tE tF pv eN pw px py tG tH tI tJ tK lY lm tL tM tO ki H Ct Cu Cv Cw h0 r hp
  exact nomatch (show (none:Option (List Int×Int)) = some r from hp)
 | succ k ih=>
  intro bZ lX eF fA tC tD tE tF pv eN pw px py tG tH tI tJ tK lY lm tL tM tO ki H Ct Cu Cv Cw h0 r hp
  obtain ⟨w0,s0,Cx,IN,Cy,Cz⟩:=h0
  subst Ct
  subst Cu
  subst Cv
  subst Cw
  unfold ai.pl509 at hp
  unfold ai.l509
  refine bif_ex (fun hb=>?_) (fun hb=>?_)
  ·replace hp:=bif_t hb hp
   exact ai.l8149_P (@ih) F rfl rfl rfl rfl ⟨w0,s0,Cx,IN,Cy,Cz⟩ hp
  ·replace hp:=bif_f hb hp
   obtain ⟨w1,s1⟩:=w0.pick' [0,2,3] 4 rfl rfl rfl
   dsimp only [pk,pks,nth,List.drop] at w1 s1
   exact ai.j3_P rfl rfl rfl ⟨w1,(s0.trans s1),(Cx.step s1),(Cy.step s1),(Cz.step s1)⟩ hp
def ai.p (F:Nat) (ac:List (Int×Int×Int×Int×Int)) (ab:Int) (af:Int):Option (List Int×Int):=(bn.p F ac ab).bind fun r2=>(bif (!r2) then (some (([]:List Int),1)) else ((aX.p F af 1 1000000000000).bind fun r6=>(bif (!r6) then (some (([]:List Int),2)) else ((ad.p F ac ab).bind fun r10=>(mkn r10.2 (0:Int)).bind fun l12=>(ao.p F ac).bind fun r14=>ai.pl509 F F af ab r10.1 r10.2 l12 r14 0))))
theorem ai.P {F:Nat} {au:ON} {ah:Nat} {av:Cap} {ac:List (Int×Int×Int×Int×Int)} {ab af:Int} {H:Hp} {R0:List Rs} (bb:ah = ac.length) (h0:Inn H R0 fun R=>ROs (ePair (eInt .i64) (ePair (eInt .i64) (ePair (eInt .i64) (ePair (eInt .i64) (eInt .i64))))) H R ⟨au,ah,av⟩ ac) {r:List Int×Int} (hp:ai.p F ac ab af = some r):∃ v H',ai.tw F ⟨au,ah,av⟩ ab af H = some (v,H')∧ai.Q H R0 R0  r v H':=by
 obtain ⟨w0,aL⟩:=h0
 subst bb
 unfold ai.p at hp
 unfold ai.tw ai.twX
 have s0:=w0.rf
 refine new_k w0 fun H1 w1 s1=>?_
 refine bind_ex (ldSl_of (w1.ld (i:=0) rfl rfl)) ?_
 refine bind_ex (ldI_of (w1.ld (i:=0) rfl rfl)) ?_
 obtain ⟨r2,e2,hp⟩:=bind_some' hp
 refine call_ex (bn.P rfl ⟨w1,(aL.step s1)⟩ e2) ?_
 rintro _ H3 ⟨rfl,w3,s3,_⟩
 refine bind_ex rfl ?_
 refine bif_ex (fun hb=>?_) (fun hb=>?_)
 ·replace hp:=bif_t hb hp
  refine newS_k (eInt .i64) w3 (n:=0) (l:=([]:List Int)) rfl CR.empty rfl fun H4 w4 s4 c4=>?_
  obtain ⟨w5,s5⟩:=w4.pick' [0] 2 rfl rfl rfl
  dsimp only [pk,pks,nth,List.drop] at w5 s5
  obtain rfl:=Option.some.inj hp
  exact ⟨_,_,rfl,_,_,_,_,rfl,(show 0 = List.length ([]:List Int) from rfl),w5,(s0.trans (s1.trans (s3.trans (s4.trans s5)))),(c4.step s5)⟩
 ·replace hp:=bif_f hb hp
  obtain ⟨r6,e6,hp⟩:=bind_some' hp
  refine call_ex (aX.P ⟨w3,trivial⟩ e6) ?_
  rintro _ H7 ⟨rfl,w7,s7,_⟩
  refine bind_ex rfl ?_
  refine bif_ex (fun hb=>?_) (fun hb=>?_)
  ·replace hp:=bif_t hb hp
   refine newS_k (eInt .i64) w7 (n:=0) (l:=([]:List Int)) rfl CR.empty rfl fun H8 w8 s8 c8=>?_
   obtain ⟨w9,s9⟩:=w8.pick' [0] 2 rfl rfl rfl
   dsimp only [pk,pks,nth,List.drop] at w9 s9
   obtain rfl:=Option.some.inj hp
   exact ⟨_,_,rfl,_,_,_,_,rfl,(show 0 = List.length ([]:List Int) from rfl),w9,(s0.trans (s1.trans (s3.trans (s7.trans (s8.trans s9))))),(c8.step s9)⟩
  ·replace hp:=bif_f hb hp
   refine bind_ex (ldSl_of (w7.ld (i:=0) rfl rfl)) ?_
   refine bind_ex (ldI_of (w7.ld (i:=0) rfl rfl)) ?_
   obtain ⟨r10,e10,hp⟩:=bind_some' hp
   refine call_ex (ad.P rfl ⟨w7,(aL.step (s1.trans (s3.trans s7)))⟩ e10) ?_
   rintro _ H11 ⟨o0a_11,o0n_11,o0c_11,o0k_11,rfl,rfl,w11,s11,f11_0⟩
   refine bind_ex rfl ?_
   refine bind_ex rfl ?_
   refine bind_ex rfl ?_
   refine bind_ex rfl ?_
   refine bind_ex rfl ?_
   obtain ⟨l12,e12,hp⟩:=bind_some' hp
   refine mk_k (eInt .i64) (0:Int) w11 rfl rfl rfl e12 fun H13 k13 w13 s13 c13=>?_
   refine bind_ex (ldSl_of (w13.ld (i:=2) rfl rfl)) ?_
   refine bind_ex (ldI_of (w13.ld (i:=2) rfl rfl)) ?_
   obtain ⟨r14,e14,hp⟩:=bind_some' hp
   refine call_ex (ao.P rfl ⟨w13,(aL.step (s1.trans (s3.trans (s7.trans (s11.trans s13)))))⟩ e14) ?_
   rintro _ H15 ⟨o0a_15,o0n_15,o0c_15,o0k_15,rfl,rfl,w15,s15,f15_0⟩
   refine bind_ex rfl ?_
   obtain ⟨w16,s16⟩:=w15.pick' [3,2,1,0] 4 rfl rfl rfl
   dsimp only [pk,pks,nth,List.drop] at w16 s16
   exact ai.l509_P F rfl rfl rfl rfl ⟨w16,(s0.trans (s1.trans (s3.trans (s7.trans (s11.trans (s13.trans (s15.trans s16))))))),(aL.step (s1.trans (s3.trans (s7.trans (s11.trans (s13.trans (s15.trans s16))))))),(f11_0.step (s13.trans (s15.trans s16))),(c13.step (s15.trans s16)),(f15_0.step s16)⟩ hp
def aY.Q (H0:Hp) (Ri R0:List Rs)  (r:Int) (v:AV) (H':Hp):Prop:=v = (.int .i64 r)∧Out H0 Ri H' (R0) fun R=>True
def aY.p (F:Nat) (ac:List (Int×Int×Int×Int×Int)):Option (Int):=some (ac.length:Int)
theorem aY.P {F:Nat} {au:ON} {ah:Nat} {av:Cap} {ac:List (Int×Int×Int×Int×Int)} {H:Hp} {R0:List Rs} (bb:ah = ac.length) (h0:Inn H R0 fun R=>ROs (ePair (eInt .i64) (ePair (eInt .i64) (ePair (eInt .i64) (ePair (eInt .i64) (eInt .i64))))) H R ⟨au,ah,av⟩ ac) {r:Int} (hp:aY.p F ac = some r):∃ v H',aY.tw F ⟨au,ah,av⟩ H = some (v,H')∧aY.Q H R0 R0  r v H':=by
 obtain ⟨w0,aL⟩:=h0
 subst bb
 unfold aY.p at hp
 unfold aY.tw aY.twX
 have s0:=w0.rf
 obtain rfl:=Option.some.inj hp
 exact ⟨_,_,rfl,rfl,w0,s0,trivial⟩
def bc.Q (H0:Hp) (Ri R0:List Rs)  (r:Bool) (v:AV) (H':Hp):Prop:=v = (.bool r)∧Out H0 Ri H' (R0) fun R=>True
def bc.p (F:Nat) (aa:Int) (ae:Int) (bM:Int):Option (Bool):=(bif (decide (ae ≤ aa)) then (some (decide (aa ≤ bM))) else (some false))
theorem bc.P {F:Nat} {aa ae bM:Int} {H:Hp} {R0:List Rs}  (h0:Inn H R0 fun R=>True) {r:Bool} (hp:bc.p F aa ae bM = some r):∃ v H',bc.tw F aa ae bM H = some (v,H')∧bc.Q H R0 R0  r v H':=by
 obtain ⟨w0,_⟩:=h0
 unfold bc.p at hp
 unfold bc.tw bc.twX
 have s0:=w0.rf
 refine bif_ex (fun hb=>?_) (fun hb=>?_)
 ·replace hp:=bif_t hb hp
  obtain rfl:=Option.some.inj hp
  exact ⟨_,_,rfl,rfl,w0,s0,trivial⟩
 ·replace hp:=bif_f hb hp
  obtain rfl:=Option.some.inj hp
  exact ⟨_,_,rfl,rfl,w0,s0,trivial⟩
def bC.Q (H0:Hp) (Ri R0:List Rs)  (r:Bool) (v:AV) (H':Hp):Prop:=v = (.bool r)∧Out H0 Ri H' (R0) fun R=>True
def bC.p (F:Nat) (aA:Int):Option (Bool):=(bif (aA != 1) then (some (aA != (-1))) else (some false))
theorem bC.P {F:Nat} {aa ab aC aD aA:Int} {H:Hp} {R0:List Rs}  (h0:Inn H R0 fun R=>True) {r:Bool} (hp:bC.p F aA = some r):∃ v H',bC.tw F aa ab aC aD aA H = some (v,H')∧bC.Q H R0 R0  r v H':=by
 obtain ⟨w0,_⟩:=h0
 unfold bC.p at hp
 unfold bC.tw bC.twX
 have s0:=w0.rf
 refine new_k w0 fun H1 w1 s1=>?_
 refine bind_ex (ldI_of (w1.ld (i:=0) rfl rfl)) ?_
 refine bif_ex (fun hb=>?_) (fun hb=>?_)
 ·replace hp:=bif_t hb hp
  refine bind_ex (ldI_of (w1.ld (i:=0) rfl rfl)) ?_
  obtain ⟨w2,s2⟩:=w1.pick' [] 1 rfl rfl rfl
  dsimp only [pk,pks,nth,List.drop] at w2 s2
  obtain rfl:=Option.some.inj hp
  exact ⟨_,_,rfl,rfl,w2,(s0.trans (s1.trans s2)),trivial⟩
 ·replace hp:=bif_f hb hp
  obtain ⟨w3,s3⟩:=w1.pick' [] 1 rfl rfl rfl
  dsimp only [pk,pks,nth,List.drop] at w3 s3
  obtain rfl:=Option.some.inj hp
  exact ⟨_,_,rfl,rfl,w3,(s0.trans (s1.trans s3)),trivial⟩
def aR.Q (H0:Hp) (Ri R0:List Rs)  (r:Int) (v:AV) (H':Hp):Prop:=v = (.int .i64 r)∧Out H0 Ri H' (R0) fun R=>True
def aR.S13 (H0:Hp) (Ri R0:List Rs)  (C:Sl→Int→Int→Hp→OA) (pC:List (Int×Int×Int×Int×Int)→Int→Int→Option (Int)):Prop:=∀ {ul:ON} {pQ:Nat} {um:Cap} {kn:List (Int×Int×Int×Int×Int)} {eW ei:Int},∀ {H:Hp},pQ = kn.length→(Out H0 Ri H R0 fun R=>ROs (ePair (eInt .i64) (ePair (eInt .i64) (ePair (eInt .i64) (ePair (eInt .i64) (eInt .i64))))) H R ⟨ul,pQ,um⟩ kn)→∀ {r:Int},pC kn eW ei = some r→∃ v H',C ⟨ul,pQ,um⟩ eW ei H = some (v,H')∧aR.Q H0 Ri R0  r v H'
def aR.pl13 (F:Nat) :Nat→List (Int×Int×Int×Int×Int)→Int→Int→Option (Int)
 | 0,_,_,_=>none
 | k + 1,kn,eW,ei=>(bif (decide (ei < eW)) then ((ix kn ei).bind fun n1=>(bC.p F ((gt kn n1).2.2.2.2)).bind fun r2=>(bif r2 then (some ei) else (aR.pl13 F k kn eW (IntKind.i64.wrap (ei + 1))))) else (some (-1)))
termination_by structural n=>n
theorem aR.l13_P {F:Nat} {H0:Hp} {Ri R0:List Rs}  :∀ k,aR.S13 H0 Ri R0  (aR.l13 F (bC.tw F)  k) (aR.pl13 F  k):=by
 intro k
 induction k with
 | zero=>
  intro ul pQ um kn eW ei H CA h0 r hp
  exact nomatch (show (none:Option (Int)) = some r from hp)
 | succ k ih=>
  intro ul pQ um kn eW ei H CA h0 r hp
  obtain ⟨w0,s0,CB⟩:=h0
  subst CA
  unfold aR.pl13 at hp
  unfold aR.l13
  refine bif_ex (fun hb=>?_) (fun hb=>?_)
  ·replace hp:=bif_t hb hp
   obtain ⟨n1,g1,hp⟩:=bind_some' hp
   obtain ⟨p1,q1,i1,h1,j1⟩:=ROs.ixr CB rfl g1
   refine bind_ex i1 ?_
   obtain ⟨_,_,rfl,rfl,_,_,rfl,rfl,_,_,rfl,rfl,_,_,rfl,rfl,rfl⟩:=h1
   refine bind_ex (ldI_of (j1 0 _ rfl)) ?_
   refine bind_ex (ldI_of (j1 1 _ rfl)) ?_
   refine bind_ex (ldI_of (j1 2 _ rfl)) ?_
   refine bind_ex (ldI_of (j1 3 _ rfl)) ?_
   refine bind_ex (ldI_of (j1 4 _ rfl)) ?_
   obtain ⟨r2,e2,hp⟩:=bind_some' hp
   refine call_ex (bC.P ⟨w0,trivial⟩ e2) ?_
   rintro _ H3 ⟨rfl,w3,s3,_⟩
   refine bind_ex rfl ?_
   refine bif_ex (fun hb=>?_) (fun hb=>?_)
   ·replace hp:=bif_t hb hp
    obtain rfl:=Option.some.inj hp
    exact ⟨_,_,rfl,rfl,w3,(s0.trans s3),trivial⟩
   ·replace hp:=bif_f hb hp
    exact ih rfl ⟨w3,(s0.trans s3),(CB.step s3)⟩ hp
  ·replace hp:=bif_f hb hp
   obtain rfl:=Option.some.inj hp
   exact ⟨_,_,rfl,rfl,w0,s0,trivial⟩
def aR.p (F:Nat) (ac:List (Int×Int×Int×Int×Int)):Option (Int):=aR.pl13 F F ac (ac.length:Int) 0
theorem aR.P {F:Nat} {au:ON} {ah:Nat} {av:Cap} {ac:List (Int×Int×Int×Int×Int)} {H:Hp} {R0:List Rs} (bb:ah = ac.length) (h0:Inn H R0 fun R=>ROs (ePair (eInt .i64) (ePair (eInt .i64) (ePair (eInt .i64) (ePair (eInt .i64) (eInt .i64))))) H R ⟨au,ah,av⟩ ac) {r:Int} (hp:aR.p F ac = some r):∃ v H',aR.tw F ⟨au,ah,av⟩ H = some (v,H')∧aR.Q H R0 R0  r v H':=by
 obtain ⟨w0,aL⟩:=h0
 subst bb
 unfold aR.p at hp
 unfold aR.tw aR.twX
 have s0:=w0.rf
 exact aR.l13_P F rfl ⟨w0,s0,aL⟩ hp
def bw.Q (H0:Hp) (Ri R0:List Rs)  (r:Bool) (v:AV) (H':Hp):Prop:=v = (.bool r)∧Out H0 Ri H' (R0) fun R=>True
def bw.p (F:Nat) (ac:List (Int×Int×Int×Int×Int)):Option (Bool):=(aR.p F ac).bind fun r1=>some (decide (r1 ≥ 0))
theorem bw.P {F:Nat} {au:ON} {ah:Nat} {av:Cap} {ac:List (Int×Int×Int×Int×Int)} {H:Hp} {R0:List Rs} (bb:ah = ac.length) (h0:Inn H R0 fun R=>ROs (ePair (eInt .i64) (ePair (eInt .i64) (ePair (eInt .i64) (ePair (eInt .i64) (eInt .i64))))) H R ⟨au,ah,av⟩ ac) {r:Bool} (hp:bw.p F ac = some r):∃ v H',bw.tw F ⟨au,ah,av⟩ H = some (v,H')∧bw.Q H R0 R0  r v H':=by
 obtain ⟨w0,aL⟩:=h0
 subst bb
 unfold bw.p at hp
 unfold bw.tw bw.twX
 have s0:=w0.rf
 obtain ⟨r1,e1,hp⟩:=bind_some' hp
 refine call_ex (aR.P rfl ⟨w0,aL⟩ e1) ?_
 rintro _ H2 ⟨rfl,w2,s2,_⟩
 refine bind_ex rfl ?_
 obtain rfl:=Option.some.inj hp
 exact ⟨_,_,rfl,rfl,w2,(s0.trans s2),trivial⟩
def bits_Mul64.Q (H0:Hp) (Ri R0:List Rs)  (r:Int×Int) (v:AV) (H':Hp):Prop:=v = (.tup [(.int .u64 r.1),(.int .u64 r.2)])∧Out H0 Ri H' (R0) fun R=>True
def bits_Mul64.p (F:Nat) (aa:Int) (ae:Int):Option (Int×Int):=some ((IntKind.u64.wrap ((IntKind.u64.wrap ((IntKind.u64.wrap ((Int.fdiv aa (2 ^ (min (32:Int).toNat (IntKind.u64).bits))) * (Int.fdiv ae (2 ^ (min (32:Int).toNat (IntKind.u64).bits))))) + (Int.fdiv (IntKind.u64.wrap ((IntKind.u64.wrap ((Int.fdiv aa (2 ^ (min (32:Int).toNat (IntKind.u64).bits))) * (Go.bits .and .u64 ae 4294967295))) + (Int.fdiv (IntKind.u64.wrap ((Go.bits .and .u64 aa 4294967295) * (Go.bits .and .u64 ae 4294967295))) (2 ^ (min (32:Int).toNat (IntKind.u64).bits))))) (2 ^ (min (32:Int).toNat (IntKind.u64).bits))))) + (Int.fdiv (IntKind.u64.wrap ((Go.bits .and .u64 (IntKind.u64.wrap ((IntKind.u64.wrap ((Int.fdiv aa (2 ^ (min (32:Int).toNat (IntKind.u64).bits))) * (Go.bits .and .u64 ae 4294967295))) + (Int.fdiv (IntKind.u64.wrap ((Go.bits .and .u64 aa 4294967295) * (Go.bits .and .u64 ae 4294967295))) (2 ^ (min (32:Int).toNat (IntKind.u64).bits))))) 4294967295) + (IntKind.u64.wrap ((Go.bits .and .u64 aa 4294967295) * (Int.fdiv ae (2 ^ (min (32:Int).toNat (IntKind.u64).bits))))))) (2 ^ (min (32:Int).toNat (IntKind.u64).bits))))),(IntKind.u64.wrap (aa * ae)))
theorem bits_Mul64.P {F:Nat} {aa ae:Int} {H:Hp} {R0:List Rs}  (h0:Inn H R0 fun R=>True) {r:Int×Int} (hp:bits_Mul64.p F aa ae = some r):∃ v H',bits_Mul64.tw F aa ae H = some (v,H')∧bits_Mul64.Q H R0 R0  r v H':=by
 obtain ⟨w0,_⟩:=h0
 unfold bits_Mul64.p at hp
 unfold bits_Mul64.tw bits_Mul64.twX
 have s0:=w0.rf
 obtain rfl:=Option.some.inj hp
 exact ⟨_,_,rfl,rfl,w0,s0,trivial⟩
def bits_Mul.Q (H0:Hp) (Ri R0:List Rs)  (r:Int×Int) (v:AV) (H':Hp):Prop:=v = (.tup [(.int .u64 r.1),(.int .u64 r.2)])∧Out H0 Ri H' (R0) fun R=>True
def bits_Mul.p (F:Nat) (aa:Int) (ae:Int):Option (Int×Int):=(bits_Mul64.p F aa ae).bind fun r1=>some (r1.1,r1.2)
theorem bits_Mul.P {F:Nat} {aa ae:Int} {H:Hp} {R0:List Rs}  (h0:Inn H R0 fun R=>True) {r:Int×Int} (hp:bits_Mul.p F aa ae = some r):∃ v H',bits_Mul.tw F aa ae H = some (v,H')∧bits_Mul.Q H R0 R0  r v H':=by
 obtain ⟨w0,_⟩:=h0
 unfold bits_Mul.p at hp
 unfold bits_Mul.tw bits_Mul.twX
 have s0:=w0.rf
 obtain ⟨r1,e1,hp⟩:=bind_some' hp
 refine call_ex (bits_Mul64.P ⟨w0,trivial⟩ e1) ?_
 rintro _ H2 ⟨rfl,w2,s2,_⟩
 refine bind_ex rfl ?_
 refine bind_ex rfl ?_
 refine bind_ex rfl ?_
 refine bind_ex rfl ?_
 refine bind_ex rfl ?_
 obtain rfl:=Option.some.inj hp
 exact ⟨_,_,rfl,rfl,w2,(s0.trans s2),trivial⟩
def aG.Q (H0:Hp) (Ri R0:List Rs)  (r:(List (Int×Int))) (v:AV) (H':Hp):Prop:=∃ o0a:ON,∃ o0n:Nat,∃ o0k:List AV,v = (.sl ⟨o0a,o0n,.ex o0n⟩)∧o0n = (r).length∧Out H0 Ri H' (Rs.own ⟨o0a,o0n,.ex o0n⟩ (ePair (eInt .i64) (eInt .i64)).z o0k :: R0) fun R=>CR (ePair (eInt .i64) (eInt .i64)) H' R o0k (r)
def aG.pj1 (F:Nat)  (nm:List (Int×Int)) (lI:Int):Option ((List (Int×Int))):=(mkn (IntKind.i64.wrap lI) ((0:Int),(0:Int))).bind fun l1=>(some (cpl l1 nm)).bind fun l3=>(rept F l3 ((min nm.length l1.length:Nat):Int)).bind fun l5=>some l5
theorem aG.j1_P {F:Nat} {H0:Hp} {Ri R0:List Rs}   {CC:ON} {yj:Nat} {CD:Cap} {nm:List (Int×Int)} {lI:Int} {H:Hp} (IP:yj = nm.length) (h0:Out H0 Ri H R0 fun R=>ROs (ePair (eInt .i64) (eInt .i64)) H R ⟨CC,yj,CD⟩ nm) {r:(List (Int×Int))} (hp:aG.pj1 F  nm lI = some r):∃ v H',aG.j1 F (bits_Mul.tw F)  ⟨CC,yj,CD⟩ lI H = some (v,H')∧aG.Q H0 Ri R0  r v H':=by
 obtain ⟨w0,s0,IQ⟩:=h0
 subst IP
 unfold aG.pj1 at hp
 unfold aG.j1
 obtain ⟨l1,e1,hp⟩:=bind_some' hp
 refine mk_k (ePair (eInt .i64) (eInt .i64)) ((0:Int),(0:Int)) w0 ⟨[_],_,rfl,rfl,rfl⟩ rfl rfl e1 fun H2 k2 w2 s2 c2=>?_
 obtain ⟨x3,h3,c3⟩:=(IQ.step s2).row (z:=(ePair (eInt .i64) (eInt .i64)).z) rfl
 obtain ⟨l3,e3,hp⟩:=bind_some' hp
 refine cpy_k (ePair (eInt .i64) (eInt .i64)) w2 (i:=0) rfl rfl c2 h3 c3 rfl rfl e3 fun k4 H4 w4 s4 c4=>?_
 dsimp only [List.set] at w4 s4 c4
 obtain ⟨l5,e5,hp⟩:=bind_some' hp
 refine rept_K (ePair (eInt .i64) (eInt .i64)) rfl (L:=aG.l254 F (bits_Mul.tw F)) (fun _ _ _ _=>rfl) w4 (i:=0) rfl c4 e5 fun H6 k6 w6 s6 c6=>?_
 dsimp only [List.set] at w6 s6 c6
 obtain rfl:=Option.some.inj hp
 exact ⟨_,_,rfl,_,_,_,rfl,((cpl_len e3).symm.trans (rept_len e5).symm),w6,(s0.trans (s2.trans (s4.trans s6))),c6⟩
def aG.pj2 (F:Nat)  (nn:List (Int×Int)) (mS:Int):Option ((List (Int×Int))):=(bits_Mul.p F (IntKind.u64.wrap (nn.length:Int)) (IntKind.u64.wrap mS)).bind fun r1=>(bif (decide (r1.1 > 0)) then (none) else ((bif (decide (r1.2 > 9223372036854775807)) then (none) else (aG.pj1 F nn r1.2))))
theorem aG.j2_P {F:Nat} {H0:Hp} {Ri R0:List Rs}   {CE:ON} {yk:Nat} {CF:Cap} {nn:List (Int×Int)} {mS:Int} {H:Hp} (IR:yk = nn.length) (h0:Out H0 Ri H R0 fun R=>ROs (ePair (eInt .i64) (eInt .i64)) H R ⟨CE,yk,CF⟩ nn) {r:(List (Int×Int))} (hp:aG.pj2 F  nn mS = some r):∃ v H',aG.j2 F (bits_Mul.tw F)  ⟨CE,yk,CF⟩ mS H = some (v,H')∧aG.Q H0 Ri R0  r v H':=by
 obtain ⟨w0,s0,IS⟩:=h0
 subst IR
 unfold aG.pj2 at hp
 unfold aG.j2
 obtain ⟨r1,e1,hp⟩:=bind_some' hp
 refine call_ex (bits_Mul.P ⟨w0,trivial⟩ e1) ?_
 rintro _ H2 ⟨rfl,w2,s2,_⟩
 refine bind_ex rfl ?_
 refine bind_ex rfl ?_
 refine bind_ex rfl ?_
 refine bind_ex rfl ?_
 refine bind_ex rfl ?_
 refine bif_ex (fun hb=>?_) (fun hb=>?_)
 ·replace hp:=bif_t hb hp
  cases hp
 ·replace hp:=bif_f hb hp
  refine bif_ex (fun hb=>?_) (fun hb=>?_)
  ·replace hp:=bif_t hb hp
   cases hp
  ·replace hp:=bif_f hb hp
   exact aG.j1_P rfl ⟨w2,(s0.trans s2),(IS.step s2)⟩ hp
def aG.p (F:Nat) (ac:List (Int×Int)) (ae:Int):Option ((List (Int×Int))):=(bif (decide (ae < 0)) then (none) else (aG.pj2 F ac ae))
theorem aG.P {F:Nat} {au:ON} {ah:Nat} {av:Cap} {ac:List (Int×Int)} {ae:Int} {H:Hp} {R0:List Rs} (bb:ah = ac.length) (h0:Inn H R0 fun R=>ROs (ePair (eInt .i64) (eInt .i64)) H R ⟨au,ah,av⟩ ac) {r:(List (Int×Int))} (hp:aG.p F ac ae = some r):∃ v H',aG.tw F ⟨au,ah,av⟩ ae H = some (v,H')∧aG.Q H R0 R0  r v H':=by
 obtain ⟨w0,aL⟩:=h0
 subst bb
 unfold aG.p at hp
 unfold aG.tw aG.twX
 have s0:=w0.rf
 refine bif_ex (fun hb=>?_) (fun hb=>?_)
 ·replace hp:=bif_t hb hp
  cases hp
 ·replace hp:=bif_f hb hp
  exact aG.j2_P rfl ⟨w0,s0,aL⟩ hp
def bd.Q (H0:Hp) (Ri R0:List Rs)  (r:Int×Int×Int×Int) (v:AV) (H':Hp):Prop:=v = (.agg [(.int .i64 r.1),(.int .i64 r.2.1),(.int .i64 r.2.2.1),(.int .i64 r.2.2.2)])∧Out H0 Ri H' (R0) fun R=>True
def bd.p (F:Nat) (aa:Int) (ab:Int) (aC:Int) (aD:Int):Option (Int×Int×Int×Int):=some (aa,ab,aC,aD)
theorem bd.P {F:Nat} {aa ab aC aD aA:Int} {H:Hp} {R0:List Rs}  (h0:Inn H R0 fun R=>True) {r:Int×Int×Int×Int} (hp:bd.p F aa ab aC aD = some r):∃ v H',bd.tw F aa ab aC aD aA H = some (v,H')∧bd.Q H R0 R0  r v H':=by
 obtain ⟨w0,_⟩:=h0
 unfold bd.p at hp
 unfold bd.tw bd.twX
 have s0:=w0.rf
 refine new_k w0 fun H1 w1 s1=>?_
 refine new_k w1 fun H2 w2 s2=>?_
 refine bind_ex (ldI_of (w2.ld (i:=1) rfl rfl)) ?_
 refine bind_ex (ldI_of (w2.ld (i:=1) rfl rfl)) ?_
 refine bind_ex (ldI_of (w2.ld (i:=1) rfl rfl)) ?_
 refine bind_ex (ldI_of (w2.ld (i:=1) rfl rfl)) ?_
 refine st_k w2 (i:=0) rfl rfl rfl fun H3 w3 s3=>?_
 dsimp only [List.set] at w3 s3
 refine st_k w3 (i:=0) rfl rfl rfl fun H4 w4 s4=>?_
 dsimp only [List.set] at w4 s4
 refine st_k w4 (i:=0) rfl rfl rfl fun H5 w5 s5=>?_
 dsimp only [List.set] at w5 s5
 refine st_k w5 (i:=0) rfl rfl rfl fun H6 w6 s6=>?_
 dsimp only [List.set] at w6 s6
 refine bind_ex (ldI_of (w6.ld (i:=0) rfl rfl)) ?_
 refine bind_ex (ldI_of (w6.ld (i:=0) rfl rfl)) ?_
 refine bind_ex (ldI_of (w6.ld (i:=0) rfl rfl)) ?_
 refine bind_ex (ldI_of (w6.ld (i:=0) rfl rfl)) ?_
 obtain ⟨w7,s7⟩:=w6.pick' [] 2 rfl rfl rfl
 dsimp only [pk,pks,nth,List.drop] at w7 s7
 obtain rfl:=Option.some.inj hp
 exact ⟨_,_,rfl,rfl,w7,(s0.trans (s1.trans (s2.trans (s3.trans (s4.trans (s5.trans (s6.trans s7))))))),trivial⟩
def bl.Q (H0:Hp) (Ri R0:List Rs)  (r:Bool) (v:AV) (H':Hp):Prop:=v = (.bool r)∧Out H0 Ri H' (R0) fun R=>True
def bl.p (F:Nat) (aA:Int) (bh:Int):Option (Bool):=(bif (bh == 0) then (some true) else (some (bh == (IntKind.i64.wrap (2 + aA)))))
theorem bl.P {F:Nat} {aa ab aC aD aA bh:Int} {H:Hp} {R0:List Rs}  (h0:Inn H R0 fun R=>True) {r:Bool} (hp:bl.p F aA bh = some r):∃ v H',bl.tw F aa ab aC aD aA bh H = some (v,H')∧bl.Q H R0 R0  r v H':=by
 obtain ⟨w0,_⟩:=h0
 unfold bl.p at hp
 unfold bl.tw bl.twX
 have s0:=w0.rf
 refine new_k w0 fun H1 w1 s1=>?_
 refine bif_ex (fun hb=>?_) (fun hb=>?_)
 ·replace hp:=bif_t hb hp
  obtain ⟨w2,s2⟩:=w1.pick' [] 1 rfl rfl rfl
  dsimp only [pk,pks,nth,List.drop] at w2 s2
  obtain rfl:=Option.some.inj hp
  exact ⟨_,_,rfl,rfl,w2,(s0.trans (s1.trans s2)),trivial⟩
 ·replace hp:=bif_f hb hp
  refine bind_ex (ldI_of (w1.ld (i:=0) rfl rfl)) ?_
  obtain ⟨w3,s3⟩:=w1.pick' [] 1 rfl rfl rfl
  dsimp only [pk,pks,nth,List.drop] at w3 s3
  obtain rfl:=Option.some.inj hp
  exact ⟨_,_,rfl,rfl,w3,(s0.trans (s1.trans s3)),trivial⟩
def bF.Q (H0:Hp) (Ri R0:List Rs)  (r:Int) (v:AV) (H':Hp):Prop:=v = (.int .i64 r)∧Out H0 Ri H' (R0) fun R=>True
def bF.p (F:Nat) (ac:List (Int×Int)):Option (Int):=some (ac.length:Int)
theorem bF.P {F:Nat} {au:ON} {ah:Nat} {av:Cap} {ac:List (Int×Int)} {H:Hp} {R0:List Rs} (bb:ah = ac.length) (h0:Inn H R0 fun R=>ROs (ePair (eInt .i64) (eInt .i64)) H R ⟨au,ah,av⟩ ac) {r:Int} (hp:bF.p F ac = some r):∃ v H',bF.tw F ⟨au,ah,av⟩ H = some (v,H')∧bF.Q H R0 R0  r v H':=by
 obtain ⟨w0,aL⟩:=h0
 subst bb
 unfold bF.p at hp
 unfold bF.tw bF.twX
 have s0:=w0.rf
 obtain rfl:=Option.some.inj hp
 exact ⟨_,_,rfl,rfl,w0,s0,trivial⟩
def bu.Q (H0:Hp) (Ri R0:List Rs)  (r:Bool) (v:AV) (H':Hp):Prop:=v = (.bool r)∧Out H0 Ri H' (R0) fun R=>True
def bu.p (F:Nat) (ac:List (Int×Int)) (ae:Int):Option (Bool):=(bF.p F ac).bind fun r1=>(bc.p F ae 0 (IntKind.i64.wrap (r1 - 1))).bind fun r3=>some r3
theorem bu.P {F:Nat} {au:ON} {ah:Nat} {av:Cap} {ac:List (Int×Int)} {ae:Int} {H:Hp} {R0:List Rs} (bb:ah = ac.length) (h0:Inn H R0 fun R=>ROs (ePair (eInt .i64) (eInt .i64)) H R ⟨au,ah,av⟩ ac) {r:Bool} (hp:bu.p F ac ae = some r):∃ v H',bu.tw F ⟨au,ah,av⟩ ae H = some (v,H')∧bu.Q H R0 R0  r v H':=by
 obtain ⟨w0,aL⟩:=h0
 subst bb
 unfold bu.p at hp
 unfold bu.tw bu.twX
 have s0:=w0.rf
 obtain ⟨r1,e1,hp⟩:=bind_some' hp
 refine call_ex (bF.P rfl ⟨w0,aL⟩ e1) ?_
 rintro _ H2 ⟨rfl,w2,s2,_⟩
 refine bind_ex rfl ?_
 obtain ⟨r3,e3,hp⟩:=bind_some' hp
 refine call_ex (bc.P ⟨w2,trivial⟩ e3) ?_
 rintro _ H4 ⟨rfl,w4,s4,_⟩
 refine bind_ex rfl ?_
 obtain rfl:=Option.some.inj hp
 exact ⟨_,_,rfl,rfl,w4,(s0.trans (s2.trans s4)),trivial⟩
def ay.Q (H0:Hp) (Ri R0:List Rs)  (r:(List (Int×Int))×(List (Int×Int))×Bool) (v:AV) (H':Hp):Prop:=∃ o0a:ON,∃ o0n:Nat,∃ o0c:Cap,∃ o0k:List AV,∃ o1a:ON,∃ o1n:Nat,∃ o1c:Cap,∃ o1k:List AV,v = (.tup [(.agg [(.sl ⟨o0a,o0n,o0c⟩),(.sl ⟨o1a,o1n,o1c⟩)]),(.bool r.2.2)])∧o0n = (r.1).length∧o1n = (r.2.1).length∧Out H0 Ri H' (Rs.own ⟨o0a,o0n,o0c⟩ (ePair (eInt .i64) (eInt .i64)).z o0k :: Rs.own ⟨o1a,o1n,o1c⟩ (ePair (eInt .i64) (eInt .i64)).z o1k :: R0) fun R=>CR (ePair (eInt .i64) (eInt .i64)) H' R o0k (r.1)∧CR (ePair (eInt .i64) (eInt .i64)) H' R o1k (r.2.1)
def ay.S61 (H0:Hp) (Ri R0:List Rs)  (C:Nat→Nat→Nat→Nat→Sl→Int→Int→Hp→OA) (pC:List (Int×Int)→List (Int×Int)→List (Int×Int×Int×Int×Int)→Int→Int→Option ((List (Int×Int))×(List (Int×Int))×Bool)):Prop:=∀ {un uo uq ur ut:ON} {pR pS ek pT pU eX pV:Nat} {uu uv uw ux uy:Cap} {uz uA lp lq:List (Int×Int)} {uB uC uD uE:List AV} {ic:List (Int×Int×Int×Int×Int)} {eY el:Int},∀ {H:Hp},pR = uz.length→pS = uA.length→pT = lp.length→pU = lq.length→pV = ic.length→(Out H0 Ri H (Rs.own ⟨un,pR,uu⟩ (ePair (eInt .i64) (eInt .i64)).z uB :: Rs.own ⟨uo,pS,uv⟩ (ePair (eInt .i64) (eInt .i64)).z uC :: Rs.blk ek [.sl ⟨un,pR,uu⟩,.sl ⟨uo,pS,uv⟩] :: Rs.own ⟨uq,pT,uw⟩ (ePair (eInt .i64) (eInt .i64)).z uD :: Rs.own ⟨ur,pU,ux⟩ (ePair (eInt .i64) (eInt .i64)).z uE :: Rs.blk eX [.sl ⟨uq,pT,uw⟩,.sl ⟨ur,pU,ux⟩] :: R0) fun R=>CR (ePair (eInt .i64) (eInt .i64)) H R uB uz∧CR (ePair (eInt .i64) (eInt .i64)) H R uC uA∧CR (ePair (eInt .i64) (eInt .i64)) H R uD lp∧CR (ePair (eInt .i64) (eInt .i64)) H R uE lq∧ROs (ePair (eInt .i64) (ePair (eInt .i64) (ePair (eInt .i64) (ePair (eInt .i64) (eInt .i64))))) H R ⟨ut,pV,uy⟩ ic)→∀ {r:(List (Int×Int))×(List (Int×Int))×Bool},pC lp lq ic eY el = some r→∃ v H',C ek 0 eX 0 ⟨ut,pV,uy⟩ eY el H = some (v,H')∧ay.Q H0 Ri R0  r v H'
def ay.S3931 (H0:Hp) (Ri R0:List Rs)  (C:Nat→Nat→Nat→Nat→Sl→Int→Int→Nat→Nat→Int→Int→Int→Int→Int→Int→Hp→OA) (pC:List (Int×Int)→List (Int×Int)→List (Int×Int×Int×Int×Int)→Int→Int→Int→Int→Int→Int→Int→Int→Int→Option ((List (Int×Int))×(List (Int×Int))×Bool)):Prop:=∀ {uF uG uH uI uJ:ON} {pW pX ck pY pZ cJ p_ dx:Nat} {uK uL uM uN uO:Cap} {uP uQ fG fH:List (Int×Int)} {uR uS uT uU:List AV} {ko:List (Int×Int×Int×Int×Int)} {dM ej yl ym yn yo lr cV cW cX cY cZ cp:Int},∀ {H:Hp},pW = uP.length→pX = uQ.length→pY = fG.length→pZ = fH.length→p_ = ko.length→(Out H0 Ri H (Rs.own ⟨uF,pW,uK⟩ (ePair (eInt .i64) (eInt .i64)).z uR :: Rs.own ⟨uG,pX,uL⟩ (ePair (eInt .i64) (eInt .i64)).z uS :: Rs.blk ck [.sl ⟨uF,pW,uK⟩,.sl ⟨uG,pX,uL⟩] :: Rs.own ⟨uH,pY,uM⟩ (ePair (eInt .i64) (eInt .i64)).z uT :: Rs.own ⟨uI,pZ,uN⟩ (ePair (eInt .i64) (eInt .i64)).z uU :: Rs.blk cJ [.sl ⟨uH,pY,uM⟩,.sl ⟨uI,pZ,uN⟩] :: Rs.blk dx [.int .i64 yl,.int .i64 ym,.int .i64 yn,.int .i64 yo,.int .i64 lr] :: R0) fun R=>CR (ePair (eInt .i64) (eInt .i64)) H R uR uP∧CR (ePair (eInt .i64) (eInt .i64)) H R uS uQ∧CR (ePair (eInt .i64) (eInt .i64)) H R uT fG∧CR (ePair (eInt .i64) (eInt .i64)) H R uU fH∧ROs (ePair (eInt .i64) (ePair (eInt .i64) (ePair (eInt .i64) (ePair (eInt .i64) (eInt .i64))))) H R ⟨uJ,p_,uO⟩ ko)→∀ {r:(List (Int×Int))×(List (Int×Int))×Bool},pC fG fH ko dM ej lr cV cW cX cY cZ cp = some r→∃ v H',C ck 0 cJ 0 ⟨uJ,p_,uO⟩ dM ej dx 0 cV cW cX cY cZ cp H = some (v,H')∧ay.Q H0 Ri R0  r v H'
def ay.pl3931 (F:Nat) (ax:List (Int×Int)→List (Int×Int)→List (Int×Int×Int×Int×Int)→Int→Int→Option ((List (Int×Int))×(List (Int×Int))×Bool)):Nat→List (Int×Int)→List (Int×Int)→List (Int×Int×Int×Int×Int)→Int→Int→Int→Int→Int→Int→Int→Int→Int→Option ((List (Int×Int))×(List (Int×Int))×Bool)
 | 0,_,_,_,_,_,_,_,_,_,_,_,_=>none
 | k + 1,fG,fH,ko,dM,ej,lr,cV,cW,cX,cY,cZ,cp=>(bif (decide (cp < 4)) then ((if 0 ≤ cp∧cp < (4:Int) then ((bl.p F lr cp).bind fun r2=>(bif r2 then ((bu.p F fH (gt ([cW,cX,cY,cZ]:List Int) (cp:Int).toNat)).bind fun r6=>(bif (!r6) then (some (fG,fH,false)) else ((ix fH (gt ([cW,cX,cY,cZ]:List Int) (cp:Int).toNat)).bind fun n12=>(bif (decide (((gt fH n12).1) ≥ 0)) then (some (fG,fH,false)) else ((ix fH (gt ([cW,cX,cY,cZ]:List Int) (cp:Int).toNat)).bind fun n16=>(some (fH.set n16 (cV,(gt fH n16).2))).bind fun l17=>(some (l17.set n16 ((gt l17 n16).1,cp))).bind fun l19=>ay.pl3931 F ax k fG l19 ko dM ej lr cV cW cX cY cZ (IntKind.i64.wrap (cp + 1))))))) else ((bu.p F fG (gt ([cW,cX,cY,cZ]:List Int) (cp:Int).toNat)).bind fun r24=>(bif (!r24) then (some (fG,fH,false)) else ((ix fG (gt ([cW,cX,cY,cZ]:List Int) (cp:Int).toNat)).bind fun n30=>(bif (decide (((gt fG n30).1) ≥ 0)) then (some (fG,fH,false)) else ((ix fG (gt ([cW,cX,cY,cZ]:List Int) (cp:Int).toNat)).bind fun n34=>(some (fG.set n34 (cV,(gt fG n34).2))).bind fun l35=>(some (l35.set n34 ((gt l35 n34).1,cp))).bind fun l37=>ay.pl3931 F ax k l37 fH ko dM ej lr cV cW cX cY cZ (IntKind.i64.wrap (cp + 1))))))))) else none)) else (ax fG fH ko dM (IntKind.i64.wrap (ej + 1))))
termination_by structural n=>n
theorem ay.l3931_P {F:Nat} {H0:Hp} {Ri R0:List Rs}  {C61_:Nat→Nat→Nat→Nat→Sl→Int→Int→Hp→OA} {ax:List (Int×Int)→List (Int×Int)→List (Int×Int×Int×Int×Int)→Int→Int→Option ((List (Int×Int))×(List (Int×Int))×Bool)} (hC61:ay.S61 H0 Ri R0  C61_ ax):∀ k,ay.S3931 H0 Ri R0  (ay.l3931 F (aG.tw F) (bd.tw F) (bl.tw F) (bu.tw F) C61_ k) (ay.pl3931 F ax k):=by
 intro k
 induction k with
 | zero=>
  intro uF uG uH uI uJ pW pX ck pY pZ cJ p_ dx uK uL uM uN uO uP uQ fG fH uR uS uT uU ko dM ej yl ym yn yo lr cV cW cX cY cZ cp H CG CH CI CJ CK h0 r hp
  exact nomatch (show (none:Option ((List (Int×Int))×(List (Int×Int))×Bool)) = some r from hp)
 | succ k ih=>
  intro uF uG uH uI uJ pW pX ck pY pZ cJ p_ dx uK uL uM uN uO uP uQ fG fH uR uS uT uU ko dM ej yl ym yn yo lr cV cW cX cY cZ cp H CG CH CI CJ CK h0 r hp
  obtain ⟨w0,s0,yp,yq,jH,jI,yr⟩:=h0
  subst CG
  subst CH
  subst CI
  subst CJ
  subst CK
  unfold ay.pl3931 at hp
  unfold ay.l3931
  refine bif_ex (fun hb=>?_) (fun hb=>?_)
  ·replace hp:=bif_t hb hp
   obtain ⟨g1,hp⟩:=ifs_p hp
   refine ifs_ex g1 ?_
   refine bind_ex (a:=AV.int .i64 (gt ([cW,cX,cY,cZ]:List Int) (cp:Int).toNat)) (by rw [Nat.mul_one]; exact arr_get (k:=.i64) (l:=[cW,cX,cY,cZ]) rfl (by have:=g1; simp only [List.length_cons,List.length_nil]; omega)) ?_
   refine bind_ex rfl ?_
   refine bind_ex (ldSl_of (w0.ld (i:=5) rfl rfl)) ?_
   refine bind_ex (ldI_of (w0.ld (i:=6) rfl rfl)) ?_
   refine bind_ex (ldI_of (w0.ld (i:=6) rfl rfl)) ?_
   refine bind_ex (ldI_of (w0.ld (i:=6) rfl rfl)) ?_
   refine bind_ex (ldI_of (w0.ld (i:=6) rfl rfl)) ?_
   refine bind_ex (ldI_of (w0.ld (i:=6) rfl rfl)) ?_
   obtain ⟨r2,e2,hp⟩:=bind_some' hp
   refine call_ex (bl.P ⟨w0,trivial⟩ e2) ?_
   rintro _ H3 ⟨rfl,w3,s3,_⟩
   refine bind_ex rfl ?_
   refine bif_ex (fun hb=>?_) (fun hb=>?_)
   ·replace hp:=bif_t hb hp
    refine bind_ex (ldSl_of (w3.ld (i:=5) rfl rfl)) ?_
    obtain ⟨w4,s4⟩:=w3.pick' [4,0,1,2,3,5,6] 7 rfl rfl rfl
    dsimp only [pk,pks,nth,List.drop] at w4 s4
    have f5:=W.borrow1 (ePair (eInt .i64) (eInt .i64)) w4 (jI.step (s3.trans s4))
    obtain ⟨w5,s5⟩:=w4.right1
    obtain ⟨r6,e6,hp⟩:=bind_some' hp
    refine call_ex (bu.P rfl ⟨w5,f5⟩ e6) ?_
    rintro _ H7 ⟨rfl,w7,s7,_⟩
    obtain ⟨w8,s8⟩:=W.frame1 w4 w7 s7
    refine bind_ex rfl ?_
    refine bif_ex (fun hb=>?_) (fun hb=>?_)
    ·replace hp:=bif_t hb hp
     refine bind_ex (ldSl_of (w8.ld (i:=5) rfl rfl)) ?_
     refine bind_ex (ldSl_of (w8.ld (i:=5) rfl rfl)) ?_
     refine st_k w8 (i:=3) rfl rfl rfl fun H9 w9 s9=>?_
     dsimp only [List.set] at w9 s9
     refine st_k w9 (i:=3) rfl rfl rfl fun H10 w10 s10=>?_
     dsimp only [List.set] at w10 s10
     refine bind_ex (ldSl_of (w10.ld (i:=3) rfl rfl)) ?_
     refine bind_ex (ldSl_of (w10.ld (i:=3) rfl rfl)) ?_
     obtain ⟨w11,s11⟩:=w10.pick' [4,0] 7 rfl rfl rfl
     dsimp only [pk,pks,nth,List.drop] at w11 s11
     obtain rfl:=Option.some.inj hp
     exact ⟨_,_,rfl,_,_,_,_,_,_,_,_,rfl,rfl,rfl,w11,(s0.trans (s3.trans (s4.trans (s8.trans (s9.trans (s10.trans s11)))))),(jH.step (s3.trans (s4.trans (s8.trans (s9.trans (s10.trans s11)))))),(jI.step (s3.trans (s4.trans (s8.trans (s9.trans (s10.trans s11))))))⟩
    ·replace hp:=bif_f hb hp
     obtain ⟨n12,g12,hp⟩:=bind_some' hp
     obtain ⟨p12,q12,i12,h12,j12⟩:=W.ixo (E:=(ePair (eInt .i64) (eInt .i64))) w8 (i:=0) rfl rfl (jI.step (s3.trans (s4.trans s8))) g12
     refine bind_ex i12 ?_
     obtain ⟨_,_,rfl,rfl,rfl⟩:=h12
     refine bind_ex (ldI_of (j12 0 _ rfl)) ?_
     refine bif_ex (fun hb=>?_) (fun hb=>?_)
     ·replace hp:=bif_t hb hp
      refine bind_ex (ldSl_of (w8.ld (i:=5) rfl rfl)) ?_
      refine bind_ex (ldSl_of (w8.ld (i:=5) rfl rfl)) ?_
      refine st_k w8 (i:=3) rfl rfl rfl fun H13 w13 s13=>?_
      dsimp only [List.set] at w13 s13
      refine st_k w13 (i:=3) rfl rfl rfl fun H14 w14 s14=>?_
      dsimp only [List.set] at w14 s14
      refine bind_ex (ldSl_of (w14.ld (i:=3) rfl rfl)) ?_
      refine bind_ex (ldSl_of (w14.ld (i:=3) rfl rfl)) ?_
      obtain ⟨w15,s15⟩:=w14.pick' [4,0] 7 rfl rfl rfl
      dsimp only [pk,pks,nth,List.drop] at w15 s15
      obtain rfl:=Option.some.inj hp
      exact ⟨_,_,rfl,_,_,_,_,_,_,_,_,rfl,rfl,rfl,w15,(s0.trans (s3.trans (s4.trans (s8.trans (s13.trans (s14.trans s15)))))),(jH.step (s3.trans (s4.trans (s8.trans (s13.trans (s14.trans s15)))))),(jI.step (s3.trans (s4.trans (s8.trans (s13.trans (s14.trans s15))))))⟩
     ·replace hp:=bif_f hb hp
      obtain ⟨n16,g16,hp⟩:=bind_some' hp
      obtain ⟨p16,q16,i16,h16,j16⟩:=W.ixo (E:=(ePair (eInt .i64) (eInt .i64))) w8 (i:=0) rfl rfl (jI.step (s3.trans (s4.trans s8))) g16
      refine bind_ex i16 ?_
      obtain ⟨l17,e17,hp⟩:=bind_some' hp
      refine sto_k (ePair (eInt .i64) (eInt .i64)) w8 (i:=0) (j:=0) (p:=p16) rfl rfl (jI.step (s3.trans (s4.trans s8))) g16 i16 e17 rfl rfl (fun _ h=>by obtain ⟨_,_,rfl,rfl,rfl⟩:=h; exact ⟨[_],_,rfl,rfl,rfl⟩) fun H18 k18 w18 s18 c18=>?_
      dsimp only [List.set] at w18 s18 c18
      obtain ⟨l19,e19,hp⟩:=bind_some' hp
      refine sto_k (ePair (eInt .i64) (eInt .i64)) w18 (i:=0) (j:=1) (p:=p16) rfl rfl c18 (ix_len g16 (st_len e17)) i16 e19 rfl rfl (fun _ h=>by obtain ⟨_,_,rfl,rfl,rfl⟩:=h; exact ⟨[_],_,rfl,rfl,rfl⟩) fun H20 k20 w20 s20 c20=>?_
      dsimp only [List.set] at w20 s20 c20
      obtain ⟨w21,s21⟩:=w20.pick' [1,2,3,4,0,5,6] 7 rfl rfl rfl
      dsimp only [pk,pks,nth,List.drop] at w21 s21
      exact ih rfl rfl rfl ((st_len e17).symm.trans (st_len e19).symm) rfl ⟨w21,(s0.trans (s3.trans (s4.trans (s8.trans (s18.trans (s20.trans s21)))))),(yp.step (s3.trans (s4.trans (s8.trans (s18.trans (s20.trans s21)))))),(yq.step (s3.trans (s4.trans (s8.trans (s18.trans (s20.trans s21)))))),(jH.step (s3.trans (s4.trans (s8.trans (s18.trans (s20.trans s21)))))),(c20.step s21),(yr.step (s3.trans (s4.trans (s8.trans (s18.trans (s20.trans s21))))))⟩ hp
   ·replace hp:=bif_f hb hp
    obtain ⟨w22,s22⟩:=w3.pick' [3,0,1,2,4,5,6] 7 rfl rfl rfl
    dsimp only [pk,pks,nth,List.drop] at w22 s22
    have f23:=W.borrow1 (ePair (eInt .i64) (eInt .i64)) w22 (jH.step (s3.trans s22))
    obtain ⟨w23,s23⟩:=w22.right1
    obtain ⟨r24,e24,hp⟩:=bind_some' hp
    refine call_ex (bu.P rfl ⟨w23,f23⟩ e24) ?_
    rintro _ H25 ⟨rfl,w25,s25,_⟩
    obtain ⟨w26,s26⟩:=W.frame1 w22 w25 s25
    refine bind_ex rfl ?_
    refine bif_ex (fun hb=>?_) (fun hb=>?_)
    ·replace hp:=bif_t hb hp
     refine bind_ex (ldSl_of (w26.ld (i:=5) rfl rfl)) ?_
     refine bind_ex (ldSl_of (w26.ld (i:=5) rfl rfl)) ?_
     refine st_k w26 (i:=3) rfl rfl rfl fun H27 w27 s27=>?_
     dsimp only [List.set] at w27 s27
     refine st_k w27 (i:=3) rfl rfl rfl fun H28 w28 s28=>?_
     dsimp only [List.set] at w28 s28
     refine bind_ex (ldSl_of (w28.ld (i:=3) rfl rfl)) ?_
     refine bind_ex (ldSl_of (w28.ld (i:=3) rfl rfl)) ?_
     obtain ⟨w29,s29⟩:=w28.pick' [0,4] 7 rfl rfl rfl
     dsimp only [pk,pks,nth,List.drop] at w29 s29
     obtain rfl:=Option.some.inj hp
     exact ⟨_,_,rfl,_,_,_,_,_,_,_,_,rfl,rfl,rfl,w29,(s0.trans (s3.trans (s22.trans (s26.trans (s27.trans (s28.trans s29)))))),(jH.step (s3.trans (s22.trans (s26.trans (s27.trans (s28.trans s29)))))),(jI.step (s3.trans (s22.trans (s26.trans (s27.trans (s28.trans s29))))))⟩
    ·replace hp:=bif_f hb hp
     obtain ⟨n30,g30,hp⟩:=bind_some' hp
     obtain ⟨p30,q30,i30,h30,j30⟩:=W.ixo (E:=(ePair (eInt .i64) (eInt .i64))) w26 (i:=0) rfl rfl (jH.step (s3.trans (s22.trans s26))) g30
     refine bind_ex i30 ?_
     obtain ⟨_,_,rfl,rfl,rfl⟩:=h30
     refine bind_ex (ldI_of (j30 0 _ rfl)) ?_
     refine bif_ex (fun hb=>?_) (fun hb=>?_)
     ·replace hp:=bif_t hb hp
      refine bind_ex (ldSl_of (w26.ld (i:=5) rfl rfl)) ?_
      refine bind_ex (ldSl_of (w26.ld (i:=5) rfl rfl)) ?_
      refine st_k w26 (i:=3) rfl rfl rfl fun H31 w31 s31=>?_
      dsimp only [List.set] at w31 s31
      refine st_k w31 (i:=3) rfl rfl rfl fun H32 w32 s32=>?_
      dsimp only [List.set] at w32 s32
      refine bind_ex (ldSl_of (w32.ld (i:=3) rfl rfl)) ?_
      refine bind_ex (ldSl_of (w32.ld (i:=3) rfl rfl)) ?_
      obtain ⟨w33,s33⟩:=w32.pick' [0,4] 7 rfl rfl rfl
      dsimp only [pk,pks,nth,List.drop] at w33 s33
      obtain rfl:=Option.some.inj hp
      exact ⟨_,_,rfl,_,_,_,_,_,_,_,_,rfl,rfl,rfl,w33,(s0.trans (s3.trans (s22.trans (s26.trans (s31.trans (s32.trans s33)))))),(jH.step (s3.trans (s22.trans (s26.trans (s31.trans (s32.trans s33)))))),(jI.step (s3.trans (s22.trans (s26.trans (s31.trans (s32.trans s33))))))⟩
     ·replace hp:=bif_f hb hp
      obtain ⟨n34,g34,hp⟩:=bind_some' hp
      obtain ⟨p34,q34,i34,h34,j34⟩:=W.ixo (E:=(ePair (eInt .i64) (eInt .i64))) w26 (i:=0) rfl rfl (jH.step (s3.trans (s22.trans s26))) g34
      refine bind_ex i34 ?_
      obtain ⟨l35,e35,hp⟩:=bind_some' hp
      refine sto_k (ePair (eInt .i64) (eInt .i64)) w26 (i:=0) (j:=0) (p:=p34) rfl rfl (jH.step (s3.trans (s22.trans s26))) g34 i34 e35 rfl rfl (fun _ h=>by obtain ⟨_,_,rfl,rfl,rfl⟩:=h; exact ⟨[_],_,rfl,rfl,rfl⟩) fun H36 k36 w36 s36 c36=>?_
      dsimp only [List.set] at w36 s36 c36
      obtain ⟨l37,e37,hp⟩:=bind_some' hp
      refine sto_k (ePair (eInt .i64) (eInt .i64)) w36 (i:=0) (j:=1) (p:=p34) rfl rfl c36 (ix_len g34 (st_len e35)) i34 e37 rfl rfl (fun _ h=>by obtain ⟨_,_,rfl,rfl,rfl⟩:=h; exact ⟨[_],_,rfl,rfl,rfl⟩) fun H38 k38 w38 s38 c38=>?_
      dsimp only [List.set] at w38 s38 c38
      obtain ⟨w39,s39⟩:=w38.pick' [1,2,3,0,4,5,6] 7 rfl rfl rfl
      dsimp only [pk,pks,nth,List.drop] at w39 s39
      exact ih rfl rfl ((st_len e35).symm.trans (st_len e37).symm) rfl rfl ⟨w39,(s0.trans (s3.trans (s22.trans (s26.trans (s36.trans (s38.trans s39)))))),(yp.step (s3.trans (s22.trans (s26.trans (s36.trans (s38.trans s39)))))),(yq.step (s3.trans (s22.trans (s26.trans (s36.trans (s38.trans s39)))))),(c38.step s39),(jI.step (s3.trans (s22.trans (s26.trans (s36.trans (s38.trans s39)))))),(yr.step (s3.trans (s22.trans (s26.trans (s36.trans (s38.trans s39))))))⟩ hp
  ·replace hp:=bif_f hb hp
   obtain ⟨w40,s40⟩:=w0.pick' [0,1,2,3,4,5] 7 rfl rfl rfl
   dsimp only [pk,pks,nth,List.drop] at w40 s40
   exact hC61 rfl rfl rfl rfl rfl ⟨w40,(s0.trans s40),(yp.step s40),(yq.step s40),(jH.step s40),(jI.step s40),(yr.step s40)⟩ hp
def ay.pl61 (F:Nat) :Nat→List (Int×Int)→List (Int×Int)→List (Int×Int×Int×Int×Int)→Int→Int→Option ((List (Int×Int))×(List (Int×Int))×Bool)
 | 0,_,_,_,_,_=>none
 | k + 1,lp,lq,ic,eY,el=>(bif (decide (el < eY)) then ((ix ic el).bind fun n1=>(bd.p F ((gt ic n1).1) ((gt ic n1).2.1) ((gt ic n1).2.2.1) ((gt ic n1).2.2.2.1)).bind fun r8=>ay.pl3931 F (ay.pl61 F k) F lp lq ic eY el ((gt ic n1).2.2.2.2) el r8.1 r8.2.1 r8.2.2.1 r8.2.2.2 0) else (some (lp,lq,true)))
termination_by structural n=>n
theorem ay.l61_P {F:Nat} {H0:Hp} {Ri R0:List Rs}  :∀ k,ay.S61 H0 Ri R0  (ay.l61 F (aG.tw F) (bd.tw F) (bl.tw F) (bu.tw F)  k) (ay.pl61 F  k):=by
 intro k
 induction k with
 | zero=>
  intro un uo uq ur ut pR pS ek pT pU eX pV uu uv uw ux uy uz uA lp lq uB uC uD uE ic eY el H CL CM CN CO CP h0 r hp
  exact nomatch (show (none:Option ((List (Int×Int))×(List (Int×Int))×Bool)) = some r from hp)
 | succ k ih=>
  intro un uo uq ur ut pR pS ek pT pU eX pV uu uv uw ux uy uz uA lp lq uB uC uD uE ic eY el H CL CM CN CO CP h0 r hp
  obtain ⟨w0,s0,IT,IU,CQ,CS,CT⟩:=h0
  subst CL
  subst CM
  subst CN
  subst CO
  subst CP
  unfold ay.pl61 at hp
  unfold ay.l61
  refine bif_ex (fun hb=>?_) (fun hb=>?_)
  ·replace hp:=bif_t hb hp
   obtain ⟨n1,g1,hp⟩:=bind_some' hp
   obtain ⟨p1,q1,i1,h1,j1⟩:=ROs.ixr CT rfl g1
   refine bind_ex i1 ?_
   obtain ⟨_,_,rfl,rfl,_,_,rfl,rfl,_,_,rfl,rfl,_,_,rfl,rfl,rfl⟩:=h1
   refine bind_ex (ldI_of (j1 0 _ rfl)) ?_
   refine bind_ex (ldI_of (j1 1 _ rfl)) ?_
   refine bind_ex (ldI_of (j1 2 _ rfl)) ?_
   refine bind_ex (ldI_of (j1 3 _ rfl)) ?_
   refine bind_ex (ldI_of (j1 4 _ rfl)) ?_
   refine new_k w0 fun H2 w2 s2=>?_
   refine st_k w2 (i:=0) rfl rfl rfl fun H3 w3 s3=>?_
   dsimp only [List.set] at w3 s3
   refine st_k w3 (i:=0) rfl rfl rfl fun H4 w4 s4=>?_
   dsimp only [List.set] at w4 s4
   refine st_k w4 (i:=0) rfl rfl rfl fun H5 w5 s5=>?_
   dsimp only [List.set] at w5 s5
   refine st_k w5 (i:=0) rfl rfl rfl fun H6 w6 s6=>?_
   dsimp only [List.set] at w6 s6
   refine st_k w6 (i:=0) rfl rfl rfl fun H7 w7 s7=>?_
   dsimp only [List.set] at w7 s7
   refine bind_ex (ldI_of (w7.ld (i:=0) rfl rfl)) ?_
   refine bind_ex (ldI_of (w7.ld (i:=0) rfl rfl)) ?_
   refine bind_ex (ldI_of (w7.ld (i:=0) rfl rfl)) ?_
   refine bind_ex (ldI_of (w7.ld (i:=0) rfl rfl)) ?_
   refine bind_ex (ldI_of (w7.ld (i:=0) rfl rfl)) ?_
   obtain ⟨r8,e8,hp⟩:=bind_some' hp
   refine call_ex (bd.P ⟨w7,trivial⟩ e8) ?_
   rintro _ H9 ⟨rfl,w9,s9,_⟩
   refine bind_ex rfl ?_
   refine bind_ex rfl ?_
   refine bind_ex rfl ?_
   refine bind_ex rfl ?_
   refine bind_ex rfl ?_
   refine bind_ex rfl ?_
   refine bind_ex rfl ?_
   refine bind_ex rfl ?_
   refine bind_ex rfl ?_
   obtain ⟨w10,s10⟩:=w9.pick' [1,2,3,4,5,6,0] 7 rfl rfl rfl
   dsimp only [pk,pks,nth,List.drop] at w10 s10
   exact ay.l3931_P (@ih) F rfl rfl rfl rfl rfl ⟨w10,(s0.trans (s2.trans (s3.trans (s4.trans (s5.trans (s6.trans (s7.trans (s9.trans s10)))))))),(IT.step (s2.trans (s3.trans (s4.trans (s5.trans (s6.trans (s7.trans (s9.trans s10)))))))),(IU.step (s2.trans (s3.trans (s4.trans (s5.trans (s6.trans (s7.trans (s9.trans s10)))))))),(CQ.step (s2.trans (s3.trans (s4.trans (s5.trans (s6.trans (s7.trans (s9.trans s10)))))))),(CS.step (s2.trans (s3.trans (s4.trans (s5.trans (s6.trans (s7.trans (s9.trans s10)))))))),(CT.step (s2.trans (s3.trans (s4.trans (s5.trans (s6.trans (s7.trans (s9.trans s10))))))))⟩ hp
  ·replace hp:=bif_f hb hp
   refine bind_ex (ldSl_of (w0.ld (i:=5) rfl rfl)) ?_
   refine bind_ex (ldSl_of (w0.ld (i:=5) rfl rfl)) ?_
   refine st_k w0 (i:=2) rfl rfl rfl fun H11 w11 s11=>?_
   dsimp only [List.set] at w11 s11
   refine st_k w11 (i:=2) rfl rfl rfl fun H12 w12 s12=>?_
   dsimp only [List.set] at w12 s12
   refine bind_ex (ldSl_of (w12.ld (i:=2) rfl rfl)) ?_
   refine bind_ex (ldSl_of (w12.ld (i:=2) rfl rfl)) ?_
   obtain ⟨w13,s13⟩:=w12.pick' [3,4] 6 rfl rfl rfl
   dsimp only [pk,pks,nth,List.drop] at w13 s13
   obtain rfl:=Option.some.inj hp
   exact ⟨_,_,rfl,_,_,_,_,_,_,_,_,rfl,rfl,rfl,w13,(s0.trans (s11.trans (s12.trans s13))),(CQ.step (s11.trans (s12.trans s13))),(CS.step (s11.trans (s12.trans s13)))⟩
def ay.p (F:Nat) (ac:List (Int×Int×Int×Int×Int)):Option ((List (Int×Int))×(List (Int×Int))×Bool):=(aG.p F ([((-1),0)]:List (Int×Int)) (IntKind.i64.wrap (2 * (ac.length:Int)))).bind fun r5=>(aG.p F ([((-1),0)]:List (Int×Int)) (IntKind.i64.wrap (2 * (ac.length:Int)))).bind fun r10=>ay.pl61 F F r5 r10 ac (ac.length:Int) 0
theorem ay.P {F:Nat} {au:ON} {ah:Nat} {av:Cap} {ac:List (Int×Int×Int×Int×Int)} {ab:Int} {H:Hp} {R0:List Rs} (bb:ah = ac.length) (h0:Inn H R0 fun R=>ROs (ePair (eInt .i64) (ePair (eInt .i64) (ePair (eInt .i64) (ePair (eInt .i64) (eInt .i64))))) H R ⟨au,ah,av⟩ ac) {r:(List (Int×Int))×(List (Int×Int))×Bool} (hp:ay.p F ac = some r):∃ v H',ay.tw F ⟨au,ah,av⟩ ab H = some (v,H')∧ay.Q H R0 R0  r v H':=by
 obtain ⟨w0,aL⟩:=h0
 subst bb
 unfold ay.p at hp
 unfold ay.tw ay.twX
 have s0:=w0.rf
 refine new_k w0 fun H1 w1 s1=>?_
 refine new_k w1 fun H2 w2 s2=>?_
 refine bind_ex (ldSl_of (w2.ld (i:=1) rfl rfl)) ?_
 refine newS_k (ePair (eInt .i64) (eInt .i64)) w2 (n:=1) (l:=([((-1),0)]:List (Int×Int))) rfl (CR.cons (c:=[_,_]) ⟨[_],_,rfl,rfl,rfl⟩ CR.empty) rfl fun H3 w3 s3 c3=>?_
 have f4:=W.borrow1 (ePair (eInt .i64) (eInt .i64)) w3 c3
 obtain ⟨w4,s4⟩:=w3.right1
 obtain ⟨r5,e5,hp⟩:=bind_some' hp
 refine call_ex (aG.P (show 1 = List.length ([((-1),0)]:List (Int×Int)) from rfl) ⟨w4,f4⟩ e5) ?_
 rintro _ H6 ⟨o0a_6,o0n_6,o0k_6,rfl,rfl,w6,s6,f6_0⟩
 obtain ⟨w7,s7⟩:=W.frame1 w3 w6 s6
 refine bind_ex rfl ?_
 refine newS_k (ePair (eInt .i64) (eInt .i64)) w7 (n:=1) (l:=([((-1),0)]:List (Int×Int))) rfl (CR.cons (c:=[_,_]) ⟨[_],_,rfl,rfl,rfl⟩ CR.empty) rfl fun H8 w8 s8 c8=>?_
 have f9:=W.borrow1 (ePair (eInt .i64) (eInt .i64)) w8 c8
 obtain ⟨w9,s9⟩:=w8.right1
 obtain ⟨r10,e10,hp⟩:=bind_some' hp
 refine call_ex (aG.P (show 1 = List.length ([((-1),0)]:List (Int×Int)) from rfl) ⟨w9,f9⟩ e10) ?_
 rintro _ H11 ⟨o0a_11,o0n_11,o0k_11,rfl,rfl,w11,s11,f11_0⟩
 obtain ⟨w12,s12⟩:=W.frame1 w8 w11 s11
 refine bind_ex rfl ?_
 refine new_k w12 fun H13 w13 s13=>?_
 refine st_k w13 (i:=0) rfl rfl rfl fun H14 w14 s14=>?_
 dsimp only [List.set] at w14 s14
 refine st_k w14 (i:=0) rfl rfl rfl fun H15 w15 s15=>?_
 dsimp only [List.set] at w15 s15
 refine bind_ex (ldSl_of (w15.ld (i:=6) rfl rfl)) ?_
 obtain ⟨w16,s16⟩:=w15.nilS (ePair (eInt .i64) (eInt .i64)).z (by decide)
 obtain ⟨w17,s17⟩:=w16.nilS (ePair (eInt .i64) (eInt .i64)).z (by decide)
 obtain ⟨w18,s18⟩:=w17.pick' [1,0,7,6,4,2] 9 rfl rfl rfl
 dsimp only [pk,pks,nth,List.drop] at w18 s18
 exact ay.l61_P F rfl rfl rfl rfl rfl ⟨w18,(s0.trans (s1.trans (s2.trans (s3.trans (s7.trans (s8.trans (s12.trans (s13.trans (s14.trans (s15.trans (s16.trans (s17.trans s18)))))))))))),((CR.empty:CR (ePair (eInt .i64) (eInt .i64)) _ _ [] []).step (s17.trans s18)),((CR.empty:CR (ePair (eInt .i64) (eInt .i64)) _ _ [] []).step s18),((CR.flat (ePair_flat (eInt_flat .i64) (eInt_flat .i64)) f6_0).step (s8.trans (s12.trans (s13.trans (s14.trans (s15.trans (s16.trans (s17.trans s18)))))))),((CR.flat (ePair_flat (eInt_flat .i64) (eInt_flat .i64)) f11_0).step (s13.trans (s14.trans (s15.trans (s16.trans (s17.trans s18)))))),(aL.step (s1.trans (s2.trans (s3.trans (s7.trans (s8.trans (s12.trans (s13.trans (s14.trans (s15.trans (s16.trans (s17.trans s18))))))))))))⟩ hp
def bq.Q (H0:Hp) (Ri R0:List Rs)  (r:Int×Int) (v:AV) (H':Hp):Prop:=v = (.agg [(.int .i64 r.1),(.int .i64 r.2)])∧Out H0 Ri H' (R0) fun R=>True
def bq.p (F:Nat) (ac:List (Int×Int×Int×Int×Int)) (dq:List (Int×Int)) (cv:List (Int×Int)) (cC:Int) (eo:Int):Option (Int×Int):=(ix ac cC).bind fun n5=>(bd.p F ((gt ac n5).1) ((gt ac n5).2.1) ((gt ac n5).2.2.1) ((gt ac n5).2.2.2.1)).bind fun r12=>(if 0 ≤ eo∧eo < (4:Int) then ((bl.p F ((gt ac n5).2.2.2.2) eo).bind fun r16=>(bif r16 then ((ix dq (gt ([r12.1,r12.2.1,r12.2.2.1,r12.2.2.2]:List Int) (eo:Int).toNat)).bind fun n18=>some (((gt dq n18).1),((gt dq n18).2))) else ((ix cv (gt ([r12.1,r12.2.1,r12.2.2.1,r12.2.2.2]:List Int) (eo:Int).toNat)).bind fun n22=>some (((gt cv n22).1),((gt cv n22).2))))) else none)
theorem bq.P {F:Nat} {au jt gZ:ON} {ah gC fv:Nat} {av ju g_:Cap} {ac:List (Int×Int×Int×Int×Int)} {ab cC eo:Int} {dq cv:List (Int×Int)} {H:Hp} {R0:List Rs} (bb:ah = ac.length) (l_:gC = dq.length) (kp:fv = cv.length) (h0:Inn H R0 fun R=>ROs (ePair (eInt .i64) (ePair (eInt .i64) (ePair (eInt .i64) (ePair (eInt .i64) (eInt .i64))))) H R ⟨au,ah,av⟩ ac∧ROs (ePair (eInt .i64) (eInt .i64)) H R ⟨jt,gC,ju⟩ dq∧ROs (ePair (eInt .i64) (eInt .i64)) H R ⟨gZ,fv,g_⟩ cv) {r:Int×Int} (hp:bq.p F ac dq cv cC eo = some r):∃ v H',bq.tw F ⟨au,ah,av⟩ ab ⟨jt,gC,ju⟩ ⟨gZ,fv,g_⟩ cC eo H = some (v,H')∧bq.Q H R0 R0  r v H':=by
 obtain ⟨w0,aL,ma,kq⟩:=h0
 subst bb
 subst l_
 subst kp
 unfold bq.p at hp
 unfold bq.tw bq.twX
 have s0:=w0.rf
 refine new_k w0 fun H1 w1 s1=>?_
 refine new_k w1 fun H2 w2 s2=>?_
 refine new_k w2 fun H3 w3 s3=>?_
 refine new_k w3 fun H4 w4 s4=>?_
 refine bind_ex (ldSl_of (w4.ld (i:=3) rfl rfl)) ?_
 refine bind_ex (ldI_of (w4.ld (i:=1) rfl rfl)) ?_
 obtain ⟨n5,g5,hp⟩:=bind_some' hp
 obtain ⟨p5,q5,i5,h5,j5⟩:=ROs.ixr (aL.step (s1.trans (s2.trans (s3.trans s4)))) rfl g5
 refine bind_ex i5 ?_
 obtain ⟨_,_,rfl,rfl,_,_,rfl,rfl,_,_,rfl,rfl,_,_,rfl,rfl,rfl⟩:=h5
 refine bind_ex (ldI_of (j5 0 _ rfl)) ?_
 refine bind_ex (ldI_of (j5 1 _ rfl)) ?_
 refine bind_ex (ldI_of (j5 2 _ rfl)) ?_
 refine bind_ex (ldI_of (j5 3 _ rfl)) ?_
 refine bind_ex (ldI_of (j5 4 _ rfl)) ?_
 refine new_k w4 fun H6 w6 s6=>?_
 refine st_k w6 (i:=0) rfl rfl rfl fun H7 w7 s7=>?_
 dsimp only [List.set] at w7 s7
 refine st_k w7 (i:=0) rfl rfl rfl fun H8 w8 s8=>?_
 dsimp only [List.set] at w8 s8
 refine st_k w8 (i:=0) rfl rfl rfl fun H9 w9 s9=>?_
 dsimp only [List.set] at w9 s9
 refine st_k w9 (i:=0) rfl rfl rfl fun H10 w10 s10=>?_
 dsimp only [List.set] at w10 s10
 refine st_k w10 (i:=0) rfl rfl rfl fun H11 w11 s11=>?_
 dsimp only [List.set] at w11 s11
 refine bind_ex (ldI_of (w11.ld (i:=0) rfl rfl)) ?_
 refine bind_ex (ldI_of (w11.ld (i:=0) rfl rfl)) ?_
 refine bind_ex (ldI_of (w11.ld (i:=0) rfl rfl)) ?_
 refine bind_ex (ldI_of (w11.ld (i:=0) rfl rfl)) ?_
 refine bind_ex (ldI_of (w11.ld (i:=0) rfl rfl)) ?_
 obtain ⟨r12,e12,hp⟩:=bind_some' hp
 refine call_ex (bd.P ⟨w11,trivial⟩ e12) ?_
 rintro _ H13 ⟨rfl,w13,s13,_⟩
 refine bind_ex rfl ?_
 refine bind_ex rfl ?_
 refine bind_ex rfl ?_
 refine bind_ex rfl ?_
 refine bind_ex rfl ?_
 refine bind_ex rfl ?_
 refine bind_ex rfl ?_
 refine bind_ex rfl ?_
 refine bind_ex rfl ?_
 refine ifs_ex (W.cons_of (Rn:=[]) w11 w13 s13) ?_
 refine bind_ex (ldI_of (w13.ld (i:=2) rfl rfl)) ?_
 obtain ⟨g15,hp⟩:=ifs_p hp
 refine ifs_ex g15 ?_
 refine bind_ex (a:=AV.int .i64 (gt ([r12.1,r12.2.1,r12.2.2.1,r12.2.2.2]:List Int) (eo:Int).toNat)) (by rw [Nat.mul_one]; exact arr_get (k:=.i64) (l:=[r12.1,r12.2.1,r12.2.2.1,r12.2.2.2]) rfl (by have:=g15; simp only [List.length_cons,List.length_nil]; omega)) ?_
 refine bind_ex rfl ?_
 refine bind_ex (ldI_of (w13.ld (i:=0) rfl rfl)) ?_
 refine bind_ex (ldI_of (w13.ld (i:=0) rfl rfl)) ?_
 refine bind_ex (ldI_of (w13.ld (i:=0) rfl rfl)) ?_
 refine bind_ex (ldI_of (w13.ld (i:=0) rfl rfl)) ?_
 refine bind_ex (ldI_of (w13.ld (i:=0) rfl rfl)) ?_
 refine bind_ex (ldI_of (w13.ld (i:=2) rfl rfl)) ?_
 obtain ⟨r16,e16,hp⟩:=bind_some' hp
 refine call_ex (bl.P ⟨w13,trivial⟩ e16) ?_
 rintro _ H17 ⟨rfl,w17,s17,_⟩
 refine bind_ex rfl ?_
 refine bif_ex (fun hb=>?_) (fun hb=>?_)
 ·replace hp:=bif_t hb hp
  refine bind_ex (ldSl_of (w17.ld (i:=3) rfl rfl)) ?_
  obtain ⟨n18,g18,hp⟩:=bind_some' hp
  obtain ⟨p18,q18,i18,h18,j18⟩:=ROs.ixr (ma.step (s1.trans (s2.trans (s3.trans (s4.trans (s6.trans (s7.trans (s8.trans (s9.trans (s10.trans (s11.trans (s13.trans s17)))))))))))) rfl g18
  refine bind_ex i18 ?_
  obtain ⟨_,_,rfl,rfl,rfl⟩:=h18
  refine bind_ex (ldI_of (j18 0 _ rfl)) ?_
  refine bind_ex (ldI_of (j18 1 _ rfl)) ?_
  refine st_k w17 (i:=1) rfl rfl rfl fun H19 w19 s19=>?_
  dsimp only [List.set] at w19 s19
  refine st_k w19 (i:=1) rfl rfl rfl fun H20 w20 s20=>?_
  dsimp only [List.set] at w20 s20
  refine bind_ex (ldI_of (w20.ld (i:=1) rfl rfl)) ?_
  refine bind_ex (ldI_of (w20.ld (i:=1) rfl rfl)) ?_
  obtain ⟨w21,s21⟩:=w20.pick' [] 5 rfl rfl rfl
  dsimp only [pk,pks,nth,List.drop] at w21 s21
  obtain rfl:=Option.some.inj hp
  exact ⟨_,_,rfl,rfl,w21,(s0.trans (s1.trans (s2.trans (s3.trans (s4.trans (s6.trans (s7.trans (s8.trans (s9.trans (s10.trans (s11.trans (s13.trans (s17.trans (s19.trans (s20.trans s21))))))))))))))),trivial⟩
 ·replace hp:=bif_f hb hp
  refine bind_ex (ldSl_of (w17.ld (i:=3) rfl rfl)) ?_
  obtain ⟨n22,g22,hp⟩:=bind_some' hp
  obtain ⟨p22,q22,i22,h22,j22⟩:=ROs.ixr (kq.step (s1.trans (s2.trans (s3.trans (s4.trans (s6.trans (s7.trans (s8.trans (s9.trans (s10.trans (s11.trans (s13.trans s17)))))))))))) rfl g22
  refine bind_ex i22 ?_
  obtain ⟨_,_,rfl,rfl,rfl⟩:=h22
  refine bind_ex (ldI_of (j22 0 _ rfl)) ?_
  refine bind_ex (ldI_of (j22 1 _ rfl)) ?_
  refine st_k w17 (i:=1) rfl rfl rfl fun H23 w23 s23=>?_
  dsimp only [List.set] at w23 s23
  refine st_k w23 (i:=1) rfl rfl rfl fun H24 w24 s24=>?_
  dsimp only [List.set] at w24 s24
  refine bind_ex (ldI_of (w24.ld (i:=1) rfl rfl)) ?_
  refine bind_ex (ldI_of (w24.ld (i:=1) rfl rfl)) ?_
  obtain ⟨w25,s25⟩:=w24.pick' [] 5 rfl rfl rfl
  dsimp only [pk,pks,nth,List.drop] at w25 s25
  obtain rfl:=Option.some.inj hp
  exact ⟨_,_,rfl,rfl,w25,(s0.trans (s1.trans (s2.trans (s3.trans (s4.trans (s6.trans (s7.trans (s8.trans (s9.trans (s10.trans (s11.trans (s13.trans (s17.trans (s23.trans (s24.trans s25))))))))))))))),trivial⟩
def ap.Q (H0:Hp) (Ri R0:List Rs)  (r:List (List Int)) (v:AV) (H':Hp):Prop:=∃ o0a:ON,∃ o0n:Nat,∃ o0c:Cap,∃ o0k:List AV,v = (.sl ⟨o0a,o0n,o0c⟩)∧o0n = (r).length∧Out H0 Ri H' (Rs.own ⟨o0a,o0n,o0c⟩ (eSl (eInt .i64)).z o0k :: R0) fun R=>CR (eSl (eInt .i64)) H' R o0k (r)
def ap.S61 (H0:Hp) (Ri R0:List Rs)  (C:Nat→Nat→Nat→Nat→Sl→Sl→Int→Int→Hp→OA) (pC:List (Int×Int×Int×Int×Int)→List (Int×Int)→List (Int×Int)→List (List Int)→List Bool→Int→Int→Option (List (List Int))):Prop:=∀ {kr uV kt ku kv:ON} {jv co qd jw cu jx jy:Nat} {kw uW kx ky kz:Cap} {gD:List (Int×Int×Int×Int×Int)} {mb fa eP:Int} {mc gE:List (Int×Int)} {f_:List (List Int)} {kA kB:List AV} {gF:List Bool},∀ {H:Hp},jv = gD.length→qd = mc.length→jw = gE.length→jx = f_.length→jy = gF.length→(Out H0 Ri H (Rs.blk co [.sl ⟨kr,jv,kw⟩,.int .i64 mb] :: Rs.blk cu [.sl ⟨uV,qd,uW⟩,.sl ⟨kt,jw,kx⟩] :: Rs.own ⟨ku,jx,ky⟩ (eSl (eInt .i64)).z kA :: Rs.own ⟨kv,jy,kz⟩ eBool.z kB :: R0) fun R=>ROs (ePair (eInt .i64) (ePair (eInt .i64) (ePair (eInt .i64) (ePair (eInt .i64) (eInt .i64))))) H R ⟨kr,jv,kw⟩ gD∧ROs (ePair (eInt .i64) (eInt .i64)) H R ⟨uV,qd,uW⟩ mc∧ROs (ePair (eInt .i64) (eInt .i64)) H R ⟨kt,jw,kx⟩ gE∧CR (eSl (eInt .i64)) H R kA f_∧CR eBool H R kB gF)→∀ {r:List (List Int)},pC gD mc gE f_ gF fa eP = some r→∃ v H',C co 0 cu 0 ⟨ku,jx,ky⟩ ⟨kv,jy,kz⟩ fa eP H = some (v,H')∧ap.Q H0 Ri R0  r v H'
def ap.S15725 (H0:Hp) (Ri R0:List Rs)  (C:Nat→Nat→Nat→Nat→Sl→Sl→Int→Int→Sl→Int→Hp→OA) (pC:List (Int×Int×Int×Int×Int)→List (Int×Int)→List (Int×Int)→List (List Int)→List Bool→Int→Int→List Int→Int→Option (List (List Int))):Prop:=∀ {uX uY uZ u_ va vb:ON} {qe dC qf qg dN qh qi qj:Nat} {vc vd ve vf vg vh:Cap} {kC:List (Int×Int×Int×Int×Int)} {yt e_ fC c_:Int} {kD kE:List (Int×Int)} {lu:List (List Int)} {vi vj vk:List AV} {jz:List Bool} {lv:List Int},∀ {H:Hp},qe = kC.length→qf = kD.length→qg = kE.length→qh = lu.length→qi = jz.length→qj = lv.length→(Out H0 Ri H (Rs.blk dC [.sl ⟨uX,qe,vc⟩,.int .i64 yt] :: Rs.blk dN [.sl ⟨uY,qf,vd⟩,.sl ⟨uZ,qg,ve⟩] :: Rs.own ⟨u_,qh,vf⟩ (eSl (eInt .i64)).z vi :: Rs.own ⟨va,qi,vg⟩ eBool.z vj :: Rs.own ⟨vb,qj,vh⟩ (eInt .i64).z vk :: R0) fun R=>ROs (ePair (eInt .i64) (ePair (eInt .i64) (ePair (eInt .i64) (ePair (eInt .i64) (eInt .i64))))) H R ⟨uX,qe,vc⟩ kC∧ROs (ePair (eInt .i64) (eInt .i64)) H R ⟨uY,qf,vd⟩ kD∧ROs (ePair (eInt .i64) (eInt .i64)) H R ⟨uZ,qg,ve⟩ kE∧CR (eSl (eInt .i64)) H R vi lu∧CR eBool H R vj jz∧CR (eInt .i64) H R vk lv)→∀ {r:List (List Int)},pC kC kD kE lu jz e_ fC lv c_ = some r→∃ v H',C dC 0 dN 0 ⟨u_,qh,vf⟩ ⟨va,qi,vg⟩ e_ fC ⟨vb,qj,vh⟩ c_ H = some (v,H')∧ap.Q H0 Ri R0  r v H'
def ap.pj4 (F:Nat) (ax:List (Int×Int×Int×Int×Int)→List (Int×Int)→List (Int×Int)→List (List Int)→List Bool→Int→Int→Option (List (List Int))) (qk:List (Int×Int×Int×Int×Int)) (ql:List (Int×Int)) (qn:List (Int×Int)) (qo:List (List Int)) (qp:List Bool) (mT:Int) (mU:Int):Option (List (List Int)):=ax qk ql qn qo qp mT (IntKind.i64.wrap (mU + 1))
theorem ap.j4_P {F:Nat} {H0:Hp} {Ri R0:List Rs}  {C61_:Nat→Nat→Nat→Nat→Sl→Sl→Int→Int→Hp→OA} {ax:List (Int×Int×Int×Int×Int)→List (Int×Int)→List (Int×Int)→List (List Int)→List Bool→Int→Int→Option (List (List Int))} (hC61:ap.S61 H0 Ri R0  C61_ ax) {CU CV CW CX CY:ON} {yu rO yv yw rP yx yy:Nat} {CZ C_ Da Db Dc:Cap} {qk:List (Int×Int×Int×Int×Int)} {IV mT mU:Int} {ql qn:List (Int×Int)} {qo:List (List Int)} {Dd De:List AV} {qp:List Bool} {H:Hp} (IW:yu = qk.length) (IX:yv = ql.length) (IY:yw = qn.length) (IZ:yx = qo.length) (I_:yy = qp.length) (h0:Out H0 Ri H (Rs.blk rO [.sl ⟨CU,yu,CZ⟩,.int .i64 IV] :: Rs.blk rP [.sl ⟨CV,yv,C_⟩,.sl ⟨CW,yw,Da⟩] :: Rs.own ⟨CX,yx,Db⟩ (eSl (eInt .i64)).z Dd :: Rs.own ⟨CY,yy,Dc⟩ eBool.z De :: R0) fun R=>ROs (ePair (eInt .i64) (ePair (eInt .i64) (ePair (eInt .i64) (ePair (eInt .i64) (eInt .i64))))) H R ⟨CU,yu,CZ⟩ qk∧ROs (ePair (eInt .i64) (eInt .i64)) H R ⟨CV,yv,C_⟩ ql∧ROs (ePair (eInt .i64) (eInt .i64)) H R ⟨CW,yw,Da⟩ qn∧CR (eSl (eInt .i64)) H R Dd qo∧CR eBool H R De qp) {r:List (List Int)} (hp:ap.pj4 F ax qk ql qn qo qp mT mU = some r):∃ v H',ap.j4 F (bq.tw F) C61_ rO 0 rP 0 ⟨CX,yx,Db⟩ ⟨CY,yy,Dc⟩ mT mU H = some (v,H')∧ap.Q H0 Ri R0  r v H':=by
 obtain ⟨w0,s0,Ja,Jb,Jc,Jd,Je⟩:=h0
 subst IW
 subst IX
 subst IY
 subst IZ
 subst I_
 unfold ap.pj4 at hp
 unfold ap.j4
 exact hC61 rfl rfl rfl rfl rfl ⟨w0,s0,Ja,Jb,Jc,Jd,Je⟩ hp
def ap.pj5 (F:Nat) (ax:List (Int×Int×Int×Int×Int)→List (Int×Int)→List (Int×Int)→List (List Int)→List Bool→Int→Int→Option (List (List Int))) (qq:List (Int×Int×Int×Int×Int)) (qr:List (Int×Int)) (qs:List (Int×Int)) (qt:List (List Int)) (qu:List Bool) (mV:Int) (mW:Int):Option (List (List Int)):=ap.pj4 F ax qq qr qs qt qu mV mW
theorem ap.j5_P {F:Nat} {H0:Hp} {Ri R0:List Rs}  {C61_:Nat→Nat→Nat→Nat→Sl→Sl→Int→Int→Hp→OA} {ax:List (Int×Int×Int×Int×Int)→List (Int×Int)→List (Int×Int)→List (List Int)→List Bool→Int→Int→Option (List (List Int))} (hC61:ap.S61 H0 Ri R0  C61_ ax) {Df Dg Dh Di Dj:ON} {yz rQ yA yB mq yC yD:Nat} {Dk Dl Dm Dn Do:Cap} {qq:List (Int×Int×Int×Int×Int)} {Jf mV mW:Int} {qr qs:List (Int×Int)} {qt:List (List Int)} {Dp Dq:List AV} {qu:List Bool} {H:Hp} (Jg:yz = qq.length) (Jh:yA = qr.length) (Ji:yB = qs.length) (Jj:yC = qt.length) (Jk:yD = qu.length) (h0:Out H0 Ri H (Rs.blk rQ [.sl ⟨Df,yz,Dk⟩,.int .i64 Jf] :: Rs.blk mq [.sl ⟨Dg,yA,Dl⟩,.sl ⟨Dh,yB,Dm⟩] :: Rs.own ⟨Di,yC,Dn⟩ (eSl (eInt .i64)).z Dp :: Rs.own ⟨Dj,yD,Do⟩ eBool.z Dq :: R0) fun R=>ROs (ePair (eInt .i64) (ePair (eInt .i64) (ePair (eInt .i64) (ePair (eInt .i64) (eInt .i64))))) H R ⟨Df,yz,Dk⟩ qq∧ROs (ePair (eInt .i64) (eInt .i64)) H R ⟨Dg,yA,Dl⟩ qr∧ROs (ePair (eInt .i64) (eInt .i64)) H R ⟨Dh,yB,Dm⟩ qs∧CR (eSl (eInt .i64)) H R Dp qt∧CR eBool H R Dq qu) {r:List (List Int)} (hp:ap.pj5 F ax qq qr qs qt qu mV mW = some r):∃ v H',ap.j5 F (bq.tw F) C61_ rQ 0 mq 0 ⟨Di,yC,Dn⟩ ⟨Dj,yD,Do⟩ mV mW H = some (v,H')∧ap.Q H0 Ri R0  r v H':=by
 obtain ⟨w0,s0,Jl,Jm,Jn,Jo,Jp⟩:=h0
 subst Jg
 subst Jh
 subst Ji
 subst Jj
 subst Jk
 unfold ap.pj5 at hp
 unfold ap.j5
 exact ap.j4_P (@hC61) rfl rfl rfl rfl rfl ⟨w0,s0,Jl,Jm,Jn,Jo,Jp⟩ hp
def ap.pj6 (F:Nat) (ax:List (Int×Int×Int×Int×Int)→List (Int×Int)→List (Int×Int)→List (List Int)→List Bool→Int→Int→Option (List (List Int))) (np:List (Int×Int×Int×Int×Int)) (nq:List (Int×Int)) (nr:List (Int×Int)) (ns:List (List Int)) (nt:List Bool) (lw:List Int) (kT:Int) (kU:Int):Option (List (List Int)):=(bif (decide ((lw.length:Int) > 0)) then ((apn ns ([lw]:List (List Int))).bind fun l3=>ap.pj5 F ax np nq nr l3 nt kT kU) else (ap.pj5 F ax np nq nr ns nt kT kU))
theorem ap.j6_P {F:Nat} {H0:Hp} {Ri R0:List Rs}  {C61_:Nat→Nat→Nat→Nat→Sl→Sl→Int→Int→Hp→OA} {ax:List (Int×Int×Int×Int×Int)→List (Int×Int)→List (Int×Int)→List (List Int)→List Bool→Int→Int→Option (List (List Int))} (hC61:ap.S61 H0 Ri R0  C61_ ax) {Dr Ds Dt Du Dv Dw:ON} {yE nC yF yG nD yH yI yJ:Nat} {Dx Dy Dz DA DB DC:Cap} {np:List (Int×Int×Int×Int×Int)} {Jq kT kU:Int} {nq nr:List (Int×Int)} {ns:List (List Int)} {DD DE DF:List AV} {nt:List Bool} {lw:List Int} {H:Hp} (Jr:yE = np.length) (Js:yF = nq.length) (Jt:yG = nr.length) (Ju:yH = ns.length) (Jv:yI = nt.length) (Jw:yJ = lw.length) (h0:Out H0 Ri H (Rs.blk nC [.sl ⟨Dr,yE,Dx⟩,.int .i64 Jq] :: Rs.blk nD [.sl ⟨Ds,yF,Dy⟩,.sl ⟨Dt,yG,Dz⟩] :: Rs.own ⟨Du,yH,DA⟩ (eSl (eInt .i64)).z DD :: Rs.own ⟨Dv,yI,DB⟩ eBool.z DE :: Rs.own ⟨Dw,yJ,DC⟩ (eInt .i64).z DF :: R0) fun R=>ROs (ePair (eInt .i64) (ePair (eInt .i64) (ePair (eInt .i64) (ePair (eInt .i64) (eInt .i64))))) H R ⟨Dr,yE,Dx⟩ np∧ROs (ePair (eInt .i64) (eInt .i64)) H R ⟨Ds,yF,Dy⟩ nq∧ROs (ePair (eInt .i64) (eInt .i64)) H R ⟨Dt,yG,Dz⟩ nr∧CR (eSl (eInt .i64)) H R DD ns∧CR eBool H R DE nt∧CR (eInt .i64) H R DF lw) {r:List (List Int)} (hp:ap.pj6 F ax np nq nr ns nt lw kT kU = some r):∃ v H',ap.j6 F (bq.tw F) C61_ nC 0 nD 0 ⟨Du,yH,DA⟩ ⟨Dv,yI,DB⟩ ⟨Dw,yJ,DC⟩ kT kU H = some (v,H')∧ap.Q H0 Ri R0  r v H':=by
 obtain ⟨w0,s0,DH,DI,DJ,DK,DL,Jx⟩:=h0
 subst Jr
 subst Js
 subst Jt
 subst Ju
 subst Jv
 subst Jw
 unfold ap.pj6 at hp
 unfold ap.j6
 refine bif_ex (fun hb=>?_) (fun hb=>?_)
 ·replace hp:=bif_t hb hp
  obtain ⟨w1,s1,f1⟩:=w0.frz (i:=4) (eInt .i64) rfl Jx
  dsimp only [List.eraseIdx] at w1 s1 f1
  refine newS_k (eSl (eInt .i64)) w1 (n:=1) (l:=([lw]:List (List Int))) rfl (CR.cons1 ⟨_,rfl,f1⟩ CR.empty) rfl fun H2 w2 s2 c2=>?_
  refine bind_ex (w2.rowo (i:=0) rfl) ?_
  obtain ⟨l3,e3,hp⟩:=bind_some' hp
  refine app_k (eSl (eInt .i64)) w2 (i:=3) rfl rfl (DK.step (s1.trans s2)) c2 (show 1 = List.length ([lw]:List (List Int)) from rfl) rfl e3 fun a4 d4 H4 w4 s4 c4 x4=>?_
  dsimp only [List.set] at w4 s4 c4
  obtain ⟨w5,s5⟩:=w4.pick' [1,2,3,4] 5 rfl rfl rfl
  dsimp only [pk,pks,nth,List.drop] at w5 s5
  exact ap.j5_P (@hC61) rfl rfl rfl rfl rfl ⟨w5,(s0.trans (s1.trans (s2.trans (s4.trans s5)))),(DH.step (s1.trans (s2.trans (s4.trans s5)))),(DI.step (s1.trans (s2.trans (s4.trans s5)))),(DJ.step (s1.trans (s2.trans (s4.trans s5)))),(c4.step s5),(DL.step (s1.trans (s2.trans (s4.trans s5))))⟩ hp
 ·replace hp:=bif_f hb hp
  obtain ⟨w6,s6⟩:=w0.pick' [0,1,2,3] 5 rfl rfl rfl
  dsimp only [pk,pks,nth,List.drop] at w6 s6
  exact ap.j5_P (@hC61) rfl rfl rfl rfl rfl ⟨w6,(s0.trans s6),(DH.step s6),(DI.step s6),(DJ.step s6),(DK.step s6),(DL.step s6)⟩ hp
def ap.pl15725 (F:Nat) (ax:List (Int×Int×Int×Int×Int)→List (Int×Int)→List (Int×Int)→List (List Int)→List Bool→Int→Int→Option (List (List Int))):Nat→List (Int×Int×Int×Int×Int)→List (Int×Int)→List (Int×Int)→List (List Int)→List Bool→Int→Int→List Int→Int→Option (List (List Int))
 | 0,_,_,_,_,_,_,_,_,_=>none
 | k + 1,kC,kD,kE,lu,jz,e_,fC,lv,c_=>(ix jz c_).bind fun n1=>(bif (!(gt jz n1)) then ((ix jz c_).bind fun n2=>(some (jz.set n2 true)).bind fun l3=>(apn lv ([c_]:List Int)).bind fun l6=>(bq.p F kC kD kE (IntKind.i64.wrap (Int.tdiv c_ 4)) (Int.tmod (IntKind.i64.wrap (c_ + 1)) 4)).bind fun r8=>ap.pl15725 F ax k kC kD kE lu l3 e_ fC l6 (IntKind.i64.wrap ((IntKind.i64.wrap (4 * r8.1)) + r8.2))) else (ap.pj6 F ax kC kD kE lu jz lv e_ fC))
termination_by structural n=>n
theorem ap.l15725_P {F:Nat} {H0:Hp} {Ri R0:List Rs}  {C61_:Nat→Nat→Nat→Nat→Sl→Sl→Int→Int→Hp→OA} {ax:List (Int×Int×Int×Int×Int)→List (Int×Int)→List (Int×Int)→List (List Int)→List Bool→Int→Int→Option (List (List Int))} (hC61:ap.S61 H0 Ri R0  C61_ ax):∀ k,ap.S15725 H0 Ri R0  (ap.l15725 F (bq.tw F) C61_ k) (ap.pl15725 F ax k):=by
 intro k
 induction k with
 | zero=>
  intro uX uY uZ u_ va vb qe dC qf qg dN qh qi qj vc vd ve vf vg vh kC yt e_ fC c_ kD kE lu vi vj vk jz lv H DM DN DO DP DQ DR h0 r hp
  exact nomatch (show (none:Option (List (List Int))) = some r from hp)
 | succ k ih=>
  intro uX uY uZ u_ va vb qe dC qf qg dN qh qi qj vc vd ve vf vg vh kC yt e_ fC c_ kD kE lu vi vj vk jz lv H DM DN DO DP DQ DR h0 r hp
  obtain ⟨w0,s0,yK,yL,yM,DS,vl,DT⟩:=h0
  subst DM
  subst DN
  subst DO
  subst DP
  subst DQ
  subst DR
  unfold ap.pl15725 at hp
  unfold ap.l15725
  obtain ⟨n1,g1,hp⟩:=bind_some' hp
  obtain ⟨p1,q1,i1,h1,j1⟩:=W.ixo (E:=eBool) w0 (i:=3) rfl rfl vl g1
  refine bind_ex i1 ?_
  have h1:_ = [_]:=h1
  subst h1
  refine bind_ex (ldB_of (j1 0 _ rfl)) ?_
  refine bif_ex (fun hb=>?_) (fun hb=>?_)
  ·replace hp:=bif_t hb hp
   obtain ⟨n2,g2,hp⟩:=bind_some' hp
   obtain ⟨p2,q2,i2,h2,j2⟩:=W.ixo (E:=eBool) w0 (i:=3) rfl rfl vl g2
   refine bind_ex i2 ?_
   obtain ⟨l3,e3,hp⟩:=bind_some' hp
   refine sto_k eBool w0 (i:=3) (j:=0) (p:=p2) rfl rfl vl g2 i2 e3 rfl rfl (fun _ h=>by have h:_ = [_]:=h; subst h; exact rfl) fun H4 k4 w4 s4 c4=>?_
   dsimp only [List.set] at w4 s4 c4
   refine newS_k (eInt .i64) w4 (n:=1) (l:=([c_]:List Int)) rfl (CR.cons1 rfl CR.empty) rfl fun H5 w5 s5 c5=>?_
   refine bind_ex (w5.rowo (i:=0) rfl) ?_
   obtain ⟨l6,e6,hp⟩:=bind_some' hp
   refine app_k (eInt .i64) w5 (i:=5) rfl rfl (DT.step (s4.trans s5)) c5 (show 1 = List.length ([c_]:List Int) from rfl) rfl e6 fun a7 d7 H7 w7 s7 c7 x7=>?_
   dsimp only [List.set] at w7 s7 c7
   refine bind_ex (ldSl_of (w7.ld (i:=1) rfl rfl)) ?_
   refine bind_ex (ldI_of (w7.ld (i:=1) rfl rfl)) ?_
   refine bind_ex (ldSl_of (w7.ld (i:=2) rfl rfl)) ?_
   refine bind_ex (ldSl_of (w7.ld (i:=2) rfl rfl)) ?_
   obtain ⟨r8,e8,hp⟩:=bind_some' hp
   refine call_ex (bq.P rfl rfl rfl ⟨w7,(yK.step (s4.trans (s5.trans s7))),(yL.step (s4.trans (s5.trans s7))),(yM.step (s4.trans (s5.trans s7)))⟩ e8) ?_
   rintro _ H9 ⟨rfl,w9,s9,_⟩
   refine bind_ex rfl ?_
   refine bind_ex rfl ?_
   refine bind_ex rfl ?_
   refine bind_ex rfl ?_
   refine bind_ex rfl ?_
   refine new_k w9 fun H10 w10 s10=>?_
   refine st_k w10 (i:=0) rfl rfl rfl fun H11 w11 s11=>?_
   dsimp only [List.set] at w11 s11
   refine st_k w11 (i:=0) rfl rfl rfl fun H12 w12 s12=>?_
   dsimp only [List.set] at w12 s12
   refine bind_ex (ldI_of (w12.ld (i:=0) rfl rfl)) ?_
   refine bind_ex (ldI_of (w12.ld (i:=0) rfl rfl)) ?_
   obtain ⟨w13,s13⟩:=w12.pick' [2,3,4,5,6] 7 rfl rfl rfl
   dsimp only [pk,pks,nth,List.drop] at w13 s13
   exact ih rfl rfl rfl rfl ((st_len e3).symm) rfl ⟨w13,(s0.trans (s4.trans (s5.trans (s7.trans (s9.trans (s10.trans (s11.trans (s12.trans s13)))))))),(yK.step (s4.trans (s5.trans (s7.trans (s9.trans (s10.trans (s11.trans (s12.trans s13)))))))),(yL.step (s4.trans (s5.trans (s7.trans (s9.trans (s10.trans (s11.trans (s12.trans s13)))))))),(yM.step (s4.trans (s5.trans (s7.trans (s9.trans (s10.trans (s11.trans (s12.trans s13)))))))),(DS.step (s4.trans (s5.trans (s7.trans (s9.trans (s10.trans (s11.trans (s12.trans s13)))))))),(c4.step (s5.trans (s7.trans (s9.trans (s10.trans (s11.trans (s12.trans s13))))))),(c7.step (s9.trans (s10.trans (s11.trans (s12.trans s13)))))⟩ hp
  ·replace hp:=bif_f hb hp
   exact ap.j6_P (@hC61) rfl rfl rfl rfl rfl rfl ⟨w0,s0,yK,yL,yM,DS,vl,DT⟩ hp
def ap.pl61 (F:Nat) :Nat→List (Int×Int×Int×Int×Int)→List (Int×Int)→List (Int×Int)→List (List Int)→List Bool→Int→Int→Option (List (List Int))
 | 0,_,_,_,_,_,_,_=>none
 | k + 1,gD,mc,gE,f_,gF,fa,eP=>(bif (decide (eP < fa)) then (ap.pl15725 F (ap.pl61 F k) F gD mc gE f_ gF fa eP ([]:List Int) eP) else (some f_))
termination_by structural n=>n
theorem ap.l61_P {F:Nat} {H0:Hp} {Ri R0:List Rs}  :∀ k,ap.S61 H0 Ri R0  (ap.l61 F (bq.tw F)  k) (ap.pl61 F  k):=by
 intro k
 induction k with
 | zero=>
  intro kr uV kt ku kv jv co qd jw cu jx jy kw uW kx ky kz gD mb fa eP mc gE f_ kA kB gF H qv DU qw qx qy h0 r hp
  exact nomatch (show (none:Option (List (List Int))) = some r from hp)
 | succ k ih=>
  intro kr uV kt ku kv jv co qd jw cu jx jy kw uW kx ky kz gD mb fa eP mc gE f_ kA kB gF H qv DU qw qx qy h0 r hp
  obtain ⟨w0,s0,yN,Jy,yO,qz,yP⟩:=h0
  subst qv
  subst DU
  subst qw
  subst qx
  subst qy
  unfold ap.pl61 at hp
  unfold ap.l61
  refine bif_ex (fun hb=>?_) (fun hb=>?_)
  ·replace hp:=bif_t hb hp
   obtain ⟨w1,s1⟩:=w0.nilS (eInt .i64).z (by decide)
   obtain ⟨w2,s2⟩:=w1.pick' [1,2,3,4,0] 5 rfl rfl rfl
   dsimp only [pk,pks,nth,List.drop] at w2 s2
   exact ap.l15725_P (@ih) F rfl rfl rfl rfl rfl rfl ⟨w2,(s0.trans (s1.trans s2)),(yN.step (s1.trans s2)),(Jy.step (s1.trans s2)),(yO.step (s1.trans s2)),(qz.step (s1.trans s2)),(yP.step (s1.trans s2)),((CR.empty:CR (eInt .i64) _ _ [] []).step s2)⟩ hp
  ·replace hp:=bif_f hb hp
   obtain ⟨w3,s3⟩:=w0.pick' [2] 4 rfl rfl rfl
   dsimp only [pk,pks,nth,List.drop] at w3 s3
   obtain rfl:=Option.some.inj hp
   exact ⟨_,_,rfl,_,_,_,_,rfl,rfl,w3,(s0.trans s3),(qz.step s3)⟩
def ap.p (F:Nat) (ac:List (Int×Int×Int×Int×Int)) (dq:List (Int×Int)) (cv:List (Int×Int)):Option (List (List Int)):=(mkn (IntKind.i64.wrap (4 * (ac.length:Int))) false).bind fun l3=>ap.pl61 F F ac dq cv ([]:List (List Int)) l3 (l3.length:Int) 0
theorem ap.P {F:Nat} {au jt gZ:ON} {ah gC fv:Nat} {av ju g_:Cap} {ac:List (Int×Int×Int×Int×Int)} {ab:Int} {dq cv:List (Int×Int)} {H:Hp} {R0:List Rs} (bb:ah = ac.length) (l_:gC = dq.length) (kp:fv = cv.length) (h0:Inn H R0 fun R=>ROs (ePair (eInt .i64) (ePair (eInt .i64) (ePair (eInt .i64) (ePair (eInt .i64) (eInt .i64))))) H R ⟨au,ah,av⟩ ac∧ROs (ePair (eInt .i64) (eInt .i64)) H R ⟨jt,gC,ju⟩ dq∧ROs (ePair (eInt .i64) (eInt .i64)) H R ⟨gZ,fv,g_⟩ cv) {r:List (List Int)} (hp:ap.p F ac dq cv = some r):∃ v H',ap.tw F ⟨au,ah,av⟩ ab ⟨jt,gC,ju⟩ ⟨gZ,fv,g_⟩ H = some (v,H')∧ap.Q H R0 R0  r v H':=by
 obtain ⟨w0,aL,ma,kq⟩:=h0
 subst bb
 subst l_
 subst kp
 unfold ap.p at hp
 unfold ap.tw ap.twX
 have s0:=w0.rf
 refine new_k w0 fun H1 w1 s1=>?_
 refine new_k w1 fun H2 w2 s2=>?_
 refine bind_ex (ldSl_of (w2.ld (i:=1) rfl rfl)) ?_
 obtain ⟨l3,e3,hp⟩:=bind_some' hp
 refine mk_k eBool false w2 rfl rfl rfl e3 fun H4 k4 w4 s4 c4=>?_
 obtain ⟨w5,s5⟩:=w4.nilS (eSl (eInt .i64)).z (by decide)
 obtain ⟨w6,s6⟩:=w5.pick' [3,2,0,1] 4 rfl rfl rfl
 dsimp only [pk,pks,nth,List.drop] at w6 s6
 exact ap.l61_P F rfl rfl rfl rfl rfl ⟨w6,(s0.trans (s1.trans (s2.trans (s4.trans (s5.trans s6))))),(aL.step (s1.trans (s2.trans (s4.trans (s5.trans s6))))),(ma.step (s1.trans (s2.trans (s4.trans (s5.trans s6))))),(kq.step (s1.trans (s2.trans (s4.trans (s5.trans s6))))),((CR.empty:CR (eSl (eInt .i64)) _ _ [] []).step s6),(c4.step (s5.trans s6))⟩ hp
def bj.Q (H0:Hp) (Ri R0:List Rs)  (r:Int) (v:AV) (H':Hp):Prop:=v = (.int .i64 r)∧Out H0 Ri H' (R0) fun R=>True
def bj.p (F:Nat) (ac:List (List Int)):Option (Int):=some (ac.length:Int)
theorem bj.P {F:Nat} {au:ON} {ah:Nat} {av:Cap} {ac:List (List Int)} {H:Hp} {R0:List Rs} (bb:ah = ac.length) (h0:Inn H R0 fun R=>ROs (eSl (eInt .i64)) H R ⟨au,ah,av⟩ ac) {r:Int} (hp:bj.p F ac = some r):∃ v H',bj.tw F ⟨au,ah,av⟩ H = some (v,H')∧bj.Q H R0 R0  r v H':=by
 obtain ⟨w0,aL⟩:=h0
 subst bb
 unfold bj.p at hp
 unfold bj.tw bj.twX
 have s0:=w0.rf
 obtain rfl:=Option.some.inj hp
 exact ⟨_,_,rfl,rfl,w0,s0,trivial⟩
def aH.Q (H0:Hp) (Ri R0:List Rs)  (r:List Int) (v:AV) (H':Hp):Prop:=∃ o0a:ON,∃ o0n:Nat,∃ o0c:Cap,∃ o0k:List AV,v = (.sl ⟨o0a,o0n,o0c⟩)∧o0n = (r).length∧Out H0 Ri H' (Rs.own ⟨o0a,o0n,o0c⟩ (eInt .i64).z o0k :: R0) fun R=>CR (eInt .i64) H' R o0k (r)
def aH.S29 (H0:Hp) (Ri R0:List Rs)  (C:Sl→Int→Int→Hp→OA) (pC:List Int→Int→Int→Option (List Int)):Prop:=∀ {vm:ON} {qA:Nat} {vn:Cap} {lx:List Int} {vo:List AV} {fb ep:Int},∀ {H:Hp},qA = lx.length→(Out H0 Ri H (Rs.own ⟨vm,qA,vn⟩ (eInt .i64).z vo :: R0) fun R=>CR (eInt .i64) H R vo lx)→∀ {r:List Int},pC lx fb ep = some r→∃ v H',C ⟨vm,qA,vn⟩ fb ep H = some (v,H')∧aH.Q H0 Ri R0  r v H'
def aH.pl29 (F:Nat) :Nat→List Int→Int→Int→Option (List Int)
 | 0,_,_,_=>none
 | k + 1,lx,fb,ep=>(bif (decide (ep < fb)) then ((apn lx ([ep]:List Int)).bind fun l2=>aH.pl29 F k l2 fb (IntKind.i64.wrap (ep + 1))) else (some lx))
termination_by structural n=>n
theorem aH.l29_P {F:Nat} {H0:Hp} {Ri R0:List Rs}  :∀ k,aH.S29 H0 Ri R0  (aH.l29 F   k) (aH.pl29 F  k):=by
 intro k
 induction k with
 | zero=>
  intro vm qA vn lx vo fb ep H DV h0 r hp
  exact nomatch (show (none:Option (List Int)) = some r from hp)
 | succ k ih=>
  intro vm qA vn lx vo fb ep H DV h0 r hp
  obtain ⟨w0,s0,DW⟩:=h0
  subst DV
  unfold aH.pl29 at hp
  unfold aH.l29
  refine bif_ex (fun hb=>?_) (fun hb=>?_)
  ·replace hp:=bif_t hb hp
   refine newS_k (eInt .i64) w0 (n:=1) (l:=([ep]:List Int)) rfl (CR.cons1 rfl CR.empty) rfl fun H1 w1 s1 c1=>?_
   refine bind_ex (w1.rowo (i:=0) rfl) ?_
   obtain ⟨l2,e2,hp⟩:=bind_some' hp
   refine app_k (eInt .i64) w1 (i:=1) rfl rfl (DW.step s1) c1 (show 1 = List.length ([ep]:List Int) from rfl) rfl e2 fun a3 d3 H3 w3 s3 c3 x3=>?_
   dsimp only [List.set] at w3 s3 c3
   obtain ⟨w4,s4⟩:=w3.pick' [1] 2 rfl rfl rfl
   dsimp only [pk,pks,nth,List.drop] at w4 s4
   exact ih rfl ⟨w4,(s0.trans (s1.trans (s3.trans s4))),(c3.step s4)⟩ hp
  ·replace hp:=bif_f hb hp
   obtain rfl:=Option.some.inj hp
   exact ⟨_,_,rfl,_,_,_,_,rfl,rfl,w0,s0,DW⟩
def aH.p (F:Nat) (aa:Int):Option (List Int):=aH.pl29 F F ([]:List Int) aa 0
theorem aH.P {F:Nat} {aa:Int} {H:Hp} {R0:List Rs}  (h0:Inn H R0 fun R=>True) {r:List Int} (hp:aH.p F aa = some r):∃ v H',aH.tw F aa H = some (v,H')∧aH.Q H R0 R0  r v H':=by
 obtain ⟨w0,_⟩:=h0
 unfold aH.p at hp
 unfold aH.tw aH.twX
 have s0:=w0.rf
 obtain ⟨w1,s1⟩:=w0.nilS (eInt .i64).z (by decide)
 exact aH.l29_P F rfl ⟨w1,(s0.trans s1),(CR.empty:CR (eInt .i64) _ _ [] [])⟩ hp
def aB.Q (H0:Hp) (Ri R0:List Rs) (au:ON) (ah:Nat) (av:Cap) (dU:Bool) (dV dW:List AV) (r:List Int) (v:AV) (H':Hp):Prop:=∃ jA:List AV,v = (.tup [])∧ah = (r).length∧Out H0 Ri H' (Rs.ow dU ⟨au,ah,av⟩ (eInt .i64).z dV jA dW :: R0) fun R=>CR (eInt .i64) H' R jA (r)
def aB.S7 (H0:Hp) (Ri R0:List Rs) (dH:ON) (da:Nat) (dI:Cap) (fI:Bool) (fJ fK:List AV) (C:Sl→Int→Int→Sl→Int→Int→Hp→OA) (pC:List Int→Int→Int→Int→Int→Option (List Int)):Prop:=∀ {dJ:List Int} {vp:List AV} {dD dP eG dE:Int},∀ {H:Hp},da = dJ.length→(Out H0 Ri H (Rs.ow fI ⟨dH,da,dI⟩ (eInt .i64).z fJ vp fK :: R0) fun R=>CR (eInt .i64) H R vp dJ)→∀ {r:List Int},pC dJ dD dP eG dE = some r→∃ v H',C ⟨dH,da,dI⟩ dD dP ⟨dH,da,dI⟩ eG dE H = some (v,H')∧aB.Q H0 Ri R0 dH da dI fI fJ fK r v H'
def aB.pj2 (F:Nat) (vq:List Int→Int→Int→Int→Int→Option (List Int)) (qB:List Int) (mX:Int) (mY:Int) (mZ:Int) (m_:Int):Option (List Int):=vq qB mX mY mZ (IntKind.i64.wrap (m_ + 1))
theorem aB.j2_P {F:Nat} {H0:Hp} {Ri R0:List Rs} {dH:ON} {da:Nat} {dI:Cap} {fI:Bool} {fJ fK:List AV} {C7_:Sl→Int→Int→Sl→Int→Int→Hp→OA} {vq:List Int→Int→Int→Int→Int→Option (List Int)} (hC7:aB.S7 H0 Ri R0 dH da dI fI fJ fK C7_ vq) {qB:List Int} {DX:List AV} {mX mY mZ m_:Int} {H:Hp} (Jz:da = qB.length) (h0:Out H0 Ri H (Rs.ow fI ⟨dH,da,dI⟩ (eInt .i64).z fJ DX fK :: R0) fun R=>CR (eInt .i64) H R DX qB) {r:List Int} (hp:aB.pj2 F vq qB mX mY mZ m_ = some r):∃ v H',aB.j2 F  C7_ ⟨dH,da,dI⟩ mX mY ⟨dH,da,dI⟩ mZ m_ H = some (v,H')∧aB.Q H0 Ri R0 dH da dI fI fJ fK r v H':=by
 obtain ⟨w0,s0,JA⟩:=h0
 subst Jz
 unfold aB.pj2 at hp
 unfold aB.j2
 exact hC7 rfl ⟨w0,s0,JA⟩ hp
def aB.pl7 (F:Nat) :Nat→List Int→Int→Int→Int→Int→Option (List Int)
 | 0,_,_,_,_,_=>none
 | k + 1,dJ,dD,dP,eG,dE=>(bif (decide (dE < eG)) then ((ix dJ dE).bind fun n1=>(bif ((gt dJ n1) == dD) then ((ix dJ dE).bind fun n2=>(some (dJ.set n2 dP)).bind fun l3=>aB.pj2 F (aB.pl7 F k) l3 dD dP eG dE) else (aB.pj2 F (aB.pl7 F k) dJ dD dP eG dE))) else (some dJ))
termination_by structural n=>n
theorem aB.l7_P {F:Nat} {H0:Hp} {Ri R0:List Rs} {dH:ON} {da:Nat} {dI:Cap} {fI:Bool} {fJ fK:List AV} :∀ k,aB.S7 H0 Ri R0 dH da dI fI fJ fK (aB.l7 F   k) (aB.pl7 F  k):=by
 intro k
 induction k with
 | zero=>
  intro dJ vp dD dP eG dE H qC h0 r hp
  exact nomatch (show (none:Option (List Int)) = some r from hp)
 | succ k ih=>
  intro dJ vp dD dP eG dE H qC h0 r hp
  obtain ⟨w0,s0,ly⟩:=h0
  subst qC
  unfold aB.pl7 at hp
  unfold aB.l7
  refine bif_ex (fun hb=>?_) (fun hb=>?_)
  ·replace hp:=bif_t hb hp
   obtain ⟨n1,g1,hp⟩:=bind_some' hp
   obtain ⟨p1,q1,i1,h1,j1⟩:=W.ixo (E:=(eInt .i64)) w0 (i:=0) rfl rfl ly g1
   refine bind_ex i1 ?_
   have h1:_ = [_]:=h1
   subst h1
   refine bind_ex (ldI_of (j1 0 _ rfl)) ?_
   refine bif_ex (fun hb=>?_) (fun hb=>?_)
   ·replace hp:=bif_t hb hp
    obtain ⟨n2,g2,hp⟩:=bind_some' hp
    obtain ⟨p2,q2,i2,h2,j2⟩:=W.ixo (E:=(eInt .i64)) w0 (i:=0) rfl rfl ly g2
    refine bind_ex i2 ?_
    obtain ⟨l3,e3,hp⟩:=bind_some' hp
    refine sto_k (eInt .i64) w0 (i:=0) (j:=0) (p:=p2) rfl rfl ly g2 i2 e3 rfl rfl (fun _ h=>by have h:_ = [_]:=h; subst h; exact rfl) fun H4 k4 w4 s4 c4=>?_
    dsimp only [List.set] at w4 s4 c4
    exact aB.j2_P (@ih) ((st_len e3).symm) ⟨w4,(s0.trans s4),c4⟩ hp
   ·replace hp:=bif_f hb hp
    exact aB.j2_P (@ih) rfl ⟨w0,s0,ly⟩ hp
  ·replace hp:=bif_f hb hp
   obtain rfl:=Option.some.inj hp
   exact ⟨_,_,rfl,_,rfl,rfl,w0,s0,ly⟩
def aB.p (F:Nat) (ac:List Int) (ae:Int) (bM:Int):Option (List Int):=(ix ac bM).bind fun n1=>(ix ac ae).bind fun n2=>aB.pl7 F F ac (gt ac n1) (gt ac n2) (ac.length:Int) 0
theorem aB.P {F:Nat} {au:ON} {ah:Nat} {av:Cap} {ac:List Int} {dU:Bool} {dV dW gG:List AV} {ae bM:Int} {H:Hp} {R0:List Rs} (bb:ah = ac.length) (h0:Inn H (Rs.ow dU ⟨au,ah,av⟩ (eInt .i64).z dV gG dW :: R0) fun R=>CR (eInt .i64) H R gG ac) {r:List Int} (hp:aB.p F ac ae bM = some r):∃ v H',aB.tw F ⟨au,ah,av⟩ ae bM H = some (v,H')∧aB.Q H (Rs.ow dU ⟨au,ah,av⟩ (eInt .i64).z dV gG dW :: R0) R0 au ah av dU dV dW r v H':=by
 obtain ⟨w0,aL⟩:=h0
 subst bb
 unfold aB.p at hp
 unfold aB.tw aB.twX
 have s0:=w0.rf
 obtain ⟨n1,g1,hp⟩:=bind_some' hp
 obtain ⟨p1,q1,i1,h1,j1⟩:=W.ixo (E:=(eInt .i64)) w0 (i:=0) rfl rfl aL g1
 refine bind_ex i1 ?_
 have h1:_ = [_]:=h1
 subst h1
 refine bind_ex (ldI_of (j1 0 _ rfl)) ?_
 obtain ⟨n2,g2,hp⟩:=bind_some' hp
 obtain ⟨p2,q2,i2,h2,j2⟩:=W.ixo (E:=(eInt .i64)) w0 (i:=0) rfl rfl aL g2
 refine bind_ex i2 ?_
 have h2:_ = [_]:=h2
 subst h2
 refine bind_ex (ldI_of (j2 0 _ rfl)) ?_
 exact aB.l7_P F rfl ⟨w0,s0,aL⟩ hp
def ci.Q (H0:Hp) (Ri R0:List Rs)  (r:List Int) (v:AV) (H':Hp):Prop:=∃ o0a:ON,∃ o0n:Nat,∃ o0c:Cap,∃ o0k:List AV,v = (.sl ⟨o0a,o0n,o0c⟩)∧o0n = (r).length∧Out H0 Ri H' (Rs.own ⟨o0a,o0n,o0c⟩ (eInt .i64).z o0k :: R0) fun R=>CR (eInt .i64) H' R o0k (r)
def ci.p (F:Nat) (ac:List Int):Option (List Int):=(if ac.length ≤ 4294967296∧wfs ac = true then some (nums ac) else none)
theorem ci.P {F:Nat} {au:ON} {ah:Nat} {av:Cap} {ac:List Int} {H:Hp} {R0:List Rs} (bb:ah = ac.length) (h0:Inn H R0 fun R=>ROs (eInt .i64) H R ⟨au,ah,av⟩ ac) {r:List Int} (hp:ci.p F ac = some r):∃ v H',ci.tw F ⟨au,ah,av⟩ H = some (v,H')∧ci.Q H R0 R0  r v H':=by
 obtain ⟨w0,f0⟩:=h0
 subst bb
 unfold ci.p at hp
 unfold ci.tw numTw
 have s0:=w0.rf
 obtain ⟨hc,hp⟩:=ifs_p hp
 have hp:=Option.some.inj hp
 obtain ⟨xs,hx,cx⟩:=f0.row rfl
 refine bind_ex hx ?_
 obtain rfl:=cx.ints_eq
 refine bind_ex (asInts_map _) ?_
 refine ifs_ex hc ?_
 by_cases hz:ac.length = 0
 ·rw [if_pos hz]
  obtain ⟨w1,s1⟩:=w0.nilS (eInt .i64).z (by decide)
  obtain rfl:r = []:=List.length_eq_zero_iff.1 (by rw [← hp,nums_len,hz])
  exact ⟨_,_,rfl,none,0,.ex 0,[],rfl,rfl,w1,s0.trans s1,CR.empty⟩
 ·rw [if_neg hz]
  obtain ⟨H2,e2,w2,s2⟩:=w0.newF ((nums ac).map (AV.int .i64)) ac.length (eInt .i64).z (by rw [List.length_map,nums_len]; exact (Nat.mul_one _).symm) (by decide)
  subst e2
  subst hp
  exact ⟨_,_,rfl,some (_,0),_,.full 1,_,rfl,(nums_len _).symm,w2,s0.trans s2,CR.ints _ _ _ _⟩
def aQ.Q (H0:Hp) (Ri R0:List Rs)  (r:List Int) (v:AV) (H':Hp):Prop:=∃ o0a:ON,∃ o0n:Nat,∃ o0c:Cap,∃ o0k:List AV,v = (.sl ⟨o0a,o0n,o0c⟩)∧o0n = (r).length∧Out H0 Ri H' (Rs.own ⟨o0a,o0n,o0c⟩ (eInt .i64).z o0k :: R0) fun R=>CR (eInt .i64) H' R o0k (r)
def aQ.S29 (H0:Hp) (Ri R0:List Rs)  (C:Nat→Nat→Sl→Sl→Int→Int→Hp→OA) (pC:List (Int×Int)→List (Int×Int)→List Int→Int→Int→Option (List Int)):Prop:=∀ {qD vr vs:ON} {nu qE fc qF:Nat} {qG vt vu:Cap} {kF kG:List (Int×Int)} {lz:List Int} {vv:List AV} {fd er:Int},∀ {H:Hp},nu = kF.length→qE = kG.length→qF = lz.length→(Out H0 Ri H (Rs.blk fc [.sl ⟨qD,nu,qG⟩,.sl ⟨vr,qE,vt⟩] :: Rs.own ⟨vs,qF,vu⟩ (eInt .i64).z vv :: R0) fun R=>ROs (ePair (eInt .i64) (eInt .i64)) H R ⟨qD,nu,qG⟩ kF∧ROs (ePair (eInt .i64) (eInt .i64)) H R ⟨vr,qE,vt⟩ kG∧CR (eInt .i64) H R vv lz)→∀ {r:List Int},pC kF kG lz fd er = some r→∃ v H',C fc 0 ⟨vs,qF,vu⟩ ⟨qD,nu,qG⟩ fd er H = some (v,H')∧aQ.Q H0 Ri R0  r v H'
def aQ.pl29 (F:Nat) :Nat→List (Int×Int)→List (Int×Int)→List Int→Int→Int→Option (List Int)
 | 0,_,_,_,_,_=>none
 | k + 1,kF,kG,lz,fd,er=>(bif (decide (er < fd)) then ((ix kF er).bind fun n1=>(ix kG er).bind fun n5=>(aB.p F lz ((gt kF n1).1) ((gt kG n5).1)).bind fun r7=>aQ.pl29 F k kF kG r7 fd (IntKind.i64.wrap (er + 1))) else ((ci.p F lz).bind fun r12=>some r12))
termination_by structural n=>n
theorem aQ.l29_P {F:Nat} {H0:Hp} {Ri R0:List Rs}  :∀ k,aQ.S29 H0 Ri R0  (aQ.l29 F (aY.tw F) (aH.tw F) (aB.tw F) (ci.tw F)  k) (aQ.pl29 F  k):=by
 intro k
 induction k with
 | zero=>
  intro qD vr vs nu qE fc qF qG vt vu kF kG lz vv fd er H DY DZ D_ h0 r hp
  exact nomatch (show (none:Option (List Int)) = some r from hp)
 | succ k ih=>
  intro qD vr vs nu qE fc qF qG vt vu kF kG lz vv fd er H DY DZ D_ h0 r hp
  obtain ⟨w0,s0,Ea,Eb,Ec⟩:=h0
  subst DY
  subst DZ
  subst D_
  unfold aQ.pl29 at hp
  unfold aQ.l29
  refine bif_ex (fun hb=>?_) (fun hb=>?_)
  ·replace hp:=bif_t hb hp
   obtain ⟨n1,g1,hp⟩:=bind_some' hp
   obtain ⟨p1,q1,i1,h1,j1⟩:=ROs.ixr Ea rfl g1
   refine bind_ex i1 ?_
   obtain ⟨_,_,rfl,rfl,rfl⟩:=h1
   refine bind_ex (ldI_of (j1 0 _ rfl)) ?_
   refine bind_ex (ldI_of (j1 1 _ rfl)) ?_
   refine new_k w0 fun H2 w2 s2=>?_
   refine st_k w2 (i:=0) rfl rfl rfl fun H3 w3 s3=>?_
   dsimp only [List.set] at w3 s3
   refine st_k w3 (i:=0) rfl rfl rfl fun H4 w4 s4=>?_
   dsimp only [List.set] at w4 s4
   refine bind_ex (ldI_of (w4.ld (i:=0) rfl rfl)) ?_
   refine bind_ex (ldSl_of (w4.ld (i:=1) rfl rfl)) ?_
   obtain ⟨n5,g5,hp⟩:=bind_some' hp
   obtain ⟨p5,q5,i5,h5,j5⟩:=ROs.ixr (Eb.step (s2.trans (s3.trans s4))) rfl g5
   refine bind_ex i5 ?_
   obtain ⟨_,_,rfl,rfl,rfl⟩:=h5
   refine bind_ex (ldI_of (j5 0 _ rfl)) ?_
   obtain ⟨w6,s6⟩:=w4.pick' [2,0,1] 3 rfl rfl rfl
   dsimp only [pk,pks,nth,List.drop] at w6 s6
   obtain ⟨r7,e7,hp⟩:=bind_some' hp
   refine call_ex (aB.P rfl ⟨w6,(Ec.step (s2.trans (s3.trans (s4.trans s6))))⟩ e7) ?_
   rintro _ H8 ⟨KB,rfl,hl8_0,w8,s8,f8_0⟩
   obtain ⟨w9,s9⟩:=w8.pick' [2,0] 3 rfl rfl rfl
   dsimp only [pk,pks,nth,List.drop] at w9 s9
   exact ih rfl rfl hl8_0 ⟨w9,(s0.trans (s2.trans (s3.trans (s4.trans (s6.trans (s8.trans s9)))))),(Ea.step (s2.trans (s3.trans (s4.trans (s6.trans (s8.trans s9)))))),(Eb.step (s2.trans (s3.trans (s4.trans (s6.trans (s8.trans s9)))))),(f8_0.step s9)⟩ hp
  ·replace hp:=bif_f hb hp
   obtain ⟨w10,s10⟩:=w0.pick' [1,0] 2 rfl rfl rfl
   dsimp only [pk,pks,nth,List.drop] at w10 s10
   have f11:=W.borrow1 (eInt .i64) w10 (Ec.step s10)
   obtain ⟨w11,s11⟩:=w10.right1
   obtain ⟨r12,e12,hp⟩:=bind_some' hp
   refine call_ex (ci.P rfl ⟨w11,f11⟩ e12) ?_
   rintro _ H13 ⟨o0a_13,o0n_13,o0c_13,o0k_13,rfl,rfl,w13,s13,f13_0⟩
   obtain ⟨w14,s14⟩:=W.frame1 w10 w13 s13
   refine bind_ex rfl ?_
   obtain ⟨w15,s15⟩:=w14.pick' [1] 3 rfl rfl rfl
   dsimp only [pk,pks,nth,List.drop] at w15 s15
   obtain rfl:=Option.some.inj hp
   exact ⟨_,_,rfl,_,_,_,_,rfl,rfl,w15,(s0.trans (s10.trans (s14.trans s15))),((CR.flat (eInt_flat .i64) f13_0).step s15)⟩
def aQ.p (F:Nat) (ac:List (Int×Int×Int×Int×Int)) (dq:List (Int×Int)) (cv:List (Int×Int)):Option (List Int):=(aY.p F ac).bind fun r3=>(aH.p F r3).bind fun r5=>aQ.pl29 F F dq cv r5 (dq.length:Int) 0
theorem aQ.P {F:Nat} {au jt gZ:ON} {ah gC fv:Nat} {av ju g_:Cap} {ac:List (Int×Int×Int×Int×Int)} {ab:Int} {dq cv:List (Int×Int)} {H:Hp} {R0:List Rs} (bb:ah = ac.length) (l_:gC = dq.length) (kp:fv = cv.length) (h0:Inn H R0 fun R=>ROs (ePair (eInt .i64) (ePair (eInt .i64) (ePair (eInt .i64) (ePair (eInt .i64) (eInt .i64))))) H R ⟨au,ah,av⟩ ac∧ROs (ePair (eInt .i64) (eInt .i64)) H R ⟨jt,gC,ju⟩ dq∧ROs (ePair (eInt .i64) (eInt .i64)) H R ⟨gZ,fv,g_⟩ cv) {r:List Int} (hp:aQ.p F ac dq cv = some r):∃ v H',aQ.tw F ⟨au,ah,av⟩ ab ⟨jt,gC,ju⟩ ⟨gZ,fv,g_⟩ H = some (v,H')∧aQ.Q H R0 R0  r v H':=by
 obtain ⟨w0,aL,ma,kq⟩:=h0
 subst bb
 subst l_
 subst kp
 unfold aQ.p at hp
 unfold aQ.tw aQ.twX
 have s0:=w0.rf
 refine new_k w0 fun H1 w1 s1=>?_
 refine new_k w1 fun H2 w2 s2=>?_
 refine bind_ex (ldSl_of (w2.ld (i:=1) rfl rfl)) ?_
 obtain ⟨r3,e3,hp⟩:=bind_some' hp
 refine call_ex (aY.P rfl ⟨w2,(aL.step (s1.trans s2))⟩ e3) ?_
 rintro _ H4 ⟨rfl,w4,s4,_⟩
 refine bind_ex rfl ?_
 obtain ⟨r5,e5,hp⟩:=bind_some' hp
 refine call_ex (aH.P ⟨w4,trivial⟩ e5) ?_
 rintro _ H6 ⟨o0a_6,o0n_6,o0c_6,o0k_6,rfl,rfl,w6,s6,f6_0⟩
 refine bind_ex rfl ?_
 refine bind_ex (ldSl_of (w6.ld (i:=1) rfl rfl)) ?_
 obtain ⟨w7,s7⟩:=w6.pick' [1,0] 3 rfl rfl rfl
 dsimp only [pk,pks,nth,List.drop] at w7 s7
 exact aQ.l29_P F rfl rfl rfl ⟨w7,(s0.trans (s1.trans (s2.trans (s4.trans (s6.trans s7))))),(ma.step (s1.trans (s2.trans (s4.trans (s6.trans s7))))),(kq.step (s1.trans (s2.trans (s4.trans (s6.trans s7))))),(f6_0.step s7)⟩ hp
def aI.Q (H0:Hp) (Ri R0:List Rs)  (r:Int) (v:AV) (H':Hp):Prop:=v = (.int .i64 r)∧Out H0 Ri H' (R0) fun R=>True
def aI.S61 (H0:Hp) (Ri R0:List Rs)  (C:Sl→Int→Int→Hp→OA) (pC:List Int→Int→Int→Option (Int)):Prop:=∀ {vw:ON} {qH:Nat} {vx:Cap} {dJ:List Int} {cI eQ:Int},∀ {H:Hp},qH = dJ.length→(Out H0 Ri H R0 fun R=>ROs (eInt .i64) H R ⟨vw,qH,vx⟩ dJ)→∀ {r:Int},pC dJ cI eQ = some r→∃ v H',C ⟨vw,qH,vx⟩ cI eQ H = some (v,H')∧aI.Q H0 Ri R0  r v H'
def aI.pl61 (F:Nat) :Nat→List Int→Int→Int→Option (Int)
 | 0,_,_,_=>none
 | k + 1,dJ,cI,eQ=>(bif (decide (eQ < (dJ.length:Int))) then ((ix dJ eQ).bind fun n1=>aI.pl61 F k dJ (if (gt dJ n1) > cI then (gt dJ n1) else cI) (IntKind.i64.wrap (eQ + 1))) else (some cI))
termination_by structural n=>n
theorem aI.l61_P {F:Nat} {H0:Hp} {Ri R0:List Rs}  :∀ k,aI.S61 H0 Ri R0  (aI.l61 F   k) (aI.pl61 F  k):=by
 intro k
 induction k with
 | zero=>
  intro vw qH vx dJ cI eQ H qC h0 r hp
  exact nomatch (show (none:Option (Int)) = some r from hp)
 | succ k ih=>
  intro vw qH vx dJ cI eQ H qC h0 r hp
  obtain ⟨w0,s0,ly⟩:=h0
  subst qC
  unfold aI.pl61 at hp
  unfold aI.l61
  refine bif_ex (fun hb=>?_) (fun hb=>?_)
  ·replace hp:=bif_t hb hp
   obtain ⟨n1,g1,hp⟩:=bind_some' hp
   obtain ⟨p1,q1,i1,h1,j1⟩:=ROs.ixr ly rfl g1
   refine bind_ex i1 ?_
   have h1:_ = [_]:=h1
   subst h1
   refine bind_ex (ldI_of (j1 0 _ rfl)) ?_
   exact ih rfl ⟨w0,s0,ly⟩ hp
  ·replace hp:=bif_f hb hp
   obtain rfl:=Option.some.inj hp
   exact ⟨_,_,rfl,rfl,w0,s0,trivial⟩
def aI.pj1 (F:Nat)  (md:List Int):Option (Int):=(ix md 0).bind fun n1=>aI.pl61 F F md (gt md n1) 1
theorem aI.j1_P {F:Nat} {H0:Hp} {Ri R0:List Rs}   {Ed:ON} {yQ:Nat} {Ee:Cap} {md:List Int} {H:Hp} (JB:yQ = md.length) (h0:Out H0 Ri H R0 fun R=>ROs (eInt .i64) H R ⟨Ed,yQ,Ee⟩ md) {r:Int} (hp:aI.pj1 F  md = some r):∃ v H',aI.j1 F   ⟨Ed,yQ,Ee⟩ H = some (v,H')∧aI.Q H0 Ri R0  r v H':=by
 obtain ⟨w0,s0,Ef⟩:=h0
 subst JB
 unfold aI.pj1 at hp
 unfold aI.j1
 obtain ⟨n1,g1,hp⟩:=bind_some' hp
 obtain ⟨p1,q1,i1,h1,j1⟩:=ROs.ixr Ef rfl g1
 refine bind_ex i1 ?_
 have h1:_ = [_]:=h1
 subst h1
 refine bind_ex (ldI_of (j1 0 _ rfl)) ?_
 exact aI.l61_P F rfl ⟨w0,s0,Ef⟩ hp
def aI.p (F:Nat) (ac:List Int):Option (Int):=(bif (decide ((ac.length:Int) < 1)) then (none) else (aI.pj1 F ac))
theorem aI.P {F:Nat} {au:ON} {ah:Nat} {av:Cap} {ac:List Int} {H:Hp} {R0:List Rs} (bb:ah = ac.length) (h0:Inn H R0 fun R=>ROs (eInt .i64) H R ⟨au,ah,av⟩ ac) {r:Int} (hp:aI.p F ac = some r):∃ v H',aI.tw F ⟨au,ah,av⟩ H = some (v,H')∧aI.Q H R0 R0  r v H':=by
 obtain ⟨w0,aL⟩:=h0
 subst bb
 unfold aI.p at hp
 unfold aI.tw aI.twX
 have s0:=w0.rf
 refine bif_ex (fun hb=>?_) (fun hb=>?_)
 ·replace hp:=bif_t hb hp
  cases hp
 ·replace hp:=bif_f hb hp
  exact aI.j1_P rfl ⟨w0,s0,aL⟩ hp
def bk.Q (H0:Hp) (Ri R0:List Rs)  (r:Int) (v:AV) (H':Hp):Prop:=v = (.int .i64 r)∧Out H0 Ri H' (R0) fun R=>True
def bk.p (F:Nat) (ac:List Int):Option (Int):=(bif ((ac.length:Int) == 0) then (some 0) else ((aI.p F ac).bind fun r1=>some (IntKind.i64.wrap (r1 + 1))))
theorem bk.P {F:Nat} {au:ON} {ah:Nat} {av:Cap} {ac:List Int} {H:Hp} {R0:List Rs} (bb:ah = ac.length) (h0:Inn H R0 fun R=>ROs (eInt .i64) H R ⟨au,ah,av⟩ ac) {r:Int} (hp:bk.p F ac = some r):∃ v H',bk.tw F ⟨au,ah,av⟩ H = some (v,H')∧bk.Q H R0 R0  r v H':=by
 obtain ⟨w0,aL⟩:=h0
 subst bb
 unfold bk.p at hp
 unfold bk.tw bk.twX
 have s0:=w0.rf
 refine bif_ex (fun hb=>?_) (fun hb=>?_)
 ·replace hp:=bif_t hb hp
  obtain rfl:=Option.some.inj hp
  exact ⟨_,_,rfl,rfl,w0,s0,trivial⟩
 ·replace hp:=bif_f hb hp
  obtain ⟨r1,e1,hp⟩:=bind_some' hp
  refine call_ex (aI.P rfl ⟨w0,aL⟩ e1) ?_
  rintro _ H2 ⟨rfl,w2,s2,_⟩
  refine bind_ex rfl ?_
  obtain rfl:=Option.some.inj hp
  exact ⟨_,_,rfl,rfl,w2,(s0.trans s2),trivial⟩
def bm.Q (H0:Hp) (Ri R0:List Rs)  (r:(List (Int×Int))×(List (Int×Int))×Bool) (v:AV) (H':Hp):Prop:=∃ o0a:ON,∃ o0n:Nat,∃ o0c:Cap,∃ o1a:ON,∃ o1n:Nat,∃ o1c:Cap,v = (.tup [(.agg [(.sl ⟨o0a,o0n,o0c⟩),(.sl ⟨o1a,o1n,o1c⟩)]),(.bool r.2.2)])∧o0n = (r.1).length∧o1n = (r.2.1).length∧Out H0 Ri H' (R0) fun R=>ROs (ePair (eInt .i64) (eInt .i64)) H' R ⟨o0a,o0n,o0c⟩ (r.1)∧ROs (ePair (eInt .i64) (eInt .i64)) H' R ⟨o1a,o1n,o1c⟩ (r.2.1)
def bm.p (F:Nat) (ac:List (Int×Int×Int×Int×Int)) (ab:Int):Option ((List (Int×Int))×(List (Int×Int))×Bool):=(aY.p F ac).bind fun r3=>(bif (decide (r3 > 10)) then (some (([]:List (Int×Int)),([]:List (Int×Int)),false)) else ((bc.p F ab 0 8).bind fun r12=>(bif (!r12) then (some (([]:List (Int×Int)),([]:List (Int×Int)),false)) else ((bw.p F ac).bind fun r21=>(bif r21 then (some (([]:List (Int×Int)),([]:List (Int×Int)),false)) else ((ay.p F ac).bind fun r30=>(bif (!r30.2.2) then (some (([]:List (Int×Int)),([]:List (Int×Int)),false)) else ((ap.p F ac r30.1 r30.2.1).bind fun r44=>(bj.p F r44).bind fun r48=>(aQ.p F ac r30.1 r30.2.1).bind fun r52=>(bk.p F r52).bind fun r55=>(bif (r48 != (IntKind.i64.wrap (r3 + (IntKind.i64.wrap (2 * r55))))) then (some (([]:List (Int×Int)),([]:List (Int×Int)),false)) else (some (r30.1,r30.2.1,true)))))))))))
theorem bm.P {F:Nat} {au:ON} {ah:Nat} {av:Cap} {ac:List (Int×Int×Int×Int×Int)} {ab:Int} {H:Hp} {R0:List Rs} (bb:ah = ac.length) (h0:Inn H R0 fun R=>ROs (ePair (eInt .i64) (ePair (eInt .i64) (ePair (eInt .i64) (ePair (eInt .i64) (eInt .i64))))) H R ⟨au,ah,av⟩ ac) {r:(List (Int×Int))×(List (Int×Int))×Bool} (hp:bm.p F ac ab = some r):∃ v H',bm.tw F ⟨au,ah,av⟩ ab H = some (v,H')∧bm.Q H R0 R0  r v H':=by
 obtain ⟨w0,aL⟩:=h0
 subst bb
 unfold bm.p at hp
 unfold bm.tw bm.twX
 have s0:=w0.rf
 refine new_k w0 fun H1 w1 s1=>?_
 refine new_k w1 fun H2 w2 s2=>?_
 refine bind_ex (ldSl_of (w2.ld (i:=1) rfl rfl)) ?_
 obtain ⟨r3,e3,hp⟩:=bind_some' hp
 refine call_ex (aY.P rfl ⟨w2,(aL.step (s1.trans s2))⟩ e3) ?_
 rintro _ H4 ⟨rfl,w4,s4,_⟩
 refine bind_ex rfl ?_
 refine bif_ex (fun hb=>?_) (fun hb=>?_)
 ·replace hp:=bif_t hb hp
  refine st_k w4 (i:=0) rfl rfl rfl fun H5 w5 s5=>?_
  dsimp only [List.set] at w5 s5
  refine st_k w5 (i:=0) rfl rfl rfl fun H6 w6 s6=>?_
  dsimp only [List.set] at w6 s6
  refine bind_ex (ldSl_of (w6.ld (i:=0) rfl rfl)) ?_
  refine bind_ex (ldSl_of (w6.ld (i:=0) rfl rfl)) ?_
  obtain ⟨w7,s7⟩:=w6.nilS (ePair (eInt .i64) (eInt .i64)).z (by decide)
  obtain ⟨w8,s8⟩:=w7.nilS (ePair (eInt .i64) (eInt .i64)).z (by decide)
  obtain ⟨w9,s9,f9⟩:=w8.frz (i:=1) (ePair (eInt .i64) (eInt .i64)) rfl ((CR.empty:CR (ePair (eInt .i64) (eInt .i64)) _ _ [] []).step s8)
  dsimp only [List.eraseIdx] at w9 s9 f9
  obtain ⟨w10,s10,f10⟩:=w9.frz (i:=0) (ePair (eInt .i64) (eInt .i64)) rfl ((CR.empty:CR (ePair (eInt .i64) (eInt .i64)) _ _ [] []).step s9)
  dsimp only [List.eraseIdx] at w10 s10 f10
  obtain ⟨w11,s11⟩:=w10.pick' [] 2 rfl rfl rfl
  dsimp only [pk,pks,nth,List.drop] at w11 s11
  obtain rfl:=Option.some.inj hp
  exact ⟨_,_,rfl,_,_,_,_,_,_,rfl,rfl,rfl,w11,(s0.trans (s1.trans (s2.trans (s4.trans (s5.trans (s6.trans (s7.trans (s8.trans (s9.trans (s10.trans s11)))))))))),(f9.step (s10.trans s11)),(f10.step s11)⟩
 ·replace hp:=bif_f hb hp
  refine bind_ex (ldI_of (w4.ld (i:=1) rfl rfl)) ?_
  obtain ⟨r12,e12,hp⟩:=bind_some' hp
  refine call_ex (bc.P ⟨w4,trivial⟩ e12) ?_
  rintro _ H13 ⟨rfl,w13,s13,_⟩
  refine bind_ex rfl ?_
  refine bif_ex (fun hb=>?_) (fun hb=>?_)
  ·replace hp:=bif_t hb hp
   refine st_k w13 (i:=0) rfl rfl rfl fun H14 w14 s14=>?_
   dsimp only [List.set] at w14 s14
   refine st_k w14 (i:=0) rfl rfl rfl fun H15 w15 s15=>?_
   dsimp only [List.set] at w15 s15
   refine bind_ex (ldSl_of (w15.ld (i:=0) rfl rfl)) ?_
   refine bind_ex (ldSl_of (w15.ld (i:=0) rfl rfl)) ?_
   obtain ⟨w16,s16⟩:=w15.nilS (ePair (eInt .i64) (eInt .i64)).z (by decide)
   obtain ⟨w17,s17⟩:=w16.nilS (ePair (eInt .i64) (eInt .i64)).z (by decide)
   obtain ⟨w18,s18,f18⟩:=w17.frz (i:=1) (ePair (eInt .i64) (eInt .i64)) rfl ((CR.empty:CR (ePair (eInt .i64) (eInt .i64)) _ _ [] []).step s17)
   dsimp only [List.eraseIdx] at w18 s18 f18
   obtain ⟨w19,s19,f19⟩:=w18.frz (i:=0) (ePair (eInt .i64) (eInt .i64)) rfl ((CR.empty:CR (ePair (eInt .i64) (eInt .i64)) _ _ [] []).step s18)
   dsimp only [List.eraseIdx] at w19 s19 f19
   obtain ⟨w20,s20⟩:=w19.pick' [] 2 rfl rfl rfl
   dsimp only [pk,pks,nth,List.drop] at w20 s20
   obtain rfl:=Option.some.inj hp
   exact ⟨_,_,rfl,_,_,_,_,_,_,rfl,rfl,rfl,w20,(s0.trans (s1.trans (s2.trans (s4.trans (s13.trans (s14.trans (s15.trans (s16.trans (s17.trans (s18.trans (s19.trans s20))))))))))),(f18.step (s19.trans s20)),(f19.step s20)⟩
  ·replace hp:=bif_f hb hp
   refine bind_ex (ldSl_of (w13.ld (i:=1) rfl rfl)) ?_
   obtain ⟨r21,e21,hp⟩:=bind_some' hp
   refine call_ex (bw.P rfl ⟨w13,(aL.step (s1.trans (s2.trans (s4.trans s13))))⟩ e21) ?_
   rintro _ H22 ⟨rfl,w22,s22,_⟩
   refine bind_ex rfl ?_
   refine bif_ex (fun hb=>?_) (fun hb=>?_)
   ·replace hp:=bif_t hb hp
    refine st_k w22 (i:=0) rfl rfl rfl fun H23 w23 s23=>?_
    dsimp only [List.set] at w23 s23
    refine st_k w23 (i:=0) rfl rfl rfl fun H24 w24 s24=>?_
    dsimp only [List.set] at w24 s24
    refine bind_ex (ldSl_of (w24.ld (i:=0) rfl rfl)) ?_
    refine bind_ex (ldSl_of (w24.ld (i:=0) rfl rfl)) ?_
    obtain ⟨w25,s25⟩:=w24.nilS (ePair (eInt .i64) (eInt .i64)).z (by decide)
    obtain ⟨w26,s26⟩:=w25.nilS (ePair (eInt .i64) (eInt .i64)).z (by decide)
    obtain ⟨w27,s27,f27⟩:=w26.frz (i:=1) (ePair (eInt .i64) (eInt .i64)) rfl ((CR.empty:CR (ePair (eInt .i64) (eInt .i64)) _ _ [] []).step s26)
    dsimp only [List.eraseIdx] at w27 s27 f27
    obtain ⟨w28,s28,f28⟩:=w27.frz (i:=0) (ePair (eInt .i64) (eInt .i64)) rfl ((CR.empty:CR (ePair (eInt .i64) (eInt .i64)) _ _ [] []).step s27)
    dsimp only [List.eraseIdx] at w28 s28 f28
    obtain ⟨w29,s29⟩:=w28.pick' [] 2 rfl rfl rfl
    dsimp only [pk,pks,nth,List.drop] at w29 s29
    obtain rfl:=Option.some.inj hp
    exact ⟨_,_,rfl,_,_,_,_,_,_,rfl,rfl,rfl,w29,(s0.trans (s1.trans (s2.trans (s4.trans (s13.trans (s22.trans (s23.trans (s24.trans (s25.trans (s26.trans (s27.trans (s28.trans s29)))))))))))),(f27.step (s28.trans s29)),(f28.step s29)⟩
   ·replace hp:=bif_f hb hp
    refine bind_ex (ldSl_of (w22.ld (i:=1) rfl rfl)) ?_
    refine bind_ex (ldI_of (w22.ld (i:=1) rfl rfl)) ?_
    obtain ⟨r30,e30,hp⟩:=bind_some' hp
    refine call_ex (ay.P rfl ⟨w22,(aL.step (s1.trans (s2.trans (s4.trans (s13.trans s22)))))⟩ e30) ?_
    rintro _ H31 ⟨o0a_31,o0n_31,o0c_31,o0k_31,o1a_31,o1n_31,o1c_31,o1k_31,rfl,rfl,rfl,w31,s31,f31_0,f31_1⟩
    refine bind_ex rfl ?_
    refine bind_ex rfl ?_
    refine bind_ex rfl ?_
    refine bind_ex rfl ?_
    refine bind_ex rfl ?_
    refine bind_ex rfl ?_
    refine bind_ex rfl ?_
    refine bind_ex rfl ?_
    refine bind_ex rfl ?_
    refine new_k w31 fun H32 w32 s32=>?_
    refine st_k w32 (i:=0) rfl rfl rfl fun H33 w33 s33=>?_
    dsimp only [List.set] at w33 s33
    refine st_k w33 (i:=0) rfl rfl rfl fun H34 w34 s34=>?_
    dsimp only [List.set] at w34 s34
    refine bif_ex (fun hb=>?_) (fun hb=>?_)
    ·replace hp:=bif_t hb hp
     refine st_k w34 (i:=3) rfl rfl rfl fun H35 w35 s35=>?_
     dsimp only [List.set] at w35 s35
     refine st_k w35 (i:=3) rfl rfl rfl fun H36 w36 s36=>?_
     dsimp only [List.set] at w36 s36
     refine bind_ex (ldSl_of (w36.ld (i:=3) rfl rfl)) ?_
     refine bind_ex (ldSl_of (w36.ld (i:=3) rfl rfl)) ?_
     obtain ⟨w37,s37⟩:=w36.nilS (ePair (eInt .i64) (eInt .i64)).z (by decide)
     obtain ⟨w38,s38⟩:=w37.nilS (ePair (eInt .i64) (eInt .i64)).z (by decide)
     obtain ⟨w39,s39,f39⟩:=w38.frz (i:=1) (ePair (eInt .i64) (eInt .i64)) rfl ((CR.empty:CR (ePair (eInt .i64) (eInt .i64)) _ _ [] []).step s38)
     dsimp only [List.eraseIdx] at w39 s39 f39
     obtain ⟨w40,s40,f40⟩:=w39.frz (i:=0) (ePair (eInt .i64) (eInt .i64)) rfl ((CR.empty:CR (ePair (eInt .i64) (eInt .i64)) _ _ [] []).step s39)
     dsimp only [List.eraseIdx] at w40 s40 f40
     obtain ⟨w41,s41⟩:=w40.pick' [] 5 rfl rfl rfl
     dsimp only [pk,pks,nth,List.drop] at w41 s41
     obtain rfl:=Option.some.inj hp
     exact ⟨_,_,rfl,_,_,_,_,_,_,rfl,rfl,rfl,w41,(s0.trans (s1.trans (s2.trans (s4.trans (s13.trans (s22.trans (s31.trans (s32.trans (s33.trans (s34.trans (s35.trans (s36.trans (s37.trans (s38.trans (s39.trans (s40.trans s41)))))))))))))))),(f39.step (s40.trans s41)),(f40.step s41)⟩
    ·replace hp:=bif_f hb hp
     refine bind_ex (ldSl_of (w34.ld (i:=4) rfl rfl)) ?_
     refine bind_ex (ldI_of (w34.ld (i:=4) rfl rfl)) ?_
     refine bind_ex (ldSl_of (w34.ld (i:=0) rfl rfl)) ?_
     refine bind_ex (ldSl_of (w34.ld (i:=0) rfl rfl)) ?_
     obtain ⟨w42,s42,f42⟩:=w34.frz (i:=1) (ePair (eInt .i64) (eInt .i64)) rfl (f31_0.step (s32.trans (s33.trans s34)))
     dsimp only [List.eraseIdx] at w42 s42 f42
     obtain ⟨w43,s43,f43⟩:=w42.frz (i:=1) (ePair (eInt .i64) (eInt .i64)) rfl (f31_1.step (s32.trans (s33.trans (s34.trans s42))))
     dsimp only [List.eraseIdx] at w43 s43 f43
     obtain ⟨r44,e44,hp⟩:=bind_some' hp
     refine call_ex (ap.P rfl rfl rfl ⟨w43,(aL.step (s1.trans (s2.trans (s4.trans (s13.trans (s22.trans (s31.trans (s32.trans (s33.trans (s34.trans (s42.trans s43))))))))))),(f42.step s43),f43⟩ e44) ?_
     rintro _ H45 ⟨o0a_45,o0n_45,o0c_45,o0k_45,rfl,rfl,w45,s45,f45_0⟩
     refine bind_ex rfl ?_
     refine ifs_ex (Cons.tr (Cons.refl _) s42 (Cons.tr (Cons.refl _) s43 (W.cons_of (Rn:=[_]) w43 w45 s45))) ?_
     have f47:=W.borrow1 (eSl (eInt .i64)) w45 f45_0
     obtain ⟨w47,s47⟩:=w45.right1
     obtain ⟨r48,e48,hp⟩:=bind_some' hp
     refine call_ex (bj.P rfl ⟨w47,f47⟩ e48) ?_
     rintro _ H49 ⟨rfl,w49,s49,_⟩
     obtain ⟨w50,s50⟩:=W.frame1 w45 w49 s49
     refine bind_ex rfl ?_
     refine ifs_ex (W.cons_of (Rn:=[]) w47 w49 s49) ?_
     refine bind_ex (ldSl_of (w50.ld (i:=3) rfl rfl)) ?_
     refine bind_ex (ldI_of (w50.ld (i:=3) rfl rfl)) ?_
     refine bind_ex (ldSl_of (w50.ld (i:=1) rfl rfl)) ?_
     refine bind_ex (ldSl_of (w50.ld (i:=1) rfl rfl)) ?_
     obtain ⟨r52,e52,hp⟩:=bind_some' hp
     refine call_ex (aQ.P rfl rfl rfl ⟨w50,(aL.step (s1.trans (s2.trans (s4.trans (s13.trans (s22.trans (s31.trans (s32.trans (s33.trans (s34.trans (s42.trans (s43.trans (s45.trans s50))))))))))))),(f42.step (s43.trans (s45.trans s50))),(f43.step (s45.trans s50))⟩ e52) ?_
     rintro _ H53 ⟨o0a_53,o0n_53,o0c_53,o0k_53,rfl,rfl,w53,s53,f53_0⟩
     refine bind_ex rfl ?_
     have f54:=W.borrow1 (eInt .i64) w53 f53_0
     obtain ⟨w54,s54⟩:=w53.right1
     obtain ⟨r55,e55,hp⟩:=bind_some' hp
     refine call_ex (bk.P rfl ⟨w54,f54⟩ e55) ?_
     rintro _ H56 ⟨rfl,w56,s56,_⟩
     obtain ⟨w57,s57⟩:=W.frame1 w53 w56 s56
     refine bind_ex rfl ?_
     refine bif_ex (fun hb=>?_) (fun hb=>?_)
     ·replace hp:=bif_t hb hp
      refine st_k w57 (i:=3) rfl rfl rfl fun H58 w58 s58=>?_
      dsimp only [List.set] at w58 s58
      refine st_k w58 (i:=3) rfl rfl rfl fun H59 w59 s59=>?_
      dsimp only [List.set] at w59 s59
      refine bind_ex (ldSl_of (w59.ld (i:=3) rfl rfl)) ?_
      refine bind_ex (ldSl_of (w59.ld (i:=3) rfl rfl)) ?_
      obtain ⟨w60,s60⟩:=w59.nilS (ePair (eInt .i64) (eInt .i64)).z (by decide)
      obtain ⟨w61,s61⟩:=w60.nilS (ePair (eInt .i64) (eInt .i64)).z (by decide)
      obtain ⟨w62,s62,f62⟩:=w61.frz (i:=1) (ePair (eInt .i64) (eInt .i64)) rfl ((CR.empty:CR (ePair (eInt .i64) (eInt .i64)) _ _ [] []).step s61)
      dsimp only [List.eraseIdx] at w62 s62 f62
      obtain ⟨w63,s63,f63⟩:=w62.frz (i:=0) (ePair (eInt .i64) (eInt .i64)) rfl ((CR.empty:CR (ePair (eInt .i64) (eInt .i64)) _ _ [] []).step s62)
      dsimp only [List.eraseIdx] at w63 s63 f63
      obtain ⟨w64,s64⟩:=w63.pick' [] 5 rfl rfl rfl
      dsimp only [pk,pks,nth,List.drop] at w64 s64
      obtain rfl:=Option.some.inj hp
      exact ⟨_,_,rfl,_,_,_,_,_,_,rfl,rfl,rfl,w64,(s0.trans (s1.trans (s2.trans (s4.trans (s13.trans (s22.trans (s31.trans (s32.trans (s33.trans (s34.trans (s42.trans (s43.trans (s45.trans (s50.trans (s53.trans (s57.trans (s58.trans (s59.trans (s60.trans (s61.trans (s62.trans (s63.trans s64)))))))))))))))))))))),(f62.step (s63.trans s64)),(f63.step s64)⟩
     ·replace hp:=bif_f hb hp
      refine bind_ex (ldSl_of (w57.ld (i:=2) rfl rfl)) ?_
      refine bind_ex (ldSl_of (w57.ld (i:=2) rfl rfl)) ?_
      refine st_k w57 (i:=3) rfl rfl rfl fun H65 w65 s65=>?_
      dsimp only [List.set] at w65 s65
      refine st_k w65 (i:=3) rfl rfl rfl fun H66 w66 s66=>?_
      dsimp only [List.set] at w66 s66
      refine bind_ex (ldSl_of (w66.ld (i:=3) rfl rfl)) ?_
      refine bind_ex (ldSl_of (w66.ld (i:=3) rfl rfl)) ?_
      obtain ⟨w67,s67⟩:=w66.pick' [] 5 rfl rfl rfl
      dsimp only [pk,pks,nth,List.drop] at w67 s67
      obtain rfl:=Option.some.inj hp
      exact ⟨_,_,rfl,_,_,_,_,_,_,rfl,rfl,rfl,w67,(s0.trans (s1.trans (s2.trans (s4.trans (s13.trans (s22.trans (s31.trans (s32.trans (s33.trans (s34.trans (s42.trans (s43.trans (s45.trans (s50.trans (s53.trans (s57.trans (s65.trans (s66.trans s67)))))))))))))))))),(f42.step (s43.trans (s45.trans (s50.trans (s53.trans (s57.trans (s65.trans (s66.trans s67)))))))),(f43.step (s45.trans (s50.trans (s53.trans (s57.trans (s65.trans (s66.trans s67)))))))⟩
def bt.Q (H0:Hp) (Ri R0:List Rs)  (r:Int) (v:AV) (H':Hp):Prop:=v = (.int .i64 r)∧Out H0 Ri H' (R0) fun R=>True
def bt.p (F:Nat) (ac:List (Int×Int×Int×Int×Int)) (cv:List (Int×Int)) (cC:Int):Option (Int):=(ix cv cC).bind fun n3=>(ix ac ((gt cv n3).1)).bind fun n7=>(bd.p F ((gt ac n7).1) ((gt ac n7).2.1) ((gt ac n7).2.2.1) ((gt ac n7).2.2.2.1)).bind fun r8=>(if 0 ≤ (Int.tmod (IntKind.i64.wrap (((gt cv n3).2) + 2)) 4)∧(Int.tmod (IntKind.i64.wrap (((gt cv n3).2) + 2)) 4) < (4:Int) then (some (gt ([r8.1,r8.2.1,r8.2.2.1,r8.2.2.2]:List Int) ((Int.tmod (IntKind.i64.wrap (((gt cv n3).2) + 2)) 4):Int).toNat)) else none)
theorem bt.P {F:Nat} {au gZ:ON} {ah fv:Nat} {av g_:Cap} {ac:List (Int×Int×Int×Int×Int)} {ab cC:Int} {af:Sl} {cv:List (Int×Int)} {H:Hp} {R0:List Rs} (bb:ah = ac.length) (kp:fv = cv.length) (h0:Inn H R0 fun R=>ROs (ePair (eInt .i64) (ePair (eInt .i64) (ePair (eInt .i64) (ePair (eInt .i64) (eInt .i64))))) H R ⟨au,ah,av⟩ ac∧ROs (ePair (eInt .i64) (eInt .i64)) H R ⟨gZ,fv,g_⟩ cv) {r:Int} (hp:bt.p F ac cv cC = some r):∃ v H',bt.tw F ⟨au,ah,av⟩ ab af ⟨gZ,fv,g_⟩ cC H = some (v,H')∧bt.Q H R0 R0  r v H':=by
 obtain ⟨w0,aL,kq⟩:=h0
 subst bb
 subst kp
 unfold bt.p at hp
 unfold bt.tw bt.twX
 have s0:=w0.rf
 refine new_k w0 fun H1 w1 s1=>?_
 refine new_k w1 fun H2 w2 s2=>?_
 refine bind_ex (ldSl_of (w2.ld (i:=0) rfl rfl)) ?_
 obtain ⟨n3,g3,hp⟩:=bind_some' hp
 obtain ⟨p3,q3,i3,h3,j3⟩:=ROs.ixr (kq.step (s1.trans s2)) rfl g3
 refine bind_ex i3 ?_
 obtain ⟨_,_,rfl,rfl,rfl⟩:=h3
 refine bind_ex (ldI_of (j3 0 _ rfl)) ?_
 refine bind_ex (ldI_of (j3 1 _ rfl)) ?_
 refine new_k w2 fun H4 w4 s4=>?_
 refine st_k w4 (i:=0) rfl rfl rfl fun H5 w5 s5=>?_
 dsimp only [List.set] at w5 s5
 refine st_k w5 (i:=0) rfl rfl rfl fun H6 w6 s6=>?_
 dsimp only [List.set] at w6 s6
 refine bind_ex (ldSl_of (w6.ld (i:=2) rfl rfl)) ?_
 refine bind_ex (ldI_of (w6.ld (i:=0) rfl rfl)) ?_
 obtain ⟨n7,g7,hp⟩:=bind_some' hp
 obtain ⟨p7,q7,i7,h7,j7⟩:=ROs.ixr (aL.step (s1.trans (s2.trans (s4.trans (s5.trans s6))))) rfl g7
 refine bind_ex i7 ?_
 obtain ⟨_,_,rfl,rfl,_,_,rfl,rfl,_,_,rfl,rfl,_,_,rfl,rfl,rfl⟩:=h7
 refine bind_ex (ldI_of (j7 0 _ rfl)) ?_
 refine bind_ex (ldI_of (j7 1 _ rfl)) ?_
 refine bind_ex (ldI_of (j7 2 _ rfl)) ?_
 refine bind_ex (ldI_of (j7 3 _ rfl)) ?_
 refine bind_ex (ldI_of (j7 4 _ rfl)) ?_
 obtain ⟨r8,e8,hp⟩:=bind_some' hp
 refine call_ex (bd.P ⟨w6,trivial⟩ e8) ?_
 rintro _ H9 ⟨rfl,w9,s9,_⟩
 refine bind_ex rfl ?_
 refine bind_ex rfl ?_
 refine bind_ex rfl ?_
 refine bind_ex rfl ?_
 refine bind_ex rfl ?_
 refine bind_ex rfl ?_
 refine bind_ex rfl ?_
 refine bind_ex rfl ?_
 refine bind_ex rfl ?_
 refine ifs_ex (W.cons_of (Rn:=[]) w6 w9 s9) ?_
 refine bind_ex (ldI_of (w9.ld (i:=0) rfl rfl)) ?_
 obtain ⟨g11,hp⟩:=ifs_p hp
 refine ifs_ex g11 ?_
 refine bind_ex (a:=AV.int .i64 (gt ([r8.1,r8.2.1,r8.2.2.1,r8.2.2.2]:List Int) ((Int.tmod (IntKind.i64.wrap (((gt cv n3).2) + 2)) 4):Int).toNat)) (by rw [Nat.mul_one]; exact arr_get (k:=.i64) (l:=[r8.1,r8.2.1,r8.2.2.1,r8.2.2.2]) rfl (by have:=g11; simp only [List.length_cons,List.length_nil]; omega)) ?_
 refine bind_ex rfl ?_
 obtain ⟨w12,s12⟩:=w9.pick' [] 3 rfl rfl rfl
 dsimp only [pk,pks,nth,List.drop] at w12 s12
 obtain rfl:=Option.some.inj hp
 exact ⟨_,_,rfl,rfl,w12,(s0.trans (s1.trans (s2.trans (s4.trans (s5.trans (s6.trans (s9.trans s12))))))),trivial⟩
def ak.Q (H0:Hp) (Ri R0:List Rs)  (r:List (List Int)) (v:AV) (H':Hp):Prop:=∃ o0a:ON,∃ o0n:Nat,∃ o0c:Cap,∃ o0k:List AV,v = (.sl ⟨o0a,o0n,o0c⟩)∧o0n = (r).length∧Out H0 Ri H' (Rs.own ⟨o0a,o0n,o0c⟩ (eSl (eInt .i64)).z o0k :: R0) fun R=>CR (eSl (eInt .i64)) H' R o0k (r)
def ak.S61 (H0:Hp) (Ri R0:List Rs)  (C:Nat→Nat→Nat→Nat→Sl→Sl→Int→Int→Hp→OA) (pC:List (Int×Int×Int×Int×Int)→List (Int×Int)→List (List Int)→List Bool→Int→Int→Option (List (List Int))):Prop:=∀ {kr kt ku kv:ON} {jv co jw cu jx jy:Nat} {kw kx ky kz:Cap} {gD:List (Int×Int×Int×Int×Int)} {mb ff eR:Int} {yR:Sl} {gE:List (Int×Int)} {f_:List (List Int)} {kA kB:List AV} {gF:List Bool},∀ {H:Hp},jv = gD.length→jw = gE.length→jx = f_.length→jy = gF.length→(Out H0 Ri H (Rs.blk co [.sl ⟨kr,jv,kw⟩,.int .i64 mb] :: Rs.blk cu [.sl yR,.sl ⟨kt,jw,kx⟩] :: Rs.own ⟨ku,jx,ky⟩ (eSl (eInt .i64)).z kA :: Rs.own ⟨kv,jy,kz⟩ eBool.z kB :: R0) fun R=>ROs (ePair (eInt .i64) (ePair (eInt .i64) (ePair (eInt .i64) (ePair (eInt .i64) (eInt .i64))))) H R ⟨kr,jv,kw⟩ gD∧ROs (ePair (eInt .i64) (eInt .i64)) H R ⟨kt,jw,kx⟩ gE∧CR (eSl (eInt .i64)) H R kA f_∧CR eBool H R kB gF)→∀ {r:List (List Int)},pC gD gE f_ gF ff eR = some r→∃ v H',C co 0 cu 0 ⟨ku,jx,ky⟩ ⟨kv,jy,kz⟩ ff eR H = some (v,H')∧ak.Q H0 Ri R0  r v H'
def ak.S15725 (H0:Hp) (Ri R0:List Rs)  (C:Nat→Nat→Nat→Nat→Sl→Sl→Int→Int→Sl→Int→Hp→OA) (pC:List (Int×Int×Int×Int×Int)→List (Int×Int)→List (List Int)→List Bool→Int→Int→List Int→Int→Option (List (List Int))):Prop:=∀ {kk vy vz vA vB:ON} {js ca qI dQ qJ qK qL:Nat} {kl vC vD vE vF:Cap} {gY:List (Int×Int×Int×Int×Int)} {iE fe fE dm:Int} {yS:Sl} {kH:List (Int×Int)} {lA:List (List Int)} {vG vH vI:List AV} {jB:List Bool} {lB:List Int},∀ {H:Hp},js = gY.length→qI = kH.length→qJ = lA.length→qK = jB.length→qL = lB.length→(Out H0 Ri H (Rs.blk ca [.sl ⟨kk,js,kl⟩,.int .i64 iE] :: Rs.blk dQ [.sl yS,.sl ⟨vy,qI,vC⟩] :: Rs.own ⟨vz,qJ,vD⟩ (eSl (eInt .i64)).z vG :: Rs.own ⟨vA,qK,vE⟩ eBool.z vH :: Rs.own ⟨vB,qL,vF⟩ (eInt .i64).z vI :: R0) fun R=>ROs (ePair (eInt .i64) (ePair (eInt .i64) (ePair (eInt .i64) (ePair (eInt .i64) (eInt .i64))))) H R ⟨kk,js,kl⟩ gY∧ROs (ePair (eInt .i64) (eInt .i64)) H R ⟨vy,qI,vC⟩ kH∧CR (eSl (eInt .i64)) H R vG lA∧CR eBool H R vH jB∧CR (eInt .i64) H R vI lB)→∀ {r:List (List Int)},pC gY kH lA jB fe fE lB dm = some r→∃ v H',C ca 0 dQ 0 ⟨vz,qJ,vD⟩ ⟨vA,qK,vE⟩ fe fE ⟨vB,qL,vF⟩ dm H = some (v,H')∧ak.Q H0 Ri R0  r v H'
def ak.pj4 (F:Nat) (ax:List (Int×Int×Int×Int×Int)→List (Int×Int)→List (List Int)→List Bool→Int→Int→Option (List (List Int))) (qM:List (Int×Int×Int×Int×Int)) (qN:List (Int×Int)) (qO:List (List Int)) (qP:List Bool) (na:Int) (nb:Int):Option (List (List Int)):=ax qM qN qO qP na (IntKind.i64.wrap (nb + 1))
theorem ak.j4_P {F:Nat} {H0:Hp} {Ri R0:List Rs}  {C61_:Nat→Nat→Nat→Nat→Sl→Sl→Int→Int→Hp→OA} {ax:List (Int×Int×Int×Int×Int)→List (Int×Int)→List (List Int)→List Bool→Int→Int→Option (List (List Int))} (hC61:ak.S61 H0 Ri R0  C61_ ax) {Eg Eh Ei Ej:ON} {yT rR yU rS yV yW:Nat} {Ek El Em En:Cap} {qM:List (Int×Int×Int×Int×Int)} {JC na nb:Int} {JD:Sl} {qN:List (Int×Int)} {qO:List (List Int)} {Er Es:List AV} {qP:List Bool} {H:Hp} (JE:yT = qM.length) (JF:yU = qN.length) (JG:yV = qO.length) (JH:yW = qP.length) (h0:Out H0 Ri H (Rs.blk rR [.sl ⟨Eg,yT,Ek⟩,.int .i64 JC] :: Rs.blk rS [.sl JD,.sl ⟨Eh,yU,El⟩] :: Rs.own ⟨Ei,yV,Em⟩ (eSl (eInt .i64)).z Er :: Rs.own ⟨Ej,yW,En⟩ eBool.z Es :: R0) fun R=>ROs (ePair (eInt .i64) (ePair (eInt .i64) (ePair (eInt .i64) (ePair (eInt .i64) (eInt .i64))))) H R ⟨Eg,yT,Ek⟩ qM∧ROs (ePair (eInt .i64) (eInt .i64)) H R ⟨Eh,yU,El⟩ qN∧CR (eSl (eInt .i64)) H R Er qO∧CR eBool H R Es qP) {r:List (List Int)} (hp:ak.pj4 F ax qM qN qO qP na nb = some r):∃ v H',ak.j4 F (bt.tw F) C61_ rR 0 rS 0 ⟨Ei,yV,Em⟩ ⟨Ej,yW,En⟩ na nb H = some (v,H')∧ak.Q H0 Ri R0  r v H':=by
 obtain ⟨w0,s0,JI,JJ,JK,JL⟩:=h0
 subst JE
 subst JF
 subst JG
 subst JH
 unfold ak.pj4 at hp
 unfold ak.j4
 exact hC61 rfl rfl rfl rfl ⟨w0,s0,JI,JJ,JK,JL⟩ hp
def ak.pj5 (F:Nat) (ax:List (Int×Int×Int×Int×Int)→List (Int×Int)→List (List Int)→List Bool→Int→Int→Option (List (List Int))) (qQ:List (Int×Int×Int×Int×Int)) (qR:List (Int×Int)) (qS:List (List Int)) (qT:List Bool) (nc:Int) (nd:Int):Option (List (List Int)):=ak.pj4 F ax qQ qR qS qT nc nd
theorem ak.j5_P {F:Nat} {H0:Hp} {Ri R0:List Rs}  {C61_:Nat→Nat→Nat→Nat→Sl→Sl→Int→Int→Hp→OA} {ax:List (Int×Int×Int×Int×Int)→List (Int×Int)→List (List Int)→List Bool→Int→Int→Option (List (List Int))} (hC61:ak.S61 H0 Ri R0  C61_ ax) {Et Eu Ev Ew:ON} {yX mP yY rT yZ y_:Nat} {Ex Ey Ez EA:Cap} {qQ:List (Int×Int×Int×Int×Int)} {JM nc nd:Int} {JN:Sl} {qR:List (Int×Int)} {qS:List (List Int)} {EB EC:List AV} {qT:List Bool} {H:Hp} (JO:yX = qQ.length) (JP:yY = qR.length) (JQ:yZ = qS.length) (JR:y_ = qT.length) (h0:Out H0 Ri H (Rs.blk mP [.sl ⟨Et,yX,Ex⟩,.int .i64 JM] :: Rs.blk rT [.sl JN,.sl ⟨Eu,yY,Ey⟩] :: Rs.own ⟨Ev,yZ,Ez⟩ (eSl (eInt .i64)).z EB :: Rs.own ⟨Ew,y_,EA⟩ eBool.z EC :: R0) fun R=>ROs (ePair (eInt .i64) (ePair (eInt .i64) (ePair (eInt .i64) (ePair (eInt .i64) (eInt .i64))))) H R ⟨Et,yX,Ex⟩ qQ∧ROs (ePair (eInt .i64) (eInt .i64)) H R ⟨Eu,yY,Ey⟩ qR∧CR (eSl (eInt .i64)) H R EB qS∧CR eBool H R EC qT) {r:List (List Int)} (hp:ak.pj5 F ax qQ qR qS qT nc nd = some r):∃ v H',ak.j5 F (bt.tw F) C61_ mP 0 rT 0 ⟨Ev,yZ,Ez⟩ ⟨Ew,y_,EA⟩ nc nd H = some (v,H')∧ak.Q H0 Ri R0  r v H':=by
 obtain ⟨w0,s0,JS,JT,JU,JV⟩:=h0
 subst JO
 subst JP
 subst JQ
 subst JR
 unfold ak.pj5 at hp
 unfold ak.j5
 exact ak.j4_P (@hC61) rfl rfl rfl rfl ⟨w0,s0,JS,JT,JU,JV⟩ hp
def ak.pj6 (F:Nat) (ax:List (Int×Int×Int×Int×Int)→List (Int×Int)→List (List Int)→List Bool→Int→Int→Option (List (List Int))) (nv:List (Int×Int×Int×Int×Int)) (nw:List (Int×Int)) (ny:List (List Int)) (nz:List Bool) (lC:List Int) (kV:Int) (kW:Int):Option (List (List Int)):=(bif (decide ((lC.length:Int) > 0)) then ((apn ny ([lC]:List (List Int))).bind fun l3=>ak.pj5 F ax nv nw l3 nz kV kW) else (ak.pj5 F ax nv nw ny nz kV kW))
theorem ak.j6_P {F:Nat} {H0:Hp} {Ri R0:List Rs}  {C61_:Nat→Nat→Nat→Nat→Sl→Sl→Int→Int→Hp→OA} {ax:List (Int×Int×Int×Int×Int)→List (Int×Int)→List (List Int)→List Bool→Int→Int→Option (List (List Int))} (hC61:ak.S61 H0 Ri R0  C61_ ax) {ED EE EF EG EH:ON} {za nE zb nF zc zd ze:Nat} {EI EJ EK EL EM:Cap} {nv:List (Int×Int×Int×Int×Int)} {JW kV kW:Int} {JX:Sl} {nw:List (Int×Int)} {ny:List (List Int)} {EN EO EP:List AV} {nz:List Bool} {lC:List Int} {H:Hp} (JY:za = nv.length) (JZ:zb = nw.length) (J_:zc = ny.length) (Ka:zd = nz.length) (Kb:ze = lC.length) (h0:Out H0 Ri H (Rs.blk nE [.sl ⟨ED,za,EI⟩,.int .i64 JW] :: Rs.blk nF [.sl JX,.sl ⟨EE,zb,EJ⟩] :: Rs.own ⟨EF,zc,EK⟩ (eSl (eInt .i64)).z EN :: Rs.own ⟨EG,zd,EL⟩ eBool.z EO :: Rs.own ⟨EH,ze,EM⟩ (eInt .i64).z EP :: R0) fun R=>ROs (ePair (eInt .i64) (ePair (eInt .i64) (ePair (eInt .i64) (ePair (eInt .i64) (eInt .i64))))) H R ⟨ED,za,EI⟩ nv∧ROs (ePair (eInt .i64) (eInt .i64)) H R ⟨EE,zb,EJ⟩ nw∧CR (eSl (eInt .i64)) H R EN ny∧CR eBool H R EO nz∧CR (eInt .i64) H R EP lC) {r:List (List Int)} (hp:ak.pj6 F ax nv nw ny nz lC kV kW = some r):∃ v H',ak.j6 F (bt.tw F) C61_ nE 0 nF 0 ⟨EF,zc,EK⟩ ⟨EG,zd,EL⟩ ⟨EH,ze,EM⟩ kV kW H = some (v,H')∧ak.Q H0 Ri R0  r v H':=by
 obtain ⟨w0,s0,EQ,ER,ES,ET,Kc⟩:=h0
 subst JY
 subst JZ
 subst J_
 subst Ka
 subst Kb
 unfold ak.pj6 at hp
 unfold ak.j6
 refine bif_ex (fun hb=>?_) (fun hb=>?_)
 ·replace hp:=bif_t hb hp
  obtain ⟨w1,s1,f1⟩:=w0.frz (i:=4) (eInt .i64) rfl Kc
  dsimp only [List.eraseIdx] at w1 s1 f1
  refine newS_k (eSl (eInt .i64)) w1 (n:=1) (l:=([lC]:List (List Int))) rfl (CR.cons1 ⟨_,rfl,f1⟩ CR.empty) rfl fun H2 w2 s2 c2=>?_
  refine bind_ex (w2.rowo (i:=0) rfl) ?_
  obtain ⟨l3,e3,hp⟩:=bind_some' hp
  refine app_k (eSl (eInt .i64)) w2 (i:=3) rfl rfl (ES.step (s1.trans s2)) c2 (show 1 = List.length ([lC]:List (List Int)) from rfl) rfl e3 fun a4 d4 H4 w4 s4 c4 x4=>?_
  dsimp only [List.set] at w4 s4 c4
  obtain ⟨w5,s5⟩:=w4.pick' [1,2,3,4] 5 rfl rfl rfl
  dsimp only [pk,pks,nth,List.drop] at w5 s5
  exact ak.j5_P (@hC61) rfl rfl rfl rfl ⟨w5,(s0.trans (s1.trans (s2.trans (s4.trans s5)))),(EQ.step (s1.trans (s2.trans (s4.trans s5)))),(ER.step (s1.trans (s2.trans (s4.trans s5)))),(c4.step s5),(ET.step (s1.trans (s2.trans (s4.trans s5))))⟩ hp
 ·replace hp:=bif_f hb hp
  obtain ⟨w6,s6⟩:=w0.pick' [0,1,2,3] 5 rfl rfl rfl
  dsimp only [pk,pks,nth,List.drop] at w6 s6
  exact ak.j5_P (@hC61) rfl rfl rfl rfl ⟨w6,(s0.trans s6),(EQ.step s6),(ER.step s6),(ES.step s6),(ET.step s6)⟩ hp
def ak.pl15725 (F:Nat) (ax:List (Int×Int×Int×Int×Int)→List (Int×Int)→List (List Int)→List Bool→Int→Int→Option (List (List Int))):Nat→List (Int×Int×Int×Int×Int)→List (Int×Int)→List (List Int)→List Bool→Int→Int→List Int→Int→Option (List (List Int))
 | 0,_,_,_,_,_,_,_,_=>none
 | k + 1,gY,kH,lA,jB,fe,fE,lB,dm=>(ix jB dm).bind fun n1=>(bif (!(gt jB n1)) then ((ix jB dm).bind fun n2=>(some (jB.set n2 true)).bind fun l3=>(apn lB ([dm]:List Int)).bind fun l6=>(bt.p F gY kH dm).bind fun r8=>ak.pl15725 F ax k gY kH lA l3 fe fE l6 r8) else (ak.pj6 F ax gY kH lA jB lB fe fE))
termination_by structural n=>n
theorem ak.l15725_P {F:Nat} {H0:Hp} {Ri R0:List Rs}  {C61_:Nat→Nat→Nat→Nat→Sl→Sl→Int→Int→Hp→OA} {ax:List (Int×Int×Int×Int×Int)→List (Int×Int)→List (List Int)→List Bool→Int→Int→Option (List (List Int))} (hC61:ak.S61 H0 Ri R0  C61_ ax):∀ k,ak.S15725 H0 Ri R0  (ak.l15725 F (bt.tw F) C61_ k) (ak.pl15725 F ax k):=by
 intro k
 induction k with
 | zero=>
  intro kk vy vz vA vB js ca qI dQ qJ qK qL kl vC vD vE vF gY iE fe fE dm yS kH lA vG vH vI jB lB H pM EU EV EW EX h0 r hp
  exact nomatch (show (none:Option (List (List Int))) = some r from hp)
 | succ k ih=>
  intro kk vy vz vA vB js ca qI dQ qJ qK qL kl vC vD vE vF gY iE fe fE dm yS kH lA vG vH vI jB lB H pM EU EV EW EX h0 r hp
  obtain ⟨w0,s0,pN,zf,EY,vJ,EZ⟩:=h0
  subst pM
  subst EU
  subst EV
  subst EW
  subst EX
  unfold ak.pl15725 at hp
  unfold ak.l15725
  obtain ⟨n1,g1,hp⟩:=bind_some' hp
  obtain ⟨p1,q1,i1,h1,j1⟩:=W.ixo (E:=eBool) w0 (i:=3) rfl rfl vJ g1
  refine bind_ex i1 ?_
  have h1:_ = [_]:=h1
  subst h1
  refine bind_ex (ldB_of (j1 0 _ rfl)) ?_
  refine bif_ex (fun hb=>?_) (fun hb=>?_)
  ·replace hp:=bif_t hb hp
   obtain ⟨n2,g2,hp⟩:=bind_some' hp
   obtain ⟨p2,q2,i2,h2,j2⟩:=W.ixo (E:=eBool) w0 (i:=3) rfl rfl vJ g2
   refine bind_ex i2 ?_
   obtain ⟨l3,e3,hp⟩:=bind_some' hp
   refine sto_k eBool w0 (i:=3) (j:=0) (p:=p2) rfl rfl vJ g2 i2 e3 rfl rfl (fun _ h=>by have h:_ = [_]:=h; subst h; exact rfl) fun H4 k4 w4 s4 c4=>?_
   dsimp only [List.set] at w4 s4 c4
   refine newS_k (eInt .i64) w4 (n:=1) (l:=([dm]:List Int)) rfl (CR.cons1 rfl CR.empty) rfl fun H5 w5 s5 c5=>?_
   refine bind_ex (w5.rowo (i:=0) rfl) ?_
   obtain ⟨l6,e6,hp⟩:=bind_some' hp
   refine app_k (eInt .i64) w5 (i:=5) rfl rfl (EZ.step (s4.trans s5)) c5 (show 1 = List.length ([dm]:List Int) from rfl) rfl e6 fun a7 d7 H7 w7 s7 c7 x7=>?_
   dsimp only [List.set] at w7 s7 c7
   refine bind_ex (ldSl_of (w7.ld (i:=1) rfl rfl)) ?_
   refine bind_ex (ldI_of (w7.ld (i:=1) rfl rfl)) ?_
   refine bind_ex (ldSl_of (w7.ld (i:=2) rfl rfl)) ?_
   refine bind_ex (ldSl_of (w7.ld (i:=2) rfl rfl)) ?_
   obtain ⟨r8,e8,hp⟩:=bind_some' hp
   refine call_ex (bt.P rfl rfl ⟨w7,(pN.step (s4.trans (s5.trans s7))),(zf.step (s4.trans (s5.trans s7)))⟩ e8) ?_
   rintro _ H9 ⟨rfl,w9,s9,_⟩
   refine bind_ex rfl ?_
   obtain ⟨w10,s10⟩:=w9.pick' [1,2,3,4,5] 6 rfl rfl rfl
   dsimp only [pk,pks,nth,List.drop] at w10 s10
   exact ih rfl rfl rfl ((st_len e3).symm) rfl ⟨w10,(s0.trans (s4.trans (s5.trans (s7.trans (s9.trans s10))))),(pN.step (s4.trans (s5.trans (s7.trans (s9.trans s10))))),(zf.step (s4.trans (s5.trans (s7.trans (s9.trans s10))))),(EY.step (s4.trans (s5.trans (s7.trans (s9.trans s10))))),(c4.step (s5.trans (s7.trans (s9.trans s10)))),(c7.step (s9.trans s10))⟩ hp
  ·replace hp:=bif_f hb hp
   exact ak.j6_P (@hC61) rfl rfl rfl rfl rfl ⟨w0,s0,pN,zf,EY,vJ,EZ⟩ hp
def ak.pl61 (F:Nat) :Nat→List (Int×Int×Int×Int×Int)→List (Int×Int)→List (List Int)→List Bool→Int→Int→Option (List (List Int))
 | 0,_,_,_,_,_,_=>none
 | k + 1,gD,gE,f_,gF,ff,eR=>(bif (decide (eR < ff)) then (ak.pl15725 F (ak.pl61 F k) F gD gE f_ gF ff eR ([]:List Int) eR) else (some f_))
termination_by structural n=>n
theorem ak.l61_P {F:Nat} {H0:Hp} {Ri R0:List Rs}  :∀ k,ak.S61 H0 Ri R0  (ak.l61 F (bt.tw F)  k) (ak.pl61 F  k):=by
 intro k
 induction k with
 | zero=>
  intro kr kt ku kv jv co jw cu jx jy kw kx ky kz gD mb ff eR yR gE f_ kA kB gF H qv qw qx qy h0 r hp
  exact nomatch (show (none:Option (List (List Int))) = some r from hp)
 | succ k ih=>
  intro kr kt ku kv jv co jw cu jx jy kw kx ky kz gD mb ff eR yR gE f_ kA kB gF H qv qw qx qy h0 r hp
  obtain ⟨w0,s0,yN,yO,qz,yP⟩:=h0
  subst qv
  subst qw
  subst qx
  subst qy
  unfold ak.pl61 at hp
  unfold ak.l61
  refine bif_ex (fun hb=>?_) (fun hb=>?_)
  ·replace hp:=bif_t hb hp
   obtain ⟨w1,s1⟩:=w0.nilS (eInt .i64).z (by decide)
   obtain ⟨w2,s2⟩:=w1.pick' [1,2,3,4,0] 5 rfl rfl rfl
   dsimp only [pk,pks,nth,List.drop] at w2 s2
   exact ak.l15725_P (@ih) F rfl rfl rfl rfl rfl ⟨w2,(s0.trans (s1.trans s2)),(yN.step (s1.trans s2)),(yO.step (s1.trans s2)),(qz.step (s1.trans s2)),(yP.step (s1.trans s2)),((CR.empty:CR (eInt .i64) _ _ [] []).step s2)⟩ hp
  ·replace hp:=bif_f hb hp
   obtain ⟨w3,s3⟩:=w0.pick' [2] 4 rfl rfl rfl
   dsimp only [pk,pks,nth,List.drop] at w3 s3
   obtain rfl:=Option.some.inj hp
   exact ⟨_,_,rfl,_,_,_,_,rfl,rfl,w3,(s0.trans s3),(qz.step s3)⟩
def ak.p (F:Nat) (ac:List (Int×Int×Int×Int×Int)) (cv:List (Int×Int)):Option (List (List Int)):=(mkn (cv.length:Int) false).bind fun l3=>ak.pl61 F F ac cv ([]:List (List Int)) l3 (l3.length:Int) 0
theorem ak.P {F:Nat} {au gZ:ON} {ah fv:Nat} {av g_:Cap} {ac:List (Int×Int×Int×Int×Int)} {ab:Int} {af:Sl} {cv:List (Int×Int)} {H:Hp} {R0:List Rs} (bb:ah = ac.length) (kp:fv = cv.length) (h0:Inn H R0 fun R=>ROs (ePair (eInt .i64) (ePair (eInt .i64) (ePair (eInt .i64) (ePair (eInt .i64) (eInt .i64))))) H R ⟨au,ah,av⟩ ac∧ROs (ePair (eInt .i64) (eInt .i64)) H R ⟨gZ,fv,g_⟩ cv) {r:List (List Int)} (hp:ak.p F ac cv = some r):∃ v H',ak.tw F ⟨au,ah,av⟩ ab af ⟨gZ,fv,g_⟩ H = some (v,H')∧ak.Q H R0 R0  r v H':=by
 obtain ⟨w0,aL,kq⟩:=h0
 subst bb
 subst kp
 unfold ak.p at hp
 unfold ak.tw ak.twX
 have s0:=w0.rf
 refine new_k w0 fun H1 w1 s1=>?_
 refine new_k w1 fun H2 w2 s2=>?_
 refine bind_ex (ldSl_of (w2.ld (i:=0) rfl rfl)) ?_
 obtain ⟨l3,e3,hp⟩:=bind_some' hp
 refine mk_k eBool false w2 rfl rfl rfl e3 fun H4 k4 w4 s4 c4=>?_
 obtain ⟨w5,s5⟩:=w4.nilS (eSl (eInt .i64)).z (by decide)
 obtain ⟨w6,s6⟩:=w5.pick' [3,2,0,1] 4 rfl rfl rfl
 dsimp only [pk,pks,nth,List.drop] at w6 s6
 exact ak.l61_P F rfl rfl rfl rfl ⟨w6,(s0.trans (s1.trans (s2.trans (s4.trans (s5.trans s6))))),(aL.step (s1.trans (s2.trans (s4.trans (s5.trans s6))))),(kq.step (s1.trans (s2.trans (s4.trans (s5.trans s6))))),((CR.empty:CR (eSl (eInt .i64)) _ _ [] []).step s6),(c4.step (s5.trans s6))⟩ hp
def ar.Q (H0:Hp) (Ri R0:List Rs)  (r:List Int) (v:AV) (H':Hp):Prop:=∃ o0a:ON,∃ o0n:Nat,∃ o0c:Cap,∃ o0k:List AV,v = (.sl ⟨o0a,o0n,o0c⟩)∧o0n = (r).length∧Out H0 Ri H' (Rs.own ⟨o0a,o0n,o0c⟩ (eInt .i64).z o0k :: R0) fun R=>CR (eInt .i64) H' R o0k (r)
def ar.S29 (H0:Hp) (Ri R0:List Rs)  (C:Sl→Sl→Int→Int→Hp→OA) (pC:List Int→List (List Int)→Int→Int→Option (List Int)):Prop:=∀ {vK vL:ON} {qU qV:Nat} {vM vN:Cap} {lD:List Int} {vO:List AV} {jJ:List (List Int)} {fh et:Int},∀ {H:Hp},qU = lD.length→qV = jJ.length→(Out H0 Ri H (Rs.own ⟨vK,qU,vM⟩ (eInt .i64).z vO :: R0) fun R=>CR (eInt .i64) H R vO lD∧ROs (eSl (eInt .i64)) H R ⟨vL,qV,vN⟩ jJ)→∀ {r:List Int},pC lD jJ fh et = some r→∃ v H',C ⟨vK,qU,vM⟩ ⟨vL,qV,vN⟩ fh et H = some (v,H')∧ar.Q H0 Ri R0  r v H'
def ar.S1883 (H0:Hp) (Ri R0:List Rs)  (C:Sl→Sl→Int→Int→Int→Sl→Int→Int→Hp→OA) (pC:List Int→List (List Int)→Int→Int→Int→List Int→Int→Int→Option (List Int)):Prop:=∀ {vP vQ vR:ON} {qW qX qY:Nat} {vS vT vU:Cap} {kI kJ:List Int} {vV:List AV} {lE:List (List Int)} {es eH dG fg eS:Int},∀ {H:Hp},qW = kI.length→qX = lE.length→qY = kJ.length→(Out H0 Ri H (Rs.own ⟨vP,qW,vS⟩ (eInt .i64).z vV :: R0) fun R=>CR (eInt .i64) H R vV kI∧ROs (eSl (eInt .i64)) H R ⟨vQ,qX,vT⟩ lE∧ROs (eInt .i64) H R ⟨vR,qY,vU⟩ kJ)→∀ {r:List Int},pC kI lE es eH dG kJ fg eS = some r→∃ v H',C ⟨vP,qW,vS⟩ ⟨vQ,qX,vT⟩ es eH dG ⟨vR,qY,vU⟩ fg eS H = some (v,H')∧ar.Q H0 Ri R0  r v H'
def ar.pj3 (F:Nat) (gH:List Int→List (List Int)→Int→Int→Option (List Int)) (qZ:List Int) (q_:List (List Int)) (ng:Int) (nh:Int):Option (List Int):=gH qZ q_ ng (IntKind.i64.wrap (nh + 1))
theorem ar.j3_P {F:Nat} {H0:Hp} {Ri R0:List Rs}  {C29_:Sl→Sl→Int→Int→Hp→OA} {gH:List Int→List (List Int)→Int→Int→Option (List Int)} (hC29:ar.S29 H0 Ri R0  C29_ gH) {E_ Fa:ON} {zg zh:Nat} {Fb Fc:Cap} {qZ:List Int} {Fd:List AV} {q_:List (List Int)} {ng nh:Int} {H:Hp} (Kd:zg = qZ.length) (Ke:zh = q_.length) (h0:Out H0 Ri H (Rs.own ⟨E_,zg,Fb⟩ (eInt .i64).z Fd :: R0) fun R=>CR (eInt .i64) H R Fd qZ∧ROs (eSl (eInt .i64)) H R ⟨Fa,zh,Fc⟩ q_) {r:List Int} (hp:ar.pj3 F gH qZ q_ ng nh = some r):∃ v H',ar.j3 F  C29_ ⟨E_,zg,Fb⟩ ⟨Fa,zh,Fc⟩ ng nh H = some (v,H')∧ar.Q H0 Ri R0  r v H':=by
 obtain ⟨w0,s0,Kf,Kg⟩:=h0
 subst Kd
 subst Ke
 unfold ar.pj3 at hp
 unfold ar.j3
 exact hC29 rfl rfl ⟨w0,s0,Kf,Kg⟩ hp
def ar.pj4 (F:Nat) (gH:List Int→List (List Int)→Int→Int→Option (List Int)) (ra:List Int) (rb:List (List Int)) (ni:Int) (nj:Int):Option (List Int):=ar.pj3 F gH ra rb ni nj
theorem ar.j4_P {F:Nat} {H0:Hp} {Ri R0:List Rs}  {C29_:Sl→Sl→Int→Int→Hp→OA} {gH:List Int→List (List Int)→Int→Int→Option (List Int)} (hC29:ar.S29 H0 Ri R0  C29_ gH) {Fe Ff:ON} {zi zj:Nat} {Fg Fh:Cap} {ra:List Int} {Fi:List AV} {rb:List (List Int)} {ni nj:Int} {H:Hp} (Kh:zi = ra.length) (Ki:zj = rb.length) (h0:Out H0 Ri H (Rs.own ⟨Fe,zi,Fg⟩ (eInt .i64).z Fi :: R0) fun R=>CR (eInt .i64) H R Fi ra∧ROs (eSl (eInt .i64)) H R ⟨Ff,zj,Fh⟩ rb) {r:List Int} (hp:ar.pj4 F gH ra rb ni nj = some r):∃ v H',ar.j4 F  C29_ ⟨Fe,zi,Fg⟩ ⟨Ff,zj,Fh⟩ ni nj H = some (v,H')∧ar.Q H0 Ri R0  r v H':=by
 obtain ⟨w0,s0,Kj,Kk⟩:=h0
 subst Kh
 subst Ki
 unfold ar.pj4 at hp
 unfold ar.j4
 exact ar.j3_P (@hC29) rfl rfl ⟨w0,s0,Kj,Kk⟩ hp
def ar.pl1883 (F:Nat) (gH:List Int→List (List Int)→Int→Int→Option (List Int)):Nat→List Int→List (List Int)→Int→Int→Int→List Int→Int→Int→Option (List Int)
 | 0,_,_,_,_,_,_,_,_=>none
 | k + 1,kI,lE,es,eH,dG,kJ,fg,eS=>(bif (decide (eS < fg)) then ((ix kJ eS).bind fun n1=>(ix kI (gt kJ n1)).bind fun n2=>(some (kI.set n2 dG)).bind fun l3=>ar.pl1883 F gH k l3 lE es eH dG kJ fg (IntKind.i64.wrap (eS + 1))) else (ar.pj4 F gH kI lE es eH))
termination_by structural n=>n
theorem ar.l1883_P {F:Nat} {H0:Hp} {Ri R0:List Rs}  {C29_:Sl→Sl→Int→Int→Hp→OA} {gH:List Int→List (List Int)→Int→Int→Option (List Int)} (hC29:ar.S29 H0 Ri R0  C29_ gH):∀ k,ar.S1883 H0 Ri R0  (ar.l1883 F  C29_ k) (ar.pl1883 F gH k):=by
 intro k
 induction k with
 | zero=>
  intro vP vQ vR qW qX qY vS vT vU kI kJ vV lE es eH dG fg eS H Fj Fk Fl h0 r hp
  exact nomatch (show (none:Option (List Int)) = some r from hp)
 | succ k ih=>
  intro vP vQ vR qW qX qY vS vT vU kI kJ vV lE es eH dG fg eS H Fj Fk Fl h0 r hp
  obtain ⟨w0,s0,zk,Fm,Fn⟩:=h0
  subst Fj
  subst Fk
  subst Fl
  unfold ar.pl1883 at hp
  unfold ar.l1883
  refine bif_ex (fun hb=>?_) (fun hb=>?_)
  ·replace hp:=bif_t hb hp
   obtain ⟨n1,g1,hp⟩:=bind_some' hp
   obtain ⟨p1,q1,i1,h1,j1⟩:=ROs.ixr Fn rfl g1
   refine bind_ex i1 ?_
   have h1:_ = [_]:=h1
   subst h1
   refine bind_ex (ldI_of (j1 0 _ rfl)) ?_
   obtain ⟨n2,g2,hp⟩:=bind_some' hp
   obtain ⟨p2,q2,i2,h2,j2⟩:=W.ixo (E:=(eInt .i64)) w0 (i:=0) rfl rfl zk g2
   refine bind_ex i2 ?_
   obtain ⟨l3,e3,hp⟩:=bind_some' hp
   refine sto_k (eInt .i64) w0 (i:=0) (j:=0) (p:=p2) rfl rfl zk g2 i2 e3 rfl rfl (fun _ h=>by have h:_ = [_]:=h; subst h; exact rfl) fun H4 k4 w4 s4 c4=>?_
   dsimp only [List.set] at w4 s4 c4
   exact ih ((st_len e3).symm) rfl rfl ⟨w4,(s0.trans s4),c4,(Fm.step s4),(Fn.step s4)⟩ hp
  ·replace hp:=bif_f hb hp
   exact ar.j4_P (@hC29) rfl rfl ⟨w0,s0,zk,Fm⟩ hp
def ar.pl29 (F:Nat) :Nat→List Int→List (List Int)→Int→Int→Option (List Int)
 | 0,_,_,_,_=>none
 | k + 1,lD,jJ,fh,et=>(bif (decide (et < fh)) then ((ix jJ et).bind fun n1=>ar.pl1883 F (ar.pl29 F k) F lD jJ fh et et (gt jJ n1) (((gt jJ n1).length):Int) 0) else (some lD))
termination_by structural n=>n
theorem ar.l29_P {F:Nat} {H0:Hp} {Ri R0:List Rs}  :∀ k,ar.S29 H0 Ri R0  (ar.l29 F   k) (ar.pl29 F  k):=by
 intro k
 induction k with
 | zero=>
  intro vK vL qU qV vM vN lD vO jJ fh et H Fo Fp h0 r hp
  exact nomatch (show (none:Option (List Int)) = some r from hp)
 | succ k ih=>
  intro vK vL qU qV vM vN lD vO jJ fh et H Fo Fp h0 r hp
  obtain ⟨w0,s0,Fq,Fr⟩:=h0
  subst Fo
  subst Fp
  unfold ar.pl29 at hp
  unfold ar.l29
  refine bif_ex (fun hb=>?_) (fun hb=>?_)
  ·replace hp:=bif_t hb hp
   obtain ⟨n1,g1,hp⟩:=bind_some' hp
   obtain ⟨p1,q1,i1,h1,j1⟩:=ROs.ixr Fr rfl g1
   refine bind_ex i1 ?_
   obtain ⟨⟨IF,m1_0,c1_0⟩,rfl,f1_0⟩:=h1
   obtain rfl:m1_0 = _:=f1_0.n
   refine bind_ex (ldSl_of (j1 0 _ rfl)) ?_
   exact ar.l1883_P (@ih) F rfl rfl rfl ⟨w0,s0,Fq,Fr,f1_0⟩ hp
  ·replace hp:=bif_f hb hp
   obtain rfl:=Option.some.inj hp
   exact ⟨_,_,rfl,_,_,_,_,rfl,rfl,w0,s0,Fq⟩
def ar.p (F:Nat) (ac:List (List Int)) (ae:Int):Option (List Int):=(mkn ae (0:Int)).bind fun l1=>ar.pl29 F F l1 ac (ac.length:Int) 0
theorem ar.P {F:Nat} {au:ON} {ah:Nat} {av:Cap} {ac:List (List Int)} {ae:Int} {H:Hp} {R0:List Rs} (bb:ah = ac.length) (h0:Inn H R0 fun R=>ROs (eSl (eInt .i64)) H R ⟨au,ah,av⟩ ac) {r:List Int} (hp:ar.p F ac ae = some r):∃ v H',ar.tw F ⟨au,ah,av⟩ ae H = some (v,H')∧ar.Q H R0 R0  r v H':=by
 obtain ⟨w0,aL⟩:=h0
 subst bb
 unfold ar.p at hp
 unfold ar.tw ar.twX
 have s0:=w0.rf
 obtain ⟨l1,e1,hp⟩:=bind_some' hp
 refine mk_k (eInt .i64) (0:Int) w0 rfl rfl rfl e1 fun H2 k2 w2 s2 c2=>?_
 exact ar.l29_P F rfl rfl ⟨w2,(s0.trans s2),c2,(aL.step s2)⟩ hp
def aF.Q (H0:Hp) (Ri R0:List Rs)  (r:List Int×Int) (v:AV) (H':Hp):Prop:=∃ o0a:ON,∃ o0n:Nat,∃ o0c:Cap,∃ o0k:List AV,v = (.tup [(.sl ⟨o0a,o0n,o0c⟩),(.int .i64 r.2)])∧o0n = (r.1).length∧Out H0 Ri H' (Rs.own ⟨o0a,o0n,o0c⟩ (eInt .i64).z o0k :: R0) fun R=>CR (eInt .i64) H' R o0k (r.1)
def aF.S29 (H0:Hp) (Ri R0:List Rs)  (C:Nat→Nat→Sl→Sl→Int→Int→Hp→OA) (pC:List (Int×Int×Int×Int×Int)→Int→List Int→Int→Int→Option (List Int×Int)):Prop:=∀ {rc vW:ON} {nA fi rd:Nat} {rh vX:Cap} {jK:List (Int×Int×Int×Int×Int)} {mf fj eT:Int} {lF:List Int} {vY:List AV},∀ {H:Hp},nA = jK.length→rd = lF.length→(Out H0 Ri H (Rs.blk fi [.sl ⟨rc,nA,rh⟩,.int .i64 mf] :: Rs.own ⟨vW,rd,vX⟩ (eInt .i64).z vY :: R0) fun R=>ROs (ePair (eInt .i64) (ePair (eInt .i64) (ePair (eInt .i64) (ePair (eInt .i64) (eInt .i64))))) H R ⟨rc,nA,rh⟩ jK∧CR (eInt .i64) H R vY lF)→∀ {r:List Int×Int},pC jK mf lF fj eT = some r→∃ v H',C fi 0 ⟨vW,rd,vX⟩ ⟨rc,nA,rh⟩ fj eT H = some (v,H')∧aF.Q H0 Ri R0  r v H'
def aF.pj1 (F:Nat)  (vZ:Int) (ri:List Int):Option (List Int×Int):=(ci.p F ri).bind fun r3=>(bk.p F r3).bind fun r8=>some (r3,(IntKind.i64.wrap (r8 + vZ)))
theorem aF.j1_P {F:Nat} {H0:Hp} {Ri R0:List Rs}   {Fs Ft:ON} {zl rU zm:Nat} {Fu Fv:Cap} {Fw:List (Int×Int×Int×Int×Int)} {vZ:Int} {ri:List Int} {Fx:List AV} {H:Hp} (Kl:zl = Fw.length) (Km:zm = ri.length) (h0:Out H0 Ri H (Rs.blk rU [.sl ⟨Fs,zl,Fu⟩,.int .i64 vZ] :: Rs.own ⟨Ft,zm,Fv⟩ (eInt .i64).z Fx :: R0) fun R=>ROs (ePair (eInt .i64) (ePair (eInt .i64) (ePair (eInt .i64) (ePair (eInt .i64) (eInt .i64))))) H R ⟨Fs,zl,Fu⟩ Fw∧CR (eInt .i64) H R Fx ri) {r:List Int×Int} (hp:aF.pj1 F  vZ ri = some r):∃ v H',aF.j1 F (aY.tw F) (aH.tw F) (aB.tw F) (ci.tw F) (bk.tw F)  rU 0 ⟨Ft,zm,Fv⟩ H = some (v,H')∧aF.Q H0 Ri R0  r v H':=by
 obtain ⟨w0,s0,KC,Kn⟩:=h0
 subst Kl
 subst Km
 unfold aF.pj1 at hp
 unfold aF.j1
 obtain ⟨w1,s1⟩:=w0.pick' [1,0] 2 rfl rfl rfl
 dsimp only [pk,pks,nth,List.drop] at w1 s1
 have f2:=W.borrow1 (eInt .i64) w1 (Kn.step s1)
 obtain ⟨w2,s2⟩:=w1.right1
 obtain ⟨r3,e3,hp⟩:=bind_some' hp
 refine call_ex (ci.P rfl ⟨w2,f2⟩ e3) ?_
 rintro _ H4 ⟨o0a_4,o0n_4,o0c_4,o0k_4,rfl,rfl,w4,s4,f4_0⟩
 obtain ⟨w5,s5⟩:=W.frame1 w1 w4 s4
 refine bind_ex rfl ?_
 obtain ⟨w6,s6⟩:=w5.pick' [1,0,2] 3 rfl rfl rfl
 dsimp only [pk,pks,nth,List.drop] at w6 s6
 have f7:=W.borrow1 (eInt .i64) w6 ((CR.flat (eInt_flat .i64) f4_0).step s6)
 obtain ⟨w7,s7⟩:=w6.right1
 obtain ⟨r8,e8,hp⟩:=bind_some' hp
 refine call_ex (bk.P rfl ⟨w7,f7⟩ e8) ?_
 rintro _ H9 ⟨rfl,w9,s9,_⟩
 obtain ⟨w10,s10⟩:=W.frame1 w6 w9 s9
 refine bind_ex rfl ?_
 refine ifs_ex (Cons.tr (Cons.refl _) s6 (W.cons_of (Rn:=[]) w7 w9 s9)) ?_
 refine bind_ex (ldI_of (w10.ld (i:=2) rfl rfl)) ?_
 obtain ⟨w12,s12⟩:=w10.pick' [0] 3 rfl rfl rfl
 dsimp only [pk,pks,nth,List.drop] at w12 s12
 obtain rfl:=Option.some.inj hp
 exact ⟨_,_,rfl,_,_,_,_,rfl,rfl,w12,(s0.trans (s1.trans (s5.trans (s6.trans (s10.trans s12))))),((CR.flat (eInt_flat .i64) f4_0).step (s6.trans (s10.trans s12)))⟩
def aF.pl29 (F:Nat) :Nat→List (Int×Int×Int×Int×Int)→Int→List Int→Int→Int→Option (List Int×Int)
 | 0,_,_,_,_,_=>none
 | k + 1,jK,mf,lF,fj,eT=>(bif (decide (eT < fj)) then ((ix jK eT).bind fun n1=>(aB.p F lF ((gt jK n1).2.1) ((gt jK n1).2.2.2.1)).bind fun r9=>aF.pl29 F k jK mf r9 fj (IntKind.i64.wrap (eT + 1))) else (aF.pj1 F mf lF))
termination_by structural n=>n
theorem aF.l29_P {F:Nat} {H0:Hp} {Ri R0:List Rs}  :∀ k,aF.S29 H0 Ri R0  (aF.l29 F (aY.tw F) (aH.tw F) (aB.tw F) (ci.tw F) (bk.tw F)  k) (aF.pl29 F  k):=by
 intro k
 induction k with
 | zero=>
  intro rc vW nA fi rd rh vX jK mf fj eT lF vY H Fy Fz h0 r hp
  exact nomatch (show (none:Option (List Int×Int)) = some r from hp)
 | succ k ih=>
  intro rc vW nA fi rd rh vX jK mf fj eT lF vY H Fy Fz h0 r hp
  obtain ⟨w0,s0,zn,FA⟩:=h0
  subst Fy
  subst Fz
  unfold aF.pl29 at hp
  unfold aF.l29
  refine bif_ex (fun hb=>?_) (fun hb=>?_)
  ·replace hp:=bif_t hb hp
   obtain ⟨n1,g1,hp⟩:=bind_some' hp
   obtain ⟨p1,q1,i1,h1,j1⟩:=ROs.ixr zn rfl g1
   refine bind_ex i1 ?_
   obtain ⟨_,_,rfl,rfl,_,_,rfl,rfl,_,_,rfl,rfl,_,_,rfl,rfl,rfl⟩:=h1
   refine bind_ex (ldI_of (j1 0 _ rfl)) ?_
   refine bind_ex (ldI_of (j1 1 _ rfl)) ?_
   refine bind_ex (ldI_of (j1 2 _ rfl)) ?_
   refine bind_ex (ldI_of (j1 3 _ rfl)) ?_
   refine bind_ex (ldI_of (j1 4 _ rfl)) ?_
   refine new_k w0 fun H2 w2 s2=>?_
   refine st_k w2 (i:=0) rfl rfl rfl fun H3 w3 s3=>?_
   dsimp only [List.set] at w3 s3
   refine st_k w3 (i:=0) rfl rfl rfl fun H4 w4 s4=>?_
   dsimp only [List.set] at w4 s4
   refine st_k w4 (i:=0) rfl rfl rfl fun H5 w5 s5=>?_
   dsimp only [List.set] at w5 s5
   refine st_k w5 (i:=0) rfl rfl rfl fun H6 w6 s6=>?_
   dsimp only [List.set] at w6 s6
   refine st_k w6 (i:=0) rfl rfl rfl fun H7 w7 s7=>?_
   dsimp only [List.set] at w7 s7
   refine bind_ex (ldI_of (w7.ld (i:=0) rfl rfl)) ?_
   refine bind_ex (ldI_of (w7.ld (i:=0) rfl rfl)) ?_
   obtain ⟨w8,s8⟩:=w7.pick' [2,0,1] 3 rfl rfl rfl
   dsimp only [pk,pks,nth,List.drop] at w8 s8
   obtain ⟨r9,e9,hp⟩:=bind_some' hp
   refine call_ex (aB.P rfl ⟨w8,(FA.step (s2.trans (s3.trans (s4.trans (s5.trans (s6.trans (s7.trans s8)))))))⟩ e9) ?_
   rintro _ H10 ⟨KD,rfl,hl10_0,w10,s10,f10_0⟩
   obtain ⟨w11,s11⟩:=w10.pick' [2,0] 3 rfl rfl rfl
   dsimp only [pk,pks,nth,List.drop] at w11 s11
   exact ih rfl hl10_0 ⟨w11,(s0.trans (s2.trans (s3.trans (s4.trans (s5.trans (s6.trans (s7.trans (s8.trans (s10.trans s11))))))))),(zn.step (s2.trans (s3.trans (s4.trans (s5.trans (s6.trans (s7.trans (s8.trans (s10.trans s11))))))))),(f10_0.step s11)⟩ hp
  ·replace hp:=bif_f hb hp
   exact aF.j1_P rfl rfl ⟨w0,s0,zn,FA⟩ hp
def aF.p (F:Nat) (ac:List (Int×Int×Int×Int×Int)) (ab:Int):Option (List Int×Int):=(aY.p F ac).bind fun r2=>(aH.p F (IntKind.i64.wrap (2 * r2))).bind fun r4=>aF.pl29 F F ac ab r4 (ac.length:Int) 0
theorem aF.P {F:Nat} {au:ON} {ah:Nat} {av:Cap} {ac:List (Int×Int×Int×Int×Int)} {ab:Int} {H:Hp} {R0:List Rs} (bb:ah = ac.length) (h0:Inn H R0 fun R=>ROs (ePair (eInt .i64) (ePair (eInt .i64) (ePair (eInt .i64) (ePair (eInt .i64) (eInt .i64))))) H R ⟨au,ah,av⟩ ac) {r:List Int×Int} (hp:aF.p F ac ab = some r):∃ v H',aF.tw F ⟨au,ah,av⟩ ab H = some (v,H')∧aF.Q H R0 R0  r v H':=by
 obtain ⟨w0,aL⟩:=h0
 subst bb
 unfold aF.p at hp
 unfold aF.tw aF.twX
 have s0:=w0.rf
 refine new_k w0 fun H1 w1 s1=>?_
 refine bind_ex (ldSl_of (w1.ld (i:=0) rfl rfl)) ?_
 obtain ⟨r2,e2,hp⟩:=bind_some' hp
 refine call_ex (aY.P rfl ⟨w1,(aL.step s1)⟩ e2) ?_
 rintro _ H3 ⟨rfl,w3,s3,_⟩
 refine bind_ex rfl ?_
 obtain ⟨r4,e4,hp⟩:=bind_some' hp
 refine call_ex (aH.P ⟨w3,trivial⟩ e4) ?_
 rintro _ H5 ⟨o0a_5,o0n_5,o0c_5,o0k_5,rfl,rfl,w5,s5,f5_0⟩
 refine bind_ex rfl ?_
 refine bind_ex (ldSl_of (w5.ld (i:=1) rfl rfl)) ?_
 obtain ⟨w6,s6⟩:=w5.pick' [1,0] 2 rfl rfl rfl
 dsimp only [pk,pks,nth,List.drop] at w6 s6
 exact aF.l29_P F rfl rfl ⟨w6,(s0.trans (s1.trans (s3.trans (s5.trans s6)))),(aL.step (s1.trans (s3.trans (s5.trans s6)))),(f5_0.step s6)⟩ hp
def az.Q (H0:Hp) (Ri R0:List Rs)  (r:List Int×Int) (v:AV) (H':Hp):Prop:=∃ o0a:ON,∃ o0n:Nat,∃ o0c:Cap,∃ o0k:List AV,v = (.tup [(.sl ⟨o0a,o0n,o0c⟩),(.int .i64 r.2)])∧o0n = (r.1).length∧Out H0 Ri H' (Rs.own ⟨o0a,o0n,o0c⟩ (eInt .i64).z o0k :: R0) fun R=>CR (eInt .i64) H' R o0k (r.1)
def az.S1021 (H0:Hp) (Ri R0:List Rs)  (C:Int→Nat→Nat→Sl→Sl→Int→Sl→Sl→Int→Int→Hp→OA) (pC:Int→Int→List (List Int)→List Int→Int→List Int→List Int→Int→Int→Option (List Int×Int)):Prop:=∀ {cN mg ew fl ey:Int} {v_ wa wb wc wd:ON} {rj ev rl rm rn ro:Nat} {wg wh wi wj wk:Cap} {wl:List (Int×Int×Int×Int×Int)} {lG:List (List Int)} {wm wo wp wq:List AV} {kK kL kM:List Int},∀ {H:Hp},rj = wl.length→rl = lG.length→rm = kK.length→rn = kL.length→ro = kM.length→(Out H0 Ri H (Rs.blk ev [.sl ⟨v_,rj,wg⟩,.int .i64 mg] :: Rs.own ⟨wa,rl,wh⟩ (eSl (eInt .i64)).z wm :: Rs.own ⟨wb,rm,wi⟩ (eInt .i64).z wo :: Rs.own ⟨wc,rn,wj⟩ (eInt .i64).z wp :: Rs.own ⟨wd,ro,wk⟩ (eInt .i64).z wq :: R0) fun R=>ROs (ePair (eInt .i64) (ePair (eInt .i64) (ePair (eInt .i64) (ePair (eInt .i64) (eInt .i64))))) H R ⟨v_,rj,wg⟩ wl∧CR (eSl (eInt .i64)) H R wm lG∧CR (eInt .i64) H R wo kK∧CR (eInt .i64) H R wp kL∧CR (eInt .i64) H R wq kM)→∀ {r:List Int×Int},pC cN mg lG kK ew kL kM fl ey = some r→∃ v H',C cN ev 0 ⟨wa,rl,wh⟩ ⟨wb,rm,wi⟩ ew ⟨wc,rn,wj⟩ ⟨wd,ro,wk⟩ fl ey H = some (v,H')∧az.Q H0 Ri R0  r v H'
def az.S2045 (H0:Hp) (Ri R0:List Rs)  (C:Int→Nat→Nat→Sl→Int→Sl→Int→Int→Hp→OA) (pC:Int→Int→List (List Int)→Int→List Int→Int→Int→Option (List Int×Int)):Prop:=∀ {dp mh eI fk eu:Int} {wt wu wv:ON} {rp eU rq rr:Nat} {ww wx wy:Cap} {wz:List (Int×Int×Int×Int×Int)} {lH:List (List Int)} {wA wB:List AV} {kN:List Int},∀ {H:Hp},rp = wz.length→rq = lH.length→rr = kN.length→(Out H0 Ri H (Rs.blk eU [.sl ⟨wt,rp,ww⟩,.int .i64 mh] :: Rs.own ⟨wu,rq,wx⟩ (eSl (eInt .i64)).z wA :: Rs.own ⟨wv,rr,wy⟩ (eInt .i64).z wB :: R0) fun R=>ROs (ePair (eInt .i64) (ePair (eInt .i64) (ePair (eInt .i64) (ePair (eInt .i64) (eInt .i64))))) H R ⟨wt,rp,ww⟩ wz∧CR (eSl (eInt .i64)) H R wA lH∧CR (eInt .i64) H R wB kN)→∀ {r:List Int×Int},pC dp mh lH eI kN fk eu = some r→∃ v H',C dp eU 0 ⟨wu,rq,wx⟩ eI ⟨wv,rr,wy⟩ fk eu H = some (v,H')∧az.Q H0 Ri R0  r v H'
def az.pl2045 (F:Nat) :Nat→Int→Int→List (List Int)→Int→List Int→Int→Int→Option (List Int×Int)
 | 0,_,_,_,_,_,_,_=>none
 | k + 1,dp,mh,lH,eI,kN,fk,eu=>(bif (decide (eu < fk)) then ((bj.p F lH).bind fun r3=>(if dp = 0 then none else ((ix kN (IntKind.i64.wrap ((IntKind.i64.wrap (eI - mh)) + eu))).bind fun n8=>(some (kN.set n8 (Int.tmod (IntKind.i64.wrap (r3 + eu)) dp))).bind fun l9=>az.pl2045 F k dp mh lH eI l9 fk (IntKind.i64.wrap (eu + 1))))) else (some (kN,0)))
termination_by structural n=>n
theorem az.l2045_P {F:Nat} {H0:Hp} {Ri R0:List Rs}  :∀ k,az.S2045 H0 Ri R0  (az.l2045 F (bm.tw F) (bc.tw F) (ak.tw F) (ar.tw F) (aF.tw F) (bj.tw F)  k) (az.pl2045 F  k):=by
 intro k
 induction k with
 | zero=>
  intro dp mh eI fk eu wt wu wv rp eU rq rr ww wx wy wz lH wA wB kN H FB FC FD h0 r hp
  exact nomatch (show (none:Option (List Int×Int)) = some r from hp)
 | succ k ih=>
  intro dp mh eI fk eu wt wu wv rp eU rq rr ww wx wy wz lH wA wB kN H FB FC FD h0 r hp
  obtain ⟨w0,s0,Ko,FE,zo⟩:=h0
  subst FB
  subst FC
  subst FD
  unfold az.pl2045 at hp
  unfold az.l2045
  refine bif_ex (fun hb=>?_) (fun hb=>?_)
  ·replace hp:=bif_t hb hp
   refine bind_ex (ldI_of (w0.ld (i:=0) rfl rfl)) ?_
   obtain ⟨w1,s1⟩:=w0.pick' [1,0,2] 3 rfl rfl rfl
   dsimp only [pk,pks,nth,List.drop] at w1 s1
   have f2:=W.borrow1 (eSl (eInt .i64)) w1 (FE.step s1)
   obtain ⟨w2,s2⟩:=w1.right1
   obtain ⟨r3,e3,hp⟩:=bind_some' hp
   refine call_ex (bj.P rfl ⟨w2,f2⟩ e3) ?_
   rintro _ H4 ⟨rfl,w4,s4,_⟩
   obtain ⟨w5,s5⟩:=W.frame1 w1 w4 s4
   refine bind_ex rfl ?_
   refine ifs_ex (Cons.tr (Cons.refl _) s1 (W.cons_of (Rn:=[]) w2 w4 s4)) ?_
   obtain ⟨g7,hp⟩:=ifn_p hp
   refine ifn_ex g7 ?_
   obtain ⟨n8,g8,hp⟩:=bind_some' hp
   obtain ⟨p8,q8,i8,h8,j8⟩:=W.ixo (E:=(eInt .i64)) w5 (i:=2) rfl rfl (zo.step (s1.trans s5)) g8
   refine bind_ex i8 ?_
   obtain ⟨l9,e9,hp⟩:=bind_some' hp
   refine sto_k (eInt .i64) w5 (i:=2) (j:=0) (p:=p8) rfl rfl (zo.step (s1.trans s5)) g8 i8 e9 rfl rfl (fun _ h=>by have h:_ = [_]:=h; subst h; exact rfl) fun H10 k10 w10 s10 c10=>?_
   dsimp only [List.set] at w10 s10 c10
   obtain ⟨w11,s11⟩:=w10.pick' [1,0,2] 3 rfl rfl rfl
   dsimp only [pk,pks,nth,List.drop] at w11 s11
   exact ih rfl rfl ((st_len e9).symm) ⟨w11,(s0.trans (s1.trans (s5.trans (s10.trans s11)))),(Ko.step (s1.trans (s5.trans (s10.trans s11)))),(FE.step (s1.trans (s5.trans (s10.trans s11)))),(c10.step s11)⟩ hp
  ·replace hp:=bif_f hb hp
   obtain ⟨w12,s12⟩:=w0.pick' [2] 3 rfl rfl rfl
   dsimp only [pk,pks,nth,List.drop] at w12 s12
   obtain rfl:=Option.some.inj hp
   exact ⟨_,_,rfl,_,_,_,_,rfl,rfl,w12,(s0.trans s12),(zo.step s12)⟩
def az.pj1 (F:Nat)  (nk:Int) (rs:Int) (rt:List (List Int)) (nl:Int) (ru:List Int):Option (List Int×Int):=az.pl2045 F F nk rs rt nl ru rs 0
theorem az.j1_P {F:Nat} {H0:Hp} {Ri R0:List Rs}   {nk rs nl:Int} {FF FG FH:ON} {zp nG zq zr:Nat} {FI FJ FK:Cap} {FL:List (Int×Int×Int×Int×Int)} {rt:List (List Int)} {FM FN:List AV} {ru:List Int} {H:Hp} (Kp:zp = FL.length) (Kq:zq = rt.length) (Kr:zr = ru.length) (h0:Out H0 Ri H (Rs.blk nG [.sl ⟨FF,zp,FI⟩,.int .i64 rs] :: Rs.own ⟨FG,zq,FJ⟩ (eSl (eInt .i64)).z FM :: Rs.own ⟨FH,zr,FK⟩ (eInt .i64).z FN :: R0) fun R=>ROs (ePair (eInt .i64) (ePair (eInt .i64) (ePair (eInt .i64) (ePair (eInt .i64) (eInt .i64))))) H R ⟨FF,zp,FI⟩ FL∧CR (eSl (eInt .i64)) H R FM rt∧CR (eInt .i64) H R FN ru) {r:List Int×Int} (hp:az.pj1 F  nk rs rt nl ru = some r):∃ v H',az.j1 F (bm.tw F) (bc.tw F) (ak.tw F) (ar.tw F) (aF.tw F) (bj.tw F)  nk nG 0 ⟨FG,zq,FJ⟩ nl ⟨FH,zr,FK⟩ H = some (v,H')∧az.Q H0 Ri R0  r v H':=by
 obtain ⟨w0,s0,Ks,Kt,Ku⟩:=h0
 subst Kp
 subst Kq
 subst Kr
 unfold az.pj1 at hp
 unfold az.j1
 refine bind_ex (ldI_of (w0.ld (i:=0) rfl rfl)) ?_
 exact az.l2045_P F rfl rfl rfl ⟨w0,s0,Ks,Kt,Ku⟩ hp
def az.pl1021 (F:Nat) :Nat→Int→Int→List (List Int)→List Int→Int→List Int→List Int→Int→Int→Option (List Int×Int)
 | 0,_,_,_,_,_,_,_,_,_=>none
 | k + 1,cN,mg,lG,kK,ew,kL,kM,fl,ey=>(bif (decide (ey < fl)) then ((ix kM ey).bind fun n1=>(ix kK ey).bind fun n2=>(if cN = 0 then none else ((ix kL (gt kM n1)).bind fun n4=>(some (kL.set n4 (Int.tmod (gt kK n2) cN))).bind fun l5=>az.pl1021 F k cN mg lG kK ew l5 kM fl (IntKind.i64.wrap (ey + 1))))) else (az.pj1 F cN mg lG ew kL))
termination_by structural n=>n
theorem az.l1021_P {F:Nat} {H0:Hp} {Ri R0:List Rs}  :∀ k,az.S1021 H0 Ri R0  (az.l1021 F (bm.tw F) (bc.tw F) (ak.tw F) (ar.tw F) (aF.tw F) (bj.tw F)  k) (az.pl1021 F  k):=by
 intro k
 induction k with
 | zero=>
  intro cN mg ew fl ey v_ wa wb wc wd rj ev rl rm rn ro wg wh wi wj wk wl lG wm wo wp wq kK kL kM H FO FP FQ FR FS h0 r hp
  exact nomatch (show (none:Option (List Int×Int)) = some r from hp)
 | succ k ih=>
  intro cN mg ew fl ey v_ wa wb wc wd rj ev rl rm rn ro wg wh wi wj wk wl lG wm wo wp wq kK kL kM H FO FP FQ FR FS h0 r hp
  obtain ⟨w0,s0,FT,FU,FV,zt,FW⟩:=h0
  subst FO
  subst FP
  subst FQ
  subst FR
  subst FS
  unfold az.pl1021 at hp
  unfold az.l1021
  refine bif_ex (fun hb=>?_) (fun hb=>?_)
  ·replace hp:=bif_t hb hp
   obtain ⟨n1,g1,hp⟩:=bind_some' hp
   obtain ⟨p1,q1,i1,h1,j1⟩:=W.ixo (E:=(eInt .i64)) w0 (i:=4) rfl rfl FW g1
   refine bind_ex i1 ?_
   have h1:_ = [_]:=h1
   subst h1
   refine bind_ex (ldI_of (j1 0 _ rfl)) ?_
   obtain ⟨n2,g2,hp⟩:=bind_some' hp
   obtain ⟨p2,q2,i2,h2,j2⟩:=W.ixo (E:=(eInt .i64)) w0 (i:=2) rfl rfl FV g2
   refine bind_ex i2 ?_
   have h2:_ = [_]:=h2
   subst h2
   refine bind_ex (ldI_of (j2 0 _ rfl)) ?_
   obtain ⟨g3,hp⟩:=ifn_p hp
   refine ifn_ex g3 ?_
   obtain ⟨n4,g4,hp⟩:=bind_some' hp
   obtain ⟨p4,q4,i4,h4,j4⟩:=W.ixo (E:=(eInt .i64)) w0 (i:=3) rfl rfl zt g4
   refine bind_ex i4 ?_
   obtain ⟨l5,e5,hp⟩:=bind_some' hp
   refine sto_k (eInt .i64) w0 (i:=3) (j:=0) (p:=p4) rfl rfl zt g4 i4 e5 rfl rfl (fun _ h=>by have h:_ = [_]:=h; subst h; exact rfl) fun H6 k6 w6 s6 c6=>?_
   dsimp only [List.set] at w6 s6 c6
   exact ih rfl rfl rfl ((st_len e5).symm) rfl ⟨w6,(s0.trans s6),(FT.step s6),(FU.step s6),(FV.step s6),c6,(FW.step s6)⟩ hp
  ·replace hp:=bif_f hb hp
   obtain ⟨w7,s7⟩:=w0.pick' [0,1,3] 5 rfl rfl rfl
   dsimp only [pk,pks,nth,List.drop] at w7 s7
   exact az.j1_P rfl rfl rfl ⟨w7,(s0.trans s7),(FT.step s7),(FU.step s7),(zt.step s7)⟩ hp
def az.p (F:Nat) (ac:List (Int×Int×Int×Int×Int)) (ab:Int) (af:Int):Option (List Int×Int):=(bm.p F ac ab).bind fun r2=>(bif (!r2.2.2) then (some (([]:List Int),1)) else ((bc.p F af 1 1000000000000).bind fun r9=>(bif (!r9) then (some (([]:List Int),2)) else ((ak.p F ac r2.2.1).bind fun r13=>(ar.p F r13 (r2.2.1.length:Int)).bind fun r16=>(aF.p F ac ab).bind fun r19=>(mkn r19.2 (0:Int)).bind fun l21=>az.pl1021 F F af ab r13 r16 r19.2 l21 r19.1 (r19.1.length:Int) 0))))
theorem az.P {F:Nat} {au:ON} {ah:Nat} {av:Cap} {ac:List (Int×Int×Int×Int×Int)} {ab af:Int} {H:Hp} {R0:List Rs} (bb:ah = ac.length) (h0:Inn H R0 fun R=>ROs (ePair (eInt .i64) (ePair (eInt .i64) (ePair (eInt .i64) (ePair (eInt .i64) (eInt .i64))))) H R ⟨au,ah,av⟩ ac) {r:List Int×Int} (hp:az.p F ac ab af = some r):∃ v H',az.tw F ⟨au,ah,av⟩ ab af H = some (v,H')∧az.Q H R0 R0  r v H':=by
 obtain ⟨w0,aL⟩:=h0
 subst bb
 unfold az.p at hp
 unfold az.tw az.twX
 have s0:=w0.rf
 refine new_k w0 fun H1 w1 s1=>?_
 refine bind_ex (ldSl_of (w1.ld (i:=0) rfl rfl)) ?_
 refine bind_ex (ldI_of (w1.ld (i:=0) rfl rfl)) ?_
 obtain ⟨r2,e2,hp⟩:=bind_some' hp
 refine call_ex (bm.P rfl ⟨w1,(aL.step s1)⟩ e2) ?_
 rintro _ H3 ⟨o0a_3,o0n_3,o0c_3,o1a_3,o1n_3,o1c_3,rfl,rfl,rfl,w3,s3,f3_0,f3_1⟩
 refine bind_ex rfl ?_
 refine bind_ex rfl ?_
 refine bind_ex rfl ?_
 refine bind_ex rfl ?_
 refine bind_ex rfl ?_
 refine bind_ex rfl ?_
 refine bind_ex rfl ?_
 refine bind_ex rfl ?_
 refine bind_ex rfl ?_
 refine new_k w3 fun H4 w4 s4=>?_
 refine st_k w4 (i:=0) rfl rfl rfl fun H5 w5 s5=>?_
 dsimp only [List.set] at w5 s5
 refine st_k w5 (i:=0) rfl rfl rfl fun H6 w6 s6=>?_
 dsimp only [List.set] at w6 s6
 refine bif_ex (fun hb=>?_) (fun hb=>?_)
 ·replace hp:=bif_t hb hp
  obtain ⟨w7,s7⟩:=w6.nilS (eInt .i64).z (by decide)
  obtain ⟨w8,s8⟩:=w7.pick' [0] 3 rfl rfl rfl
  dsimp only [pk,pks,nth,List.drop] at w8 s8
  obtain rfl:=Option.some.inj hp
  exact ⟨_,_,rfl,_,_,_,_,rfl,rfl,w8,(s0.trans (s1.trans (s3.trans (s4.trans (s5.trans (s6.trans (s7.trans s8))))))),((CR.empty:CR (eInt .i64) _ _ [] []).step s8)⟩
 ·replace hp:=bif_f hb hp
  obtain ⟨r9,e9,hp⟩:=bind_some' hp
  refine call_ex (bc.P ⟨w6,trivial⟩ e9) ?_
  rintro _ H10 ⟨rfl,w10,s10,_⟩
  refine bind_ex rfl ?_
  refine bif_ex (fun hb=>?_) (fun hb=>?_)
  ·replace hp:=bif_t hb hp
   obtain ⟨w11,s11⟩:=w10.nilS (eInt .i64).z (by decide)
   obtain ⟨w12,s12⟩:=w11.pick' [0] 3 rfl rfl rfl
   dsimp only [pk,pks,nth,List.drop] at w12 s12
   obtain rfl:=Option.some.inj hp
   exact ⟨_,_,rfl,_,_,_,_,rfl,rfl,w12,(s0.trans (s1.trans (s3.trans (s4.trans (s5.trans (s6.trans (s10.trans (s11.trans s12)))))))),((CR.empty:CR (eInt .i64) _ _ [] []).step s12)⟩
  ·replace hp:=bif_f hb hp
   refine bind_ex (ldSl_of (w10.ld (i:=1) rfl rfl)) ?_
   refine bind_ex (ldI_of (w10.ld (i:=1) rfl rfl)) ?_
   refine bind_ex (ldSl_of (w10.ld (i:=0) rfl rfl)) ?_
   refine bind_ex (ldSl_of (w10.ld (i:=0) rfl rfl)) ?_
   obtain ⟨r13,e13,hp⟩:=bind_some' hp
   refine call_ex (ak.P rfl rfl ⟨w10,(aL.step (s1.trans (s3.trans (s4.trans (s5.trans (s6.trans s10)))))),(f3_1.step (s4.trans (s5.trans (s6.trans s10))))⟩ e13) ?_
   rintro _ H14 ⟨o0a_14,o0n_14,o0c_14,o0k_14,rfl,rfl,w14,s14,f14_0⟩
   refine bind_ex rfl ?_
   refine bind_ex (ldSl_of (w14.ld (i:=1) rfl rfl)) ?_
   have f15:=W.borrow1 (eSl (eInt .i64)) w14 f14_0
   obtain ⟨w15,s15⟩:=w14.right1
   obtain ⟨r16,e16,hp⟩:=bind_some' hp
   refine call_ex (ar.P rfl ⟨w15,f15⟩ e16) ?_
   rintro _ H17 ⟨o0a_17,o0n_17,o0c_17,o0k_17,rfl,rfl,w17,s17,f17_0⟩
   obtain ⟨w18,s18⟩:=W.frame1 w14 w17 s17
   refine bind_ex rfl ?_
   refine bind_ex (ldSl_of (w18.ld (i:=3) rfl rfl)) ?_
   refine bind_ex (ldI_of (w18.ld (i:=3) rfl rfl)) ?_
   obtain ⟨r19,e19,hp⟩:=bind_some' hp
   refine call_ex (aF.P rfl ⟨w18,(aL.step (s1.trans (s3.trans (s4.trans (s5.trans (s6.trans (s10.trans (s14.trans s18))))))))⟩ e19) ?_
   rintro _ H20 ⟨o0a_20,o0n_20,o0c_20,o0k_20,rfl,rfl,w20,s20,f20_0⟩
   refine bind_ex rfl ?_
   refine bind_ex rfl ?_
   refine bind_ex rfl ?_
   refine bind_ex rfl ?_
   refine bind_ex rfl ?_
   obtain ⟨l21,e21,hp⟩:=bind_some' hp
   refine mk_k (eInt .i64) (0:Int) w20 rfl rfl rfl e21 fun H22 k22 w22 s22 c22=>?_
   obtain ⟨w23,s23⟩:=w22.pick' [5,2,3,0,1] 6 rfl rfl rfl
   dsimp only [pk,pks,nth,List.drop] at w23 s23
   exact az.l1021_P F rfl rfl rfl rfl rfl ⟨w23,(s0.trans (s1.trans (s3.trans (s4.trans (s5.trans (s6.trans (s10.trans (s14.trans (s18.trans (s20.trans (s22.trans s23))))))))))),(aL.step (s1.trans (s3.trans (s4.trans (s5.trans (s6.trans (s10.trans (s14.trans (s18.trans (s20.trans (s22.trans s23))))))))))),(f14_0.step (s18.trans (s20.trans (s22.trans s23)))),((CR.flat (eInt_flat .i64) f17_0).step (s20.trans (s22.trans s23))),(c22.step s23),(f20_0.step (s22.trans s23))⟩ hp
def aO.Q (H0:Hp) (Ri R0:List Rs)  (r:Bool) (v:AV) (H':Hp):Prop:=v = (.bool r)∧Out H0 Ri H' (R0) fun R=>True
def aO.S29 (H0:Hp) (Ri R0:List Rs)  (C:Sl→Sl→Int→Hp→OA) (pC:List Int→List Int→Int→Option (Bool)):Prop:=∀ {fm kO:ON} {dR jC:Nat} {fo kP:Cap} {bi dX:List Int} {bK:Int},∀ {H:Hp},dR = bi.length→jC = dX.length→(Out H0 Ri H R0 fun R=>ROs (eInt .i64) H R ⟨fm,dR,fo⟩ bi∧ROs (eInt .i64) H R ⟨kO,jC,kP⟩ dX)→∀ {r:Bool},pC bi dX bK = some r→∃ v H',C ⟨fm,dR,fo⟩ ⟨kO,jC,kP⟩ bK H = some (v,H')∧aO.Q H0 Ri R0  r v H'
def aO.pl29 (F:Nat) :Nat→List Int→List Int→Int→Option (Bool)
 | 0,_,_,_=>none
 | k + 1,bi,dX,bK=>(bif (decide (bK < (bi.length:Int))) then ((ix bi bK).bind fun n1=>(ix dX bK).bind fun n2=>(bif ((gt bi n1) != (gt dX n2)) then (some false) else (aO.pl29 F k bi dX (IntKind.i64.wrap (bK + 1))))) else (some true))
termination_by structural n=>n
theorem aO.l29_P {F:Nat} {H0:Hp} {Ri R0:List Rs}  :∀ k,aO.S29 H0 Ri R0  (aO.l29 F   k) (aO.pl29 F  k):=by
 intro k
 induction k with
 | zero=>
  intro fm kO dR jC fo kP bi dX bK H fV rv h0 r hp
  exact nomatch (show (none:Option (Bool)) = some r from hp)
 | succ k ih=>
  intro fm kO dR jC fo kP bi dX bK H fV rv h0 r hp
  obtain ⟨w0,s0,fp,rx⟩:=h0
  subst fV
  subst rv
  unfold aO.pl29 at hp
  unfold aO.l29
  refine bif_ex (fun hb=>?_) (fun hb=>?_)
  ·replace hp:=bif_t hb hp
   obtain ⟨n1,g1,hp⟩:=bind_some' hp
   obtain ⟨p1,q1,i1,h1,j1⟩:=ROs.ixr fp rfl g1
   refine bind_ex i1 ?_
   have h1:_ = [_]:=h1
   subst h1
   refine bind_ex (ldI_of (j1 0 _ rfl)) ?_
   obtain ⟨n2,g2,hp⟩:=bind_some' hp
   obtain ⟨p2,q2,i2,h2,j2⟩:=ROs.ixr rx rfl g2
   refine bind_ex i2 ?_
   have h2:_ = [_]:=h2
   subst h2
   refine bind_ex (ldI_of (j2 0 _ rfl)) ?_
   refine bif_ex (fun hb=>?_) (fun hb=>?_)
   ·replace hp:=bif_t hb hp
    obtain rfl:=Option.some.inj hp
    exact ⟨_,_,rfl,rfl,w0,s0,trivial⟩
   ·replace hp:=bif_f hb hp
    exact ih rfl rfl ⟨w0,s0,fp,rx⟩ hp
  ·replace hp:=bif_f hb hp
   obtain rfl:=Option.some.inj hp
   exact ⟨_,_,rfl,rfl,w0,s0,trivial⟩
def aO.p (F:Nat) (ac:List Int) (ie:List Int):Option (Bool):=(bif ((ac.length:Int) != (ie.length:Int)) then (some false) else (aO.pl29 F F ac ie 0))
theorem aO.P {F:Nat} {au ry:ON} {ah mi:Nat} {av rz:Cap} {ac ie:List Int} {H:Hp} {R0:List Rs} (bb:ah = ac.length) (zu:mi = ie.length) (h0:Inn H R0 fun R=>ROs (eInt .i64) H R ⟨au,ah,av⟩ ac∧ROs (eInt .i64) H R ⟨ry,mi,rz⟩ ie) {r:Bool} (hp:aO.p F ac ie = some r):∃ v H',aO.tw F ⟨au,ah,av⟩ ⟨ry,mi,rz⟩ H = some (v,H')∧aO.Q H R0 R0  r v H':=by
 obtain ⟨w0,aL,zv⟩:=h0
 subst bb
 subst zu
 unfold aO.p at hp
 unfold aO.tw aO.twX
 have s0:=w0.rf
 refine bif_ex (fun hb=>?_) (fun hb=>?_)
 ·replace hp:=bif_t hb hp
  obtain rfl:=Option.some.inj hp
  exact ⟨_,_,rfl,rfl,w0,s0,trivial⟩
 ·replace hp:=bif_f hb hp
  exact aO.l29_P F rfl rfl ⟨w0,s0,aL,zv⟩ hp
def bD.Q (H0:Hp) (Ri R0:List Rs)  (r:Bool) (v:AV) (H':Hp):Prop:=v = (.bool r)∧Out H0 Ri H' (R0) fun R=>True
def bD.p (F:Nat) (aa:Int) (ab:Int) (aC:Int) (aD:Int) (aA:Int) (bh:Int) (fR:Int) (fS:Int) (fT:Int) (fU:Int):Option (Bool):=(bif (aa != bh) then (some false) else ((bif (ab != fR) then (some false) else ((bif (aC != fS) then (some false) else ((bif (aD != fT) then (some false) else ((bif (aA != fU) then (some false) else (some true))))))))))
theorem bD.P {F:Nat} {aa ab aC aD aA bh fR fS fT fU:Int} {H:Hp} {R0:List Rs}  (h0:Inn H R0 fun R=>True) {r:Bool} (hp:bD.p F aa ab aC aD aA bh fR fS fT fU = some r):∃ v H',bD.tw F aa ab aC aD aA bh fR fS fT fU H = some (v,H')∧bD.Q H R0 R0  r v H':=by
 obtain ⟨w0,_⟩:=h0
 unfold bD.p at hp
 unfold bD.tw bD.twX
 have s0:=w0.rf
 refine new_k w0 fun H1 w1 s1=>?_
 refine new_k w1 fun H2 w2 s2=>?_
 refine bind_ex (ldI_of (w2.ld (i:=1) rfl rfl)) ?_
 refine bind_ex (ldI_of (w2.ld (i:=0) rfl rfl)) ?_
 refine bif_ex (fun hb=>?_) (fun hb=>?_)
 ·replace hp:=bif_t hb hp
  obtain ⟨w3,s3⟩:=w2.pick' [] 2 rfl rfl rfl
  dsimp only [pk,pks,nth,List.drop] at w3 s3
  obtain rfl:=Option.some.inj hp
  exact ⟨_,_,rfl,rfl,w3,(s0.trans (s1.trans (s2.trans s3))),trivial⟩
 ·replace hp:=bif_f hb hp
  refine bind_ex (ldI_of (w2.ld (i:=1) rfl rfl)) ?_
  refine bind_ex (ldI_of (w2.ld (i:=0) rfl rfl)) ?_
  refine bif_ex (fun hb=>?_) (fun hb=>?_)
  ·replace hp:=bif_t hb hp
   obtain ⟨w4,s4⟩:=w2.pick' [] 2 rfl rfl rfl
   dsimp only [pk,pks,nth,List.drop] at w4 s4
   obtain rfl:=Option.some.inj hp
   exact ⟨_,_,rfl,rfl,w4,(s0.trans (s1.trans (s2.trans s4))),trivial⟩
  ·replace hp:=bif_f hb hp
   refine bind_ex (ldI_of (w2.ld (i:=1) rfl rfl)) ?_
   refine bind_ex (ldI_of (w2.ld (i:=0) rfl rfl)) ?_
   refine bif_ex (fun hb=>?_) (fun hb=>?_)
   ·replace hp:=bif_t hb hp
    obtain ⟨w5,s5⟩:=w2.pick' [] 2 rfl rfl rfl
    dsimp only [pk,pks,nth,List.drop] at w5 s5
    obtain rfl:=Option.some.inj hp
    exact ⟨_,_,rfl,rfl,w5,(s0.trans (s1.trans (s2.trans s5))),trivial⟩
   ·replace hp:=bif_f hb hp
    refine bind_ex (ldI_of (w2.ld (i:=1) rfl rfl)) ?_
    refine bind_ex (ldI_of (w2.ld (i:=0) rfl rfl)) ?_
    refine bif_ex (fun hb=>?_) (fun hb=>?_)
    ·replace hp:=bif_t hb hp
     obtain ⟨w6,s6⟩:=w2.pick' [] 2 rfl rfl rfl
     dsimp only [pk,pks,nth,List.drop] at w6 s6
     obtain rfl:=Option.some.inj hp
     exact ⟨_,_,rfl,rfl,w6,(s0.trans (s1.trans (s2.trans s6))),trivial⟩
    ·replace hp:=bif_f hb hp
     refine bind_ex (ldI_of (w2.ld (i:=1) rfl rfl)) ?_
     refine bind_ex (ldI_of (w2.ld (i:=0) rfl rfl)) ?_
     refine bif_ex (fun hb=>?_) (fun hb=>?_)
     ·replace hp:=bif_t hb hp
      obtain ⟨w7,s7⟩:=w2.pick' [] 2 rfl rfl rfl
      dsimp only [pk,pks,nth,List.drop] at w7 s7
      obtain rfl:=Option.some.inj hp
      exact ⟨_,_,rfl,rfl,w7,(s0.trans (s1.trans (s2.trans s7))),trivial⟩
     ·replace hp:=bif_f hb hp
      obtain ⟨w8,s8⟩:=w2.pick' [] 2 rfl rfl rfl
      dsimp only [pk,pks,nth,List.drop] at w8 s8
      obtain rfl:=Option.some.inj hp
      exact ⟨_,_,rfl,rfl,w8,(s0.trans (s1.trans (s2.trans s8))),trivial⟩
def aU.Q (H0:Hp) (Ri R0:List Rs)  (r:Bool) (v:AV) (H':Hp):Prop:=v = (.bool r)∧Out H0 Ri H' (R0) fun R=>True
end Go.Proofs.Ythfinhmkgdmelaa.AE
