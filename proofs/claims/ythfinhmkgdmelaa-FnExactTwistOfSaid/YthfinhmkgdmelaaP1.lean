import Derived.Test.YthfinhmkgdmelaaT2
import Derived.Test.YthfinhmkgdmelaaE2
set_option linter.unusedVariables false
set_option linter.unusedSimpArgs false
namespace Go.Proofs.Ythfinhmkgdmelaa.AE
open Go Go.AE Go.Proofs
set_option linter.unusedVariables false
set_option maxHeartbeats 4000000
set_option maxRecDepth 100000
def bB.Q (H0:Hp) (Ri R0:List Rs)  (r:Int) (v:AV) (H':Hp):Prop:=v = (.int .i64 r)∧Out H0 Ri H' (R0) fun R=>True
def bB.p (F:Nat) (ad:List (Int×Int×Int×Int×Int)) (ag:Int):Option (Int):=(bif (decide ((IntKind.i64.wrap (ag - (ad.length:Int))) < 0)) then (some (-1)) else (some (IntKind.i64.wrap (ag - (ad.length:Int)))))
theorem bB.P {F:Nat} {ax:ON} {aq:Nat} {ay:Cap} {ad:List (Int×Int×Int×Int×Int)} {ag:Int} {H:Hp} {R0:List Rs} (bd:aq = ad.length) (h0:Inn H R0 fun R=>ROs (ePair (eInt .i64) (ePair (eInt .i64) (ePair (eInt .i64) (ePair (eInt .i64) (eInt .i64))))) H R ⟨ax,aq,ay⟩ ad) {r:Int} (hp:bB.p F ad ag = some r):∃ v H',bB.tw F ⟨ax,aq,ay⟩ ag H = some (v,H')∧bB.Q H R0 R0  r v H':=by
 obtain ⟨w0,aM⟩:=h0
 subst bd
 unfold bB.p at hp
 unfold bB.tw bB.twX
 have s0:=w0.rf
 refine bif_ex (fun hb=>?_) (fun hb=>?_)
 ·replace hp:=bif_t hb hp
  obtain rfl:=Option.some.inj hp
  exact ⟨_,_,rfl,rfl,w0,s0,trivial⟩
 ·replace hp:=bif_f hb hp
  obtain rfl:=Option.some.inj hp
  exact ⟨_,_,rfl,rfl,w0,s0,trivial⟩
def bs.Q (H0:Hp) (Ri R0:List Rs)  (r:Int) (v:AV) (H':Hp):Prop:=v = (.int .i64 r)∧Out H0 Ri H' (R0) fun R=>True
def bs.p (F:Nat) (ad:List (Int×Int×Int×Int×Int)) (ah:Int):Option (Int):=(bB.p F ad ah).bind fun r2=>(bif (decide (r2 < 0)) then (some (-1)) else (some r2))
theorem bs.P {F:Nat} {ax:ON} {aq:Nat} {ay:Cap} {ad:List (Int×Int×Int×Int×Int)} {ab ah:Int} {H:Hp} {R0:List Rs} (bd:aq = ad.length) (h0:Inn H R0 fun R=>ROs (ePair (eInt .i64) (ePair (eInt .i64) (ePair (eInt .i64) (ePair (eInt .i64) (eInt .i64))))) H R ⟨ax,aq,ay⟩ ad) {r:Int} (hp:bs.p F ad ah = some r):∃ v H',bs.tw F ⟨ax,aq,ay⟩ ab ah H = some (v,H')∧bs.Q H R0 R0  r v H':=by
 obtain ⟨w0,aM⟩:=h0
 subst bd
 unfold bs.p at hp
 unfold bs.tw bs.twX
 have s0:=w0.rf
 refine new_k w0 fun H1 w1 s1=>?_
 refine bind_ex (ldSl_of (w1.ld (i:=0) rfl rfl)) ?_
 obtain ⟨r2,e2,hp⟩:=bind_some' hp
 refine call_ex (bB.P rfl ⟨w1,(aM.step s1)⟩ e2) ?_
 rintro _ H3 ⟨rfl,w3,s3,_⟩
 refine bind_ex rfl ?_
 refine bif_ex (fun hb=>?_) (fun hb=>?_)
 ·replace hp:=bif_t hb hp
  obtain ⟨w4,s4⟩:=w3.pick' [] 1 rfl rfl rfl
  dsimp only [pk,pks,nth,List.drop] at w4 s4
  obtain rfl:=Option.some.inj hp
  exact ⟨_,_,rfl,rfl,w4,(s0.trans (s1.trans (s3.trans s4))),trivial⟩
 ·replace hp:=bif_f hb hp
  obtain ⟨w5,s5⟩:=w3.pick' [] 1 rfl rfl rfl
  dsimp only [pk,pks,nth,List.drop] at w5 s5
  obtain rfl:=Option.some.inj hp
  exact ⟨_,_,rfl,rfl,w5,(s0.trans (s1.trans (s3.trans s5))),trivial⟩
def bC.Q (H0:Hp) (Ri R0:List Rs)  (r:Int×Int×Int×Int×Int) (v:AV) (H':Hp):Prop:=v = (.agg [(.int .i64 r.1),(.int .i64 r.2.1),(.int .i64 r.2.2.1),(.int .i64 r.2.2.2.1),(.int .i64 r.2.2.2.2)])∧Out H0 Ri H' (R0) fun R=>True
def bC.p (F:Nat) (aa:Int) (ab:Int) (aA:Int) (aB:Int) (az:Int):Option (Int×Int×Int×Int×Int):=some (aa,ab,aA,aB,az)
theorem bC.P {F:Nat} {aa ab aA aB az:Int} {H:Hp} {R0:List Rs}  (h0:Inn H R0 fun R=>True) {r:Int×Int×Int×Int×Int} (hp:bC.p F aa ab aA aB az = some r):∃ v H',bC.tw F aa ab aA aB az H = some (v,H')∧bC.Q H R0 R0  r v H':=by
 obtain ⟨w0,_⟩:=h0
 unfold bC.p at hp
 unfold bC.tw bC.twX
 have s0:=w0.rf
 refine new_k w0 fun H1 w1 s1=>?_
 refine new_k w1 fun H2 w2 s2=>?_
 refine new_k w2 fun H3 w3 s3=>?_
 refine bind_ex (ldI_of (w3.ld (i:=2) rfl rfl)) ?_
 refine st_k w3 (i:=0) rfl rfl rfl fun H4 w4 s4=>?_
 dsimp only [List.set] at w4 s4
 refine bind_ex (ldI_of (w4.ld (i:=2) rfl rfl)) ?_
 refine st_k w4 (i:=0) rfl rfl rfl fun H5 w5 s5=>?_
 dsimp only [List.set] at w5 s5
 refine bind_ex (ldI_of (w5.ld (i:=2) rfl rfl)) ?_
 refine st_k w5 (i:=0) rfl rfl rfl fun H6 w6 s6=>?_
 dsimp only [List.set] at w6 s6
 refine bind_ex (ldI_of (w6.ld (i:=2) rfl rfl)) ?_
 refine st_k w6 (i:=0) rfl rfl rfl fun H7 w7 s7=>?_
 dsimp only [List.set] at w7 s7
 refine bind_ex (ldI_of (w7.ld (i:=2) rfl rfl)) ?_
 refine st_k w7 (i:=0) rfl rfl rfl fun H8 w8 s8=>?_
 dsimp only [List.set] at w8 s8
 refine bind_ex (ldI_of (w8.ld (i:=0) rfl rfl)) ?_
 refine bind_ex (ldI_of (w8.ld (i:=0) rfl rfl)) ?_
 refine bind_ex (ldI_of (w8.ld (i:=0) rfl rfl)) ?_
 refine bind_ex (ldI_of (w8.ld (i:=0) rfl rfl)) ?_
 refine bind_ex (ldI_of (w8.ld (i:=0) rfl rfl)) ?_
 refine st_k w8 (i:=1) rfl rfl rfl fun H9 w9 s9=>?_
 dsimp only [List.set] at w9 s9
 refine st_k w9 (i:=1) rfl rfl rfl fun H10 w10 s10=>?_
 dsimp only [List.set] at w10 s10
 refine st_k w10 (i:=1) rfl rfl rfl fun H11 w11 s11=>?_
 dsimp only [List.set] at w11 s11
 refine st_k w11 (i:=1) rfl rfl rfl fun H12 w12 s12=>?_
 dsimp only [List.set] at w12 s12
 refine st_k w12 (i:=1) rfl rfl rfl fun H13 w13 s13=>?_
 dsimp only [List.set] at w13 s13
 refine bind_ex (ldI_of (w13.ld (i:=1) rfl rfl)) ?_
 refine bind_ex (ldI_of (w13.ld (i:=1) rfl rfl)) ?_
 refine bind_ex (ldI_of (w13.ld (i:=1) rfl rfl)) ?_
 refine bind_ex (ldI_of (w13.ld (i:=1) rfl rfl)) ?_
 refine bind_ex (ldI_of (w13.ld (i:=1) rfl rfl)) ?_
 obtain ⟨w14,s14⟩:=w13.pick' [] 3 rfl rfl rfl
 dsimp only [pk,pks,nth,List.drop] at w14 s14
 obtain rfl:=Option.some.inj hp
 exact ⟨_,_,rfl,rfl,w14,(s0.trans (s1.trans (s2.trans (s3.trans (s4.trans (s5.trans (s6.trans (s7.trans (s8.trans (s9.trans (s10.trans (s11.trans (s12.trans (s13.trans s14)))))))))))))),trivial⟩
def aR.Q (H0:Hp) (Ri R0:List Rs)  (r:(List (Int×Int×Int×Int×Int))) (v:AV) (H':Hp):Prop:=∃ o0a:ON,∃ o0n:Nat,∃ o0c:Cap,∃ o0k:List AV,v = (.sl ⟨o0a,o0n,o0c⟩)∧o0n = (r).length∧Out H0 Ri H' (Rs.own ⟨o0a,o0n,o0c⟩ (ePair (eInt .i64) (ePair (eInt .i64) (ePair (eInt .i64) (ePair (eInt .i64) (eInt .i64))))).z o0k :: R0) fun R=>CR (ePair (eInt .i64) (ePair (eInt .i64) (ePair (eInt .i64) (ePair (eInt .i64) (eInt .i64))))) H' R o0k (r)
def aR.S29 (H0:Hp) (Ri R0:List Rs)  (C:Sl→Sl→Int→Hp→OA) (pC:List (Int×Int×Int×Int×Int)→List (Int×Int×Int×Int×Int)→Int→Option ((List (Int×Int×Int×Int×Int)))):Prop:=∀ {iu pf:ON} {hQ lu:Nat} {iv pg:Cap} {cu gf:List (Int×Int×Int×Int×Int)} {ph:List AV} {du:Int},∀ {H:Hp},hQ = cu.length→lu = gf.length→(Out H0 Ri H (Rs.own ⟨pf,lu,pg⟩ (ePair (eInt .i64) (ePair (eInt .i64) (ePair (eInt .i64) (ePair (eInt .i64) (eInt .i64))))).z ph :: R0) fun R=>ROs (ePair (eInt .i64) (ePair (eInt .i64) (ePair (eInt .i64) (ePair (eInt .i64) (eInt .i64))))) H R ⟨iu,hQ,iv⟩ cu∧CR (ePair (eInt .i64) (ePair (eInt .i64) (ePair (eInt .i64) (ePair (eInt .i64) (eInt .i64))))) H R ph gf)→∀ {r:(List (Int×Int×Int×Int×Int))},pC cu gf du = some r→∃ v H',C ⟨iu,hQ,iv⟩ ⟨pf,lu,pg⟩ du H = some (v,H')∧aR.Q H0 Ri R0  r v H'
def aR.pl29 (F:Nat) :Nat→List (Int×Int×Int×Int×Int)→List (Int×Int×Int×Int×Int)→Int→Option ((List (Int×Int×Int×Int×Int)))
 | 0,_,_,_=>none
 | k + 1,cu,gf,du=>(bif (decide (du < (cu.length:Int))) then ((ix cu du).bind fun n1=>(bC.p F ((gt cu n1).1) ((gt cu n1).2.1) ((gt cu n1).2.2.1) ((gt cu n1).2.2.2.1) ((gt cu n1).2.2.2.2)).bind fun r2=>(ix gf du).bind fun n4=>(some (gf.set n4 (r2.1,(gt gf n4).2.1,(gt gf n4).2.2.1,(gt gf n4).2.2.2.1,(gt gf n4).2.2.2.2))).bind fun l5=>(some (l5.set n4 ((gt l5 n4).1,r2.2.1,(gt l5 n4).2.2.1,(gt l5 n4).2.2.2.1,(gt l5 n4).2.2.2.2))).bind fun l7=>(some (l7.set n4 ((gt l7 n4).1,(gt l7 n4).2.1,r2.2.2.1,(gt l7 n4).2.2.2.1,(gt l7 n4).2.2.2.2))).bind fun l9=>(some (l9.set n4 ((gt l9 n4).1,(gt l9 n4).2.1,(gt l9 n4).2.2.1,r2.2.2.2.1,(gt l9 n4).2.2.2.2))).bind fun l11=>(some (l11.set n4 ((gt l11 n4).1,(gt l11 n4).2.1,(gt l11 n4).2.2.1,(gt l11 n4).2.2.2.1,r2.2.2.2.2))).bind fun l13=>aR.pl29 F k cu l13 (IntKind.i64.wrap (du + 1))) else (some gf))
termination_by structural n=>n
theorem aR.l29_P {F:Nat} {H0:Hp} {Ri R0:List Rs}  :∀ k,aR.S29 H0 Ri R0  (aR.l29 F (bC.tw F)  k) (aR.pl29 F  k):=by
 intro k
 induction k with
 | zero=>
  intro iu pf hQ lu iv pg cu gf ph du H lv wF h0 r hp
  exact nomatch (show (none:Option ((List (Int×Int×Int×Int×Int)))) = some r from hp)
 | succ k ih=>
  intro iu pf hQ lu iv pg cu gf ph du H lv wF h0 r hp
  obtain ⟨w0,s0,lw,tV⟩:=h0
  subst lv
  subst wF
  unfold aR.pl29 at hp
  unfold aR.l29
  refine bif_ex (fun hb=>?_) (fun hb=>?_)
  ·replace hp:=bif_t hb hp
   obtain ⟨n1,g1,hp⟩:=bind_some' hp
   obtain ⟨p1,q1,i1,h1,j1⟩:=ROs.ixr lw rfl g1
   refine bind_ex i1 ?_
   obtain ⟨_,_,rfl,rfl,_,_,rfl,rfl,_,_,rfl,rfl,_,_,rfl,rfl,rfl⟩:=h1
   refine bind_ex (ldI_of (j1 0 _ rfl)) ?_
   refine bind_ex (ldI_of (j1 1 _ rfl)) ?_
   refine bind_ex (ldI_of (j1 2 _ rfl)) ?_
   refine bind_ex (ldI_of (j1 3 _ rfl)) ?_
   refine bind_ex (ldI_of (j1 4 _ rfl)) ?_
   obtain ⟨r2,e2,hp⟩:=bind_some' hp
   refine call_ex (bC.P ⟨w0,trivial⟩ e2) ?_
   rintro _ H3 ⟨rfl,w3,s3,_⟩
   refine bind_ex rfl ?_
   refine bind_ex rfl ?_
   refine bind_ex rfl ?_
   refine bind_ex rfl ?_
   refine bind_ex rfl ?_
   refine bind_ex rfl ?_
   refine bind_ex rfl ?_
   refine bind_ex rfl ?_
   refine bind_ex rfl ?_
   refine bind_ex rfl ?_
   refine bind_ex rfl ?_
   obtain ⟨n4,g4,hp⟩:=bind_some' hp
   obtain ⟨p4,q4,i4,h4,j4⟩:=W.ixo (E:=(ePair (eInt .i64) (ePair (eInt .i64) (ePair (eInt .i64) (ePair (eInt .i64) (eInt .i64)))))) w3 (i:=0) rfl rfl (tV.step s3) g4
   refine bind_ex i4 ?_
   obtain ⟨l5,e5,hp⟩:=bind_some' hp
   refine sto_k (ePair (eInt .i64) (ePair (eInt .i64) (ePair (eInt .i64) (ePair (eInt .i64) (eInt .i64))))) w3 (i:=0) (j:=0) (p:=p4) rfl rfl (tV.step s3) g4 i4 e5 rfl rfl (fun _ h=>by obtain ⟨_,_,rfl,rfl,_,_,rfl,rfl,_,_,rfl,rfl,_,_,rfl,rfl,rfl⟩:=h; exact ⟨[_],_,rfl,rfl,[_],_,rfl,rfl,[_],_,rfl,rfl,[_],_,rfl,rfl,rfl⟩) fun H6 k6 w6 s6 c6=>?_
   dsimp only [List.set] at w6 s6 c6
   obtain ⟨l7,e7,hp⟩:=bind_some' hp
   refine sto_k (ePair (eInt .i64) (ePair (eInt .i64) (ePair (eInt .i64) (ePair (eInt .i64) (eInt .i64))))) w6 (i:=0) (j:=1) (p:=p4) rfl rfl c6 (ix_len g4 (st_len e5)) i4 e7 rfl rfl (fun _ h=>by obtain ⟨_,_,rfl,rfl,_,_,rfl,rfl,_,_,rfl,rfl,_,_,rfl,rfl,rfl⟩:=h; exact ⟨[_],_,rfl,rfl,[_],_,rfl,rfl,[_],_,rfl,rfl,[_],_,rfl,rfl,rfl⟩) fun H8 k8 w8 s8 c8=>?_
   dsimp only [List.set] at w8 s8 c8
   obtain ⟨l9,e9,hp⟩:=bind_some' hp
   refine sto_k (ePair (eInt .i64) (ePair (eInt .i64) (ePair (eInt .i64) (ePair (eInt .i64) (eInt .i64))))) w8 (i:=0) (j:=2) (p:=p4) rfl rfl c8 (ix_len g4 ((st_len e7).trans (st_len e5))) i4 e9 rfl rfl (fun _ h=>by obtain ⟨_,_,rfl,rfl,_,_,rfl,rfl,_,_,rfl,rfl,_,_,rfl,rfl,rfl⟩:=h; exact ⟨[_],_,rfl,rfl,[_],_,rfl,rfl,[_],_,rfl,rfl,[_],_,rfl,rfl,rfl⟩) fun H10 k10 w10 s10 c10=>?_
   dsimp only [List.set] at w10 s10 c10
   obtain ⟨l11,e11,hp⟩:=bind_some' hp
   refine sto_k (ePair (eInt .i64) (ePair (eInt .i64) (ePair (eInt .i64) (ePair (eInt .i64) (eInt .i64))))) w10 (i:=0) (j:=3) (p:=p4) rfl rfl c10 (ix_len g4 (((st_len e9).trans (st_len e7)).trans (st_len e5))) i4 e11 rfl rfl (fun _ h=>by obtain ⟨_,_,rfl,rfl,_,_,rfl,rfl,_,_,rfl,rfl,_,_,rfl,rfl,rfl⟩:=h; exact ⟨[_],_,rfl,rfl,[_],_,rfl,rfl,[_],_,rfl,rfl,[_],_,rfl,rfl,rfl⟩) fun H12 k12 w12 s12 c12=>?_
   dsimp only [List.set] at w12 s12 c12
   obtain ⟨l13,e13,hp⟩:=bind_some' hp
   refine sto_k (ePair (eInt .i64) (ePair (eInt .i64) (ePair (eInt .i64) (ePair (eInt .i64) (eInt .i64))))) w12 (i:=0) (j:=4) (p:=p4) rfl rfl c12 (ix_len g4 ((((st_len e11).trans (st_len e9)).trans (st_len e7)).trans (st_len e5))) i4 e13 rfl rfl (fun _ h=>by obtain ⟨_,_,rfl,rfl,_,_,rfl,rfl,_,_,rfl,rfl,_,_,rfl,rfl,rfl⟩:=h; exact ⟨[_],_,rfl,rfl,[_],_,rfl,rfl,[_],_,rfl,rfl,[_],_,rfl,rfl,rfl⟩) fun H14 k14 w14 s14 c14=>?_
   dsimp only [List.set] at w14 s14 c14
   exact ih rfl (((((st_len e5).symm.trans (st_len e7).symm).trans (st_len e9).symm).trans (st_len e11).symm).trans (st_len e13).symm) ⟨w14,(s0.trans (s3.trans (s6.trans (s8.trans (s10.trans (s12.trans s14)))))),(lw.step (s3.trans (s6.trans (s8.trans (s10.trans (s12.trans s14)))))),c14⟩ hp
  ·replace hp:=bif_f hb hp
   obtain rfl:=Option.some.inj hp
   exact ⟨_,_,rfl,_,_,_,_,rfl,rfl,w0,s0,tV⟩
def aR.p (F:Nat) (ad:List (Int×Int×Int×Int×Int)):Option ((List (Int×Int×Int×Int×Int))):=(mkn (ad.length:Int) ((0:Int),(0:Int),(0:Int),(0:Int),(0:Int))).bind fun l1=>aR.pl29 F F ad l1 0
theorem aR.P {F:Nat} {ax:ON} {aq:Nat} {ay:Cap} {ad:List (Int×Int×Int×Int×Int)} {H:Hp} {R0:List Rs} (bd:aq = ad.length) (h0:Inn H R0 fun R=>ROs (ePair (eInt .i64) (ePair (eInt .i64) (ePair (eInt .i64) (ePair (eInt .i64) (eInt .i64))))) H R ⟨ax,aq,ay⟩ ad) {r:(List (Int×Int×Int×Int×Int))} (hp:aR.p F ad = some r):∃ v H',aR.tw F ⟨ax,aq,ay⟩ H = some (v,H')∧aR.Q H R0 R0  r v H':=by
 obtain ⟨w0,aM⟩:=h0
 subst bd
 unfold aR.p at hp
 unfold aR.tw aR.twX
 have s0:=w0.rf
 obtain ⟨l1,e1,hp⟩:=bind_some' hp
 refine mk_k (ePair (eInt .i64) (ePair (eInt .i64) (ePair (eInt .i64) (ePair (eInt .i64) (eInt .i64))))) ((0:Int),(0:Int),(0:Int),(0:Int),(0:Int)) w0 ⟨[_],_,rfl,rfl,⟨[_],_,rfl,rfl,⟨[_],_,rfl,rfl,⟨[_],_,rfl,rfl,rfl⟩⟩⟩⟩ rfl rfl e1 fun H2 k2 w2 s2 c2=>?_
 exact aR.l29_P F rfl rfl ⟨w2,(s0.trans s2),(aM.step s2),c2⟩ hp
def bq.Q (H0:Hp) (Ri R0:List Rs)  (r:(List (Int×Int×Int×Int×Int))×Int) (v:AV) (H':Hp):Prop:=∃ o0a:ON,∃ o0n:Nat,∃ o0c:Cap,∃ o0k:List AV,v = (.agg [(.sl ⟨o0a,o0n,o0c⟩),(.int .i64 r.2)])∧o0n = (r.1).length∧Out H0 Ri H' (Rs.own ⟨o0a,o0n,o0c⟩ (ePair (eInt .i64) (ePair (eInt .i64) (ePair (eInt .i64) (ePair (eInt .i64) (eInt .i64))))).z o0k :: R0) fun R=>CR (ePair (eInt .i64) (ePair (eInt .i64) (ePair (eInt .i64) (ePair (eInt .i64) (eInt .i64))))) H' R o0k (r.1)
def bq.p (F:Nat) (ad:List (Int×Int×Int×Int×Int)) (ab:Int):Option ((List (Int×Int×Int×Int×Int))×Int):=(aR.p F ad).bind fun r4=>some (r4,ab)
theorem bq.P {F:Nat} {ax:ON} {aq:Nat} {ay:Cap} {ad:List (Int×Int×Int×Int×Int)} {ab:Int} {H:Hp} {R0:List Rs} (bd:aq = ad.length) (h0:Inn H R0 fun R=>ROs (ePair (eInt .i64) (ePair (eInt .i64) (ePair (eInt .i64) (ePair (eInt .i64) (eInt .i64))))) H R ⟨ax,aq,ay⟩ ad) {r:(List (Int×Int×Int×Int×Int))×Int} (hp:bq.p F ad ab = some r):∃ v H',bq.tw F ⟨ax,aq,ay⟩ ab H = some (v,H')∧bq.Q H R0 R0  r v H':=by
 obtain ⟨w0,aM⟩:=h0
 subst bd
 unfold bq.p at hp
 unfold bq.tw bq.twX
 have s0:=w0.rf
 refine new_k w0 fun H1 w1 s1=>?_
 refine new_k w1 fun H2 w2 s2=>?_
 refine new_k w2 fun H3 w3 s3=>?_
 refine bind_ex (ldSl_of (w3.ld (i:=2) rfl rfl)) ?_
 obtain ⟨r4,e4,hp⟩:=bind_some' hp
 refine call_ex (aR.P rfl ⟨w3,(aM.step (s1.trans (s2.trans s3)))⟩ e4) ?_
 rintro _ H5 ⟨o0a_5,o0n_5,o0c_5,o0k_5,rfl,rfl,w5,s5,f5_0⟩
 refine bind_ex rfl ?_
 refine st_k w5 (i:=1) rfl rfl rfl fun H6 w6 s6=>?_
 dsimp only [List.set] at w6 s6
 refine bind_ex (ldI_of (w6.ld (i:=3) rfl rfl)) ?_
 refine st_k w6 (i:=1) rfl rfl rfl fun H7 w7 s7=>?_
 dsimp only [List.set] at w7 s7
 refine bind_ex (ldSl_of (w7.ld (i:=1) rfl rfl)) ?_
 refine bind_ex (ldI_of (w7.ld (i:=1) rfl rfl)) ?_
 refine st_k w7 (i:=2) rfl rfl rfl fun H8 w8 s8=>?_
 dsimp only [List.set] at w8 s8
 refine st_k w8 (i:=2) rfl rfl rfl fun H9 w9 s9=>?_
 dsimp only [List.set] at w9 s9
 refine bind_ex (ldSl_of (w9.ld (i:=2) rfl rfl)) ?_
 refine bind_ex (ldI_of (w9.ld (i:=2) rfl rfl)) ?_
 obtain ⟨w10,s10⟩:=w9.pick' [0] 4 rfl rfl rfl
 dsimp only [pk,pks,nth,List.drop] at w10 s10
 obtain rfl:=Option.some.inj hp
 exact ⟨_,_,rfl,_,_,_,_,rfl,rfl,w10,(s0.trans (s1.trans (s2.trans (s3.trans (s5.trans (s6.trans (s7.trans (s8.trans (s9.trans s10))))))))),(f5_0.step (s6.trans (s7.trans (s8.trans (s9.trans s10)))))⟩
def aY.Q (H0:Hp) (Ri R0:List Rs)  (r:Bool) (v:AV) (H':Hp):Prop:=v = (.bool r)∧Out H0 Ri H' (R0) fun R=>True
def aY.p (F:Nat) (aa:Int) (ag:Int) (bj:Int):Option (Bool):=(bif (decide (aa ≥ ag)) then (some (decide (aa ≤ bj))) else (some false))
theorem aY.P {F:Nat} {aa ag bj:Int} {H:Hp} {R0:List Rs}  (h0:Inn H R0 fun R=>True) {r:Bool} (hp:aY.p F aa ag bj = some r):∃ v H',aY.tw F aa ag bj H = some (v,H')∧aY.Q H R0 R0  r v H':=by
 obtain ⟨w0,_⟩:=h0
 unfold aY.p at hp
 unfold aY.tw aY.twX
 have s0:=w0.rf
 refine bif_ex (fun hb=>?_) (fun hb=>?_)
 ·replace hp:=bif_t hb hp
  obtain rfl:=Option.some.inj hp
  exact ⟨_,_,rfl,rfl,w0,s0,trivial⟩
 ·replace hp:=bif_f hb hp
  obtain rfl:=Option.some.inj hp
  exact ⟨_,_,rfl,rfl,w0,s0,trivial⟩
def aV.Q (H0:Hp) (Ri R0:List Rs)  (r:Int) (v:AV) (H':Hp):Prop:=v = (.int .i64 r)∧Out H0 Ri H' (R0) fun R=>True
def aV.p (F:Nat) (aa:Int) (ab:Int) (aA:Int) (aB:Int) (bc:Int):Option (Int):=(ix ([aa,ab,aA,aB]:List Int) bc).bind fun n3=>some (gt ([aa,ab,aA,aB]:List Int) n3)
theorem aV.P {F:Nat} {aa ab aA aB az bc:Int} {H:Hp} {R0:List Rs}  (h0:Inn H R0 fun R=>True) {r:Int} (hp:aV.p F aa ab aA aB bc = some r):∃ v H',aV.tw F aa ab aA aB az bc H = some (v,H')∧aV.Q H R0 R0  r v H':=by
 obtain ⟨w0,_⟩:=h0
 unfold aV.p at hp
 unfold aV.tw aV.twX
 have s0:=w0.rf
 refine new_k w0 fun H1 w1 s1=>?_
 refine bind_ex (ldI_of (w1.ld (i:=0) rfl rfl)) ?_
 refine bind_ex (ldI_of (w1.ld (i:=0) rfl rfl)) ?_
 refine bind_ex (ldI_of (w1.ld (i:=0) rfl rfl)) ?_
 refine bind_ex (ldI_of (w1.ld (i:=0) rfl rfl)) ?_
 refine newS_k (eInt .i64) w1 (n:=4) (l:=([aa,ab,aA,aB]:List Int)) rfl (CR.cons1 rfl (CR.cons1 rfl (CR.cons1 rfl (CR.cons1 rfl CR.empty)))) rfl fun H2 w2 s2 c2=>?_
 obtain ⟨n3,g3,hp⟩:=bind_some' hp
 obtain ⟨p3,q3,i3,h3,j3⟩:=W.ixo (E:=(eInt .i64)) w2 (i:=0) rfl rfl c2 g3
 refine bind_ex i3 ?_
 have h3:_ = [_]:=h3
 subst h3
 refine bind_ex (ldI_of (j3 0 _ rfl)) ?_
 obtain ⟨w4,s4⟩:=w2.pick' [] 2 rfl rfl rfl
 dsimp only [pk,pks,nth,List.drop] at w4 s4
 obtain rfl:=Option.some.inj hp
 exact ⟨_,_,rfl,rfl,w4,(s0.trans (s1.trans (s2.trans s4))),trivial⟩
def aW.Q (H0:Hp) (Ri R0:List Rs)  (r:Bool) (v:AV) (H':Hp):Prop:=v = (.bool r)∧Out H0 Ri H' (R0) fun R=>True
def aW.p (F:Nat) (az:Int) (bc:Int):Option (Bool):=(bif (bc == 0) then (some true) else ((bif (bc == 3) then ((bif (az == 1) then (some true) else ((bif (bc == 1) then (some (az == (-1))) else (some false))))) else ((bif (bc == 1) then (some (az == (-1))) else (some false))))))
theorem aW.P {F:Nat} {aa ab aA aB az bc:Int} {H:Hp} {R0:List Rs}  (h0:Inn H R0 fun R=>True) {r:Bool} (hp:aW.p F az bc = some r):∃ v H',aW.tw F aa ab aA aB az bc H = some (v,H')∧aW.Q H R0 R0  r v H':=by
 obtain ⟨w0,_⟩:=h0
 unfold aW.p at hp
 unfold aW.tw aW.twX
 have s0:=w0.rf
 refine new_k w0 fun H1 w1 s1=>?_
 refine bif_ex (fun hb=>?_) (fun hb=>?_)
 ·replace hp:=bif_t hb hp
  obtain ⟨w2,s2⟩:=w1.pick' [] 1 rfl rfl rfl
  dsimp only [pk,pks,nth,List.drop] at w2 s2
  obtain rfl:=Option.some.inj hp
  exact ⟨_,_,rfl,rfl,w2,(s0.trans (s1.trans s2)),trivial⟩
 ·replace hp:=bif_f hb hp
  refine bif_ex (fun hb=>?_) (fun hb=>?_)
  ·replace hp:=bif_t hb hp
   refine bind_ex (ldI_of (w1.ld (i:=0) rfl rfl)) ?_
   refine bif_ex (fun hb=>?_) (fun hb=>?_)
   ·replace hp:=bif_t hb hp
    obtain ⟨w3,s3⟩:=w1.pick' [] 1 rfl rfl rfl
    dsimp only [pk,pks,nth,List.drop] at w3 s3
    obtain rfl:=Option.some.inj hp
    exact ⟨_,_,rfl,rfl,w3,(s0.trans (s1.trans s3)),trivial⟩
   ·replace hp:=bif_f hb hp
    refine bif_ex (fun hb=>?_) (fun hb=>?_)
    ·replace hp:=bif_t hb hp
     refine bind_ex (ldI_of (w1.ld (i:=0) rfl rfl)) ?_
     obtain ⟨w4,s4⟩:=w1.pick' [] 1 rfl rfl rfl
     dsimp only [pk,pks,nth,List.drop] at w4 s4
     obtain rfl:=Option.some.inj hp
     exact ⟨_,_,rfl,rfl,w4,(s0.trans (s1.trans s4)),trivial⟩
    ·replace hp:=bif_f hb hp
     obtain ⟨w5,s5⟩:=w1.pick' [] 1 rfl rfl rfl
     dsimp only [pk,pks,nth,List.drop] at w5 s5
     obtain rfl:=Option.some.inj hp
     exact ⟨_,_,rfl,rfl,w5,(s0.trans (s1.trans s5)),trivial⟩
  ·replace hp:=bif_f hb hp
   refine bif_ex (fun hb=>?_) (fun hb=>?_)
   ·replace hp:=bif_t hb hp
    refine bind_ex (ldI_of (w1.ld (i:=0) rfl rfl)) ?_
    obtain ⟨w6,s6⟩:=w1.pick' [] 1 rfl rfl rfl
    dsimp only [pk,pks,nth,List.drop] at w6 s6
    obtain rfl:=Option.some.inj hp
    exact ⟨_,_,rfl,rfl,w6,(s0.trans (s1.trans s6)),trivial⟩
   ·replace hp:=bif_f hb hp
    obtain ⟨w7,s7⟩:=w1.pick' [] 1 rfl rfl rfl
    dsimp only [pk,pks,nth,List.drop] at w7 s7
    obtain rfl:=Option.some.inj hp
    exact ⟨_,_,rfl,rfl,w7,(s0.trans (s1.trans s7)),trivial⟩
def au.Q (H0:Hp) (Ri R0:List Rs)  (r:Bool) (v:AV) (H':Hp):Prop:=v = (.bool r)∧Out H0 Ri H' (R0) fun R=>True
def au.S61 (H0:Hp) (Ri R0:List Rs)  (C:Nat→Nat→Int→Sl→Sl→Int→Hp→OA) (pC:List (Int×Int×Int×Int×Int)→Int→List Bool→List Bool→Int→Option (Bool)):Prop:=∀ {iw iy pi:ON} {hT bU hU lx:Nat} {iz iA pj:Cap} {cp:List (Int×Int×Int×Int×Int)} {jK cd dw:Int} {ek jd:List Bool} {iB pl:List AV},∀ {H:Hp},hT = cp.length→hU = ek.length→lx = jd.length→(Out H0 Ri H (Rs.blk bU [.sl ⟨iw,hT,iz⟩,.int .i64 jK] :: Rs.own ⟨iy,hU,iA⟩ eBool.z iB :: Rs.own ⟨pi,lx,pj⟩ eBool.z pl :: R0) fun R=>ROs (ePair (eInt .i64) (ePair (eInt .i64) (ePair (eInt .i64) (ePair (eInt .i64) (eInt .i64))))) H R ⟨iw,hT,iz⟩ cp∧CR eBool H R iB ek∧CR eBool H R pl jd)→∀ {r:Bool},pC cp cd ek jd dw = some r→∃ v H',C bU 0 cd ⟨iy,hU,iA⟩ ⟨pi,lx,pj⟩ dw H = some (v,H')∧au.Q H0 Ri R0  r v H'
def au.S3927 (H0:Hp) (Ri R0:List Rs)  (C:Nat→Nat→Int→Sl→Sl→Int→Nat→Nat→Int→Hp→OA) (pC:List (Int×Int×Int×Int×Int)→Int→List Bool→List Bool→Int→Int→Int→Int→Int→Int→Int→Option (Bool)):Prop:=∀ {pm po pp:ON} {ly dv lz lA cN:Nat} {pq pr ps:Cap} {iC:List (Int×Int×Int×Int×Int)} {tW cJ ck je jf jg jh ji cX:Int} {gF gG:List Bool} {pt pu:List AV},∀ {H:Hp},ly = iC.length→lz = gF.length→lA = gG.length→(Out H0 Ri H (Rs.blk dv [.sl ⟨pm,ly,pq⟩,.int .i64 tW] :: Rs.own ⟨po,lz,pr⟩ eBool.z pt :: Rs.own ⟨pp,lA,ps⟩ eBool.z pu :: Rs.blk cN [.int .i64 je,.int .i64 jf,.int .i64 jg,.int .i64 jh,.int .i64 ji] :: R0) fun R=>ROs (ePair (eInt .i64) (ePair (eInt .i64) (ePair (eInt .i64) (ePair (eInt .i64) (eInt .i64))))) H R ⟨pm,ly,pq⟩ iC∧CR eBool H R pt gF∧CR eBool H R pu gG)→∀ {r:Bool},pC iC cJ gF gG ck je jf jg jh ji cX = some r→∃ v H',C dv 0 cJ ⟨po,lz,pr⟩ ⟨pp,lA,ps⟩ ck cN 0 cX H = some (v,H')∧au.Q H0 Ri R0  r v H'
def au.pl3927 (F:Nat) (aN:List (Int×Int×Int×Int×Int)→Int→List Bool→List Bool→Int→Option (Bool)):Nat→List (Int×Int×Int×Int×Int)→Int→List Bool→List Bool→Int→Int→Int→Int→Int→Int→Int→Option (Bool)
 | 0,_,_,_,_,_,_,_,_,_,_,_=>none
 | k + 1,iC,cJ,gF,gG,ck,je,jf,jg,jh,ji,cX=>(bif (decide (cX < 4)) then ((aV.p F je jf jg jh cX).bind fun r1=>(aY.p F r1 0 (IntKind.i64.wrap (cJ - 1))).bind fun r3=>(bif (!r3) then (some false) else ((aW.p F ji cX).bind fun r6=>(bif r6 then ((ix gF r1).bind fun n8=>(bif (gt gF n8) then (some false) else ((ix gF r1).bind fun n10=>(some (gF.set n10 true)).bind fun l11=>au.pl3927 F aN k iC cJ l11 gG ck je jf jg jh ji (IntKind.i64.wrap (cX + 1))))) else ((ix gG r1).bind fun n13=>(bif (gt gG n13) then (some false) else ((ix gG r1).bind fun n15=>(some (gG.set n15 true)).bind fun l16=>au.pl3927 F aN k iC cJ gF l16 ck je jf jg jh ji (IntKind.i64.wrap (cX + 1))))))))) else (aN iC cJ gF gG (IntKind.i64.wrap (ck + 1))))
termination_by structural n=>n
theorem au.l3927_P {F:Nat} {H0:Hp} {Ri R0:List Rs}  {C61_:Nat→Nat→Int→Sl→Sl→Int→Hp→OA} {aN:List (Int×Int×Int×Int×Int)→Int→List Bool→List Bool→Int→Option (Bool)} (hC61:au.S61 H0 Ri R0  C61_ aN):∀ k,au.S3927 H0 Ri R0  (au.l3927 F (aV.tw F) (aY.tw F) (aW.tw F) C61_ k) (au.pl3927 F aN k):=by
 intro k
 induction k with
 | zero=>
  intro pm po pp ly dv lz lA cN pq pr ps iC tW cJ ck je jf jg jh ji cX gF gG pt pu H wG wH wI h0 r hp
  exact nomatch (show (none:Option (Bool)) = some r from hp)
 | succ k ih=>
  intro pm po pp ly dv lz lA cN pq pr ps iC tW cJ ck je jf jg jh ji cX gF gG pt pu H wG wH wI h0 r hp
  obtain ⟨w0,s0,tX,lB,lC⟩:=h0
  subst wG
  subst wH
  subst wI
  unfold au.pl3927 at hp
  unfold au.l3927
  refine bif_ex (fun hb=>?_) (fun hb=>?_)
  ·replace hp:=bif_t hb hp
   refine bind_ex (ldI_of (w0.ld (i:=3) rfl rfl)) ?_
   refine bind_ex (ldI_of (w0.ld (i:=3) rfl rfl)) ?_
   refine bind_ex (ldI_of (w0.ld (i:=3) rfl rfl)) ?_
   refine bind_ex (ldI_of (w0.ld (i:=3) rfl rfl)) ?_
   refine bind_ex (ldI_of (w0.ld (i:=3) rfl rfl)) ?_
   obtain ⟨r1,e1,hp⟩:=bind_some' hp
   refine call_ex (aV.P ⟨w0,trivial⟩ e1) ?_
   rintro _ H2 ⟨rfl,w2,s2,_⟩
   refine bind_ex rfl ?_
   obtain ⟨r3,e3,hp⟩:=bind_some' hp
   refine call_ex (aY.P ⟨w2,trivial⟩ e3) ?_
   rintro _ H4 ⟨rfl,w4,s4,_⟩
   refine bind_ex rfl ?_
   refine bif_ex (fun hb=>?_) (fun hb=>?_)
   ·replace hp:=bif_t hb hp
    obtain ⟨w5,s5⟩:=w4.pick' [] 4 rfl rfl rfl
    dsimp only [pk,pks,nth,List.drop] at w5 s5
    obtain rfl:=Option.some.inj hp
    exact ⟨_,_,rfl,rfl,w5,(s0.trans (s2.trans (s4.trans s5))),trivial⟩
   ·replace hp:=bif_f hb hp
    refine bind_ex (ldI_of (w4.ld (i:=3) rfl rfl)) ?_
    refine bind_ex (ldI_of (w4.ld (i:=3) rfl rfl)) ?_
    refine bind_ex (ldI_of (w4.ld (i:=3) rfl rfl)) ?_
    refine bind_ex (ldI_of (w4.ld (i:=3) rfl rfl)) ?_
    refine bind_ex (ldI_of (w4.ld (i:=3) rfl rfl)) ?_
    obtain ⟨r6,e6,hp⟩:=bind_some' hp
    refine call_ex (aW.P ⟨w4,trivial⟩ e6) ?_
    rintro _ H7 ⟨rfl,w7,s7,_⟩
    refine bind_ex rfl ?_
    refine bif_ex (fun hb=>?_) (fun hb=>?_)
    ·replace hp:=bif_t hb hp
     obtain ⟨n8,g8,hp⟩:=bind_some' hp
     obtain ⟨p8,q8,i8,h8,j8⟩:=W.ixo (E:=eBool) w7 (i:=1) rfl rfl (lB.step (s2.trans (s4.trans s7))) g8
     refine bind_ex i8 ?_
     have h8:_ = [_]:=h8
     subst h8
     refine bind_ex (ldB_of (j8 0 _ rfl)) ?_
     refine bif_ex (fun hb=>?_) (fun hb=>?_)
     ·replace hp:=bif_t hb hp
      obtain ⟨w9,s9⟩:=w7.pick' [] 4 rfl rfl rfl
      dsimp only [pk,pks,nth,List.drop] at w9 s9
      obtain rfl:=Option.some.inj hp
      exact ⟨_,_,rfl,rfl,w9,(s0.trans (s2.trans (s4.trans (s7.trans s9)))),trivial⟩
     ·replace hp:=bif_f hb hp
      obtain ⟨n10,g10,hp⟩:=bind_some' hp
      obtain ⟨p10,q10,i10,h10,j10⟩:=W.ixo (E:=eBool) w7 (i:=1) rfl rfl (lB.step (s2.trans (s4.trans s7))) g10
      refine bind_ex i10 ?_
      obtain ⟨l11,e11,hp⟩:=bind_some' hp
      refine sto_k eBool w7 (i:=1) (j:=0) (p:=p10) rfl rfl (lB.step (s2.trans (s4.trans s7))) g10 i10 e11 rfl rfl (fun _ h=>by have h:_ = [_]:=h; subst h; exact rfl) fun H12 k12 w12 s12 c12=>?_
      dsimp only [List.set] at w12 s12 c12
      exact ih rfl ((st_len e11).symm) rfl ⟨w12,(s0.trans (s2.trans (s4.trans (s7.trans s12)))),(tX.step (s2.trans (s4.trans (s7.trans s12)))),c12,(lC.step (s2.trans (s4.trans (s7.trans s12))))⟩ hp
    ·replace hp:=bif_f hb hp
     obtain ⟨n13,g13,hp⟩:=bind_some' hp
     obtain ⟨p13,q13,i13,h13,j13⟩:=W.ixo (E:=eBool) w7 (i:=2) rfl rfl (lC.step (s2.trans (s4.trans s7))) g13
     refine bind_ex i13 ?_
     have h13:_ = [_]:=h13
     subst h13
     refine bind_ex (ldB_of (j13 0 _ rfl)) ?_
     refine bif_ex (fun hb=>?_) (fun hb=>?_)
     ·replace hp:=bif_t hb hp
      obtain ⟨w14,s14⟩:=w7.pick' [] 4 rfl rfl rfl
      dsimp only [pk,pks,nth,List.drop] at w14 s14
      obtain rfl:=Option.some.inj hp
      exact ⟨_,_,rfl,rfl,w14,(s0.trans (s2.trans (s4.trans (s7.trans s14)))),trivial⟩
     ·replace hp:=bif_f hb hp
      obtain ⟨n15,g15,hp⟩:=bind_some' hp
      obtain ⟨p15,q15,i15,h15,j15⟩:=W.ixo (E:=eBool) w7 (i:=2) rfl rfl (lC.step (s2.trans (s4.trans s7))) g15
      refine bind_ex i15 ?_
      obtain ⟨l16,e16,hp⟩:=bind_some' hp
      refine sto_k eBool w7 (i:=2) (j:=0) (p:=p15) rfl rfl (lC.step (s2.trans (s4.trans s7))) g15 i15 e16 rfl rfl (fun _ h=>by have h:_ = [_]:=h; subst h; exact rfl) fun H17 k17 w17 s17 c17=>?_
      dsimp only [List.set] at w17 s17 c17
      exact ih rfl rfl ((st_len e16).symm) ⟨w17,(s0.trans (s2.trans (s4.trans (s7.trans s17)))),(tX.step (s2.trans (s4.trans (s7.trans s17)))),(lB.step (s2.trans (s4.trans (s7.trans s17)))),c17⟩ hp
  ·replace hp:=bif_f hb hp
   obtain ⟨w18,s18⟩:=w0.pick' [0,1,2] 4 rfl rfl rfl
   dsimp only [pk,pks,nth,List.drop] at w18 s18
   exact hC61 rfl rfl rfl ⟨w18,(s0.trans s18),(tX.step s18),(lB.step s18),(lC.step s18)⟩ hp
def au.pl61 (F:Nat) :Nat→List (Int×Int×Int×Int×Int)→Int→List Bool→List Bool→Int→Option (Bool)
 | 0,_,_,_,_,_=>none
 | k + 1,cp,cd,ek,jd,dw=>(bif (decide (dw < (cp.length:Int))) then ((ix cp dw).bind fun n1=>(bif (((gt cp n1).2.2.2.2) != 1) then ((bif (((gt cp n1).2.2.2.2) != (-1)) then (some false) else (au.pl3927 F (au.pl61 F k) F cp cd ek jd dw ((gt cp n1).1) ((gt cp n1).2.1) ((gt cp n1).2.2.1) ((gt cp n1).2.2.2.1) ((gt cp n1).2.2.2.2) 0))) else (au.pl3927 F (au.pl61 F k) F cp cd ek jd dw ((gt cp n1).1) ((gt cp n1).2.1) ((gt cp n1).2.2.1) ((gt cp n1).2.2.2.1) ((gt cp n1).2.2.2.2) 0))) else (some true))
termination_by structural n=>n
theorem au.l61_P {F:Nat} {H0:Hp} {Ri R0:List Rs}  :∀ k,au.S61 H0 Ri R0  (au.l61 F (aV.tw F) (aY.tw F) (aW.tw F)  k) (au.pl61 F  k):=by
 intro k
 induction k with
 | zero=>
  intro iw iy pi hT bU hU lx iz iA pj cp jK cd dw ek jd iB pl H lD lE wJ h0 r hp
  exact nomatch (show (none:Option (Bool)) = some r from hp)
 | succ k ih=>
  intro iw iy pi hT bU hU lx iz iA pj cp jK cd dw ek jd iB pl H lD lE wJ h0 r hp
  obtain ⟨w0,s0,kY,kZ,wK⟩:=h0
  subst lD
  subst lE
  subst wJ
  unfold au.pl61 at hp
  unfold au.l61
  refine bind_ex (ldSl_of (w0.ld (i:=0) rfl rfl)) ?_
  refine bif_ex (fun hb=>?_) (fun hb=>?_)
  ·replace hp:=bif_t hb hp
   refine bind_ex (ldSl_of (w0.ld (i:=0) rfl rfl)) ?_
   obtain ⟨n1,g1,hp⟩:=bind_some' hp
   obtain ⟨p1,q1,i1,h1,j1⟩:=ROs.ixr kY rfl g1
   refine bind_ex i1 ?_
   obtain ⟨_,_,rfl,rfl,_,_,rfl,rfl,_,_,rfl,rfl,_,_,rfl,rfl,rfl⟩:=h1
   refine bind_ex (ldI_of (j1 0 _ rfl)) ?_
   refine bind_ex (ldI_of (j1 1 _ rfl)) ?_
   refine bind_ex (ldI_of (j1 2 _ rfl)) ?_
   refine bind_ex (ldI_of (j1 3 _ rfl)) ?_
   refine bind_ex (ldI_of (j1 4 _ rfl)) ?_
   refine new_k w0 fun H2 w2 s2=>?_
   refine st_k w2 (i:=0) rfl rfl rfl fun H3 w3 s3=>?_
   dsimp only [List.set] at w3 s3
   refine st_k w3 (i:=0) rfl rfl rfl fun H4 w4 s4=>?_
   dsimp only [List.set] at w4 s4
   refine st_k w4 (i:=0) rfl rfl rfl fun H5 w5 s5=>?_
   dsimp only [List.set] at w5 s5
   refine st_k w5 (i:=0) rfl rfl rfl fun H6 w6 s6=>?_
   dsimp only [List.set] at w6 s6
   refine st_k w6 (i:=0) rfl rfl rfl fun H7 w7 s7=>?_
   dsimp only [List.set] at w7 s7
   refine bind_ex (ldI_of (w7.ld (i:=0) rfl rfl)) ?_
   refine bif_ex (fun hb=>?_) (fun hb=>?_)
   ·replace hp:=bif_t hb hp
    refine bind_ex (ldI_of (w7.ld (i:=0) rfl rfl)) ?_
    refine bif_ex (fun hb=>?_) (fun hb=>?_)
    ·replace hp:=bif_t hb hp
     obtain ⟨w8,s8⟩:=w7.pick' [] 4 rfl rfl rfl
     dsimp only [pk,pks,nth,List.drop] at w8 s8
     obtain rfl:=Option.some.inj hp
     exact ⟨_,_,rfl,rfl,w8,(s0.trans (s2.trans (s3.trans (s4.trans (s5.trans (s6.trans (s7.trans s8))))))),trivial⟩
    ·replace hp:=bif_f hb hp
     obtain ⟨w9,s9⟩:=w7.pick' [1,2,3,0] 4 rfl rfl rfl
     dsimp only [pk,pks,nth,List.drop] at w9 s9
     exact au.l3927_P (@ih) F rfl rfl rfl ⟨w9,(s0.trans (s2.trans (s3.trans (s4.trans (s5.trans (s6.trans (s7.trans s9))))))),(kY.step (s2.trans (s3.trans (s4.trans (s5.trans (s6.trans (s7.trans s9))))))),(kZ.step (s2.trans (s3.trans (s4.trans (s5.trans (s6.trans (s7.trans s9))))))),(wK.step (s2.trans (s3.trans (s4.trans (s5.trans (s6.trans (s7.trans s9)))))))⟩ hp
   ·replace hp:=bif_f hb hp
    obtain ⟨w10,s10⟩:=w7.pick' [1,2,3,0] 4 rfl rfl rfl
    dsimp only [pk,pks,nth,List.drop] at w10 s10
    exact au.l3927_P (@ih) F rfl rfl rfl ⟨w10,(s0.trans (s2.trans (s3.trans (s4.trans (s5.trans (s6.trans (s7.trans s10))))))),(kY.step (s2.trans (s3.trans (s4.trans (s5.trans (s6.trans (s7.trans s10))))))),(kZ.step (s2.trans (s3.trans (s4.trans (s5.trans (s6.trans (s7.trans s10))))))),(wK.step (s2.trans (s3.trans (s4.trans (s5.trans (s6.trans (s7.trans s10)))))))⟩ hp
  ·replace hp:=bif_f hb hp
   obtain ⟨w11,s11⟩:=w0.pick' [] 3 rfl rfl rfl
   dsimp only [pk,pks,nth,List.drop] at w11 s11
   obtain rfl:=Option.some.inj hp
   exact ⟨_,_,rfl,rfl,w11,(s0.trans s11),trivial⟩
def au.p (F:Nat) (ad:List (Int×Int×Int×Int×Int)):Option (Bool):=(mkn (IntKind.i64.wrap (2 * (ad.length:Int))) false).bind fun l2=>(mkn (IntKind.i64.wrap (2 * (ad.length:Int))) false).bind fun l4=>au.pl61 F F ad (IntKind.i64.wrap (2 * (ad.length:Int))) l2 l4 0
theorem au.P {F:Nat} {ax:ON} {aq:Nat} {ay:Cap} {ad:List (Int×Int×Int×Int×Int)} {ab:Int} {H:Hp} {R0:List Rs} (bd:aq = ad.length) (h0:Inn H R0 fun R=>ROs (ePair (eInt .i64) (ePair (eInt .i64) (ePair (eInt .i64) (ePair (eInt .i64) (eInt .i64))))) H R ⟨ax,aq,ay⟩ ad) {r:Bool} (hp:au.p F ad = some r):∃ v H',au.tw F ⟨ax,aq,ay⟩ ab H = some (v,H')∧au.Q H R0 R0  r v H':=by
 obtain ⟨w0,aM⟩:=h0
 subst bd
 unfold au.p at hp
 unfold au.tw au.twX
 have s0:=w0.rf
 refine new_k w0 fun H1 w1 s1=>?_
 refine bind_ex (ldSl_of (w1.ld (i:=0) rfl rfl)) ?_
 obtain ⟨l2,e2,hp⟩:=bind_some' hp
 refine mk_k eBool false w1 rfl rfl rfl e2 fun H3 k3 w3 s3 c3=>?_
 obtain ⟨l4,e4,hp⟩:=bind_some' hp
 refine mk_k eBool false w3 rfl rfl rfl e4 fun H5 k5 w5 s5 c5=>?_
 obtain ⟨w6,s6⟩:=w5.pick' [2,1,0] 3 rfl rfl rfl
 dsimp only [pk,pks,nth,List.drop] at w6 s6
 exact au.l61_P F rfl rfl rfl ⟨w6,(s0.trans (s1.trans (s3.trans (s5.trans s6)))),(aM.step (s1.trans (s3.trans (s5.trans s6)))),(c3.step (s5.trans s6)),(c5.step s6)⟩ hp
def ak.Q (H0:Hp) (Ri R0:List Rs)  (r:Int×Int) (v:AV) (H':Hp):Prop:=v = (.tup [(.int .i64 r.1),(.int .i64 r.2)])∧Out H0 Ri H' (R0) fun R=>True
def ak.S13 (H0:Hp) (Ri R0:List Rs)  (C:Int→Bool→Nat→Nat→Int→Hp→OA) (pC:Int→Bool→List (Int×Int×Int×Int×Int)→Int→Option (Int×Int)):Prop:=∀ {cl tY eL:Int} {eK:Bool} {pv:ON} {lF cv:Nat} {pw:Cap} {jj:List (Int×Int×Int×Int×Int)},∀ {H:Hp},lF = jj.length→(Out H0 Ri H (Rs.blk cv [.sl ⟨pv,lF,pw⟩,.int .i64 tY] :: R0) fun R=>ROs (ePair (eInt .i64) (ePair (eInt .i64) (ePair (eInt .i64) (ePair (eInt .i64) (eInt .i64))))) H R ⟨pv,lF,pw⟩ jj)→∀ {r:Int×Int},pC cl eK jj eL = some r→∃ v H',C cl eK cv 0 eL H = some (v,H')∧ak.Q H0 Ri R0  r v H'
def ak.S213 (H0:Hp) (Ri R0:List Rs)  (C:Int→Bool→Nat→Nat→Int→Int→Hp→OA) (pC:Int→Bool→List (Int×Int×Int×Int×Int)→Int→Int→Option (Int×Int)):Prop:=∀ {cP tZ cK cQ:Int} {cU:Bool} {px:ON} {lG eb:Nat} {py:Cap} {fq:List (Int×Int×Int×Int×Int)},∀ {H:Hp},lG = fq.length→(Out H0 Ri H (Rs.blk eb [.sl ⟨px,lG,py⟩,.int .i64 tZ] :: R0) fun R=>ROs (ePair (eInt .i64) (ePair (eInt .i64) (ePair (eInt .i64) (ePair (eInt .i64) (eInt .i64))))) H R ⟨px,lG,py⟩ fq)→∀ {r:Int×Int},pC cP cU fq cK cQ = some r→∃ v H',C cP cU eb 0 cK cQ H = some (v,H')∧ak.Q H0 Ri R0  r v H'
def ak.pj3 (F:Nat) (ft:Int→Bool→List (Int×Int×Int×Int×Int)→Int→Option (Int×Int)) (iY:Int) (jW:Bool) (lH:List (Int×Int×Int×Int×Int)) (jY:Int):Option (Int×Int):=ft iY jW lH (IntKind.i64.wrap (jY + 1))
theorem ak.j3_P {F:Nat} {H0:Hp} {Ri R0:List Rs}  {C13_:Int→Bool→Nat→Nat→Int→Hp→OA} {ft:Int→Bool→List (Int×Int×Int×Int×Int)→Int→Option (Int×Int)} (hC13:ak.S13 H0 Ri R0  C13_ ft) {iY EK jY:Int} {jW:Bool} {wL:ON} {t_ jX:Nat} {wM:Cap} {lH:List (Int×Int×Int×Int×Int)} {H:Hp} (EL:t_ = lH.length) (h0:Out H0 Ri H (Rs.blk jX [.sl ⟨wL,t_,wM⟩,.int .i64 EK] :: R0) fun R=>ROs (ePair (eInt .i64) (ePair (eInt .i64) (ePair (eInt .i64) (ePair (eInt .i64) (eInt .i64))))) H R ⟨wL,t_,wM⟩ lH) {r:Int×Int} (hp:ak.pj3 F ft iY jW lH jY = some r):∃ v H',ak.j3 F (aV.tw F) (aW.tw F) C13_ iY jW jX 0 jY H = some (v,H')∧ak.Q H0 Ri R0  r v H':=by
 obtain ⟨w0,s0,EM⟩:=h0
 subst EL
 unfold ak.pj3 at hp
 unfold ak.j3
 exact hC13 rfl ⟨w0,s0,EM⟩ hp
def ak.pj4 (F:Nat) (ft:Int→Bool→List (Int×Int×Int×Int×Int)→Int→Option (Int×Int)) (jZ:Int) (j_:Bool) (lI:List (Int×Int×Int×Int×Int)) (ka:Int):Option (Int×Int):=ak.pj3 F ft jZ j_ lI ka
theorem ak.j4_P {F:Nat} {H0:Hp} {Ri R0:List Rs}  {C13_:Int→Bool→Nat→Nat→Int→Hp→OA} {ft:Int→Bool→List (Int×Int×Int×Int×Int)→Int→Option (Int×Int)} (hC13:ak.S13 H0 Ri R0  C13_ ft) {jZ EN ka:Int} {j_:Bool} {wN:ON} {ua oV:Nat} {wO:Cap} {lI:List (Int×Int×Int×Int×Int)} {H:Hp} (EO:ua = lI.length) (h0:Out H0 Ri H (Rs.blk oV [.sl ⟨wN,ua,wO⟩,.int .i64 EN] :: R0) fun R=>ROs (ePair (eInt .i64) (ePair (eInt .i64) (ePair (eInt .i64) (ePair (eInt .i64) (eInt .i64))))) H R ⟨wN,ua,wO⟩ lI) {r:Int×Int} (hp:ak.pj4 F ft jZ j_ lI ka = some r):∃ v H',ak.j4 F (aV.tw F) (aW.tw F) C13_ jZ j_ oV 0 ka H = some (v,H')∧ak.Q H0 Ri R0  r v H':=by
 obtain ⟨w0,s0,EP⟩:=h0
 subst EO
 unfold ak.pj4 at hp
 unfold ak.j4
 exact ak.j3_P (@hC13) rfl ⟨w0,s0,EP⟩ hp
def ak.pl213 (F:Nat) (ft:Int→Bool→List (Int×Int×Int×Int×Int)→Int→Option (Int×Int)):Nat→Int→Bool→List (Int×Int×Int×Int×Int)→Int→Int→Option (Int×Int)
 | 0,_,_,_,_,_=>none
 | k + 1,cP,cU,fq,cK,cQ=>(bif (decide (cQ < 4)) then ((ix fq cK).bind fun n1=>(aV.p F ((gt fq n1).1) ((gt fq n1).2.1) ((gt fq n1).2.2.1) ((gt fq n1).2.2.2.1) cQ).bind fun r2=>(bif (r2 == cP) then ((ix fq cK).bind fun n4=>(aW.p F ((gt fq n4).2.2.2.2) cQ).bind fun r5=>(bif (r5 == cU) then (some (cK,cQ)) else (ak.pl213 F ft k cP cU fq cK (IntKind.i64.wrap (cQ + 1))))) else (ak.pl213 F ft k cP cU fq cK (IntKind.i64.wrap (cQ + 1))))) else (ak.pj4 F ft cP cU fq cK))
termination_by structural n=>n
theorem ak.l213_P {F:Nat} {H0:Hp} {Ri R0:List Rs}  {C13_:Int→Bool→Nat→Nat→Int→Hp→OA} {ft:Int→Bool→List (Int×Int×Int×Int×Int)→Int→Option (Int×Int)} (hC13:ak.S13 H0 Ri R0  C13_ ft):∀ k,ak.S213 H0 Ri R0  (ak.l213 F (aV.tw F) (aW.tw F) C13_ k) (ak.pl213 F ft k):=by
 intro k
 induction k with
 | zero=>
  intro cP tZ cK cQ cU px lG eb py fq H wP h0 r hp
  exact nomatch (show (none:Option (Int×Int)) = some r from hp)
 | succ k ih=>
  intro cP tZ cK cQ cU px lG eb py fq H wP h0 r hp
  obtain ⟨w0,s0,lJ⟩:=h0
  subst wP
  unfold ak.pl213 at hp
  unfold ak.l213
  refine bif_ex (fun hb=>?_) (fun hb=>?_)
  ·replace hp:=bif_t hb hp
   refine bind_ex (ldSl_of (w0.ld (i:=0) rfl rfl)) ?_
   obtain ⟨n1,g1,hp⟩:=bind_some' hp
   obtain ⟨p1,q1,i1,h1,j1⟩:=ROs.ixr lJ rfl g1
   refine bind_ex i1 ?_
   obtain ⟨_,_,rfl,rfl,_,_,rfl,rfl,_,_,rfl,rfl,_,_,rfl,rfl,rfl⟩:=h1
   refine bind_ex (ldI_of (j1 0 _ rfl)) ?_
   refine bind_ex (ldI_of (j1 1 _ rfl)) ?_
   refine bind_ex (ldI_of (j1 2 _ rfl)) ?_
   refine bind_ex (ldI_of (j1 3 _ rfl)) ?_
   refine bind_ex (ldI_of (j1 4 _ rfl)) ?_
   obtain ⟨r2,e2,hp⟩:=bind_some' hp
   refine call_ex (aV.P ⟨w0,trivial⟩ e2) ?_
   rintro _ H3 ⟨rfl,w3,s3,_⟩
   refine bind_ex rfl ?_
   refine bif_ex (fun hb=>?_) (fun hb=>?_)
   ·replace hp:=bif_t hb hp
    refine bind_ex (ldSl_of (w3.ld (i:=0) rfl rfl)) ?_
    obtain ⟨n4,g4,hp⟩:=bind_some' hp
    obtain ⟨p4,q4,i4,h4,j4⟩:=ROs.ixr (lJ.step s3) rfl g4
    refine bind_ex i4 ?_
    obtain ⟨_,_,rfl,rfl,_,_,rfl,rfl,_,_,rfl,rfl,_,_,rfl,rfl,rfl⟩:=h4
    refine bind_ex (ldI_of (j4 0 _ rfl)) ?_
    refine bind_ex (ldI_of (j4 1 _ rfl)) ?_
    refine bind_ex (ldI_of (j4 2 _ rfl)) ?_
    refine bind_ex (ldI_of (j4 3 _ rfl)) ?_
    refine bind_ex (ldI_of (j4 4 _ rfl)) ?_
    obtain ⟨r5,e5,hp⟩:=bind_some' hp
    refine call_ex (aW.P ⟨w3,trivial⟩ e5) ?_
    rintro _ H6 ⟨rfl,w6,s6,_⟩
    refine bind_ex rfl ?_
    refine bif_ex (fun hb=>?_) (fun hb=>?_)
    ·replace hp:=bif_t hb hp
     obtain ⟨w7,s7⟩:=w6.pick' [] 1 rfl rfl rfl
     dsimp only [pk,pks,nth,List.drop] at w7 s7
     obtain rfl:=Option.some.inj hp
     exact ⟨_,_,rfl,rfl,w7,(s0.trans (s3.trans (s6.trans s7))),trivial⟩
    ·replace hp:=bif_f hb hp
     exact ih rfl ⟨w6,(s0.trans (s3.trans s6)),(lJ.step (s3.trans s6))⟩ hp
   ·replace hp:=bif_f hb hp
    exact ih rfl ⟨w3,(s0.trans s3),(lJ.step s3)⟩ hp
  ·replace hp:=bif_f hb hp
   exact ak.j4_P (@hC13) rfl ⟨w0,s0,lJ⟩ hp
def ak.pl13 (F:Nat) :Nat→Int→Bool→List (Int×Int×Int×Int×Int)→Int→Option (Int×Int)
 | 0,_,_,_,_=>none
 | k + 1,cl,eK,jj,eL=>(bif (decide (eL < (jj.length:Int))) then (ak.pl213 F (ak.pl13 F k) F cl eK jj eL 0) else (some ((-1),(-1))))
termination_by structural n=>n
theorem ak.l13_P {F:Nat} {H0:Hp} {Ri R0:List Rs}  :∀ k,ak.S13 H0 Ri R0  (ak.l13 F (aV.tw F) (aW.tw F)  k) (ak.pl13 F  k):=by
 intro k
 induction k with
 | zero=>
  intro cl tY eL eK pv lF cv pw jj H wQ h0 r hp
  exact nomatch (show (none:Option (Int×Int)) = some r from hp)
 | succ k ih=>
  intro cl tY eL eK pv lF cv pw jj H wQ h0 r hp
  obtain ⟨w0,s0,EQ⟩:=h0
  subst wQ
  unfold ak.pl13 at hp
  unfold ak.l13
  refine bind_ex (ldSl_of (w0.ld (i:=0) rfl rfl)) ?_
  refine bif_ex (fun hb=>?_) (fun hb=>?_)
  ·replace hp:=bif_t hb hp
   exact ak.l213_P (@ih) F rfl ⟨w0,s0,EQ⟩ hp
  ·replace hp:=bif_f hb hp
   obtain ⟨w1,s1⟩:=w0.pick' [] 1 rfl rfl rfl
   dsimp only [pk,pks,nth,List.drop] at w1 s1
   obtain rfl:=Option.some.inj hp
   exact ⟨_,_,rfl,rfl,w1,(s0.trans s1),trivial⟩
def ak.p (F:Nat) (ad:List (Int×Int×Int×Int×Int)) (ah:Int) (bb:Bool):Option (Int×Int):=ak.pl13 F F ah bb ad 0
theorem ak.P {F:Nat} {ax:ON} {aq:Nat} {ay:Cap} {ad:List (Int×Int×Int×Int×Int)} {ab ah:Int} {bb:Bool} {H:Hp} {R0:List Rs} (bd:aq = ad.length) (h0:Inn H R0 fun R=>ROs (ePair (eInt .i64) (ePair (eInt .i64) (ePair (eInt .i64) (ePair (eInt .i64) (eInt .i64))))) H R ⟨ax,aq,ay⟩ ad) {r:Int×Int} (hp:ak.p F ad ah bb = some r):∃ v H',ak.tw F ⟨ax,aq,ay⟩ ab ah bb H = some (v,H')∧ak.Q H R0 R0  r v H':=by
 obtain ⟨w0,aM⟩:=h0
 subst bd
 unfold ak.p at hp
 unfold ak.tw ak.twX
 have s0:=w0.rf
 refine new_k w0 fun H1 w1 s1=>?_
 exact ak.l13_P F rfl ⟨w1,(s0.trans s1),(aM.step s1)⟩ hp
def bp.Q (H0:Hp) (Ri R0:List Rs)  (r:Int) (v:AV) (H':Hp):Prop:=v = (.int .i64 r)∧Out H0 Ri H' (R0) fun R=>True
def bp.p (F:Nat) (ad:List (Int×Int×Int×Int×Int)) (ah:Int):Option (Int):=(ix ad (IntKind.i64.wrap (Int.tdiv ah 4))).bind fun n2=>(aV.p F ((gt ad n2).1) ((gt ad n2).2.1) ((gt ad n2).2.2.1) ((gt ad n2).2.2.2.1) (Int.tmod (IntKind.i64.wrap ((Int.tmod ah 4) + 1)) 4)).bind fun r9=>(aW.p F ((gt ad n2).2.2.2.2) (Int.tmod (IntKind.i64.wrap ((Int.tmod ah 4) + 1)) 4)).bind fun r12=>(ak.p F ad r9 (!r12)).bind fun r15=>some (IntKind.i64.wrap ((IntKind.i64.wrap (4 * r15.1)) + r15.2))
theorem bp.P {F:Nat} {ax:ON} {aq:Nat} {ay:Cap} {ad:List (Int×Int×Int×Int×Int)} {ab ah:Int} {H:Hp} {R0:List Rs} (bd:aq = ad.length) (h0:Inn H R0 fun R=>ROs (ePair (eInt .i64) (ePair (eInt .i64) (ePair (eInt .i64) (ePair (eInt .i64) (eInt .i64))))) H R ⟨ax,aq,ay⟩ ad) {r:Int} (hp:bp.p F ad ah = some r):∃ v H',bp.tw F ⟨ax,aq,ay⟩ ab ah H = some (v,H')∧bp.Q H R0 R0  r v H':=by
 obtain ⟨w0,aM⟩:=h0
 subst bd
 unfold bp.p at hp
 unfold bp.tw bp.twX
 have s0:=w0.rf
 refine new_k w0 fun H1 w1 s1=>?_
 refine bind_ex (ldSl_of (w1.ld (i:=0) rfl rfl)) ?_
 obtain ⟨n2,g2,hp⟩:=bind_some' hp
 obtain ⟨p2,q2,i2,h2,j2⟩:=ROs.ixr (aM.step s1) rfl g2
 refine bind_ex i2 ?_
 obtain ⟨_,_,rfl,rfl,_,_,rfl,rfl,_,_,rfl,rfl,_,_,rfl,rfl,rfl⟩:=h2
 refine bind_ex (ldI_of (j2 0 _ rfl)) ?_
 refine bind_ex (ldI_of (j2 1 _ rfl)) ?_
 refine bind_ex (ldI_of (j2 2 _ rfl)) ?_
 refine bind_ex (ldI_of (j2 3 _ rfl)) ?_
 refine bind_ex (ldI_of (j2 4 _ rfl)) ?_
 refine new_k w1 fun H3 w3 s3=>?_
 refine st_k w3 (i:=0) rfl rfl rfl fun H4 w4 s4=>?_
 dsimp only [List.set] at w4 s4
 refine st_k w4 (i:=0) rfl rfl rfl fun H5 w5 s5=>?_
 dsimp only [List.set] at w5 s5
 refine st_k w5 (i:=0) rfl rfl rfl fun H6 w6 s6=>?_
 dsimp only [List.set] at w6 s6
 refine st_k w6 (i:=0) rfl rfl rfl fun H7 w7 s7=>?_
 dsimp only [List.set] at w7 s7
 refine st_k w7 (i:=0) rfl rfl rfl fun H8 w8 s8=>?_
 dsimp only [List.set] at w8 s8
 refine bind_ex (ldSl_of (w8.ld (i:=1) rfl rfl)) ?_
 refine bind_ex (ldI_of (w8.ld (i:=1) rfl rfl)) ?_
 refine bind_ex (ldI_of (w8.ld (i:=0) rfl rfl)) ?_
 refine bind_ex (ldI_of (w8.ld (i:=0) rfl rfl)) ?_
 refine bind_ex (ldI_of (w8.ld (i:=0) rfl rfl)) ?_
 refine bind_ex (ldI_of (w8.ld (i:=0) rfl rfl)) ?_
 refine bind_ex (ldI_of (w8.ld (i:=0) rfl rfl)) ?_
 obtain ⟨r9,e9,hp⟩:=bind_some' hp
 refine call_ex (aV.P ⟨w8,trivial⟩ e9) ?_
 rintro _ H10 ⟨rfl,w10,s10,_⟩
 refine bind_ex rfl ?_
 refine ifs_ex (W.cons_of (Rn:=[]) w8 w10 s10) ?_
 refine bind_ex (ldI_of (w10.ld (i:=0) rfl rfl)) ?_
 refine bind_ex (ldI_of (w10.ld (i:=0) rfl rfl)) ?_
 refine bind_ex (ldI_of (w10.ld (i:=0) rfl rfl)) ?_
 refine bind_ex (ldI_of (w10.ld (i:=0) rfl rfl)) ?_
 refine bind_ex (ldI_of (w10.ld (i:=0) rfl rfl)) ?_
 obtain ⟨r12,e12,hp⟩:=bind_some' hp
 refine call_ex (aW.P ⟨w10,trivial⟩ e12) ?_
 rintro _ H13 ⟨rfl,w13,s13,_⟩
 refine bind_ex rfl ?_
 refine ifs_ex (W.cons_of (Rn:=[]) w10 w13 s13) ?_
 obtain ⟨r15,e15,hp⟩:=bind_some' hp
 refine call_ex (ak.P rfl ⟨w13,(aM.step (s1.trans (s3.trans (s4.trans (s5.trans (s6.trans (s7.trans (s8.trans (s10.trans s13)))))))))⟩ e15) ?_
 rintro _ H16 ⟨rfl,w16,s16,_⟩
 refine bind_ex rfl ?_
 refine bind_ex rfl ?_
 refine bind_ex rfl ?_
 refine bind_ex rfl ?_
 refine bind_ex rfl ?_
 obtain ⟨w17,s17⟩:=w16.pick' [] 2 rfl rfl rfl
 dsimp only [pk,pks,nth,List.drop] at w17 s17
 obtain rfl:=Option.some.inj hp
 exact ⟨_,_,rfl,rfl,w17,(s0.trans (s1.trans (s3.trans (s4.trans (s5.trans (s6.trans (s7.trans (s8.trans (s10.trans (s13.trans (s16.trans s17))))))))))),trivial⟩
def ai.Q (H0:Hp) (Ri R0:List Rs)  (r:List (List Int)) (v:AV) (H':Hp):Prop:=∃ o0a:ON,∃ o0n:Nat,∃ o0c:Cap,∃ o0k:List AV,v = (.sl ⟨o0a,o0n,o0c⟩)∧o0n = (r).length∧Out H0 Ri H' (Rs.own ⟨o0a,o0n,o0c⟩ (eSl (eInt .i64)).z o0k :: R0) fun R=>CR (eSl (eInt .i64)) H' R o0k (r)
def ai.S61 (H0:Hp) (Ri R0:List Rs)  (C:Nat→Nat→Sl→Sl→Int→Hp→OA) (pC:List (Int×Int×Int×Int×Int)→List (List Int)→List Bool→Int→Option (List (List Int))):Prop:=∀ {iw pz iy:ON} {hT bU lK hU:Nat} {iz pA iA:Cap} {cp:List (Int×Int×Int×Int×Int)} {jK cb:Int} {iD:List (List Int)} {pB iB:List AV} {ek:List Bool},∀ {H:Hp},hT = cp.length→lK = iD.length→hU = ek.length→(Out H0 Ri H (Rs.blk bU [.sl ⟨iw,hT,iz⟩,.int .i64 jK] :: Rs.own ⟨pz,lK,pA⟩ (eSl (eInt .i64)).z pB :: Rs.own ⟨iy,hU,iA⟩ eBool.z iB :: R0) fun R=>ROs (ePair (eInt .i64) (ePair (eInt .i64) (ePair (eInt .i64) (ePair (eInt .i64) (eInt .i64))))) H R ⟨iw,hT,iz⟩ cp∧CR (eSl (eInt .i64)) H R pB iD∧CR eBool H R iB ek)→∀ {r:List (List Int)},pC cp iD ek cb = some r→∃ v H',C bU 0 ⟨pz,lK,pA⟩ ⟨iy,hU,iA⟩ cb H = some (v,H')∧ai.Q H0 Ri R0  r v H'
def ai.pj4 (F:Nat) (aN:List (Int×Int×Int×Int×Int)→List (List Int)→List Bool→Int→Option (List (List Int))) (lL:List (Int×Int×Int×Int×Int)) (lM:List (List Int)) (lN:List Bool) (kb:Int):Option (List (List Int)):=aN lL lM lN (IntKind.i64.wrap (kb + 1))
theorem ai.j4_P {F:Nat} {H0:Hp} {Ri R0:List Rs}  {C61_:Nat→Nat→Sl→Sl→Int→Hp→OA} {aN:List (Int×Int×Int×Int×Int)→List (List Int)→List Bool→Int→Option (List (List Int))} (hC61:ai.S61 H0 Ri R0  C61_ aN) {wR wS wT:ON} {ub oW uc ud:Nat} {wU wV wW:Cap} {lL:List (Int×Int×Int×Int×Int)} {ER kb:Int} {lM:List (List Int)} {wX wY:List AV} {lN:List Bool} {H:Hp} (ES:ub = lL.length) (ET:uc = lM.length) (EU:ud = lN.length) (h0:Out H0 Ri H (Rs.blk oW [.sl ⟨wR,ub,wU⟩,.int .i64 ER] :: Rs.own ⟨wS,uc,wV⟩ (eSl (eInt .i64)).z wX :: Rs.own ⟨wT,ud,wW⟩ eBool.z wY :: R0) fun R=>ROs (ePair (eInt .i64) (ePair (eInt .i64) (ePair (eInt .i64) (ePair (eInt .i64) (eInt .i64))))) H R ⟨wR,ub,wU⟩ lL∧CR (eSl (eInt .i64)) H R wX lM∧CR eBool H R wY lN) {r:List (List Int)} (hp:ai.pj4 F aN lL lM lN kb = some r):∃ v H',ai.j4 F (bp.tw F) C61_ oW 0 ⟨wS,uc,wV⟩ ⟨wT,ud,wW⟩ kb H = some (v,H')∧ai.Q H0 Ri R0  r v H':=by
 obtain ⟨w0,s0,EV,EW,EX⟩:=h0
 subst ES
 subst ET
 subst EU
 unfold ai.pj4 at hp
 unfold ai.j4
 exact hC61 rfl rfl rfl ⟨w0,s0,EV,EW,EX⟩ hp
def ai.S7853 (H0:Hp) (Ri R0:List Rs)  (C:Nat→Nat→Sl→Sl→Int→Sl→Int→Hp→OA) (pC:List (Int×Int×Int×Int×Int)→List (List Int)→List Bool→Int→List Int→Int→Option (List (List Int))):Prop:=∀ {pD pE pF pG:ON} {lO dx lP lQ lR:Nat} {pH pI pJ pK:Cap} {iE:List (Int×Int×Int×Int×Int)} {ue ec cY:Int} {jk:List (List Int)} {pL pM pN:List AV} {hX:List Bool} {jl:List Int},∀ {H:Hp},lO = iE.length→lP = jk.length→lQ = hX.length→lR = jl.length→(Out H0 Ri H (Rs.blk dx [.sl ⟨pD,lO,pH⟩,.int .i64 ue] :: Rs.own ⟨pE,lP,pI⟩ (eSl (eInt .i64)).z pL :: Rs.own ⟨pF,lQ,pJ⟩ eBool.z pM :: Rs.own ⟨pG,lR,pK⟩ (eInt .i64).z pN :: R0) fun R=>ROs (ePair (eInt .i64) (ePair (eInt .i64) (ePair (eInt .i64) (ePair (eInt .i64) (eInt .i64))))) H R ⟨pD,lO,pH⟩ iE∧CR (eSl (eInt .i64)) H R pL jk∧CR eBool H R pM hX∧CR (eInt .i64) H R pN jl)→∀ {r:List (List Int)},pC iE jk hX ec jl cY = some r→∃ v H',C dx 0 ⟨pE,lP,pI⟩ ⟨pF,lQ,pJ⟩ ec ⟨pG,lR,pK⟩ cY H = some (v,H')∧ai.Q H0 Ri R0  r v H'
def ai.pj5 (F:Nat) (aN:List (Int×Int×Int×Int×Int)→List (List Int)→List Bool→Int→Option (List (List Int))) (lS:List (Int×Int×Int×Int×Int)) (lT:List (List Int)) (lU:List Bool) (kd:Int):Option (List (List Int)):=aN lS lT lU (IntKind.i64.wrap (kd + 1))
theorem ai.j5_P {F:Nat} {H0:Hp} {Ri R0:List Rs}  {C61_:Nat→Nat→Sl→Sl→Int→Hp→OA} {aN:List (Int×Int×Int×Int×Int)→List (List Int)→List Bool→Int→Option (List (List Int))} (hC61:ai.S61 H0 Ri R0  C61_ aN) {wZ w_ xa:ON} {ug oX uh ui:Nat} {xb xc xd:Cap} {lS:List (Int×Int×Int×Int×Int)} {EY kd:Int} {lT:List (List Int)} {xe xf:List AV} {lU:List Bool} {H:Hp} (EZ:ug = lS.length) (E_:uh = lT.length) (Fa:ui = lU.length) (h0:Out H0 Ri H (Rs.blk oX [.sl ⟨wZ,ug,xb⟩,.int .i64 EY] :: Rs.own ⟨w_,uh,xc⟩ (eSl (eInt .i64)).z xe :: Rs.own ⟨xa,ui,xd⟩ eBool.z xf :: R0) fun R=>ROs (ePair (eInt .i64) (ePair (eInt .i64) (ePair (eInt .i64) (ePair (eInt .i64) (eInt .i64))))) H R ⟨wZ,ug,xb⟩ lS∧CR (eSl (eInt .i64)) H R xe lT∧CR eBool H R xf lU) {r:List (List Int)} (hp:ai.pj5 F aN lS lT lU kd = some r):∃ v H',ai.j5 F (bp.tw F) C61_ oX 0 ⟨w_,uh,xc⟩ ⟨xa,ui,xd⟩ kd H = some (v,H')∧ai.Q H0 Ri R0  r v H':=by
 obtain ⟨w0,s0,Fb,Fc,Fd⟩:=h0
 subst EZ
 subst E_
 subst Fa
 unfold ai.pj5 at hp
 unfold ai.j5
 exact hC61 rfl rfl rfl ⟨w0,s0,Fb,Fc,Fd⟩ hp
def ai.pj6 (F:Nat) (aN:List (Int×Int×Int×Int×Int)→List (List Int)→List Bool→Int→Option (List (List Int))) (lV:List (Int×Int×Int×Int×Int)) (lW:List (List Int)) (lX:List Bool) (ke:Int) (jL:List Int):Option (List (List Int)):=(apn lW ([jL]:List (List Int))).bind fun l3=>ai.pj5 F aN lV l3 lX ke
theorem ai.j6_P {F:Nat} {H0:Hp} {Ri R0:List Rs}  {C61_:Nat→Nat→Sl→Sl→Int→Hp→OA} {aN:List (Int×Int×Int×Int×Int)→List (List Int)→List Bool→Int→Option (List (List Int))} (hC61:ai.S61 H0 Ri R0  C61_ aN) {xg xh xi xj:ON} {uj oY uk ul um:Nat} {xl xm xn xo:Cap} {lV:List (Int×Int×Int×Int×Int)} {Fe ke:Int} {lW:List (List Int)} {xp xq xt:List AV} {lX:List Bool} {jL:List Int} {H:Hp} (Ff:uj = lV.length) (Fg:uk = lW.length) (Fh:ul = lX.length) (Fi:um = jL.length) (h0:Out H0 Ri H (Rs.blk oY [.sl ⟨xg,uj,xl⟩,.int .i64 Fe] :: Rs.own ⟨xh,uk,xm⟩ (eSl (eInt .i64)).z xp :: Rs.own ⟨xi,ul,xn⟩ eBool.z xq :: Rs.own ⟨xj,um,xo⟩ (eInt .i64).z xt :: R0) fun R=>ROs (ePair (eInt .i64) (ePair (eInt .i64) (ePair (eInt .i64) (ePair (eInt .i64) (eInt .i64))))) H R ⟨xg,uj,xl⟩ lV∧CR (eSl (eInt .i64)) H R xp lW∧CR eBool H R xq lX∧CR (eInt .i64) H R xt jL) {r:List (List Int)} (hp:ai.pj6 F aN lV lW lX ke jL = some r):∃ v H',ai.j6 F (bp.tw F) C61_ oY 0 ⟨xh,uk,xm⟩ ⟨xi,ul,xn⟩ ke ⟨xj,um,xo⟩ H = some (v,H')∧ai.Q H0 Ri R0  r v H':=by
 obtain ⟨w0,s0,Fj,Fk,Fl,Fm⟩:=h0
 subst Ff
 subst Fg
 subst Fh
 subst Fi
 unfold ai.pj6 at hp
 unfold ai.j6
 obtain ⟨w1,s1,f1⟩:=w0.frz (i:=3) (eInt .i64) rfl Fm
 dsimp only [List.eraseIdx] at w1 s1 f1
 refine newS_k (eSl (eInt .i64)) w1 (n:=1) (l:=([jL]:List (List Int))) rfl (CR.cons1 ⟨_,rfl,f1⟩ CR.empty) rfl fun H2 w2 s2 c2=>?_
 refine bind_ex (w2.rowo (i:=0) rfl) ?_
 obtain ⟨l3,e3,hp⟩:=bind_some' hp
 refine app_k (eSl (eInt .i64)) w2 (i:=2) rfl rfl (Fk.step (s1.trans s2)) c2 (show 1 = List.length ([jL]:List (List Int)) from rfl) rfl e3 fun a4 d4 H4 w4 s4 c4 x4=>?_
 dsimp only [List.set] at w4 s4 c4
 obtain ⟨w5,s5⟩:=w4.pick' [1,2,3] 4 rfl rfl rfl
 dsimp only [pk,pks,nth,List.drop] at w5 s5
 exact ai.j5_P (@hC61) rfl rfl rfl ⟨w5,(s0.trans (s1.trans (s2.trans (s4.trans s5)))),(Fj.step (s1.trans (s2.trans (s4.trans s5)))),(c4.step s5),(Fl.step (s1.trans (s2.trans (s4.trans s5))))⟩ hp
def ai.pl7853 (F:Nat) (aN:List (Int×Int×Int×Int×Int)→List (List Int)→List Bool→Int→Option (List (List Int))):Nat→List (Int×Int×Int×Int×Int)→List (List Int)→List Bool→Int→List Int→Int→Option (List (List Int))
 | 0,_,_,_,_,_,_=>none
 | k + 1,iE,jk,hX,ec,jl,cY=>(ix hX cY).bind fun n1=>(bif (!(gt hX n1)) then ((ix hX cY).bind fun n2=>(some (hX.set n2 true)).bind fun l3=>(apn jl ([cY]:List Int)).bind fun l6=>(bp.p F iE cY).bind fun r8=>ai.pl7853 F aN k iE jk l3 ec l6 r8) else (ai.pj6 F aN iE jk hX ec jl))
termination_by structural n=>n
theorem ai.l7853_P {F:Nat} {H0:Hp} {Ri R0:List Rs}  {C61_:Nat→Nat→Sl→Sl→Int→Hp→OA} {aN:List (Int×Int×Int×Int×Int)→List (List Int)→List Bool→Int→Option (List (List Int))} (hC61:ai.S61 H0 Ri R0  C61_ aN):∀ k,ai.S7853 H0 Ri R0  (ai.l7853 F (bp.tw F) C61_ k) (ai.pl7853 F aN k):=by
 intro k
 induction k with
 | zero=>
  intro pD pE pF pG lO dx lP lQ lR pH pI pJ pK iE ue ec cY jk pL pM pN hX jl H xu xv xw xx h0 r hp
  exact nomatch (show (none:Option (List (List Int))) = some r from hp)
 | succ k ih=>
  intro pD pE pF pG lO dx lP lQ lR pH pI pJ pK iE ue ec cY jk pL pM pN hX jl H xu xv xw xx h0 r hp
  obtain ⟨w0,s0,un,xy,pO,xz⟩:=h0
  subst xu
  subst xv
  subst xw
  subst xx
  unfold ai.pl7853 at hp
  unfold ai.l7853
  obtain ⟨n1,g1,hp⟩:=bind_some' hp
  obtain ⟨p1,q1,i1,h1,j1⟩:=W.ixo (E:=eBool) w0 (i:=2) rfl rfl pO g1
  refine bind_ex i1 ?_
  have h1:_ = [_]:=h1
  subst h1
  refine bind_ex (ldB_of (j1 0 _ rfl)) ?_
  refine bif_ex (fun hb=>?_) (fun hb=>?_)
  ·replace hp:=bif_t hb hp
   obtain ⟨n2,g2,hp⟩:=bind_some' hp
   obtain ⟨p2,q2,i2,h2,j2⟩:=W.ixo (E:=eBool) w0 (i:=2) rfl rfl pO g2
   refine bind_ex i2 ?_
   obtain ⟨l3,e3,hp⟩:=bind_some' hp
   refine sto_k eBool w0 (i:=2) (j:=0) (p:=p2) rfl rfl pO g2 i2 e3 rfl rfl (fun _ h=>by have h:_ = [_]:=h; subst h; exact rfl) fun H4 k4 w4 s4 c4=>?_
   dsimp only [List.set] at w4 s4 c4
   refine newS_k (eInt .i64) w4 (n:=1) (l:=([cY]:List Int)) rfl (CR.cons1 rfl CR.empty) rfl fun H5 w5 s5 c5=>?_
   refine bind_ex (w5.rowo (i:=0) rfl) ?_
   obtain ⟨l6,e6,hp⟩:=bind_some' hp
   refine app_k (eInt .i64) w5 (i:=4) rfl rfl (xz.step (s4.trans s5)) c5 (show 1 = List.length ([cY]:List Int) from rfl) rfl e6 fun a7 d7 H7 w7 s7 c7 x7=>?_
   dsimp only [List.set] at w7 s7 c7
   refine bind_ex (ldSl_of (w7.ld (i:=1) rfl rfl)) ?_
   refine bind_ex (ldI_of (w7.ld (i:=1) rfl rfl)) ?_
   obtain ⟨r8,e8,hp⟩:=bind_some' hp
   refine call_ex (bp.P rfl ⟨w7,(un.step (s4.trans (s5.trans s7)))⟩ e8) ?_
   rintro _ H9 ⟨rfl,w9,s9,_⟩
   refine bind_ex rfl ?_
   obtain ⟨w10,s10⟩:=w9.pick' [1,2,3,4] 5 rfl rfl rfl
   dsimp only [pk,pks,nth,List.drop] at w10 s10
   exact ih rfl rfl ((st_len e3).symm) rfl ⟨w10,(s0.trans (s4.trans (s5.trans (s7.trans (s9.trans s10))))),(un.step (s4.trans (s5.trans (s7.trans (s9.trans s10))))),(xy.step (s4.trans (s5.trans (s7.trans (s9.trans s10))))),(c4.step (s5.trans (s7.trans (s9.trans s10)))),(c7.step (s9.trans s10))⟩ hp
  ·replace hp:=bif_f hb hp
   exact ai.j6_P (@hC61) rfl rfl rfl rfl ⟨w0,s0,un,xy,pO,xz⟩ hp
def ai.pl61 (F:Nat) :Nat→List (Int×Int×Int×Int×Int)→List (List Int)→List Bool→Int→Option (List (List Int))
 | 0,_,_,_,_=>none
 | k + 1,cp,iD,ek,cb=>(bif (decide (cb < (ek.length:Int))) then ((ix ek cb).bind fun n1=>(bif (gt ek n1) then (ai.pj4 F (ai.pl61 F k) cp iD ek cb) else (ai.pl7853 F (ai.pl61 F k) F cp iD ek cb ([]:List Int) cb))) else (some iD))
termination_by structural n=>n
theorem ai.l61_P {F:Nat} {H0:Hp} {Ri R0:List Rs}  :∀ k,ai.S61 H0 Ri R0  (ai.l61 F (bp.tw F)  k) (ai.pl61 F  k):=by
 intro k
 induction k with
 | zero=>
  intro iw pz iy hT bU lK hU iz pA iA cp jK cb iD pB iB ek H lD xA lE h0 r hp
  exact nomatch (show (none:Option (List (List Int))) = some r from hp)
 | succ k ih=>
  intro iw pz iy hT bU lK hU iz pA iA cp jK cb iD pB iB ek H lD xA lE h0 r hp
  obtain ⟨w0,s0,kY,uo,kZ⟩:=h0
  subst lD
  subst xA
  subst lE
  unfold ai.pl61 at hp
  unfold ai.l61
  refine bif_ex (fun hb=>?_) (fun hb=>?_)
  ·replace hp:=bif_t hb hp
   obtain ⟨n1,g1,hp⟩:=bind_some' hp
   obtain ⟨p1,q1,i1,h1,j1⟩:=W.ixo (E:=eBool) w0 (i:=2) rfl rfl kZ g1
   refine bind_ex i1 ?_
   have h1:_ = [_]:=h1
   subst h1
   refine bind_ex (ldB_of (j1 0 _ rfl)) ?_
   refine bif_ex (fun hb=>?_) (fun hb=>?_)
   ·replace hp:=bif_t hb hp
    exact ai.j4_P (@ih) rfl rfl rfl ⟨w0,s0,kY,uo,kZ⟩ hp
   ·replace hp:=bif_f hb hp
    refine newS_k (eInt .i64) w0 (n:=0) (l:=([]:List Int)) rfl CR.empty rfl fun H2 w2 s2 c2=>?_
    obtain ⟨w3,s3⟩:=w2.pick' [1,2,3,0] 4 rfl rfl rfl
    dsimp only [pk,pks,nth,List.drop] at w3 s3
    exact ai.l7853_P (@ih) F rfl rfl rfl (show 0 = List.length ([]:List Int) from rfl) ⟨w3,(s0.trans (s2.trans s3)),(kY.step (s2.trans s3)),(uo.step (s2.trans s3)),(kZ.step (s2.trans s3)),(c2.step s3)⟩ hp
  ·replace hp:=bif_f hb hp
   obtain ⟨w4,s4⟩:=w0.pick' [1] 3 rfl rfl rfl
   dsimp only [pk,pks,nth,List.drop] at w4 s4
   obtain rfl:=Option.some.inj hp
   exact ⟨_,_,rfl,_,_,_,_,rfl,rfl,w4,(s0.trans s4),(uo.step s4)⟩
def ai.p (F:Nat) (ad:List (Int×Int×Int×Int×Int)):Option (List (List Int)):=(mkn (IntKind.i64.wrap (4 * (ad.length:Int))) false).bind fun l3=>ai.pl61 F F ad ([]:List (List Int)) l3 0
theorem ai.P {F:Nat} {ax:ON} {aq:Nat} {ay:Cap} {ad:List (Int×Int×Int×Int×Int)} {ab:Int} {H:Hp} {R0:List Rs} (bd:aq = ad.length) (h0:Inn H R0 fun R=>ROs (ePair (eInt .i64) (ePair (eInt .i64) (ePair (eInt .i64) (ePair (eInt .i64) (eInt .i64))))) H R ⟨ax,aq,ay⟩ ad) {r:List (List Int)} (hp:ai.p F ad = some r):∃ v H',ai.tw F ⟨ax,aq,ay⟩ ab H = some (v,H')∧ai.Q H R0 R0  r v H':=by
 obtain ⟨w0,aM⟩:=h0
 subst bd
 unfold ai.p at hp
 unfold ai.tw ai.twX
 have s0:=w0.rf
 refine new_k w0 fun H1 w1 s1=>?_
 refine newS_k (eSl (eInt .i64)) w1 (n:=0) (l:=([]:List (List Int))) rfl CR.empty rfl fun H2 w2 s2 c2=>?_
 refine bind_ex (ldSl_of (w2.ld (i:=1) rfl rfl)) ?_
 obtain ⟨l3,e3,hp⟩:=bind_some' hp
 refine mk_k eBool false w2 rfl rfl rfl e3 fun H4 k4 w4 s4 c4=>?_
 obtain ⟨w5,s5⟩:=w4.pick' [2,1,0] 3 rfl rfl rfl
 dsimp only [pk,pks,nth,List.drop] at w5 s5
 exact ai.l61_P F rfl (show 0 = List.length ([]:List (List Int)) from rfl) rfl ⟨w5,(s0.trans (s1.trans (s2.trans (s4.trans s5)))),(aM.step (s1.trans (s2.trans (s4.trans s5)))),(c2.step (s4.trans s5)),(c4.step s5)⟩ hp
def ae.Q (H0:Hp) (Ri R0:List Rs)  (r:List Int) (v:AV) (H':Hp):Prop:=∃ o0a:ON,∃ o0n:Nat,∃ o0c:Cap,∃ o0k:List AV,v = (.sl ⟨o0a,o0n,o0c⟩)∧o0n = (r).length∧Out H0 Ri H' (Rs.own ⟨o0a,o0n,o0c⟩ (eInt .i64).z o0k :: R0) fun R=>CR (eInt .i64) H' R o0k (r)
def ae.S29 (H0:Hp) (Ri R0:List Rs)  (C:Nat→Nat→Sl→Int→Hp→OA) (pC:List (Int×Int×Int×Int×Int)→List Int→Int→Option (List Int)):Prop:=∀ {pP pQ:ON} {lY eN lZ:Nat} {pR pS:Cap} {iF:List (Int×Int×Int×Int×Int)} {uq dz:Int} {jm:List Int} {pT:List AV},∀ {H:Hp},lY = iF.length→lZ = jm.length→(Out H0 Ri H (Rs.blk eN [.sl ⟨pP,lY,pR⟩,.int .i64 uq] :: Rs.own ⟨pQ,lZ,pS⟩ (eInt .i64).z pT :: R0) fun R=>ROs (ePair (eInt .i64) (ePair (eInt .i64) (ePair (eInt .i64) (ePair (eInt .i64) (eInt .i64))))) H R ⟨pP,lY,pR⟩ iF∧CR (eInt .i64) H R pT jm)→∀ {r:List Int},pC iF jm dz = some r→∃ v H',C eN 0 ⟨pQ,lZ,pS⟩ dz H = some (v,H')∧ae.Q H0 Ri R0  r v H'
def ae.S61 (H0:Hp) (Ri R0:List Rs)  (C:Nat→Nat→Sl→Int→Hp→OA) (pC:List (Int×Int×Int×Int×Int)→List Int→Int→Option (List Int)):Prop:=∀ {pU pV:ON} {l_ dX ma:Nat} {pW pX:Cap} {il:List (Int×Int×Int×Int×Int)} {ur dy:Int} {gH:List Int} {pY:List AV},∀ {H:Hp},l_ = il.length→ma = gH.length→(Out H0 Ri H (Rs.blk dX [.sl ⟨pU,l_,pW⟩,.int .i64 ur] :: Rs.own ⟨pV,ma,pX⟩ (eInt .i64).z pY :: R0) fun R=>ROs (ePair (eInt .i64) (ePair (eInt .i64) (ePair (eInt .i64) (ePair (eInt .i64) (eInt .i64))))) H R ⟨pU,l_,pW⟩ il∧CR (eInt .i64) H R pY gH)→∀ {r:List Int},pC il gH dy = some r→∃ v H',C dX 0 ⟨pV,ma,pX⟩ dy H = some (v,H')∧ae.Q H0 Ri R0  r v H'
def ae.S7855 (H0:Hp) (Ri R0:List Rs)  (C:Nat→Nat→Sl→Int→Int→Int→Int→Hp→OA) (pC:List (Int×Int×Int×Int×Int)→List Int→Int→Int→Int→Int→Option (List Int)):Prop:=∀ {pZ p_:ON} {mb dW mc:Nat} {qd qe:Cap} {iG:List (Int×Int×Int×Int×Int)} {ut dh cw cL cZ:Int} {gh:List Int} {qf:List AV},∀ {H:Hp},mb = iG.length→mc = gh.length→(Out H0 Ri H (Rs.blk dW [.sl ⟨pZ,mb,qd⟩,.int .i64 ut] :: Rs.own ⟨p_,mc,qe⟩ (eInt .i64).z qf :: R0) fun R=>ROs (ePair (eInt .i64) (ePair (eInt .i64) (ePair (eInt .i64) (ePair (eInt .i64) (eInt .i64))))) H R ⟨pZ,mb,qd⟩ iG∧CR (eInt .i64) H R qf gh)→∀ {r:List Int},pC iG gh dh cw cL cZ = some r→∃ v H',C dW 0 ⟨p_,mc,qe⟩ dh cw cL cZ H = some (v,H')∧ae.Q H0 Ri R0  r v H'
def ae.pj8 (F:Nat) (qg:List (Int×Int×Int×Int×Int)→List Int→Int→Int→Int→Int→Option (List Int)) (md:List (Int×Int×Int×Int×Int)) (mf:List Int) (kh:Int) (ki:Int) (kj:Int) (kk:Int):Option (List Int):=qg md mf kh ki kj (IntKind.i64.wrap (kk + 1))
theorem ae.j8_P {F:Nat} {H0:Hp} {Ri R0:List Rs}  {C7855_:Nat→Nat→Sl→Int→Int→Int→Int→Hp→OA} {qg:List (Int×Int×Int×Int×Int)→List Int→Int→Int→Int→Int→Option (List Int)} (hC7855:ae.S7855 H0 Ri R0  C7855_ qg) {xB xC:ON} {uu pa uv:Nat} {xD xE:Cap} {md:List (Int×Int×Int×Int×Int)} {Fn kh ki kj kk:Int} {mf:List Int} {xF:List AV} {H:Hp} (Fo:uu = md.length) (Fp:uv = mf.length) (h0:Out H0 Ri H (Rs.blk pa [.sl ⟨xB,uu,xD⟩,.int .i64 Fn] :: Rs.own ⟨xC,uv,xE⟩ (eInt .i64).z xF :: R0) fun R=>ROs (ePair (eInt .i64) (ePair (eInt .i64) (ePair (eInt .i64) (ePair (eInt .i64) (eInt .i64))))) H R ⟨xB,uu,xD⟩ md∧CR (eInt .i64) H R xF mf) {r:List Int} (hp:ae.pj8 F qg md mf kh ki kj kk = some r):∃ v H',ae.j8 F (ak.tw F) C7855_ pa 0 ⟨xC,uv,xE⟩ kh ki kj kk H = some (v,H')∧ae.Q H0 Ri R0  r v H':=by
 obtain ⟨w0,s0,Fq,Fr⟩:=h0
 subst Fo
 subst Fp
 unfold ae.pj8 at hp
 unfold ae.j8
 exact hC7855 rfl rfl ⟨w0,s0,Fq,Fr⟩ hp
def ae.pj6 (F:Nat) (aN:List (Int×Int×Int×Int×Int)→List Int→Int→Option (List Int)) (mg:List (Int×Int×Int×Int×Int)) (mh:List Int) (kf:Int):Option (List Int):=aN mg mh (IntKind.i64.wrap (kf + 1))
theorem ae.j6_P {F:Nat} {H0:Hp} {Ri R0:List Rs}  {C61_:Nat→Nat→Sl→Int→Hp→OA} {aN:List (Int×Int×Int×Int×Int)→List Int→Int→Option (List Int)} (hC61:ae.S61 H0 Ri R0  C61_ aN) {xG xH:ON} {uw oZ ux:Nat} {xI xJ:Cap} {mg:List (Int×Int×Int×Int×Int)} {Fs kf:Int} {mh:List Int} {xK:List AV} {H:Hp} (Ft:uw = mg.length) (Fu:ux = mh.length) (h0:Out H0 Ri H (Rs.blk oZ [.sl ⟨xG,uw,xI⟩,.int .i64 Fs] :: Rs.own ⟨xH,ux,xJ⟩ (eInt .i64).z xK :: R0) fun R=>ROs (ePair (eInt .i64) (ePair (eInt .i64) (ePair (eInt .i64) (ePair (eInt .i64) (eInt .i64))))) H R ⟨xG,uw,xI⟩ mg∧CR (eInt .i64) H R xK mh) {r:List Int} (hp:ae.pj6 F aN mg mh kf = some r):∃ v H',ae.j6 F (ak.tw F) C61_ oZ 0 ⟨xH,ux,xJ⟩ kf H = some (v,H')∧ae.Q H0 Ri R0  r v H':=by
 obtain ⟨w0,s0,Fv,Fw⟩:=h0
 subst Ft
 subst Fu
 unfold ae.pj6 at hp
 unfold ae.j6
 exact hC61 rfl rfl ⟨w0,s0,Fv,Fw⟩ hp
def ae.pj7 (F:Nat) (aN:List (Int×Int×Int×Int×Int)→List Int→Int→Option (List Int)) (mi:List (Int×Int×Int×Int×Int)) (mj:List Int) (iZ:Int):Option (List Int):=ae.pj6 F aN mi mj iZ
theorem ae.j7_P {F:Nat} {H0:Hp} {Ri R0:List Rs}  {C61_:Nat→Nat→Sl→Int→Hp→OA} {aN:List (Int×Int×Int×Int×Int)→List Int→Int→Option (List Int)} (hC61:ae.S61 H0 Ri R0  C61_ aN) {xL xM:ON} {uy o_ uz:Nat} {xN xO:Cap} {mi:List (Int×Int×Int×Int×Int)} {Fx iZ:Int} {mj:List Int} {xP:List AV} {H:Hp} (Fy:uy = mi.length) (Fz:uz = mj.length) (h0:Out H0 Ri H (Rs.blk o_ [.sl ⟨xL,uy,xN⟩,.int .i64 Fx] :: Rs.own ⟨xM,uz,xO⟩ (eInt .i64).z xP :: R0) fun R=>ROs (ePair (eInt .i64) (ePair (eInt .i64) (ePair (eInt .i64) (ePair (eInt .i64) (eInt .i64))))) H R ⟨xL,uy,xN⟩ mi∧CR (eInt .i64) H R xP mj) {r:List Int} (hp:ae.pj7 F aN mi mj iZ = some r):∃ v H',ae.j7 F (ak.tw F) C61_ o_ 0 ⟨xM,uz,xO⟩ iZ H = some (v,H')∧ae.Q H0 Ri R0  r v H':=by
 obtain ⟨w0,s0,FA,FB⟩:=h0
 subst Fy
 subst Fz
 unfold ae.pj7 at hp
 unfold ae.j7
 exact ae.j6_P (@hC61) rfl rfl ⟨w0,s0,FA,FB⟩ hp
def ae.pl7855 (F:Nat) (aN:List (Int×Int×Int×Int×Int)→List Int→Int→Option (List Int)):Nat→List (Int×Int×Int×Int×Int)→List Int→Int→Int→Int→Int→Option (List Int)
 | 0,_,_,_,_,_,_=>none
 | k + 1,iG,gh,dh,cw,cL,cZ=>(bif (decide (cZ < (gh.length:Int))) then ((ix gh cZ).bind fun n1=>(bif ((gt gh n1) == (if cL > cw then cL else cw)) then ((ix gh cZ).bind fun n2=>(some (gh.set n2 (if cL < cw then cL else cw))).bind fun l3=>ae.pj8 F (ae.pl7855 F aN k) iG l3 dh cw cL cZ) else (ae.pj8 F (ae.pl7855 F aN k) iG gh dh cw cL cZ))) else (ae.pj7 F aN iG gh dh))
termination_by structural n=>n
theorem ae.l7855_P {F:Nat} {H0:Hp} {Ri R0:List Rs}  {C61_:Nat→Nat→Sl→Int→Hp→OA} {aN:List (Int×Int×Int×Int×Int)→List Int→Int→Option (List Int)} (hC61:ae.S61 H0 Ri R0  C61_ aN):∀ k,ae.S7855 H0 Ri R0  (ae.l7855 F (ak.tw F) C61_ k) (ae.pl7855 F aN k):=by
 intro k
 induction k with
 | zero=>
  intro pZ p_ mb dW mc qd qe iG ut dh cw cL cZ gh qf H xQ xR h0 r hp
  exact nomatch (show (none:Option (List Int)) = some r from hp)
 | succ k ih=>
  intro pZ p_ mb dW mc qd qe iG ut dh cw cL cZ gh qf H xQ xR h0 r hp
  obtain ⟨w0,s0,uA,ml⟩:=h0
  subst xQ
  subst xR
  unfold ae.pl7855 at hp
  unfold ae.l7855
  refine bif_ex (fun hb=>?_) (fun hb=>?_)
  ·replace hp:=bif_t hb hp
   obtain ⟨n1,g1,hp⟩:=bind_some' hp
   obtain ⟨p1,q1,i1,h1,j1⟩:=W.ixo (E:=(eInt .i64)) w0 (i:=1) rfl rfl ml g1
   refine bind_ex i1 ?_
   have h1:_ = [_]:=h1
   subst h1
   refine bind_ex (ldI_of (j1 0 _ rfl)) ?_
   refine bif_ex (fun hb=>?_) (fun hb=>?_)
   ·replace hp:=bif_t hb hp
    obtain ⟨n2,g2,hp⟩:=bind_some' hp
    obtain ⟨p2,q2,i2,h2,j2⟩:=W.ixo (E:=(eInt .i64)) w0 (i:=1) rfl rfl ml g2
    refine bind_ex i2 ?_
    obtain ⟨l3,e3,hp⟩:=bind_some' hp
    refine sto_k (eInt .i64) w0 (i:=1) (j:=0) (p:=p2) rfl rfl ml g2 i2 e3 rfl rfl (fun _ h=>by have h:_ = [_]:=h; subst h; exact rfl) fun H4 k4 w4 s4 c4=>?_
    dsimp only [List.set] at w4 s4 c4
    exact ae.j8_P (@ih) rfl ((st_len e3).symm) ⟨w4,(s0.trans s4),(uA.step s4),c4⟩ hp
   ·replace hp:=bif_f hb hp
    exact ae.j8_P (@ih) rfl rfl ⟨w0,s0,uA,ml⟩ hp
  ·replace hp:=bif_f hb hp
   exact ae.j7_P (@hC61) rfl rfl ⟨w0,s0,uA,ml⟩ hp
def ae.pl61 (F:Nat) :Nat→List (Int×Int×Int×Int×Int)→List Int→Int→Option (List Int)
 | 0,_,_,_=>none
 | k + 1,il,gH,dy=>(bif (decide (dy < (IntKind.i64.wrap (2 * (il.length:Int))))) then ((ak.p F il dy true).bind fun r1=>(ak.p F il dy false).bind fun r3=>(ix gH r1.1).bind fun n5=>(ix gH r3.1).bind fun n6=>ae.pl7855 F (ae.pl61 F k) F il gH dy (gt gH n5) (gt gH n6) 0) else (some gH))
termination_by structural n=>n
theorem ae.l61_P {F:Nat} {H0:Hp} {Ri R0:List Rs}  :∀ k,ae.S61 H0 Ri R0  (ae.l61 F (ak.tw F)  k) (ae.pl61 F  k):=by
 intro k
 induction k with
 | zero=>
  intro pU pV l_ dX ma pW pX il ur dy gH pY H xS xT h0 r hp
  exact nomatch (show (none:Option (List Int)) = some r from hp)
 | succ k ih=>
  intro pU pV l_ dX ma pW pX il ur dy gH pY H xS xT h0 r hp
  obtain ⟨w0,s0,uB,qh⟩:=h0
  subst xS
  subst xT
  unfold ae.pl61 at hp
  unfold ae.l61
  refine bind_ex (ldSl_of (w0.ld (i:=0) rfl rfl)) ?_
  refine bif_ex (fun hb=>?_) (fun hb=>?_)
  ·replace hp:=bif_t hb hp
   refine bind_ex (ldSl_of (w0.ld (i:=0) rfl rfl)) ?_
   refine bind_ex (ldI_of (w0.ld (i:=0) rfl rfl)) ?_
   obtain ⟨r1,e1,hp⟩:=bind_some' hp
   refine call_ex (ak.P rfl ⟨w0,uB⟩ e1) ?_
   rintro _ H2 ⟨rfl,w2,s2,_⟩
   refine bind_ex rfl ?_
   refine bind_ex rfl ?_
   refine bind_ex rfl ?_
   refine bind_ex rfl ?_
   refine bind_ex rfl ?_
   refine bind_ex (ldSl_of (w2.ld (i:=0) rfl rfl)) ?_
   refine bind_ex (ldI_of (w2.ld (i:=0) rfl rfl)) ?_
   obtain ⟨r3,e3,hp⟩:=bind_some' hp
   refine call_ex (ak.P rfl ⟨w2,(uB.step s2)⟩ e3) ?_
   rintro _ H4 ⟨rfl,w4,s4,_⟩
   refine bind_ex rfl ?_
   refine bind_ex rfl ?_
   refine bind_ex rfl ?_
   refine bind_ex rfl ?_
   refine bind_ex rfl ?_
   obtain ⟨n5,g5,hp⟩:=bind_some' hp
   obtain ⟨p5,q5,i5,h5,j5⟩:=W.ixo (E:=(eInt .i64)) w4 (i:=1) rfl rfl (qh.step (s2.trans s4)) g5
   refine bind_ex i5 ?_
   have h5:_ = [_]:=h5
   subst h5
   refine bind_ex (ldI_of (j5 0 _ rfl)) ?_
   obtain ⟨n6,g6,hp⟩:=bind_some' hp
   obtain ⟨p6,q6,i6,h6,j6⟩:=W.ixo (E:=(eInt .i64)) w4 (i:=1) rfl rfl (qh.step (s2.trans s4)) g6
   refine bind_ex i6 ?_
   have h6:_ = [_]:=h6
   subst h6
   refine bind_ex (ldI_of (j6 0 _ rfl)) ?_
   exact ae.l7855_P (@ih) F rfl rfl ⟨w4,(s0.trans (s2.trans s4)),(uB.step (s2.trans s4)),(qh.step (s2.trans s4))⟩ hp
  ·replace hp:=bif_f hb hp
   obtain ⟨w7,s7⟩:=w0.pick' [1] 2 rfl rfl rfl
   dsimp only [pk,pks,nth,List.drop] at w7 s7
   obtain rfl:=Option.some.inj hp
   exact ⟨_,_,rfl,_,_,_,_,rfl,rfl,w7,(s0.trans s7),(qh.step s7)⟩
def ae.pj9 (F:Nat)  (mm:List (Int×Int×Int×Int×Int)) (mn:List Int):Option (List Int):=ae.pl61 F F mm mn 0
theorem ae.j9_P {F:Nat} {H0:Hp} {Ri R0:List Rs}   {xU xV:ON} {uC pb uD:Nat} {xW xX:Cap} {mm:List (Int×Int×Int×Int×Int)} {FC:Int} {mn:List Int} {xY:List AV} {H:Hp} (FD:uC = mm.length) (FE:uD = mn.length) (h0:Out H0 Ri H (Rs.blk pb [.sl ⟨xU,uC,xW⟩,.int .i64 FC] :: Rs.own ⟨xV,uD,xX⟩ (eInt .i64).z xY :: R0) fun R=>ROs (ePair (eInt .i64) (ePair (eInt .i64) (ePair (eInt .i64) (ePair (eInt .i64) (eInt .i64))))) H R ⟨xU,uC,xW⟩ mm∧CR (eInt .i64) H R xY mn) {r:List Int} (hp:ae.pj9 F  mm mn = some r):∃ v H',ae.j9 F (ak.tw F)  pb 0 ⟨xV,uD,xX⟩ H = some (v,H')∧ae.Q H0 Ri R0  r v H':=by
 obtain ⟨w0,s0,FF,FG⟩:=h0
 subst FD
 subst FE
 unfold ae.pj9 at hp
 unfold ae.j9
 exact ae.l61_P F rfl rfl ⟨w0,s0,FF,FG⟩ hp
def ae.pl29 (F:Nat) :Nat→List (Int×Int×Int×Int×Int)→List Int→Int→Option (List Int)
 | 0,_,_,_=>none
 | k + 1,iF,jm,dz=>(bif (decide (dz < (iF.length:Int))) then ((apn jm ([dz]:List Int)).bind fun l2=>ae.pl29 F k iF l2 (IntKind.i64.wrap (dz + 1))) else (ae.pj9 F iF jm))
termination_by structural n=>n
theorem ae.l29_P {F:Nat} {H0:Hp} {Ri R0:List Rs}  :∀ k,ae.S29 H0 Ri R0  (ae.l29 F (ak.tw F)  k) (ae.pl29 F  k):=by
 intro k
 induction k with
 | zero=>
  intro pP pQ lY eN lZ pR pS iF uq dz jm pT H xZ x_ h0 r hp
  exact nomatch (show (none:Option (List Int)) = some r from hp)
 | succ k ih=>
  intro pP pQ lY eN lZ pR pS iF uq dz jm pT H xZ x_ h0 r hp
  obtain ⟨w0,s0,ya,yb⟩:=h0
  subst xZ
  subst x_
  unfold ae.pl29 at hp
  unfold ae.l29
  refine bind_ex (ldSl_of (w0.ld (i:=0) rfl rfl)) ?_
  refine bif_ex (fun hb=>?_) (fun hb=>?_)
  ·replace hp:=bif_t hb hp
   refine newS_k (eInt .i64) w0 (n:=1) (l:=([dz]:List Int)) rfl (CR.cons1 rfl CR.empty) rfl fun H1 w1 s1 c1=>?_
   refine bind_ex (w1.rowo (i:=0) rfl) ?_
   obtain ⟨l2,e2,hp⟩:=bind_some' hp
   refine app_k (eInt .i64) w1 (i:=2) rfl rfl (yb.step s1) c1 (show 1 = List.length ([dz]:List Int) from rfl) rfl e2 fun a3 d3 H3 w3 s3 c3 x3=>?_
   dsimp only [List.set] at w3 s3 c3
   obtain ⟨w4,s4⟩:=w3.pick' [1,2] 3 rfl rfl rfl
   dsimp only [pk,pks,nth,List.drop] at w4 s4
   exact ih rfl rfl ⟨w4,(s0.trans (s1.trans (s3.trans s4))),(ya.step (s1.trans (s3.trans s4))),(c3.step s4)⟩ hp
  ·replace hp:=bif_f hb hp
   exact ae.j9_P rfl rfl ⟨w0,s0,ya,yb⟩ hp
def ae.p (F:Nat) (ad:List (Int×Int×Int×Int×Int)):Option (List Int):=ae.pl29 F F ad ([]:List Int) 0
theorem ae.P {F:Nat} {ax:ON} {aq:Nat} {ay:Cap} {ad:List (Int×Int×Int×Int×Int)} {ab:Int} {H:Hp} {R0:List Rs} (bd:aq = ad.length) (h0:Inn H R0 fun R=>ROs (ePair (eInt .i64) (ePair (eInt .i64) (ePair (eInt .i64) (ePair (eInt .i64) (eInt .i64))))) H R ⟨ax,aq,ay⟩ ad) {r:List Int} (hp:ae.p F ad = some r):∃ v H',ae.tw F ⟨ax,aq,ay⟩ ab H = some (v,H')∧ae.Q H R0 R0  r v H':=by
 obtain ⟨w0,aM⟩:=h0
 subst bd
 unfold ae.p at hp
 unfold ae.tw ae.twX
 have s0:=w0.rf
 refine new_k w0 fun H1 w1 s1=>?_
 refine newS_k (eInt .i64) w1 (n:=0) (l:=([]:List Int)) rfl CR.empty rfl fun H2 w2 s2 c2=>?_
 obtain ⟨w3,s3⟩:=w2.pick' [1,0] 2 rfl rfl rfl
 dsimp only [pk,pks,nth,List.drop] at w3 s3
 exact ae.l29_P F rfl (show 0 = List.length ([]:List Int) from rfl) ⟨w3,(s0.trans (s1.trans (s2.trans s3))),(aM.step (s1.trans (s2.trans s3))),(c2.step s3)⟩ hp
def aF.Q (H0:Hp) (Ri R0:List Rs)  (r:Int) (v:AV) (H':Hp):Prop:=v = (.int .i64 r)∧Out H0 Ri H' (R0) fun R=>True
def aF.S61 (H0:Hp) (Ri R0:List Rs)  (C:Int→Sl→Int→Hp→OA) (pC:Int→List Int→Int→Option (Int)):Prop:=∀ {dA c_:Int} {qi:ON} {mo:Nat} {qj:Cap} {hY:List Int} {qk:List AV},∀ {H:Hp},mo = hY.length→(Out H0 Ri H (Rs.own ⟨qi,mo,qj⟩ (eInt .i64).z qk :: R0) fun R=>CR (eInt .i64) H R qk hY)→∀ {r:Int},pC dA hY c_ = some r→∃ v H',C dA ⟨qi,mo,qj⟩ c_ H = some (v,H')∧aF.Q H0 Ri R0  r v H'
def aF.pj2 (F:Nat) (aN:Int→List Int→Int→Option (Int)) (kl:Int) (mp:List Int) (km:Int):Option (Int):=aN kl mp (IntKind.i64.wrap (km + 1))
theorem aF.j2_P {F:Nat} {H0:Hp} {Ri R0:List Rs}  {C61_:Int→Sl→Int→Hp→OA} {aN:Int→List Int→Int→Option (Int)} (hC61:aF.S61 H0 Ri R0  C61_ aN) {kl km:Int} {yc:ON} {uE:Nat} {yd:Cap} {mp:List Int} {ye:List AV} {H:Hp} (FH:uE = mp.length) (h0:Out H0 Ri H (Rs.own ⟨yc,uE,yd⟩ (eInt .i64).z ye :: R0) fun R=>CR (eInt .i64) H R ye mp) {r:Int} (hp:aF.pj2 F aN kl mp km = some r):∃ v H',aF.j2 F (ae.tw F) C61_ kl ⟨yc,uE,yd⟩ km H = some (v,H')∧aF.Q H0 Ri R0  r v H':=by
 obtain ⟨w0,s0,FI⟩:=h0
 subst FH
 unfold aF.pj2 at hp
 unfold aF.j2
 exact hC61 rfl ⟨w0,s0,FI⟩ hp
def aF.pl61 (F:Nat) :Nat→Int→List Int→Int→Option (Int)
 | 0,_,_,_=>none
 | k + 1,dA,hY,c_=>(bif (decide (c_ < (hY.length:Int))) then ((ix hY c_).bind fun n1=>(bif ((gt hY n1) == c_) then (aF.pj2 F (aF.pl61 F k) (IntKind.i64.wrap (dA + 1)) hY c_) else (aF.pj2 F (aF.pl61 F k) dA hY c_))) else (some dA))
termination_by structural n=>n
theorem aF.l61_P {F:Nat} {H0:Hp} {Ri R0:List Rs}  :∀ k,aF.S61 H0 Ri R0  (aF.l61 F (ae.tw F)  k) (aF.pl61 F  k):=by
 intro k
 induction k with
 | zero=>
  intro dA c_ qi mo qj hY qk H yf h0 r hp
  exact nomatch (show (none:Option (Int)) = some r from hp)
 | succ k ih=>
  intro dA c_ qi mo qj hY qk H yf h0 r hp
  obtain ⟨w0,s0,uF⟩:=h0
  subst yf
  unfold aF.pl61 at hp
  unfold aF.l61
  refine bif_ex (fun hb=>?_) (fun hb=>?_)
  ·replace hp:=bif_t hb hp
   obtain ⟨n1,g1,hp⟩:=bind_some' hp
   obtain ⟨p1,q1,i1,h1,j1⟩:=W.ixo (E:=(eInt .i64)) w0 (i:=0) rfl rfl uF g1
   refine bind_ex i1 ?_
   have h1:_ = [_]:=h1
   subst h1
   refine bind_ex (ldI_of (j1 0 _ rfl)) ?_
   refine bif_ex (fun hb=>?_) (fun hb=>?_)
   ·replace hp:=bif_t hb hp
    exact aF.j2_P (@ih) rfl ⟨w0,s0,uF⟩ hp
   ·replace hp:=bif_f hb hp
    exact aF.j2_P (@ih) rfl ⟨w0,s0,uF⟩ hp
  ·replace hp:=bif_f hb hp
   obtain ⟨w2,s2⟩:=w0.pick' [] 1 rfl rfl rfl
   dsimp only [pk,pks,nth,List.drop] at w2 s2
   obtain rfl:=Option.some.inj hp
   exact ⟨_,_,rfl,rfl,w2,(s0.trans s2),trivial⟩
def aF.p (F:Nat) (ad:List (Int×Int×Int×Int×Int)):Option (Int):=(ae.p F ad).bind fun r2=>aF.pl61 F F 0 r2 0
theorem aF.P {F:Nat} {ax:ON} {aq:Nat} {ay:Cap} {ad:List (Int×Int×Int×Int×Int)} {ab:Int} {H:Hp} {R0:List Rs} (bd:aq = ad.length) (h0:Inn H R0 fun R=>ROs (ePair (eInt .i64) (ePair (eInt .i64) (ePair (eInt .i64) (ePair (eInt .i64) (eInt .i64))))) H R ⟨ax,aq,ay⟩ ad) {r:Int} (hp:aF.p F ad = some r):∃ v H',aF.tw F ⟨ax,aq,ay⟩ ab H = some (v,H')∧aF.Q H R0 R0  r v H':=by
 obtain ⟨w0,aM⟩:=h0
 subst bd
 unfold aF.p at hp
 unfold aF.tw aF.twX
 have s0:=w0.rf
 refine new_k w0 fun H1 w1 s1=>?_
 refine bind_ex (ldSl_of (w1.ld (i:=0) rfl rfl)) ?_
 refine bind_ex (ldI_of (w1.ld (i:=0) rfl rfl)) ?_
 obtain ⟨r2,e2,hp⟩:=bind_some' hp
 refine call_ex (ae.P rfl ⟨w1,(aM.step s1)⟩ e2) ?_
 rintro _ H3 ⟨o0a_3,o0n_3,o0c_3,o0k_3,rfl,rfl,w3,s3,f3_0⟩
 refine bind_ex rfl ?_
 obtain ⟨w4,s4⟩:=w3.pick' [0] 2 rfl rfl rfl
 dsimp only [pk,pks,nth,List.drop] at w4 s4
 exact aF.l61_P F rfl ⟨w4,(s0.trans (s1.trans (s3.trans s4))),(f3_0.step s4)⟩ hp
def bt.Q (H0:Hp) (Ri R0:List Rs)  (r:Bool) (v:AV) (H':Hp):Prop:=v = (.bool r)∧Out H0 Ri H' (R0) fun R=>True
def bt.p (F:Nat) (ad:List (Int×Int×Int×Int×Int)) (ab:Int):Option (Bool):=(bif (decide ((ad.length:Int) > 10)) then (some false) else ((aY.p F ab 0 8).bind fun r3=>(bif (!r3) then (some false) else ((au.p F ad).bind fun r6=>(bif (!r6) then (some false) else ((ai.p F ad).bind fun r9=>(aF.p F ad).bind fun r12=>some ((r9.length:Int) == (IntKind.i64.wrap ((ad.length:Int) + (IntKind.i64.wrap (2 * r12)))))))))))
theorem bt.P {F:Nat} {ax:ON} {aq:Nat} {ay:Cap} {ad:List (Int×Int×Int×Int×Int)} {ab:Int} {H:Hp} {R0:List Rs} (bd:aq = ad.length) (h0:Inn H R0 fun R=>ROs (ePair (eInt .i64) (ePair (eInt .i64) (ePair (eInt .i64) (ePair (eInt .i64) (eInt .i64))))) H R ⟨ax,aq,ay⟩ ad) {r:Bool} (hp:bt.p F ad ab = some r):∃ v H',bt.tw F ⟨ax,aq,ay⟩ ab H = some (v,H')∧bt.Q H R0 R0  r v H':=by
 obtain ⟨w0,aM⟩:=h0
 subst bd
 unfold bt.p at hp
 unfold bt.tw bt.twX
 have s0:=w0.rf
 refine new_k w0 fun H1 w1 s1=>?_
 refine bind_ex (ldSl_of (w1.ld (i:=0) rfl rfl)) ?_
 refine bif_ex (fun hb=>?_) (fun hb=>?_)
 ·replace hp:=bif_t hb hp
  obtain ⟨w2,s2⟩:=w1.pick' [] 1 rfl rfl rfl
  dsimp only [pk,pks,nth,List.drop] at w2 s2
  obtain rfl:=Option.some.inj hp
  exact ⟨_,_,rfl,rfl,w2,(s0.trans (s1.trans s2)),trivial⟩
 ·replace hp:=bif_f hb hp
  refine bind_ex (ldI_of (w1.ld (i:=0) rfl rfl)) ?_
  obtain ⟨r3,e3,hp⟩:=bind_some' hp
  refine call_ex (aY.P ⟨w1,trivial⟩ e3) ?_
  rintro _ H4 ⟨rfl,w4,s4,_⟩
  refine bind_ex rfl ?_
  refine bif_ex (fun hb=>?_) (fun hb=>?_)
  ·replace hp:=bif_t hb hp
   obtain ⟨w5,s5⟩:=w4.pick' [] 1 rfl rfl rfl
   dsimp only [pk,pks,nth,List.drop] at w5 s5
   obtain rfl:=Option.some.inj hp
   exact ⟨_,_,rfl,rfl,w5,(s0.trans (s1.trans (s4.trans s5))),trivial⟩
  ·replace hp:=bif_f hb hp
   refine bind_ex (ldSl_of (w4.ld (i:=0) rfl rfl)) ?_
   refine bind_ex (ldI_of (w4.ld (i:=0) rfl rfl)) ?_
   obtain ⟨r6,e6,hp⟩:=bind_some' hp
   refine call_ex (au.P rfl ⟨w4,(aM.step (s1.trans s4))⟩ e6) ?_
   rintro _ H7 ⟨rfl,w7,s7,_⟩
   refine bind_ex rfl ?_
   refine bif_ex (fun hb=>?_) (fun hb=>?_)
   ·replace hp:=bif_t hb hp
    obtain ⟨w8,s8⟩:=w7.pick' [] 1 rfl rfl rfl
    dsimp only [pk,pks,nth,List.drop] at w8 s8
    obtain rfl:=Option.some.inj hp
    exact ⟨_,_,rfl,rfl,w8,(s0.trans (s1.trans (s4.trans (s7.trans s8)))),trivial⟩
   ·replace hp:=bif_f hb hp
    refine bind_ex (ldSl_of (w7.ld (i:=0) rfl rfl)) ?_
    refine bind_ex (ldI_of (w7.ld (i:=0) rfl rfl)) ?_
    obtain ⟨r9,e9,hp⟩:=bind_some' hp
    refine call_ex (ai.P rfl ⟨w7,(aM.step (s1.trans (s4.trans s7)))⟩ e9) ?_
    rintro _ H10 ⟨o0a_10,o0n_10,o0c_10,o0k_10,rfl,rfl,w10,s10,f10_0⟩
    refine bind_ex rfl ?_
    refine ifs_ex (W.cons_of (Rn:=[_]) w7 w10 s10) ?_
    refine bind_ex (ldSl_of (w10.ld (i:=1) rfl rfl)) ?_
    refine bind_ex (ldSl_of (w10.ld (i:=1) rfl rfl)) ?_
    refine bind_ex (ldI_of (w10.ld (i:=1) rfl rfl)) ?_
    obtain ⟨r12,e12,hp⟩:=bind_some' hp
    refine call_ex (aF.P rfl ⟨w10,(aM.step (s1.trans (s4.trans (s7.trans s10))))⟩ e12) ?_
    rintro _ H13 ⟨rfl,w13,s13,_⟩
    refine bind_ex rfl ?_
    refine ifs_ex (W.cons_of (Rn:=[]) w10 w13 s13) ?_
    obtain ⟨w15,s15⟩:=w13.pick' [] 2 rfl rfl rfl
    dsimp only [pk,pks,nth,List.drop] at w15 s15
    obtain rfl:=Option.some.inj hp
    exact ⟨_,_,rfl,rfl,w15,(s0.trans (s1.trans (s4.trans (s7.trans (s10.trans (s13.trans s15)))))),trivial⟩
def ao.Q (H0:Hp) (Ri R0:List Rs)  (r:List Int) (v:AV) (H':Hp):Prop:=∃ o0a:ON,∃ o0n:Nat,∃ o0c:Cap,∃ o0k:List AV,v = (.sl ⟨o0a,o0n,o0c⟩)∧o0n = (r).length∧Out H0 Ri H' (Rs.own ⟨o0a,o0n,o0c⟩ (eInt .i64).z o0k :: R0) fun R=>CR (eInt .i64) H' R o0k (r)
def ao.S61 (H0:Hp) (Ri R0:List Rs)  (C:Sl→Sl→Int→Hp→OA) (pC:List Int→List (List Int)→Int→Option (List Int)):Prop:=∀ {ql qn:ON} {mq mr:Nat} {qo qp:Cap} {jn:List Int} {qq qr:List AV} {jo:List (List Int)} {eO:Int},∀ {H:Hp},mq = jn.length→mr = jo.length→(Out H0 Ri H (Rs.own ⟨ql,mq,qo⟩ (eInt .i64).z qq :: Rs.own ⟨qn,mr,qp⟩ (eSl (eInt .i64)).z qr :: R0) fun R=>CR (eInt .i64) H R qq jn∧CR (eSl (eInt .i64)) H R qr jo)→∀ {r:List Int},pC jn jo eO = some r→∃ v H',C ⟨ql,mq,qo⟩ ⟨qn,mr,qp⟩ eO H = some (v,H')∧ao.Q H0 Ri R0  r v H'
def ao.S981 (H0:Hp) (Ri R0:List Rs)  (C:Sl→Sl→Int→Int→Hp→OA) (pC:List Int→List (List Int)→Int→Int→Option (List Int)):Prop:=∀ {qs qt:ON} {ms mu:Nat} {qu qv:Cap} {iH:List Int} {qw qx:List AV} {gi:List (List Int)} {cV ed:Int},∀ {H:Hp},ms = iH.length→mu = gi.length→(Out H0 Ri H (Rs.own ⟨qs,ms,qu⟩ (eInt .i64).z qw :: Rs.own ⟨qt,mu,qv⟩ (eSl (eInt .i64)).z qx :: R0) fun R=>CR (eInt .i64) H R qw iH∧CR (eSl (eInt .i64)) H R qx gi)→∀ {r:List Int},pC iH gi cV ed = some r→∃ v H',C ⟨qs,ms,qu⟩ ⟨qt,mu,qv⟩ cV ed H = some (v,H')∧ao.Q H0 Ri R0  r v H'
def ao.pj3 (F:Nat) (aN:List Int→List (List Int)→Int→Option (List Int)) (mv:List Int) (mw:List (List Int)) (kn:Int):Option (List Int):=aN mv mw (IntKind.i64.wrap (kn + 1))
theorem ao.j3_P {F:Nat} {H0:Hp} {Ri R0:List Rs}  {C61_:Sl→Sl→Int→Hp→OA} {aN:List Int→List (List Int)→Int→Option (List Int)} (hC61:ao.S61 H0 Ri R0  C61_ aN) {yg yh:ON} {uG uH:Nat} {yi yj:Cap} {mv:List Int} {yl ym:List AV} {mw:List (List Int)} {kn:Int} {H:Hp} (FJ:uG = mv.length) (FK:uH = mw.length) (h0:Out H0 Ri H (Rs.own ⟨yg,uG,yi⟩ (eInt .i64).z yl :: Rs.own ⟨yh,uH,yj⟩ (eSl (eInt .i64)).z ym :: R0) fun R=>CR (eInt .i64) H R yl mv∧CR (eSl (eInt .i64)) H R ym mw) {r:List Int} (hp:ao.pj3 F aN mv mw kn = some r):∃ v H',ao.j3 F (ai.tw F) C61_ ⟨yg,uG,yi⟩ ⟨yh,uH,yj⟩ kn H = some (v,H')∧ao.Q H0 Ri R0  r v H':=by
 obtain ⟨w0,s0,FL,FM⟩:=h0
 subst FJ
 subst FK
 unfold ao.pj3 at hp
 unfold ao.j3
 exact hC61 rfl rfl ⟨w0,s0,FL,FM⟩ hp
def ao.pj4 (F:Nat) (aN:List Int→List (List Int)→Int→Option (List Int)) (mx:List Int) (mz:List (List Int)) (ko:Int):Option (List Int):=ao.pj3 F aN mx mz ko
theorem ao.j4_P {F:Nat} {H0:Hp} {Ri R0:List Rs}  {C61_:Sl→Sl→Int→Hp→OA} {aN:List Int→List (List Int)→Int→Option (List Int)} (hC61:ao.S61 H0 Ri R0  C61_ aN) {yn yo:ON} {uI uJ:Nat} {yp yq:Cap} {mx:List Int} {yt yu:List AV} {mz:List (List Int)} {ko:Int} {H:Hp} (FN:uI = mx.length) (FO:uJ = mz.length) (h0:Out H0 Ri H (Rs.own ⟨yn,uI,yp⟩ (eInt .i64).z yt :: Rs.own ⟨yo,uJ,yq⟩ (eSl (eInt .i64)).z yu :: R0) fun R=>CR (eInt .i64) H R yt mx∧CR (eSl (eInt .i64)) H R yu mz) {r:List Int} (hp:ao.pj4 F aN mx mz ko = some r):∃ v H',ao.j4 F (ai.tw F) C61_ ⟨yn,uI,yp⟩ ⟨yo,uJ,yq⟩ ko H = some (v,H')∧ao.Q H0 Ri R0  r v H':=by
 obtain ⟨w0,s0,FP,FQ⟩:=h0
 subst FN
 subst FO
 unfold ao.pj4 at hp
 unfold ao.j4
 exact ao.j3_P (@hC61) rfl rfl ⟨w0,s0,FP,FQ⟩ hp
def ao.pl981 (F:Nat) (aN:List Int→List (List Int)→Int→Option (List Int)):Nat→List Int→List (List Int)→Int→Int→Option (List Int)
 | 0,_,_,_,_=>none
 | k + 1,iH,gi,cV,ed=>(ix gi cV).bind fun n1=>(bif (decide (ed < (((gt gi n1).length):Int))) then ((ix gi cV).bind fun n2=>(ix (gt gi n2) ed).bind fun n3=>(ix iH (gt (gt gi n2) n3)).bind fun n4=>(some (iH.set n4 cV)).bind fun l5=>ao.pl981 F aN k l5 gi cV (IntKind.i64.wrap (ed + 1))) else (ao.pj4 F aN iH gi cV))
termination_by structural n=>n
theorem ao.l981_P {F:Nat} {H0:Hp} {Ri R0:List Rs}  {C61_:Sl→Sl→Int→Hp→OA} {aN:List Int→List (List Int)→Int→Option (List Int)} (hC61:ao.S61 H0 Ri R0  C61_ aN):∀ k,ao.S981 H0 Ri R0  (ao.l981 F (ai.tw F) C61_ k) (ao.pl981 F aN k):=by
 intro k
 induction k with
 | zero=>
  intro qs qt ms mu qu qv iH qw qx gi cV ed H yv yw h0 r hp
  exact nomatch (show (none:Option (List Int)) = some r from hp)
 | succ k ih=>
  intro qs qt ms mu qu qv iH qw qx gi cV ed H yv yw h0 r hp
  obtain ⟨w0,s0,uK,qy⟩:=h0
  subst yv
  subst yw
  unfold ao.pl981 at hp
  unfold ao.l981
  obtain ⟨n1,g1,hp⟩:=bind_some' hp
  obtain ⟨p1,q1,i1,h1,j1⟩:=W.ixo (E:=(eSl (eInt .i64))) w0 (i:=1) rfl rfl qy g1
  refine bind_ex i1 ?_
  obtain ⟨⟨FR,m1_0,c1_0⟩,rfl,f1_0⟩:=h1
  obtain rfl:m1_0 = _:=f1_0.n
  refine bind_ex (ldSl_of (j1 0 _ rfl)) ?_
  refine bif_ex (fun hb=>?_) (fun hb=>?_)
  ·replace hp:=bif_t hb hp
   obtain ⟨n2,g2,hp⟩:=bind_some' hp
   obtain ⟨p2,q2,i2,h2,j2⟩:=W.ixo (E:=(eSl (eInt .i64))) w0 (i:=1) rfl rfl qy g2
   refine bind_ex i2 ?_
   obtain ⟨⟨Im,m2_0,c2_0⟩,rfl,f2_0⟩:=h2
   obtain rfl:m2_0 = _:=f2_0.n
   refine bind_ex (ldSl_of (j2 0 _ rfl)) ?_
   obtain ⟨n3,g3,hp⟩:=bind_some' hp
   obtain ⟨p3,q3,i3,h3,j3⟩:=ROs.ixr f2_0 rfl g3
   refine bind_ex i3 ?_
   have h3:_ = [_]:=h3
   subst h3
   refine bind_ex (ldI_of (j3 0 _ rfl)) ?_
   obtain ⟨n4,g4,hp⟩:=bind_some' hp
   obtain ⟨p4,q4,i4,h4,j4⟩:=W.ixo (E:=(eInt .i64)) w0 (i:=0) rfl rfl uK g4
   refine bind_ex i4 ?_
   obtain ⟨l5,e5,hp⟩:=bind_some' hp
   refine sto_k (eInt .i64) w0 (i:=0) (j:=0) (p:=p4) rfl rfl uK g4 i4 e5 rfl rfl (fun _ h=>by have h:_ = [_]:=h; subst h; exact rfl) fun H6 k6 w6 s6 c6=>?_
   dsimp only [List.set] at w6 s6 c6
   exact ih ((st_len e5).symm) rfl ⟨w6,(s0.trans s6),c6,(qy.step s6)⟩ hp
  ·replace hp:=bif_f hb hp
   exact ao.j4_P (@hC61) rfl rfl ⟨w0,s0,uK,qy⟩ hp
def ao.pl61 (F:Nat) :Nat→List Int→List (List Int)→Int→Option (List Int)
 | 0,_,_,_=>none
 | k + 1,jn,jo,eO=>(bif (decide (eO < (jo.length:Int))) then (ao.pl981 F (ao.pl61 F k) F jn jo eO 0) else (some jn))
termination_by structural n=>n
theorem ao.l61_P {F:Nat} {H0:Hp} {Ri R0:List Rs}  :∀ k,ao.S61 H0 Ri R0  (ao.l61 F (ai.tw F)  k) (ao.pl61 F  k):=by
 intro k
 induction k with
 | zero=>
  intro ql qn mq mr qo qp jn qq qr jo eO H yx yy h0 r hp
  exact nomatch (show (none:Option (List Int)) = some r from hp)
 | succ k ih=>
  intro ql qn mq mr qo qp jn qq qr jo eO H yx yy h0 r hp
  obtain ⟨w0,s0,yz,FS⟩:=h0
  subst yx
  subst yy
  unfold ao.pl61 at hp
  unfold ao.l61
  refine bif_ex (fun hb=>?_) (fun hb=>?_)
  ·replace hp:=bif_t hb hp
   exact ao.l981_P (@ih) F rfl rfl ⟨w0,s0,yz,FS⟩ hp
  ·replace hp:=bif_f hb hp
   obtain ⟨w1,s1⟩:=w0.pick' [0] 2 rfl rfl rfl
   dsimp only [pk,pks,nth,List.drop] at w1 s1
   obtain rfl:=Option.some.inj hp
   exact ⟨_,_,rfl,_,_,_,_,rfl,rfl,w1,(s0.trans s1),(yz.step s1)⟩
def ao.p (F:Nat) (ad:List (Int×Int×Int×Int×Int)):Option (List Int):=(mkn (IntKind.i64.wrap (4 * (ad.length:Int))) (0:Int)).bind fun l2=>(ai.p F ad).bind fun r4=>ao.pl61 F F l2 r4 0
theorem ao.P {F:Nat} {ax:ON} {aq:Nat} {ay:Cap} {ad:List (Int×Int×Int×Int×Int)} {ab:Int} {H:Hp} {R0:List Rs} (bd:aq = ad.length) (h0:Inn H R0 fun R=>ROs (ePair (eInt .i64) (ePair (eInt .i64) (ePair (eInt .i64) (ePair (eInt .i64) (eInt .i64))))) H R ⟨ax,aq,ay⟩ ad) {r:List Int} (hp:ao.p F ad = some r):∃ v H',ao.tw F ⟨ax,aq,ay⟩ ab H = some (v,H')∧ao.Q H R0 R0  r v H':=by
 obtain ⟨w0,aM⟩:=h0
 subst bd
 unfold ao.p at hp
 unfold ao.tw ao.twX
 have s0:=w0.rf
 refine new_k w0 fun H1 w1 s1=>?_
 refine bind_ex (ldSl_of (w1.ld (i:=0) rfl rfl)) ?_
 obtain ⟨l2,e2,hp⟩:=bind_some' hp
 refine mk_k (eInt .i64) (0:Int) w1 rfl rfl rfl e2 fun H3 k3 w3 s3 c3=>?_
 refine bind_ex (ldSl_of (w3.ld (i:=1) rfl rfl)) ?_
 refine bind_ex (ldI_of (w3.ld (i:=1) rfl rfl)) ?_
 obtain ⟨r4,e4,hp⟩:=bind_some' hp
 refine call_ex (ai.P rfl ⟨w3,(aM.step (s1.trans s3))⟩ e4) ?_
 rintro _ H5 ⟨o0a_5,o0n_5,o0c_5,o0k_5,rfl,rfl,w5,s5,f5_0⟩
 refine bind_ex rfl ?_
 obtain ⟨w6,s6⟩:=w5.pick' [1,0] 3 rfl rfl rfl
 dsimp only [pk,pks,nth,List.drop] at w6 s6
 exact ao.l61_P F rfl rfl ⟨w6,(s0.trans (s1.trans (s3.trans (s5.trans s6)))),(c3.step (s5.trans s6)),(f5_0.step s6)⟩ hp
def ac.Q (H0:Hp) (Ri R0:List Rs)  (r:List Int) (v:AV) (H':Hp):Prop:=∃ o0a:ON,∃ o0n:Nat,∃ o0c:Cap,∃ o0k:List AV,v = (.sl ⟨o0a,o0n,o0c⟩)∧o0n = (r).length∧Out H0 Ri H' (Rs.own ⟨o0a,o0n,o0c⟩ (eInt .i64).z o0k :: R0) fun R=>CR (eInt .i64) H' R o0k (r)
def ac.S125 (H0:Hp) (Ri R0:List Rs)  (C:Sl→Sl→Sl→Int→Hp→OA) (pC:List Int→List Int→List Int→Int→Option (List Int)):Prop:=∀ {qz qA iI:ON} {mA mB hZ:Nat} {qB qC iJ:Cap} {jp jq eJ:List Int} {qD qE iK:List AV} {ee:Int},∀ {H:Hp},mA = jp.length→mB = jq.length→hZ = eJ.length→(Out H0 Ri H (Rs.own ⟨qz,mA,qB⟩ (eInt .i64).z qD :: Rs.own ⟨qA,mB,qC⟩ (eInt .i64).z qE :: Rs.own ⟨iI,hZ,iJ⟩ (eInt .i64).z iK :: R0) fun R=>CR (eInt .i64) H R qD jp∧CR (eInt .i64) H R qE jq∧CR (eInt .i64) H R iK eJ)→∀ {r:List Int},pC jp jq eJ ee = some r→∃ v H',C ⟨qz,mA,qB⟩ ⟨qA,mB,qC⟩ ⟨iI,hZ,iJ⟩ ee H = some (v,H')∧ac.Q H0 Ri R0  r v H'
def ac.S253 (H0:Hp) (Ri R0:List Rs)  (C:Sl→Sl→Sl→Int→Hp→OA) (pC:List Int→List Int→List Int→Int→Option (List Int)):Prop:=∀ {qF qG qH:ON} {mC mD mE:Nat} {qI qJ qK:Cap} {h_ ia im:List Int} {qL qM qN:List AV} {cR:Int},∀ {H:Hp},mC = h_.length→mD = ia.length→mE = im.length→(Out H0 Ri H (Rs.own ⟨qF,mC,qI⟩ (eInt .i64).z qL :: Rs.own ⟨qG,mD,qJ⟩ (eInt .i64).z qM :: Rs.own ⟨qH,mE,qK⟩ (eInt .i64).z qN :: R0) fun R=>CR (eInt .i64) H R qL h_∧CR (eInt .i64) H R qM ia∧CR (eInt .i64) H R qN im)→∀ {r:List Int},pC h_ ia im cR = some r→∃ v H',C ⟨qF,mC,qI⟩ ⟨qG,mD,qJ⟩ ⟨qH,mE,qK⟩ cR H = some (v,H')∧ac.Q H0 Ri R0  r v H'
def ac.pj28 (F:Nat) (fN:List Int→List Int→List Int→Int→Option (List Int)) (mF:List Int) (mG:List Int) (mH:List Int) (kA:Int):Option (List Int):=fN mF mG mH (IntKind.i64.wrap (kA + 1))
theorem ac.j28_P {F:Nat} {H0:Hp} {Ri R0:List Rs}  {C253_:Sl→Sl→Sl→Int→Hp→OA} {fN:List Int→List Int→List Int→Int→Option (List Int)} (hC253:ac.S253 H0 Ri R0  C253_ fN) {yA yB yC:ON} {uL uM uN:Nat} {yD yE yF:Cap} {mF mG mH:List Int} {yG yH yI:List AV} {kA:Int} {H:Hp} (FT:uL = mF.length) (FU:uM = mG.length) (FV:uN = mH.length) (h0:Out H0 Ri H (Rs.own ⟨yA,uL,yD⟩ (eInt .i64).z yG :: Rs.own ⟨yB,uM,yE⟩ (eInt .i64).z yH :: Rs.own ⟨yC,uN,yF⟩ (eInt .i64).z yI :: R0) fun R=>CR (eInt .i64) H R yG mF∧CR (eInt .i64) H R yH mG∧CR (eInt .i64) H R yI mH) {r:List Int} (hp:ac.pj28 F fN mF mG mH kA = some r):∃ v H',ac.j28 F (ao.tw F) (ae.tw F) (ai.tw F) C253_ ⟨yA,uL,yD⟩ ⟨yB,uM,yE⟩ ⟨yC,uN,yF⟩ kA H = some (v,H')∧ac.Q H0 Ri R0  r v H':=by
 obtain ⟨w0,s0,FW,FX,FY⟩:=h0
 subst FT
 subst FU
 subst FV
 unfold ac.pj28 at hp
 unfold ac.j28
 exact hC253 rfl rfl rfl ⟨w0,s0,FW,FX,FY⟩ hp
def ac.pj29 (F:Nat) (fN:List Int→List Int→List Int→Int→Option (List Int)) (mI:List Int) (mJ:List Int) (mK:List Int) (kB:Int):Option (List Int):=fN mI mJ mK (IntKind.i64.wrap (kB + 1))
theorem ac.j29_P {F:Nat} {H0:Hp} {Ri R0:List Rs}  {C253_:Sl→Sl→Sl→Int→Hp→OA} {fN:List Int→List Int→List Int→Int→Option (List Int)} (hC253:ac.S253 H0 Ri R0  C253_ fN) {yJ yK yL:ON} {uO uP uQ:Nat} {yM yN yO:Cap} {mI mJ mK:List Int} {yP yQ yR:List AV} {kB:Int} {H:Hp} (FZ:uO = mI.length) (F_:uP = mJ.length) (Ga:uQ = mK.length) (h0:Out H0 Ri H (Rs.own ⟨yJ,uO,yM⟩ (eInt .i64).z yP :: Rs.own ⟨yK,uP,yN⟩ (eInt .i64).z yQ :: Rs.own ⟨yL,uQ,yO⟩ (eInt .i64).z yR :: R0) fun R=>CR (eInt .i64) H R yP mI∧CR (eInt .i64) H R yQ mJ∧CR (eInt .i64) H R yR mK) {r:List Int} (hp:ac.pj29 F fN mI mJ mK kB = some r):∃ v H',ac.j29 F (ao.tw F) (ae.tw F) (ai.tw F) C253_ ⟨yJ,uO,yM⟩ ⟨yK,uP,yN⟩ ⟨yL,uQ,yO⟩ kB H = some (v,H')∧ac.Q H0 Ri R0  r v H':=by
 obtain ⟨w0,s0,Gb,Gc,Gd⟩:=h0
 subst FZ
 subst F_
 subst Ga
 unfold ac.pj29 at hp
 unfold ac.j29
 exact hC253 rfl rfl rfl ⟨w0,s0,Gb,Gc,Gd⟩ hp
def ac.S509 (H0:Hp) (Ri R0:List Rs)  (C:Sl→Sl→Bool→Hp→OA) (pC:List Int→List Int→Bool→Option (List Int)):Prop:=∀ {qO qP:ON} {mL mM:Nat} {qQ qR:Cap} {jM jr:List Int} {qS qT:List AV} {fm:Bool},∀ {H:Hp},mL = jM.length→mM = jr.length→(Out H0 Ri H (Rs.own ⟨qO,mL,qQ⟩ (eInt .i64).z qS :: Rs.own ⟨qP,mM,qR⟩ (eInt .i64).z qT :: R0) fun R=>CR (eInt .i64) H R qS jM∧CR (eInt .i64) H R qT jr)→∀ {r:List Int},pC jM jr fm = some r→∃ v H',C ⟨qO,mL,qQ⟩ ⟨qP,mM,qR⟩ fm H = some (v,H')∧ac.Q H0 Ri R0  r v H'
def ac.S8151 (H0:Hp) (Ri R0:List Rs)  (C:Sl→Sl→Bool→Int→Hp→OA) (pC:List Int→List Int→Bool→Int→Option (List Int)):Prop:=∀ {qU qV:ON} {mN mO:Nat} {qW qX:Cap} {cH cS:List Int} {qY qZ:List AV} {dj:Bool} {bY:Int},∀ {H:Hp},mN = cH.length→mO = cS.length→(Out H0 Ri H (Rs.own ⟨qU,mN,qW⟩ (eInt .i64).z qY :: Rs.own ⟨qV,mO,qX⟩ (eInt .i64).z qZ :: R0) fun R=>CR (eInt .i64) H R qY cH∧CR (eInt .i64) H R qZ cS)→∀ {r:List Int},pC cH cS dj bY = some r→∃ v H',C ⟨qU,mN,qW⟩ ⟨qV,mO,qX⟩ dj bY H = some (v,H')∧ac.Q H0 Ri R0  r v H'
def ac.pj22 (F:Nat) (cT:List Int→List Int→Bool→Int→Option (List Int)) (mP:List Int) (mQ:List Int) (kr:Bool) (kt:Int):Option (List Int):=cT mP mQ kr (IntKind.i64.wrap (kt + 1))
theorem ac.j22_P {F:Nat} {H0:Hp} {Ri R0:List Rs}  {C8151_:Sl→Sl→Bool→Int→Hp→OA} {cT:List Int→List Int→Bool→Int→Option (List Int)} (hC8151:ac.S8151 H0 Ri R0  C8151_ cT) {yS yT:ON} {uR uS:Nat} {yU yV:Cap} {mP mQ:List Int} {yW yX:List AV} {kr:Bool} {kt:Int} {H:Hp} (Ge:uR = mP.length) (Gf:uS = mQ.length) (h0:Out H0 Ri H (Rs.own ⟨yS,uR,yU⟩ (eInt .i64).z yW :: Rs.own ⟨yT,uS,yV⟩ (eInt .i64).z yX :: R0) fun R=>CR (eInt .i64) H R yW mP∧CR (eInt .i64) H R yX mQ) {r:List Int} (hp:ac.pj22 F cT mP mQ kr kt = some r):∃ v H',ac.j22 F (ao.tw F) (ae.tw F) (ai.tw F) C8151_ ⟨yS,uR,yU⟩ ⟨yT,uS,yV⟩ kr kt H = some (v,H')∧ac.Q H0 Ri R0  r v H':=by
 obtain ⟨w0,s0,Gg,Gh⟩:=h0
 subst Ge
 subst Gf
 unfold ac.pj22 at hp
 unfold ac.j22
 exact hC8151 rfl rfl ⟨w0,s0,Gg,Gh⟩ hp
def ac.pj23 (F:Nat) (cT:List Int→List Int→Bool→Int→Option (List Int)) (mR:List Int) (mS:List Int) (ku:Bool) (kv:Int):Option (List Int):=cT mR mS ku (IntKind.i64.wrap (kv + 1))
theorem ac.j23_P {F:Nat} {H0:Hp} {Ri R0:List Rs}  {C8151_:Sl→Sl→Bool→Int→Hp→OA} {cT:List Int→List Int→Bool→Int→Option (List Int)} (hC8151:ac.S8151 H0 Ri R0  C8151_ cT) {yY yZ:ON} {uT uU:Nat} {y_ za:Cap} {mR mS:List Int} {zb zc:List AV} {ku:Bool} {kv:Int} {H:Hp} (Gi:uT = mR.length) (Gj:uU = mS.length) (h0:Out H0 Ri H (Rs.own ⟨yY,uT,y_⟩ (eInt .i64).z zb :: Rs.own ⟨yZ,uU,za⟩ (eInt .i64).z zc :: R0) fun R=>CR (eInt .i64) H R zb mR∧CR (eInt .i64) H R zc mS) {r:List Int} (hp:ac.pj23 F cT mR mS ku kv = some r):∃ v H',ac.j23 F (ao.tw F) (ae.tw F) (ai.tw F) C8151_ ⟨yY,uT,y_⟩ ⟨yZ,uU,za⟩ ku kv H = some (v,H')∧ac.Q H0 Ri R0  r v H':=by
 obtain ⟨w0,s0,Gk,Gl⟩:=h0
 subst Gi
 subst Gj
 unfold ac.pj23 at hp
 unfold ac.j23
 exact hC8151 rfl rfl ⟨w0,s0,Gk,Gl⟩ hp
def ac.pj24 (F:Nat) (cT:List Int→List Int→Bool→Int→Option (List Int)) (ib:List Int) (fO:List Int) (i_:Bool) (fH:Int) (ja:Int):Option (List Int):=(ix fO ja).bind fun n1=>(bif (decide ((gt fO n1) ≥ 0)) then ((ix ib fH).bind fun n2=>(ix fO (gt ib n2)).bind fun n3=>(bif (decide ((gt fO n3) < 0)) then ((ix ib fH).bind fun n4=>(ix fO ja).bind fun n5=>(ix fO (gt ib n4)).bind fun n6=>(some (fO.set n6 (IntKind.i64.wrap (1 - (gt fO n5))))).bind fun l7=>ac.pj22 F cT ib l7 true fH) else (ac.pj23 F cT ib fO i_ fH))) else (cT ib fO i_ (IntKind.i64.wrap (fH + 1))))
theorem ac.j24_P {F:Nat} {H0:Hp} {Ri R0:List Rs}  {C8151_:Sl→Sl→Bool→Int→Hp→OA} {cT:List Int→List Int→Bool→Int→Option (List Int)} (hC8151:ac.S8151 H0 Ri R0  C8151_ cT) {zd ze:ON} {uV uW:Nat} {zf zg:Cap} {ib fO:List Int} {zh zi:List AV} {i_:Bool} {fH ja:Int} {H:Hp} (Gm:uV = ib.length) (Gn:uW = fO.length) (h0:Out H0 Ri H (Rs.own ⟨zd,uV,zf⟩ (eInt .i64).z zh :: Rs.own ⟨ze,uW,zg⟩ (eInt .i64).z zi :: R0) fun R=>CR (eInt .i64) H R zh ib∧CR (eInt .i64) H R zi fO) {r:List Int} (hp:ac.pj24 F cT ib fO i_ fH ja = some r):∃ v H',ac.j24 F (ao.tw F) (ae.tw F) (ai.tw F) C8151_ ⟨zd,uV,zf⟩ ⟨ze,uW,zg⟩ i_ fH ja H = some (v,H')∧ac.Q H0 Ri R0  r v H':=by
 obtain ⟨w0,s0,mT,jN⟩:=h0
 subst Gm
 subst Gn
 unfold ac.pj24 at hp
 unfold ac.j24
 obtain ⟨n1,g1,hp⟩:=bind_some' hp
 obtain ⟨p1,q1,i1,h1,j1⟩:=W.ixo (E:=(eInt .i64)) w0 (i:=1) rfl rfl jN g1
 refine bind_ex i1 ?_
 have h1:_ = [_]:=h1
 subst h1
 refine bind_ex (ldI_of (j1 0 _ rfl)) ?_
 refine bif_ex (fun hb=>?_) (fun hb=>?_)
 ·replace hp:=bif_t hb hp
  obtain ⟨n2,g2,hp⟩:=bind_some' hp
  obtain ⟨p2,q2,i2,h2,j2⟩:=W.ixo (E:=(eInt .i64)) w0 (i:=0) rfl rfl mT g2
  refine bind_ex i2 ?_
  have h2:_ = [_]:=h2
  subst h2
  refine bind_ex (ldI_of (j2 0 _ rfl)) ?_
  obtain ⟨n3,g3,hp⟩:=bind_some' hp
  obtain ⟨p3,q3,i3,h3,j3⟩:=W.ixo (E:=(eInt .i64)) w0 (i:=1) rfl rfl jN g3
  refine bind_ex i3 ?_
  have h3:_ = [_]:=h3
  subst h3
  refine bind_ex (ldI_of (j3 0 _ rfl)) ?_
  refine bif_ex (fun hb=>?_) (fun hb=>?_)
  ·replace hp:=bif_t hb hp
   obtain ⟨n4,g4,hp⟩:=bind_some' hp
   obtain ⟨p4,q4,i4,h4,j4⟩:=W.ixo (E:=(eInt .i64)) w0 (i:=0) rfl rfl mT g4
   refine bind_ex i4 ?_
   have h4:_ = [_]:=h4
   subst h4
   refine bind_ex (ldI_of (j4 0 _ rfl)) ?_
   obtain ⟨n5,g5,hp⟩:=bind_some' hp
   obtain ⟨p5,q5,i5,h5,j5⟩:=W.ixo (E:=(eInt .i64)) w0 (i:=1) rfl rfl jN g5
   refine bind_ex i5 ?_
   have h5:_ = [_]:=h5
   subst h5
   refine bind_ex (ldI_of (j5 0 _ rfl)) ?_
   obtain ⟨n6,g6,hp⟩:=bind_some' hp
   obtain ⟨p6,q6,i6,h6,j6⟩:=W.ixo (E:=(eInt .i64)) w0 (i:=1) rfl rfl jN g6
   refine bind_ex i6 ?_
   obtain ⟨l7,e7,hp⟩:=bind_some' hp
   refine sto_k (eInt .i64) w0 (i:=1) (j:=0) (p:=p6) rfl rfl jN g6 i6 e7 rfl rfl (fun _ h=>by have h:_ = [_]:=h; subst h; exact rfl) fun H8 k8 w8 s8 c8=>?_
   dsimp only [List.set] at w8 s8 c8
   exact ac.j22_P (@hC8151) rfl ((st_len e7).symm) ⟨w8,(s0.trans s8),(mT.step s8),c8⟩ hp
  ·replace hp:=bif_f hb hp
   exact ac.j23_P (@hC8151) rfl rfl ⟨w0,s0,mT,jN⟩ hp
 ·replace hp:=bif_f hb hp
  exact hC8151 rfl rfl ⟨w0,s0,mT,jN⟩ hp
def ac.pj25 (F:Nat) (cT:List Int→List Int→Bool→Int→Option (List Int)) (mU:List Int) (mV:List Int) (kw:Bool) (kx:Int):Option (List Int):=cT mU mV kw (IntKind.i64.wrap (kx + 1))
theorem ac.j25_P {F:Nat} {H0:Hp} {Ri R0:List Rs}  {C8151_:Sl→Sl→Bool→Int→Hp→OA} {cT:List Int→List Int→Bool→Int→Option (List Int)} (hC8151:ac.S8151 H0 Ri R0  C8151_ cT) {zj zk:ON} {uX uY:Nat} {zl zm:Cap} {mU mV:List Int} {zn zo:List AV} {kw:Bool} {kx:Int} {H:Hp} (Gp:uX = mU.length) (Gq:uY = mV.length) (h0:Out H0 Ri H (Rs.own ⟨zj,uX,zl⟩ (eInt .i64).z zn :: Rs.own ⟨zk,uY,zm⟩ (eInt .i64).z zo :: R0) fun R=>CR (eInt .i64) H R zn mU∧CR (eInt .i64) H R zo mV) {r:List Int} (hp:ac.pj25 F cT mU mV kw kx = some r):∃ v H',ac.j25 F (ao.tw F) (ae.tw F) (ai.tw F) C8151_ ⟨zj,uX,zl⟩ ⟨zk,uY,zm⟩ kw kx H = some (v,H')∧ac.Q H0 Ri R0  r v H':=by
 obtain ⟨w0,s0,Gr,Gs⟩:=h0
 subst Gp
 subst Gq
 unfold ac.pj25 at hp
 unfold ac.j25
 exact hC8151 rfl rfl ⟨w0,s0,Gr,Gs⟩ hp
def ac.pj26 (F:Nat) (cT:List Int→List Int→Bool→Int→Option (List Int)) (mW:List Int) (mX:List Int) (ky:Bool) (kz:Int):Option (List Int):=cT mW mX ky (IntKind.i64.wrap (kz + 1))
theorem ac.j26_P {F:Nat} {H0:Hp} {Ri R0:List Rs}  {C8151_:Sl→Sl→Bool→Int→Hp→OA} {cT:List Int→List Int→Bool→Int→Option (List Int)} (hC8151:ac.S8151 H0 Ri R0  C8151_ cT) {zp zq:ON} {uZ u_:Nat} {zr zt:Cap} {mW mX:List Int} {zu zv:List AV} {ky:Bool} {kz:Int} {H:Hp} (Gt:uZ = mW.length) (Gu:u_ = mX.length) (h0:Out H0 Ri H (Rs.own ⟨zp,uZ,zr⟩ (eInt .i64).z zu :: Rs.own ⟨zq,u_,zt⟩ (eInt .i64).z zv :: R0) fun R=>CR (eInt .i64) H R zu mW∧CR (eInt .i64) H R zv mX) {r:List Int} (hp:ac.pj26 F cT mW mX ky kz = some r):∃ v H',ac.j26 F (ao.tw F) (ae.tw F) (ai.tw F) C8151_ ⟨zp,uZ,zr⟩ ⟨zq,u_,zt⟩ ky kz H = some (v,H')∧ac.Q H0 Ri R0  r v H':=by
 obtain ⟨w0,s0,Gv,Gw⟩:=h0
 subst Gt
 subst Gu
 unfold ac.pj26 at hp
 unfold ac.j26
 exact hC8151 rfl rfl ⟨w0,s0,Gv,Gw⟩ hp
def ac.pj20 (F:Nat) (cc:List Int→List Int→Bool→Option (List Int)) (mY:List Int) (mZ:List Int) (kp:Bool):Option (List Int):=cc mY mZ kp
theorem ac.j20_P {F:Nat} {H0:Hp} {Ri R0:List Rs}  {C509_:Sl→Sl→Bool→Hp→OA} {cc:List Int→List Int→Bool→Option (List Int)} (hC509:ac.S509 H0 Ri R0  C509_ cc) {zw zx:ON} {va vb:Nat} {zy zz:Cap} {mY mZ:List Int} {zA zB:List AV} {kp:Bool} {H:Hp} (Gx:va = mY.length) (Gy:vb = mZ.length) (h0:Out H0 Ri H (Rs.own ⟨zw,va,zy⟩ (eInt .i64).z zA :: Rs.own ⟨zx,vb,zz⟩ (eInt .i64).z zB :: R0) fun R=>CR (eInt .i64) H R zA mY∧CR (eInt .i64) H R zB mZ) {r:List Int} (hp:ac.pj20 F cc mY mZ kp = some r):∃ v H',ac.j20 F (ao.tw F) (ae.tw F) (ai.tw F) C509_ ⟨zw,va,zy⟩ ⟨zx,vb,zz⟩ kp H = some (v,H')∧ac.Q H0 Ri R0  r v H':=by
 obtain ⟨w0,s0,Gz,GA⟩:=h0
 subst Gx
 subst Gy
 unfold ac.pj20 at hp
 unfold ac.j20
 exact hC509 rfl rfl ⟨w0,s0,Gz,GA⟩ hp
def ac.pj21 (F:Nat) (cc:List Int→List Int→Bool→Option (List Int)) (m_:List Int) (na:List Int) (kq:Bool):Option (List Int):=ac.pj20 F cc m_ na kq
theorem ac.j21_P {F:Nat} {H0:Hp} {Ri R0:List Rs}  {C509_:Sl→Sl→Bool→Hp→OA} {cc:List Int→List Int→Bool→Option (List Int)} (hC509:ac.S509 H0 Ri R0  C509_ cc) {zC zD:ON} {vc vd:Nat} {zE zF:Cap} {m_ na:List Int} {zG zH:List AV} {kq:Bool} {H:Hp} (GB:vc = m_.length) (GC:vd = na.length) (h0:Out H0 Ri H (Rs.own ⟨zC,vc,zE⟩ (eInt .i64).z zG :: Rs.own ⟨zD,vd,zF⟩ (eInt .i64).z zH :: R0) fun R=>CR (eInt .i64) H R zG m_∧CR (eInt .i64) H R zH na) {r:List Int} (hp:ac.pj21 F cc m_ na kq = some r):∃ v H',ac.j21 F (ao.tw F) (ae.tw F) (ai.tw F) C509_ ⟨zC,vc,zE⟩ ⟨zD,vd,zF⟩ kq H = some (v,H')∧ac.Q H0 Ri R0  r v H':=by
 obtain ⟨w0,s0,GD,GE⟩:=h0
 subst GB
 subst GC
 unfold ac.pj21 at hp
 unfold ac.j21
 exact ac.j20_P (@hC509) rfl rfl ⟨w0,s0,GD,GE⟩ hp
def ac.pl8151 (F:Nat) (cc:List Int→List Int→Bool→Option (List Int)):Nat→List Int→List Int→Bool→Int→Option (List Int)
 | 0,_,_,_,_=>none
 | k + 1,cH,cS,dj,bY=>(bif (decide (bY < (cH.length:Int))) then ((ix cH (IntKind.i64.wrap ((IntKind.i64.wrap ((IntKind.i64.wrap (Int.tdiv bY 4)) * 4)) + (Int.tmod (IntKind.i64.wrap (bY + 1)) 4)))).bind fun n1=>(ix cH bY).bind fun n2=>(ix cS (gt cH n2)).bind fun n3=>(bif (decide ((gt cS n3) ≥ 0)) then ((ix cS (gt cH n1)).bind fun n4=>(bif (decide ((gt cS n4) < 0)) then ((ix cH bY).bind fun n5=>(ix cS (gt cH n5)).bind fun n6=>(ix cS (gt cH n1)).bind fun n7=>(some (cS.set n7 (IntKind.i64.wrap (1 - (gt cS n6))))).bind fun l8=>ac.pj24 F (ac.pl8151 F cc k) cH l8 true bY (gt cH n1)) else (ac.pj24 F (ac.pl8151 F cc k) cH cS dj bY (gt cH n1)))) else ((ix cS (gt cH n1)).bind fun n10=>(bif (decide ((gt cS n10) ≥ 0)) then ((ix cH bY).bind fun n11=>(ix cS (gt cH n11)).bind fun n12=>(bif (decide ((gt cS n12) < 0)) then ((ix cH bY).bind fun n13=>(ix cS (gt cH n1)).bind fun n14=>(ix cS (gt cH n13)).bind fun n15=>(some (cS.set n15 (IntKind.i64.wrap (1 - (gt cS n14))))).bind fun l16=>ac.pj25 F (ac.pl8151 F cc k) cH l16 true bY) else (ac.pj26 F (ac.pl8151 F cc k) cH cS dj bY))) else (ac.pl8151 F cc k cH cS dj (IntKind.i64.wrap (bY + 1))))))) else (ac.pj21 F cc cH cS dj))
termination_by structural n=>n
theorem ac.l8151_P {F:Nat} {H0:Hp} {Ri R0:List Rs}  {C509_:Sl→Sl→Bool→Hp→OA} {cc:List Int→List Int→Bool→Option (List Int)} (hC509:ac.S509 H0 Ri R0  C509_ cc):∀ k,ac.S8151 H0 Ri R0  (ac.l8151 F (ao.tw F) (ae.tw F) (ai.tw F) C509_ k) (ac.pl8151 F cc k):=by
 intro k
 induction k with
 | zero=>
  intro qU qV mN mO qW qX cH cS qY qZ dj bY H zI zJ h0 r hp
  exact nomatch (show (none:Option (List Int)) = some r from hp)
 | succ k ih=>
  intro qU qV mN mO qW qX cH cS qY qZ dj bY H zI zJ h0 r hp
  obtain ⟨w0,s0,ic,fP⟩:=h0
  subst zI
  subst zJ
  unfold ac.pl8151 at hp
  unfold ac.l8151
  refine bif_ex (fun hb=>?_) (fun hb=>?_)
  ·replace hp:=bif_t hb hp
   obtain ⟨n1,g1,hp⟩:=bind_some' hp
   obtain ⟨p1,q1,i1,h1,j1⟩:=W.ixo (E:=(eInt .i64)) w0 (i:=0) rfl rfl ic g1
   refine bind_ex i1 ?_
   have h1:_ = [_]:=h1
   subst h1
   refine bind_ex (ldI_of (j1 0 _ rfl)) ?_
   obtain ⟨n2,g2,hp⟩:=bind_some' hp
   obtain ⟨p2,q2,i2,h2,j2⟩:=W.ixo (E:=(eInt .i64)) w0 (i:=0) rfl rfl ic g2
   refine bind_ex i2 ?_
   have h2:_ = [_]:=h2
   subst h2
   refine bind_ex (ldI_of (j2 0 _ rfl)) ?_
   obtain ⟨n3,g3,hp⟩:=bind_some' hp
   obtain ⟨p3,q3,i3,h3,j3⟩:=W.ixo (E:=(eInt .i64)) w0 (i:=1) rfl rfl fP g3
   refine bind_ex i3 ?_
   have h3:_ = [_]:=h3
   subst h3
   refine bind_ex (ldI_of (j3 0 _ rfl)) ?_
   refine bif_ex (fun hb=>?_) (fun hb=>?_)
   ·replace hp:=bif_t hb hp
    obtain ⟨n4,g4,hp⟩:=bind_some' hp
    obtain ⟨p4,q4,i4,h4,j4⟩:=W.ixo (E:=(eInt .i64)) w0 (i:=1) rfl rfl fP g4
    refine bind_ex i4 ?_
    have h4:_ = [_]:=h4
    subst h4
    refine bind_ex (ldI_of (j4 0 _ rfl)) ?_
    refine bif_ex (fun hb=>?_) (fun hb=>?_)
    ·replace hp:=bif_t hb hp
     obtain ⟨n5,g5,hp⟩:=bind_some' hp
     obtain ⟨p5,q5,i5,h5,j5⟩:=W.ixo (E:=(eInt .i64)) w0 (i:=0) rfl rfl ic g5
     refine bind_ex i5 ?_
     have h5:_ = [_]:=h5
     subst h5
     refine bind_ex (ldI_of (j5 0 _ rfl)) ?_
     obtain ⟨n6,g6,hp⟩:=bind_some' hp
     obtain ⟨p6,q6,i6,h6,j6⟩:=W.ixo (E:=(eInt .i64)) w0 (i:=1) rfl rfl fP g6
     refine bind_ex i6 ?_
     have h6:_ = [_]:=h6
     subst h6
     refine bind_ex (ldI_of (j6 0 _ rfl)) ?_
     obtain ⟨n7,g7,hp⟩:=bind_some' hp
     obtain ⟨p7,q7,i7,h7,j7⟩:=W.ixo (E:=(eInt .i64)) w0 (i:=1) rfl rfl fP g7
     refine bind_ex i7 ?_
     obtain ⟨l8,e8,hp⟩:=bind_some' hp
     refine sto_k (eInt .i64) w0 (i:=1) (j:=0) (p:=p7) rfl rfl fP g7 i7 e8 rfl rfl (fun _ h=>by have h:_ = [_]:=h; subst h; exact rfl) fun H9 k9 w9 s9 c9=>?_
     dsimp only [List.set] at w9 s9 c9
     exact ac.j24_P (@ih) rfl ((st_len e8).symm) ⟨w9,(s0.trans s9),(ic.step s9),c9⟩ hp
    ·replace hp:=bif_f hb hp
     exact ac.j24_P (@ih) rfl rfl ⟨w0,s0,ic,fP⟩ hp
   ·replace hp:=bif_f hb hp
    obtain ⟨n10,g10,hp⟩:=bind_some' hp
    obtain ⟨p10,q10,i10,h10,j10⟩:=W.ixo (E:=(eInt .i64)) w0 (i:=1) rfl rfl fP g10
    refine bind_ex i10 ?_
    have h10:_ = [_]:=h10
    subst h10
    refine bind_ex (ldI_of (j10 0 _ rfl)) ?_
    refine bif_ex (fun hb=>?_) (fun hb=>?_)
    ·replace hp:=bif_t hb hp
     obtain ⟨n11,g11,hp⟩:=bind_some' hp
     obtain ⟨p11,q11,i11,h11,j11⟩:=W.ixo (E:=(eInt .i64)) w0 (i:=0) rfl rfl ic g11
     refine bind_ex i11 ?_
     have h11:_ = [_]:=h11
     subst h11
     refine bind_ex (ldI_of (j11 0 _ rfl)) ?_
     obtain ⟨n12,g12,hp⟩:=bind_some' hp
     obtain ⟨p12,q12,i12,h12,j12⟩:=W.ixo (E:=(eInt .i64)) w0 (i:=1) rfl rfl fP g12
     refine bind_ex i12 ?_
     have h12:_ = [_]:=h12
     subst h12
     refine bind_ex (ldI_of (j12 0 _ rfl)) ?_
     refine bif_ex (fun hb=>?_) (fun hb=>?_)
     ·replace hp:=bif_t hb hp
      obtain ⟨n13,g13,hp⟩:=bind_some' hp
      obtain ⟨p13,q13,i13,h13,j13⟩:=W.ixo (E:=(eInt .i64)) w0 (i:=0) rfl rfl ic g13
      refine bind_ex i13 ?_
      have h13:_ = [_]:=h13
      subst h13
      refine bind_ex (ldI_of (j13 0 _ rfl)) ?_
      obtain ⟨n14,g14,hp⟩:=bind_some' hp
      obtain ⟨p14,q14,i14,h14,j14⟩:=W.ixo (E:=(eInt .i64)) w0 (i:=1) rfl rfl fP g14
      refine bind_ex i14 ?_
      have h14:_ = [_]:=h14
      subst h14
      refine bind_ex (ldI_of (j14 0 _ rfl)) ?_
      obtain ⟨n15,g15,hp⟩:=bind_some' hp
      obtain ⟨p15,q15,i15,h15,j15⟩:=W.ixo (E:=(eInt .i64)) w0 (i:=1) rfl rfl fP g15
      refine bind_ex i15 ?_
      obtain ⟨l16,e16,hp⟩:=bind_some' hp
      refine sto_k (eInt .i64) w0 (i:=1) (j:=0) (p:=p15) rfl rfl fP g15 i15 e16 rfl rfl (fun _ h=>by have h:_ = [_]:=h; subst h; exact rfl) fun H17 k17 w17 s17 c17=>?_
      dsimp only [List.set] at w17 s17 c17
      exact ac.j25_P (@ih) rfl ((st_len e16).symm) ⟨w17,(s0.trans s17),(ic.step s17),c17⟩ hp
     ·replace hp:=bif_f hb hp
      exact ac.j26_P (@ih) rfl rfl ⟨w0,s0,ic,fP⟩ hp
    ·replace hp:=bif_f hb hp
     exact ih rfl rfl ⟨w0,s0,ic,fP⟩ hp
  ·replace hp:=bif_f hb hp
   exact ac.j21_P (@hC509) rfl rfl ⟨w0,s0,ic,fP⟩ hp
def ac.pl509 (F:Nat) :Nat→List Int→List Int→Bool→Option (List Int)
 | 0,_,_,_=>none
 | k + 1,jM,jr,fm=>(bif fm then (ac.pl8151 F (ac.pl509 F k) F jM jr false 0) else (some jr))
termination_by structural n=>n
theorem ac.l509_P {F:Nat} {H0:Hp} {Ri R0:List Rs}  :∀ k,ac.S509 H0 Ri R0  (ac.l509 F (ao.tw F) (ae.tw F) (ai.tw F)  k) (ac.pl509 F  k):=by
 intro k
 induction k with
 | zero=>
  intro qO qP mL mM qQ qR jM jr qS qT fm H zK zL h0 r hp
  exact nomatch (show (none:Option (List Int)) = some r from hp)
 | succ k ih=>
  intro qO qP mL mM qQ qR jM jr qS qT fm H zK zL h0 r hp
  obtain ⟨w0,s0,GF,zM⟩:=h0
  subst zK
  subst zL
  unfold ac.pl509 at hp
  unfold ac.l509
  refine bif_ex (fun hb=>?_) (fun hb=>?_)
  ·replace hp:=bif_t hb hp
   exact ac.l8151_P (@ih) F rfl rfl ⟨w0,s0,GF,zM⟩ hp
  ·replace hp:=bif_f hb hp
   obtain ⟨w1,s1⟩:=w0.pick' [1] 2 rfl rfl rfl
   dsimp only [pk,pks,nth,List.drop] at w1 s1
   obtain rfl:=Option.some.inj hp
   exact ⟨_,_,rfl,_,_,_,_,rfl,rfl,w1,(s0.trans s1),(zM.step s1)⟩
def ac.pj27 (F:Nat)  (nb:List Int) (nc:List Int):Option (List Int):=ac.pl509 F F nb nc true
theorem ac.j27_P {F:Nat} {H0:Hp} {Ri R0:List Rs}   {zN zO:ON} {ve vf:Nat} {zP zQ:Cap} {nb nc:List Int} {zR zS:List AV} {H:Hp} (GG:ve = nb.length) (GH:vf = nc.length) (h0:Out H0 Ri H (Rs.own ⟨zN,ve,zP⟩ (eInt .i64).z zR :: Rs.own ⟨zO,vf,zQ⟩ (eInt .i64).z zS :: R0) fun R=>CR (eInt .i64) H R zR nb∧CR (eInt .i64) H R zS nc) {r:List Int} (hp:ac.pj27 F  nb nc = some r):∃ v H',ac.j27 F (ao.tw F) (ae.tw F) (ai.tw F)  ⟨zN,ve,zP⟩ ⟨zO,vf,zQ⟩ H = some (v,H')∧ac.Q H0 Ri R0  r v H':=by
 obtain ⟨w0,s0,GI,GJ⟩:=h0
 subst GG
 subst GH
 unfold ac.pj27 at hp
 unfold ac.j27
 exact ac.l509_P F rfl rfl ⟨w0,s0,GI,GJ⟩ hp
def ac.pl253 (F:Nat) :Nat→List Int→List Int→List Int→Int→Option (List Int)
 | 0,_,_,_,_=>none
 | k + 1,h_,ia,im,cR=>(bif (decide (cR < (ia.length:Int))) then ((ix ia cR).bind fun n1=>(bif ((gt ia n1) == cR) then ((ix h_ (IntKind.i64.wrap (4 * cR))).bind fun n2=>(ix im (gt h_ n2)).bind fun n3=>(some (im.set n3 0)).bind fun l4=>ac.pj28 F (ac.pl253 F k) h_ ia l4 cR) else (ac.pj29 F (ac.pl253 F k) h_ ia im cR))) else (ac.pj27 F h_ im))
termination_by structural n=>n
theorem ac.l253_P {F:Nat} {H0:Hp} {Ri R0:List Rs}  :∀ k,ac.S253 H0 Ri R0  (ac.l253 F (ao.tw F) (ae.tw F) (ai.tw F)  k) (ac.pl253 F  k):=by
 intro k
 induction k with
 | zero=>
  intro qF qG qH mC mD mE qI qJ qK h_ ia im qL qM qN cR H zT zU zV h0 r hp
  exact nomatch (show (none:Option (List Int)) = some r from hp)
 | succ k ih=>
  intro qF qG qH mC mD mE qI qJ qK h_ ia im qL qM qN cR H zT zU zV h0 r hp
  obtain ⟨w0,s0,q_,vg,ra⟩:=h0
  subst zT
  subst zU
  subst zV
  unfold ac.pl253 at hp
  unfold ac.l253
  refine bif_ex (fun hb=>?_) (fun hb=>?_)
  ·replace hp:=bif_t hb hp
   obtain ⟨n1,g1,hp⟩:=bind_some' hp
   obtain ⟨p1,q1,i1,h1,j1⟩:=W.ixo (E:=(eInt .i64)) w0 (i:=1) rfl rfl vg g1
   refine bind_ex i1 ?_
   have h1:_ = [_]:=h1
   subst h1
   refine bind_ex (ldI_of (j1 0 _ rfl)) ?_
   refine bif_ex (fun hb=>?_) (fun hb=>?_)
   ·replace hp:=bif_t hb hp
    obtain ⟨n2,g2,hp⟩:=bind_some' hp
    obtain ⟨p2,q2,i2,h2,j2⟩:=W.ixo (E:=(eInt .i64)) w0 (i:=0) rfl rfl q_ g2
    refine bind_ex i2 ?_
    have h2:_ = [_]:=h2
    subst h2
    refine bind_ex (ldI_of (j2 0 _ rfl)) ?_
    obtain ⟨n3,g3,hp⟩:=bind_some' hp
    obtain ⟨p3,q3,i3,h3,j3⟩:=W.ixo (E:=(eInt .i64)) w0 (i:=2) rfl rfl ra g3
    refine bind_ex i3 ?_
    obtain ⟨l4,e4,hp⟩:=bind_some' hp
    refine sto_k (eInt .i64) w0 (i:=2) (j:=0) (p:=p3) rfl rfl ra g3 i3 e4 rfl rfl (fun _ h=>by have h:_ = [_]:=h; subst h; exact rfl) fun H5 k5 w5 s5 c5=>?_
    dsimp only [List.set] at w5 s5 c5
    exact ac.j28_P (@ih) rfl rfl ((st_len e4).symm) ⟨w5,(s0.trans s5),(q_.step s5),(vg.step s5),c5⟩ hp
   ·replace hp:=bif_f hb hp
    exact ac.j29_P (@ih) rfl rfl rfl ⟨w0,s0,q_,vg,ra⟩ hp
  ·replace hp:=bif_f hb hp
   obtain ⟨w6,s6⟩:=w0.pick' [0,2] 3 rfl rfl rfl
   dsimp only [pk,pks,nth,List.drop] at w6 s6
   exact ac.j27_P rfl rfl ⟨w6,(s0.trans s6),(q_.step s6),(ra.step s6)⟩ hp
def ac.pj30 (F:Nat)  (nd:List Int) (ng:List Int) (nh:List Int):Option (List Int):=ac.pl253 F F nd ng nh 0
theorem ac.j30_P {F:Nat} {H0:Hp} {Ri R0:List Rs}   {zW zX zY:ON} {vh vi vj:Nat} {zZ z_ Aa:Cap} {nd ng nh:List Int} {Ab Ac Ad:List AV} {H:Hp} (GK:vh = nd.length) (GL:vi = ng.length) (GM:vj = nh.length) (h0:Out H0 Ri H (Rs.own ⟨zW,vh,zZ⟩ (eInt .i64).z Ab :: Rs.own ⟨zX,vi,z_⟩ (eInt .i64).z Ac :: Rs.own ⟨zY,vj,Aa⟩ (eInt .i64).z Ad :: R0) fun R=>CR (eInt .i64) H R Ab nd∧CR (eInt .i64) H R Ac ng∧CR (eInt .i64) H R Ad nh) {r:List Int} (hp:ac.pj30 F  nd ng nh = some r):∃ v H',ac.j30 F (ao.tw F) (ae.tw F) (ai.tw F)  ⟨zW,vh,zZ⟩ ⟨zX,vi,z_⟩ ⟨zY,vj,Aa⟩ H = some (v,H')∧ac.Q H0 Ri R0  r v H':=by
 obtain ⟨w0,s0,GN,GO,GP⟩:=h0
 subst GK
 subst GL
 subst GM
 unfold ac.pj30 at hp
 unfold ac.j30
 exact ac.l253_P F rfl rfl rfl ⟨w0,s0,GN,GO,GP⟩ hp
def ac.pl125 (F:Nat) :Nat→List Int→List Int→List Int→Int→Option (List Int)
 | 0,_,_,_,_=>none
 | k + 1,jp,jq,eJ,ee=>(bif (decide (ee < (eJ.length:Int))) then ((ix eJ ee).bind fun n1=>(some (eJ.set n1 (-1))).bind fun l2=>ac.pl125 F k jp jq l2 (IntKind.i64.wrap (ee + 1))) else (ac.pj30 F jp jq eJ))
termination_by structural n=>n
theorem ac.l125_P {F:Nat} {H0:Hp} {Ri R0:List Rs}  :∀ k,ac.S125 H0 Ri R0  (ac.l125 F (ao.tw F) (ae.tw F) (ai.tw F)  k) (ac.pl125 F  k):=by
 intro k
 induction k with
 | zero=>
  intro qz qA iI mA mB hZ qB qC iJ jp jq eJ qD qE iK ee H Ae Af ni h0 r hp
  exact nomatch (show (none:Option (List Int)) = some r from hp)
 | succ k ih=>
  intro qz qA iI mA mB hZ qB qC iJ jp jq eJ qD qE iK ee H Ae Af ni h0 r hp
  obtain ⟨w0,s0,Ag,Ah,k_⟩:=h0
  subst Ae
  subst Af
  subst ni
  unfold ac.pl125 at hp
  unfold ac.l125
  refine bif_ex (fun hb=>?_) (fun hb=>?_)
  ·replace hp:=bif_t hb hp
   obtain ⟨n1,g1,hp⟩:=bind_some' hp
   obtain ⟨p1,q1,i1,h1,j1⟩:=W.ixo (E:=(eInt .i64)) w0 (i:=2) rfl rfl k_ g1
   refine bind_ex i1 ?_
   obtain ⟨l2,e2,hp⟩:=bind_some' hp
   refine sto_k (eInt .i64) w0 (i:=2) (j:=0) (p:=p1) rfl rfl k_ g1 i1 e2 rfl rfl (fun _ h=>by have h:_ = [_]:=h; subst h; exact rfl) fun H3 k3 w3 s3 c3=>?_
   dsimp only [List.set] at w3 s3 c3
   exact ih rfl rfl ((st_len e2).symm) ⟨w3,(s0.trans s3),(Ag.step s3),(Ah.step s3),c3⟩ hp
  ·replace hp:=bif_f hb hp
   exact ac.j30_P rfl rfl rfl ⟨w0,s0,Ag,Ah,k_⟩ hp
def ac.p (F:Nat) (ad:List (Int×Int×Int×Int×Int)):Option (List Int):=(ao.p F ad).bind fun r2=>(ae.p F ad).bind fun r4=>(ai.p F ad).bind fun r6=>(mkn (r6.length:Int) (0:Int)).bind fun l8=>ac.pl125 F F r2 r4 l8 0
theorem ac.P {F:Nat} {ax:ON} {aq:Nat} {ay:Cap} {ad:List (Int×Int×Int×Int×Int)} {ab:Int} {H:Hp} {R0:List Rs} (bd:aq = ad.length) (h0:Inn H R0 fun R=>ROs (ePair (eInt .i64) (ePair (eInt .i64) (ePair (eInt .i64) (ePair (eInt .i64) (eInt .i64))))) H R ⟨ax,aq,ay⟩ ad) {r:List Int} (hp:ac.p F ad = some r):∃ v H',ac.tw F ⟨ax,aq,ay⟩ ab H = some (v,H')∧ac.Q H R0 R0  r v H':=by
 obtain ⟨w0,aM⟩:=h0
 subst bd
 unfold ac.p at hp
 unfold ac.tw ac.twX
 have s0:=w0.rf
 refine new_k w0 fun H1 w1 s1=>?_
 refine bind_ex (ldSl_of (w1.ld (i:=0) rfl rfl)) ?_
 refine bind_ex (ldI_of (w1.ld (i:=0) rfl rfl)) ?_
 obtain ⟨r2,e2,hp⟩:=bind_some' hp
 refine call_ex (ao.P rfl ⟨w1,(aM.step s1)⟩ e2) ?_
 rintro _ H3 ⟨o0a_3,o0n_3,o0c_3,o0k_3,rfl,rfl,w3,s3,f3_0⟩
 refine bind_ex rfl ?_
 refine bind_ex (ldSl_of (w3.ld (i:=1) rfl rfl)) ?_
 refine bind_ex (ldI_of (w3.ld (i:=1) rfl rfl)) ?_
 obtain ⟨r4,e4,hp⟩:=bind_some' hp
 refine call_ex (ae.P rfl ⟨w3,(aM.step (s1.trans s3))⟩ e4) ?_
 rintro _ H5 ⟨o0a_5,o0n_5,o0c_5,o0k_5,rfl,rfl,w5,s5,f5_0⟩
 refine bind_ex rfl ?_
 refine bind_ex (ldSl_of (w5.ld (i:=2) rfl rfl)) ?_
 refine bind_ex (ldI_of (w5.ld (i:=2) rfl rfl)) ?_
 obtain ⟨r6,e6,hp⟩:=bind_some' hp
 refine call_ex (ai.P rfl ⟨w5,(aM.step (s1.trans (s3.trans s5)))⟩ e6) ?_
 rintro _ H7 ⟨o0a_7,o0n_7,o0c_7,o0k_7,rfl,rfl,w7,s7,f7_0⟩
 refine bind_ex rfl ?_
 obtain ⟨l8,e8,hp⟩:=bind_some' hp
 refine mk_k (eInt .i64) (0:Int) w7 rfl rfl rfl e8 fun H9 k9 w9 s9 c9=>?_
 obtain ⟨w10,s10⟩:=w9.pick' [3,2,0] 5 rfl rfl rfl
 dsimp only [pk,pks,nth,List.drop] at w10 s10
 exact ac.l125_P F rfl rfl rfl ⟨w10,(s0.trans (s1.trans (s3.trans (s5.trans (s7.trans (s9.trans s10)))))),(f3_0.step (s5.trans (s7.trans (s9.trans s10)))),(f5_0.step (s7.trans (s9.trans s10))),(c9.step s10)⟩ hp
def bv.Q (H0:Hp) (Ri R0:List Rs)  (r:Int) (v:AV) (H':Hp):Prop:=v = (.int .i64 r)∧Out H0 Ri H' (R0) fun R=>True
def bv.p (F:Nat) (ad:List Int) (gj:List Int) (bj:Int) (eZ:Int):Option (Int):=(ix ad (IntKind.i64.wrap ((IntKind.i64.wrap (4 * bj)) + 1))).bind fun n1=>(ix gj (gt ad n1)).bind fun n2=>(bif ((gt gj n2) == eZ) then (some 1) else (some (-1)))
theorem bv.P {F:Nat} {ax nj:ON} {aq jO:Nat} {ay nk:Cap} {ad gj:List Int} {bj eZ:Int} {H:Hp} {R0:List Rs} (bd:aq = ad.length) (vk:jO = gj.length) (h0:Inn H R0 fun R=>ROs (eInt .i64) H R ⟨ax,aq,ay⟩ ad∧ROs (eInt .i64) H R ⟨nj,jO,nk⟩ gj) {r:Int} (hp:bv.p F ad gj bj eZ = some r):∃ v H',bv.tw F ⟨ax,aq,ay⟩ ⟨nj,jO,nk⟩ bj eZ H = some (v,H')∧bv.Q H R0 R0  r v H':=by
 obtain ⟨w0,aM,vl⟩:=h0
 subst bd
 subst vk
 unfold bv.p at hp
 unfold bv.tw bv.twX
 have s0:=w0.rf
 obtain ⟨n1,g1,hp⟩:=bind_some' hp
 obtain ⟨p1,q1,i1,h1,j1⟩:=ROs.ixr aM rfl g1
 refine bind_ex i1 ?_
 have h1:_ = [_]:=h1
 subst h1
 refine bind_ex (ldI_of (j1 0 _ rfl)) ?_
 obtain ⟨n2,g2,hp⟩:=bind_some' hp
 obtain ⟨p2,q2,i2,h2,j2⟩:=ROs.ixr vl rfl g2
 refine bind_ex i2 ?_
 have h2:_ = [_]:=h2
 subst h2
 refine bind_ex (ldI_of (j2 0 _ rfl)) ?_
 refine bif_ex (fun hb=>?_) (fun hb=>?_)
 ·replace hp:=bif_t hb hp
  obtain rfl:=Option.some.inj hp
  exact ⟨_,_,rfl,rfl,w0,s0,trivial⟩
 ·replace hp:=bif_f hb hp
  obtain rfl:=Option.some.inj hp
  exact ⟨_,_,rfl,rfl,w0,s0,trivial⟩
def bw.Q (H0:Hp) (Ri R0:List Rs)  (r:Int×Int) (v:AV) (H':Hp):Prop:=v = (.tup [(.int .i64 r.1),(.int .i64 r.2)])∧Out H0 Ri H' (R0) fun R=>True
def bw.p (F:Nat) (ad:List (Int×Int×Int×Int×Int)) (ab:Int) (ah:Int) (bb:Int):Option (Int×Int):=(bt.p F ad ab).bind fun r2=>(bif (!r2) then (some (0,1)) else ((aY.p F ah 0 (IntKind.i64.wrap ((ad.length:Int) - 1))).bind fun r5=>(bif (!r5) then (some (0,4)) else ((aY.p F bb 0 1).bind fun r8=>(bif (!r8) then (some (0,2)) else ((ao.p F ad).bind fun r11=>(ac.p F ad).bind fun r14=>(bv.p F r11 r14 ah bb).bind fun r19=>some (r19,0)))))))
theorem bw.P {F:Nat} {ax:ON} {aq:Nat} {ay:Cap} {ad:List (Int×Int×Int×Int×Int)} {ab ah bb:Int} {H:Hp} {R0:List Rs} (bd:aq = ad.length) (h0:Inn H R0 fun R=>ROs (ePair (eInt .i64) (ePair (eInt .i64) (ePair (eInt .i64) (ePair (eInt .i64) (eInt .i64))))) H R ⟨ax,aq,ay⟩ ad) {r:Int×Int} (hp:bw.p F ad ab ah bb = some r):∃ v H',bw.tw F ⟨ax,aq,ay⟩ ab ah bb H = some (v,H')∧bw.Q H R0 R0  r v H':=by
 obtain ⟨w0,aM⟩:=h0
 subst bd
 unfold bw.p at hp
 unfold bw.tw bw.twX
 have s0:=w0.rf
 refine new_k w0 fun H1 w1 s1=>?_
 refine bind_ex (ldSl_of (w1.ld (i:=0) rfl rfl)) ?_
 refine bind_ex (ldI_of (w1.ld (i:=0) rfl rfl)) ?_
 obtain ⟨r2,e2,hp⟩:=bind_some' hp
 refine call_ex (bt.P rfl ⟨w1,(aM.step s1)⟩ e2) ?_
 rintro _ H3 ⟨rfl,w3,s3,_⟩
 refine bind_ex rfl ?_
 refine bif_ex (fun hb=>?_) (fun hb=>?_)
 ·replace hp:=bif_t hb hp
  obtain ⟨w4,s4⟩:=w3.pick' [] 1 rfl rfl rfl
  dsimp only [pk,pks,nth,List.drop] at w4 s4
  obtain rfl:=Option.some.inj hp
  exact ⟨_,_,rfl,rfl,w4,(s0.trans (s1.trans (s3.trans s4))),trivial⟩
 ·replace hp:=bif_f hb hp
  refine bind_ex (ldSl_of (w3.ld (i:=0) rfl rfl)) ?_
  obtain ⟨r5,e5,hp⟩:=bind_some' hp
  refine call_ex (aY.P ⟨w3,trivial⟩ e5) ?_
  rintro _ H6 ⟨rfl,w6,s6,_⟩
  refine bind_ex rfl ?_
  refine bif_ex (fun hb=>?_) (fun hb=>?_)
  ·replace hp:=bif_t hb hp
   obtain ⟨w7,s7⟩:=w6.pick' [] 1 rfl rfl rfl
   dsimp only [pk,pks,nth,List.drop] at w7 s7
   obtain rfl:=Option.some.inj hp
   exact ⟨_,_,rfl,rfl,w7,(s0.trans (s1.trans (s3.trans (s6.trans s7)))),trivial⟩
  ·replace hp:=bif_f hb hp
   obtain ⟨r8,e8,hp⟩:=bind_some' hp
   refine call_ex (aY.P ⟨w6,trivial⟩ e8) ?_
   rintro _ H9 ⟨rfl,w9,s9,_⟩
   refine bind_ex rfl ?_
   refine bif_ex (fun hb=>?_) (fun hb=>?_)
   ·replace hp:=bif_t hb hp
    obtain ⟨w10,s10⟩:=w9.pick' [] 1 rfl rfl rfl
    dsimp only [pk,pks,nth,List.drop] at w10 s10
    obtain rfl:=Option.some.inj hp
    exact ⟨_,_,rfl,rfl,w10,(s0.trans (s1.trans (s3.trans (s6.trans (s9.trans s10))))),trivial⟩
   ·replace hp:=bif_f hb hp
    refine bind_ex (ldSl_of (w9.ld (i:=0) rfl rfl)) ?_
    refine bind_ex (ldI_of (w9.ld (i:=0) rfl rfl)) ?_
    obtain ⟨r11,e11,hp⟩:=bind_some' hp
    refine call_ex (ao.P rfl ⟨w9,(aM.step (s1.trans (s3.trans (s6.trans s9))))⟩ e11) ?_
    rintro _ H12 ⟨o0a_12,o0n_12,o0c_12,o0k_12,rfl,rfl,w12,s12,f12_0⟩
    refine bind_ex rfl ?_
    refine ifs_ex (W.cons_of (Rn:=[_]) w9 w12 s12) ?_
    refine bind_ex (ldSl_of (w12.ld (i:=1) rfl rfl)) ?_
    refine bind_ex (ldI_of (w12.ld (i:=1) rfl rfl)) ?_
    obtain ⟨r14,e14,hp⟩:=bind_some' hp
    refine call_ex (ac.P rfl ⟨w12,(aM.step (s1.trans (s3.trans (s6.trans (s9.trans s12)))))⟩ e14) ?_
    rintro _ H15 ⟨o0a_15,o0n_15,o0c_15,o0k_15,rfl,rfl,w15,s15,f15_0⟩
    refine bind_ex rfl ?_
    obtain ⟨w16,s16⟩:=w15.pick' [1,0,2] 3 rfl rfl rfl
    dsimp only [pk,pks,nth,List.drop] at w16 s16
    have f17:=W.borrow1 (eInt .i64) w16 (f12_0.step (s15.trans s16))
    obtain ⟨w17,s17⟩:=w16.right1
    have f18:=W.borrow1 (eInt .i64) w17 ((f15_0.step s16).step s17)
    obtain ⟨w18,s18⟩:=w17.right1
    obtain ⟨r19,e19,hp⟩:=bind_some' hp
    refine call_ex (bv.P rfl rfl ⟨w18,(f17.step s18),f18⟩ e19) ?_
    rintro _ H20 ⟨rfl,w20,s20,_⟩
    obtain ⟨w21,s21⟩:=W.frame1 w17 w20 s20
    obtain ⟨w22,s22⟩:=W.frame1 w16 w21 s21
    refine bind_ex rfl ?_
    obtain ⟨w23,s23⟩:=w22.pick' [] 3 rfl rfl rfl
    dsimp only [pk,pks,nth,List.drop] at w23 s23
    obtain rfl:=Option.some.inj hp
    exact ⟨_,_,rfl,rfl,w23,(s0.trans (s1.trans (s3.trans (s6.trans (s9.trans (s12.trans (s15.trans (s16.trans (s22.trans s23))))))))),trivial⟩
def aX.Q (H0:Hp) (Ri R0:List Rs)  (r:Int) (v:AV) (H':Hp):Prop:=v = (.int .i64 r)∧Out H0 Ri H' (R0) fun R=>True
def aX.p (F:Nat) (ad:List (Int×Int×Int×Int×Int)):Option (Int):=some (ad.length:Int)
theorem aX.P {F:Nat} {ax:ON} {aq:Nat} {ay:Cap} {ad:List (Int×Int×Int×Int×Int)} {H:Hp} {R0:List Rs} (bd:aq = ad.length) (h0:Inn H R0 fun R=>ROs (ePair (eInt .i64) (ePair (eInt .i64) (ePair (eInt .i64) (ePair (eInt .i64) (eInt .i64))))) H R ⟨ax,aq,ay⟩ ad) {r:Int} (hp:aX.p F ad = some r):∃ v H',aX.tw F ⟨ax,aq,ay⟩ H = some (v,H')∧aX.Q H R0 R0  r v H':=by
 obtain ⟨w0,aM⟩:=h0
 subst bd
 unfold aX.p at hp
 unfold aX.tw aX.twX
 have s0:=w0.rf
 obtain rfl:=Option.some.inj hp
 exact ⟨_,_,rfl,rfl,w0,s0,trivial⟩
def a_.Q (H0:Hp) (Ri R0:List Rs)  (r:Bool) (v:AV) (H':Hp):Prop:=v = (.bool r)∧Out H0 Ri H' (R0) fun R=>True
def a_.p (F:Nat) (aa:Int) (ag:Int) (bj:Int):Option (Bool):=(bif (decide (ag ≤ aa)) then (some (decide (aa ≤ bj))) else (some false))
theorem a_.P {F:Nat} {aa ag bj:Int} {H:Hp} {R0:List Rs}  (h0:Inn H R0 fun R=>True) {r:Bool} (hp:a_.p F aa ag bj = some r):∃ v H',a_.tw F aa ag bj H = some (v,H')∧a_.Q H R0 R0  r v H':=by
 obtain ⟨w0,_⟩:=h0
 unfold a_.p at hp
 unfold a_.tw a_.twX
 have s0:=w0.rf
 refine bif_ex (fun hb=>?_) (fun hb=>?_)
 ·replace hp:=bif_t hb hp
  obtain rfl:=Option.some.inj hp
  exact ⟨_,_,rfl,rfl,w0,s0,trivial⟩
 ·replace hp:=bif_f hb hp
  obtain rfl:=Option.some.inj hp
  exact ⟨_,_,rfl,rfl,w0,s0,trivial⟩
def bD.Q (H0:Hp) (Ri R0:List Rs)  (r:Bool) (v:AV) (H':Hp):Prop:=v = (.bool r)∧Out H0 Ri H' (R0) fun R=>True
def bD.p (F:Nat) (az:Int):Option (Bool):=(bif (az != 1) then (some (az != (-1))) else (some false))
theorem bD.P {F:Nat} {aa ab aA aB az:Int} {H:Hp} {R0:List Rs}  (h0:Inn H R0 fun R=>True) {r:Bool} (hp:bD.p F az = some r):∃ v H',bD.tw F aa ab aA aB az H = some (v,H')∧bD.Q H R0 R0  r v H':=by
 obtain ⟨w0,_⟩:=h0
 unfold bD.p at hp
 unfold bD.tw bD.twX
 have s0:=w0.rf
 refine new_k w0 fun H1 w1 s1=>?_
 refine bind_ex (ldI_of (w1.ld (i:=0) rfl rfl)) ?_
 refine bif_ex (fun hb=>?_) (fun hb=>?_)
 ·replace hp:=bif_t hb hp
  refine bind_ex (ldI_of (w1.ld (i:=0) rfl rfl)) ?_
  obtain ⟨w2,s2⟩:=w1.pick' [] 1 rfl rfl rfl
  dsimp only [pk,pks,nth,List.drop] at w2 s2
  obtain rfl:=Option.some.inj hp
  exact ⟨_,_,rfl,rfl,w2,(s0.trans (s1.trans s2)),trivial⟩
 ·replace hp:=bif_f hb hp
  obtain ⟨w3,s3⟩:=w1.pick' [] 1 rfl rfl rfl
  dsimp only [pk,pks,nth,List.drop] at w3 s3
  obtain rfl:=Option.some.inj hp
  exact ⟨_,_,rfl,rfl,w3,(s0.trans (s1.trans s3)),trivial⟩
def aO.Q (H0:Hp) (Ri R0:List Rs)  (r:Int) (v:AV) (H':Hp):Prop:=v = (.int .i64 r)∧Out H0 Ri H' (R0) fun R=>True
def aO.S13 (H0:Hp) (Ri R0:List Rs)  (C:Sl→Int→Int→Hp→OA) (pC:List (Int×Int×Int×Int×Int)→Int→Int→Option (Int)):Prop:=∀ {rb:ON} {nl:Nat} {rc:Cap} {iL:List (Int×Int×Int×Int×Int)} {ev dC:Int},∀ {H:Hp},nl = iL.length→(Out H0 Ri H R0 fun R=>ROs (ePair (eInt .i64) (ePair (eInt .i64) (ePair (eInt .i64) (ePair (eInt .i64) (eInt .i64))))) H R ⟨rb,nl,rc⟩ iL)→∀ {r:Int},pC iL ev dC = some r→∃ v H',C ⟨rb,nl,rc⟩ ev dC H = some (v,H')∧aO.Q H0 Ri R0  r v H'
def aO.pl13 (F:Nat) :Nat→List (Int×Int×Int×Int×Int)→Int→Int→Option (Int)
 | 0,_,_,_=>none
 | k + 1,iL,ev,dC=>(bif (decide (dC < ev)) then ((ix iL dC).bind fun n1=>(bD.p F ((gt iL n1).2.2.2.2)).bind fun r2=>(bif r2 then (some dC) else (aO.pl13 F k iL ev (IntKind.i64.wrap (dC + 1))))) else (some (-1)))
termination_by structural n=>n
theorem aO.l13_P {F:Nat} {H0:Hp} {Ri R0:List Rs}  :∀ k,aO.S13 H0 Ri R0  (aO.l13 F (bD.tw F)  k) (aO.pl13 F  k):=by
 intro k
 induction k with
 | zero=>
  intro rb nl rc iL ev dC H Ai h0 r hp
  exact nomatch (show (none:Option (Int)) = some r from hp)
 | succ k ih=>
  intro rb nl rc iL ev dC H Ai h0 r hp
  obtain ⟨w0,s0,Aj⟩:=h0
  subst Ai
  unfold aO.pl13 at hp
  unfold aO.l13
  refine bif_ex (fun hb=>?_) (fun hb=>?_)
  ·replace hp:=bif_t hb hp
   obtain ⟨n1,g1,hp⟩:=bind_some' hp
   obtain ⟨p1,q1,i1,h1,j1⟩:=ROs.ixr Aj rfl g1
   refine bind_ex i1 ?_
   obtain ⟨_,_,rfl,rfl,_,_,rfl,rfl,_,_,rfl,rfl,_,_,rfl,rfl,rfl⟩:=h1
   refine bind_ex (ldI_of (j1 0 _ rfl)) ?_
   refine bind_ex (ldI_of (j1 1 _ rfl)) ?_
   refine bind_ex (ldI_of (j1 2 _ rfl)) ?_
   refine bind_ex (ldI_of (j1 3 _ rfl)) ?_
   refine bind_ex (ldI_of (j1 4 _ rfl)) ?_
   obtain ⟨r2,e2,hp⟩:=bind_some' hp
   refine call_ex (bD.P ⟨w0,trivial⟩ e2) ?_
   rintro _ H3 ⟨rfl,w3,s3,_⟩
   refine bind_ex rfl ?_
   refine bif_ex (fun hb=>?_) (fun hb=>?_)
   ·replace hp:=bif_t hb hp
    obtain rfl:=Option.some.inj hp
    exact ⟨_,_,rfl,rfl,w3,(s0.trans s3),trivial⟩
   ·replace hp:=bif_f hb hp
    exact ih rfl ⟨w3,(s0.trans s3),(Aj.step s3)⟩ hp
  ·replace hp:=bif_f hb hp
   obtain rfl:=Option.some.inj hp
   exact ⟨_,_,rfl,rfl,w0,s0,trivial⟩
def aO.p (F:Nat) (ad:List (Int×Int×Int×Int×Int)):Option (Int):=aO.pl13 F F ad (ad.length:Int) 0
theorem aO.P {F:Nat} {ax:ON} {aq:Nat} {ay:Cap} {ad:List (Int×Int×Int×Int×Int)} {H:Hp} {R0:List Rs} (bd:aq = ad.length) (h0:Inn H R0 fun R=>ROs (ePair (eInt .i64) (ePair (eInt .i64) (ePair (eInt .i64) (ePair (eInt .i64) (eInt .i64))))) H R ⟨ax,aq,ay⟩ ad) {r:Int} (hp:aO.p F ad = some r):∃ v H',aO.tw F ⟨ax,aq,ay⟩ H = some (v,H')∧aO.Q H R0 R0  r v H':=by
 obtain ⟨w0,aM⟩:=h0
 subst bd
 unfold aO.p at hp
 unfold aO.tw aO.twX
 have s0:=w0.rf
 exact aO.l13_P F rfl ⟨w0,s0,aM⟩ hp
def bx.Q (H0:Hp) (Ri R0:List Rs)  (r:Bool) (v:AV) (H':Hp):Prop:=v = (.bool r)∧Out H0 Ri H' (R0) fun R=>True
def bx.p (F:Nat) (ad:List (Int×Int×Int×Int×Int)):Option (Bool):=(aO.p F ad).bind fun r1=>some (decide (r1 ≥ 0))
theorem bx.P {F:Nat} {ax:ON} {aq:Nat} {ay:Cap} {ad:List (Int×Int×Int×Int×Int)} {H:Hp} {R0:List Rs} (bd:aq = ad.length) (h0:Inn H R0 fun R=>ROs (ePair (eInt .i64) (ePair (eInt .i64) (ePair (eInt .i64) (ePair (eInt .i64) (eInt .i64))))) H R ⟨ax,aq,ay⟩ ad) {r:Bool} (hp:bx.p F ad = some r):∃ v H',bx.tw F ⟨ax,aq,ay⟩ H = some (v,H')∧bx.Q H R0 R0  r v H':=by
 obtain ⟨w0,aM⟩:=h0
 subst bd
 unfold bx.p at hp
 unfold bx.tw bx.twX
 have s0:=w0.rf
 obtain ⟨r1,e1,hp⟩:=bind_some' hp
 refine call_ex (aO.P rfl ⟨w0,aM⟩ e1) ?_
 rintro _ H2 ⟨rfl,w2,s2,_⟩
 refine bind_ex rfl ?_
 obtain rfl:=Option.some.inj hp
 exact ⟨_,_,rfl,rfl,w2,(s0.trans s2),trivial⟩
def bits_Mul64.Q (H0:Hp) (Ri R0:List Rs)  (r:Int×Int) (v:AV) (H':Hp):Prop:=v = (.tup [(.int .u64 r.1),(.int .u64 r.2)])∧Out H0 Ri H' (R0) fun R=>True
def bits_Mul64.p (F:Nat) (aa:Int) (ag:Int):Option (Int×Int):=some ((IntKind.u64.wrap ((IntKind.u64.wrap ((IntKind.u64.wrap ((Int.fdiv aa (2 ^ (min (32:Int).toNat (IntKind.u64).bits))) * (Int.fdiv ag (2 ^ (min (32:Int).toNat (IntKind.u64).bits))))) + (Int.fdiv (IntKind.u64.wrap ((IntKind.u64.wrap ((Int.fdiv aa (2 ^ (min (32:Int).toNat (IntKind.u64).bits))) * (Go.bits .and .u64 ag 4294967295))) + (Int.fdiv (IntKind.u64.wrap ((Go.bits .and .u64 aa 4294967295) * (Go.bits .and .u64 ag 4294967295))) (2 ^ (min (32:Int).toNat (IntKind.u64).bits))))) (2 ^ (min (32:Int).toNat (IntKind.u64).bits))))) + (Int.fdiv (IntKind.u64.wrap ((Go.bits .and .u64 (IntKind.u64.wrap ((IntKind.u64.wrap ((Int.fdiv aa (2 ^ (min (32:Int).toNat (IntKind.u64).bits))) * (Go.bits .and .u64 ag 4294967295))) + (Int.fdiv (IntKind.u64.wrap ((Go.bits .and .u64 aa 4294967295) * (Go.bits .and .u64 ag 4294967295))) (2 ^ (min (32:Int).toNat (IntKind.u64).bits))))) 4294967295) + (IntKind.u64.wrap ((Go.bits .and .u64 aa 4294967295) * (Int.fdiv ag (2 ^ (min (32:Int).toNat (IntKind.u64).bits))))))) (2 ^ (min (32:Int).toNat (IntKind.u64).bits))))),(IntKind.u64.wrap (aa * ag)))
theorem bits_Mul64.P {F:Nat} {aa ag:Int} {H:Hp} {R0:List Rs}  (h0:Inn H R0 fun R=>True) {r:Int×Int} (hp:bits_Mul64.p F aa ag = some r):∃ v H',bits_Mul64.tw F aa ag H = some (v,H')∧bits_Mul64.Q H R0 R0  r v H':=by
 obtain ⟨w0,_⟩:=h0
 unfold bits_Mul64.p at hp
 unfold bits_Mul64.tw bits_Mul64.twX
 have s0:=w0.rf
 obtain rfl:=Option.some.inj hp
 exact ⟨_,_,rfl,rfl,w0,s0,trivial⟩
def bits_Mul.Q (H0:Hp) (Ri R0:List Rs)  (r:Int×Int) (v:AV) (H':Hp):Prop:=v = (.tup [(.int .u64 r.1),(.int .u64 r.2)])∧Out H0 Ri H' (R0) fun R=>True
def bits_Mul.p (F:Nat) (aa:Int) (ag:Int):Option (Int×Int):=(bits_Mul64.p F aa ag).bind fun r1=>some (r1.1,r1.2)
theorem bits_Mul.P {F:Nat} {aa ag:Int} {H:Hp} {R0:List Rs}  (h0:Inn H R0 fun R=>True) {r:Int×Int} (hp:bits_Mul.p F aa ag = some r):∃ v H',bits_Mul.tw F aa ag H = some (v,H')∧bits_Mul.Q H R0 R0  r v H':=by
 obtain ⟨w0,_⟩:=h0
 unfold bits_Mul.p at hp
 unfold bits_Mul.tw bits_Mul.twX
 have s0:=w0.rf
 obtain ⟨r1,e1,hp⟩:=bind_some' hp
 refine call_ex (bits_Mul64.P ⟨w0,trivial⟩ e1) ?_
 rintro _ H2 ⟨rfl,w2,s2,_⟩
 refine bind_ex rfl ?_
 refine bind_ex rfl ?_
 refine bind_ex rfl ?_
 refine bind_ex rfl ?_
 refine bind_ex rfl ?_
 obtain rfl:=Option.some.inj hp
 exact ⟨_,_,rfl,rfl,w2,(s0.trans s2),trivial⟩
def aI.Q (H0:Hp) (Ri R0:List Rs)  (r:(List (Int×Int))) (v:AV) (H':Hp):Prop:=∃ o0a:ON,∃ o0n:Nat,∃ o0k:List AV,v = (.sl ⟨o0a,o0n,.ex o0n⟩)∧o0n = (r).length∧Out H0 Ri H' (Rs.own ⟨o0a,o0n,.ex o0n⟩ (ePair (eInt .i64) (eInt .i64)).z o0k :: R0) fun R=>CR (ePair (eInt .i64) (eInt .i64)) H' R o0k (r)
def aI.pj1 (F:Nat)  (gl:List (Int×Int)) (fy:Int):Option ((List (Int×Int))):=(mkn (IntKind.i64.wrap fy) ((0:Int),(0:Int))).bind fun l1=>(some (cpl l1 gl)).bind fun l3=>(rept F l3 ((min gl.length l1.length:Nat):Int)).bind fun l5=>some l5
theorem aI.j1_P {F:Nat} {H0:Hp} {Ri R0:List Rs}   {nm:ON} {jP:Nat} {nn:Cap} {gl:List (Int×Int)} {fy:Int} {H:Hp} (vm:jP = gl.length) (h0:Out H0 Ri H R0 fun R=>ROs (ePair (eInt .i64) (eInt .i64)) H R ⟨nm,jP,nn⟩ gl) {r:(List (Int×Int))} (hp:aI.pj1 F  gl fy = some r):∃ v H',aI.j1 F (bits_Mul.tw F)  ⟨nm,jP,nn⟩ fy H = some (v,H')∧aI.Q H0 Ri R0  r v H':=by
 obtain ⟨w0,s0,vn⟩:=h0
 subst vm
 unfold aI.pj1 at hp
 unfold aI.j1
 obtain ⟨l1,e1,hp⟩:=bind_some' hp
 refine mk_k (ePair (eInt .i64) (eInt .i64)) ((0:Int),(0:Int)) w0 ⟨[_],_,rfl,rfl,rfl⟩ rfl rfl e1 fun H2 k2 w2 s2 c2=>?_
 obtain ⟨x3,h3,c3⟩:=(vn.step s2).row (z:=(ePair (eInt .i64) (eInt .i64)).z) rfl
 obtain ⟨l3,e3,hp⟩:=bind_some' hp
 refine cpy_k (ePair (eInt .i64) (eInt .i64)) w2 (i:=0) rfl rfl c2 h3 c3 rfl rfl e3 fun k4 H4 w4 s4 c4=>?_
 dsimp only [List.set] at w4 s4 c4
 obtain ⟨l5,e5,hp⟩:=bind_some' hp
 refine rept_K (ePair (eInt .i64) (eInt .i64)) rfl (L:=aI.l254 F (bits_Mul.tw F)) (fun _ _ _ _=>rfl) w4 (i:=0) rfl c4 e5 fun H6 k6 w6 s6 c6=>?_
 dsimp only [List.set] at w6 s6 c6
 obtain rfl:=Option.some.inj hp
 exact ⟨_,_,rfl,_,_,_,rfl,((cpl_len e3).symm.trans (rept_len e5).symm),w6,(s0.trans (s2.trans (s4.trans s6))),c6⟩
def aI.pj2 (F:Nat)  (gm:List (Int×Int)) (fX:Int):Option ((List (Int×Int))):=(bits_Mul.p F (IntKind.u64.wrap (gm.length:Int)) (IntKind.u64.wrap fX)).bind fun r1=>(bif (decide (r1.1 > 0)) then (none) else ((bif (decide (r1.2 > 9223372036854775807)) then (none) else (aI.pj1 F gm r1.2))))
theorem aI.j2_P {F:Nat} {H0:Hp} {Ri R0:List Rs}   {np:ON} {jQ:Nat} {nq:Cap} {gm:List (Int×Int)} {fX:Int} {H:Hp} (vo:jQ = gm.length) (h0:Out H0 Ri H R0 fun R=>ROs (ePair (eInt .i64) (eInt .i64)) H R ⟨np,jQ,nq⟩ gm) {r:(List (Int×Int))} (hp:aI.pj2 F  gm fX = some r):∃ v H',aI.j2 F (bits_Mul.tw F)  ⟨np,jQ,nq⟩ fX H = some (v,H')∧aI.Q H0 Ri R0  r v H':=by
 obtain ⟨w0,s0,vp⟩:=h0
 subst vo
 unfold aI.pj2 at hp
 unfold aI.j2
 obtain ⟨r1,e1,hp⟩:=bind_some' hp
 refine call_ex (bits_Mul.P ⟨w0,trivial⟩ e1) ?_
 rintro _ H2 ⟨rfl,w2,s2,_⟩
 refine bind_ex rfl ?_
 refine bind_ex rfl ?_
 refine bind_ex rfl ?_
 refine bind_ex rfl ?_
 refine bind_ex rfl ?_
 refine bif_ex (fun hb=>?_) (fun hb=>?_)
 ·replace hp:=bif_t hb hp
  cases hp
 ·replace hp:=bif_f hb hp
  refine bif_ex (fun hb=>?_) (fun hb=>?_)
  ·replace hp:=bif_t hb hp
   cases hp
  ·replace hp:=bif_f hb hp
   exact aI.j1_P rfl ⟨w2,(s0.trans s2),(vp.step s2)⟩ hp
def aI.p (F:Nat) (ad:List (Int×Int)) (ag:Int):Option ((List (Int×Int))):=(bif (decide (ag < 0)) then (none) else (aI.pj2 F ad ag))
theorem aI.P {F:Nat} {ax:ON} {aq:Nat} {ay:Cap} {ad:List (Int×Int)} {ag:Int} {H:Hp} {R0:List Rs} (bd:aq = ad.length) (h0:Inn H R0 fun R=>ROs (ePair (eInt .i64) (eInt .i64)) H R ⟨ax,aq,ay⟩ ad) {r:(List (Int×Int))} (hp:aI.p F ad ag = some r):∃ v H',aI.tw F ⟨ax,aq,ay⟩ ag H = some (v,H')∧aI.Q H R0 R0  r v H':=by
 obtain ⟨w0,aM⟩:=h0
 subst bd
 unfold aI.p at hp
 unfold aI.tw aI.twX
 have s0:=w0.rf
 refine bif_ex (fun hb=>?_) (fun hb=>?_)
 ·replace hp:=bif_t hb hp
  cases hp
 ·replace hp:=bif_f hb hp
  exact aI.j2_P rfl ⟨w0,s0,aM⟩ hp
def bf.Q (H0:Hp) (Ri R0:List Rs)  (r:Int×Int×Int×Int) (v:AV) (H':Hp):Prop:=v = (.agg [(.int .i64 r.1),(.int .i64 r.2.1),(.int .i64 r.2.2.1),(.int .i64 r.2.2.2)])∧Out H0 Ri H' (R0) fun R=>True
def bf.p (F:Nat) (aa:Int) (ab:Int) (aA:Int) (aB:Int):Option (Int×Int×Int×Int):=some (aa,ab,aA,aB)
theorem bf.P {F:Nat} {aa ab aA aB az:Int} {H:Hp} {R0:List Rs}  (h0:Inn H R0 fun R=>True) {r:Int×Int×Int×Int} (hp:bf.p F aa ab aA aB = some r):∃ v H',bf.tw F aa ab aA aB az H = some (v,H')∧bf.Q H R0 R0  r v H':=by
 obtain ⟨w0,_⟩:=h0
 unfold bf.p at hp
 unfold bf.tw bf.twX
 have s0:=w0.rf
 refine new_k w0 fun H1 w1 s1=>?_
 refine new_k w1 fun H2 w2 s2=>?_
 refine bind_ex (ldI_of (w2.ld (i:=1) rfl rfl)) ?_
 refine bind_ex (ldI_of (w2.ld (i:=1) rfl rfl)) ?_
 refine bind_ex (ldI_of (w2.ld (i:=1) rfl rfl)) ?_
 refine bind_ex (ldI_of (w2.ld (i:=1) rfl rfl)) ?_
 refine st_k w2 (i:=0) rfl rfl rfl fun H3 w3 s3=>?_
 dsimp only [List.set] at w3 s3
 refine st_k w3 (i:=0) rfl rfl rfl fun H4 w4 s4=>?_
 dsimp only [List.set] at w4 s4
 refine st_k w4 (i:=0) rfl rfl rfl fun H5 w5 s5=>?_
 dsimp only [List.set] at w5 s5
 refine st_k w5 (i:=0) rfl rfl rfl fun H6 w6 s6=>?_
 dsimp only [List.set] at w6 s6
 refine bind_ex (ldI_of (w6.ld (i:=0) rfl rfl)) ?_
 refine bind_ex (ldI_of (w6.ld (i:=0) rfl rfl)) ?_
 refine bind_ex (ldI_of (w6.ld (i:=0) rfl rfl)) ?_
 refine bind_ex (ldI_of (w6.ld (i:=0) rfl rfl)) ?_
 obtain ⟨w7,s7⟩:=w6.pick' [] 2 rfl rfl rfl
 dsimp only [pk,pks,nth,List.drop] at w7 s7
 obtain rfl:=Option.some.inj hp
 exact ⟨_,_,rfl,rfl,w7,(s0.trans (s1.trans (s2.trans (s3.trans (s4.trans (s5.trans (s6.trans s7))))))),trivial⟩
def bg.Q (H0:Hp) (Ri R0:List Rs)  (r:Bool) (v:AV) (H':Hp):Prop:=v = (.bool r)∧Out H0 Ri H' (R0) fun R=>True
def bg.p (F:Nat) (az:Int) (bc:Int):Option (Bool):=(bif (bc == 0) then (some true) else (some (bc == (IntKind.i64.wrap (2 + az)))))
theorem bg.P {F:Nat} {aa ab aA aB az bc:Int} {H:Hp} {R0:List Rs}  (h0:Inn H R0 fun R=>True) {r:Bool} (hp:bg.p F az bc = some r):∃ v H',bg.tw F aa ab aA aB az bc H = some (v,H')∧bg.Q H R0 R0  r v H':=by
 obtain ⟨w0,_⟩:=h0
 unfold bg.p at hp
 unfold bg.tw bg.twX
 have s0:=w0.rf
 refine new_k w0 fun H1 w1 s1=>?_
 refine bif_ex (fun hb=>?_) (fun hb=>?_)
 ·replace hp:=bif_t hb hp
  obtain ⟨w2,s2⟩:=w1.pick' [] 1 rfl rfl rfl
  dsimp only [pk,pks,nth,List.drop] at w2 s2
  obtain rfl:=Option.some.inj hp
  exact ⟨_,_,rfl,rfl,w2,(s0.trans (s1.trans s2)),trivial⟩
 ·replace hp:=bif_f hb hp
  refine bind_ex (ldI_of (w1.ld (i:=0) rfl rfl)) ?_
  obtain ⟨w3,s3⟩:=w1.pick' [] 1 rfl rfl rfl
  dsimp only [pk,pks,nth,List.drop] at w3 s3
  obtain rfl:=Option.some.inj hp
  exact ⟨_,_,rfl,rfl,w3,(s0.trans (s1.trans s3)),trivial⟩
def bI.Q (H0:Hp) (Ri R0:List Rs)  (r:Int) (v:AV) (H':Hp):Prop:=v = (.int .i64 r)∧Out H0 Ri H' (R0) fun R=>True
def bI.p (F:Nat) (ad:List (Int×Int)):Option (Int):=some (ad.length:Int)
theorem bI.P {F:Nat} {ax:ON} {aq:Nat} {ay:Cap} {ad:List (Int×Int)} {H:Hp} {R0:List Rs} (bd:aq = ad.length) (h0:Inn H R0 fun R=>ROs (ePair (eInt .i64) (eInt .i64)) H R ⟨ax,aq,ay⟩ ad) {r:Int} (hp:bI.p F ad = some r):∃ v H',bI.tw F ⟨ax,aq,ay⟩ H = some (v,H')∧bI.Q H R0 R0  r v H':=by
 obtain ⟨w0,aM⟩:=h0
 subst bd
 unfold bI.p at hp
 unfold bI.tw bI.twX
 have s0:=w0.rf
 obtain rfl:=Option.some.inj hp
 exact ⟨_,_,rfl,rfl,w0,s0,trivial⟩
def br.Q (H0:Hp) (Ri R0:List Rs)  (r:Bool) (v:AV) (H':Hp):Prop:=v = (.bool r)∧Out H0 Ri H' (R0) fun R=>True
def br.p (F:Nat) (ad:List (Int×Int)) (ag:Int):Option (Bool):=(bI.p F ad).bind fun r1=>(a_.p F ag 0 (IntKind.i64.wrap (r1 - 1))).bind fun r3=>some r3
theorem br.P {F:Nat} {ax:ON} {aq:Nat} {ay:Cap} {ad:List (Int×Int)} {ag:Int} {H:Hp} {R0:List Rs} (bd:aq = ad.length) (h0:Inn H R0 fun R=>ROs (ePair (eInt .i64) (eInt .i64)) H R ⟨ax,aq,ay⟩ ad) {r:Bool} (hp:br.p F ad ag = some r):∃ v H',br.tw F ⟨ax,aq,ay⟩ ag H = some (v,H')∧br.Q H R0 R0  r v H':=by
 obtain ⟨w0,aM⟩:=h0
 subst bd
 unfold br.p at hp
 unfold br.tw br.twX
 have s0:=w0.rf
 obtain ⟨r1,e1,hp⟩:=bind_some' hp
 refine call_ex (bI.P rfl ⟨w0,aM⟩ e1) ?_
 rintro _ H2 ⟨rfl,w2,s2,_⟩
 refine bind_ex rfl ?_
 obtain ⟨r3,e3,hp⟩:=bind_some' hp
 refine call_ex (a_.P ⟨w2,trivial⟩ e3) ?_
 rintro _ H4 ⟨rfl,w4,s4,_⟩
 refine bind_ex rfl ?_
 obtain rfl:=Option.some.inj hp
 exact ⟨_,_,rfl,rfl,w4,(s0.trans (s2.trans s4)),trivial⟩
def aw.Q (H0:Hp) (Ri R0:List Rs)  (r:(List (Int×Int))×(List (Int×Int))×Bool) (v:AV) (H':Hp):Prop:=∃ o0a:ON,∃ o0n:Nat,∃ o0c:Cap,∃ o0k:List AV,∃ o1a:ON,∃ o1n:Nat,∃ o1c:Cap,∃ o1k:List AV,v = (.tup [(.agg [(.sl ⟨o0a,o0n,o0c⟩),(.sl ⟨o1a,o1n,o1c⟩)]),(.bool r.2.2)])∧o0n = (r.1).length∧o1n = (r.2.1).length∧Out H0 Ri H' (Rs.own ⟨o0a,o0n,o0c⟩ (ePair (eInt .i64) (eInt .i64)).z o0k :: Rs.own ⟨o1a,o1n,o1c⟩ (ePair (eInt .i64) (eInt .i64)).z o1k :: R0) fun R=>CR (ePair (eInt .i64) (eInt .i64)) H' R o0k (r.1)∧CR (ePair (eInt .i64) (eInt .i64)) H' R o1k (r.2.1)
def aw.S61 (H0:Hp) (Ri R0:List Rs)  (C:Nat→Nat→Nat→Nat→Sl→Int→Int→Hp→OA) (pC:List (Int×Int)→List (Int×Int)→List (Int×Int×Int×Int×Int)→Int→Int→Option ((List (Int×Int))×(List (Int×Int))×Bool)):Prop:=∀ {rd rh ri rj rl:ON} {nr ns dE nu nv bO nw:Nat} {rm rn ro rp rq:Cap} {rr rs js jt:List (Int×Int)} {rt ru rv rx:List AV} {gn:List (Int×Int×Int×Int×Int)} {ew dG:Int},∀ {H:Hp},nr = rr.length→ns = rs.length→nu = js.length→nv = jt.length→nw = gn.length→(Out H0 Ri H (Rs.own ⟨rd,nr,rm⟩ (ePair (eInt .i64) (eInt .i64)).z rt :: Rs.own ⟨rh,ns,rn⟩ (ePair (eInt .i64) (eInt .i64)).z ru :: Rs.blk dE [.sl ⟨rd,nr,rm⟩,.sl ⟨rh,ns,rn⟩] :: Rs.own ⟨ri,nu,ro⟩ (ePair (eInt .i64) (eInt .i64)).z rv :: Rs.own ⟨rj,nv,rp⟩ (ePair (eInt .i64) (eInt .i64)).z rx :: Rs.blk bO [.sl ⟨ri,nu,ro⟩,.sl ⟨rj,nv,rp⟩] :: R0) fun R=>CR (ePair (eInt .i64) (eInt .i64)) H R rt rr∧CR (ePair (eInt .i64) (eInt .i64)) H R ru rs∧CR (ePair (eInt .i64) (eInt .i64)) H R rv js∧CR (ePair (eInt .i64) (eInt .i64)) H R rx jt∧ROs (ePair (eInt .i64) (ePair (eInt .i64) (ePair (eInt .i64) (ePair (eInt .i64) (eInt .i64))))) H R ⟨rl,nw,rq⟩ gn)→∀ {r:(List (Int×Int))×(List (Int×Int))×Bool},pC js jt gn ew dG = some r→∃ v H',C dE 0 bO 0 ⟨rl,nw,rq⟩ ew dG H = some (v,H')∧aw.Q H0 Ri R0  r v H'
def aw.S3931 (H0:Hp) (Ri R0:List Rs)  (C:Nat→Nat→Nat→Nat→Sl→Int→Int→Nat→Nat→Int→Int→Int→Int→Int→Int→Hp→OA) (pC:List (Int×Int)→List (Int×Int)→List (Int×Int×Int×Int×Int)→Int→Int→Int→Int→Int→Int→Int→Int→Int→Option ((List (Int×Int))×(List (Int×Int))×Bool)):Prop:=∀ {ry rz rA rB rC:ON} {nx ny bV nz nA cn nB cW:Nat} {rD rE rF rG rH:Cap} {rI rJ eU eV:List (Int×Int)} {rK rL rM rN:List AV} {iM:List (Int×Int×Int×Int×Int)} {dk dD vq vr vs vt ju cA cB cC cD cE bZ:Int},∀ {H:Hp},nx = rI.length→ny = rJ.length→nz = eU.length→nA = eV.length→nB = iM.length→(Out H0 Ri H (Rs.own ⟨ry,nx,rD⟩ (ePair (eInt .i64) (eInt .i64)).z rK :: Rs.own ⟨rz,ny,rE⟩ (ePair (eInt .i64) (eInt .i64)).z rL :: Rs.blk bV [.sl ⟨ry,nx,rD⟩,.sl ⟨rz,ny,rE⟩] :: Rs.own ⟨rA,nz,rF⟩ (ePair (eInt .i64) (eInt .i64)).z rM :: Rs.own ⟨rB,nA,rG⟩ (ePair (eInt .i64) (eInt .i64)).z rN :: Rs.blk cn [.sl ⟨rA,nz,rF⟩,.sl ⟨rB,nA,rG⟩] :: Rs.blk cW [.int .i64 vq,.int .i64 vr,.int .i64 vs,.int .i64 vt,.int .i64 ju] :: R0) fun R=>CR (ePair (eInt .i64) (eInt .i64)) H R rK rI∧CR (ePair (eInt .i64) (eInt .i64)) H R rL rJ∧CR (ePair (eInt .i64) (eInt .i64)) H R rM eU∧CR (ePair (eInt .i64) (eInt .i64)) H R rN eV∧ROs (ePair (eInt .i64) (ePair (eInt .i64) (ePair (eInt .i64) (ePair (eInt .i64) (eInt .i64))))) H R ⟨rC,nB,rH⟩ iM)→∀ {r:(List (Int×Int))×(List (Int×Int))×Bool},pC eU eV iM dk dD ju cA cB cC cD cE bZ = some r→∃ v H',C bV 0 cn 0 ⟨rC,nB,rH⟩ dk dD cW 0 cA cB cC cD cE bZ H = some (v,H')∧aw.Q H0 Ri R0  r v H'
def aw.pl3931 (F:Nat) (aN:List (Int×Int)→List (Int×Int)→List (Int×Int×Int×Int×Int)→Int→Int→Option ((List (Int×Int))×(List (Int×Int))×Bool)):Nat→List (Int×Int)→List (Int×Int)→List (Int×Int×Int×Int×Int)→Int→Int→Int→Int→Int→Int→Int→Int→Int→Option ((List (Int×Int))×(List (Int×Int))×Bool)
 | 0,_,_,_,_,_,_,_,_,_,_,_,_=>none
 | k + 1,eU,eV,iM,dk,dD,ju,cA,cB,cC,cD,cE,bZ=>(bif (decide (bZ < 4)) then ((if 0 ≤ bZ∧bZ < (4:Int) then ((bg.p F ju bZ).bind fun r2=>(bif r2 then ((br.p F eV (gt ([cB,cC,cD,cE]:List Int) (bZ:Int).toNat)).bind fun r6=>(bif (!r6) then (some (eU,eV,false)) else ((ix eV (gt ([cB,cC,cD,cE]:List Int) (bZ:Int).toNat)).bind fun n12=>(bif (decide (((gt eV n12).1) ≥ 0)) then (some (eU,eV,false)) else ((ix eV (gt ([cB,cC,cD,cE]:List Int) (bZ:Int).toNat)).bind fun n16=>(some (eV.set n16 (cA,(gt eV n16).2))).bind fun l17=>(some (l17.set n16 ((gt l17 n16).1,bZ))).bind fun l19=>aw.pl3931 F aN k eU l19 iM dk dD ju cA cB cC cD cE (IntKind.i64.wrap (bZ + 1))))))) else ((br.p F eU (gt ([cB,cC,cD,cE]:List Int) (bZ:Int).toNat)).bind fun r24=>(bif (!r24) then (some (eU,eV,false)) else ((ix eU (gt ([cB,cC,cD,cE]:List Int) (bZ:Int).toNat)).bind fun n30=>(bif (decide (((gt eU n30).1) ≥ 0)) then (some (eU,eV,false)) else ((ix eU (gt ([cB,cC,cD,cE]:List Int) (bZ:Int).toNat)).bind fun n34=>(some (eU.set n34 (cA,(gt eU n34).2))).bind fun l35=>(some (l35.set n34 ((gt l35 n34).1,bZ))).bind fun l37=>aw.pl3931 F aN k l37 eV iM dk dD ju cA cB cC cD cE (IntKind.i64.wrap (bZ + 1))))))))) else none)) else (aN eU eV iM dk (IntKind.i64.wrap (dD + 1))))
termination_by structural n=>n
theorem aw.l3931_P {F:Nat} {H0:Hp} {Ri R0:List Rs}  {C61_:Nat→Nat→Nat→Nat→Sl→Int→Int→Hp→OA} {aN:List (Int×Int)→List (Int×Int)→List (Int×Int×Int×Int×Int)→Int→Int→Option ((List (Int×Int))×(List (Int×Int))×Bool)} (hC61:aw.S61 H0 Ri R0  C61_ aN):∀ k,aw.S3931 H0 Ri R0  (aw.l3931 F (aI.tw F) (bf.tw F) (bg.tw F) (br.tw F) C61_ k) (aw.pl3931 F aN k):=by
 intro k
 induction k with
 | zero=>
  intro ry rz rA rB rC nx ny bV nz nA cn nB cW rD rE rF rG rH rI rJ eU eV rK rL rM rN iM dk dD vq vr vs vt ju cA cB cC cD cE bZ H Ak Al Am An Ao h0 r hp
  exact nomatch (show (none:Option ((List (Int×Int))×(List (Int×Int))×Bool)) = some r from hp)
 | succ k ih=>
  intro ry rz rA rB rC nx ny bV nz nA cn nB cW rD rE rF rG rH rI rJ eU eV rK rL rM rN iM dk dD vq vr vs vt ju cA cB cC cD cE bZ H Ak Al Am An Ao h0 r hp
  obtain ⟨w0,s0,vu,vv,io,ip,vw⟩:=h0
  subst Ak
  subst Al
  subst Am
  subst An
  subst Ao
  unfold aw.pl3931 at hp
  unfold aw.l3931
  refine bif_ex (fun hb=>?_) (fun hb=>?_)
  ·replace hp:=bif_t hb hp
   obtain ⟨g1,hp⟩:=ifs_p hp
   refine ifs_ex g1 ?_
   refine bind_ex (a:=AV.int .i64 (gt ([cB,cC,cD,cE]:List Int) (bZ:Int).toNat)) (by rw [Nat.mul_one]; exact arr_get (k:=.i64) (l:=[cB,cC,cD,cE]) rfl (by have:=g1; simp only [List.length_cons,List.length_nil]; omega)) ?_
   refine bind_ex rfl ?_
   refine bind_ex (ldSl_of (w0.ld (i:=5) rfl rfl)) ?_
   refine bind_ex (ldI_of (w0.ld (i:=6) rfl rfl)) ?_
   refine bind_ex (ldI_of (w0.ld (i:=6) rfl rfl)) ?_
   refine bind_ex (ldI_of (w0.ld (i:=6) rfl rfl)) ?_
   refine bind_ex (ldI_of (w0.ld (i:=6) rfl rfl)) ?_
   refine bind_ex (ldI_of (w0.ld (i:=6) rfl rfl)) ?_
   obtain ⟨r2,e2,hp⟩:=bind_some' hp
   refine call_ex (bg.P ⟨w0,trivial⟩ e2) ?_
   rintro _ H3 ⟨rfl,w3,s3,_⟩
   refine bind_ex rfl ?_
   refine bif_ex (fun hb=>?_) (fun hb=>?_)
   ·replace hp:=bif_t hb hp
    refine bind_ex (ldSl_of (w3.ld (i:=5) rfl rfl)) ?_
    obtain ⟨w4,s4⟩:=w3.pick' [4,0,1,2,3,5,6] 7 rfl rfl rfl
    dsimp only [pk,pks,nth,List.drop] at w4 s4
    have f5:=W.borrow1 (ePair (eInt .i64) (eInt .i64)) w4 (ip.step (s3.trans s4))
    obtain ⟨w5,s5⟩:=w4.right1
    obtain ⟨r6,e6,hp⟩:=bind_some' hp
    refine call_ex (br.P rfl ⟨w5,f5⟩ e6) ?_
    rintro _ H7 ⟨rfl,w7,s7,_⟩
    obtain ⟨w8,s8⟩:=W.frame1 w4 w7 s7
    refine bind_ex rfl ?_
    refine bif_ex (fun hb=>?_) (fun hb=>?_)
    ·replace hp:=bif_t hb hp
     refine bind_ex (ldSl_of (w8.ld (i:=5) rfl rfl)) ?_
     refine bind_ex (ldSl_of (w8.ld (i:=5) rfl rfl)) ?_
     refine st_k w8 (i:=3) rfl rfl rfl fun H9 w9 s9=>?_
     dsimp only [List.set] at w9 s9
     refine st_k w9 (i:=3) rfl rfl rfl fun H10 w10 s10=>?_
     dsimp only [List.set] at w10 s10
     refine bind_ex (ldSl_of (w10.ld (i:=3) rfl rfl)) ?_
     refine bind_ex (ldSl_of (w10.ld (i:=3) rfl rfl)) ?_
     obtain ⟨w11,s11⟩:=w10.pick' [4,0] 7 rfl rfl rfl
     dsimp only [pk,pks,nth,List.drop] at w11 s11
     obtain rfl:=Option.some.inj hp
     exact ⟨_,_,rfl,_,_,_,_,_,_,_,_,rfl,rfl,rfl,w11,(s0.trans (s3.trans (s4.trans (s8.trans (s9.trans (s10.trans s11)))))),(io.step (s3.trans (s4.trans (s8.trans (s9.trans (s10.trans s11)))))),(ip.step (s3.trans (s4.trans (s8.trans (s9.trans (s10.trans s11))))))⟩
    ·replace hp:=bif_f hb hp
     obtain ⟨n12,g12,hp⟩:=bind_some' hp
     obtain ⟨p12,q12,i12,h12,j12⟩:=W.ixo (E:=(ePair (eInt .i64) (eInt .i64))) w8 (i:=0) rfl rfl (ip.step (s3.trans (s4.trans s8))) g12
     refine bind_ex i12 ?_
     obtain ⟨_,_,rfl,rfl,rfl⟩:=h12
     refine bind_ex (ldI_of (j12 0 _ rfl)) ?_
     refine bif_ex (fun hb=>?_) (fun hb=>?_)
     ·replace hp:=bif_t hb hp
      refine bind_ex (ldSl_of (w8.ld (i:=5) rfl rfl)) ?_
      refine bind_ex (ldSl_of (w8.ld (i:=5) rfl rfl)) ?_
      refine st_k w8 (i:=3) rfl rfl rfl fun H13 w13 s13=>?_
      dsimp only [List.set] at w13 s13
      refine st_k w13 (i:=3) rfl rfl rfl fun H14 w14 s14=>?_
      dsimp only [List.set] at w14 s14
      refine bind_ex (ldSl_of (w14.ld (i:=3) rfl rfl)) ?_
      refine bind_ex (ldSl_of (w14.ld (i:=3) rfl rfl)) ?_
      obtain ⟨w15,s15⟩:=w14.pick' [4,0] 7 rfl rfl rfl
      dsimp only [pk,pks,nth,List.drop] at w15 s15
      obtain rfl:=Option.some.inj hp
      exact ⟨_,_,rfl,_,_,_,_,_,_,_,_,rfl,rfl,rfl,w15,(s0.trans (s3.trans (s4.trans (s8.trans (s13.trans (s14.trans s15)))))),(io.step (s3.trans (s4.trans (s8.trans (s13.trans (s14.trans s15)))))),(ip.step (s3.trans (s4.trans (s8.trans (s13.trans (s14.trans s15))))))⟩
     ·replace hp:=bif_f hb hp
      obtain ⟨n16,g16,hp⟩:=bind_some' hp
      obtain ⟨p16,q16,i16,h16,j16⟩:=W.ixo (E:=(ePair (eInt .i64) (eInt .i64))) w8 (i:=0) rfl rfl (ip.step (s3.trans (s4.trans s8))) g16
      refine bind_ex i16 ?_
      obtain ⟨l17,e17,hp⟩:=bind_some' hp
      refine sto_k (ePair (eInt .i64) (eInt .i64)) w8 (i:=0) (j:=0) (p:=p16) rfl rfl (ip.step (s3.trans (s4.trans s8))) g16 i16 e17 rfl rfl (fun _ h=>by obtain ⟨_,_,rfl,rfl,rfl⟩:=h; exact ⟨[_],_,rfl,rfl,rfl⟩) fun H18 k18 w18 s18 c18=>?_
      dsimp only [List.set] at w18 s18 c18
      obtain ⟨l19,e19,hp⟩:=bind_some' hp
      refine sto_k (ePair (eInt .i64) (eInt .i64)) w18 (i:=0) (j:=1) (p:=p16) rfl rfl c18 (ix_len g16 (st_len e17)) i16 e19 rfl rfl (fun _ h=>by obtain ⟨_,_,rfl,rfl,rfl⟩:=h; exact ⟨[_],_,rfl,rfl,rfl⟩) fun H20 k20 w20 s20 c20=>?_
      dsimp only [List.set] at w20 s20 c20
      obtain ⟨w21,s21⟩:=w20.pick' [1,2,3,4,0,5,6] 7 rfl rfl rfl
      dsimp only [pk,pks,nth,List.drop] at w21 s21
      exact ih rfl rfl rfl ((st_len e17).symm.trans (st_len e19).symm) rfl ⟨w21,(s0.trans (s3.trans (s4.trans (s8.trans (s18.trans (s20.trans s21)))))),(vu.step (s3.trans (s4.trans (s8.trans (s18.trans (s20.trans s21)))))),(vv.step (s3.trans (s4.trans (s8.trans (s18.trans (s20.trans s21)))))),(io.step (s3.trans (s4.trans (s8.trans (s18.trans (s20.trans s21)))))),(c20.step s21),(vw.step (s3.trans (s4.trans (s8.trans (s18.trans (s20.trans s21))))))⟩ hp
   ·replace hp:=bif_f hb hp
    obtain ⟨w22,s22⟩:=w3.pick' [3,0,1,2,4,5,6] 7 rfl rfl rfl
    dsimp only [pk,pks,nth,List.drop] at w22 s22
    have f23:=W.borrow1 (ePair (eInt .i64) (eInt .i64)) w22 (io.step (s3.trans s22))
    obtain ⟨w23,s23⟩:=w22.right1
    obtain ⟨r24,e24,hp⟩:=bind_some' hp
    refine call_ex (br.P rfl ⟨w23,f23⟩ e24) ?_
    rintro _ H25 ⟨rfl,w25,s25,_⟩
    obtain ⟨w26,s26⟩:=W.frame1 w22 w25 s25
    refine bind_ex rfl ?_
    refine bif_ex (fun hb=>?_) (fun hb=>?_)
    ·replace hp:=bif_t hb hp
     refine bind_ex (ldSl_of (w26.ld (i:=5) rfl rfl)) ?_
     refine bind_ex (ldSl_of (w26.ld (i:=5) rfl rfl)) ?_
     refine st_k w26 (i:=3) rfl rfl rfl fun H27 w27 s27=>?_
     dsimp only [List.set] at w27 s27
     refine st_k w27 (i:=3) rfl rfl rfl fun H28 w28 s28=>?_
     dsimp only [List.set] at w28 s28
     refine bind_ex (ldSl_of (w28.ld (i:=3) rfl rfl)) ?_
     refine bind_ex (ldSl_of (w28.ld (i:=3) rfl rfl)) ?_
     obtain ⟨w29,s29⟩:=w28.pick' [0,4] 7 rfl rfl rfl
     dsimp only [pk,pks,nth,List.drop] at w29 s29
     obtain rfl:=Option.some.inj hp
     exact ⟨_,_,rfl,_,_,_,_,_,_,_,_,rfl,rfl,rfl,w29,(s0.trans (s3.trans (s22.trans (s26.trans (s27.trans (s28.trans s29)))))),(io.step (s3.trans (s22.trans (s26.trans (s27.trans (s28.trans s29)))))),(ip.step (s3.trans (s22.trans (s26.trans (s27.trans (s28.trans s29))))))⟩
    ·replace hp:=bif_f hb hp
     obtain ⟨n30,g30,hp⟩:=bind_some' hp
     obtain ⟨p30,q30,i30,h30,j30⟩:=W.ixo (E:=(ePair (eInt .i64) (eInt .i64))) w26 (i:=0) rfl rfl (io.step (s3.trans (s22.trans s26))) g30
     refine bind_ex i30 ?_
     obtain ⟨_,_,rfl,rfl,rfl⟩:=h30
     refine bind_ex (ldI_of (j30 0 _ rfl)) ?_
     refine bif_ex (fun hb=>?_) (fun hb=>?_)
     ·replace hp:=bif_t hb hp
      refine bind_ex (ldSl_of (w26.ld (i:=5) rfl rfl)) ?_
      refine bind_ex (ldSl_of (w26.ld (i:=5) rfl rfl)) ?_
      refine st_k w26 (i:=3) rfl rfl rfl fun H31 w31 s31=>?_
      dsimp only [List.set] at w31 s31
      refine st_k w31 (i:=3) rfl rfl rfl fun H32 w32 s32=>?_
      dsimp only [List.set] at w32 s32
      refine bind_ex (ldSl_of (w32.ld (i:=3) rfl rfl)) ?_
      refine bind_ex (ldSl_of (w32.ld (i:=3) rfl rfl)) ?_
      obtain ⟨w33,s33⟩:=w32.pick' [0,4] 7 rfl rfl rfl
      dsimp only [pk,pks,nth,List.drop] at w33 s33
      obtain rfl:=Option.some.inj hp
      exact ⟨_,_,rfl,_,_,_,_,_,_,_,_,rfl,rfl,rfl,w33,(s0.trans (s3.trans (s22.trans (s26.trans (s31.trans (s32.trans s33)))))),(io.step (s3.trans (s22.trans (s26.trans (s31.trans (s32.trans s33)))))),(ip.step (s3.trans (s22.trans (s26.trans (s31.trans (s32.trans s33))))))⟩
     ·replace hp:=bif_f hb hp
      obtain ⟨n34,g34,hp⟩:=bind_some' hp
      obtain ⟨p34,q34,i34,h34,j34⟩:=W.ixo (E:=(ePair (eInt .i64) (eInt .i64))) w26 (i:=0) rfl rfl (io.step (s3.trans (s22.trans s26))) g34
      refine bind_ex i34 ?_
      obtain ⟨l35,e35,hp⟩:=bind_some' hp
      refine sto_k (ePair (eInt .i64) (eInt .i64)) w26 (i:=0) (j:=0) (p:=p34) rfl rfl (io.step (s3.trans (s22.trans s26))) g34 i34 e35 rfl rfl (fun _ h=>by obtain ⟨_,_,rfl,rfl,rfl⟩:=h; exact ⟨[_],_,rfl,rfl,rfl⟩) fun H36 k36 w36 s36 c36=>?_
      dsimp only [List.set] at w36 s36 c36
      obtain ⟨l37,e37,hp⟩:=bind_some' hp
      refine sto_k (ePair (eInt .i64) (eInt .i64)) w36 (i:=0) (j:=1) (p:=p34) rfl rfl c36 (ix_len g34 (st_len e35)) i34 e37 rfl rfl (fun _ h=>by obtain ⟨_,_,rfl,rfl,rfl⟩:=h; exact ⟨[_],_,rfl,rfl,rfl⟩) fun H38 k38 w38 s38 c38=>?_
      dsimp only [List.set] at w38 s38 c38
      obtain ⟨w39,s39⟩:=w38.pick' [1,2,3,0,4,5,6] 7 rfl rfl rfl
      dsimp only [pk,pks,nth,List.drop] at w39 s39
      exact ih rfl rfl ((st_len e35).symm.trans (st_len e37).symm) rfl rfl ⟨w39,(s0.trans (s3.trans (s22.trans (s26.trans (s36.trans (s38.trans s39)))))),(vu.step (s3.trans (s22.trans (s26.trans (s36.trans (s38.trans s39)))))),(vv.step (s3.trans (s22.trans (s26.trans (s36.trans (s38.trans s39)))))),(c38.step s39),(ip.step (s3.trans (s22.trans (s26.trans (s36.trans (s38.trans s39)))))),(vw.step (s3.trans (s22.trans (s26.trans (s36.trans (s38.trans s39))))))⟩ hp
  ·replace hp:=bif_f hb hp
   obtain ⟨w40,s40⟩:=w0.pick' [0,1,2,3,4,5] 7 rfl rfl rfl
   dsimp only [pk,pks,nth,List.drop] at w40 s40
   exact hC61 rfl rfl rfl rfl rfl ⟨w40,(s0.trans s40),(vu.step s40),(vv.step s40),(io.step s40),(ip.step s40),(vw.step s40)⟩ hp
def aw.pl61 (F:Nat) :Nat→List (Int×Int)→List (Int×Int)→List (Int×Int×Int×Int×Int)→Int→Int→Option ((List (Int×Int))×(List (Int×Int))×Bool)
 | 0,_,_,_,_,_=>none
 | k + 1,js,jt,gn,ew,dG=>(bif (decide (dG < ew)) then ((ix gn dG).bind fun n1=>(bf.p F ((gt gn n1).1) ((gt gn n1).2.1) ((gt gn n1).2.2.1) ((gt gn n1).2.2.2.1)).bind fun r8=>aw.pl3931 F (aw.pl61 F k) F js jt gn ew dG ((gt gn n1).2.2.2.2) dG r8.1 r8.2.1 r8.2.2.1 r8.2.2.2 0) else (some (js,jt,true)))
termination_by structural n=>n
theorem aw.l61_P {F:Nat} {H0:Hp} {Ri R0:List Rs}  :∀ k,aw.S61 H0 Ri R0  (aw.l61 F (aI.tw F) (bf.tw F) (bg.tw F) (br.tw F)  k) (aw.pl61 F  k):=by
 intro k
 induction k with
 | zero=>
  intro rd rh ri rj rl nr ns dE nu nv bO nw rm rn ro rp rq rr rs js jt rt ru rv rx gn ew dG H Ap Aq Ar As At h0 r hp
  exact nomatch (show (none:Option ((List (Int×Int))×(List (Int×Int))×Bool)) = some r from hp)
 | succ k ih=>
  intro rd rh ri rj rl nr ns dE nu nv bO nw rm rn ro rp rq rr rs js jt rt ru rv rx gn ew dG H Ap Aq Ar As At h0 r hp
  obtain ⟨w0,s0,GQ,GR,Au,Av,Aw⟩:=h0
  subst Ap
  subst Aq
  subst Ar
  subst As
  subst At
  unfold aw.pl61 at hp
  unfold aw.l61
  refine bif_ex (fun hb=>?_) (fun hb=>?_)
  ·replace hp:=bif_t hb hp
   obtain ⟨n1,g1,hp⟩:=bind_some' hp
   obtain ⟨p1,q1,i1,h1,j1⟩:=ROs.ixr Aw rfl g1
   refine bind_ex i1 ?_
   obtain ⟨_,_,rfl,rfl,_,_,rfl,rfl,_,_,rfl,rfl,_,_,rfl,rfl,rfl⟩:=h1
   refine bind_ex (ldI_of (j1 0 _ rfl)) ?_
   refine bind_ex (ldI_of (j1 1 _ rfl)) ?_
   refine bind_ex (ldI_of (j1 2 _ rfl)) ?_
   refine bind_ex (ldI_of (j1 3 _ rfl)) ?_
   refine bind_ex (ldI_of (j1 4 _ rfl)) ?_
   refine new_k w0 fun H2 w2 s2=>?_
   refine st_k w2 (i:=0) rfl rfl rfl fun H3 w3 s3=>?_
   dsimp only [List.set] at w3 s3
   refine st_k w3 (i:=0) rfl rfl rfl fun H4 w4 s4=>?_
   dsimp only [List.set] at w4 s4
   refine st_k w4 (i:=0) rfl rfl rfl fun H5 w5 s5=>?_
   dsimp only [List.set] at w5 s5
   refine st_k w5 (i:=0) rfl rfl rfl fun H6 w6 s6=>?_
   dsimp only [List.set] at w6 s6
   refine st_k w6 (i:=0) rfl rfl rfl fun H7 w7 s7=>?_
   dsimp only [List.set] at w7 s7
   refine bind_ex (ldI_of (w7.ld (i:=0) rfl rfl)) ?_
   refine bind_ex (ldI_of (w7.ld (i:=0) rfl rfl)) ?_
   refine bind_ex (ldI_of (w7.ld (i:=0) rfl rfl)) ?_
   refine bind_ex (ldI_of (w7.ld (i:=0) rfl rfl)) ?_
   refine bind_ex (ldI_of (w7.ld (i:=0) rfl rfl)) ?_
   obtain ⟨r8,e8,hp⟩:=bind_some' hp
   refine call_ex (bf.P ⟨w7,trivial⟩ e8) ?_
   rintro _ H9 ⟨rfl,w9,s9,_⟩
   refine bind_ex rfl ?_
   refine bind_ex rfl ?_
   refine bind_ex rfl ?_
   refine bind_ex rfl ?_
   refine bind_ex rfl ?_
   refine bind_ex rfl ?_
   refine bind_ex rfl ?_
   refine bind_ex rfl ?_
   refine bind_ex rfl ?_
   obtain ⟨w10,s10⟩:=w9.pick' [1,2,3,4,5,6,0] 7 rfl rfl rfl
   dsimp only [pk,pks,nth,List.drop] at w10 s10
   exact aw.l3931_P (@ih) F rfl rfl rfl rfl rfl ⟨w10,(s0.trans (s2.trans (s3.trans (s4.trans (s5.trans (s6.trans (s7.trans (s9.trans s10)))))))),(GQ.step (s2.trans (s3.trans (s4.trans (s5.trans (s6.trans (s7.trans (s9.trans s10)))))))),(GR.step (s2.trans (s3.trans (s4.trans (s5.trans (s6.trans (s7.trans (s9.trans s10)))))))),(Au.step (s2.trans (s3.trans (s4.trans (s5.trans (s6.trans (s7.trans (s9.trans s10)))))))),(Av.step (s2.trans (s3.trans (s4.trans (s5.trans (s6.trans (s7.trans (s9.trans s10)))))))),(Aw.step (s2.trans (s3.trans (s4.trans (s5.trans (s6.trans (s7.trans (s9.trans s10))))))))⟩ hp
  ·replace hp:=bif_f hb hp
   refine bind_ex (ldSl_of (w0.ld (i:=5) rfl rfl)) ?_
   refine bind_ex (ldSl_of (w0.ld (i:=5) rfl rfl)) ?_
   refine st_k w0 (i:=2) rfl rfl rfl fun H11 w11 s11=>?_
   dsimp only [List.set] at w11 s11
   refine st_k w11 (i:=2) rfl rfl rfl fun H12 w12 s12=>?_
   dsimp only [List.set] at w12 s12
   refine bind_ex (ldSl_of (w12.ld (i:=2) rfl rfl)) ?_
   refine bind_ex (ldSl_of (w12.ld (i:=2) rfl rfl)) ?_
   obtain ⟨w13,s13⟩:=w12.pick' [3,4] 6 rfl rfl rfl
   dsimp only [pk,pks,nth,List.drop] at w13 s13
   obtain rfl:=Option.some.inj hp
   exact ⟨_,_,rfl,_,_,_,_,_,_,_,_,rfl,rfl,rfl,w13,(s0.trans (s11.trans (s12.trans s13))),(Au.step (s11.trans (s12.trans s13))),(Av.step (s11.trans (s12.trans s13)))⟩
def aw.p (F:Nat) (ad:List (Int×Int×Int×Int×Int)):Option ((List (Int×Int))×(List (Int×Int))×Bool):=(aI.p F ([((-1),0)]:List (Int×Int)) (IntKind.i64.wrap (2 * (ad.length:Int)))).bind fun r5=>(aI.p F ([((-1),0)]:List (Int×Int)) (IntKind.i64.wrap (2 * (ad.length:Int)))).bind fun r10=>aw.pl61 F F r5 r10 ad (ad.length:Int) 0
theorem aw.P {F:Nat} {ax:ON} {aq:Nat} {ay:Cap} {ad:List (Int×Int×Int×Int×Int)} {ab:Int} {H:Hp} {R0:List Rs} (bd:aq = ad.length) (h0:Inn H R0 fun R=>ROs (ePair (eInt .i64) (ePair (eInt .i64) (ePair (eInt .i64) (ePair (eInt .i64) (eInt .i64))))) H R ⟨ax,aq,ay⟩ ad) {r:(List (Int×Int))×(List (Int×Int))×Bool} (hp:aw.p F ad = some r):∃ v H',aw.tw F ⟨ax,aq,ay⟩ ab H = some (v,H')∧aw.Q H R0 R0  r v H':=by
 obtain ⟨w0,aM⟩:=h0
 subst bd
 unfold aw.p at hp
 unfold aw.tw aw.twX
 have s0:=w0.rf
 refine new_k w0 fun H1 w1 s1=>?_
 refine new_k w1 fun H2 w2 s2=>?_
 refine bind_ex (ldSl_of (w2.ld (i:=1) rfl rfl)) ?_
 refine newS_k (ePair (eInt .i64) (eInt .i64)) w2 (n:=1) (l:=([((-1),0)]:List (Int×Int))) rfl (CR.cons (c:=[_,_]) ⟨[_],_,rfl,rfl,rfl⟩ CR.empty) rfl fun H3 w3 s3 c3=>?_
 have f4:=W.borrow1 (ePair (eInt .i64) (eInt .i64)) w3 c3
 obtain ⟨w4,s4⟩:=w3.right1
 obtain ⟨r5,e5,hp⟩:=bind_some' hp
 refine call_ex (aI.P (show 1 = List.length ([((-1),0)]:List (Int×Int)) from rfl) ⟨w4,f4⟩ e5) ?_
 rintro _ H6 ⟨o0a_6,o0n_6,o0k_6,rfl,rfl,w6,s6,f6_0⟩
 obtain ⟨w7,s7⟩:=W.frame1 w3 w6 s6
 refine bind_ex rfl ?_
 refine newS_k (ePair (eInt .i64) (eInt .i64)) w7 (n:=1) (l:=([((-1),0)]:List (Int×Int))) rfl (CR.cons (c:=[_,_]) ⟨[_],_,rfl,rfl,rfl⟩ CR.empty) rfl fun H8 w8 s8 c8=>?_
 have f9:=W.borrow1 (ePair (eInt .i64) (eInt .i64)) w8 c8
 obtain ⟨w9,s9⟩:=w8.right1
 obtain ⟨r10,e10,hp⟩:=bind_some' hp
 refine call_ex (aI.P (show 1 = List.length ([((-1),0)]:List (Int×Int)) from rfl) ⟨w9,f9⟩ e10) ?_
 rintro _ H11 ⟨o0a_11,o0n_11,o0k_11,rfl,rfl,w11,s11,f11_0⟩
 obtain ⟨w12,s12⟩:=W.frame1 w8 w11 s11
 refine bind_ex rfl ?_
 refine new_k w12 fun H13 w13 s13=>?_
 refine st_k w13 (i:=0) rfl rfl rfl fun H14 w14 s14=>?_
 dsimp only [List.set] at w14 s14
 refine st_k w14 (i:=0) rfl rfl rfl fun H15 w15 s15=>?_
 dsimp only [List.set] at w15 s15
 refine bind_ex (ldSl_of (w15.ld (i:=6) rfl rfl)) ?_
 obtain ⟨w16,s16⟩:=w15.nilS (ePair (eInt .i64) (eInt .i64)).z (by decide)
 obtain ⟨w17,s17⟩:=w16.nilS (ePair (eInt .i64) (eInt .i64)).z (by decide)
 obtain ⟨w18,s18⟩:=w17.pick' [1,0,7,6,4,2] 9 rfl rfl rfl
 dsimp only [pk,pks,nth,List.drop] at w18 s18
 exact aw.l61_P F rfl rfl rfl rfl rfl ⟨w18,(s0.trans (s1.trans (s2.trans (s3.trans (s7.trans (s8.trans (s12.trans (s13.trans (s14.trans (s15.trans (s16.trans (s17.trans s18)))))))))))),((CR.empty:CR (ePair (eInt .i64) (eInt .i64)) _ _ [] []).step (s17.trans s18)),((CR.empty:CR (ePair (eInt .i64) (eInt .i64)) _ _ [] []).step s18),((CR.flat (ePair_flat (eInt_flat .i64) (eInt_flat .i64)) f6_0).step (s8.trans (s12.trans (s13.trans (s14.trans (s15.trans (s16.trans (s17.trans s18)))))))),((CR.flat (ePair_flat (eInt_flat .i64) (eInt_flat .i64)) f11_0).step (s13.trans (s14.trans (s15.trans (s16.trans (s17.trans s18)))))),(aM.step (s1.trans (s2.trans (s3.trans (s7.trans (s8.trans (s12.trans (s13.trans (s14.trans (s15.trans (s16.trans (s17.trans s18))))))))))))⟩ hp
def bm.Q (H0:Hp) (Ri R0:List Rs)  (r:Int×Int) (v:AV) (H':Hp):Prop:=v = (.agg [(.int .i64 r.1),(.int .i64 r.2)])∧Out H0 Ri H' (R0) fun R=>True
def bm.p (F:Nat) (ad:List (Int×Int×Int×Int×Int)) (bP:List (Int×Int)) (bW:List (Int×Int)) (cj:Int) (dH:Int):Option (Int×Int):=(ix ad cj).bind fun n5=>(bf.p F ((gt ad n5).1) ((gt ad n5).2.1) ((gt ad n5).2.2.1) ((gt ad n5).2.2.2.1)).bind fun r12=>(if 0 ≤ dH∧dH < (4:Int) then ((bg.p F ((gt ad n5).2.2.2.2) dH).bind fun r16=>(bif r16 then ((ix bP (gt ([r12.1,r12.2.1,r12.2.2.1,r12.2.2.2]:List Int) (dH:Int).toNat)).bind fun n18=>some (((gt bP n18).1),((gt bP n18).2))) else ((ix bW (gt ([r12.1,r12.2.1,r12.2.2.1,r12.2.2.2]:List Int) (dH:Int).toNat)).bind fun n22=>some (((gt bW n22).1),((gt bW n22).2))))) else none)
theorem bm.P {F:Nat} {ax eo fh:ON} {aq cM dr:Nat} {ay ep fi:Cap} {ad:List (Int×Int×Int×Int×Int)} {ab cj dH:Int} {bP bW:List (Int×Int)} {H:Hp} {R0:List Rs} (bd:aq = ad.length) (gp:cM = bP.length) (ie:dr = bW.length) (h0:Inn H R0 fun R=>ROs (ePair (eInt .i64) (ePair (eInt .i64) (ePair (eInt .i64) (ePair (eInt .i64) (eInt .i64))))) H R ⟨ax,aq,ay⟩ ad∧ROs (ePair (eInt .i64) (eInt .i64)) H R ⟨eo,cM,ep⟩ bP∧ROs (ePair (eInt .i64) (eInt .i64)) H R ⟨fh,dr,fi⟩ bW) {r:Int×Int} (hp:bm.p F ad bP bW cj dH = some r):∃ v H',bm.tw F ⟨ax,aq,ay⟩ ab ⟨eo,cM,ep⟩ ⟨fh,dr,fi⟩ cj dH H = some (v,H')∧bm.Q H R0 R0  r v H':=by
 obtain ⟨w0,aM,fu,fQ⟩:=h0
 subst bd
 subst gp
 subst ie
 unfold bm.p at hp
 unfold bm.tw bm.twX
 have s0:=w0.rf
 refine new_k w0 fun H1 w1 s1=>?_
 refine new_k w1 fun H2 w2 s2=>?_
 refine new_k w2 fun H3 w3 s3=>?_
 refine new_k w3 fun H4 w4 s4=>?_
 refine bind_ex (ldSl_of (w4.ld (i:=3) rfl rfl)) ?_
 refine bind_ex (ldI_of (w4.ld (i:=1) rfl rfl)) ?_
 obtain ⟨n5,g5,hp⟩:=bind_some' hp
 obtain ⟨p5,q5,i5,h5,j5⟩:=ROs.ixr (aM.step (s1.trans (s2.trans (s3.trans s4)))) rfl g5
 refine bind_ex i5 ?_
 obtain ⟨_,_,rfl,rfl,_,_,rfl,rfl,_,_,rfl,rfl,_,_,rfl,rfl,rfl⟩:=h5
 refine bind_ex (ldI_of (j5 0 _ rfl)) ?_
 refine bind_ex (ldI_of (j5 1 _ rfl)) ?_
 refine bind_ex (ldI_of (j5 2 _ rfl)) ?_
 refine bind_ex (ldI_of (j5 3 _ rfl)) ?_
 refine bind_ex (ldI_of (j5 4 _ rfl)) ?_
 refine new_k w4 fun H6 w6 s6=>?_
 refine st_k w6 (i:=0) rfl rfl rfl fun H7 w7 s7=>?_
 dsimp only [List.set] at w7 s7
 refine st_k w7 (i:=0) rfl rfl rfl fun H8 w8 s8=>?_
 dsimp only [List.set] at w8 s8
 refine st_k w8 (i:=0) rfl rfl rfl fun H9 w9 s9=>?_
 dsimp only [List.set] at w9 s9
 refine st_k w9 (i:=0) rfl rfl rfl fun H10 w10 s10=>?_
 dsimp only [List.set] at w10 s10
 refine st_k w10 (i:=0) rfl rfl rfl fun H11 w11 s11=>?_
 dsimp only [List.set] at w11 s11
 refine bind_ex (ldI_of (w11.ld (i:=0) rfl rfl)) ?_
 refine bind_ex (ldI_of (w11.ld (i:=0) rfl rfl)) ?_
 refine bind_ex (ldI_of (w11.ld (i:=0) rfl rfl)) ?_
 refine bind_ex (ldI_of (w11.ld (i:=0) rfl rfl)) ?_
 refine bind_ex (ldI_of (w11.ld (i:=0) rfl rfl)) ?_
 obtain ⟨r12,e12,hp⟩:=bind_some' hp
 refine call_ex (bf.P ⟨w11,trivial⟩ e12) ?_
 rintro _ H13 ⟨rfl,w13,s13,_⟩
 refine bind_ex rfl ?_
 refine bind_ex rfl ?_
 refine bind_ex rfl ?_
 refine bind_ex rfl ?_
 refine bind_ex rfl ?_
 refine bind_ex rfl ?_
 refine bind_ex rfl ?_
 refine bind_ex rfl ?_
 refine bind_ex rfl ?_
 refine ifs_ex (W.cons_of (Rn:=[]) w11 w13 s13) ?_
 refine bind_ex (ldI_of (w13.ld (i:=2) rfl rfl)) ?_
 obtain ⟨g15,hp⟩:=ifs_p hp
 refine ifs_ex g15 ?_
 refine bind_ex (a:=AV.int .i64 (gt ([r12.1,r12.2.1,r12.2.2.1,r12.2.2.2]:List Int) (dH:Int).toNat)) (by rw [Nat.mul_one]; exact arr_get (k:=.i64) (l:=[r12.1,r12.2.1,r12.2.2.1,r12.2.2.2]) rfl (by have:=g15; simp only [List.length_cons,List.length_nil]; omega)) ?_
 refine bind_ex rfl ?_
 refine bind_ex (ldI_of (w13.ld (i:=0) rfl rfl)) ?_
 refine bind_ex (ldI_of (w13.ld (i:=0) rfl rfl)) ?_
 refine bind_ex (ldI_of (w13.ld (i:=0) rfl rfl)) ?_
 refine bind_ex (ldI_of (w13.ld (i:=0) rfl rfl)) ?_
 refine bind_ex (ldI_of (w13.ld (i:=0) rfl rfl)) ?_
 refine bind_ex (ldI_of (w13.ld (i:=2) rfl rfl)) ?_
 obtain ⟨r16,e16,hp⟩:=bind_some' hp
 refine call_ex (bg.P ⟨w13,trivial⟩ e16) ?_
 rintro _ H17 ⟨rfl,w17,s17,_⟩
 refine bind_ex rfl ?_
 refine bif_ex (fun hb=>?_) (fun hb=>?_)
 ·replace hp:=bif_t hb hp
  refine bind_ex (ldSl_of (w17.ld (i:=3) rfl rfl)) ?_
  obtain ⟨n18,g18,hp⟩:=bind_some' hp
  obtain ⟨p18,q18,i18,h18,j18⟩:=ROs.ixr (fu.step (s1.trans (s2.trans (s3.trans (s4.trans (s6.trans (s7.trans (s8.trans (s9.trans (s10.trans (s11.trans (s13.trans s17)))))))))))) rfl g18
  refine bind_ex i18 ?_
  obtain ⟨_,_,rfl,rfl,rfl⟩:=h18
  refine bind_ex (ldI_of (j18 0 _ rfl)) ?_
  refine bind_ex (ldI_of (j18 1 _ rfl)) ?_
  refine st_k w17 (i:=1) rfl rfl rfl fun H19 w19 s19=>?_
  dsimp only [List.set] at w19 s19
  refine st_k w19 (i:=1) rfl rfl rfl fun H20 w20 s20=>?_
  dsimp only [List.set] at w20 s20
  refine bind_ex (ldI_of (w20.ld (i:=1) rfl rfl)) ?_
  refine bind_ex (ldI_of (w20.ld (i:=1) rfl rfl)) ?_
  obtain ⟨w21,s21⟩:=w20.pick' [] 5 rfl rfl rfl
  dsimp only [pk,pks,nth,List.drop] at w21 s21
  obtain rfl:=Option.some.inj hp
  exact ⟨_,_,rfl,rfl,w21,(s0.trans (s1.trans (s2.trans (s3.trans (s4.trans (s6.trans (s7.trans (s8.trans (s9.trans (s10.trans (s11.trans (s13.trans (s17.trans (s19.trans (s20.trans s21))))))))))))))),trivial⟩
 ·replace hp:=bif_f hb hp
  refine bind_ex (ldSl_of (w17.ld (i:=3) rfl rfl)) ?_
  obtain ⟨n22,g22,hp⟩:=bind_some' hp
  obtain ⟨p22,q22,i22,h22,j22⟩:=ROs.ixr (fQ.step (s1.trans (s2.trans (s3.trans (s4.trans (s6.trans (s7.trans (s8.trans (s9.trans (s10.trans (s11.trans (s13.trans s17)))))))))))) rfl g22
  refine bind_ex i22 ?_
  obtain ⟨_,_,rfl,rfl,rfl⟩:=h22
  refine bind_ex (ldI_of (j22 0 _ rfl)) ?_
  refine bind_ex (ldI_of (j22 1 _ rfl)) ?_
  refine st_k w17 (i:=1) rfl rfl rfl fun H23 w23 s23=>?_
  dsimp only [List.set] at w23 s23
  refine st_k w23 (i:=1) rfl rfl rfl fun H24 w24 s24=>?_
  dsimp only [List.set] at w24 s24
  refine bind_ex (ldI_of (w24.ld (i:=1) rfl rfl)) ?_
  refine bind_ex (ldI_of (w24.ld (i:=1) rfl rfl)) ?_
  obtain ⟨w25,s25⟩:=w24.pick' [] 5 rfl rfl rfl
  dsimp only [pk,pks,nth,List.drop] at w25 s25
  obtain rfl:=Option.some.inj hp
  exact ⟨_,_,rfl,rfl,w25,(s0.trans (s1.trans (s2.trans (s3.trans (s4.trans (s6.trans (s7.trans (s8.trans (s9.trans (s10.trans (s11.trans (s13.trans (s17.trans (s23.trans (s24.trans s25))))))))))))))),trivial⟩
def aj.Q (H0:Hp) (Ri R0:List Rs)  (r:List (List Int)) (v:AV) (H':Hp):Prop:=∃ o0a:ON,∃ o0n:Nat,∃ o0c:Cap,∃ o0k:List AV,v = (.sl ⟨o0a,o0n,o0c⟩)∧o0n = (r).length∧Out H0 Ri H' (Rs.own ⟨o0a,o0n,o0c⟩ (eSl (eInt .i64)).z o0k :: R0) fun R=>CR (eSl (eInt .i64)) H' R o0k (r)
def aj.S61 (H0:Hp) (Ri R0:List Rs)  (C:Nat→Nat→Nat→Nat→Sl→Sl→Int→Int→Hp→OA) (pC:List (Int×Int×Int×Int×Int)→List (Int×Int)→List (Int×Int)→List (List Int)→List Bool→Int→Int→Option (List (List Int))):Prop:=∀ {rO rP rQ rR rS:ON} {nC eA nD nE co nF nG:Nat} {rT rU rV rW rX:Cap} {jR:List (Int×Int×Int×Int×Int)} {vx eB eg:Int} {jS jT:List (Int×Int)} {jv:List (List Int)} {rY rZ:List AV} {jU:List Bool},∀ {H:Hp},nC = jR.length→nD = jS.length→nE = jT.length→nF = jv.length→nG = jU.length→(Out H0 Ri H (Rs.blk eA [.sl ⟨rO,nC,rT⟩,.int .i64 vx] :: Rs.blk co [.sl ⟨rP,nD,rU⟩,.sl ⟨rQ,nE,rV⟩] :: Rs.own ⟨rR,nF,rW⟩ (eSl (eInt .i64)).z rY :: Rs.own ⟨rS,nG,rX⟩ eBool.z rZ :: R0) fun R=>ROs (ePair (eInt .i64) (ePair (eInt .i64) (ePair (eInt .i64) (ePair (eInt .i64) (eInt .i64))))) H R ⟨rO,nC,rT⟩ jR∧ROs (ePair (eInt .i64) (eInt .i64)) H R ⟨rP,nD,rU⟩ jS∧ROs (ePair (eInt .i64) (eInt .i64)) H R ⟨rQ,nE,rV⟩ jT∧CR (eSl (eInt .i64)) H R rY jv∧CR eBool H R rZ jU)→∀ {r:List (List Int)},pC jR jS jT jv jU eB eg = some r→∃ v H',C eA 0 co 0 ⟨rR,nF,rW⟩ ⟨rS,nG,rX⟩ eB eg H = some (v,H')∧aj.Q H0 Ri R0  r v H'
def aj.S15725 (H0:Hp) (Ri R0:List Rs)  (C:Nat→Nat→Nat→Nat→Sl→Sl→Int→Int→Sl→Int→Hp→OA) (pC:List (Int×Int×Int×Int×Int)→List (Int×Int)→List (Int×Int)→List (List Int)→List Bool→Int→Int→List Int→Int→Option (List (List Int))):Prop:=∀ {r_ sa sb sd se sf:ON} {nH db nI nJ dl nK nL nM:Nat} {sh si sj sk sm sn:Cap} {iN:List (Int×Int×Int×Int×Int)} {vy ez eQ cF:Int} {iO iQ:List (Int×Int)} {jw:List (List Int)} {sp sq ss:List AV} {ig:List Bool} {jx:List Int},∀ {H:Hp},nH = iN.length→nI = iO.length→nJ = iQ.length→nK = jw.length→nL = ig.length→nM = jx.length→(Out H0 Ri H (Rs.blk db [.sl ⟨r_,nH,sh⟩,.int .i64 vy] :: Rs.blk dl [.sl ⟨sa,nI,si⟩,.sl ⟨sb,nJ,sj⟩] :: Rs.own ⟨sd,nK,sk⟩ (eSl (eInt .i64)).z sp :: Rs.own ⟨se,nL,sm⟩ eBool.z sq :: Rs.own ⟨sf,nM,sn⟩ (eInt .i64).z ss :: R0) fun R=>ROs (ePair (eInt .i64) (ePair (eInt .i64) (ePair (eInt .i64) (ePair (eInt .i64) (eInt .i64))))) H R ⟨r_,nH,sh⟩ iN∧ROs (ePair (eInt .i64) (eInt .i64)) H R ⟨sa,nI,si⟩ iO∧ROs (ePair (eInt .i64) (eInt .i64)) H R ⟨sb,nJ,sj⟩ iQ∧CR (eSl (eInt .i64)) H R sp jw∧CR eBool H R sq ig∧CR (eInt .i64) H R ss jx)→∀ {r:List (List Int)},pC iN iO iQ jw ig ez eQ jx cF = some r→∃ v H',C db 0 dl 0 ⟨sd,nK,sk⟩ ⟨se,nL,sm⟩ ez eQ ⟨sf,nM,sn⟩ cF H = some (v,H')∧aj.Q H0 Ri R0  r v H'
def aj.pj4 (F:Nat) (aN:List (Int×Int×Int×Int×Int)→List (Int×Int)→List (Int×Int)→List (List Int)→List Bool→Int→Int→Option (List (List Int))) (nN:List (Int×Int×Int×Int×Int)) (nO:List (Int×Int)) (nP:List (Int×Int)) (nQ:List (List Int)) (nR:List Bool) (kC:Int) (kD:Int):Option (List (List Int)):=aN nN nO nP nQ nR kC (IntKind.i64.wrap (kD + 1))
theorem aj.j4_P {F:Nat} {H0:Hp} {Ri R0:List Rs}  {C61_:Nat→Nat→Nat→Nat→Sl→Sl→Int→Int→Hp→OA} {aN:List (Int×Int×Int×Int×Int)→List (Int×Int)→List (Int×Int)→List (List Int)→List Bool→Int→Int→Option (List (List Int))} (hC61:aj.S61 H0 Ri R0  C61_ aN) {Ax Ay Az AA AB:ON} {vz pc vA vB pd vC vD:Nat} {AC AD AF AG AH:Cap} {nN:List (Int×Int×Int×Int×Int)} {GS kC kD:Int} {nO nP:List (Int×Int)} {nQ:List (List Int)} {AI AJ:List AV} {nR:List Bool} {H:Hp} (GT:vz = nN.length) (GU:vA = nO.length) (GV:vB = nP.length) (GW:vC = nQ.length) (GX:vD = nR.length) (h0:Out H0 Ri H (Rs.blk pc [.sl ⟨Ax,vz,AC⟩,.int .i64 GS] :: Rs.blk pd [.sl ⟨Ay,vA,AD⟩,.sl ⟨Az,vB,AF⟩] :: Rs.own ⟨AA,vC,AG⟩ (eSl (eInt .i64)).z AI :: Rs.own ⟨AB,vD,AH⟩ eBool.z AJ :: R0) fun R=>ROs (ePair (eInt .i64) (ePair (eInt .i64) (ePair (eInt .i64) (ePair (eInt .i64) (eInt .i64))))) H R ⟨Ax,vz,AC⟩ nN∧ROs (ePair (eInt .i64) (eInt .i64)) H R ⟨Ay,vA,AD⟩ nO∧ROs (ePair (eInt .i64) (eInt .i64)) H R ⟨Az,vB,AF⟩ nP∧CR (eSl (eInt .i64)) H R AI nQ∧CR eBool H R AJ nR) {r:List (List Int)} (hp:aj.pj4 F aN nN nO nP nQ nR kC kD = some r):∃ v H',aj.j4 F (bm.tw F) C61_ pc 0 pd 0 ⟨AA,vC,AG⟩ ⟨AB,vD,AH⟩ kC kD H = some (v,H')∧aj.Q H0 Ri R0  r v H':=by
 obtain ⟨w0,s0,GY,GZ,G_,Ha,Hb⟩:=h0
 subst GT
 subst GU
 subst GV
 subst GW
 subst GX
 unfold aj.pj4 at hp
 unfold aj.j4
 exact hC61 rfl rfl rfl rfl rfl ⟨w0,s0,GY,GZ,G_,Ha,Hb⟩ hp
def aj.pj5 (F:Nat) (aN:List (Int×Int×Int×Int×Int)→List (Int×Int)→List (Int×Int)→List (List Int)→List Bool→Int→Int→Option (List (List Int))) (nS:List (Int×Int×Int×Int×Int)) (nT:List (Int×Int)) (nU:List (Int×Int)) (nV:List (List Int)) (nW:List Bool) (kE:Int) (kF:Int):Option (List (List Int)):=aj.pj4 F aN nS nT nU nV nW kE kF
theorem aj.j5_P {F:Nat} {H0:Hp} {Ri R0:List Rs}  {C61_:Nat→Nat→Nat→Nat→Sl→Sl→Int→Int→Hp→OA} {aN:List (Int×Int×Int×Int×Int)→List (Int×Int)→List (Int×Int)→List (List Int)→List Bool→Int→Int→Option (List (List Int))} (hC61:aj.S61 H0 Ri R0  C61_ aN) {AK AL AM AN AO:ON} {vE pe vF vG kg vH vI:Nat} {AP AQ AR AS AT:Cap} {nS:List (Int×Int×Int×Int×Int)} {Hc kE kF:Int} {nT nU:List (Int×Int)} {nV:List (List Int)} {AU AW:List AV} {nW:List Bool} {H:Hp} (Hd:vE = nS.length) (He:vF = nT.length) (Hf:vG = nU.length) (Hg:vH = nV.length) (Hh:vI = nW.length) (h0:Out H0 Ri H (Rs.blk pe [.sl ⟨AK,vE,AP⟩,.int .i64 Hc] :: Rs.blk kg [.sl ⟨AL,vF,AQ⟩,.sl ⟨AM,vG,AR⟩] :: Rs.own ⟨AN,vH,AS⟩ (eSl (eInt .i64)).z AU :: Rs.own ⟨AO,vI,AT⟩ eBool.z AW :: R0) fun R=>ROs (ePair (eInt .i64) (ePair (eInt .i64) (ePair (eInt .i64) (ePair (eInt .i64) (eInt .i64))))) H R ⟨AK,vE,AP⟩ nS∧ROs (ePair (eInt .i64) (eInt .i64)) H R ⟨AL,vF,AQ⟩ nT∧ROs (ePair (eInt .i64) (eInt .i64)) H R ⟨AM,vG,AR⟩ nU∧CR (eSl (eInt .i64)) H R AU nV∧CR eBool H R AW nW) {r:List (List Int)} (hp:aj.pj5 F aN nS nT nU nV nW kE kF = some r):∃ v H',aj.j5 F (bm.tw F) C61_ pe 0 kg 0 ⟨AN,vH,AS⟩ ⟨AO,vI,AT⟩ kE kF H = some (v,H')∧aj.Q H0 Ri R0  r v H':=by
 obtain ⟨w0,s0,Hi,Hj,Hk,Hl,Hm⟩:=h0
 subst Hd
 subst He
 subst Hf
 subst Hg
 subst Hh
 unfold aj.pj5 at hp
 unfold aj.j5
 exact aj.j4_P (@hC61) rfl rfl rfl rfl rfl ⟨w0,s0,Hi,Hj,Hk,Hl,Hm⟩ hp
def aj.pj6 (F:Nat) (aN:List (Int×Int×Int×Int×Int)→List (Int×Int)→List (Int×Int)→List (List Int)→List Bool→Int→Int→Option (List (List Int))) (la:List (Int×Int×Int×Int×Int)) (lb:List (Int×Int)) (lc:List (Int×Int)) (lf:List (List Int)) (lg:List Bool) (jy:List Int) (jb:Int) (jc:Int):Option (List (List Int)):=(bif (decide ((jy.length:Int) > 0)) then ((apn lf ([jy]:List (List Int))).bind fun l3=>aj.pj5 F aN la lb lc l3 lg jb jc) else (aj.pj5 F aN la lb lc lf lg jb jc))
theorem aj.j6_P {F:Nat} {H0:Hp} {Ri R0:List Rs}  {C61_:Nat→Nat→Nat→Nat→Sl→Sl→Int→Int→Hp→OA} {aN:List (Int×Int×Int×Int×Int)→List (Int×Int)→List (Int×Int)→List (List Int)→List Bool→Int→Int→Option (List (List Int))} (hC61:aj.S61 H0 Ri R0  C61_ aN) {AX AY AZ A_ Ba Bb:ON} {vJ lq vK vL lr vM vN vO:Nat} {Bc Bd Be Bf Bg Bh:Cap} {la:List (Int×Int×Int×Int×Int)} {Hn jb jc:Int} {lb lc:List (Int×Int)} {lf:List (List Int)} {Bi Bj Bk:List AV} {lg:List Bool} {jy:List Int} {H:Hp} (Ho:vJ = la.length) (Hq:vK = lb.length) (Hr:vL = lc.length) (Hs:vM = lf.length) (Ht:vN = lg.length) (Hu:vO = jy.length) (h0:Out H0 Ri H (Rs.blk lq [.sl ⟨AX,vJ,Bc⟩,.int .i64 Hn] :: Rs.blk lr [.sl ⟨AY,vK,Bd⟩,.sl ⟨AZ,vL,Be⟩] :: Rs.own ⟨A_,vM,Bf⟩ (eSl (eInt .i64)).z Bi :: Rs.own ⟨Ba,vN,Bg⟩ eBool.z Bj :: Rs.own ⟨Bb,vO,Bh⟩ (eInt .i64).z Bk :: R0) fun R=>ROs (ePair (eInt .i64) (ePair (eInt .i64) (ePair (eInt .i64) (ePair (eInt .i64) (eInt .i64))))) H R ⟨AX,vJ,Bc⟩ la∧ROs (ePair (eInt .i64) (eInt .i64)) H R ⟨AY,vK,Bd⟩ lb∧ROs (ePair (eInt .i64) (eInt .i64)) H R ⟨AZ,vL,Be⟩ lc∧CR (eSl (eInt .i64)) H R Bi lf∧CR eBool H R Bj lg∧CR (eInt .i64) H R Bk jy) {r:List (List Int)} (hp:aj.pj6 F aN la lb lc lf lg jy jb jc = some r):∃ v H',aj.j6 F (bm.tw F) C61_ lq 0 lr 0 ⟨A_,vM,Bf⟩ ⟨Ba,vN,Bg⟩ ⟨Bb,vO,Bh⟩ jb jc H = some (v,H')∧aj.Q H0 Ri R0  r v H':=by
 obtain ⟨w0,s0,Bl,Bm,Bn,Bo,Bp,Hv⟩:=h0
 subst Ho
 subst Hq
 subst Hr
 subst Hs
 subst Ht
 subst Hu
 unfold aj.pj6 at hp
 unfold aj.j6
 refine bif_ex (fun hb=>?_) (fun hb=>?_)
 ·replace hp:=bif_t hb hp
  obtain ⟨w1,s1,f1⟩:=w0.frz (i:=4) (eInt .i64) rfl Hv
  dsimp only [List.eraseIdx] at w1 s1 f1
  refine newS_k (eSl (eInt .i64)) w1 (n:=1) (l:=([jy]:List (List Int))) rfl (CR.cons1 ⟨_,rfl,f1⟩ CR.empty) rfl fun H2 w2 s2 c2=>?_
  refine bind_ex (w2.rowo (i:=0) rfl) ?_
  obtain ⟨l3,e3,hp⟩:=bind_some' hp
  refine app_k (eSl (eInt .i64)) w2 (i:=3) rfl rfl (Bo.step (s1.trans s2)) c2 (show 1 = List.length ([jy]:List (List Int)) from rfl) rfl e3 fun a4 d4 H4 w4 s4 c4 x4=>?_
  dsimp only [List.set] at w4 s4 c4
  obtain ⟨w5,s5⟩:=w4.pick' [1,2,3,4] 5 rfl rfl rfl
  dsimp only [pk,pks,nth,List.drop] at w5 s5
  exact aj.j5_P (@hC61) rfl rfl rfl rfl rfl ⟨w5,(s0.trans (s1.trans (s2.trans (s4.trans s5)))),(Bl.step (s1.trans (s2.trans (s4.trans s5)))),(Bm.step (s1.trans (s2.trans (s4.trans s5)))),(Bn.step (s1.trans (s2.trans (s4.trans s5)))),(c4.step s5),(Bp.step (s1.trans (s2.trans (s4.trans s5))))⟩ hp
 ·replace hp:=bif_f hb hp
  obtain ⟨w6,s6⟩:=w0.pick' [0,1,2,3] 5 rfl rfl rfl
  dsimp only [pk,pks,nth,List.drop] at w6 s6
  exact aj.j5_P (@hC61) rfl rfl rfl rfl rfl ⟨w6,(s0.trans s6),(Bl.step s6),(Bm.step s6),(Bn.step s6),(Bo.step s6),(Bp.step s6)⟩ hp
def aj.pl15725 (F:Nat) (aN:List (Int×Int×Int×Int×Int)→List (Int×Int)→List (Int×Int)→List (List Int)→List Bool→Int→Int→Option (List (List Int))):Nat→List (Int×Int×Int×Int×Int)→List (Int×Int)→List (Int×Int)→List (List Int)→List Bool→Int→Int→List Int→Int→Option (List (List Int))
 | 0,_,_,_,_,_,_,_,_,_=>none
 | k + 1,iN,iO,iQ,jw,ig,ez,eQ,jx,cF=>(ix ig cF).bind fun n1=>(bif (!(gt ig n1)) then ((ix ig cF).bind fun n2=>(some (ig.set n2 true)).bind fun l3=>(apn jx ([cF]:List Int)).bind fun l6=>(bm.p F iN iO iQ (IntKind.i64.wrap (Int.tdiv cF 4)) (Int.tmod (IntKind.i64.wrap (cF + 1)) 4)).bind fun r8=>aj.pl15725 F aN k iN iO iQ jw l3 ez eQ l6 (IntKind.i64.wrap ((IntKind.i64.wrap (4 * r8.1)) + r8.2))) else (aj.pj6 F aN iN iO iQ jw ig jx ez eQ))
termination_by structural n=>n
theorem aj.l15725_P {F:Nat} {H0:Hp} {Ri R0:List Rs}  {C61_:Nat→Nat→Nat→Nat→Sl→Sl→Int→Int→Hp→OA} {aN:List (Int×Int×Int×Int×Int)→List (Int×Int)→List (Int×Int)→List (List Int)→List Bool→Int→Int→Option (List (List Int))} (hC61:aj.S61 H0 Ri R0  C61_ aN):∀ k,aj.S15725 H0 Ri R0  (aj.l15725 F (bm.tw F) C61_ k) (aj.pl15725 F aN k):=by
 intro k
 induction k with
 | zero=>
  intro r_ sa sb sd se sf nH db nI nJ dl nK nL nM sh si sj sk sm sn iN vy ez eQ cF iO iQ jw sp sq ss ig jx H Bq Br Bs Bt Bu Bv h0 r hp
  exact nomatch (show (none:Option (List (List Int))) = some r from hp)
 | succ k ih=>
  intro r_ sa sb sd se sf nH db nI nJ dl nK nL nM sh si sj sk sm sn iN vy ez eQ cF iO iQ jw sp sq ss ig jx H Bq Br Bs Bt Bu Bv h0 r hp
  obtain ⟨w0,s0,vP,vQ,vR,Bw,su,Bx⟩:=h0
  subst Bq
  subst Br
  subst Bs
  subst Bt
  subst Bu
  subst Bv
  unfold aj.pl15725 at hp
  unfold aj.l15725
  obtain ⟨n1,g1,hp⟩:=bind_some' hp
  obtain ⟨p1,q1,i1,h1,j1⟩:=W.ixo (E:=eBool) w0 (i:=3) rfl rfl su g1
  refine bind_ex i1 ?_
  have h1:_ = [_]:=h1
  subst h1
  refine bind_ex (ldB_of (j1 0 _ rfl)) ?_
  refine bif_ex (fun hb=>?_) (fun hb=>?_)
  ·replace hp:=bif_t hb hp
   obtain ⟨n2,g2,hp⟩:=bind_some' hp
   obtain ⟨p2,q2,i2,h2,j2⟩:=W.ixo (E:=eBool) w0 (i:=3) rfl rfl su g2
   refine bind_ex i2 ?_
   obtain ⟨l3,e3,hp⟩:=bind_some' hp
   refine sto_k eBool w0 (i:=3) (j:=0) (p:=p2) rfl rfl su g2 i2 e3 rfl rfl (fun _ h=>by have h:_ = [_]:=h; subst h; exact rfl) fun H4 k4 w4 s4 c4=>?_
   dsimp only [List.set] at w4 s4 c4
   refine newS_k (eInt .i64) w4 (n:=1) (l:=([cF]:List Int)) rfl (CR.cons1 rfl CR.empty) rfl fun H5 w5 s5 c5=>?_
   refine bind_ex (w5.rowo (i:=0) rfl) ?_
   obtain ⟨l6,e6,hp⟩:=bind_some' hp
   refine app_k (eInt .i64) w5 (i:=5) rfl rfl (Bx.step (s4.trans s5)) c5 (show 1 = List.length ([cF]:List Int) from rfl) rfl e6 fun a7 d7 H7 w7 s7 c7 x7=>?_
   dsimp only [List.set] at w7 s7 c7
   refine bind_ex (ldSl_of (w7.ld (i:=1) rfl rfl)) ?_
   refine bind_ex (ldI_of (w7.ld (i:=1) rfl rfl)) ?_
   refine bind_ex (ldSl_of (w7.ld (i:=2) rfl rfl)) ?_
   refine bind_ex (ldSl_of (w7.ld (i:=2) rfl rfl)) ?_
   obtain ⟨r8,e8,hp⟩:=bind_some' hp
   refine call_ex (bm.P rfl rfl rfl ⟨w7,(vP.step (s4.trans (s5.trans s7))),(vQ.step (s4.trans (s5.trans s7))),(vR.step (s4.trans (s5.trans s7)))⟩ e8) ?_
   rintro _ H9 ⟨rfl,w9,s9,_⟩
   refine bind_ex rfl ?_
   refine bind_ex rfl ?_
   refine bind_ex rfl ?_
   refine bind_ex rfl ?_
   refine bind_ex rfl ?_
   refine new_k w9 fun H10 w10 s10=>?_
   refine st_k w10 (i:=0) rfl rfl rfl fun H11 w11 s11=>?_
   dsimp only [List.set] at w11 s11
   refine st_k w11 (i:=0) rfl rfl rfl fun H12 w12 s12=>?_
   dsimp only [List.set] at w12 s12
   refine bind_ex (ldI_of (w12.ld (i:=0) rfl rfl)) ?_
   refine bind_ex (ldI_of (w12.ld (i:=0) rfl rfl)) ?_
   obtain ⟨w13,s13⟩:=w12.pick' [2,3,4,5,6] 7 rfl rfl rfl
   dsimp only [pk,pks,nth,List.drop] at w13 s13
   exact ih rfl rfl rfl rfl ((st_len e3).symm) rfl ⟨w13,(s0.trans (s4.trans (s5.trans (s7.trans (s9.trans (s10.trans (s11.trans (s12.trans s13)))))))),(vP.step (s4.trans (s5.trans (s7.trans (s9.trans (s10.trans (s11.trans (s12.trans s13)))))))),(vQ.step (s4.trans (s5.trans (s7.trans (s9.trans (s10.trans (s11.trans (s12.trans s13)))))))),(vR.step (s4.trans (s5.trans (s7.trans (s9.trans (s10.trans (s11.trans (s12.trans s13)))))))),(Bw.step (s4.trans (s5.trans (s7.trans (s9.trans (s10.trans (s11.trans (s12.trans s13)))))))),(c4.step (s5.trans (s7.trans (s9.trans (s10.trans (s11.trans (s12.trans s13))))))),(c7.step (s9.trans (s10.trans (s11.trans (s12.trans s13)))))⟩ hp
  ·replace hp:=bif_f hb hp
   exact aj.j6_P (@hC61) rfl rfl rfl rfl rfl rfl ⟨w0,s0,vP,vQ,vR,Bw,su,Bx⟩ hp
def aj.pl61 (F:Nat) :Nat→List (Int×Int×Int×Int×Int)→List (Int×Int)→List (Int×Int)→List (List Int)→List Bool→Int→Int→Option (List (List Int))
 | 0,_,_,_,_,_,_,_=>none
 | k + 1,jR,jS,jT,jv,jU,eB,eg=>(bif (decide (eg < eB)) then (aj.pl15725 F (aj.pl61 F k) F jR jS jT jv jU eB eg ([]:List Int) eg) else (some jv))
termination_by structural n=>n
theorem aj.l61_P {F:Nat} {H0:Hp} {Ri R0:List Rs}  :∀ k,aj.S61 H0 Ri R0  (aj.l61 F (bm.tw F)  k) (aj.pl61 F  k):=by
 intro k
 induction k with
 | zero=>
  intro rO rP rQ rR rS nC eA nD nE co nF nG rT rU rV rW rX jR vx eB eg jS jT jv rY rZ jU H By Bz BA BB BC h0 r hp
  exact nomatch (show (none:Option (List (List Int))) = some r from hp)
 | succ k ih=>
  intro rO rP rQ rR rS nC eA nD nE co nF nG rT rU rV rW rX jR vx eB eg jS jT jv rY rZ jU H By Bz BA BB BC h0 r hp
  obtain ⟨w0,s0,Hw,Hx,Hy,BD,Hz⟩:=h0
  subst By
  subst Bz
  subst BA
  subst BB
  subst BC
  unfold aj.pl61 at hp
  unfold aj.l61
  refine bif_ex (fun hb=>?_) (fun hb=>?_)
  ·replace hp:=bif_t hb hp
   obtain ⟨w1,s1⟩:=w0.nilS (eInt .i64).z (by decide)
   obtain ⟨w2,s2⟩:=w1.pick' [1,2,3,4,0] 5 rfl rfl rfl
   dsimp only [pk,pks,nth,List.drop] at w2 s2
   exact aj.l15725_P (@ih) F rfl rfl rfl rfl rfl rfl ⟨w2,(s0.trans (s1.trans s2)),(Hw.step (s1.trans s2)),(Hx.step (s1.trans s2)),(Hy.step (s1.trans s2)),(BD.step (s1.trans s2)),(Hz.step (s1.trans s2)),((CR.empty:CR (eInt .i64) _ _ [] []).step s2)⟩ hp
  ·replace hp:=bif_f hb hp
   obtain ⟨w3,s3⟩:=w0.pick' [2] 4 rfl rfl rfl
   dsimp only [pk,pks,nth,List.drop] at w3 s3
   obtain rfl:=Option.some.inj hp
   exact ⟨_,_,rfl,_,_,_,_,rfl,rfl,w3,(s0.trans s3),(BD.step s3)⟩
def aj.p (F:Nat) (ad:List (Int×Int×Int×Int×Int)) (bP:List (Int×Int)) (bW:List (Int×Int)):Option (List (List Int)):=(mkn (IntKind.i64.wrap (4 * (ad.length:Int))) false).bind fun l3=>aj.pl61 F F ad bP bW ([]:List (List Int)) l3 (l3.length:Int) 0
theorem aj.P {F:Nat} {ax eo fh:ON} {aq cM dr:Nat} {ay ep fi:Cap} {ad:List (Int×Int×Int×Int×Int)} {ab:Int} {bP bW:List (Int×Int)} {H:Hp} {R0:List Rs} (bd:aq = ad.length) (gp:cM = bP.length) (ie:dr = bW.length) (h0:Inn H R0 fun R=>ROs (ePair (eInt .i64) (ePair (eInt .i64) (ePair (eInt .i64) (ePair (eInt .i64) (eInt .i64))))) H R ⟨ax,aq,ay⟩ ad∧ROs (ePair (eInt .i64) (eInt .i64)) H R ⟨eo,cM,ep⟩ bP∧ROs (ePair (eInt .i64) (eInt .i64)) H R ⟨fh,dr,fi⟩ bW) {r:List (List Int)} (hp:aj.p F ad bP bW = some r):∃ v H',aj.tw F ⟨ax,aq,ay⟩ ab ⟨eo,cM,ep⟩ ⟨fh,dr,fi⟩ H = some (v,H')∧aj.Q H R0 R0  r v H':=by
 obtain ⟨w0,aM,fu,fQ⟩:=h0
 subst bd
 subst gp
 subst ie
 unfold aj.p at hp
 unfold aj.tw aj.twX
 have s0:=w0.rf
 refine new_k w0 fun H1 w1 s1=>?_
 refine new_k w1 fun H2 w2 s2=>?_
 refine bind_ex (ldSl_of (w2.ld (i:=1) rfl rfl)) ?_
 obtain ⟨l3,e3,hp⟩:=bind_some' hp
 refine mk_k eBool false w2 rfl rfl rfl e3 fun H4 k4 w4 s4 c4=>?_
 obtain ⟨w5,s5⟩:=w4.nilS (eSl (eInt .i64)).z (by decide)
 obtain ⟨w6,s6⟩:=w5.pick' [3,2,0,1] 4 rfl rfl rfl
 dsimp only [pk,pks,nth,List.drop] at w6 s6
 exact aj.l61_P F rfl rfl rfl rfl rfl ⟨w6,(s0.trans (s1.trans (s2.trans (s4.trans (s5.trans s6))))),(aM.step (s1.trans (s2.trans (s4.trans (s5.trans s6))))),(fu.step (s1.trans (s2.trans (s4.trans (s5.trans s6))))),(fQ.step (s1.trans (s2.trans (s4.trans (s5.trans s6))))),((CR.empty:CR (eSl (eInt .i64)) _ _ [] []).step s6),(c4.step (s5.trans s6))⟩ hp
def bJ.Q (H0:Hp) (Ri R0:List Rs)  (r:Int) (v:AV) (H':Hp):Prop:=v = (.int .i64 r)∧Out H0 Ri H' (R0) fun R=>True
def bJ.p (F:Nat) (ad:List (List Int)):Option (Int):=some (ad.length:Int)
theorem bJ.P {F:Nat} {ax:ON} {aq:Nat} {ay:Cap} {ad:List (List Int)} {H:Hp} {R0:List Rs} (bd:aq = ad.length) (h0:Inn H R0 fun R=>ROs (eSl (eInt .i64)) H R ⟨ax,aq,ay⟩ ad) {r:Int} (hp:bJ.p F ad = some r):∃ v H',bJ.tw F ⟨ax,aq,ay⟩ H = some (v,H')∧bJ.Q H R0 R0  r v H':=by
 obtain ⟨w0,aM⟩:=h0
 subst bd
 unfold bJ.p at hp
 unfold bJ.tw bJ.twX
 have s0:=w0.rf
 obtain rfl:=Option.some.inj hp
 exact ⟨_,_,rfl,rfl,w0,s0,trivial⟩
def aP.Q (H0:Hp) (Ri R0:List Rs)  (r:List Int) (v:AV) (H':Hp):Prop:=∃ o0a:ON,∃ o0n:Nat,∃ o0c:Cap,∃ o0k:List AV,v = (.sl ⟨o0a,o0n,o0c⟩)∧o0n = (r).length∧Out H0 Ri H' (Rs.own ⟨o0a,o0n,o0c⟩ (eInt .i64).z o0k :: R0) fun R=>CR (eInt .i64) H' R o0k (r)
def aP.S29 (H0:Hp) (Ri R0:List Rs)  (C:Sl→Int→Int→Hp→OA) (pC:List Int→Int→Int→Option (List Int)):Prop:=∀ {sv:ON} {nX:Nat} {sw:Cap} {jz:List Int} {sx:List AV} {eC dI:Int},∀ {H:Hp},nX = jz.length→(Out H0 Ri H (Rs.own ⟨sv,nX,sw⟩ (eInt .i64).z sx :: R0) fun R=>CR (eInt .i64) H R sx jz)→∀ {r:List Int},pC jz eC dI = some r→∃ v H',C ⟨sv,nX,sw⟩ eC dI H = some (v,H')∧aP.Q H0 Ri R0  r v H'
def aP.pl29 (F:Nat) :Nat→List Int→Int→Int→Option (List Int)
 | 0,_,_,_=>none
 | k + 1,jz,eC,dI=>(bif (decide (dI < eC)) then ((apn jz ([dI]:List Int)).bind fun l2=>aP.pl29 F k l2 eC (IntKind.i64.wrap (dI + 1))) else (some jz))
termination_by structural n=>n
theorem aP.l29_P {F:Nat} {H0:Hp} {Ri R0:List Rs}  :∀ k,aP.S29 H0 Ri R0  (aP.l29 F   k) (aP.pl29 F  k):=by
 intro k
 induction k with
 | zero=>
  intro sv nX sw jz sx eC dI H BE h0 r hp
  exact nomatch (show (none:Option (List Int)) = some r from hp)
 | succ k ih=>
  intro sv nX sw jz sx eC dI H BE h0 r hp
  obtain ⟨w0,s0,BF⟩:=h0
  subst BE
  unfold aP.pl29 at hp
  unfold aP.l29
  refine bif_ex (fun hb=>?_) (fun hb=>?_)
  ·replace hp:=bif_t hb hp
   refine newS_k (eInt .i64) w0 (n:=1) (l:=([dI]:List Int)) rfl (CR.cons1 rfl CR.empty) rfl fun H1 w1 s1 c1=>?_
   refine bind_ex (w1.rowo (i:=0) rfl) ?_
   obtain ⟨l2,e2,hp⟩:=bind_some' hp
   refine app_k (eInt .i64) w1 (i:=1) rfl rfl (BF.step s1) c1 (show 1 = List.length ([dI]:List Int) from rfl) rfl e2 fun a3 d3 H3 w3 s3 c3 x3=>?_
   dsimp only [List.set] at w3 s3 c3
   obtain ⟨w4,s4⟩:=w3.pick' [1] 2 rfl rfl rfl
   dsimp only [pk,pks,nth,List.drop] at w4 s4
   exact ih rfl ⟨w4,(s0.trans (s1.trans (s3.trans s4))),(c3.step s4)⟩ hp
  ·replace hp:=bif_f hb hp
   obtain rfl:=Option.some.inj hp
   exact ⟨_,_,rfl,_,_,_,_,rfl,rfl,w0,s0,BF⟩
def aP.p (F:Nat) (aa:Int):Option (List Int):=aP.pl29 F F ([]:List Int) aa 0
theorem aP.P {F:Nat} {aa:Int} {H:Hp} {R0:List Rs}  (h0:Inn H R0 fun R=>True) {r:List Int} (hp:aP.p F aa = some r):∃ v H',aP.tw F aa H = some (v,H')∧aP.Q H R0 R0  r v H':=by
 obtain ⟨w0,_⟩:=h0
 unfold aP.p at hp
 unfold aP.tw aP.twX
 have s0:=w0.rf
 obtain ⟨w1,s1⟩:=w0.nilS (eInt .i64).z (by decide)
 exact aP.l29_P F rfl ⟨w1,(s0.trans s1),(CR.empty:CR (eInt .i64) _ _ [] [])⟩ hp
def aG.Q (H0:Hp) (Ri R0:List Rs) (ax:ON) (aq:Nat) (ay:Cap) (nY:Bool) (nZ n_:List AV) (r:List Int) (v:AV) (H':Hp):Prop:=∃ BG:List AV,v = (.tup [])∧aq = (r).length∧Out H0 Ri H' (Rs.ow nY ⟨ax,aq,ay⟩ (eInt .i64).z nZ BG n_ :: R0) fun R=>CR (eInt .i64) H' R BG (r)
def aG.S7 (H0:Hp) (Ri R0:List Rs) (gI:ON) (fR:Nat) (gJ:Cap) (jA:Bool) (jB jC:List AV) (C:Sl→Int→Int→Sl→Int→Int→Hp→OA) (pC:List Int→Int→Int→Int→Int→Option (List Int)):Prop:=∀ {dg:List Int} {sy:List AV} {dc dm dY dd:Int},∀ {H:Hp},fR = dg.length→(Out H0 Ri H (Rs.ow jA ⟨gI,fR,gJ⟩ (eInt .i64).z jB sy jC :: R0) fun R=>CR (eInt .i64) H R sy dg)→∀ {r:List Int},pC dg dc dm dY dd = some r→∃ v H',C ⟨gI,fR,gJ⟩ dc dm ⟨gI,fR,gJ⟩ dY dd H = some (v,H')∧aG.Q H0 Ri R0 gI fR gJ jA jB jC r v H'
def aG.pj2 (F:Nat) (sB:List Int→Int→Int→Int→Int→Option (List Int)) (oa:List Int) (kG:Int) (kH:Int) (kI:Int) (kJ:Int):Option (List Int):=sB oa kG kH kI (IntKind.i64.wrap (kJ + 1))
theorem aG.j2_P {F:Nat} {H0:Hp} {Ri R0:List Rs} {gI:ON} {fR:Nat} {gJ:Cap} {jA:Bool} {jB jC:List AV} {C7_:Sl→Int→Int→Sl→Int→Int→Hp→OA} {sB:List Int→Int→Int→Int→Int→Option (List Int)} (hC7:aG.S7 H0 Ri R0 gI fR gJ jA jB jC C7_ sB) {oa:List Int} {BH:List AV} {kG kH kI kJ:Int} {H:Hp} (HA:fR = oa.length) (h0:Out H0 Ri H (Rs.ow jA ⟨gI,fR,gJ⟩ (eInt .i64).z jB BH jC :: R0) fun R=>CR (eInt .i64) H R BH oa) {r:List Int} (hp:aG.pj2 F sB oa kG kH kI kJ = some r):∃ v H',aG.j2 F  C7_ ⟨gI,fR,gJ⟩ kG kH ⟨gI,fR,gJ⟩ kI kJ H = some (v,H')∧aG.Q H0 Ri R0 gI fR gJ jA jB jC r v H':=by
 obtain ⟨w0,s0,HB⟩:=h0
 subst HA
 unfold aG.pj2 at hp
 unfold aG.j2
 exact hC7 rfl ⟨w0,s0,HB⟩ hp
def aG.pl7 (F:Nat) :Nat→List Int→Int→Int→Int→Int→Option (List Int)
 | 0,_,_,_,_,_=>none
 | k + 1,dg,dc,dm,dY,dd=>(bif (decide (dd < dY)) then ((ix dg dd).bind fun n1=>(bif ((gt dg n1) == dc) then ((ix dg dd).bind fun n2=>(some (dg.set n2 dm)).bind fun l3=>aG.pj2 F (aG.pl7 F k) l3 dc dm dY dd) else (aG.pj2 F (aG.pl7 F k) dg dc dm dY dd))) else (some dg))
termination_by structural n=>n
theorem aG.l7_P {F:Nat} {H0:Hp} {Ri R0:List Rs} {gI:ON} {fR:Nat} {gJ:Cap} {jA:Bool} {jB jC:List AV} :∀ k,aG.S7 H0 Ri R0 gI fR gJ jA jB jC (aG.l7 F   k) (aG.pl7 F  k):=by
 intro k
 induction k with
 | zero=>
  intro dg sy dc dm dY dd H ob h0 r hp
  exact nomatch (show (none:Option (List Int)) = some r from hp)
 | succ k ih=>
  intro dg sy dc dm dY dd H ob h0 r hp
  obtain ⟨w0,s0,jD⟩:=h0
  subst ob
  unfold aG.pl7 at hp
  unfold aG.l7
  refine bif_ex (fun hb=>?_) (fun hb=>?_)
  ·replace hp:=bif_t hb hp
   obtain ⟨n1,g1,hp⟩:=bind_some' hp
   obtain ⟨p1,q1,i1,h1,j1⟩:=W.ixo (E:=(eInt .i64)) w0 (i:=0) rfl rfl jD g1
   refine bind_ex i1 ?_
   have h1:_ = [_]:=h1
   subst h1
   refine bind_ex (ldI_of (j1 0 _ rfl)) ?_
   refine bif_ex (fun hb=>?_) (fun hb=>?_)
   ·replace hp:=bif_t hb hp
    obtain ⟨n2,g2,hp⟩:=bind_some' hp
    obtain ⟨p2,q2,i2,h2,j2⟩:=W.ixo (E:=(eInt .i64)) w0 (i:=0) rfl rfl jD g2
    refine bind_ex i2 ?_
    obtain ⟨l3,e3,hp⟩:=bind_some' hp
    refine sto_k (eInt .i64) w0 (i:=0) (j:=0) (p:=p2) rfl rfl jD g2 i2 e3 rfl rfl (fun _ h=>by have h:_ = [_]:=h; subst h; exact rfl) fun H4 k4 w4 s4 c4=>?_
    dsimp only [List.set] at w4 s4 c4
    exact aG.j2_P (@ih) ((st_len e3).symm) ⟨w4,(s0.trans s4),c4⟩ hp
   ·replace hp:=bif_f hb hp
    exact aG.j2_P (@ih) rfl ⟨w0,s0,jD⟩ hp
  ·replace hp:=bif_f hb hp
   obtain rfl:=Option.some.inj hp
   exact ⟨_,_,rfl,_,rfl,rfl,w0,s0,jD⟩
def aG.p (F:Nat) (ad:List Int) (ag:Int) (bj:Int):Option (List Int):=(ix ad bj).bind fun n1=>(ix ad ag).bind fun n2=>aG.pl7 F F ad (gt ad n1) (gt ad n2) (ad.length:Int) 0
theorem aG.P {F:Nat} {ax:ON} {aq:Nat} {ay:Cap} {ad:List Int} {nY:Bool} {nZ n_ vS:List AV} {ag bj:Int} {H:Hp} {R0:List Rs} (bd:aq = ad.length) (h0:Inn H (Rs.ow nY ⟨ax,aq,ay⟩ (eInt .i64).z nZ vS n_ :: R0) fun R=>CR (eInt .i64) H R vS ad) {r:List Int} (hp:aG.p F ad ag bj = some r):∃ v H',aG.tw F ⟨ax,aq,ay⟩ ag bj H = some (v,H')∧aG.Q H (Rs.ow nY ⟨ax,aq,ay⟩ (eInt .i64).z nZ vS n_ :: R0) R0 ax aq ay nY nZ n_ r v H':=by
 obtain ⟨w0,aM⟩:=h0
 subst bd
 unfold aG.p at hp
 unfold aG.tw aG.twX
 have s0:=w0.rf
 obtain ⟨n1,g1,hp⟩:=bind_some' hp
 obtain ⟨p1,q1,i1,h1,j1⟩:=W.ixo (E:=(eInt .i64)) w0 (i:=0) rfl rfl aM g1
 refine bind_ex i1 ?_
 have h1:_ = [_]:=h1
 subst h1
 refine bind_ex (ldI_of (j1 0 _ rfl)) ?_
 obtain ⟨n2,g2,hp⟩:=bind_some' hp
 obtain ⟨p2,q2,i2,h2,j2⟩:=W.ixo (E:=(eInt .i64)) w0 (i:=0) rfl rfl aM g2
 refine bind_ex i2 ?_
 have h2:_ = [_]:=h2
 subst h2
 refine bind_ex (ldI_of (j2 0 _ rfl)) ?_
 exact aG.l7_P F rfl ⟨w0,s0,aM⟩ hp
def ct.Q (H0:Hp) (Ri R0:List Rs)  (r:List Int) (v:AV) (H':Hp):Prop:=∃ o0a:ON,∃ o0n:Nat,∃ o0c:Cap,∃ o0k:List AV,v = (.sl ⟨o0a,o0n,o0c⟩)∧o0n = (r).length∧Out H0 Ri H' (Rs.own ⟨o0a,o0n,o0c⟩ (eInt .i64).z o0k :: R0) fun R=>CR (eInt .i64) H' R o0k (r)
def ct.p (F:Nat) (ad:List Int):Option (List Int):=(if ad.length ≤ 4294967296∧wfs ad = true then some (nums ad) else none)
theorem ct.P {F:Nat} {ax:ON} {aq:Nat} {ay:Cap} {ad:List Int} {H:Hp} {R0:List Rs} (bd:aq = ad.length) (h0:Inn H R0 fun R=>ROs (eInt .i64) H R ⟨ax,aq,ay⟩ ad) {r:List Int} (hp:ct.p F ad = some r):∃ v H',ct.tw F ⟨ax,aq,ay⟩ H = some (v,H')∧ct.Q H R0 R0  r v H':=by
 obtain ⟨w0,f0⟩:=h0
 subst bd
 unfold ct.p at hp
 unfold ct.tw numTw
 have s0:=w0.rf
 obtain ⟨hc,hp⟩:=ifs_p hp
 have hp:=Option.some.inj hp
 obtain ⟨xs,hx,cx⟩:=f0.row rfl
 refine bind_ex hx ?_
 obtain rfl:=cx.ints_eq
 refine bind_ex (asInts_map _) ?_
 refine ifs_ex hc ?_
 by_cases hz:ad.length = 0
 ·rw [if_pos hz]
  obtain ⟨w1,s1⟩:=w0.nilS (eInt .i64).z (by decide)
  obtain rfl:r = []:=List.length_eq_zero_iff.1 (by rw [← hp,nums_len,hz])
  exact ⟨_,_,rfl,none,0,.ex 0,[],rfl,rfl,w1,s0.trans s1,CR.empty⟩
 ·rw [if_neg hz]
  obtain ⟨H2,e2,w2,s2⟩:=w0.newF ((nums ad).map (AV.int .i64)) ad.length (eInt .i64).z (by rw [List.length_map,nums_len]; exact (Nat.mul_one _).symm) (by decide)
  subst e2
  subst hp
  exact ⟨_,_,rfl,some (_,0),_,.full 1,_,rfl,(nums_len _).symm,w2,s0.trans s2,CR.ints _ _ _ _⟩
def aE.Q (H0:Hp) (Ri R0:List Rs)  (r:List Int) (v:AV) (H':Hp):Prop:=∃ o0a:ON,∃ o0n:Nat,∃ o0c:Cap,∃ o0k:List AV,v = (.sl ⟨o0a,o0n,o0c⟩)∧o0n = (r).length∧Out H0 Ri H' (Rs.own ⟨o0a,o0n,o0c⟩ (eInt .i64).z o0k :: R0) fun R=>CR (eInt .i64) H' R o0k (r)
def aE.S29 (H0:Hp) (Ri R0:List Rs)  (C:Nat→Nat→Sl→Sl→Int→Int→Hp→OA) (pC:List (Int×Int)→List (Int×Int)→List Int→Int→Int→Option (List Int)):Prop:=∀ {oc sC sD:ON} {li od eD oe:Nat} {og sE sF:Cap} {iS iT:List (Int×Int)} {jE:List Int} {sG:List AV} {eE dM:Int},∀ {H:Hp},li = iS.length→od = iT.length→oe = jE.length→(Out H0 Ri H (Rs.blk eD [.sl ⟨oc,li,og⟩,.sl ⟨sC,od,sE⟩] :: Rs.own ⟨sD,oe,sF⟩ (eInt .i64).z sG :: R0) fun R=>ROs (ePair (eInt .i64) (eInt .i64)) H R ⟨oc,li,og⟩ iS∧ROs (ePair (eInt .i64) (eInt .i64)) H R ⟨sC,od,sE⟩ iT∧CR (eInt .i64) H R sG jE)→∀ {r:List Int},pC iS iT jE eE dM = some r→∃ v H',C eD 0 ⟨sD,oe,sF⟩ ⟨oc,li,og⟩ eE dM H = some (v,H')∧aE.Q H0 Ri R0  r v H'
def aE.pl29 (F:Nat) :Nat→List (Int×Int)→List (Int×Int)→List Int→Int→Int→Option (List Int)
 | 0,_,_,_,_,_=>none
 | k + 1,iS,iT,jE,eE,dM=>(bif (decide (dM < eE)) then ((ix iS dM).bind fun n1=>(ix iT dM).bind fun n5=>(aG.p F jE ((gt iS n1).1) ((gt iT n5).1)).bind fun r7=>aE.pl29 F k iS iT r7 eE (IntKind.i64.wrap (dM + 1))) else ((ct.p F jE).bind fun r12=>some r12))
termination_by structural n=>n
theorem aE.l29_P {F:Nat} {H0:Hp} {Ri R0:List Rs}  :∀ k,aE.S29 H0 Ri R0  (aE.l29 F (aX.tw F) (aP.tw F) (aG.tw F) (ct.tw F)  k) (aE.pl29 F  k):=by
 intro k
 induction k with
 | zero=>
  intro oc sC sD li od eD oe og sE sF iS iT jE sG eE dM H BI BJ BK h0 r hp
  exact nomatch (show (none:Option (List Int)) = some r from hp)
 | succ k ih=>
  intro oc sC sD li od eD oe og sE sF iS iT jE sG eE dM H BI BJ BK h0 r hp
  obtain ⟨w0,s0,BL,BM,BN⟩:=h0
  subst BI
  subst BJ
  subst BK
  unfold aE.pl29 at hp
  unfold aE.l29
  refine bif_ex (fun hb=>?_) (fun hb=>?_)
  ·replace hp:=bif_t hb hp
   obtain ⟨n1,g1,hp⟩:=bind_some' hp
   obtain ⟨p1,q1,i1,h1,j1⟩:=ROs.ixr BL rfl g1
   refine bind_ex i1 ?_
   obtain ⟨_,_,rfl,rfl,rfl⟩:=h1
   refine bind_ex (ldI_of (j1 0 _ rfl)) ?_
   refine bind_ex (ldI_of (j1 1 _ rfl)) ?_
   refine new_k w0 fun H2 w2 s2=>?_
   refine st_k w2 (i:=0) rfl rfl rfl fun H3 w3 s3=>?_
   dsimp only [List.set] at w3 s3
   refine st_k w3 (i:=0) rfl rfl rfl fun H4 w4 s4=>?_
   dsimp only [List.set] at w4 s4
   refine bind_ex (ldI_of (w4.ld (i:=0) rfl rfl)) ?_
   refine bind_ex (ldSl_of (w4.ld (i:=1) rfl rfl)) ?_
   obtain ⟨n5,g5,hp⟩:=bind_some' hp
   obtain ⟨p5,q5,i5,h5,j5⟩:=ROs.ixr (BM.step (s2.trans (s3.trans s4))) rfl g5
   refine bind_ex i5 ?_
   obtain ⟨_,_,rfl,rfl,rfl⟩:=h5
   refine bind_ex (ldI_of (j5 0 _ rfl)) ?_
   obtain ⟨w6,s6⟩:=w4.pick' [2,0,1] 3 rfl rfl rfl
   dsimp only [pk,pks,nth,List.drop] at w6 s6
   obtain ⟨r7,e7,hp⟩:=bind_some' hp
   refine call_ex (aG.P rfl ⟨w6,(BN.step (s2.trans (s3.trans (s4.trans s6))))⟩ e7) ?_
   rintro _ H8 ⟨In,rfl,hl8_0,w8,s8,f8_0⟩
   obtain ⟨w9,s9⟩:=w8.pick' [2,0] 3 rfl rfl rfl
   dsimp only [pk,pks,nth,List.drop] at w9 s9
   exact ih rfl rfl hl8_0 ⟨w9,(s0.trans (s2.trans (s3.trans (s4.trans (s6.trans (s8.trans s9)))))),(BL.step (s2.trans (s3.trans (s4.trans (s6.trans (s8.trans s9)))))),(BM.step (s2.trans (s3.trans (s4.trans (s6.trans (s8.trans s9)))))),(f8_0.step s9)⟩ hp
  ·replace hp:=bif_f hb hp
   obtain ⟨w10,s10⟩:=w0.pick' [1,0] 2 rfl rfl rfl
   dsimp only [pk,pks,nth,List.drop] at w10 s10
   have f11:=W.borrow1 (eInt .i64) w10 (BN.step s10)
   obtain ⟨w11,s11⟩:=w10.right1
   obtain ⟨r12,e12,hp⟩:=bind_some' hp
   refine call_ex (ct.P rfl ⟨w11,f11⟩ e12) ?_
   rintro _ H13 ⟨o0a_13,o0n_13,o0c_13,o0k_13,rfl,rfl,w13,s13,f13_0⟩
   obtain ⟨w14,s14⟩:=W.frame1 w10 w13 s13
   refine bind_ex rfl ?_
   obtain ⟨w15,s15⟩:=w14.pick' [1] 3 rfl rfl rfl
   dsimp only [pk,pks,nth,List.drop] at w15 s15
   obtain rfl:=Option.some.inj hp
   exact ⟨_,_,rfl,_,_,_,_,rfl,rfl,w15,(s0.trans (s10.trans (s14.trans s15))),((CR.flat (eInt_flat .i64) f13_0).step s15)⟩
def aE.p (F:Nat) (ad:List (Int×Int×Int×Int×Int)) (bP:List (Int×Int)) (bW:List (Int×Int)):Option (List Int):=(aX.p F ad).bind fun r3=>(aP.p F r3).bind fun r5=>aE.pl29 F F bP bW r5 (bP.length:Int) 0
theorem aE.P {F:Nat} {ax eo fh:ON} {aq cM dr:Nat} {ay ep fi:Cap} {ad:List (Int×Int×Int×Int×Int)} {ab:Int} {bP bW:List (Int×Int)} {H:Hp} {R0:List Rs} (bd:aq = ad.length) (gp:cM = bP.length) (ie:dr = bW.length) (h0:Inn H R0 fun R=>ROs (ePair (eInt .i64) (ePair (eInt .i64) (ePair (eInt .i64) (ePair (eInt .i64) (eInt .i64))))) H R ⟨ax,aq,ay⟩ ad∧ROs (ePair (eInt .i64) (eInt .i64)) H R ⟨eo,cM,ep⟩ bP∧ROs (ePair (eInt .i64) (eInt .i64)) H R ⟨fh,dr,fi⟩ bW) {r:List Int} (hp:aE.p F ad bP bW = some r):∃ v H',aE.tw F ⟨ax,aq,ay⟩ ab ⟨eo,cM,ep⟩ ⟨fh,dr,fi⟩ H = some (v,H')∧aE.Q H R0 R0  r v H':=by
 obtain ⟨w0,aM,fu,fQ⟩:=h0
 subst bd
 subst gp
 subst ie
 unfold aE.p at hp
 unfold aE.tw aE.twX
 have s0:=w0.rf
 refine new_k w0 fun H1 w1 s1=>?_
 refine new_k w1 fun H2 w2 s2=>?_
 refine bind_ex (ldSl_of (w2.ld (i:=1) rfl rfl)) ?_
 obtain ⟨r3,e3,hp⟩:=bind_some' hp
 refine call_ex (aX.P rfl ⟨w2,(aM.step (s1.trans s2))⟩ e3) ?_
 rintro _ H4 ⟨rfl,w4,s4,_⟩
 refine bind_ex rfl ?_
 obtain ⟨r5,e5,hp⟩:=bind_some' hp
 refine call_ex (aP.P ⟨w4,trivial⟩ e5) ?_
 rintro _ H6 ⟨o0a_6,o0n_6,o0c_6,o0k_6,rfl,rfl,w6,s6,f6_0⟩
 refine bind_ex rfl ?_
 refine bind_ex (ldSl_of (w6.ld (i:=1) rfl rfl)) ?_
 obtain ⟨w7,s7⟩:=w6.pick' [1,0] 3 rfl rfl rfl
 dsimp only [pk,pks,nth,List.drop] at w7 s7
 exact aE.l29_P F rfl rfl rfl ⟨w7,(s0.trans (s1.trans (s2.trans (s4.trans (s6.trans s7))))),(fu.step (s1.trans (s2.trans (s4.trans (s6.trans s7))))),(fQ.step (s1.trans (s2.trans (s4.trans (s6.trans s7))))),(f6_0.step s7)⟩ hp
def aJ.Q (H0:Hp) (Ri R0:List Rs)  (r:Int) (v:AV) (H':Hp):Prop:=v = (.int .i64 r)∧Out H0 Ri H' (R0) fun R=>True
def aJ.S61 (H0:Hp) (Ri R0:List Rs)  (C:Sl→Int→Int→Hp→OA) (pC:List Int→Int→Int→Option (Int)):Prop:=∀ {sH:ON} {oh:Nat} {sI:Cap} {dg:List Int} {cm eh:Int},∀ {H:Hp},oh = dg.length→(Out H0 Ri H R0 fun R=>ROs (eInt .i64) H R ⟨sH,oh,sI⟩ dg)→∀ {r:Int},pC dg cm eh = some r→∃ v H',C ⟨sH,oh,sI⟩ cm eh H = some (v,H')∧aJ.Q H0 Ri R0  r v H'
def aJ.pl61 (F:Nat) :Nat→List Int→Int→Int→Option (Int)
 | 0,_,_,_=>none
 | k + 1,dg,cm,eh=>(bif (decide (eh < (dg.length:Int))) then ((ix dg eh).bind fun n1=>aJ.pl61 F k dg (if (gt dg n1) > cm then (gt dg n1) else cm) (IntKind.i64.wrap (eh + 1))) else (some cm))
termination_by structural n=>n
theorem aJ.l61_P {F:Nat} {H0:Hp} {Ri R0:List Rs}  :∀ k,aJ.S61 H0 Ri R0  (aJ.l61 F   k) (aJ.pl61 F  k):=by
 intro k
 induction k with
 | zero=>
  intro sH oh sI dg cm eh H ob h0 r hp
  exact nomatch (show (none:Option (Int)) = some r from hp)
 | succ k ih=>
  intro sH oh sI dg cm eh H ob h0 r hp
  obtain ⟨w0,s0,jD⟩:=h0
  subst ob
  unfold aJ.pl61 at hp
  unfold aJ.l61
  refine bif_ex (fun hb=>?_) (fun hb=>?_)
  ·replace hp:=bif_t hb hp
   obtain ⟨n1,g1,hp⟩:=bind_some' hp
   obtain ⟨p1,q1,i1,h1,j1⟩:=ROs.ixr jD rfl g1
   refine bind_ex i1 ?_
   have h1:_ = [_]:=h1
   subst h1
   refine bind_ex (ldI_of (j1 0 _ rfl)) ?_
   exact ih rfl ⟨w0,s0,jD⟩ hp
  ·replace hp:=bif_f hb hp
   obtain rfl:=Option.some.inj hp
   exact ⟨_,_,rfl,rfl,w0,s0,trivial⟩
def aJ.pj1 (F:Nat)  (jV:List Int):Option (Int):=(ix jV 0).bind fun n1=>aJ.pl61 F F jV (gt jV n1) 1
theorem aJ.j1_P {F:Nat} {H0:Hp} {Ri R0:List Rs}   {BO:ON} {vT:Nat} {BP:Cap} {jV:List Int} {H:Hp} (HC:vT = jV.length) (h0:Out H0 Ri H R0 fun R=>ROs (eInt .i64) H R ⟨BO,vT,BP⟩ jV) {r:Int} (hp:aJ.pj1 F  jV = some r):∃ v H',aJ.j1 F   ⟨BO,vT,BP⟩ H = some (v,H')∧aJ.Q H0 Ri R0  r v H':=by
 obtain ⟨w0,s0,BQ⟩:=h0
 subst HC
 unfold aJ.pj1 at hp
 unfold aJ.j1
 obtain ⟨n1,g1,hp⟩:=bind_some' hp
 obtain ⟨p1,q1,i1,h1,j1⟩:=ROs.ixr BQ rfl g1
 refine bind_ex i1 ?_
 have h1:_ = [_]:=h1
 subst h1
 refine bind_ex (ldI_of (j1 0 _ rfl)) ?_
 exact aJ.l61_P F rfl ⟨w0,s0,BQ⟩ hp
def aJ.p (F:Nat) (ad:List Int):Option (Int):=(bif (decide ((ad.length:Int) < 1)) then (none) else (aJ.pj1 F ad))
theorem aJ.P {F:Nat} {ax:ON} {aq:Nat} {ay:Cap} {ad:List Int} {H:Hp} {R0:List Rs} (bd:aq = ad.length) (h0:Inn H R0 fun R=>ROs (eInt .i64) H R ⟨ax,aq,ay⟩ ad) {r:Int} (hp:aJ.p F ad = some r):∃ v H',aJ.tw F ⟨ax,aq,ay⟩ H = some (v,H')∧aJ.Q H R0 R0  r v H':=by
 obtain ⟨w0,aM⟩:=h0
 subst bd
 unfold aJ.p at hp
 unfold aJ.tw aJ.twX
 have s0:=w0.rf
 refine bif_ex (fun hb=>?_) (fun hb=>?_)
 ·replace hp:=bif_t hb hp
  cases hp
 ·replace hp:=bif_f hb hp
  exact aJ.j1_P rfl ⟨w0,s0,aM⟩ hp
def ba.Q (H0:Hp) (Ri R0:List Rs)  (r:Int) (v:AV) (H':Hp):Prop:=v = (.int .i64 r)∧Out H0 Ri H' (R0) fun R=>True
def ba.p (F:Nat) (ad:List Int):Option (Int):=(bif ((ad.length:Int) == 0) then (some 0) else ((aJ.p F ad).bind fun r1=>some (IntKind.i64.wrap (r1 + 1))))
theorem ba.P {F:Nat} {ax:ON} {aq:Nat} {ay:Cap} {ad:List Int} {H:Hp} {R0:List Rs} (bd:aq = ad.length) (h0:Inn H R0 fun R=>ROs (eInt .i64) H R ⟨ax,aq,ay⟩ ad) {r:Int} (hp:ba.p F ad = some r):∃ v H',ba.tw F ⟨ax,aq,ay⟩ H = some (v,H')∧ba.Q H R0 R0  r v H':=by
 obtain ⟨w0,aM⟩:=h0
 subst bd
 unfold ba.p at hp
 unfold ba.tw ba.twX
 have s0:=w0.rf
 refine bif_ex (fun hb=>?_) (fun hb=>?_)
 ·replace hp:=bif_t hb hp
  obtain rfl:=Option.some.inj hp
  exact ⟨_,_,rfl,rfl,w0,s0,trivial⟩
 ·replace hp:=bif_f hb hp
  obtain ⟨r1,e1,hp⟩:=bind_some' hp
  refine call_ex (aJ.P rfl ⟨w0,aM⟩ e1) ?_
  rintro _ H2 ⟨rfl,w2,s2,_⟩
  refine bind_ex rfl ?_
  obtain rfl:=Option.some.inj hp
  exact ⟨_,_,rfl,rfl,w2,(s0.trans s2),trivial⟩
def bn.Q (H0:Hp) (Ri R0:List Rs)  (r:(List (Int×Int))×(List (Int×Int))×Bool) (v:AV) (H':Hp):Prop:=∃ o0a:ON,∃ o0n:Nat,∃ o0c:Cap,∃ o1a:ON,∃ o1n:Nat,∃ o1c:Cap,v = (.tup [(.agg [(.sl ⟨o0a,o0n,o0c⟩),(.sl ⟨o1a,o1n,o1c⟩)]),(.bool r.2.2)])∧o0n = (r.1).length∧o1n = (r.2.1).length∧Out H0 Ri H' (R0) fun R=>ROs (ePair (eInt .i64) (eInt .i64)) H' R ⟨o0a,o0n,o0c⟩ (r.1)∧ROs (ePair (eInt .i64) (eInt .i64)) H' R ⟨o1a,o1n,o1c⟩ (r.2.1)
def bn.p (F:Nat) (ad:List (Int×Int×Int×Int×Int)) (ab:Int):Option ((List (Int×Int))×(List (Int×Int))×Bool):=(aX.p F ad).bind fun r3=>(bif (decide (r3 > 10)) then (some (([]:List (Int×Int)),([]:List (Int×Int)),false)) else ((a_.p F ab 0 8).bind fun r12=>(bif (!r12) then (some (([]:List (Int×Int)),([]:List (Int×Int)),false)) else ((bx.p F ad).bind fun r21=>(bif r21 then (some (([]:List (Int×Int)),([]:List (Int×Int)),false)) else ((aw.p F ad).bind fun r30=>(bif (!r30.2.2) then (some (([]:List (Int×Int)),([]:List (Int×Int)),false)) else ((aj.p F ad r30.1 r30.2.1).bind fun r44=>(bJ.p F r44).bind fun r48=>(aE.p F ad r30.1 r30.2.1).bind fun r52=>(ba.p F r52).bind fun r55=>(bif (r48 != (IntKind.i64.wrap (r3 + (IntKind.i64.wrap (2 * r55))))) then (some (([]:List (Int×Int)),([]:List (Int×Int)),false)) else (some (r30.1,r30.2.1,true)))))))))))
theorem bn.P {F:Nat} {ax:ON} {aq:Nat} {ay:Cap} {ad:List (Int×Int×Int×Int×Int)} {ab:Int} {H:Hp} {R0:List Rs} (bd:aq = ad.length) (h0:Inn H R0 fun R=>ROs (ePair (eInt .i64) (ePair (eInt .i64) (ePair (eInt .i64) (ePair (eInt .i64) (eInt .i64))))) H R ⟨ax,aq,ay⟩ ad) {r:(List (Int×Int))×(List (Int×Int))×Bool} (hp:bn.p F ad ab = some r):∃ v H',bn.tw F ⟨ax,aq,ay⟩ ab H = some (v,H')∧bn.Q H R0 R0  r v H':=by
 obtain ⟨w0,aM⟩:=h0
 subst bd
 unfold bn.p at hp
 unfold bn.tw bn.twX
 have s0:=w0.rf
 refine new_k w0 fun H1 w1 s1=>?_
 refine new_k w1 fun H2 w2 s2=>?_
 refine bind_ex (ldSl_of (w2.ld (i:=1) rfl rfl)) ?_
 obtain ⟨r3,e3,hp⟩:=bind_some' hp
 refine call_ex (aX.P rfl ⟨w2,(aM.step (s1.trans s2))⟩ e3) ?_
 rintro _ H4 ⟨rfl,w4,s4,_⟩
 refine bind_ex rfl ?_
 refine bif_ex (fun hb=>?_) (fun hb=>?_)
 ·replace hp:=bif_t hb hp
  refine st_k w4 (i:=0) rfl rfl rfl fun H5 w5 s5=>?_
  dsimp only [List.set] at w5 s5
  refine st_k w5 (i:=0) rfl rfl rfl fun H6 w6 s6=>?_
  dsimp only [List.set] at w6 s6
  refine bind_ex (ldSl_of (w6.ld (i:=0) rfl rfl)) ?_
  refine bind_ex (ldSl_of (w6.ld (i:=0) rfl rfl)) ?_
  obtain ⟨w7,s7⟩:=w6.nilS (ePair (eInt .i64) (eInt .i64)).z (by decide)
  obtain ⟨w8,s8⟩:=w7.nilS (ePair (eInt .i64) (eInt .i64)).z (by decide)
  obtain ⟨w9,s9,f9⟩:=w8.frz (i:=1) (ePair (eInt .i64) (eInt .i64)) rfl ((CR.empty:CR (ePair (eInt .i64) (eInt .i64)) _ _ [] []).step s8)
  dsimp only [List.eraseIdx] at w9 s9 f9
  obtain ⟨w10,s10,f10⟩:=w9.frz (i:=0) (ePair (eInt .i64) (eInt .i64)) rfl ((CR.empty:CR (ePair (eInt .i64) (eInt .i64)) _ _ [] []).step s9)
  dsimp only [List.eraseIdx] at w10 s10 f10
  obtain ⟨w11,s11⟩:=w10.pick' [] 2 rfl rfl rfl
  dsimp only [pk,pks,nth,List.drop] at w11 s11
  obtain rfl:=Option.some.inj hp
  exact ⟨_,_,rfl,_,_,_,_,_,_,rfl,rfl,rfl,w11,(s0.trans (s1.trans (s2.trans (s4.trans (s5.trans (s6.trans (s7.trans (s8.trans (s9.trans (s10.trans s11)))))))))),(f9.step (s10.trans s11)),(f10.step s11)⟩
 ·replace hp:=bif_f hb hp
  refine bind_ex (ldI_of (w4.ld (i:=1) rfl rfl)) ?_
  obtain ⟨r12,e12,hp⟩:=bind_some' hp
  refine call_ex (a_.P ⟨w4,trivial⟩ e12) ?_
  rintro _ H13 ⟨rfl,w13,s13,_⟩
  refine bind_ex rfl ?_
  refine bif_ex (fun hb=>?_) (fun hb=>?_)
  ·replace hp:=bif_t hb hp
   refine st_k w13 (i:=0) rfl rfl rfl fun H14 w14 s14=>?_
   dsimp only [List.set] at w14 s14
   refine st_k w14 (i:=0) rfl rfl rfl fun H15 w15 s15=>?_
   dsimp only [List.set] at w15 s15
   refine bind_ex (ldSl_of (w15.ld (i:=0) rfl rfl)) ?_
   refine bind_ex (ldSl_of (w15.ld (i:=0) rfl rfl)) ?_
   obtain ⟨w16,s16⟩:=w15.nilS (ePair (eInt .i64) (eInt .i64)).z (by decide)
   obtain ⟨w17,s17⟩:=w16.nilS (ePair (eInt .i64) (eInt .i64)).z (by decide)
   obtain ⟨w18,s18,f18⟩:=w17.frz (i:=1) (ePair (eInt .i64) (eInt .i64)) rfl ((CR.empty:CR (ePair (eInt .i64) (eInt .i64)) _ _ [] []).step s17)
   dsimp only [List.eraseIdx] at w18 s18 f18
   obtain ⟨w19,s19,f19⟩:=w18.frz (i:=0) (ePair (eInt .i64) (eInt .i64)) rfl ((CR.empty:CR (ePair (eInt .i64) (eInt .i64)) _ _ [] []).step s18)
   dsimp only [List.eraseIdx] at w19 s19 f19
   obtain ⟨w20,s20⟩:=w19.pick' [] 2 rfl rfl rfl
   dsimp only [pk,pks,nth,List.drop] at w20 s20
   obtain rfl:=Option.some.inj hp
   exact ⟨_,_,rfl,_,_,_,_,_,_,rfl,rfl,rfl,w20,(s0.trans (s1.trans (s2.trans (s4.trans (s13.trans (s14.trans (s15.trans (s16.trans (s17.trans (s18.trans (s19.trans s20))))))))))),(f18.step (s19.trans s20)),(f19.step s20)⟩
  ·replace hp:=bif_f hb hp
   refine bind_ex (ldSl_of (w13.ld (i:=1) rfl rfl)) ?_
   obtain ⟨r21,e21,hp⟩:=bind_some' hp
   refine call_ex (bx.P rfl ⟨w13,(aM.step (s1.trans (s2.trans (s4.trans s13))))⟩ e21) ?_
   rintro _ H22 ⟨rfl,w22,s22,_⟩
   refine bind_ex rfl ?_
   refine bif_ex (fun hb=>?_) (fun hb=>?_)
   ·replace hp:=bif_t hb hp
    refine st_k w22 (i:=0) rfl rfl rfl fun H23 w23 s23=>?_
    dsimp only [List.set] at w23 s23
    refine st_k w23 (i:=0) rfl rfl rfl fun H24 w24 s24=>?_
    dsimp only [List.set] at w24 s24
    refine bind_ex (ldSl_of (w24.ld (i:=0) rfl rfl)) ?_
    refine bind_ex (ldSl_of (w24.ld (i:=0) rfl rfl)) ?_
    obtain ⟨w25,s25⟩:=w24.nilS (ePair (eInt .i64) (eInt .i64)).z (by decide)
    obtain ⟨w26,s26⟩:=w25.nilS (ePair (eInt .i64) (eInt .i64)).z (by decide)
    obtain ⟨w27,s27,f27⟩:=w26.frz (i:=1) (ePair (eInt .i64) (eInt .i64)) rfl ((CR.empty:CR (ePair (eInt .i64) (eInt .i64)) _ _ [] []).step s26)
    dsimp only [List.eraseIdx] at w27 s27 f27
    obtain ⟨w28,s28,f28⟩:=w27.frz (i:=0) (ePair (eInt .i64) (eInt .i64)) rfl ((CR.empty:CR (ePair (eInt .i64) (eInt .i64)) _ _ [] []).step s27)
    dsimp only [List.eraseIdx] at w28 s28 f28
    obtain ⟨w29,s29⟩:=w28.pick' [] 2 rfl rfl rfl
    dsimp only [pk,pks,nth,List.drop] at w29 s29
    obtain rfl:=Option.some.inj hp
    exact ⟨_,_,rfl,_,_,_,_,_,_,rfl,rfl,rfl,w29,(s0.trans (s1.trans (s2.trans (s4.trans (s13.trans (s22.trans (s23.trans (s24.trans (s25.trans (s26.trans (s27.trans (s28.trans s29)))))))))))),(f27.step (s28.trans s29)),(f28.step s29)⟩
   ·replace hp:=bif_f hb hp
    refine bind_ex (ldSl_of (w22.ld (i:=1) rfl rfl)) ?_
    refine bind_ex (ldI_of (w22.ld (i:=1) rfl rfl)) ?_
    obtain ⟨r30,e30,hp⟩:=bind_some' hp
    refine call_ex (aw.P rfl ⟨w22,(aM.step (s1.trans (s2.trans (s4.trans (s13.trans s22)))))⟩ e30) ?_
    rintro _ H31 ⟨o0a_31,o0n_31,o0c_31,o0k_31,o1a_31,o1n_31,o1c_31,o1k_31,rfl,rfl,rfl,w31,s31,f31_0,f31_1⟩
    refine bind_ex rfl ?_
    refine bind_ex rfl ?_
    refine bind_ex rfl ?_
    refine bind_ex rfl ?_
    refine bind_ex rfl ?_
    refine bind_ex rfl ?_
    refine bind_ex rfl ?_
    refine bind_ex rfl ?_
    refine bind_ex rfl ?_
    refine new_k w31 fun H32 w32 s32=>?_
    refine st_k w32 (i:=0) rfl rfl rfl fun H33 w33 s33=>?_
    dsimp only [List.set] at w33 s33
    refine st_k w33 (i:=0) rfl rfl rfl fun H34 w34 s34=>?_
    dsimp only [List.set] at w34 s34
    refine bif_ex (fun hb=>?_) (fun hb=>?_)
    ·replace hp:=bif_t hb hp
     refine st_k w34 (i:=3) rfl rfl rfl fun H35 w35 s35=>?_
     dsimp only [List.set] at w35 s35
     refine st_k w35 (i:=3) rfl rfl rfl fun H36 w36 s36=>?_
     dsimp only [List.set] at w36 s36
     refine bind_ex (ldSl_of (w36.ld (i:=3) rfl rfl)) ?_
     refine bind_ex (ldSl_of (w36.ld (i:=3) rfl rfl)) ?_
     obtain ⟨w37,s37⟩:=w36.nilS (ePair (eInt .i64) (eInt .i64)).z (by decide)
     obtain ⟨w38,s38⟩:=w37.nilS (ePair (eInt .i64) (eInt .i64)).z (by decide)
     obtain ⟨w39,s39,f39⟩:=w38.frz (i:=1) (ePair (eInt .i64) (eInt .i64)) rfl ((CR.empty:CR (ePair (eInt .i64) (eInt .i64)) _ _ [] []).step s38)
     dsimp only [List.eraseIdx] at w39 s39 f39
     obtain ⟨w40,s40,f40⟩:=w39.frz (i:=0) (ePair (eInt .i64) (eInt .i64)) rfl ((CR.empty:CR (ePair (eInt .i64) (eInt .i64)) _ _ [] []).step s39)
     dsimp only [List.eraseIdx] at w40 s40 f40
     obtain ⟨w41,s41⟩:=w40.pick' [] 5 rfl rfl rfl
     dsimp only [pk,pks,nth,List.drop] at w41 s41
     obtain rfl:=Option.some.inj hp
     exact ⟨_,_,rfl,_,_,_,_,_,_,rfl,rfl,rfl,w41,(s0.trans (s1.trans (s2.trans (s4.trans (s13.trans (s22.trans (s31.trans (s32.trans (s33.trans (s34.trans (s35.trans (s36.trans (s37.trans (s38.trans (s39.trans (s40.trans s41)))))))))))))))),(f39.step (s40.trans s41)),(f40.step s41)⟩
    ·replace hp:=bif_f hb hp
     refine bind_ex (ldSl_of (w34.ld (i:=4) rfl rfl)) ?_
     refine bind_ex (ldI_of (w34.ld (i:=4) rfl rfl)) ?_
     refine bind_ex (ldSl_of (w34.ld (i:=0) rfl rfl)) ?_
     refine bind_ex (ldSl_of (w34.ld (i:=0) rfl rfl)) ?_
     obtain ⟨w42,s42,f42⟩:=w34.frz (i:=1) (ePair (eInt .i64) (eInt .i64)) rfl (f31_0.step (s32.trans (s33.trans s34)))
     dsimp only [List.eraseIdx] at w42 s42 f42
     obtain ⟨w43,s43,f43⟩:=w42.frz (i:=1) (ePair (eInt .i64) (eInt .i64)) rfl (f31_1.step (s32.trans (s33.trans (s34.trans s42))))
     dsimp only [List.eraseIdx] at w43 s43 f43
     obtain ⟨r44,e44,hp⟩:=bind_some' hp
     refine call_ex (aj.P rfl rfl rfl ⟨w43,(aM.step (s1.trans (s2.trans (s4.trans (s13.trans (s22.trans (s31.trans (s32.trans (s33.trans (s34.trans (s42.trans s43))))))))))),(f42.step s43),f43⟩ e44) ?_
     rintro _ H45 ⟨o0a_45,o0n_45,o0c_45,o0k_45,rfl,rfl,w45,s45,f45_0⟩
     refine bind_ex rfl ?_
     refine ifs_ex (Cons.tr (Cons.refl _) s42 (Cons.tr (Cons.refl _) s43 (W.cons_of (Rn:=[_]) w43 w45 s45))) ?_
     have f47:=W.borrow1 (eSl (eInt .i64)) w45 f45_0
     obtain ⟨w47,s47⟩:=w45.right1
     obtain ⟨r48,e48,hp⟩:=bind_some' hp
     refine call_ex (bJ.P rfl ⟨w47,f47⟩ e48) ?_
     rintro _ H49 ⟨rfl,w49,s49,_⟩
     obtain ⟨w50,s50⟩:=W.frame1 w45 w49 s49
     refine bind_ex rfl ?_
     refine ifs_ex (W.cons_of (Rn:=[]) w47 w49 s49) ?_
     refine bind_ex (ldSl_of (w50.ld (i:=3) rfl rfl)) ?_
     refine bind_ex (ldI_of (w50.ld (i:=3) rfl rfl)) ?_
     refine bind_ex (ldSl_of (w50.ld (i:=1) rfl rfl)) ?_
     refine bind_ex (ldSl_of (w50.ld (i:=1) rfl rfl)) ?_
     obtain ⟨r52,e52,hp⟩:=bind_some' hp
     refine call_ex (aE.P rfl rfl rfl ⟨w50,(aM.step (s1.trans (s2.trans (s4.trans (s13.trans (s22.trans (s31.trans (s32.trans (s33.trans (s34.trans (s42.trans (s43.trans (s45.trans s50))))))))))))),(f42.step (s43.trans (s45.trans s50))),(f43.step (s45.trans s50))⟩ e52) ?_
     rintro _ H53 ⟨o0a_53,o0n_53,o0c_53,o0k_53,rfl,rfl,w53,s53,f53_0⟩
     refine bind_ex rfl ?_
     have f54:=W.borrow1 (eInt .i64) w53 f53_0
     obtain ⟨w54,s54⟩:=w53.right1
     obtain ⟨r55,e55,hp⟩:=bind_some' hp
     refine call_ex (ba.P rfl ⟨w54,f54⟩ e55) ?_
     rintro _ H56 ⟨rfl,w56,s56,_⟩
     obtain ⟨w57,s57⟩:=W.frame1 w53 w56 s56
     refine bind_ex rfl ?_
     refine bif_ex (fun hb=>?_) (fun hb=>?_)
     ·replace hp:=bif_t hb hp
      refine st_k w57 (i:=3) rfl rfl rfl fun H58 w58 s58=>?_
      dsimp only [List.set] at w58 s58
      refine st_k w58 (i:=3) rfl rfl rfl fun H59 w59 s59=>?_
      dsimp only [List.set] at w59 s59
      refine bind_ex (ldSl_of (w59.ld (i:=3) rfl rfl)) ?_
      refine bind_ex (ldSl_of (w59.ld (i:=3) rfl rfl)) ?_
      obtain ⟨w60,s60⟩:=w59.nilS (ePair (eInt .i64) (eInt .i64)).z (by decide)
      obtain ⟨w61,s61⟩:=w60.nilS (ePair (eInt .i64) (eInt .i64)).z (by decide)
      obtain ⟨w62,s62,f62⟩:=w61.frz (i:=1) (ePair (eInt .i64) (eInt .i64)) rfl ((CR.empty:CR (ePair (eInt .i64) (eInt .i64)) _ _ [] []).step s61)
      dsimp only [List.eraseIdx] at w62 s62 f62
      obtain ⟨w63,s63,f63⟩:=w62.frz (i:=0) (ePair (eInt .i64) (eInt .i64)) rfl ((CR.empty:CR (ePair (eInt .i64) (eInt .i64)) _ _ [] []).step s62)
      dsimp only [List.eraseIdx] at w63 s63 f63
      obtain ⟨w64,s64⟩:=w63.pick' [] 5 rfl rfl rfl
      dsimp only [pk,pks,nth,List.drop] at w64 s64
      obtain rfl:=Option.some.inj hp
      exact ⟨_,_,rfl,_,_,_,_,_,_,rfl,rfl,rfl,w64,(s0.trans (s1.trans (s2.trans (s4.trans (s13.trans (s22.trans (s31.trans (s32.trans (s33.trans (s34.trans (s42.trans (s43.trans (s45.trans (s50.trans (s53.trans (s57.trans (s58.trans (s59.trans (s60.trans (s61.trans (s62.trans (s63.trans s64)))))))))))))))))))))),(f62.step (s63.trans s64)),(f63.step s64)⟩
     ·replace hp:=bif_f hb hp
      refine bind_ex (ldSl_of (w57.ld (i:=2) rfl rfl)) ?_
      refine bind_ex (ldSl_of (w57.ld (i:=2) rfl rfl)) ?_
      refine st_k w57 (i:=3) rfl rfl rfl fun H65 w65 s65=>?_
      dsimp only [List.set] at w65 s65
      refine st_k w65 (i:=3) rfl rfl rfl fun H66 w66 s66=>?_
      dsimp only [List.set] at w66 s66
      refine bind_ex (ldSl_of (w66.ld (i:=3) rfl rfl)) ?_
      refine bind_ex (ldSl_of (w66.ld (i:=3) rfl rfl)) ?_
      obtain ⟨w67,s67⟩:=w66.pick' [] 5 rfl rfl rfl
      dsimp only [pk,pks,nth,List.drop] at w67 s67
      obtain rfl:=Option.some.inj hp
      exact ⟨_,_,rfl,_,_,_,_,_,_,rfl,rfl,rfl,w67,(s0.trans (s1.trans (s2.trans (s4.trans (s13.trans (s22.trans (s31.trans (s32.trans (s33.trans (s34.trans (s42.trans (s43.trans (s45.trans (s50.trans (s53.trans (s57.trans (s65.trans (s66.trans s67)))))))))))))))))),(f42.step (s43.trans (s45.trans (s50.trans (s53.trans (s57.trans (s65.trans (s66.trans s67)))))))),(f43.step (s45.trans (s50.trans (s53.trans (s57.trans (s65.trans (s66.trans s67)))))))⟩
def bE.Q (H0:Hp) (Ri R0:List Rs)  (r:Bool) (v:AV) (H':Hp):Prop:=v = (.bool r)∧Out H0 Ri H' (R0) fun R=>True
def bE.p (F:Nat) (ad:List (Int×Int×Int×Int×Int)) (ag:Int):Option (Bool):=(aX.p F ad).bind fun r1=>(a_.p F ag 0 (IntKind.i64.wrap (r1 - 1))).bind fun r3=>some r3
theorem bE.P {F:Nat} {ax:ON} {aq:Nat} {ay:Cap} {ad:List (Int×Int×Int×Int×Int)} {ag:Int} {H:Hp} {R0:List Rs} (bd:aq = ad.length) (h0:Inn H R0 fun R=>ROs (ePair (eInt .i64) (ePair (eInt .i64) (ePair (eInt .i64) (ePair (eInt .i64) (eInt .i64))))) H R ⟨ax,aq,ay⟩ ad) {r:Bool} (hp:bE.p F ad ag = some r):∃ v H',bE.tw F ⟨ax,aq,ay⟩ ag H = some (v,H')∧bE.Q H R0 R0  r v H':=by
 obtain ⟨w0,aM⟩:=h0
 subst bd
 unfold bE.p at hp
 unfold bE.tw bE.twX
 have s0:=w0.rf
 obtain ⟨r1,e1,hp⟩:=bind_some' hp
 refine call_ex (aX.P rfl ⟨w0,aM⟩ e1) ?_
 rintro _ H2 ⟨rfl,w2,s2,_⟩
 refine bind_ex rfl ?_
 obtain ⟨r3,e3,hp⟩:=bind_some' hp
 refine call_ex (a_.P ⟨w2,trivial⟩ e3) ?_
 rintro _ H4 ⟨rfl,w4,s4,_⟩
 refine bind_ex rfl ?_
 obtain rfl:=Option.some.inj hp
 exact ⟨_,_,rfl,rfl,w4,(s0.trans (s2.trans s4)),trivial⟩
def bF.Q (H0:Hp) (Ri R0:List Rs)  (r:Bool) (v:AV) (H':Hp):Prop:=v = (.bool r)∧Out H0 Ri H' (R0) fun R=>True
def bF.p (F:Nat) (aa:Int):Option (Bool):=(bif (aa == 0) then (some true) else (some (aa == 1)))
theorem bF.P {F:Nat} {aa:Int} {H:Hp} {R0:List Rs}  (h0:Inn H R0 fun R=>True) {r:Bool} (hp:bF.p F aa = some r):∃ v H',bF.tw F aa H = some (v,H')∧bF.Q H R0 R0  r v H':=by
 obtain ⟨w0,_⟩:=h0
 unfold bF.p at hp
 unfold bF.tw bF.twX
 have s0:=w0.rf
 refine bif_ex (fun hb=>?_) (fun hb=>?_)
 ·replace hp:=bif_t hb hp
  obtain rfl:=Option.some.inj hp
  exact ⟨_,_,rfl,rfl,w0,s0,trivial⟩
 ·replace hp:=bif_f hb hp
  obtain rfl:=Option.some.inj hp
  exact ⟨_,_,rfl,rfl,w0,s0,trivial⟩
def ap.Q (H0:Hp) (Ri R0:List Rs)  (r:List Int) (v:AV) (H':Hp):Prop:=∃ o0a:ON,∃ o0n:Nat,∃ o0c:Cap,∃ o0k:List AV,v = (.sl ⟨o0a,o0n,o0c⟩)∧o0n = (r).length∧Out H0 Ri H' (Rs.own ⟨o0a,o0n,o0c⟩ (eInt .i64).z o0k :: R0) fun R=>CR (eInt .i64) H' R o0k (r)
def ap.S29 (H0:Hp) (Ri R0:List Rs)  (C:Sl→Sl→Int→Int→Hp→OA) (pC:List Int→List (List Int)→Int→Int→Option (List Int)):Prop:=∀ {iI sJ:ON} {hZ oi:Nat} {iJ sK:Cap} {eJ:List Int} {iK sL:List AV} {iq:List (List Int)} {eG dO:Int},∀ {H:Hp},hZ = eJ.length→oi = iq.length→(Out H0 Ri H (Rs.own ⟨iI,hZ,iJ⟩ (eInt .i64).z iK :: Rs.own ⟨sJ,oi,sK⟩ (eSl (eInt .i64)).z sL :: R0) fun R=>CR (eInt .i64) H R iK eJ∧CR (eSl (eInt .i64)) H R sL iq)→∀ {r:List Int},pC eJ iq eG dO = some r→∃ v H',C ⟨iI,hZ,iJ⟩ ⟨sJ,oi,sK⟩ eG dO H = some (v,H')∧ap.Q H0 Ri R0  r v H'
def ap.S1883 (H0:Hp) (Ri R0:List Rs)  (C:Sl→Sl→Int→Int→Int→Sl→Int→Int→Hp→OA) (pC:List Int→List (List Int)→Int→Int→Int→List Int→Int→Int→Option (List Int)):Prop:=∀ {sM sO sQ:ON} {oj ol om:Nat} {sS sT sU:Cap} {iU iV:List Int} {sV sW:List AV} {jF:List (List Int)} {dN dZ de eF ei:Int},∀ {H:Hp},oj = iU.length→ol = jF.length→om = iV.length→(Out H0 Ri H (Rs.own ⟨sM,oj,sS⟩ (eInt .i64).z sV :: Rs.own ⟨sO,ol,sT⟩ (eSl (eInt .i64)).z sW :: R0) fun R=>CR (eInt .i64) H R sV iU∧CR (eSl (eInt .i64)) H R sW jF∧ROs (eInt .i64) H R ⟨sQ,om,sU⟩ iV)→∀ {r:List Int},pC iU jF dN dZ de iV eF ei = some r→∃ v H',C ⟨sM,oj,sS⟩ ⟨sO,ol,sT⟩ dN dZ de ⟨sQ,om,sU⟩ eF ei H = some (v,H')∧ap.Q H0 Ri R0  r v H'
def ap.pj3 (F:Nat) (fD:List Int→List (List Int)→Int→Int→Option (List Int)) (oo:List Int) (oq:List (List Int)) (kK:Int) (kL:Int):Option (List Int):=fD oo oq kK (IntKind.i64.wrap (kL + 1))
theorem ap.j3_P {F:Nat} {H0:Hp} {Ri R0:List Rs}  {C29_:Sl→Sl→Int→Int→Hp→OA} {fD:List Int→List (List Int)→Int→Int→Option (List Int)} (hC29:ap.S29 H0 Ri R0  C29_ fD) {BR BS:ON} {vU vV:Nat} {BT BU:Cap} {oo:List Int} {BV BW:List AV} {oq:List (List Int)} {kK kL:Int} {H:Hp} (HD:vU = oo.length) (HE:vV = oq.length) (h0:Out H0 Ri H (Rs.own ⟨BR,vU,BT⟩ (eInt .i64).z BV :: Rs.own ⟨BS,vV,BU⟩ (eSl (eInt .i64)).z BW :: R0) fun R=>CR (eInt .i64) H R BV oo∧CR (eSl (eInt .i64)) H R BW oq) {r:List Int} (hp:ap.pj3 F fD oo oq kK kL = some r):∃ v H',ap.j3 F (aj.tw F) C29_ ⟨BR,vU,BT⟩ ⟨BS,vV,BU⟩ kK kL H = some (v,H')∧ap.Q H0 Ri R0  r v H':=by
 obtain ⟨w0,s0,HF,HG⟩:=h0
 subst HD
 subst HE
 unfold ap.pj3 at hp
 unfold ap.j3
 exact hC29 rfl rfl ⟨w0,s0,HF,HG⟩ hp
def ap.pj4 (F:Nat) (fD:List Int→List (List Int)→Int→Int→Option (List Int)) (ot:List Int) (ou:List (List Int)) (kM:Int) (kN:Int):Option (List Int):=ap.pj3 F fD ot ou kM kN
theorem ap.j4_P {F:Nat} {H0:Hp} {Ri R0:List Rs}  {C29_:Sl→Sl→Int→Int→Hp→OA} {fD:List Int→List (List Int)→Int→Int→Option (List Int)} (hC29:ap.S29 H0 Ri R0  C29_ fD) {BX BY:ON} {vW vX:Nat} {BZ B_:Cap} {ot:List Int} {Ca Cb:List AV} {ou:List (List Int)} {kM kN:Int} {H:Hp} (HH:vW = ot.length) (HI:vX = ou.length) (h0:Out H0 Ri H (Rs.own ⟨BX,vW,BZ⟩ (eInt .i64).z Ca :: Rs.own ⟨BY,vX,B_⟩ (eSl (eInt .i64)).z Cb :: R0) fun R=>CR (eInt .i64) H R Ca ot∧CR (eSl (eInt .i64)) H R Cb ou) {r:List Int} (hp:ap.pj4 F fD ot ou kM kN = some r):∃ v H',ap.j4 F (aj.tw F) C29_ ⟨BX,vW,BZ⟩ ⟨BY,vX,B_⟩ kM kN H = some (v,H')∧ap.Q H0 Ri R0  r v H':=by
 obtain ⟨w0,s0,HJ,HK⟩:=h0
 subst HH
 subst HI
 unfold ap.pj4 at hp
 unfold ap.j4
 exact ap.j3_P (@hC29) rfl rfl ⟨w0,s0,HJ,HK⟩ hp
def ap.pl1883 (F:Nat) (fD:List Int→List (List Int)→Int→Int→Option (List Int)):Nat→List Int→List (List Int)→Int→Int→Int→List Int→Int→Int→Option (List Int)
 | 0,_,_,_,_,_,_,_,_=>none
 | k + 1,iU,jF,dN,dZ,de,iV,eF,ei=>(bif (decide (ei < eF)) then ((ix iV ei).bind fun n1=>(ix iU (gt iV n1)).bind fun n2=>(some (iU.set n2 de)).bind fun l3=>ap.pl1883 F fD k l3 jF dN dZ de iV eF (IntKind.i64.wrap (ei + 1))) else (ap.pj4 F fD iU jF dN dZ))
termination_by structural n=>n
theorem ap.l1883_P {F:Nat} {H0:Hp} {Ri R0:List Rs}  {C29_:Sl→Sl→Int→Int→Hp→OA} {fD:List Int→List (List Int)→Int→Int→Option (List Int)} (hC29:ap.S29 H0 Ri R0  C29_ fD):∀ k,ap.S1883 H0 Ri R0  (ap.l1883 F (aj.tw F) C29_ k) (ap.pl1883 F fD k):=by
 intro k
 induction k with
 | zero=>
  intro sM sO sQ oj ol om sS sT sU iU iV sV sW jF dN dZ de eF ei H Cc Cd Ce h0 r hp
  exact nomatch (show (none:Option (List Int)) = some r from hp)
 | succ k ih=>
  intro sM sO sQ oj ol om sS sT sU iU iV sV sW jF dN dZ de eF ei H Cc Cd Ce h0 r hp
  obtain ⟨w0,s0,vY,Cf,Cg⟩:=h0
  subst Cc
  subst Cd
  subst Ce
  unfold ap.pl1883 at hp
  unfold ap.l1883
  refine bif_ex (fun hb=>?_) (fun hb=>?_)
  ·replace hp:=bif_t hb hp
   obtain ⟨n1,g1,hp⟩:=bind_some' hp
   obtain ⟨p1,q1,i1,h1,j1⟩:=ROs.ixr Cg rfl g1
   refine bind_ex i1 ?_
   have h1:_ = [_]:=h1
   subst h1
   refine bind_ex (ldI_of (j1 0 _ rfl)) ?_
   obtain ⟨n2,g2,hp⟩:=bind_some' hp
   obtain ⟨p2,q2,i2,h2,j2⟩:=W.ixo (E:=(eInt .i64)) w0 (i:=0) rfl rfl vY g2
   refine bind_ex i2 ?_
   obtain ⟨l3,e3,hp⟩:=bind_some' hp
   refine sto_k (eInt .i64) w0 (i:=0) (j:=0) (p:=p2) rfl rfl vY g2 i2 e3 rfl rfl (fun _ h=>by have h:_ = [_]:=h; subst h; exact rfl) fun H4 k4 w4 s4 c4=>?_
   dsimp only [List.set] at w4 s4 c4
   exact ih ((st_len e3).symm) rfl rfl ⟨w4,(s0.trans s4),c4,(Cf.step s4),(Cg.step s4)⟩ hp
  ·replace hp:=bif_f hb hp
   exact ap.j4_P (@hC29) rfl rfl ⟨w0,s0,vY,Cf⟩ hp
def ap.pl29 (F:Nat) :Nat→List Int→List (List Int)→Int→Int→Option (List Int)
 | 0,_,_,_,_=>none
 | k + 1,eJ,iq,eG,dO=>(bif (decide (dO < eG)) then ((ix iq dO).bind fun n1=>ap.pl1883 F (ap.pl29 F k) F eJ iq eG dO dO (gt iq n1) (((gt iq n1).length):Int) 0) else (some eJ))
termination_by structural n=>n
theorem ap.l29_P {F:Nat} {H0:Hp} {Ri R0:List Rs}  :∀ k,ap.S29 H0 Ri R0  (ap.l29 F (aj.tw F)  k) (ap.pl29 F  k):=by
 intro k
 induction k with
 | zero=>
  intro iI sJ hZ oi iJ sK eJ iK sL iq eG dO H ni Ch h0 r hp
  exact nomatch (show (none:Option (List Int)) = some r from hp)
 | succ k ih=>
  intro iI sJ hZ oi iJ sK eJ iK sL iq eG dO H ni Ch h0 r hp
  obtain ⟨w0,s0,k_,Ci⟩:=h0
  subst ni
  subst Ch
  unfold ap.pl29 at hp
  unfold ap.l29
  refine bif_ex (fun hb=>?_) (fun hb=>?_)
  ·replace hp:=bif_t hb hp
   obtain ⟨n1,g1,hp⟩:=bind_some' hp
   obtain ⟨p1,q1,i1,h1,j1⟩:=W.ixo (E:=(eSl (eInt .i64))) w0 (i:=1) rfl rfl Ci g1
   refine bind_ex i1 ?_
   obtain ⟨⟨FR,m1_0,c1_0⟩,rfl,f1_0⟩:=h1
   obtain rfl:m1_0 = _:=f1_0.n
   refine bind_ex (ldSl_of (j1 0 _ rfl)) ?_
   exact ap.l1883_P (@ih) F rfl rfl rfl ⟨w0,s0,k_,Ci,f1_0⟩ hp
  ·replace hp:=bif_f hb hp
   obtain ⟨w2,s2⟩:=w0.pick' [0] 2 rfl rfl rfl
   dsimp only [pk,pks,nth,List.drop] at w2 s2
   obtain rfl:=Option.some.inj hp
   exact ⟨_,_,rfl,_,_,_,_,rfl,rfl,w2,(s0.trans s2),(k_.step s2)⟩
def ap.p (F:Nat) (ad:List (Int×Int×Int×Int×Int)) (bP:List (Int×Int)) (bW:List (Int×Int)):Option (List Int):=(mkn (IntKind.i64.wrap (4 * (ad.length:Int))) (0:Int)).bind fun l3=>(aj.p F ad bP bW).bind fun r5=>ap.pl29 F F l3 r5 (r5.length:Int) 0
theorem ap.P {F:Nat} {ax eo fh:ON} {aq cM dr:Nat} {ay ep fi:Cap} {ad:List (Int×Int×Int×Int×Int)} {ab:Int} {bP bW:List (Int×Int)} {H:Hp} {R0:List Rs} (bd:aq = ad.length) (gp:cM = bP.length) (ie:dr = bW.length) (h0:Inn H R0 fun R=>ROs (ePair (eInt .i64) (ePair (eInt .i64) (ePair (eInt .i64) (ePair (eInt .i64) (eInt .i64))))) H R ⟨ax,aq,ay⟩ ad∧ROs (ePair (eInt .i64) (eInt .i64)) H R ⟨eo,cM,ep⟩ bP∧ROs (ePair (eInt .i64) (eInt .i64)) H R ⟨fh,dr,fi⟩ bW) {r:List Int} (hp:ap.p F ad bP bW = some r):∃ v H',ap.tw F ⟨ax,aq,ay⟩ ab ⟨eo,cM,ep⟩ ⟨fh,dr,fi⟩ H = some (v,H')∧ap.Q H R0 R0  r v H':=by
 obtain ⟨w0,aM,fu,fQ⟩:=h0
 subst bd
 subst gp
 subst ie
 unfold ap.p at hp
 unfold ap.tw ap.twX
 have s0:=w0.rf
 refine new_k w0 fun H1 w1 s1=>?_
 refine new_k w1 fun H2 w2 s2=>?_
 refine bind_ex (ldSl_of (w2.ld (i:=1) rfl rfl)) ?_
 obtain ⟨l3,e3,hp⟩:=bind_some' hp
 refine mk_k (eInt .i64) (0:Int) w2 rfl rfl rfl e3 fun H4 k4 w4 s4 c4=>?_
 refine bind_ex (ldSl_of (w4.ld (i:=2) rfl rfl)) ?_
 refine bind_ex (ldI_of (w4.ld (i:=2) rfl rfl)) ?_
 refine bind_ex (ldSl_of (w4.ld (i:=1) rfl rfl)) ?_
 refine bind_ex (ldSl_of (w4.ld (i:=1) rfl rfl)) ?_
 obtain ⟨r5,e5,hp⟩:=bind_some' hp
 refine call_ex (aj.P rfl rfl rfl ⟨w4,(aM.step (s1.trans (s2.trans s4))),(fu.step (s1.trans (s2.trans s4))),(fQ.step (s1.trans (s2.trans s4)))⟩ e5) ?_
 rintro _ H6 ⟨o0a_6,o0n_6,o0c_6,o0k_6,rfl,rfl,w6,s6,f6_0⟩
 refine bind_ex rfl ?_
 obtain ⟨w7,s7⟩:=w6.pick' [1,0] 4 rfl rfl rfl
 dsimp only [pk,pks,nth,List.drop] at w7 s7
 exact ap.l29_P F rfl rfl ⟨w7,(s0.trans (s1.trans (s2.trans (s4.trans (s6.trans s7))))),(c4.step (s6.trans s7)),(f6_0.step s7)⟩ hp
def aH.Q (H0:Hp) (Ri R0:List Rs)  (r:List Int) (v:AV) (H':Hp):Prop:=∃ o0a:ON,∃ o0n:Nat,∃ o0k:List AV,v = (.sl ⟨o0a,o0n,.ex o0n⟩)∧o0n = (r).length∧Out H0 Ri H' (Rs.own ⟨o0a,o0n,.ex o0n⟩ (eInt .i64).z o0k :: R0) fun R=>CR (eInt .i64) H' R o0k (r)
def aH.pj1 (F:Nat)  (gl:List Int) (fy:Int):Option (List Int):=(mkn (IntKind.i64.wrap fy) (0:Int)).bind fun l1=>(some (cpl l1 gl)).bind fun l3=>(rept F l3 ((min gl.length l1.length:Nat):Int)).bind fun l5=>some l5
theorem aH.j1_P {F:Nat} {H0:Hp} {Ri R0:List Rs}   {nm:ON} {jP:Nat} {nn:Cap} {gl:List Int} {fy:Int} {H:Hp} (vm:jP = gl.length) (h0:Out H0 Ri H R0 fun R=>ROs (eInt .i64) H R ⟨nm,jP,nn⟩ gl) {r:List Int} (hp:aH.pj1 F  gl fy = some r):∃ v H',aH.j1 F (bits_Mul.tw F)  ⟨nm,jP,nn⟩ fy H = some (v,H')∧aH.Q H0 Ri R0  r v H':=by
 obtain ⟨w0,s0,vn⟩:=h0
 subst vm
 unfold aH.pj1 at hp
 unfold aH.j1
 obtain ⟨l1,e1,hp⟩:=bind_some' hp
 refine mk_k (eInt .i64) (0:Int) w0 rfl rfl rfl e1 fun H2 k2 w2 s2 c2=>?_
 obtain ⟨x3,h3,c3⟩:=(vn.step s2).row (z:=(eInt .i64).z) rfl
 obtain ⟨l3,e3,hp⟩:=bind_some' hp
 refine cpy_k (eInt .i64) w2 (i:=0) rfl rfl c2 h3 c3 rfl rfl e3 fun k4 H4 w4 s4 c4=>?_
 dsimp only [List.set] at w4 s4 c4
 obtain ⟨l5,e5,hp⟩:=bind_some' hp
 refine rept_K (eInt .i64) rfl (L:=aH.l254 F (bits_Mul.tw F)) (fun _ _ _ _=>rfl) w4 (i:=0) rfl c4 e5 fun H6 k6 w6 s6 c6=>?_
 dsimp only [List.set] at w6 s6 c6
 obtain rfl:=Option.some.inj hp
 exact ⟨_,_,rfl,_,_,_,rfl,((cpl_len e3).symm.trans (rept_len e5).symm),w6,(s0.trans (s2.trans (s4.trans s6))),c6⟩
def aH.pj2 (F:Nat)  (gm:List Int) (fX:Int):Option (List Int):=(bits_Mul.p F (IntKind.u64.wrap (gm.length:Int)) (IntKind.u64.wrap fX)).bind fun r1=>(bif (decide (r1.1 > 0)) then (none) else ((bif (decide (r1.2 > 9223372036854775807)) then (none) else (aH.pj1 F gm r1.2))))
theorem aH.j2_P {F:Nat} {H0:Hp} {Ri R0:List Rs}   {np:ON} {jQ:Nat} {nq:Cap} {gm:List Int} {fX:Int} {H:Hp} (vo:jQ = gm.length) (h0:Out H0 Ri H R0 fun R=>ROs (eInt .i64) H R ⟨np,jQ,nq⟩ gm) {r:List Int} (hp:aH.pj2 F  gm fX = some r):∃ v H',aH.j2 F (bits_Mul.tw F)  ⟨np,jQ,nq⟩ fX H = some (v,H')∧aH.Q H0 Ri R0  r v H':=by
 obtain ⟨w0,s0,vp⟩:=h0
 subst vo
 unfold aH.pj2 at hp
 unfold aH.j2
 obtain ⟨r1,e1,hp⟩:=bind_some' hp
 refine call_ex (bits_Mul.P ⟨w0,trivial⟩ e1) ?_
 rintro _ H2 ⟨rfl,w2,s2,_⟩
 refine bind_ex rfl ?_
 refine bind_ex rfl ?_
 refine bind_ex rfl ?_
 refine bind_ex rfl ?_
 refine bind_ex rfl ?_
 refine bif_ex (fun hb=>?_) (fun hb=>?_)
 ·replace hp:=bif_t hb hp
  cases hp
 ·replace hp:=bif_f hb hp
  refine bif_ex (fun hb=>?_) (fun hb=>?_)
  ·replace hp:=bif_t hb hp
   cases hp
  ·replace hp:=bif_f hb hp
   exact aH.j1_P rfl ⟨w2,(s0.trans s2),(vp.step s2)⟩ hp
def aH.p (F:Nat) (ad:List Int) (ag:Int):Option (List Int):=(bif (decide (ag < 0)) then (none) else (aH.pj2 F ad ag))
theorem aH.P {F:Nat} {ax:ON} {aq:Nat} {ay:Cap} {ad:List Int} {ag:Int} {H:Hp} {R0:List Rs} (bd:aq = ad.length) (h0:Inn H R0 fun R=>ROs (eInt .i64) H R ⟨ax,aq,ay⟩ ad) {r:List Int} (hp:aH.p F ad ag = some r):∃ v H',aH.tw F ⟨ax,aq,ay⟩ ag H = some (v,H')∧aH.Q H R0 R0  r v H':=by
 obtain ⟨w0,aM⟩:=h0
 subst bd
 unfold aH.p at hp
 unfold aH.tw aH.twX
 have s0:=w0.rf
 refine bif_ex (fun hb=>?_) (fun hb=>?_)
 ·replace hp:=bif_t hb hp
  cases hp
 ·replace hp:=bif_f hb hp
  exact aH.j2_P rfl ⟨w0,s0,aM⟩ hp
def af.Q (H0:Hp) (Ri R0:List Rs)  (r:List Int) (v:AV) (H':Hp):Prop:=∃ o0a:ON,∃ o0n:Nat,∃ o0c:Cap,∃ o0k:List AV,v = (.sl ⟨o0a,o0n,o0c⟩)∧o0n = (r).length∧Out H0 Ri H' (Rs.own ⟨o0a,o0n,o0c⟩ (eInt .i64).z o0k :: R0) fun R=>CR (eInt .i64) H' R o0k (r)
def af.S253 (H0:Hp) (Ri R0:List Rs)  (C:Sl→Sl→Sl→Sl→Int→Int→Hp→OA) (pC:List Int→List Int→List Bool→List Int→Int→Int→Option (List Int)):Prop:=∀ {sX sY sZ s_:ON} {ov ox oy oz:Nat} {tc td te tf:Cap} {ii ir ij:List Int} {tg th ti tj:List AV} {ik:List Bool} {ea df:Int},∀ {H:Hp},ov = ii.length→ox = ir.length→oy = ik.length→oz = ij.length→(Out H0 Ri H (Rs.own ⟨sX,ov,tc⟩ (eInt .i64).z tg :: Rs.own ⟨sY,ox,td⟩ (eInt .i64).z th :: Rs.own ⟨sZ,oy,te⟩ eBool.z ti :: Rs.own ⟨s_,oz,tf⟩ (eInt .i64).z tj :: R0) fun R=>CR (eInt .i64) H R tg ii∧CR (eInt .i64) H R th ir∧CR eBool H R ti ik∧CR (eInt .i64) H R tj ij)→∀ {r:List Int},pC ii ir ik ij ea df = some r→∃ v H',C ⟨sX,ov,tc⟩ ⟨sY,ox,td⟩ ⟨sZ,oy,te⟩ ⟨s_,oz,tf⟩ ea df H = some (v,H')∧af.Q H0 Ri R0  r v H'
def af.pj11 (F:Nat) (fN:List Int→List Int→List Bool→List Int→Int→Int→Option (List Int)) (oA:List Int) (oB:List Int) (oC:List Bool) (oD:List Int) (kW:Int) (kX:Int):Option (List Int):=fN oA oB oC oD kW (IntKind.i64.wrap (kX + 1))
theorem af.j11_P {F:Nat} {H0:Hp} {Ri R0:List Rs}  {C253_:Sl→Sl→Sl→Sl→Int→Int→Hp→OA} {fN:List Int→List Int→List Bool→List Int→Int→Int→Option (List Int)} (hC253:af.S253 H0 Ri R0  C253_ fN) {Cj Ck Cl Cm:ON} {vZ v_ wa wb:Nat} {Cn Co Cp Cq:Cap} {oA oB oD:List Int} {Cs Ct Cu Cv:List AV} {oC:List Bool} {kW kX:Int} {H:Hp} (HL:vZ = oA.length) (HM:v_ = oB.length) (HN:wa = oC.length) (HO:wb = oD.length) (h0:Out H0 Ri H (Rs.own ⟨Cj,vZ,Cn⟩ (eInt .i64).z Cs :: Rs.own ⟨Ck,v_,Co⟩ (eInt .i64).z Ct :: Rs.own ⟨Cl,wa,Cp⟩ eBool.z Cu :: Rs.own ⟨Cm,wb,Cq⟩ (eInt .i64).z Cv :: R0) fun R=>CR (eInt .i64) H R Cs oA∧CR (eInt .i64) H R Ct oB∧CR eBool H R Cu oC∧CR (eInt .i64) H R Cv oD) {r:List Int} (hp:af.pj11 F fN oA oB oC oD kW kX = some r):∃ v H',af.j11 F (ap.tw F) (aE.tw F) (aj.tw F) (aH.tw F) (ba.tw F) C253_ ⟨Cj,vZ,Cn⟩ ⟨Ck,v_,Co⟩ ⟨Cl,wa,Cp⟩ ⟨Cm,wb,Cq⟩ kW kX H = some (v,H')∧af.Q H0 Ri R0  r v H':=by
 obtain ⟨w0,s0,HP,HQ,HR,HS⟩:=h0
 subst HL
 subst HM
 subst HN
 subst HO
 unfold af.pj11 at hp
 unfold af.j11
 exact hC253 rfl rfl rfl rfl ⟨w0,s0,HP,HQ,HR,HS⟩ hp
def af.S509 (H0:Hp) (Ri R0:List Rs)  (C:Sl→Sl→Int→Int→Hp→OA) (pC:List Int→List Int→Int→Int→Option (List Int)):Prop:=∀ {tk tn:ON} {oE oF:Nat} {tp tq:Cap} {jG jH:List Int} {ts tt:List AV} {eH eT:Int},∀ {H:Hp},oE = jG.length→oF = jH.length→(Out H0 Ri H (Rs.own ⟨tk,oE,tp⟩ (eInt .i64).z ts :: Rs.own ⟨tn,oF,tq⟩ (eInt .i64).z tt :: R0) fun R=>CR (eInt .i64) H R ts jG∧CR (eInt .i64) H R tt jH)→∀ {r:List Int},pC jG jH eH eT = some r→∃ v H',C ⟨tk,oE,tp⟩ ⟨tn,oF,tq⟩ eH eT H = some (v,H')∧af.Q H0 Ri R0  r v H'
def af.S16301 (H0:Hp) (Ri R0:List Rs)  (C:Sl→Sl→Int→Int→Int→Int→Hp→OA) (pC:List Int→List Int→Int→Int→Int→Int→Option (List Int)):Prop:=∀ {tu tv:ON} {oG oH:Nat} {tx tz:Cap} {gq gu:List Int} {tB tC:List AV} {dp dP d_ cG:Int},∀ {H:Hp},oG = gq.length→oH = gu.length→(Out H0 Ri H (Rs.own ⟨tu,oG,tx⟩ (eInt .i64).z tB :: Rs.own ⟨tv,oH,tz⟩ (eInt .i64).z tC :: R0) fun R=>CR (eInt .i64) H R tB gq∧CR (eInt .i64) H R tC gu)→∀ {r:List Int},pC gq gu dp dP d_ cG = some r→∃ v H',C ⟨tu,oG,tx⟩ ⟨tv,oH,tz⟩ dp dP d_ cG H = some (v,H')∧af.Q H0 Ri R0  r v H'
def af.pj9 (F:Nat) (tD:List Int→List Int→Int→Int→Int→Int→Option (List Int)) (oI:List Int) (oJ:List Int) (kS:Int) (kT:Int) (kU:Int) (kV:Int):Option (List Int):=tD oI oJ kS kT kU (IntKind.i64.wrap (kV + 1))
theorem af.j9_P {F:Nat} {H0:Hp} {Ri R0:List Rs}  {C16301_:Sl→Sl→Int→Int→Int→Int→Hp→OA} {tD:List Int→List Int→Int→Int→Int→Int→Option (List Int)} (hC16301:af.S16301 H0 Ri R0  C16301_ tD) {Cw Cx:ON} {wc wd:Nat} {Cy Cz:Cap} {oI oJ:List Int} {CA CB:List AV} {kS kT kU kV:Int} {H:Hp} (HT:wc = oI.length) (HU:wd = oJ.length) (h0:Out H0 Ri H (Rs.own ⟨Cw,wc,Cy⟩ (eInt .i64).z CA :: Rs.own ⟨Cx,wd,Cz⟩ (eInt .i64).z CB :: R0) fun R=>CR (eInt .i64) H R CA oI∧CR (eInt .i64) H R CB oJ) {r:List Int} (hp:af.pj9 F tD oI oJ kS kT kU kV = some r):∃ v H',af.j9 F (ap.tw F) (aE.tw F) (aj.tw F) (aH.tw F) (ba.tw F) C16301_ ⟨Cw,wc,Cy⟩ ⟨Cx,wd,Cz⟩ kS kT kU kV H = some (v,H')∧af.Q H0 Ri R0  r v H':=by
 obtain ⟨w0,s0,HV,HW⟩:=h0
 subst HT
 subst HU
 unfold af.pj9 at hp
 unfold af.j9
 exact hC16301 rfl rfl ⟨w0,s0,HV,HW⟩ hp
def af.pj7 (F:Nat) (cc:List Int→List Int→Int→Int→Option (List Int)) (oK:List Int) (oL:List Int) (kO:Int) (kP:Int):Option (List Int):=cc oK oL kO (IntKind.i64.wrap (kP + 1))
theorem af.j7_P {F:Nat} {H0:Hp} {Ri R0:List Rs}  {C509_:Sl→Sl→Int→Int→Hp→OA} {cc:List Int→List Int→Int→Int→Option (List Int)} (hC509:af.S509 H0 Ri R0  C509_ cc) {CC CD:ON} {wg wh:Nat} {CE CF:Cap} {oK oL:List Int} {CG CH:List AV} {kO kP:Int} {H:Hp} (HX:wg = oK.length) (HY:wh = oL.length) (h0:Out H0 Ri H (Rs.own ⟨CC,wg,CE⟩ (eInt .i64).z CG :: Rs.own ⟨CD,wh,CF⟩ (eInt .i64).z CH :: R0) fun R=>CR (eInt .i64) H R CG oK∧CR (eInt .i64) H R CH oL) {r:List Int} (hp:af.pj7 F cc oK oL kO kP = some r):∃ v H',af.j7 F (ap.tw F) (aE.tw F) (aj.tw F) (aH.tw F) (ba.tw F) C509_ ⟨CC,wg,CE⟩ ⟨CD,wh,CF⟩ kO kP H = some (v,H')∧af.Q H0 Ri R0  r v H':=by
 obtain ⟨w0,s0,HZ,H_⟩:=h0
 subst HX
 subst HY
 unfold af.pj7 at hp
 unfold af.j7
 exact hC509 rfl rfl ⟨w0,s0,HZ,H_⟩ hp
def af.pj8 (F:Nat) (cc:List Int→List Int→Int→Int→Option (List Int)) (oM:List Int) (oN:List Int) (kQ:Int) (kR:Int):Option (List Int):=af.pj7 F cc oM oN kQ kR
theorem af.j8_P {F:Nat} {H0:Hp} {Ri R0:List Rs}  {C509_:Sl→Sl→Int→Int→Hp→OA} {cc:List Int→List Int→Int→Int→Option (List Int)} (hC509:af.S509 H0 Ri R0  C509_ cc) {CI CJ:ON} {wi wj:Nat} {CK CL:Cap} {oM oN:List Int} {CM CN:List AV} {kQ kR:Int} {H:Hp} (Ia:wi = oM.length) (Ib:wj = oN.length) (h0:Out H0 Ri H (Rs.own ⟨CI,wi,CK⟩ (eInt .i64).z CM :: Rs.own ⟨CJ,wj,CL⟩ (eInt .i64).z CN :: R0) fun R=>CR (eInt .i64) H R CM oM∧CR (eInt .i64) H R CN oN) {r:List Int} (hp:af.pj8 F cc oM oN kQ kR = some r):∃ v H',af.j8 F (ap.tw F) (aE.tw F) (aj.tw F) (aH.tw F) (ba.tw F) C509_ ⟨CI,wi,CK⟩ ⟨CJ,wj,CL⟩ kQ kR H = some (v,H')∧af.Q H0 Ri R0  r v H':=by
 obtain ⟨w0,s0,Ic,Id⟩:=h0
 subst Ia
 subst Ib
 unfold af.pj8 at hp
 unfold af.j8
 exact af.j7_P (@hC509) rfl rfl ⟨w0,s0,Ic,Id⟩ hp
def af.pl16301 (F:Nat) (cc:List Int→List Int→Int→Int→Option (List Int)):Nat→List Int→List Int→Int→Int→Int→Int→Option (List Int)
 | 0,_,_,_,_,_,_=>none
 | k + 1,gq,gu,dp,dP,d_,cG=>(bif (decide (cG < d_)) then ((ix gq cG).bind fun n1=>(ix gu (gt gq n1)).bind fun n2=>(bif (decide ((gt gu n2) ≥ 0)) then ((ix gq (IntKind.i64.wrap ((IntKind.i64.wrap (cG - (Int.tmod cG 4))) + (Int.tmod (IntKind.i64.wrap (cG + 1)) 4)))).bind fun n3=>(ix gu (gt gq n3)).bind fun n4=>(some (gu.set n4 (IntKind.i64.wrap (1 - (gt gu n2))))).bind fun l5=>af.pj9 F (af.pl16301 F cc k) gq l5 dp dP d_ cG) else (af.pj9 F (af.pl16301 F cc k) gq gu dp dP d_ cG))) else (af.pj8 F cc gq gu dp dP))
termination_by structural n=>n
theorem af.l16301_P {F:Nat} {H0:Hp} {Ri R0:List Rs}  {C509_:Sl→Sl→Int→Int→Hp→OA} {cc:List Int→List Int→Int→Int→Option (List Int)} (hC509:af.S509 H0 Ri R0  C509_ cc):∀ k,af.S16301 H0 Ri R0  (af.l16301 F (ap.tw F) (aE.tw F) (aj.tw F) (aH.tw F) (ba.tw F) C509_ k) (af.pl16301 F cc k):=by
 intro k
 induction k with
 | zero=>
  intro tu tv oG oH tx tz gq gu tB tC dp dP d_ cG H CO CP h0 r hp
  exact nomatch (show (none:Option (List Int)) = some r from hp)
 | succ k ih=>
  intro tu tv oG oH tx tz gq gu tB tC dp dP d_ cG H CO CP h0 r hp
  obtain ⟨w0,s0,oO,oP⟩:=h0
  subst CO
  subst CP
  unfold af.pl16301 at hp
  unfold af.l16301
  refine bif_ex (fun hb=>?_) (fun hb=>?_)
  ·replace hp:=bif_t hb hp
   obtain ⟨n1,g1,hp⟩:=bind_some' hp
   obtain ⟨p1,q1,i1,h1,j1⟩:=W.ixo (E:=(eInt .i64)) w0 (i:=0) rfl rfl oO g1
   refine bind_ex i1 ?_
   have h1:_ = [_]:=h1
   subst h1
   refine bind_ex (ldI_of (j1 0 _ rfl)) ?_
   obtain ⟨n2,g2,hp⟩:=bind_some' hp
   obtain ⟨p2,q2,i2,h2,j2⟩:=W.ixo (E:=(eInt .i64)) w0 (i:=1) rfl rfl oP g2
   refine bind_ex i2 ?_
   have h2:_ = [_]:=h2
   subst h2
   refine bind_ex (ldI_of (j2 0 _ rfl)) ?_
   refine bif_ex (fun hb=>?_) (fun hb=>?_)
   ·replace hp:=bif_t hb hp
    obtain ⟨n3,g3,hp⟩:=bind_some' hp
    obtain ⟨p3,q3,i3,h3,j3⟩:=W.ixo (E:=(eInt .i64)) w0 (i:=0) rfl rfl oO g3
    refine bind_ex i3 ?_
    have h3:_ = [_]:=h3
    subst h3
    refine bind_ex (ldI_of (j3 0 _ rfl)) ?_
    obtain ⟨n4,g4,hp⟩:=bind_some' hp
    obtain ⟨p4,q4,i4,h4,j4⟩:=W.ixo (E:=(eInt .i64)) w0 (i:=1) rfl rfl oP g4
    refine bind_ex i4 ?_
    obtain ⟨l5,e5,hp⟩:=bind_some' hp
    refine sto_k (eInt .i64) w0 (i:=1) (j:=0) (p:=p4) rfl rfl oP g4 i4 e5 rfl rfl (fun _ h=>by have h:_ = [_]:=h; subst h; exact rfl) fun H6 k6 w6 s6 c6=>?_
    dsimp only [List.set] at w6 s6 c6
    exact af.j9_P (@ih) rfl ((st_len e5).symm) ⟨w6,(s0.trans s6),(oO.step s6),c6⟩ hp
   ·replace hp:=bif_f hb hp
    exact af.j9_P (@ih) rfl rfl ⟨w0,s0,oO,oP⟩ hp
  ·replace hp:=bif_f hb hp
   exact af.j8_P (@hC509) rfl rfl ⟨w0,s0,oO,oP⟩ hp
def af.pl509 (F:Nat) :Nat→List Int→List Int→Int→Int→Option (List Int)
 | 0,_,_,_,_=>none
 | k + 1,jG,jH,eH,eT=>(bif (decide (eT < eH)) then (af.pl16301 F (af.pl509 F k) F jG jH eH eT (jG.length:Int) 0) else (some jH))
termination_by structural n=>n
theorem af.l509_P {F:Nat} {H0:Hp} {Ri R0:List Rs}  :∀ k,af.S509 H0 Ri R0  (af.l509 F (ap.tw F) (aE.tw F) (aj.tw F) (aH.tw F) (ba.tw F)  k) (af.pl509 F  k):=by
 intro k
 induction k with
 | zero=>
  intro tk tn oE oF tp tq jG jH ts tt eH eT H CQ CS h0 r hp
  exact nomatch (show (none:Option (List Int)) = some r from hp)
 | succ k ih=>
  intro tk tn oE oF tp tq jG jH ts tt eH eT H CQ CS h0 r hp
  obtain ⟨w0,s0,Ie,CT⟩:=h0
  subst CQ
  subst CS
  unfold af.pl509 at hp
  unfold af.l509
  refine bif_ex (fun hb=>?_) (fun hb=>?_)
  ·replace hp:=bif_t hb hp
   exact af.l16301_P (@ih) F rfl rfl ⟨w0,s0,Ie,CT⟩ hp
  ·replace hp:=bif_f hb hp
   obtain ⟨w1,s1⟩:=w0.pick' [1] 2 rfl rfl rfl
   dsimp only [pk,pks,nth,List.drop] at w1 s1
   obtain rfl:=Option.some.inj hp
   exact ⟨_,_,rfl,_,_,_,_,rfl,rfl,w1,(s0.trans s1),(CT.step s1)⟩
def af.pj10 (F:Nat)  (oQ:List Int) (lj:List Int):Option (List Int):=af.pl509 F F oQ lj (lj.length:Int) 0
theorem af.j10_P {F:Nat} {H0:Hp} {Ri R0:List Rs}   {CU CV:ON} {wl wm:Nat} {CW CX:Cap} {oQ lj:List Int} {CY CZ:List AV} {H:Hp} (If:wl = oQ.length) (Ig:wm = lj.length) (h0:Out H0 Ri H (Rs.own ⟨CU,wl,CW⟩ (eInt .i64).z CY :: Rs.own ⟨CV,wm,CX⟩ (eInt .i64).z CZ :: R0) fun R=>CR (eInt .i64) H R CY oQ∧CR (eInt .i64) H R CZ lj) {r:List Int} (hp:af.pj10 F  oQ lj = some r):∃ v H',af.j10 F (ap.tw F) (aE.tw F) (aj.tw F) (aH.tw F) (ba.tw F)  ⟨CU,wl,CW⟩ ⟨CV,wm,CX⟩ H = some (v,H')∧af.Q H0 Ri R0  r v H':=by
 obtain ⟨w0,s0,Ih,Ii⟩:=h0
 subst If
 subst Ig
 unfold af.pj10 at hp
 unfold af.j10
 exact af.l509_P F rfl rfl ⟨w0,s0,Ih,Ii⟩ hp
def af.pl253 (F:Nat) :Nat→List Int→List Int→List Bool→List Int→Int→Int→Option (List Int)
 | 0,_,_,_,_,_,_=>none
 | k + 1,ii,ir,ik,ij,ea,df=>(bif (decide (df < ea)) then ((ix ij df).bind fun n1=>(ix ik (gt ij n1)).bind fun n2=>(bif (!(gt ik n2)) then ((ix ik (gt ij n1)).bind fun n3=>(some (ik.set n3 true)).bind fun l4=>(ix ii (IntKind.i64.wrap (4 * df))).bind fun n6=>(ix ir (gt ii n6)).bind fun n7=>(some (ir.set n7 0)).bind fun l8=>af.pj11 F (af.pl253 F k) ii l8 l4 ij ea df) else (af.pj11 F (af.pl253 F k) ii ir ik ij ea df))) else (af.pj10 F ii ir))
termination_by structural n=>n
theorem af.l253_P {F:Nat} {H0:Hp} {Ri R0:List Rs}  :∀ k,af.S253 H0 Ri R0  (af.l253 F (ap.tw F) (aE.tw F) (aj.tw F) (aH.tw F) (ba.tw F)  k) (af.pl253 F  k):=by
 intro k
 induction k with
 | zero=>
  intro sX sY sZ s_ ov ox oy oz tc td te tf ii ir ij tg th ti tj ik ea df H C_ Da Db Dc h0 r hp
  exact nomatch (show (none:Option (List Int)) = some r from hp)
 | succ k ih=>
  intro sX sY sZ s_ ov ox oy oz tc td te tf ii ir ij tg th ti tj ik ea df H C_ Da Db Dc h0 r hp
  obtain ⟨w0,s0,tE,tF,tG,wo⟩:=h0
  subst C_
  subst Da
  subst Db
  subst Dc
  unfold af.pl253 at hp
  unfold af.l253
  refine bif_ex (fun hb=>?_) (fun hb=>?_)
  ·replace hp:=bif_t hb hp
   obtain ⟨n1,g1,hp⟩:=bind_some' hp
   obtain ⟨p1,q1,i1,h1,j1⟩:=W.ixo (E:=(eInt .i64)) w0 (i:=3) rfl rfl wo g1
   refine bind_ex i1 ?_
   have h1:_ = [_]:=h1
   subst h1
   refine bind_ex (ldI_of (j1 0 _ rfl)) ?_
   obtain ⟨n2,g2,hp⟩:=bind_some' hp
   obtain ⟨p2,q2,i2,h2,j2⟩:=W.ixo (E:=eBool) w0 (i:=2) rfl rfl tG g2
   refine bind_ex i2 ?_
   have h2:_ = [_]:=h2
   subst h2
   refine bind_ex (ldB_of (j2 0 _ rfl)) ?_
   refine bif_ex (fun hb=>?_) (fun hb=>?_)
   ·replace hp:=bif_t hb hp
    obtain ⟨n3,g3,hp⟩:=bind_some' hp
    obtain ⟨p3,q3,i3,h3,j3⟩:=W.ixo (E:=eBool) w0 (i:=2) rfl rfl tG g3
    refine bind_ex i3 ?_
    obtain ⟨l4,e4,hp⟩:=bind_some' hp
    refine sto_k eBool w0 (i:=2) (j:=0) (p:=p3) rfl rfl tG g3 i3 e4 rfl rfl (fun _ h=>by have h:_ = [_]:=h; subst h; exact rfl) fun H5 k5 w5 s5 c5=>?_
    dsimp only [List.set] at w5 s5 c5
    obtain ⟨n6,g6,hp⟩:=bind_some' hp
    obtain ⟨p6,q6,i6,h6,j6⟩:=W.ixo (E:=(eInt .i64)) w5 (i:=0) rfl rfl (tE.step s5) g6
    refine bind_ex i6 ?_
    have h6:_ = [_]:=h6
    subst h6
    refine bind_ex (ldI_of (j6 0 _ rfl)) ?_
    obtain ⟨n7,g7,hp⟩:=bind_some' hp
    obtain ⟨p7,q7,i7,h7,j7⟩:=W.ixo (E:=(eInt .i64)) w5 (i:=1) rfl rfl (tF.step s5) g7
    refine bind_ex i7 ?_
    obtain ⟨l8,e8,hp⟩:=bind_some' hp
    refine sto_k (eInt .i64) w5 (i:=1) (j:=0) (p:=p7) rfl rfl (tF.step s5) g7 i7 e8 rfl rfl (fun _ h=>by have h:_ = [_]:=h; subst h; exact rfl) fun H9 k9 w9 s9 c9=>?_
    dsimp only [List.set] at w9 s9 c9
    exact af.j11_P (@ih) rfl ((st_len e8).symm) ((st_len e4).symm) rfl ⟨w9,(s0.trans (s5.trans s9)),(tE.step (s5.trans s9)),c9,(c5.step s9),(wo.step (s5.trans s9))⟩ hp
   ·replace hp:=bif_f hb hp
    exact af.j11_P (@ih) rfl rfl rfl rfl ⟨w0,s0,tE,tF,tG,wo⟩ hp
  ·replace hp:=bif_f hb hp
   obtain ⟨w10,s10⟩:=w0.pick' [0,1] 4 rfl rfl rfl
   dsimp only [pk,pks,nth,List.drop] at w10 s10
   exact af.j10_P rfl rfl ⟨w10,(s0.trans s10),(tE.step s10),(tF.step s10)⟩ hp
def af.p (F:Nat) (ad:List (Int×Int×Int×Int×Int)) (bP:List (Int×Int)) (bW:List (Int×Int)):Option (List Int):=(ap.p F ad bP bW).bind fun r3=>(aE.p F ad bP bW).bind fun r5=>(aj.p F ad bP bW).bind fun r8=>(aH.p F ([(-1)]:List Int) (r8.length:Int)).bind fun r12=>(ba.p F r5).bind fun r17=>(mkn r17 false).bind fun l20=>af.pl253 F F r3 r12 l20 r5 (r5.length:Int) 0
theorem af.P {F:Nat} {ax eo fh:ON} {aq cM dr:Nat} {ay ep fi:Cap} {ad:List (Int×Int×Int×Int×Int)} {ab:Int} {bP bW:List (Int×Int)} {H:Hp} {R0:List Rs} (bd:aq = ad.length) (gp:cM = bP.length) (ie:dr = bW.length) (h0:Inn H R0 fun R=>ROs (ePair (eInt .i64) (ePair (eInt .i64) (ePair (eInt .i64) (ePair (eInt .i64) (eInt .i64))))) H R ⟨ax,aq,ay⟩ ad∧ROs (ePair (eInt .i64) (eInt .i64)) H R ⟨eo,cM,ep⟩ bP∧ROs (ePair (eInt .i64) (eInt .i64)) H R ⟨fh,dr,fi⟩ bW) {r:List Int} (hp:af.p F ad bP bW = some r):∃ v H',af.tw F ⟨ax,aq,ay⟩ ab ⟨eo,cM,ep⟩ ⟨fh,dr,fi⟩ H = some (v,H')∧af.Q H R0 R0  r v H':=by
 obtain ⟨w0,aM,fu,fQ⟩:=h0
 subst bd
 subst gp
 subst ie
 unfold af.p at hp
 unfold af.tw af.twX
 have s0:=w0.rf
 refine new_k w0 fun H1 w1 s1=>?_
 refine new_k w1 fun H2 w2 s2=>?_
 refine bind_ex (ldSl_of (w2.ld (i:=1) rfl rfl)) ?_
 refine bind_ex (ldI_of (w2.ld (i:=1) rfl rfl)) ?_
 refine bind_ex (ldSl_of (w2.ld (i:=0) rfl rfl)) ?_
 refine bind_ex (ldSl_of (w2.ld (i:=0) rfl rfl)) ?_
 obtain ⟨r3,e3,hp⟩:=bind_some' hp
 refine call_ex (ap.P rfl rfl rfl ⟨w2,(aM.step (s1.trans s2)),(fu.step (s1.trans s2)),(fQ.step (s1.trans s2))⟩ e3) ?_
 rintro _ H4 ⟨o0a_4,o0n_4,o0c_4,o0k_4,rfl,rfl,w4,s4,f4_0⟩
 refine bind_ex rfl ?_
 refine bind_ex (ldSl_of (w4.ld (i:=2) rfl rfl)) ?_
 refine bind_ex (ldI_of (w4.ld (i:=2) rfl rfl)) ?_
 refine bind_ex (ldSl_of (w4.ld (i:=1) rfl rfl)) ?_
 refine bind_ex (ldSl_of (w4.ld (i:=1) rfl rfl)) ?_
 obtain ⟨r5,e5,hp⟩:=bind_some' hp
 refine call_ex (aE.P rfl rfl rfl ⟨w4,(aM.step (s1.trans (s2.trans s4))),(fu.step (s1.trans (s2.trans s4))),(fQ.step (s1.trans (s2.trans s4)))⟩ e5) ?_
 rintro _ H6 ⟨o0a_6,o0n_6,o0c_6,o0k_6,rfl,rfl,w6,s6,f6_0⟩
 refine bind_ex rfl ?_
 refine newS_k (eInt .i64) w6 (n:=1) (l:=([(-1)]:List Int)) rfl (CR.cons1 rfl CR.empty) rfl fun H7 w7 s7 c7=>?_
 refine bind_ex (ldSl_of (w7.ld (i:=4) rfl rfl)) ?_
 refine bind_ex (ldI_of (w7.ld (i:=4) rfl rfl)) ?_
 refine bind_ex (ldSl_of (w7.ld (i:=3) rfl rfl)) ?_
 refine bind_ex (ldSl_of (w7.ld (i:=3) rfl rfl)) ?_
 obtain ⟨r8,e8,hp⟩:=bind_some' hp
 refine call_ex (aj.P rfl rfl rfl ⟨w7,(aM.step (s1.trans (s2.trans (s4.trans (s6.trans s7))))),(fu.step (s1.trans (s2.trans (s4.trans (s6.trans s7))))),(fQ.step (s1.trans (s2.trans (s4.trans (s6.trans s7)))))⟩ e8) ?_
 rintro _ H9 ⟨o0a_9,o0n_9,o0c_9,o0k_9,rfl,rfl,w9,s9,f9_0⟩
 refine bind_ex rfl ?_
 obtain ⟨w10,s10⟩:=w9.pick' [1,0,2,3,4,5] 6 rfl rfl rfl
 dsimp only [pk,pks,nth,List.drop] at w10 s10
 have f11:=W.borrow1 (eInt .i64) w10 (c7.step (s9.trans s10))
 obtain ⟨w11,s11⟩:=w10.right1
 obtain ⟨r12,e12,hp⟩:=bind_some' hp
 refine call_ex (aH.P (show 1 = List.length ([(-1)]:List Int) from rfl) ⟨w11,f11⟩ e12) ?_
 rintro _ H13 ⟨o0a_13,o0n_13,o0k_13,rfl,rfl,w13,s13,f13_0⟩
 obtain ⟨w14,s14⟩:=W.frame1 w10 w13 s13
 refine bind_ex rfl ?_
 obtain ⟨w15,s15⟩:=w14.pick' [3,0,1,2,4,5,6] 7 rfl rfl rfl
 dsimp only [pk,pks,nth,List.drop] at w15 s15
 have f16:=W.borrow1 (eInt .i64) w15 (f6_0.step (s7.trans (s9.trans (s10.trans (s14.trans s15)))))
 obtain ⟨w16,s16⟩:=w15.right1
 obtain ⟨r17,e17,hp⟩:=bind_some' hp
 refine call_ex (ba.P rfl ⟨w16,f16⟩ e17) ?_
 rintro _ H18 ⟨rfl,w18,s18,_⟩
 obtain ⟨w19,s19⟩:=W.frame1 w15 w18 s18
 refine bind_ex rfl ?_
 obtain ⟨l20,e20,hp⟩:=bind_some' hp
 refine mk_k eBool false w19 rfl rfl rfl e20 fun H21 k21 w21 s21 c21=>?_
 obtain ⟨w22,s22⟩:=w21.pick' [5,3,0,1] 8 rfl rfl rfl
 dsimp only [pk,pks,nth,List.drop] at w22 s22
 exact af.l253_P F rfl rfl rfl rfl ⟨w22,(s0.trans (s1.trans (s2.trans (s4.trans (s6.trans (s7.trans (s9.trans (s10.trans (s14.trans (s15.trans (s19.trans (s21.trans s22)))))))))))),(f4_0.step (s6.trans (s7.trans (s9.trans (s10.trans (s14.trans (s15.trans (s19.trans (s21.trans s22))))))))),((CR.flat (eInt_flat .i64) f13_0).step (s15.trans (s19.trans (s21.trans s22)))),(c21.step s22),(f6_0.step (s7.trans (s9.trans (s10.trans (s14.trans (s15.trans (s19.trans (s21.trans s22))))))))⟩ hp
def bG.Q (H0:Hp) (Ri R0:List Rs)  (r:Int) (v:AV) (H':Hp):Prop:=v = (.int .i64 r)∧Out H0 Ri H' (R0) fun R=>True
def bG.p (F:Nat) (aa:Bool):Option (Int):=(bif aa then (some 1) else (some 0))
theorem bG.P {F:Nat} {aa:Bool} {H:Hp} {R0:List Rs}  (h0:Inn H R0 fun R=>True) {r:Int} (hp:bG.p F aa = some r):∃ v H',bG.tw F aa H = some (v,H')∧bG.Q H R0 R0  r v H':=by
 obtain ⟨w0,_⟩:=h0
 unfold bG.p at hp
 unfold bG.tw bG.twX
 have s0:=w0.rf
 refine bif_ex (fun hb=>?_) (fun hb=>?_)
 ·replace hp:=bif_t hb hp
  obtain rfl:=Option.some.inj hp
  exact ⟨_,_,rfl,rfl,w0,s0,trivial⟩
 ·replace hp:=bif_f hb hp
  obtain rfl:=Option.some.inj hp
  exact ⟨_,_,rfl,rfl,w0,s0,trivial⟩
def aQ.Q (H0:Hp) (Ri R0:List Rs)  (r:List Int) (v:AV) (H':Hp):Prop:=∃ o0a:ON,∃ o0n:Nat,∃ o0c:Cap,∃ o0k:List AV,v = (.sl ⟨o0a,o0n,o0c⟩)∧o0n = (r).length∧Out H0 Ri H' (Rs.own ⟨o0a,o0n,o0c⟩ (eInt .i64).z o0k :: R0) fun R=>CR (eInt .i64) H' R o0k (r)
def aQ.S61 (H0:Hp) (Ri R0:List Rs)  (C:Int→Sl→Sl→Sl→Int→Int→Hp→OA) (pC:Int→List Int→List Int→List Int→Int→Int→Option (List Int)):Prop:=∀ {dq eI ej:Int} {tH tI tJ:ON} {oR oS oT:Nat} {tK tL tM:Cap} {iW iX jI:List Int} {tO tP tQ:List AV},∀ {H:Hp},oR = iW.length→oS = iX.length→oT = jI.length→(Out H0 Ri H (Rs.own ⟨tH,oR,tK⟩ (eInt .i64).z tO :: Rs.own ⟨tI,oS,tL⟩ (eInt .i64).z tP :: Rs.own ⟨tJ,oT,tM⟩ (eInt .i64).z tQ :: R0) fun R=>CR (eInt .i64) H R tO iW∧CR (eInt .i64) H R tP iX∧CR (eInt .i64) H R tQ jI)→∀ {r:List Int},pC dq iW iX jI eI ej = some r→∃ v H',C dq ⟨tH,oR,tK⟩ ⟨tI,oS,tL⟩ ⟨tJ,oT,tM⟩ eI ej H = some (v,H')∧aQ.Q H0 Ri R0  r v H'
def aQ.pl61 (F:Nat) :Nat→Int→List Int→List Int→List Int→Int→Int→Option (List Int)
 | 0,_,_,_,_,_,_=>none
 | k + 1,dq,iW,iX,jI,eI,ej=>(bif (decide (ej < eI)) then ((ix iW (IntKind.i64.wrap ((IntKind.i64.wrap (4 * ej)) + 1))).bind fun n1=>(ix iX (gt iW n1)).bind fun n2=>(bG.p F ((gt iX n2) == dq)).bind fun r3=>(apn jI ([(IntKind.i64.wrap ((IntKind.i64.wrap (2 * r3)) - 1))]:List Int)).bind fun l6=>aQ.pl61 F k dq iW iX l6 eI (IntKind.i64.wrap (ej + 1))) else (some jI))
termination_by structural n=>n
theorem aQ.l61_P {F:Nat} {H0:Hp} {Ri R0:List Rs}  :∀ k,aQ.S61 H0 Ri R0  (aQ.l61 F (ap.tw F) (af.tw F) (bG.tw F)  k) (aQ.pl61 F  k):=by
 intro k
 induction k with
 | zero=>
  intro dq eI ej tH tI tJ oR oS oT tK tL tM iW iX jI tO tP tQ H Dd De Df h0 r hp
  exact nomatch (show (none:Option (List Int)) = some r from hp)
 | succ k ih=>
  intro dq eI ej tH tI tJ oR oS oT tK tL tM iW iX jI tO tP tQ H Dd De Df h0 r hp
  obtain ⟨w0,s0,Dg,Dh,Di⟩:=h0
  subst Dd
  subst De
  subst Df
  unfold aQ.pl61 at hp
  unfold aQ.l61
  refine bif_ex (fun hb=>?_) (fun hb=>?_)
  ·replace hp:=bif_t hb hp
   obtain ⟨n1,g1,hp⟩:=bind_some' hp
   obtain ⟨p1,q1,i1,h1,j1⟩:=W.ixo (E:=(eInt .i64)) w0 (i:=0) rfl rfl Dg g1
   refine bind_ex i1 ?_
   have h1:_ = [_]:=h1
   subst h1
   refine bind_ex (ldI_of (j1 0 _ rfl)) ?_
   obtain ⟨n2,g2,hp⟩:=bind_some' hp
   obtain ⟨p2,q2,i2,h2,j2⟩:=W.ixo (E:=(eInt .i64)) w0 (i:=1) rfl rfl Dh g2
   refine bind_ex i2 ?_
   have h2:_ = [_]:=h2
   subst h2
   refine bind_ex (ldI_of (j2 0 _ rfl)) ?_
   obtain ⟨r3,e3,hp⟩:=bind_some' hp
   refine call_ex (bG.P ⟨w0,trivial⟩ e3) ?_
   rintro _ H4 ⟨rfl,w4,s4,_⟩
   refine bind_ex rfl ?_
   refine newS_k (eInt .i64) w4 (n:=1) (l:=([(IntKind.i64.wrap ((IntKind.i64.wrap (2 * r3)) - 1))]:List Int)) rfl (CR.cons1 rfl CR.empty) rfl fun H5 w5 s5 c5=>?_
   refine bind_ex (w5.rowo (i:=0) rfl) ?_
   obtain ⟨l6,e6,hp⟩:=bind_some' hp
   refine app_k (eInt .i64) w5 (i:=3) rfl rfl (Di.step (s4.trans s5)) c5 (show 1 = List.length ([(IntKind.i64.wrap ((IntKind.i64.wrap (2 * r3)) - 1))]:List Int) from rfl) rfl e6 fun a7 d7 H7 w7 s7 c7 x7=>?_
   dsimp only [List.set] at w7 s7 c7
   obtain ⟨w8,s8⟩:=w7.pick' [1,2,3] 4 rfl rfl rfl
   dsimp only [pk,pks,nth,List.drop] at w8 s8
   exact ih rfl rfl rfl ⟨w8,(s0.trans (s4.trans (s5.trans (s7.trans s8)))),(Dg.step (s4.trans (s5.trans (s7.trans s8)))),(Dh.step (s4.trans (s5.trans (s7.trans s8)))),(c7.step s8)⟩ hp
  ·replace hp:=bif_f hb hp
   obtain ⟨w9,s9⟩:=w0.pick' [2] 3 rfl rfl rfl
   dsimp only [pk,pks,nth,List.drop] at w9 s9
   obtain rfl:=Option.some.inj hp
   exact ⟨_,_,rfl,_,_,_,_,rfl,rfl,w9,(s0.trans s9),(Di.step s9)⟩
def aQ.p (F:Nat) (ad:List (Int×Int×Int×Int×Int)) (bP:List (Int×Int)) (bW:List (Int×Int)) (cj:Int):Option (List Int):=(ap.p F ad bP bW).bind fun r3=>(af.p F ad bP bW).bind fun r6=>aQ.pl61 F F cj r3 r6 ([]:List Int) (ad.length:Int) 0
theorem aQ.P {F:Nat} {ax eo fh:ON} {aq cM dr:Nat} {ay ep fi:Cap} {ad:List (Int×Int×Int×Int×Int)} {ab cj:Int} {bP bW:List (Int×Int)} {H:Hp} {R0:List Rs} (bd:aq = ad.length) (gp:cM = bP.length) (ie:dr = bW.length) (h0:Inn H R0 fun R=>ROs (ePair (eInt .i64) (ePair (eInt .i64) (ePair (eInt .i64) (ePair (eInt .i64) (eInt .i64))))) H R ⟨ax,aq,ay⟩ ad∧ROs (ePair (eInt .i64) (eInt .i64)) H R ⟨eo,cM,ep⟩ bP∧ROs (ePair (eInt .i64) (eInt .i64)) H R ⟨fh,dr,fi⟩ bW) {r:List Int} (hp:aQ.p F ad bP bW cj = some r):∃ v H',aQ.tw F ⟨ax,aq,ay⟩ ab ⟨eo,cM,ep⟩ ⟨fh,dr,fi⟩ cj H = some (v,H')∧aQ.Q H R0 R0  r v H':=by
 obtain ⟨w0,aM,fu,fQ⟩:=h0
 subst bd
 subst gp
 subst ie
 unfold aQ.p at hp
 unfold aQ.tw aQ.twX
 have s0:=w0.rf
 refine new_k w0 fun H1 w1 s1=>?_
 refine new_k w1 fun H2 w2 s2=>?_
 refine bind_ex (ldSl_of (w2.ld (i:=1) rfl rfl)) ?_
 refine bind_ex (ldI_of (w2.ld (i:=1) rfl rfl)) ?_
 refine bind_ex (ldSl_of (w2.ld (i:=0) rfl rfl)) ?_
 refine bind_ex (ldSl_of (w2.ld (i:=0) rfl rfl)) ?_
 obtain ⟨r3,e3,hp⟩:=bind_some' hp
 refine call_ex (ap.P rfl rfl rfl ⟨w2,(aM.step (s1.trans s2)),(fu.step (s1.trans s2)),(fQ.step (s1.trans s2))⟩ e3) ?_
 rintro _ H4 ⟨o0a_4,o0n_4,o0c_4,o0k_4,rfl,rfl,w4,s4,f4_0⟩
 refine bind_ex rfl ?_
 refine ifs_ex (W.cons_of (Rn:=[_]) w2 w4 s4) ?_
 refine bind_ex (ldSl_of (w4.ld (i:=2) rfl rfl)) ?_
 refine bind_ex (ldI_of (w4.ld (i:=2) rfl rfl)) ?_
 refine bind_ex (ldSl_of (w4.ld (i:=1) rfl rfl)) ?_
 refine bind_ex (ldSl_of (w4.ld (i:=1) rfl rfl)) ?_
 obtain ⟨r6,e6,hp⟩:=bind_some' hp
 refine call_ex (af.P rfl rfl rfl ⟨w4,(aM.step (s1.trans (s2.trans s4))),(fu.step (s1.trans (s2.trans s4))),(fQ.step (s1.trans (s2.trans s4)))⟩ e6) ?_
 rintro _ H7 ⟨o0a_7,o0n_7,o0c_7,o0k_7,rfl,rfl,w7,s7,f7_0⟩
 refine bind_ex rfl ?_
 refine bind_ex (ldSl_of (w7.ld (i:=3) rfl rfl)) ?_
 obtain ⟨w8,s8⟩:=w7.nilS (eInt .i64).z (by decide)
 obtain ⟨w9,s9⟩:=w8.pick' [2,1,0] 5 rfl rfl rfl
 dsimp only [pk,pks,nth,List.drop] at w9 s9
 exact aQ.l61_P F rfl rfl rfl ⟨w9,(s0.trans (s1.trans (s2.trans (s4.trans (s7.trans (s8.trans s9)))))),(f4_0.step (s7.trans (s8.trans s9))),(f7_0.step (s8.trans s9)),((CR.empty:CR (eInt .i64) _ _ [] []).step s9)⟩ hp
def bz.Q (H0:Hp) (Ri R0:List Rs)  (r:Int×Int) (v:AV) (H':Hp):Prop:=v = (.tup [(.int .i64 r.1),(.int .i64 r.2)])∧Out H0 Ri H' (R0) fun R=>True
def bz.p (F:Nat) (ad:List (Int×Int×Int×Int×Int)) (ab:Int) (ah:Int) (bb:Int):Option (Int×Int):=(bn.p F ad ab).bind fun r2=>(bif (!r2.2.2) then (some (0,1)) else ((bE.p F ad ah).bind fun r8=>(bif (!r8) then (some (0,4)) else ((bF.p F bb).bind fun r11=>(bif (!r11) then (some (0,2)) else ((aQ.p F ad r2.1 r2.2.1 bb).bind fun r14=>(ix r14 ah).bind fun n16=>some ((gt r14 n16),0)))))))
theorem bz.P {F:Nat} {ax:ON} {aq:Nat} {ay:Cap} {ad:List (Int×Int×Int×Int×Int)} {ab ah bb:Int} {H:Hp} {R0:List Rs} (bd:aq = ad.length) (h0:Inn H R0 fun R=>ROs (ePair (eInt .i64) (ePair (eInt .i64) (ePair (eInt .i64) (ePair (eInt .i64) (eInt .i64))))) H R ⟨ax,aq,ay⟩ ad) {r:Int×Int} (hp:bz.p F ad ab ah bb = some r):∃ v H',bz.tw F ⟨ax,aq,ay⟩ ab ah bb H = some (v,H')∧bz.Q H R0 R0  r v H':=by
 obtain ⟨w0,aM⟩:=h0
 subst bd
 unfold bz.p at hp
 unfold bz.tw bz.twX
 have s0:=w0.rf
 refine new_k w0 fun H1 w1 s1=>?_
 refine bind_ex (ldSl_of (w1.ld (i:=0) rfl rfl)) ?_
 refine bind_ex (ldI_of (w1.ld (i:=0) rfl rfl)) ?_
 obtain ⟨r2,e2,hp⟩:=bind_some' hp
 refine call_ex (bn.P rfl ⟨w1,(aM.step s1)⟩ e2) ?_
 rintro _ H3 ⟨o0a_3,o0n_3,o0c_3,o1a_3,o1n_3,o1c_3,rfl,rfl,rfl,w3,s3,f3_0,f3_1⟩
 refine bind_ex rfl ?_
 refine bind_ex rfl ?_
 refine bind_ex rfl ?_
 refine bind_ex rfl ?_
 refine bind_ex rfl ?_
 refine bind_ex rfl ?_
 refine bind_ex rfl ?_
 refine bind_ex rfl ?_
 refine bind_ex rfl ?_
 refine new_k w3 fun H4 w4 s4=>?_
 refine st_k w4 (i:=0) rfl rfl rfl fun H5 w5 s5=>?_
 dsimp only [List.set] at w5 s5
 refine st_k w5 (i:=0) rfl rfl rfl fun H6 w6 s6=>?_
 dsimp only [List.set] at w6 s6
 refine bif_ex (fun hb=>?_) (fun hb=>?_)
 ·replace hp:=bif_t hb hp
  obtain ⟨w7,s7⟩:=w6.pick' [] 2 rfl rfl rfl
  dsimp only [pk,pks,nth,List.drop] at w7 s7
  obtain rfl:=Option.some.inj hp
  exact ⟨_,_,rfl,rfl,w7,(s0.trans (s1.trans (s3.trans (s4.trans (s5.trans (s6.trans s7)))))),trivial⟩
 ·replace hp:=bif_f hb hp
  refine bind_ex (ldSl_of (w6.ld (i:=1) rfl rfl)) ?_
  obtain ⟨r8,e8,hp⟩:=bind_some' hp
  refine call_ex (bE.P rfl ⟨w6,(aM.step (s1.trans (s3.trans (s4.trans (s5.trans s6)))))⟩ e8) ?_
  rintro _ H9 ⟨rfl,w9,s9,_⟩
  refine bind_ex rfl ?_
  refine bif_ex (fun hb=>?_) (fun hb=>?_)
  ·replace hp:=bif_t hb hp
   obtain ⟨w10,s10⟩:=w9.pick' [] 2 rfl rfl rfl
   dsimp only [pk,pks,nth,List.drop] at w10 s10
   obtain rfl:=Option.some.inj hp
   exact ⟨_,_,rfl,rfl,w10,(s0.trans (s1.trans (s3.trans (s4.trans (s5.trans (s6.trans (s9.trans s10))))))),trivial⟩
  ·replace hp:=bif_f hb hp
   obtain ⟨r11,e11,hp⟩:=bind_some' hp
   refine call_ex (bF.P ⟨w9,trivial⟩ e11) ?_
   rintro _ H12 ⟨rfl,w12,s12,_⟩
   refine bind_ex rfl ?_
   refine bif_ex (fun hb=>?_) (fun hb=>?_)
   ·replace hp:=bif_t hb hp
    obtain ⟨w13,s13⟩:=w12.pick' [] 2 rfl rfl rfl
    dsimp only [pk,pks,nth,List.drop] at w13 s13
    obtain rfl:=Option.some.inj hp
    exact ⟨_,_,rfl,rfl,w13,(s0.trans (s1.trans (s3.trans (s4.trans (s5.trans (s6.trans (s9.trans (s12.trans s13)))))))),trivial⟩
   ·replace hp:=bif_f hb hp
    refine bind_ex (ldSl_of (w12.ld (i:=1) rfl rfl)) ?_
    refine bind_ex (ldI_of (w12.ld (i:=1) rfl rfl)) ?_
    refine bind_ex (ldSl_of (w12.ld (i:=0) rfl rfl)) ?_
    refine bind_ex (ldSl_of (w12.ld (i:=0) rfl rfl)) ?_
    obtain ⟨r14,e14,hp⟩:=bind_some' hp
    refine call_ex (aQ.P rfl rfl rfl ⟨w12,(aM.step (s1.trans (s3.trans (s4.trans (s5.trans (s6.trans (s9.trans s12))))))),(f3_0.step (s4.trans (s5.trans (s6.trans (s9.trans s12))))),(f3_1.step (s4.trans (s5.trans (s6.trans (s9.trans s12)))))⟩ e14) ?_
    rintro _ H15 ⟨o0a_15,o0n_15,o0c_15,o0k_15,rfl,rfl,w15,s15,f15_0⟩
    refine bind_ex rfl ?_
    obtain ⟨n16,g16,hp⟩:=bind_some' hp
    obtain ⟨p16,q16,i16,h16,j16⟩:=W.ixo (E:=(eInt .i64)) w15 (i:=0) rfl rfl f15_0 g16
    refine bind_ex i16 ?_
    have h16:_ = [_]:=h16
    subst h16
    refine bind_ex (ldI_of (j16 0 _ rfl)) ?_
    obtain ⟨w17,s17⟩:=w15.pick' [] 3 rfl rfl rfl
    dsimp only [pk,pks,nth,List.drop] at w17 s17
    obtain rfl:=Option.some.inj hp
    exact ⟨_,_,rfl,rfl,w17,(s0.trans (s1.trans (s3.trans (s4.trans (s5.trans (s6.trans (s9.trans (s12.trans (s15.trans s17))))))))),trivial⟩
def bH.Q (H0:Hp) (Ri R0:List Rs)  (r:Bool) (v:AV) (H':Hp):Prop:=v = (.bool r)∧Out H0 Ri H' (R0) fun R=>True
def bH.p (F:Nat) (aa:Int) (ab:Int) (aA:Int) (aB:Int) (az:Int) (bc:Int) (fd:Int) (fe:Int) (ff:Int) (fg:Int):Option (Bool):=(bif (aa != bc) then (some false) else ((bif (ab != fd) then (some false) else ((bif (aA != fe) then (some false) else ((bif (aB != ff) then (some false) else ((bif (az != fg) then (some false) else (some true))))))))))
theorem bH.P {F:Nat} {aa ab aA aB az bc fd fe ff fg:Int} {H:Hp} {R0:List Rs}  (h0:Inn H R0 fun R=>True) {r:Bool} (hp:bH.p F aa ab aA aB az bc fd fe ff fg = some r):∃ v H',bH.tw F aa ab aA aB az bc fd fe ff fg H = some (v,H')∧bH.Q H R0 R0  r v H':=by
 obtain ⟨w0,_⟩:=h0
 unfold bH.p at hp
 unfold bH.tw bH.twX
 have s0:=w0.rf
 refine new_k w0 fun H1 w1 s1=>?_
 refine new_k w1 fun H2 w2 s2=>?_
 refine bind_ex (ldI_of (w2.ld (i:=1) rfl rfl)) ?_
 refine bind_ex (ldI_of (w2.ld (i:=0) rfl rfl)) ?_
 refine bif_ex (fun hb=>?_) (fun hb=>?_)
 ·replace hp:=bif_t hb hp
  obtain ⟨w3,s3⟩:=w2.pick' [] 2 rfl rfl rfl
  dsimp only [pk,pks,nth,List.drop] at w3 s3
  obtain rfl:=Option.some.inj hp
  exact ⟨_,_,rfl,rfl,w3,(s0.trans (s1.trans (s2.trans s3))),trivial⟩
 ·replace hp:=bif_f hb hp
  refine bind_ex (ldI_of (w2.ld (i:=1) rfl rfl)) ?_
  refine bind_ex (ldI_of (w2.ld (i:=0) rfl rfl)) ?_
  refine bif_ex (fun hb=>?_) (fun hb=>?_)
  ·replace hp:=bif_t hb hp
   obtain ⟨w4,s4⟩:=w2.pick' [] 2 rfl rfl rfl
   dsimp only [pk,pks,nth,List.drop] at w4 s4
   obtain rfl:=Option.some.inj hp
   exact ⟨_,_,rfl,rfl,w4,(s0.trans (s1.trans (s2.trans s4))),trivial⟩
  ·replace hp:=bif_f hb hp
   refine bind_ex (ldI_of (w2.ld (i:=1) rfl rfl)) ?_
   refine bind_ex (ldI_of (w2.ld (i:=0) rfl rfl)) ?_
   refine bif_ex (fun hb=>?_) (fun hb=>?_)
   ·replace hp:=bif_t hb hp
    obtain ⟨w5,s5⟩:=w2.pick' [] 2 rfl rfl rfl
    dsimp only [pk,pks,nth,List.drop] at w5 s5
    obtain rfl:=Option.some.inj hp
    exact ⟨_,_,rfl,rfl,w5,(s0.trans (s1.trans (s2.trans s5))),trivial⟩
   ·replace hp:=bif_f hb hp
    refine bind_ex (ldI_of (w2.ld (i:=1) rfl rfl)) ?_
    refine bind_ex (ldI_of (w2.ld (i:=0) rfl rfl)) ?_
    refine bif_ex (fun hb=>?_) (fun hb=>?_)
    ·replace hp:=bif_t hb hp
     obtain ⟨w6,s6⟩:=w2.pick' [] 2 rfl rfl rfl
     dsimp only [pk,pks,nth,List.drop] at w6 s6
     obtain rfl:=Option.some.inj hp
     exact ⟨_,_,rfl,rfl,w6,(s0.trans (s1.trans (s2.trans s6))),trivial⟩
    ·replace hp:=bif_f hb hp
     refine bind_ex (ldI_of (w2.ld (i:=1) rfl rfl)) ?_
     refine bind_ex (ldI_of (w2.ld (i:=0) rfl rfl)) ?_
     refine bif_ex (fun hb=>?_) (fun hb=>?_)
     ·replace hp:=bif_t hb hp
      obtain ⟨w7,s7⟩:=w2.pick' [] 2 rfl rfl rfl
      dsimp only [pk,pks,nth,List.drop] at w7 s7
      obtain rfl:=Option.some.inj hp
      exact ⟨_,_,rfl,rfl,w7,(s0.trans (s1.trans (s2.trans s7))),trivial⟩
     ·replace hp:=bif_f hb hp
      obtain ⟨w8,s8⟩:=w2.pick' [] 2 rfl rfl rfl
      dsimp only [pk,pks,nth,List.drop] at w8 s8
      obtain rfl:=Option.some.inj hp
      exact ⟨_,_,rfl,rfl,w8,(s0.trans (s1.trans (s2.trans s8))),trivial⟩
def aU.Q (H0:Hp) (Ri R0:List Rs)  (r:Bool) (v:AV) (H':Hp):Prop:=v = (.bool r)∧Out H0 Ri H' (R0) fun R=>True
def aU.S29 (H0:Hp) (Ri R0:List Rs)  (C:Sl→Sl→Int→Hp→OA) (pC:List (Int×Int×Int×Int×Int)→List (Int×Int×Int×Int×Int)→Int→Option (Bool)):Prop:=∀ {iu tR:ON} {hQ oU:Nat} {iv tS:Cap} {cu gv:List (Int×Int×Int×Int×Int)} {dU:Int},∀ {H:Hp},hQ = cu.length→oU = gv.length→(Out H0 Ri H R0 fun R=>ROs (ePair (eInt .i64) (ePair (eInt .i64) (ePair (eInt .i64) (ePair (eInt .i64) (eInt .i64))))) H R ⟨iu,hQ,iv⟩ cu∧ROs (ePair (eInt .i64) (ePair (eInt .i64) (ePair (eInt .i64) (ePair (eInt .i64) (eInt .i64))))) H R ⟨tR,oU,tS⟩ gv)→∀ {r:Bool},pC cu gv dU = some r→∃ v H',C ⟨iu,hQ,iv⟩ ⟨tR,oU,tS⟩ dU H = some (v,H')∧aU.Q H0 Ri R0  r v H'
def aU.pl29 (F:Nat) :Nat→List (Int×Int×Int×Int×Int)→List (Int×Int×Int×Int×Int)→Int→Option (Bool)
 | 0,_,_,_=>none
 | k + 1,cu,gv,dU=>(bif (decide (dU < (cu.length:Int))) then ((ix cu dU).bind fun n1=>(ix gv dU).bind fun n2=>(bH.p F ((gt cu n1).1) ((gt cu n1).2.1) ((gt cu n1).2.2.1) ((gt cu n1).2.2.2.1) ((gt cu n1).2.2.2.2) ((gt gv n2).1) ((gt gv n2).2.1) ((gt gv n2).2.2.1) ((gt gv n2).2.2.2.1) ((gt gv n2).2.2.2.2)).bind fun r3=>(bif (!r3) then (some false) else (aU.pl29 F k cu gv (IntKind.i64.wrap (dU + 1))))) else (some true))
termination_by structural n=>n
theorem aU.l29_P {F:Nat} {H0:Hp} {Ri R0:List Rs}  :∀ k,aU.S29 H0 Ri R0  (aU.l29 F (bH.tw F)  k) (aU.pl29 F  k):=by
 intro k
 induction k with
 | zero=>
  intro iu tR hQ oU iv tS cu gv dU H lv Dj h0 r hp
  exact nomatch (show (none:Option (Bool)) = some r from hp)
 | succ k ih=>
  intro iu tR hQ oU iv tS cu gv dU H lv Dj h0 r hp
  obtain ⟨w0,s0,lw,Dk⟩:=h0
  subst lv
  subst Dj
  unfold aU.pl29 at hp
  unfold aU.l29
  refine bif_ex (fun hb=>?_) (fun hb=>?_)
  ·replace hp:=bif_t hb hp
   obtain ⟨n1,g1,hp⟩:=bind_some' hp
   obtain ⟨p1,q1,i1,h1,j1⟩:=ROs.ixr lw rfl g1
   refine bind_ex i1 ?_
   obtain ⟨_,_,rfl,rfl,_,_,rfl,rfl,_,_,rfl,rfl,_,_,rfl,rfl,rfl⟩:=h1
   refine bind_ex (ldI_of (j1 0 _ rfl)) ?_
   refine bind_ex (ldI_of (j1 1 _ rfl)) ?_
   refine bind_ex (ldI_of (j1 2 _ rfl)) ?_
   refine bind_ex (ldI_of (j1 3 _ rfl)) ?_
   refine bind_ex (ldI_of (j1 4 _ rfl)) ?_
   obtain ⟨n2,g2,hp⟩:=bind_some' hp
   obtain ⟨p2,q2,i2,h2,j2⟩:=ROs.ixr Dk rfl g2
   refine bind_ex i2 ?_
   obtain ⟨_,_,rfl,rfl,_,_,rfl,rfl,_,_,rfl,rfl,_,_,rfl,rfl,rfl⟩:=h2
   refine bind_ex (ldI_of (j2 0 _ rfl)) ?_
   refine bind_ex (ldI_of (j2 1 _ rfl)) ?_
   refine bind_ex (ldI_of (j2 2 _ rfl)) ?_
   refine bind_ex (ldI_of (j2 3 _ rfl)) ?_
   refine bind_ex (ldI_of (j2 4 _ rfl)) ?_
   obtain ⟨r3,e3,hp⟩:=bind_some' hp
   refine call_ex (bH.P ⟨w0,trivial⟩ e3) ?_
   rintro _ H4 ⟨rfl,w4,s4,_⟩
   refine bind_ex rfl ?_
   refine bif_ex (fun hb=>?_) (fun hb=>?_)
   ·replace hp:=bif_t hb hp
    obtain rfl:=Option.some.inj hp
    exact ⟨_,_,rfl,rfl,w4,(s0.trans s4),trivial⟩
   ·replace hp:=bif_f hb hp
    exact ih rfl rfl ⟨w4,(s0.trans s4),(lw.step s4),(Dk.step s4)⟩ hp
  ·replace hp:=bif_f hb hp
   obtain rfl:=Option.some.inj hp
   exact ⟨_,_,rfl,rfl,w0,s0,trivial⟩
def aU.p (F:Nat) (ad:List (Int×Int×Int×Int×Int)) (gj:List (Int×Int×Int×Int×Int)):Option (Bool):=(bif ((ad.length:Int) != (gj.length:Int)) then (some false) else (aU.pl29 F F ad gj 0))
theorem aU.P {F:Nat} {ax nj:ON} {aq jO:Nat} {ay nk:Cap} {ad gj:List (Int×Int×Int×Int×Int)} {H:Hp} {R0:List Rs} (bd:aq = ad.length) (vk:jO = gj.length) (h0:Inn H R0 fun R=>ROs (ePair (eInt .i64) (ePair (eInt .i64) (ePair (eInt .i64) (ePair (eInt .i64) (eInt .i64))))) H R ⟨ax,aq,ay⟩ ad∧ROs (ePair (eInt .i64) (ePair (eInt .i64) (ePair (eInt .i64) (ePair (eInt .i64) (eInt .i64))))) H R ⟨nj,jO,nk⟩ gj) {r:Bool} (hp:aU.p F ad gj = some r):∃ v H',aU.tw F ⟨ax,aq,ay⟩ ⟨nj,jO,nk⟩ H = some (v,H')∧aU.Q H R0 R0  r v H':=by
 obtain ⟨w0,aM,vl⟩:=h0
 subst bd
 subst vk
 unfold aU.p at hp
 unfold aU.tw aU.twX
 have s0:=w0.rf
 refine bif_ex (fun hb=>?_) (fun hb=>?_)
 ·replace hp:=bif_t hb hp
  obtain rfl:=Option.some.inj hp
  exact ⟨_,_,rfl,rfl,w0,s0,trivial⟩
 ·replace hp:=bif_f hb hp
  exact aU.l29_P F rfl rfl ⟨w0,s0,aM,vl⟩ hp
def bA.Q (H0:Hp) (Ri R0:List Rs)  (r:Bool) (v:AV) (H':Hp):Prop:=v = (.bool r)∧Out H0 Ri H' (R0) fun R=>True
def bA.p (F:Nat) (ad:List (Int×Int×Int×Int×Int)) (ab:Int) (bP:List (Int×Int×Int×Int×Int)) (aL:Int):Option (Bool):=(aU.p F ad bP).bind fun r3=>(bif (!r3) then (some false) else ((bif (ab != aL) then (some false) else (some true))))
theorem bA.P {F:Nat} {ax eo:ON} {aq cM:Nat} {ay ep:Cap} {ad bP:List (Int×Int×Int×Int×Int)} {ab aL:Int} {H:Hp} {R0:List Rs} (bd:aq = ad.length) (gp:cM = bP.length) (h0:Inn H R0 fun R=>ROs (ePair (eInt .i64) (ePair (eInt .i64) (ePair (eInt .i64) (ePair (eInt .i64) (eInt .i64))))) H R ⟨ax,aq,ay⟩ ad∧ROs (ePair (eInt .i64) (ePair (eInt .i64) (ePair (eInt .i64) (ePair (eInt .i64) (eInt .i64))))) H R ⟨eo,cM,ep⟩ bP) {r:Bool} (hp:bA.p F ad ab bP aL = some r):∃ v H',bA.tw F ⟨ax,aq,ay⟩ ab ⟨eo,cM,ep⟩ aL H = some (v,H')∧bA.Q H R0 R0  r v H':=by
 obtain ⟨w0,aM,fu⟩:=h0
 subst bd
 subst gp
 unfold bA.p at hp
 unfold bA.tw bA.twX
 have s0:=w0.rf
 refine new_k w0 fun H1 w1 s1=>?_
 refine new_k w1 fun H2 w2 s2=>?_
 refine bind_ex (ldSl_of (w2.ld (i:=1) rfl rfl)) ?_
 refine bind_ex (ldSl_of (w2.ld (i:=0) rfl rfl)) ?_
 obtain ⟨r3,e3,hp⟩:=bind_some' hp
 refine call_ex (aU.P rfl rfl ⟨w2,(aM.step (s1.trans s2)),(fu.step (s1.trans s2))⟩ e3) ?_
 rintro _ H4 ⟨rfl,w4,s4,_⟩
 refine bind_ex rfl ?_
 refine bif_ex (fun hb=>?_) (fun hb=>?_)
 ·replace hp:=bif_t hb hp
  obtain ⟨w5,s5⟩:=w4.pick' [] 2 rfl rfl rfl
  dsimp only [pk,pks,nth,List.drop] at w5 s5
  obtain rfl:=Option.some.inj hp
  exact ⟨_,_,rfl,rfl,w5,(s0.trans (s1.trans (s2.trans (s4.trans s5)))),trivial⟩
 ·replace hp:=bif_f hb hp
  refine bind_ex (ldI_of (w4.ld (i:=1) rfl rfl)) ?_
  refine bind_ex (ldI_of (w4.ld (i:=0) rfl rfl)) ?_
  refine bif_ex (fun hb=>?_) (fun hb=>?_)
  ·replace hp:=bif_t hb hp
   obtain ⟨w6,s6⟩:=w4.pick' [] 2 rfl rfl rfl
   dsimp only [pk,pks,nth,List.drop] at w6 s6
   obtain rfl:=Option.some.inj hp
   exact ⟨_,_,rfl,rfl,w6,(s0.trans (s1.trans (s2.trans (s4.trans s6)))),trivial⟩
  ·replace hp:=bif_f hb hp
   obtain ⟨w7,s7⟩:=w4.pick' [] 2 rfl rfl rfl
   dsimp only [pk,pks,nth,List.drop] at w7 s7
   obtain rfl:=Option.some.inj hp
   exact ⟨_,_,rfl,rfl,w7,(s0.trans (s1.trans (s2.trans (s4.trans s7)))),trivial⟩
def bL.Q (H0:Hp) (Ri R0:List Rs)  (r:Bool) (v:AV) (H':Hp):Prop:=v = (.bool r)∧Out H0 Ri H' (R0) fun R=>True
def bL.p (F:Nat) (ad:List (Int×Int×Int×Int×Int)) (ab:Int) (ah:Int) (bb:Int):Option (Bool):=(bs.p F ad 1048576).bind fun r2=>(bif (decide (r2 < 0)) then (some true) else ((bq.p F ad ab).bind fun r5=>(bw.p F r5.1 r5.2 ah bb).bind fun r8=>(bq.p F ad ab).bind fun r11=>(bz.p F r11.1 r11.2 ah bb).bind fun r18=>(bif (r18.1 != r8.1) then (some false) else ((bif (r18.2 != r8.2) then (some false) else ((bq.p F ad ab).bind fun r23=>(bA.p F r11.1 r11.2 r23.1 r23.2).bind fun r29=>(bif (!r29) then (some false) else (some true))))))))
theorem bL.P {F:Nat} {ax:ON} {aq:Nat} {ay:Cap} {ad:List (Int×Int×Int×Int×Int)} {ab ah bb:Int} {H:Hp} {R0:List Rs} (bd:aq = ad.length) (h0:Inn H R0 fun R=>ROs (ePair (eInt .i64) (ePair (eInt .i64) (ePair (eInt .i64) (ePair (eInt .i64) (eInt .i64))))) H R ⟨ax,aq,ay⟩ ad) {r:Bool} (hp:bL.p F ad ab ah bb = some r):∃ v H',bL.tw F ⟨ax,aq,ay⟩ ab ah bb H = some (v,H')∧bL.Q H R0 R0  r v H':=by
 obtain ⟨w0,aM⟩:=h0
 subst bd
 unfold bL.p at hp
 unfold bL.tw bL.twX
 have s0:=w0.rf
 refine new_k w0 fun H1 w1 s1=>?_
 refine bind_ex (ldSl_of (w1.ld (i:=0) rfl rfl)) ?_
 refine bind_ex (ldI_of (w1.ld (i:=0) rfl rfl)) ?_
 obtain ⟨r2,e2,hp⟩:=bind_some' hp
 refine call_ex (bs.P rfl ⟨w1,(aM.step s1)⟩ e2) ?_
 rintro _ H3 ⟨rfl,w3,s3,_⟩
 refine bind_ex rfl ?_
 refine bif_ex (fun hb=>?_) (fun hb=>?_)
 ·replace hp:=bif_t hb hp
  obtain ⟨w4,s4⟩:=w3.pick' [] 1 rfl rfl rfl
  dsimp only [pk,pks,nth,List.drop] at w4 s4
  obtain rfl:=Option.some.inj hp
  exact ⟨_,_,rfl,rfl,w4,(s0.trans (s1.trans (s3.trans s4))),trivial⟩
 ·replace hp:=bif_f hb hp
  refine bind_ex (ldSl_of (w3.ld (i:=0) rfl rfl)) ?_
  refine bind_ex (ldI_of (w3.ld (i:=0) rfl rfl)) ?_
  obtain ⟨r5,e5,hp⟩:=bind_some' hp
  refine call_ex (bq.P rfl ⟨w3,(aM.step (s1.trans s3))⟩ e5) ?_
  rintro _ H6 ⟨o0a_6,o0n_6,o0c_6,o0k_6,rfl,rfl,w6,s6,f6_0⟩
  refine bind_ex rfl ?_
  refine bind_ex rfl ?_
  refine bind_ex rfl ?_
  refine bind_ex rfl ?_
  refine bind_ex rfl ?_
  have f7:=W.borrow1 (ePair (eInt .i64) (ePair (eInt .i64) (ePair (eInt .i64) (ePair (eInt .i64) (eInt .i64))))) w6 f6_0
  obtain ⟨w7,s7⟩:=w6.right1
  obtain ⟨r8,e8,hp⟩:=bind_some' hp
  refine call_ex (bw.P rfl ⟨w7,f7⟩ e8) ?_
  rintro _ H9 ⟨rfl,w9,s9,_⟩
  obtain ⟨w10,s10⟩:=W.frame1 w6 w9 s9
  refine bind_ex rfl ?_
  refine bind_ex rfl ?_
  refine bind_ex rfl ?_
  refine bind_ex rfl ?_
  refine bind_ex rfl ?_
  refine bind_ex (ldSl_of (w10.ld (i:=1) rfl rfl)) ?_
  refine bind_ex (ldI_of (w10.ld (i:=1) rfl rfl)) ?_
  obtain ⟨r11,e11,hp⟩:=bind_some' hp
  refine call_ex (bq.P rfl ⟨w10,(aM.step (s1.trans (s3.trans (s6.trans s10))))⟩ e11) ?_
  rintro _ H12 ⟨o0a_12,o0n_12,o0c_12,o0k_12,rfl,rfl,w12,s12,f12_0⟩
  refine bind_ex rfl ?_
  refine bind_ex rfl ?_
  refine bind_ex rfl ?_
  refine bind_ex rfl ?_
  refine bind_ex rfl ?_
  refine new_k w12 fun H13 w13 s13=>?_
  refine st_k w13 (i:=0) rfl rfl rfl fun H14 w14 s14=>?_
  dsimp only [List.set] at w14 s14
  refine st_k w14 (i:=0) rfl rfl rfl fun H15 w15 s15=>?_
  dsimp only [List.set] at w15 s15
  refine bind_ex (ldSl_of (w15.ld (i:=0) rfl rfl)) ?_
  refine bind_ex (ldI_of (w15.ld (i:=0) rfl rfl)) ?_
  obtain ⟨w16,s16⟩:=w15.pick' [1,0,2,3] 4 rfl rfl rfl
  dsimp only [pk,pks,nth,List.drop] at w16 s16
  have f17:=W.borrow1 (ePair (eInt .i64) (ePair (eInt .i64) (ePair (eInt .i64) (ePair (eInt .i64) (eInt .i64))))) w16 (f12_0.step (s13.trans (s14.trans (s15.trans s16))))
  obtain ⟨w17,s17⟩:=w16.right1
  obtain ⟨r18,e18,hp⟩:=bind_some' hp
  refine call_ex (bz.P rfl ⟨w17,f17⟩ e18) ?_
  rintro _ H19 ⟨rfl,w19,s19,_⟩
  obtain ⟨w20,s20⟩:=W.frame1 w16 w19 s19
  refine bind_ex rfl ?_
  refine bind_ex rfl ?_
  refine bind_ex rfl ?_
  refine bind_ex rfl ?_
  refine bind_ex rfl ?_
  refine bif_ex (fun hb=>?_) (fun hb=>?_)
  ·replace hp:=bif_t hb hp
   obtain ⟨w21,s21⟩:=w20.pick' [] 4 rfl rfl rfl
   dsimp only [pk,pks,nth,List.drop] at w21 s21
   obtain rfl:=Option.some.inj hp
   exact ⟨_,_,rfl,rfl,w21,(s0.trans (s1.trans (s3.trans (s6.trans (s10.trans (s12.trans (s13.trans (s14.trans (s15.trans (s16.trans (s20.trans s21))))))))))),trivial⟩
  ·replace hp:=bif_f hb hp
   refine bif_ex (fun hb=>?_) (fun hb=>?_)
   ·replace hp:=bif_t hb hp
    obtain ⟨w22,s22⟩:=w20.pick' [] 4 rfl rfl rfl
    dsimp only [pk,pks,nth,List.drop] at w22 s22
    obtain rfl:=Option.some.inj hp
    exact ⟨_,_,rfl,rfl,w22,(s0.trans (s1.trans (s3.trans (s6.trans (s10.trans (s12.trans (s13.trans (s14.trans (s15.trans (s16.trans (s20.trans s22))))))))))),trivial⟩
   ·replace hp:=bif_f hb hp
    refine bind_ex (ldSl_of (w20.ld (i:=1) rfl rfl)) ?_
    refine bind_ex (ldI_of (w20.ld (i:=1) rfl rfl)) ?_
    refine bind_ex (ldSl_of (w20.ld (i:=3) rfl rfl)) ?_
    refine bind_ex (ldI_of (w20.ld (i:=3) rfl rfl)) ?_
    obtain ⟨r23,e23,hp⟩:=bind_some' hp
    refine call_ex (bq.P rfl ⟨w20,(aM.step (s1.trans (s3.trans (s6.trans (s10.trans (s12.trans (s13.trans (s14.trans (s15.trans (s16.trans s20))))))))))⟩ e23) ?_
    rintro _ H24 ⟨o0a_24,o0n_24,o0c_24,o0k_24,rfl,rfl,w24,s24,f24_0⟩
    refine bind_ex rfl ?_
    refine bind_ex rfl ?_
    refine bind_ex rfl ?_
    refine bind_ex rfl ?_
    refine bind_ex rfl ?_
    refine ifs_ex (W.cons_of (Rn:=[_]) w20 w24 s24) ?_
    obtain ⟨w26,s26⟩:=w24.pick' [1,0,2,3,4] 5 rfl rfl rfl
    dsimp only [pk,pks,nth,List.drop] at w26 s26
    have f27:=W.borrow1 (ePair (eInt .i64) (ePair (eInt .i64) (ePair (eInt .i64) (ePair (eInt .i64) (eInt .i64))))) w26 (f12_0.step (s13.trans (s14.trans (s15.trans (s16.trans (s20.trans (s24.trans s26)))))))
    obtain ⟨w27,s27⟩:=w26.right1
    have f28:=W.borrow1 (ePair (eInt .i64) (ePair (eInt .i64) (ePair (eInt .i64) (ePair (eInt .i64) (eInt .i64))))) w27 ((f24_0.step s26).step s27)
    obtain ⟨w28,s28⟩:=w27.right1
    obtain ⟨r29,e29,hp⟩:=bind_some' hp
    refine call_ex (bA.P rfl rfl ⟨w28,(f27.step s28),f28⟩ e29) ?_
    rintro _ H30 ⟨rfl,w30,s30,_⟩
    obtain ⟨w31,s31⟩:=W.frame1 w27 w30 s30
    obtain ⟨w32,s32⟩:=W.frame1 w26 w31 s31
    refine bind_ex rfl ?_
    refine bif_ex (fun hb=>?_) (fun hb=>?_)
    ·replace hp:=bif_t hb hp
     obtain ⟨w33,s33⟩:=w32.pick' [] 5 rfl rfl rfl
     dsimp only [pk,pks,nth,List.drop] at w33 s33
     obtain rfl:=Option.some.inj hp
     exact ⟨_,_,rfl,rfl,w33,(s0.trans (s1.trans (s3.trans (s6.trans (s10.trans (s12.trans (s13.trans (s14.trans (s15.trans (s16.trans (s20.trans (s24.trans (s26.trans (s32.trans s33)))))))))))))),trivial⟩
    ·replace hp:=bif_f hb hp
     obtain ⟨w34,s34⟩:=w32.pick' [] 5 rfl rfl rfl
     dsimp only [pk,pks,nth,List.drop] at w34 s34
     obtain rfl:=Option.some.inj hp
     exact ⟨_,_,rfl,rfl,w34,(s0.trans (s1.trans (s3.trans (s6.trans (s10.trans (s12.trans (s13.trans (s14.trans (s15.trans (s16.trans (s20.trans (s24.trans (s26.trans (s32.trans s34)))))))))))))),trivial⟩
end Go.Proofs.Ythfinhmkgdmelaa.AE
